/-
The law FormTexts, in its second form: any text read as pairs, any pairs printed, and their names, by the program and by the reference, are the same; the pairs stay.
-/
import Derived.Test.YtkaegbamkdgjjaaDoorG14
set_option linter.unusedVariables false
set_option linter.unusedSimpArgs false
namespace Go.Proofs.YtkaegbamkdgjjaaDoor.Pure
open Go.RowKit Go.Proofs.YtkaegbamkdgjjaaDoor.G Go.Proofs.YtkaegbamkdgjjaaDoorW.PrintWords Go.Proofs.YtkaegbamkdgjjaaDoorW.PrintLast
theorem wrap_id {x : Int} (h0 : -9223372036854775808 ≤ x) (h1 : x ≤ 9223372036854775807) : wrap64 x = x := by unfold wrap64; omega
theorem Ev.succ {α : Type} {g : Nat → Option α} {r : α} (h : Ev (fun k => g (k + 1)) r) : Ev g r := Ev.step (fun _ => rfl) h
theorem Ev.konst {α : Type} {o : Option α} {r : α} (h : o = some r) : Ev (fun _ => o) r := ⟨0, fun _ _ => h⟩
theorem Ev.at {α : Type} {g : Nat → Option α} {r : α} (K : Nat) (h : ∀ k, g (k + K) = some r) : Ev g r := ⟨K, fun n hn => by
  obtain ⟨m, rfl⟩ : ∃ m, n = m + K := ⟨n - K, by omega⟩
  exact h m⟩
theorem drop_cons {α : Type} {l : List α} {i : Nat} {c : α} {t : List α} (h : l.drop i = c :: t) : i < l.length ∧ l[i]? = some c ∧ l.drop (i + 1) = t := by
  have h1 : (l.drop i)[0]? = some c := by rw [h]; rfl
  rw [List.getElem?_drop] at h1
  simp only [Nat.add_zero] at h1
  refine ⟨(List.getElem?_eq_some_iff.1 h1).1, h1, ?_⟩
  rw [← List.drop_drop, h]; rfl
theorem drop_nil {α : Type} {l : List α} {i : Nat} (h : l.drop i = []) : l.length ≤ i := by
  simpa using h
theorem rd_of {l : List Int} {i : Nat} {c : Int} (h : l[i]? = some c) : rd l (i : Int) = c := by
  unfold rd; rw [Int.toNat_natCast, List.getD_eq_getElem?_getD, h]; rfl
theorem rdOf_of {α : Type} {d : α} {l : List α} {i : Nat} {c : α} (h : l[i]? = some c) : rdOf d l (i : Int) = c := by
  unfold rdOf; rw [Int.toNat_natCast, List.getD_eq_getElem?_getD, h]; rfl
theorem cast_succ (i : Nat) : ((i : Int) + 1) = ((i + 1 : Nat) : Int) := by omega
theorem Ev.tell {α : Type} {a r : α} (h : a = r) : Ev (fun _ => some a) r := h ▸ Ev.now a
theorem Ev.pos {α : Type} {c : Prop} [Decidable c] {A B : Nat → Option α} {r : α} (h : c) (k : Ev A r) : Ev (fun n => if c then A n else B n) r := Ev.congr (fun _ => if_pos h) k
theorem Ev.neg {α : Type} {c : Prop} [Decidable c] {A B : Nat → Option α} {r : α} (h : ¬ c) (k : Ev B r) : Ev (fun n => if c then A n else B n) r := Ev.congr (fun _ => if_neg h) k
theorem Ev.ite {α : Type} {c : Prop} [Decidable c] {A B : Nat → Option α} {r : α} (h : c → Ev A r) (k : ¬ c → Ev B r) : Ev (fun n => if c then A n else B n) r := by
  by_cases q : c
  · exact Ev.pos q (h q)
  · exact Ev.neg q (k q)
theorem Ev.bnd {α β : Type} {o : Option β} {a : β} {f : Nat → β → Option α} {r : α} (h : o = some a) (k : Ev (fun n => f n a) r) : Ev (fun n => o.bind (f n)) r := by
  subst h; exact k
/-- Is it a sign? -/
def sc (c : Int) : Bool := decide (0 ≤ c ∧ c ≤ 1114111 ∧ (c < 55296 ∨ 57343 < c))
theorem sc_iff {c : Int} : sc c = true ↔ 0 ≤ c ∧ c ≤ 1114111 ∧ (c < 55296 ∨ 57343 < c) := by unfold sc; exact decide_eq_true_iff
/-- A sign's bytes. -/
def en (c : Int) : List Int :=
  if c < 128 then [c] else if c < 2048 then [192 + c / 64, 128 + c % 64]
  else if c < 65536 then [224 + c / 4096, 128 + c / 64 % 64, 128 + c % 64]
  else [240 + c / 262144, 128 + c / 4096 % 64, 128 + c / 64 % 64, 128 + c % 64]
theorem en_len (c : Int) : 1 ≤ (en c).length ∧ (en c).length ≤ 4 := by
  unfold en; (repeat' split) <;> simp
def ens (l : List Int) : List Int := l.flatMap en
theorem ens_len : ∀ l : List Int, l.length ≤ (ens l).length ∧ (ens l).length ≤ 4 * l.length
  | [] => by simp [ens]
  | c :: t => by
    have h := ens_len t
    have h1 := en_len c
    simp only [ens, List.flatMap_cons, List.length_append, List.length_cons] at h ⊢
    omega
/-- Encode, as the program tells it: signs' bytes behind others, or nothing and 1. -/
def encR : List Int → List Int → List Int × Int
  | acc, [] => (acc, 0)
  | acc, c :: t => if sc c then encR (acc ++ en c) t else ([], 1)
theorem encR_ok : ∀ (l acc : List Int), (∀ c ∈ l, sc c = true) → encR acc l = (acc ++ ens l, 0)
  | [], acc, _ => by simp [encR, ens]
  | c :: t, acc, h => by
    rw [encR, if_pos (h c (by simp)), encR_ok t _ (fun x hx => h x (by simp [hx]))]
    simp [ens]
theorem encR_or : ∀ (l acc : List Int), (∀ c ∈ l, sc c = true) ∨ encR acc l = ([], 1)
  | [], acc => .inl (by simp)
  | c :: t, acc => by
    by_cases hc : sc c = true
    · rcases encR_or t (acc ++ en c) with h | h
      · exact .inl (fun x hx => (List.mem_cons.1 hx).elim (fun e => e ▸ hc) (fun hx => h x hx))
      · exact .inr (by rw [encR, if_pos hc]; exact h)
    · exact .inr (by rw [encR, if_neg hc])
/-- What a first byte tells. -/
def ld (x : Int) : Int × Int × Int :=
  if x < 128 then (0, 0, 0) else if 194 ≤ x ∧ x ≤ 223 then (1, 128, 191) else if x = 224 then (2, 160, 191)
  else if x = 237 then (2, 128, 159) else if 225 ≤ x ∧ x ≤ 239 then (2, 128, 191) else if x = 240 then (3, 144, 191)
  else if x = 244 then (3, 128, 143) else if 241 ≤ x ∧ x ≤ 243 then (3, 128, 191) else (-1, 0, 0)
/-- The bytes behind it. -/
def ct : List Int → Nat → Int → Int → Int → Int → Int × Int × Bool
  | _, 0, _, _, acc, i => (acc, i, true)
  | [], _ + 1, _, _, _, i => (65533, i, false)
  | y :: t, m + 1, lo, hi, acc, i => if y < lo ∨ y > hi then (65533, i, false) else ct t m 128 191 (acc * 64 + y % 64) (i + 1)
def nx : List Int → Int × Int × Bool
  | [] => (0, 0, false)
  | x :: t => if (ld x).1 < 0 then (65533, 1, false) else if (ld x).1 = 0 then (x, 1, true)
    else ct t (ld x).1.toNat (ld x).2.1 (ld x).2.2 (if (ld x).1 = 1 then x % 32 else if (ld x).1 = 2 then x % 16 else x % 8) 1
def bytes (b : List Int) : Prop := ∀ x ∈ b, 0 ≤ x ∧ x < 256
theorem bytes_drop {b : List Int} (h : bytes b) (n : Nat) : bytes (b.drop n) := fun x hx => h x (List.mem_of_mem_drop hx)
theorem ct_false : ∀ (t : List Int) (m : Nat) (lo hi acc i : Int), (ct t m lo hi acc i).2.2 = false → (ct t m lo hi acc i).1 = 65533 ∧ i ≤ (ct t m lo hi acc i).2.1 ∧ (ct t m lo hi acc i).2.1 ≤ i + t.length
  | _, 0, _, _, _, _ => by simp [ct]
  | [], m + 1, lo, hi, acc, i => by simp [ct]
  | y :: t, m + 1, lo, hi, acc, i => by
    by_cases h : y < lo ∨ y > hi
    · rw [ct, if_pos h]; intro _; refine ⟨rfl, Int.le_refl _, by simp only [List.length_cons]; omega⟩
    · simp only [ct, if_neg h]; intro e
      obtain ⟨h1, h2, h3⟩ := ct_false t m 128 191 _ (i + 1) e
      exact ⟨h1, by omega, by simp only [List.length_cons]; omega⟩
/-- What is none: another one stands in its place, and one byte at least is taken. -/
theorem nx_false {b : List Int} (hb : b ≠ []) (h : (nx b).2.2 = false) : (nx b).1 = 65533 ∧ 1 ≤ (nx b).2.1 ∧ (nx b).2.1 ≤ b.length := by
  cases b with
  | nil => exact absurd rfl hb
  | cons x t =>
    by_cases h1 : (ld x).1 < 0
    · rw [nx, if_pos h1]; exact ⟨rfl, Int.le_refl _, by simp only [List.length_cons]; omega⟩
    · by_cases h2 : (ld x).1 = 0
      · simp only [nx, if_neg h1, if_pos h2] at h; exact absurd h (by simp)
      · simp only [nx, if_neg h1, if_neg h2] at h ⊢
        obtain ⟨a, b, c⟩ := ct_false _ _ _ _ _ _ h
        exact ⟨a, b, by simp only [List.length_cons]; omega⟩
theorem ld_cases (x : Int) (h0 : 0 ≤ x) (h1 : x < 256) : (x < 128 ∧ ld x = (0, 0, 0)) ∨ ((194 ≤ x ∧ x ≤ 223) ∧ ld x = (1, 128, 191)) ∨ (x = 224 ∧ ld x = (2, 160, 191)) ∨ (x = 237 ∧ ld x = (2, 128, 159))
    ∨ ((225 ≤ x ∧ x ≤ 239 ∧ x ≠ 237) ∧ ld x = (2, 128, 191)) ∨ (x = 240 ∧ ld x = (3, 144, 191)) ∨ (x = 244 ∧ ld x = (3, 128, 143)) ∨ ((241 ≤ x ∧ x ≤ 243) ∧ ld x = (3, 128, 191)) ∨ (((128 ≤ x ∧ x < 194) ∨ 244 < x) ∧ ld x = (-1, 0, 0)) := by
  have h : x < 128 ∨ (194 ≤ x ∧ x ≤ 223) ∨ x = 224 ∨ x = 237 ∨ (225 ≤ x ∧ x ≤ 239 ∧ x ≠ 237) ∨ x = 240 ∨ x = 244 ∨ (241 ≤ x ∧ x ≤ 243) ∨ ((128 ≤ x ∧ x < 194) ∨ 244 < x) := by omega
  unfold ld
  rcases h with h | h | h | h | h | h | h | h | h
  · exact .inl ⟨h, if_pos h⟩
  · exact .inr (.inl ⟨h, by rw [if_neg (by omega), if_pos h]⟩)
  · exact .inr (.inr (.inl ⟨h, by rw [if_neg (by omega), if_neg (by omega), if_pos h]⟩))
  · exact .inr (.inr (.inr (.inl ⟨h, by rw [if_neg (by omega), if_neg (by omega), if_neg (by omega), if_pos h]⟩)))
  · exact .inr (.inr (.inr (.inr (.inl ⟨h, by rw [if_neg (by omega), if_neg (by omega), if_neg (by omega), if_neg (by omega), if_pos (by omega)]⟩))))
  · exact .inr (.inr (.inr (.inr (.inr (.inl ⟨h, by rw [if_neg (by omega), if_neg (by omega), if_neg (by omega), if_neg (by omega), if_neg (by omega), if_pos h]⟩)))))
  · exact .inr (.inr (.inr (.inr (.inr (.inr (.inl ⟨h, by rw [if_neg (by omega), if_neg (by omega), if_neg (by omega), if_neg (by omega), if_neg (by omega), if_neg (by omega), if_pos h]⟩))))))
  · exact .inr (.inr (.inr (.inr (.inr (.inr (.inr (.inl ⟨h, by rw [if_neg (by omega), if_neg (by omega), if_neg (by omega), if_neg (by omega), if_neg (by omega), if_neg (by omega), if_neg (by omega), if_pos h]⟩)))))))
  · exact .inr (.inr (.inr (.inr (.inr (.inr (.inr (.inr ⟨h, by rw [if_neg (by omega), if_neg (by omega), if_neg (by omega), if_neg (by omega), if_neg (by omega), if_neg (by omega), if_neg (by omega), if_neg (by omega)]⟩)))))))
theorem nx0 {x : Int} {lo hi : Int} (t : List Int) (h : ld x = (0, lo, hi)) : nx (x :: t) = (x, 1, true) := by simp [nx, h]
theorem nxm {x : Int} {lo hi : Int} (t : List Int) (h : ld x = (-1, lo, hi)) : nx (x :: t) = (65533, 1, false) := by simp [nx, h]
theorem nx1 {x : Int} {lo hi : Int} (t : List Int) (h : ld x = (1, lo, hi)) : nx (x :: t) = ct t 1 lo hi (x % 32) 1 := by simp [nx, h]
theorem nx2 {x : Int} {lo hi : Int} (t : List Int) (h : ld x = (2, lo, hi)) : nx (x :: t) = ct t 2 lo hi (x % 16) 1 := by simp [nx, h]
theorem nx3 {x : Int} {lo hi : Int} (t : List Int) (h : ld x = (3, lo, hi)) : nx (x :: t) = ct t 3 lo hi (x % 8) 1 := by simp [nx, h]
theorem ct_step {y lo hi : Int} (t : List Int) (m : Nat) (a i : Int) (h0 : lo ≤ y) (h1 : y ≤ hi) : ct (y :: t) (m + 1) lo hi a i = ct t m 128 191 (a * 64 + y % 64) (i + 1) := by
  rw [ct, if_neg (by omega)]
theorem ct_end (t : List Int) (lo hi a i : Int) : ct t 0 lo hi a i = (a, i, true) := by cases t <;> rfl
theorem ct_true {t : List Int} {m : Nat} {lo hi a i : Int} (h : (ct t (m + 1) lo hi a i).2.2 = true) : ∃ y t', t = y :: t' ∧ lo ≤ y ∧ y ≤ hi ∧ ct t (m + 1) lo hi a i = ct t' m 128 191 (a * 64 + y % 64) (i + 1) := by
  cases t with
  | nil => simp [ct] at h
  | cons y t =>
    by_cases c : y < lo ∨ y > hi
    · rw [ct, if_pos c] at h; simp at h
    · exact ⟨y, t, rfl, by omega, by omega, by rw [ct, if_neg c]⟩
theorem en1 {c : Int} (h : c < 128) : en c = [c] := by unfold en; rw [if_pos h]
theorem en2 {c : Int} (h : 128 ≤ c) (h1 : c < 2048) : en c = [192 + c / 64, 128 + c % 64] := by unfold en; rw [if_neg (by omega), if_pos h1]
theorem en3 {c : Int} (h : 2048 ≤ c) (h1 : c < 65536) : en c = [224 + c / 4096, 128 + c / 64 % 64, 128 + c % 64] := by unfold en; rw [if_neg (by omega), if_neg (by omega), if_pos h1]
theorem en4 {c : Int} (h : 65536 ≤ c) : en c = [240 + c / 262144, 128 + c / 4096 % 64, 128 + c / 64 % 64, 128 + c % 64] := by unfold en; rw [if_neg (by omega), if_neg (by omega), if_neg (by omega)]
/-- What is one: it is a sign, and its bytes are those that are taken. -/
theorem nx_true {b : List Int} (hy : bytes b) (h : (nx b).2.2 = true) : sc (nx b).1 = true ∧ b = en (nx b).1 ++ b.drop (nx b).2.1.toNat ∧ (nx b).2.1 = ((en (nx b).1).length : Int) := by
  cases b with
  | nil => simp [nx] at h
  | cons x t =>
    have hx := hy x (by simp)
    have two : ∀ {lo hi : Int}, ld x = (2, lo, hi) → 224 ≤ x → x ≤ 239 → 128 ≤ lo → hi ≤ 191 → (x = 224 → 160 ≤ lo) → (x = 237 → hi ≤ 159) → sc (nx (x :: t)).1 = true ∧ x :: t = en (nx (x :: t)).1 ++ (x :: t).drop (nx (x :: t)).2.1.toNat ∧ (nx (x :: t)).2.1 = ((en (nx (x :: t)).1).length : Int) := by
      intro lo hi hl g0 g1 g2 g3 g4 g5
      rw [nx2 t hl] at h ⊢
      obtain ⟨y, t1, rfl, a0, a1, e1⟩ := ct_true h
      rw [e1] at h ⊢
      obtain ⟨z, t2, rfl, b0, b1, e2⟩ := ct_true h
      rw [e2, ct_end]
      have E := en3 (c := (x % 16 * 64 + y % 64) * 64 + z % 64) (by omega) (by omega)
      refine ⟨sc_iff.2 (by omega), ?_, by rw [E]; rfl⟩
      rw [E]
      simp only [List.cons_append, List.nil_append]
      exact List.cons_eq_cons.2 ⟨by omega, List.cons_eq_cons.2 ⟨by omega, List.cons_eq_cons.2 ⟨by omega, rfl⟩⟩⟩
    have three : ∀ {lo hi : Int}, ld x = (3, lo, hi) → 240 ≤ x → x ≤ 244 → 128 ≤ lo → hi ≤ 191 → (x = 240 → 144 ≤ lo) → (x = 244 → hi ≤ 143) → sc (nx (x :: t)).1 = true ∧ x :: t = en (nx (x :: t)).1 ++ (x :: t).drop (nx (x :: t)).2.1.toNat ∧ (nx (x :: t)).2.1 = ((en (nx (x :: t)).1).length : Int) := by
      intro lo hi hl g0 g1 g2 g3 g4 g5
      rw [nx3 t hl] at h ⊢
      obtain ⟨y, t1, rfl, a0, a1, e1⟩ := ct_true h
      rw [e1] at h ⊢
      obtain ⟨z, t2, rfl, b0, b1, e2⟩ := ct_true h
      rw [e2] at h ⊢
      obtain ⟨w, t3, rfl, c0, c1, e3⟩ := ct_true h
      rw [e3, ct_end]
      have E := en4 (c := ((x % 8 * 64 + y % 64) * 64 + z % 64) * 64 + w % 64) (by omega)
      refine ⟨sc_iff.2 (by omega), ?_, by rw [E]; rfl⟩
      rw [E]
      simp only [List.cons_append, List.nil_append]
      exact List.cons_eq_cons.2 ⟨by omega, List.cons_eq_cons.2 ⟨by omega, List.cons_eq_cons.2 ⟨by omega, List.cons_eq_cons.2 ⟨by omega, rfl⟩⟩⟩⟩
    rcases ld_cases x hx.1 hx.2 with ⟨c, hl⟩ | ⟨c, hl⟩ | ⟨c, hl⟩ | ⟨c, hl⟩ | ⟨c, hl⟩ | ⟨c, hl⟩ | ⟨c, hl⟩ | ⟨c, hl⟩ | ⟨c, hl⟩
    · rw [nx0 t hl, en1 c]
      exact ⟨sc_iff.2 (by omega), rfl, rfl⟩
    · rw [nx1 t hl] at h ⊢
      obtain ⟨y, t1, rfl, a0, a1, e1⟩ := ct_true h
      rw [e1, ct_end]
      have E := en2 (c := x % 32 * 64 + y % 64) (by omega) (by omega)
      refine ⟨sc_iff.2 (by omega), ?_, by rw [E]; rfl⟩
      rw [E]
      simp only [List.cons_append, List.nil_append]
      exact List.cons_eq_cons.2 ⟨by omega, List.cons_eq_cons.2 ⟨by omega, rfl⟩⟩
    · exact two hl (by omega) (by omega) (by omega) (by omega) (by omega) (by omega)
    · exact two hl (by omega) (by omega) (by omega) (by omega) (by omega) (by omega)
    · exact two hl (by omega) (by omega) (by omega) (by omega) (by omega) (by omega)
    · exact three hl (by omega) (by omega) (by omega) (by omega) (by omega) (by omega)
    · exact three hl (by omega) (by omega) (by omega) (by omega) (by omega) (by omega)
    · exact three hl (by omega) (by omega) (by omega) (by omega) (by omega) (by omega)
    · rw [nxm t hl] at h; simp at h
theorem nx_en (c : Int) (r : List Int) (h : sc c = true) : nx (en c ++ r) = (c, ((en c).length : Int), true) := by
  have h' := sc_iff.1 h
  by_cases h1 : c < 128
  · rw [en1 h1]
    rcases ld_cases c (by omega) (by omega) with ⟨_, hl⟩ | ⟨_, _⟩ | ⟨_, _⟩ | ⟨_, _⟩ | ⟨_, _⟩ | ⟨_, _⟩ | ⟨_, _⟩ | ⟨_, _⟩ | ⟨_, hl⟩
    · exact nx0 r hl
    all_goals omega
  · by_cases h2 : c < 2048
    · rw [en2 (by omega) h2]
      have hl : ld (192 + c / 64) = (1, 128, 191) := by unfold ld; rw [if_neg (by omega), if_pos (by omega)]
      show nx (_ :: _ :: r) = _
      rw [nx1 _ hl, ct_step _ _ _ _ (by omega) (by omega), ct_end]
      simp only [List.length_cons, List.length_nil, Prod.mk.injEq, and_true]
      exact ⟨by omega, by omega⟩
    · by_cases h3 : c < 65536
      · rw [en3 (by omega) h3]
        show nx (_ :: _ :: _ :: r) = _
        have key : ∀ lo hi, ld (224 + c / 4096) = (2, lo, hi) → lo ≤ 128 + c / 64 % 64 → 128 + c / 64 % 64 ≤ hi → nx ((224 + c / 4096) :: (128 + c / 64 % 64) :: (128 + c % 64) :: r) = (c, (([224 + c / 4096, 128 + c / 64 % 64, 128 + c % 64] : List Int).length : Int), true) := by
          intro lo hi hl g0 g1
          rw [nx2 _ hl, ct_step _ _ _ _ g0 g1, ct_step _ _ _ _ (by omega) (by omega), ct_end]
          simp only [List.length_cons, List.length_nil, Prod.mk.injEq, and_true]
          exact ⟨by omega, by omega⟩
        rcases ld_cases (224 + c / 4096) (by omega) (by omega) with ⟨a, hl⟩ | ⟨a, hl⟩ | ⟨a, hl⟩ | ⟨a, hl⟩ | ⟨a, hl⟩ | ⟨a, hl⟩ | ⟨a, hl⟩ | ⟨a, hl⟩ | ⟨a, hl⟩
        · omega
        · omega
        · exact key _ _ hl (by omega) (by omega)
        · exact key _ _ hl (by omega) (by omega)
        · exact key _ _ hl (by omega) (by omega)
        · omega
        · omega
        · omega
        · omega
      · rw [en4 (by omega)]
        show nx (_ :: _ :: _ :: _ :: r) = _
        have key : ∀ lo hi, ld (240 + c / 262144) = (3, lo, hi) → lo ≤ 128 + c / 4096 % 64 → 128 + c / 4096 % 64 ≤ hi → nx ((240 + c / 262144) :: (128 + c / 4096 % 64) :: (128 + c / 64 % 64) :: (128 + c % 64) :: r) = (c, (([240 + c / 262144, 128 + c / 4096 % 64, 128 + c / 64 % 64, 128 + c % 64] : List Int).length : Int), true) := by
          intro lo hi hl g0 g1
          rw [nx3 _ hl, ct_step _ _ _ _ g0 g1, ct_step _ _ _ _ (by omega) (by omega), ct_step _ _ _ _ (by omega) (by omega), ct_end]
          simp only [List.length_cons, List.length_nil, Prod.mk.injEq, and_true]
          exact ⟨by omega, by omega⟩
        have e : 240 + c / 262144 = 240 ∨ 240 + c / 262144 = 244 ∨ (241 ≤ 240 + c / 262144 ∧ 240 + c / 262144 ≤ 243) := by omega
        rcases e with e | e | e
        · refine key 144 191 ?_ (by omega) (by omega)
          unfold ld; rw [if_neg (by omega), if_neg (by omega), if_neg (by omega), if_neg (by omega), if_neg (by omega), if_pos e]
        · refine key 128 143 ?_ (by omega) (by omega)
          unfold ld; rw [if_neg (by omega), if_neg (by omega), if_neg (by omega), if_neg (by omega), if_neg (by omega), if_neg (by omega), if_pos e]
        · refine key 128 191 ?_ (by omega) (by omega)
          unfold ld; rw [if_neg (by omega), if_neg (by omega), if_neg (by omega), if_neg (by omega), if_neg (by omega), if_neg (by omega), if_neg (by omega), if_pos e]
/-- Decode, as the program tells it; n: as many rounds as there are bytes. -/
def decR : Nat → List Int → List Int → Int → List Int × Int × Int
  | 0, _, acc, _ => (acc, 0, 0)
  | _ + 1, [], acc, _ => (acc, 0, 0)
  | n + 1, x :: s, acc, at_ => if (nx (x :: s)).2.2 = true then decR n ((x :: s).drop (nx (x :: s)).2.1.toNat) (acc ++ [(nx (x :: s)).1]) (at_ + (nx (x :: s)).2.1) else ([], at_, 4)
def losR : Nat → List Int → List Int → List Int
  | 0, _, acc => acc
  | _ + 1, [], acc => acc
  | n + 1, x :: s, acc => losR n ((x :: s).drop (nx (x :: s)).2.1.toNat) (acc ++ [(nx (x :: s)).1])
/-- What one step takes. -/
theorem nx_n {b : List Int} (hy : bytes b) (hb : b ≠ []) : 1 ≤ (nx b).2.1 ∧ (nx b).2.1 ≤ b.length ∧ sc (nx b).1 = true := by
  cases h : (nx b).2.2 with
  | false => obtain ⟨a, b, c⟩ := nx_false hb h; exact ⟨b, c, by rw [a]; decide⟩
  | true =>
    obtain ⟨a, e, c⟩ := nx_true hy h
    have h1 := en_len (nx b).1
    have h2 := congrArg List.length e
    rw [List.length_append] at h2
    exact ⟨by omega, by omega, a⟩
theorem drop_lt {b : List Int} (hy : bytes b) (hb : b ≠ []) : (b.drop (nx b).2.1.toNat).length < b.length := by
  have := nx_n hy hb
  rw [List.length_drop]; omega
/-- Signs' bytes are read as they. -/
theorem decR_en : ∀ (l : List Int) (n : Nat) (acc : List Int) (a : Int) , (∀ c ∈ l, sc c = true) → (ens l).length ≤ n → decR n (ens l) acc a = (acc ++ l, 0, 0)
  | [], n, acc, a, _, _ => by cases n <;> simp [ens, decR]
  | c :: t, n, acc, a, hl, hn => by
    have h1 := en_len c
    have hc := hl c (by simp)
    have e : ens (c :: t) = en c ++ ens t := by simp [ens]
    have hnx := nx_en c (ens t) hc
    have hd : (en c ++ ens t).drop ((en c).length : Int).toNat = ens t := by rw [Int.toNat_natCast, List.drop_left]
    rw [e] at hn ⊢
    rw [List.length_append] at hn
    obtain ⟨n, rfl⟩ : ∃ m, n = m + 1 := ⟨n - 1, by omega⟩
    obtain ⟨x, s, hxs⟩ : ∃ x s, en c ++ ens t = x :: s := by
      cases hq : en c with
      | nil => rw [hq] at h1; simp at h1
      | cons x s => exact ⟨x, s ++ ens t, rfl⟩
    rw [hxs] at hnx hd ⊢
    rw [decR, if_pos (by rw [hnx]), hnx]
    simp only
    rw [hd, decR_en t n _ _ (fun x hx => hl x (by simp [hx])) (by omega)]
    simp
theorem losR_en : ∀ (l : List Int) (n : Nat) (acc : List Int) , (∀ c ∈ l, sc c = true) → (ens l).length ≤ n → losR n (ens l) acc = acc ++ l
  | [], n, acc, _, _ => by cases n <;> simp [ens, losR]
  | c :: t, n, acc, hl, hn => by
    have h1 := en_len c
    have hc := hl c (by simp)
    have e : ens (c :: t) = en c ++ ens t := by simp [ens]
    have hnx := nx_en c (ens t) hc
    have hd : (en c ++ ens t).drop ((en c).length : Int).toNat = ens t := by rw [Int.toNat_natCast, List.drop_left]
    rw [e] at hn ⊢
    rw [List.length_append] at hn
    obtain ⟨n, rfl⟩ : ∃ m, n = m + 1 := ⟨n - 1, by omega⟩
    obtain ⟨x, s, hxs⟩ : ∃ x s, en c ++ ens t = x :: s := by
      cases hq : en c with
      | nil => rw [hq] at h1; simp at h1
      | cons x s => exact ⟨x, s ++ ens t, rfl⟩
    rw [hxs] at hnx hd ⊢
    rw [losR, hnx]
    simp only
    rw [hd, losR_en t n _ (fun x hx => hl x (by simp [hx])) (by omega)]
    simp
/-- What Decode reads, or the place where it ends. -/
theorem decR_or : ∀ (n : Nat) (b acc : List Int) (a : Int), bytes b → b.length ≤ n → (∃ v, decR n b acc a = (acc ++ v, 0, 0) ∧ (∀ c ∈ v, sc c = true) ∧ b = ens v) ∨ (∃ i, decR n b acc a = ([], i, 4) ∧ a ≤ i ∧ i < a + b.length)
  | 0, b, acc, a, _, hn => .inl ⟨[], by simp [decR], by simp, by cases b <;> simp_all [ens]⟩
  | n + 1, [], acc, a, _, _ => .inl ⟨[], by simp [decR], by simp, by simp [ens]⟩
  | n + 1, x :: s, acc, a, hy, hn => by
    have hk := nx_n hy (by simp)
    have hlt := drop_lt hy (by simp)
    rw [decR]
    by_cases h : (nx (x :: s)).2.2 = true
    · rw [if_pos h]
      obtain ⟨h1, h2, h3⟩ := nx_true hy h
      rcases decR_or n ((x :: s).drop (nx (x :: s)).2.1.toNat) (acc ++ [(nx (x :: s)).1]) (a + (nx (x :: s)).2.1) (bytes_drop hy _) (by omega) with ⟨v, e, hv, hb⟩ | ⟨i, e, h4, h5⟩
      · refine .inl ⟨(nx (x :: s)).1 :: v, by rw [e]; simp, ?_, ?_⟩
        · exact fun c hc => (List.mem_cons.1 hc).elim (fun e => e ▸ h1) (fun hc => hv c hc)
        · have h2' := h2
          rw [hb] at h2'
          exact h2'.trans (by simp [ens])
      · refine .inr ⟨i, e, by omega, ?_⟩
        rw [List.length_drop] at h5
        omega
    · rw [if_neg h]
      exact .inr ⟨a, rfl, by omega, by simp only [List.length_cons]; omega⟩
theorem losR_sc : ∀ (n : Nat) (b acc : List Int), bytes b → (∀ c ∈ acc, sc c = true) → (∀ c ∈ losR n b acc, sc c = true) ∧ (losR n b acc).length ≤ acc.length + b.length
  | 0, b, acc, _, ha => ⟨ha, by simp [losR]⟩
  | n + 1, [], acc, _, ha => ⟨ha, by simp [losR]⟩
  | n + 1, x :: s, acc, hy, ha => by
    have hk := nx_n hy (by simp)
    have hlt := drop_lt hy (by simp)
    rw [losR]
    obtain ⟨h1, h2⟩ := losR_sc n ((x :: s).drop (nx (x :: s)).2.1.toNat) (acc ++ [(nx (x :: s)).1]) (bytes_drop hy _) (by
      intro c hc
      rcases List.mem_append.1 hc with hc | hc
      · exact ha c hc
      · rw [List.mem_singleton.1 hc]; exact hk.2.2)
    exact ⟨h1, by simp only [List.length_append, List.length_cons, List.length_nil] at h2 hlt ⊢; omega⟩
theorem ct_ge : ∀ (t : List Int) (m : Nat) (lo hi acc i : Int), i ≤ (ct t m lo hi acc i).2.1
  | _, 0, _, _, _, _ => by rw [ct_end]; exact Int.le_refl _
  | [], m + 1, lo, hi, acc, i => by simp [ct]
  | y :: t, m + 1, lo, hi, acc, i => by
    by_cases h : y < lo ∨ y > hi
    · rw [ct, if_pos h]; exact Int.le_refl _
    · rw [ct, if_neg h]
      have := ct_ge t m 128 191 (acc * 64 + y % 64) (i + 1)
      omega
theorem nx_ge (x : Int) (t : List Int) : 1 ≤ (nx (x :: t)).2.1 := by
  rw [nx]
  split
  · exact Int.le_refl _
  · split
    · exact Int.le_refl _
    · exact ct_ge _ _ _ _ _ _
theorem drop_le (x : Int) (s : List Int) : ((x :: s).drop (nx (x :: s)).2.1.toNat).length ≤ s.length := by
  have := nx_ge x s
  rw [List.length_drop, List.length_cons]; omega
/-- More rounds than bytes tell the same. -/
theorem losR_any : ∀ (n m : Nat) (b acc : List Int), b.length ≤ n → b.length ≤ m → losR n b acc = losR m b acc
  | 0, m, [], acc, _, _ => by cases m <;> rfl
  | n + 1, m, [], acc, _, _ => by cases m <;> rfl
  | 0, m, x :: s, acc, h, _ => by simp at h
  | n + 1, 0, x :: s, acc, _, h => by simp at h
  | n + 1, m + 1, x :: s, acc, h, h' => by
    have hd := drop_le x s
    simp only [List.length_cons] at h h'
    rw [losR, losR]
    exact losR_any n m _ _ (by omega) (by omega)
theorem losR_more (n : Nat) (b acc : List Int) (h : b.length ≤ n) : losR n b acc = losR b.length b acc := losR_any n b.length b acc h (Nat.le_refl _)
theorem losR_acc : ∀ (n : Nat) (b acc : List Int), losR n b acc = acc ++ losR n b []
  | 0, b, acc => by simp [losR]
  | n + 1, [], acc => by simp [losR]
  | n + 1, x :: s, acc => by
    rw [losR, losR, losR_acc n _ (acc ++ _), losR_acc n _ ([] ++ _)]
    simp
theorem ens_bytes {l : List Int} (h : ∀ c ∈ l, sc c = true) : bytes (ens l) := by
  intro x hx
  obtain ⟨c, hc, hx⟩ := List.mem_flatMap.1 hx
  have h' := sc_iff.1 (h c hc)
  unfold en at hx
  (repeat' split at hx) <;> simp only [List.mem_cons, List.not_mem_nil, or_false] at hx <;> omega
/-- A text's bytes. -/
def B (s : ByteArray) : List UInt8 := s.data.toList
def mk (l : List UInt8) : ByteArray := ⟨l.toArray⟩
theorem B_mk (l : List UInt8) : B (mk l) = l := rfl
theorem mk_B (s : ByteArray) : mk (B s) = s := rfl
theorem B_inj {s t : ByteArray} (h : B s = B t) : s = t := by rw [← mk_B s, ← mk_B t, h]
theorem toList_B (s : ByteArray) : s.toList = B s := Lib.toList_data s
theorem size_B (s : ByteArray) : s.size = (B s).length := Lib.size_eq s
theorem B_extract (s : ByteArray) (a b : Nat) : B (s.extract a b) = ((B s).drop a).take (b - a) := Lib.extract_data s a b
theorem B_append (s t : ByteArray) : B (s ++ t) = B s ++ B t := by
  unfold B
  rw [ByteArray.data_append, Array.toList_append]
theorem B_to (s : ByteArray) (n : Nat) : B (s.extract 0 n) = (B s).take n := by rw [B_extract, List.drop_zero, Nat.sub_zero]
theorem B_from (s : ByteArray) (n : Nat) : B (s.extract n s.size) = (B s).drop n := by
  rw [B_extract, size_B]
  exact List.take_of_length_le (by rw [List.length_drop]; omega)
theorem bt_of {s : ByteArray} {i : Nat} {c : UInt8} (h : (B s)[i]? = some c) : bt s (i : Int) = (c.toNat : Int) := by
  unfold bt
  have hi : i < s.size := by rw [size_B]; exact (List.getElem?_eq_some_iff.1 h).1
  rw [Int.toNat_natCast, dif_pos hi]
  have : (s[i]'hi) = c := by
    have h1 : (B s)[i]? = some (s[i]'hi) := by
      unfold B
      rw [Array.getElem?_toList]
      exact Array.getElem?_eq_getElem _
    rw [h1] at h
    exact Option.some.inj h
  rw [this]
/-- The byte that a suffix begins with. -/
theorem bt_drop {s : ByteArray} {i : Nat} {c : UInt8} {t : List UInt8} (h : (B s).drop i = c :: t) : bt s (i : Int) = (c.toNat : Int) ∧ i < s.size ∧ (B s).drop (i + 1) = t := by
  obtain ⟨h1, h2, h3⟩ := drop_cons h
  exact ⟨bt_of h2, by rw [size_B]; exact h1, h3⟩
theorem end_drop {s : ByteArray} {i : Nat} (h : (B s).drop i = []) : s.size ≤ i := by rw [size_B]; exact drop_nil h
theorem u8_eq (c : UInt8) (n : Nat) (h : n < 256) : ((c.toNat : Int) = (n : Int)) ↔ c = UInt8.ofNat n := by
  constructor
  · intro e
    have e' : c.toNat = n := by omega
    rw [← e']; exact (UInt8.ofNat_toNat).symm
  · intro e
    rw [e, UInt8.toNat_ofNat']
    have : n % 2 ^ 8 = n := Nat.mod_eq_of_lt h
    omega
theorem u8_lt (c : UInt8) : (c.toNat : Int) < 256 ∧ 0 ≤ (c.toNat : Int) := by
  have := UInt8.toNat_lt c
  omega
/-- A text cut at a byte. -/
def spl (c : UInt8) : List UInt8 → List (List UInt8)
  | [] => [[]]
  | b :: t => if b = c then [] :: spl c t else (b :: (spl c t).headD []) :: (spl c t).tail
theorem spl_ne (c : UInt8) (l : List UInt8) : spl c l ≠ [] := by
  cases l with
  | nil => simp [spl]
  | cons b t => unfold spl; split <;> simp
theorem spl_whole (c : UInt8) : ∀ p : List UInt8, c ∉ p → spl c p = [p]
  | [], _ => rfl
  | b :: t, h => by
    have hb : b ≠ c := fun e => h (by simp [e])
    rw [spl, if_neg hb, spl_whole c t (fun e => h (by simp [e]))]; rfl
theorem spl_cut (c : UInt8) (r : List UInt8) : ∀ p : List UInt8, c ∉ p → spl c (p ++ c :: r) = p :: spl c r
  | [], _ => by simp [spl]
  | b :: t, h => by
    have hb : b ≠ c := fun e => h (by simp [e])
    rw [List.cons_append, spl, if_neg hb, spl_cut c r t (fun e => h (by simp [e]))]; rfl
theorem spl_one (c : UInt8) : ∀ l p : List UInt8, spl c l = [p] → l = p ∧ c ∉ p
  | [], p, h => by simp [spl] at h; subst h; simp
  | b :: t, p, h => by
    unfold spl at h
    split at h
    · injection h with h1 h2; exact absurd h2 (spl_ne c t)
    · rename_i hb
      injection h with h1 h2
      have ht : spl c t = [(spl c t).headD []] := by
        cases hs : spl c t with
        | nil => exact absurd hs (spl_ne c t)
        | cons a r => rw [hs] at h2; simp at h2; rw [h2]; rfl
      obtain ⟨e1, e2⟩ := spl_one c t _ ht
      rw [← h1]
      refine ⟨by rw [← e1], ?_⟩
      intro e
      rcases List.mem_cons.1 e with q | q
      · exact hb q.symm
      · exact e2 q
theorem spl_more (c : UInt8) : ∀ l p q r, spl c l = p :: q :: r → ∃ m, l = p ++ c :: m ∧ c ∉ p ∧ spl c m = q :: r
  | [], p, q, r, h => by simp [spl] at h
  | b :: t, p, q, r, h => by
    unfold spl at h
    split at h
    · rename_i hb
      injection h with h1 h2
      exact ⟨t, by rw [← h1, hb]; rfl, by rw [← h1]; simp, h2⟩
    · rename_i hb
      injection h with h1 h2
      have ht : spl c t = (spl c t).headD [] :: q :: r := by
        cases hs : spl c t with
        | nil => exact absurd hs (spl_ne c t)
        | cons a r' => rw [hs] at h2; simp at h2; rw [h2]; rfl
      obtain ⟨m, e1, e2, e3⟩ := spl_more c t _ q r ht
      refine ⟨m, by rw [← h1, List.cons_append, ← e1], ?_, e3⟩
      rw [← h1]
      intro e
      rcases List.mem_cons.1 e with q | q
      · exact hb q.symm
      · exact e2 q
theorem spl3 {c : UInt8} {l p0 p1 p2 : List UInt8} (h : spl c l = [p0, p1, p2]) : l = p0 ++ c :: (p1 ++ c :: p2) ∧ c ∉ p0 ∧ c ∉ p1 ∧ c ∉ p2 := by
  obtain ⟨m, rfl, h0, h⟩ := spl_more c _ _ _ _ h
  obtain ⟨m, rfl, h1, h⟩ := spl_more c _ _ _ _ h
  obtain ⟨rfl, h2⟩ := spl_one c _ _ h
  exact ⟨rfl, h0, h1, h2⟩
theorem spl3' {c : UInt8} {p0 p1 p2 : List UInt8} (h0 : c ∉ p0) (h1 : c ∉ p1) (h2 : c ∉ p2) : spl c (p0 ++ c :: (p1 ++ c :: p2)) = [p0, p1, p2] := by
  rw [spl_cut c _ _ h0, spl_cut c _ _ h1, spl_whole c _ h2]
theorem spl4 {c : UInt8} {l p0 p1 p2 p3 : List UInt8} (h : spl c l = [p0, p1, p2, p3]) : l = p0 ++ c :: (p1 ++ c :: (p2 ++ c :: p3)) ∧ c ∉ p0 ∧ c ∉ p1 ∧ c ∉ p2 ∧ c ∉ p3 := by
  obtain ⟨m, rfl, h0, h⟩ := spl_more c _ _ _ _ h
  obtain ⟨rfl, q⟩ := spl3 h
  exact ⟨rfl, h0, q⟩
theorem spl4' {c : UInt8} {p0 p1 p2 p3 : List UInt8} (h0 : c ∉ p0) (h1 : c ∉ p1) (h2 : c ∉ p2) (h3 : c ∉ p3) : spl c (p0 ++ c :: (p1 ++ c :: (p2 ++ c :: p3))) = [p0, p1, p2, p3] := by
  rw [spl_cut c _ _ h0, spl3' h1 h2 h3]
theorem spl6 {c : UInt8} {l p0 p1 p2 p3 p4 p5 : List UInt8} (h : spl c l = [p0, p1, p2, p3, p4, p5]) : l = p0 ++ c :: (p1 ++ c :: (p2 ++ c :: (p3 ++ c :: (p4 ++ c :: p5)))) ∧ c ∉ p0 ∧ c ∉ p1 ∧ c ∉ p2 ∧ c ∉ p3 ∧ c ∉ p4 ∧ c ∉ p5 := by
  obtain ⟨m, rfl, h0, h⟩ := spl_more c _ _ _ _ h
  obtain ⟨m, rfl, h1, h⟩ := spl_more c _ _ _ _ h
  obtain ⟨rfl, q⟩ := spl4 h
  exact ⟨rfl, h0, h1, q⟩
theorem spl6' {c : UInt8} {p0 p1 p2 p3 p4 p5 : List UInt8} (h0 : c ∉ p0) (h1 : c ∉ p1) (h2 : c ∉ p2) (h3 : c ∉ p3) (h4 : c ∉ p4) (h5 : c ∉ p5) : spl c (p0 ++ c :: (p1 ++ c :: (p2 ++ c :: (p3 ++ c :: (p4 ++ c :: p5))))) = [p0, p1, p2, p3, p4, p5] := by
  rw [spl_cut c _ _ h0, spl_cut c _ _ h1, spl4' h2 h3 h4 h5]
theorem spl_hd (c : UInt8) : ∀ (p r : List UInt8), c ∉ p → (spl c (p ++ c :: r)).head? = some p := fun p r h => by rw [spl_cut c r p h]; rfl
theorem splK_cons (c b : UInt8) (h : b ≠ c) : ∀ (k : Nat) (t : List UInt8), Lib.splitK [c] 0 k (b :: t) = (b :: (Lib.splitK [c] 0 k t).headD []) :: (Lib.splitK [c] 0 k t).tail
  | 0, t => rfl
  | k + 1, t => by
    have hp : ([c] : List UInt8).isPrefixOf (b :: t) = false := by simp [List.isPrefixOf, Ne.symm h]
    have hix : Lib.index (b :: t) [c] = if Lib.index t [c] == -1 then -1 else Lib.index t [c] + 1 := by rw [Lib.index, hp]; simp
    have hge := Lib.index_ge t [c]
    unfold Lib.splitK
    rw [hix]
    by_cases hm : Lib.index t [c] = -1
    · simp [hm]
    · have e1 : (Lib.index t [c] == -1) = false := by simpa using hm
      have e2 : (Lib.index t [c] + 1 == -1) = false := by simp; omega
      obtain ⟨j, hj⟩ : ∃ j : Nat, Lib.index t [c] = j := ⟨(Lib.index t [c]).toNat, by omega⟩
      rw [e1]
      simp only [Bool.false_eq_true, if_false]
      rw [e2]
      simp only [Bool.false_eq_true, if_false, hj, List.headD_cons, List.tail_cons, List.length_singleton]
      have e3 : ((j : Int) + 1).toNat = j + 1 := by omega
      rw [e3, Int.toNat_natCast]
      rfl
theorem splK_eq (c : UInt8) : ∀ l : List UInt8, Lib.splitK [c] 0 (Lib.count l [c]) l = spl c l
  | [] => by
    have : Lib.index [] [c] = -1 := rfl
    rw [Lib.count_miss this]; rfl
  | b :: t => by
    by_cases h : b = c
    · subst h
      have hix : Lib.index (b :: t) [b] = 0 := by rw [Lib.index]; simp [List.isPrefixOf]
      rw [Lib.count_cons_eq, Nat.add_comm, Lib.splitK, hix, spl, if_pos rfl, ← splK_eq b t]
      rfl
    · rw [Lib.count_cons_ne b c t h, splK_cons c b h, splK_eq c t, spl, if_neg h]
theorem splB_eq (c : UInt8) (s : ByteArray) : Lib.splitB (⟨#[c]⟩ : ByteArray) 0 (Lib.countB s (⟨#[c]⟩ : ByteArray)) s = (spl c (B s)).map mk := by
  have h := Lib.splitB_data (⟨#[c]⟩ : ByteArray) 0 (Lib.countB s (⟨#[c]⟩ : ByteArray)) s
  have e : Lib.splitK [c] 0 (Lib.countB s (⟨#[c]⟩ : ByteArray)) s.data.toList = spl c (B s) := splK_eq c (B s)
  rw [← e]
  have h2 : ∀ l : List ByteArray, l = (l.map (·.data.toList)).map mk := fun l => by
    rw [List.map_map]; simp [Function.comp_def, mk]
  rw [h2 (Lib.splitB _ _ _ _), h]
def cutL : List UInt8 → List UInt8 × List UInt8 × Bool
  | [] => ([], [], false)
  | c :: t => if c = 61 then ([], t, true) else (c :: (cutL t).1, (cutL t).2.1, (cutL t).2.2)
theorem cutL_len : ∀ l : List UInt8, (cutL l).1.length ≤ l.length ∧ (cutL l).2.1.length ≤ l.length ∧ ((cutL l).2.2 = false → (cutL l).1 = l ∧ (cutL l).2.1 = []) ∧ ((cutL l).2.2 = true → (cutL l).1.length < l.length ∧ (cutL l).2.1 = l.drop ((cutL l).1.length + 1))
  | [] => by simp [cutL]
  | c :: t => by
    obtain ⟨h1, h2, h3, h4⟩ := cutL_len t
    unfold cutL
    by_cases hc : c = 61
    · rw [if_pos hc]; simp
    · rw [if_neg hc]
      refine ⟨by simp only [List.length_cons]; omega, by simp only [List.length_cons]; omega, fun h => ?_, fun h => ?_⟩
      · obtain ⟨a, b⟩ := h3 h
        exact ⟨by show c :: (cutL t).1 = _; rw [a], b⟩
      · obtain ⟨a, b⟩ := h4 h
        exact ⟨by simp only [List.length_cons]; omega, by simp only [List.length_cons, List.drop_succ_cons]; exact b⟩
theorem cutL_idx : ∀ l : List UInt8, -1 ≤ Lib.indexByte l 61 ∧ (if Lib.indexByte l 61 ≥ 0 then cutL l = (l.take (Lib.indexByte l 61).toNat, l.drop (Lib.indexByte l 61 + 1).toNat, true) else cutL l = (l, [], false))
  | [] => by simp [Lib.indexByte, cutL]
  | c :: t => by
    obtain ⟨h0, h1⟩ := cutL_idx t
    unfold cutL Lib.indexByte
    by_cases hc : c = 61
    · rw [if_pos hc, if_pos (by rw [hc]; rfl)]; simp
    · rw [if_neg hc, if_neg (by simpa using hc)]
      by_cases hi : Lib.indexByte t 61 = -1
      · rw [if_pos (by rw [hi]; rfl)]
        rw [hi, if_neg (by omega)] at h1
        refine ⟨by omega, ?_⟩
        rw [if_neg (by omega), h1]
      · rw [if_neg (by simpa using hi)]
        rw [if_pos (by omega)] at h1
        refine ⟨by omega, ?_⟩
        rw [if_pos (by omega), h1]
        obtain ⟨n, hn⟩ : ∃ n : Nat, Lib.indexByte t 61 = n := ⟨(Lib.indexByte t 61).toNat, by omega⟩
        rw [hn]
        have e1 : ((n : Int) + 1).toNat = n + 1 := by omega
        have e2 : ((n : Int) + 1 + 1).toNat = n + 2 := by omega
        rw [e1, e2]
        simp
/-! bytes as numbers, and back -/
def I (l : List UInt8) : List Int := l.map fun c => (c.toNat : Int)
def U (l : List Int) : List UInt8 := l.map fun n => UInt8.ofNat n.toNat
theorem U_I : ∀ l : List UInt8, U (I l) = l
  | [] => rfl
  | c :: t => by
    show UInt8.ofNat ((c.toNat : Int)).toNat :: U (I t) = _
    rw [Int.toNat_natCast, UInt8.ofNat_toNat, U_I t]
theorem I_U : ∀ l : List Int, bytes l → I (U l) = l
  | [], _ => rfl
  | c :: t, h => by
    have h0 := h c List.mem_cons_self
    show ((UInt8.ofNat c.toNat).toNat : Int) :: I (U t) = _
    rw [UInt8.toNat_ofNat_of_lt' (by show c.toNat < 256; omega), I_U t (fun x hx => h x (List.mem_cons_of_mem _ hx)), Int.toNat_of_nonneg h0.1]
theorem I_bytes (l : List UInt8) : bytes (I l) := by
  intro x hx
  obtain ⟨c, -, rfl⟩ := List.mem_map.1 hx
  have : c.toNat < 256 := c.toNat_lt
  omega
theorem I_app (a b : List UInt8) : I (a ++ b) = I a ++ I b := List.map_append
theorem U_app (a b : List Int) : U (a ++ b) = U a ++ U b := List.map_append
theorem I_len (l : List UInt8) : (I l).length = l.length := List.length_map _
theorem U_len (l : List Int) : (U l).length = l.length := List.length_map _
theorem I_inj {a b : List UInt8} (h : I a = I b) : a = b := by rw [← U_I a, ← U_I b, h]
/-! percent signs -/
def plus (l : List Int) : List Int := l.map fun c => if c = 43 then 32 else c
def dg (c : Int) : Int := if 48 ≤ c ∧ c ≤ 57 then c - 48 else if 97 ≤ c ∧ c ≤ 102 then c - 87 else if 65 ≤ c ∧ c ≤ 70 then c - 55 else -1
def pdec : List Int → List Int
  | [] => []
  | [c] => [c]
  | [c, d] => [c, d]
  | c :: h :: l :: t => if c = 37 ∧ 0 ≤ dg h ∧ 0 ≤ dg l then (dg h * 16 + dg l) :: pdec t else c :: pdec (h :: l :: t)
def plainC (c : Int) : Bool := (decide (97 ≤ c) && decide (c ≤ 122)) || (decide (65 ≤ c) && decide (c ≤ 90)) || (decide (48 ≤ c) && decide (c ≤ 57)) || decide (c = 42) || decide (c = 45) || decide (c = 46) || decide (c = 95)
theorem plainC_iff {c : Int} : plainC c = true ↔ (97 ≤ c ∧ c ≤ 122) ∨ (65 ≤ c ∧ c ≤ 90) ∨ (48 ≤ c ∧ c ≤ 57) ∨ c = 42 ∨ c = 45 ∨ c = 46 ∨ c = 95 := by
  unfold plainC
  simp only [Bool.or_eq_true, Bool.and_eq_true, decide_eq_true_iff]
  omega
def great (n : Int) : Int := if n < 10 then 48 + n else 55 + n
def penc1 (c : Int) : List Int := if c = 32 then [43] else if plainC c = true then [c] else [37, great (c / 16), great (c % 16)]
def penc (l : List Int) : List Int := l.flatMap penc1
theorem dg_great {n : Int} (h0 : 0 ≤ n) (h1 : n < 16) : dg (great n) = n := by
  unfold dg great
  (repeat' split) <;> omega
theorem great_rng {n : Int} (h0 : 0 ≤ n) (h1 : n < 16) : (48 ≤ great n ∧ great n ≤ 57) ∨ (65 ≤ great n ∧ great n ≤ 70) := by
  unfold great
  split <;> omega
theorem dg_rng (c : Int) : -1 ≤ dg c ∧ dg c < 16 := by
  unfold dg
  (repeat' split) <;> omega
theorem pdec_cons {c : Int} (h : c ≠ 37) (t : List Int) : pdec (c :: t) = c :: pdec t := by
  cases t with
  | nil => rfl
  | cons d t =>
    cases t with
    | nil => rfl
    | cons e t => rw [pdec, if_neg (fun q => h q.1)]
theorem pdec_hit {h l : Int} (h0 : 0 ≤ dg h) (l0 : 0 ≤ dg l) (t : List Int) : pdec (37 :: h :: l :: t) = (dg h * 16 + dg l) :: pdec t := by
  rw [pdec, if_pos ⟨rfl, h0, l0⟩]
theorem penc_cons (c : Int) (t : List Int) : penc (c :: t) = penc1 c ++ penc t := rfl
theorem penc_app (a b : List Int) : penc (a ++ b) = penc a ++ penc b := List.flatMap_append
theorem plus_app (a b : List Int) : plus (a ++ b) = plus a ++ plus b := List.map_append
theorem pdec_penc : ∀ l : List Int, bytes l → pdec (plus (penc l)) = l
  | [], _ => rfl
  | c :: t, h => by
    have h0 := h c List.mem_cons_self
    have ih := pdec_penc t (fun x hx => h x (List.mem_cons_of_mem _ hx))
    rw [penc_cons, plus_app]
    unfold penc1
    by_cases c1 : c = 32
    · rw [if_pos c1]
      show pdec (32 :: plus (penc t)) = _
      rw [pdec_cons (by decide), ih, c1]
    · rw [if_neg c1]
      by_cases c2 : plainC c = true
      · have q := plainC_iff.1 c2
        rw [if_pos c2]
        show pdec ((if c = 43 then 32 else c) :: plus (penc t)) = _
        rw [if_neg (by omega), pdec_cons (by omega), ih]
      · rw [if_neg c2]
        have g1 := great_rng (n := c / 16) (by omega) (by omega)
        have g2 := great_rng (n := c % 16) (by omega) (by omega)
        have d1 := dg_great (n := c / 16) (by omega) (by omega)
        have d2 := dg_great (n := c % 16) (by omega) (by omega)
        show pdec (37 :: (if great (c / 16) = 43 then 32 else great (c / 16)) :: (if great (c % 16) = 43 then 32 else great (c % 16)) :: plus (penc t)) = _
        rw [if_neg (by omega), if_neg (by omega), pdec_hit (by omega) (by omega), ih, d1, d2]
        congr 1
        omega
theorem penc1_rng {c : Int} (h0 : 0 ≤ c) (h1 : c < 256) : ∀ x ∈ penc1 c, 0 ≤ x ∧ x < 256 ∧ x ≠ 38 ∧ x ≠ 61 := by
  intro x hx
  unfold penc1 at hx
  split at hx
  · rw [List.mem_singleton.1 hx]; omega
  · split at hx
    · rename_i q
      have q := plainC_iff.1 q
      rw [List.mem_singleton.1 hx]; omega
    · have g1 := great_rng (n := c / 16) (by omega) (by omega)
      have g2 := great_rng (n := c % 16) (by omega) (by omega)
      simp only [List.mem_cons, List.not_mem_nil, or_false] at hx
      rcases hx with rfl | rfl | rfl <;> omega
theorem penc_rng {l : List Int} (h : bytes l) : ∀ x ∈ penc l, 0 ≤ x ∧ x < 256 ∧ x ≠ 38 ∧ x ≠ 61 := by
  intro x hx
  obtain ⟨c, hc, hx⟩ := List.mem_flatMap.1 hx
  exact penc1_rng (h c hc).1 (h c hc).2 x hx
theorem penc_bytes {l : List Int} (h : bytes l) : bytes (penc l) := fun x hx => ⟨(penc_rng h x hx).1, (penc_rng h x hx).2.1⟩
theorem penc1_len (c : Int) : 1 ≤ (penc1 c).length ∧ (penc1 c).length ≤ 3 := by
  unfold penc1
  split
  · decide
  · split <;> simp
theorem penc_len : ∀ l : List Int, l.length ≤ (penc l).length ∧ (penc l).length ≤ 3 * l.length
  | [] => by simp [penc]
  | c :: t => by
    have := penc_len t
    have := penc1_len c
    rw [penc_cons, List.length_append, List.length_cons]
    omega
theorem plus_bytes {l : List Int} (h : bytes l) : bytes (plus l) := by
  intro x hx
  obtain ⟨c, hc, rfl⟩ := List.mem_map.1 hx
  have := h c hc
  show 0 ≤ (if c = 43 then 32 else c) ∧ (if c = 43 then 32 else c) < 256
  split <;> omega
theorem pdec_facts : ∀ (n : Nat) (l : List Int), l.length ≤ n → bytes l → bytes (pdec l) ∧ (pdec l).length ≤ l.length
  | 0, l, h, hb => by
    have : l = [] := List.eq_nil_of_length_eq_zero (by omega)
    subst this
    exact ⟨hb, Nat.le_refl _⟩
  | n + 1, [], h, hb => ⟨hb, Nat.le_refl _⟩
  | n + 1, [c], h, hb => ⟨hb, Nat.le_refl _⟩
  | n + 1, [c, d], h, hb => ⟨hb, Nat.le_refl _⟩
  | n + 1, c :: a :: b :: t, h, hb => by
    have d1 := dg_rng a
    have d2 := dg_rng b
    have hc := hb c List.mem_cons_self
    rw [pdec]
    by_cases q : c = 37 ∧ 0 ≤ dg a ∧ 0 ≤ dg b
    · rw [if_pos q]
      obtain ⟨h1, h2⟩ := pdec_facts n t (by simp only [List.length_cons] at h; omega) (fun x hx => hb x (by simp [hx]))
      refine ⟨fun x hx => ?_, by simp only [List.length_cons]; omega⟩
      rcases List.mem_cons.1 hx with rfl | hx
      · omega
      · exact h1 x hx
    · rw [if_neg q]
      obtain ⟨h1, h2⟩ := pdec_facts n (a :: b :: t) (by simp only [List.length_cons] at h ⊢; omega) (fun x hx => hb x (List.mem_cons_of_mem _ hx))
      refine ⟨fun x hx => ?_, by simp only [List.length_cons] at h2 ⊢; omega⟩
      rcases List.mem_cons.1 hx with rfl | hx
      · exact hc
      · exact h1 x hx
/-! a word of a query -/
def wordI (l : List Int) : List Int := losR (pdec (plus l)).length (pdec (plus l)) []
def wordU (l : List UInt8) : List UInt8 := U (ens (wordI (I l)))
theorem wordI_sc {l : List Int} (h : bytes l) : ∀ c ∈ wordI l, sc c = true :=
  (losR_sc _ _ [] (pdec_facts _ _ (Nat.le_refl _) (plus_bytes h)).1 (by simp)).1
theorem wordI_len {l : List Int} (h : bytes l) : (wordI l).length ≤ l.length := by
  have h1 := pdec_facts _ _ (Nat.le_refl _) (plus_bytes h)
  have h2 := (losR_sc (pdec (plus l)).length _ [] h1.1 (by simp)).2
  have h3 : (plus l).length = l.length := List.length_map _
  simp only [List.length_nil] at h2
  unfold wordI
  omega
/-- A text of signs: its bytes are those of scalar values. -/
def Sg (l : List UInt8) : Prop := ∃ v : List Int, (∀ c ∈ v, sc c = true) ∧ I l = ens v
theorem ens_app (a b : List Int) : ens (a ++ b) = ens a ++ ens b := List.flatMap_append
theorem Sg.app {a b : List UInt8} (h : Sg a) (k : Sg b) : Sg (a ++ b) := by
  obtain ⟨v, h1, h2⟩ := h
  obtain ⟨w, k1, k2⟩ := k
  refine ⟨v ++ w, fun c hc => ?_, by rw [I_app, h2, k2, ens_app]⟩
  rcases List.mem_append.1 hc with m | m
  · exact h1 c m
  · exact k1 c m
theorem Sg.word (l : List UInt8) : Sg (wordU l) :=
  ⟨wordI (I l), wordI_sc (I_bytes l), I_U _ (ens_bytes (wordI_sc (I_bytes l)))⟩
theorem wordU_penc {n : List UInt8} (h : Sg n) : wordU (U (penc (I n))) = n := by
  obtain ⟨v, h1, h2⟩ := h
  unfold wordU wordI
  rw [I_U _ (penc_bytes (I_bytes n)), pdec_penc _ (I_bytes n), h2, losR_en v _ [] h1 (Nat.le_refl _), List.nil_append, ← h2, U_I]
theorem ens_tail : ∀ (w v : List Int) (b : List Int), (∀ c ∈ w, sc c = true) → (∀ c ∈ v, sc c = true) → ens w ++ b = ens v → ∃ u, (∀ c ∈ u, sc c = true) ∧ b = ens u
  | [], v, b, _, hv, h => ⟨v, hv, h⟩
  | c :: w, [], b, hw, _, h => by
    have e : ens (c :: w) = en c ++ ens w := rfl
    have := en_len c
    have h := congrArg List.length h
    have e0 : (ens ([] : List Int)).length = 0 := rfl
    rw [e, List.length_append, List.length_append] at h
    omega
  | c :: w, d :: v, b, hw, hv, h => by
    have e : ens (c :: w) ++ b = en c ++ (ens w ++ b) := by rw [show ens (c :: w) = en c ++ ens w from rfl, List.append_assoc]
    have e2 : ens (d :: v) = en d ++ ens v := rfl
    rw [e, e2] at h
    have n1 := nx_en c (ens w ++ b) (hw c List.mem_cons_self)
    have n2 := nx_en d (ens v) (hv d List.mem_cons_self)
    rw [h, n2] at n1
    have hcd : d = c := congrArg (fun x : Int × Int × Bool => x.1) n1
    subst hcd
    exact ens_tail w v b (fun x hx => hw x (List.mem_cons_of_mem _ hx)) (fun x hx => hv x (List.mem_cons_of_mem _ hx)) (List.append_cancel_left h)
theorem Sg.tail {a b : List UInt8} (h : Sg (a ++ b)) (k : Sg a) : Sg b := by
  obtain ⟨v, h1, h2⟩ := h
  obtain ⟨w, k1, k2⟩ := k
  rw [I_app, k2] at h2
  obtain ⟨u, u1, u2⟩ := ens_tail w v _ k1 h1 h2
  exact ⟨u, u1, u2⟩
theorem Sg.small {l : List UInt8} (h : ∀ c ∈ l, c.toNat < 128) : Sg l := by
  have e : ∀ v : List Int, (∀ c ∈ v, 0 ≤ c ∧ c < 128) → ens v = v := by
    intro v
    induction v with
    | nil => intro _; rfl
    | cons c t ih =>
      intro hv
      have := hv c List.mem_cons_self
      show en c ++ ens t = _
      rw [en1 (by omega), ih (fun x hx => hv x (List.mem_cons_of_mem _ hx))]; rfl
  have r : ∀ c ∈ I l, 0 ≤ c ∧ c < 128 := fun c hc => by
    obtain ⟨d, hd, rfl⟩ := List.mem_map.1 hc
    have := h d hd
    omega
  exact ⟨I l, fun c hc => by have := r c hc; exact sc_iff.2 (by omega), (e _ r).symm⟩
/-! pieces, pairs -/
theorem spl_app (c : UInt8) (t : List UInt8) : ∀ s : List UInt8, spl c (s ++ c :: t) = spl c s ++ spl c t
  | [] => by simp [spl]
  | b :: s => by
    have ih := spl_app c t s
    have hne := spl_ne c s
    rw [List.cons_append, spl, spl]
    by_cases hb : b = c
    · rw [if_pos hb, if_pos hb, ih]; rfl
    · rw [if_neg hb, if_neg hb, ih]
      cases hs : spl c s with
      | nil => exact absurd hs hne
      | cons p r => rfl
def Pc (l : List UInt8) : List (List UInt8) := (spl 38 l).filter fun p => !p.isEmpty
theorem Pc_app (s t : List UInt8) : Pc (s ++ 38 :: t) = Pc s ++ Pc t := by unfold Pc; rw [spl_app, List.filter_append]
theorem Pc_nil : Pc [] = [] := rfl
theorem Pc_ands : ∀ n : Nat, Pc (List.replicate n 38) = []
  | 0 => rfl
  | n + 1 => by
    have := Pc_app [] (List.replicate n 38)
    rw [List.nil_append] at this
    rw [List.replicate_succ, this, Pc_nil, Pc_ands n]; rfl
theorem Pc_lead (s : List UInt8) : ∀ n : Nat, Pc (List.replicate n 38 ++ s) = Pc s
  | 0 => rfl
  | n + 1 => by
    have := Pc_app [] (List.replicate n 38 ++ s)
    rw [List.nil_append] at this
    rw [List.replicate_succ, List.cons_append, this, Pc_nil, Pc_lead s n]; rfl
theorem Pc_trail (s : List UInt8) : ∀ n : Nat, Pc (s ++ List.replicate n 38) = Pc s
  | 0 => by rw [List.replicate_zero, List.append_nil]
  | n + 1 => by rw [List.replicate_succ, Pc_app, Pc_ands, List.append_nil]
theorem Pc_one {p : List UInt8} (h0 : p ≠ []) (h : (38 : UInt8) ∉ p) : Pc p = [p] := by
  unfold Pc
  rw [spl_whole 38 p h]
  cases p with
  | nil => exact absurd rfl h0
  | cons a t => rfl
def joinA : List (List UInt8) → List UInt8
  | [] => []
  | [p] => p
  | p :: q :: r => p ++ 38 :: joinA (q :: r)
theorem Pc_join : ∀ ps : List (List UInt8), (∀ p ∈ ps, p ≠ [] ∧ (38 : UInt8) ∉ p) → Pc (joinA ps) = ps
  | [], _ => rfl
  | [p], h => Pc_one (h p (by simp)).1 (h p (by simp)).2
  | p :: q :: r, h => by
    rw [joinA, Pc_app, Pc_one (h p (by simp)).1 (h p (by simp)).2, Pc_join (q :: r) (fun x hx => h x (List.mem_cons_of_mem _ hx))]; rfl
theorem cutL_of : ∀ (p r : List UInt8), (61 : UInt8) ∉ p → cutL (p ++ 61 :: r) = (p, r, true)
  | [], r, _ => by rw [List.nil_append, cutL, if_pos rfl]
  | b :: p, r, h => by
    have hb : b ≠ 61 := fun e => h (by simp [e])
    rw [List.cons_append, cutL, if_neg hb, cutL_of p r (fun e => h (by simp [e]))]
def pairU (p : List UInt8) : List UInt8 × List UInt8 := (wordU (cutL p).1, wordU (cutL p).2.1)
def pieceU (x : List UInt8 × List UInt8) : List UInt8 := U (penc (I x.1)) ++ 61 :: U (penc (I x.2))
theorem U_penc_no (l : List UInt8) : (38 : UInt8) ∉ U (penc (I l)) ∧ (61 : UInt8) ∉ U (penc (I l)) := by
  have h : ∀ d : UInt8, d ∈ U (penc (I l)) → d ≠ 38 ∧ d ≠ 61 := by
    intro d hd
    obtain ⟨x, hx, rfl⟩ := List.mem_map.1 hd
    have r := penc_rng (I_bytes l) x hx
    have e : (UInt8.ofNat x.toNat).toNat = x.toNat := UInt8.toNat_ofNat_of_lt' (by show x.toNat < 256; omega)
    refine ⟨fun q => ?_, fun q => ?_⟩
    · have := congrArg UInt8.toNat q
      rw [e] at this
      have : x.toNat = 38 := this
      omega
    · have := congrArg UInt8.toNat q
      rw [e] at this
      have : x.toNat = 61 := this
      omega
  exact ⟨fun q => (h _ q).1 rfl, fun q => (h _ q).2 rfl⟩
theorem piece_facts (x : List UInt8 × List UInt8) : pieceU x ≠ [] ∧ (38 : UInt8) ∉ pieceU x := by
  refine ⟨by simp [pieceU], fun q => ?_⟩
  rcases List.mem_append.1 q with q | q
  · exact (U_penc_no x.1).1 q
  · rcases List.mem_cons.1 q with q | q
    · exact absurd q (by decide)
    · exact (U_penc_no x.2).1 q
theorem pair_piece {x : List UInt8 × List UInt8} (h1 : Sg x.1) (h2 : Sg x.2) : pairU (pieceU x) = x := by
  unfold pairU pieceU
  rw [cutL_of _ _ (U_penc_no x.1).2, wordU_penc h1, wordU_penc h2]
def pairsU (l : List UInt8) : List (List UInt8 × List UInt8) := (Pc l).map pairU
def printU (l : List (List UInt8 × List UInt8)) : List UInt8 := joinA (l.map pieceU)
theorem pairs_print {l : List (List UInt8 × List UInt8)} (h : ∀ x ∈ l, Sg x.1 ∧ Sg x.2) : pairsU (printU l) = l := by
  unfold pairsU printU
  rw [Pc_join _ (fun p hp => by obtain ⟨x, -, rfl⟩ := List.mem_map.1 hp; exact piece_facts x), List.map_map]
  conv => rhs; rw [← List.map_id l]
  apply List.map_congr_left
  intro x hx
  exact pair_piece (h x hx).1 (h x hx).2
theorem pairs_sg (l : List UInt8) : ∀ x ∈ pairsU l, Sg x.1 ∧ Sg x.2 := by
  intro x hx
  obtain ⟨p, -, rfl⟩ := List.mem_map.1 hx
  exact ⟨Sg.word _, Sg.word _⟩
theorem Pc_len (l : List UInt8) : (Pc l).length ≤ (spl 38 l).length := List.length_filter_le _ _
theorem i64w (n : Int) (h₀ : 0 ≤ n) (h₁ : n < 2 ^ 63) : IntKind.i64.wrap n = n := by rw [IntKind.wrap_i64]; omega
theorem and63 (x : Int) (h0 : 0 ≤ x) (h1 : x < 9223372036854775808) : Go.bits .and .i64 x 63 = x % 64 := Go.bits_mask .i64 63 (by decide) i64w 6 (by decide) x h0 h1
theorem and31 (x : Int) (h0 : 0 ≤ x) (h1 : x < 9223372036854775808) : Go.bits .and .i64 x 31 = x % 32 := Go.bits_mask .i64 63 (by decide) i64w 5 (by decide) x h0 h1
theorem and15 (x : Int) (h0 : 0 ≤ x) (h1 : x < 9223372036854775808) : Go.bits .and .i64 x 15 = x % 16 := Go.bits_mask .i64 63 (by decide) i64w 4 (by decide) x h0 h1
theorem and7 (x : Int) (h0 : 0 ≤ x) (h1 : x < 9223372036854775808) : Go.bits .and .i64 x 7 = x % 8 := Go.bits_mask .i64 63 (by decide) i64w 3 (by decide) x h0 h1
theorem or128 (y : Int) (h0 : 0 ≤ y) (h1 : y < 64) : Go.bits .or .i64 128 y = 128 + y :=
  Go.bits_join .i64 63 (by decide) i64w 6 128 y (by decide) (by decide) (by decide) h0 h1 (by omega)
theorem or192 (y : Int) (h0 : 0 ≤ y) (h1 : y < 32) : Go.bits .or .i64 192 y = 192 + y :=
  Go.bits_join .i64 63 (by decide) i64w 5 192 y (by decide) (by decide) (by decide) h0 h1 (by omega)
theorem or224 (y : Int) (h0 : 0 ≤ y) (h1 : y < 16) : Go.bits .or .i64 224 y = 224 + y :=
  Go.bits_join .i64 63 (by decide) i64w 4 224 y (by decide) (by decide) (by decide) h0 h1 (by omega)
theorem or240 (y : Int) (h0 : 0 ≤ y) (h1 : y < 8) : Go.bits .or .i64 240 y = 240 + y :=
  Go.bits_join .i64 63 (by decide) i64w 3 240 y (by decide) (by decide) (by decide) h0 h1 (by omega)
theorem orsix (x y : Int) (hx : 0 ≤ x) (hx1 : x < 100000000000000000) (h0 : 0 ≤ y) (h1 : y < 64) : Go.bits .or .i64 (x * 64) y = x * 64 + y :=
  Go.bits_join .i64 63 (by decide) i64w 6 (x * 64) y (by omega) (by omega) (by omega) h0 h1 (by omega)
theorem Scalar_ok (c : Int) : utf_Scalar.f c = some (sc c) := by
  unfold utf_Scalar.f sc
  by_cases h1 : c ≥ 0 <;> by_cases h2 : c ≤ 1114111 <;> by_cases h3 : c < 55296 <;> simp [h1, h2, h3] <;> omega
theorem lay_ok (l : List Int) (c : Int) (h : sc c = true) (hl : l.length < 140737488355000) : utf_lay.f l c = some (l ++ en c) := by
  have h' := sc_iff.1 h
  unfold utf_lay.f en
  by_cases h1 : c < 128
  · rw [if_pos h1, if_pos h1, if_pos (by omega), Int.emod_eq_of_lt (by omega) (by omega)]
  · rw [if_neg h1, if_neg h1, and63 c (by omega) (by omega), and63 (c / 64) (by omega) (by omega), and63 (c / 4096) (by omega) (by omega), or128 (c % 64) (by omega) (by omega), or128 (c / 64 % 64) (by omega) (by omega), or128 (c / 4096 % 64) (by omega) (by omega)]
    by_cases h2 : c < 2048
    · rw [if_pos h2, if_pos h2, or192 (c / 64) (by omega) (by omega), Int.emod_eq_of_lt (a := 192 + c / 64) (by omega) (by omega), Int.emod_eq_of_lt (a := 128 + c % 64) (by omega) (by omega)]
      simp only [Option.bind_some, List.length_cons, List.length_nil]
      rw [if_pos (by omega)]
    · rw [if_neg h2, if_neg h2]
      by_cases h3 : c < 65536
      · rw [if_pos h3, if_pos h3, or224 (c / 4096) (by omega) (by omega), Int.emod_eq_of_lt (a := 224 + c / 4096) (by omega) (by omega), Int.emod_eq_of_lt (a := 128 + c / 64 % 64) (by omega) (by omega), Int.emod_eq_of_lt (a := 128 + c % 64) (by omega) (by omega)]
        simp only [Option.bind_some, List.length_cons, List.length_nil]
        rw [if_pos (by omega)]
      · rw [if_neg h3, if_neg h3, or240 (c / 262144) (by omega) (by omega), Int.emod_eq_of_lt (a := 240 + c / 262144) (by omega) (by omega), Int.emod_eq_of_lt (a := 128 + c / 4096 % 64) (by omega) (by omega), Int.emod_eq_of_lt (a := 128 + c / 64 % 64) (by omega) (by omega), Int.emod_eq_of_lt (a := 128 + c % 64) (by omega) (by omega)]
        simp only [Option.bind_some, List.length_cons, List.length_nil]
        rw [if_pos (by omega)]
theorem lead_ok (x : Int) : Ev (fun k => utf_lead.f k x) (ld x) := by
  refine Ev.at 2 fun k => ?_
  unfold utf_lead.f ld
  by_cases h1 : x < 128
  · rw [if_pos h1, if_pos h1]
  · rw [if_neg h1, if_neg h1]
    simp only [utf_lead.j0, utf_lead.j1]
    by_cases h2 : x ≥ 194 <;> by_cases h3 : x ≤ 223 <;> by_cases h4 : x = 224 <;> by_cases h5 : x = 237 <;> by_cases h6 : x ≥ 225 <;> by_cases h7 : x ≤ 239 <;> by_cases h8 : x = 240 <;> by_cases h9 : x = 244 <;> by_cases h10 : x ≥ 241 <;> by_cases h11 : x ≤ 243 <;> first | (exfalso; omega) | simp [*]
theorem next_loop (b : List Int) (m : Int) (hb : b.length ≤ 4000000) (hy : bytes b) : ∀ (r : Nat) (suf : List Int) (i : Nat) (lo hi acc : Int), b.drop i = suf → m - i + 1 = r → r ≤ 3 → m ≤ 3 → 0 ≤ acc → acc < 64 ^ (4 - r) → i ≤ b.length →
    Ev (fun k => utf_next.l0 k b m lo hi acc i) (ct suf r lo hi acc i)
  | 0, suf, i, lo, hi, acc, hs, hr, _, hi5, h0, h1, _ => by
    rw [ct_end]
    refine Ev.succ (Ev.neg (by omega) ?_)
    rw [wrap_id (by omega) (by omega)]
    exact Ev.konst (by congr; omega)
  | r + 1, [], i, lo, hi, acc, hs, hr, hr3, hi5, h0, h1, hl => by
    have := drop_nil hs
    exact Ev.succ (Ev.pos (by omega) (Ev.pos (by omega) (Ev.now _)))
  | r + 1, y :: t, i, lo, hi, acc, hs, hr, hr3, hi5, h0, h1, hl => by
    obtain ⟨hlt, hc, ht⟩ := drop_cons hs
    have hyy := hy y (List.mem_of_getElem? hc)
    refine Ev.succ (Ev.pos (by omega) (Ev.neg (by omega) (Ev.pos (by omega) (Ev.pos (by omega) ?_))))
    rw [rd_of hc, ct]
    by_cases h2 : y < lo
    · rw [if_pos (.inl h2)]; exact Ev.pos h2 (Ev.now _)
    · by_cases h3 : y > hi
      · rw [if_pos (.inr h3)]; exact Ev.neg h2 (Ev.pos h3 (Ev.now _))
      · rw [if_neg (by omega)]
        refine Ev.neg h2 (Ev.neg h3 ?_)
        have hp : (64 : Int) ^ (4 - (r + 1)) * 64 = 64 ^ (4 - r) := by rw [← Int.pow_succ]; congr 1; omega
        have hq : (64 : Int) ^ (4 - (r + 1)) ≤ 64 ^ 3 := by
          have : r = 0 ∨ r = 1 ∨ r = 2 := by omega
          rcases this with rfl | rfl | rfl <;> decide
        have h64 : (64 : Int) ^ 3 = 262144 := by decide
        rw [wrap_id (x := acc * 64) (by omega) (by omega), wrap_id (x := y) (by omega) (by omega), and63 y (by omega) (by omega), orsix acc (y % 64) h0 (by omega) (by omega) (by omega), wrap_id (x := (i : Int) + 1) (by omega) (by omega), cast_succ]
        exact next_loop b m hb hy r t (i + 1) 128 191 _ ht (by omega) (by omega) (by omega) (by omega) (by omega) (by omega)
theorem next_ok (b : List Int) (hb : b.length ≤ 4000000) (hy : bytes b) (hne : b ≠ []) : Ev (fun k => utf_next.f k b) (nx b) := by
  cases b with
  | nil => exact absurd rfl hne
  | cons x t =>
    have hx := hy x (by simp)
    have h0 : rd (x :: t) 0 = x := rfl
    unfold utf_next.f
    refine Ev.pos (by simp only [List.length_cons]; omega) ?_
    rw [h0]
    refine Ev.bind (lead_ok x) ?_
    have go : ∀ (m : Nat) lo hi acc, ld x = ((m : Int), lo, hi) → 1 ≤ m → m ≤ 3 → Go.bits .and .i64 x (shr .i64 63 m) = acc → 0 ≤ acc → acc < 64 → Ev (fun k => utf_next.l0 k (x :: t) (m : Int) lo hi acc 1) (ct t m lo hi acc 1) := by
      intro m lo hi acc hl h1 h3 _ ha hb'
      have hp : acc < 64 ^ (4 - m) := by
        have : m = 1 ∨ m = 2 ∨ m = 3 := by omega
        rcases this with rfl | rfl | rfl <;> omega
      exact next_loop (x :: t) m hb hy m t 1 lo hi acc rfl (by omega) (by omega) (by omega) ha hp (by simp only [List.length_cons]; omega)
    rw [wrap_id (x := x) (by omega) (by omega)]
    have s1 : shr .i64 63 1 = 31 := by decide
    have s2 : shr .i64 63 2 = 15 := by decide
    have s3 : shr .i64 63 3 = 7 := by decide
    have f1 : ∀ lo hi, ld x = (1, lo, hi) → Ev (fun n => if (ld x).1 < 0 then some (65533, 1, false) else if (ld x).1 = 0 then some (x, 1, true) else if 0 ≤ (ld x).1 then utf_next.l0 n (x :: t) (ld x).1 (ld x).2.1 (ld x).2.2 (Go.bits .and .i64 x (shr .i64 63 (ld x).1)) 1 else none) (nx (x :: t)) := by
      intro lo hi hl
      rw [nx1 t hl, hl]
      refine Ev.neg (by simp) (Ev.neg (by simp) (Ev.pos (by simp) ?_))
      simp only
      rw [s1, and31 x (by omega) (by omega)]
      exact go 1 lo hi _ hl (by omega) (by omega) (by rw [show ((1 : Nat) : Int) = 1 from rfl, s1, and31 x (by omega) (by omega)]) (by omega) (by omega)
    have f2 : ∀ lo hi, ld x = (2, lo, hi) → Ev (fun n => if (ld x).1 < 0 then some (65533, 1, false) else if (ld x).1 = 0 then some (x, 1, true) else if 0 ≤ (ld x).1 then utf_next.l0 n (x :: t) (ld x).1 (ld x).2.1 (ld x).2.2 (Go.bits .and .i64 x (shr .i64 63 (ld x).1)) 1 else none) (nx (x :: t)) := by
      intro lo hi hl
      rw [nx2 t hl, hl]
      refine Ev.neg (by simp) (Ev.neg (by simp) (Ev.pos (by simp) ?_))
      simp only
      rw [s2, and15 x (by omega) (by omega)]
      exact go 2 lo hi _ hl (by omega) (by omega) (by rw [show ((2 : Nat) : Int) = 2 from rfl, s2, and15 x (by omega) (by omega)]) (by omega) (by omega)
    have f3 : ∀ lo hi, ld x = (3, lo, hi) → Ev (fun n => if (ld x).1 < 0 then some (65533, 1, false) else if (ld x).1 = 0 then some (x, 1, true) else if 0 ≤ (ld x).1 then utf_next.l0 n (x :: t) (ld x).1 (ld x).2.1 (ld x).2.2 (Go.bits .and .i64 x (shr .i64 63 (ld x).1)) 1 else none) (nx (x :: t)) := by
      intro lo hi hl
      rw [nx3 t hl, hl]
      refine Ev.neg (by simp) (Ev.neg (by simp) (Ev.pos (by simp) ?_))
      simp only
      rw [s3, and7 x (by omega) (by omega)]
      exact go 3 lo hi _ hl (by omega) (by omega) (by rw [show ((3 : Nat) : Int) = 3 from rfl, s3, and7 x (by omega) (by omega)]) (by omega) (by omega)
    rcases ld_cases x hx.1 hx.2 with ⟨c, hl⟩ | ⟨c, hl⟩ | ⟨c, hl⟩ | ⟨c, hl⟩ | ⟨c, hl⟩ | ⟨c, hl⟩ | ⟨c, hl⟩ | ⟨c, hl⟩ | ⟨c, hl⟩
    · rw [nx0 t hl, hl]
      exact Ev.neg (by simp) (Ev.pos rfl (Ev.now _))
    · exact f1 _ _ hl
    · exact f2 _ _ hl
    · exact f2 _ _ hl
    · exact f2 _ _ hl
    · exact f3 _ _ hl
    · exact f3 _ _ hl
    · exact f3 _ _ hl
    · rw [nxm t hl, hl]
      exact Ev.pos (by simp) (Ev.now _)
theorem los_loop : ∀ (n : Nat) (b acc : List Int), b.length ≤ 4000000 → bytes b → b.length ≤ n → acc.length + b.length ≤ 4000000 →
    Ev (fun k => utf_Lossy.l0 k b acc) (losR n b acc)
  | 0, b, acc, hb, hy, hn, ha => by
    rw [losR]
    exact Ev.succ (Ev.neg (by omega) (Ev.now _))
  | n + 1, [], acc, hb, hy, hn, ha => by
    rw [losR]
    exact Ev.succ (Ev.neg (by simp) (Ev.now _))
  | n + 1, x :: s, acc, hb, hy, hn, ha => by
    have hk := nx_n hy (by simp)
    have hok := next_ok (x :: s) hb hy (by simp)
    have hlt := drop_lt hy (by simp)
    refine Ev.succ (Ev.pos (by simp only [List.length_cons]; omega) (Ev.bind hok (Ev.pos (by omega) (Ev.pos (by omega) (Ev.pos (by omega) ?_)))))
    rw [losR]
    exact los_loop n _ _ (by omega) (bytes_drop hy _) (by omega) (by simp only [List.length_append, List.length_cons, List.length_nil] at ha hlt ⊢; omega)
theorem Lossy_ok (b : List Int) (hb : b.length ≤ 4000000) (hy : bytes b) : Ev (fun k => utf_Lossy.f k b) (losR b.length b []) := by
  unfold utf_Lossy.f
  exact los_loop b.length b [] hb hy (Nat.le_refl _) (by simp; omega)
theorem Split_ok (s : ByteArray) (c : UInt8) (hs : s.size < 4294967281) : strings_Split.f s (⟨#[c]⟩ : ByteArray) = some ((spl c (B s)).map mk) := by
  unfold strings_Split.f
  rw [if_pos hs, if_pos (show (⟨#[c]⟩ : ByteArray).size = 1 from rfl), splB_eq]
theorem Cut_ok (s : ByteArray) (hs : s.size ≤ 1000000000) : strings_Cut.f s (⟨#[61]⟩ : ByteArray) = some (mk (cutL (B s)).1, mk (cutL (B s)).2.1, (cutL (B s)).2.2) := by
  unfold strings_Cut.f
  rw [if_pos (by omega)]
  show some (strings_Cut.val s 61) = _
  congr 1
  obtain ⟨h0, h1⟩ := cutL_idx (B s)
  unfold strings_Cut.val
  show (if Lib.indexByte (B s) 61 ≥ 0 then _ else _) = _
  by_cases h : Lib.indexByte (B s) 61 ≥ 0
  · rw [if_pos h] at h1 ⊢
    rw [h1]
    refine Prod.ext (B_inj ?_) (Prod.ext (B_inj ?_) rfl)
    · show B (s.extract 0 _) = _; rw [B_to]; rfl
    · show B (s.extract _ s.size) = _; rw [B_from]; rfl
  · rw [if_neg h] at h1 ⊢
    rw [h1, mk_B]; rfl
theorem repK_cons (c d b : UInt8) (h : b ≠ c) : ∀ (k : Nat) (t : List UInt8), Lib.replaceK [c] [d] k (b :: t) = b :: Lib.replaceK [c] [d] k t
  | 0, t => rfl
  | k + 1, t => by
    have hp : ([c] : List UInt8).isPrefixOf (b :: t) = false := by simp [List.isPrefixOf, Ne.symm h]
    have hix : Lib.index (b :: t) [c] = if Lib.index t [c] == -1 then -1 else Lib.index t [c] + 1 := by rw [Lib.index, hp]; simp
    have hge := Lib.index_ge t [c]
    unfold Lib.replaceK
    rw [hix]
    by_cases hm : Lib.index t [c] = -1
    · simp [hm]
    · have e1 : (Lib.index t [c] == -1) = false := by simpa using hm
      have e2 : (Lib.index t [c] + 1 == -1) = false := by simp; omega
      obtain ⟨j, hj⟩ : ∃ j : Nat, Lib.index t [c] = j := ⟨(Lib.index t [c]).toNat, by omega⟩
      rw [e1]
      simp only [Bool.false_eq_true, if_false]
      rw [e2]
      simp only [Bool.false_eq_true, if_false, hj, List.length_singleton]
      have e3 : ((j : Int) + 1).toNat = j + 1 := by omega
      rw [e3, Int.toNat_natCast]
      rfl
theorem repK_eq (c d : UInt8) : ∀ l : List UInt8, Lib.replaceK [c] [d] (Lib.count l [c]) l = l.map fun b => if b = c then d else b
  | [] => by
    have : Lib.index [] [c] = -1 := rfl
    rw [Lib.count_miss this]; rfl
  | b :: t => by
    by_cases h : b = c
    · subst h
      have hix : Lib.index (b :: t) [b] = 0 := by rw [Lib.index]; simp [List.isPrefixOf]
      rw [Lib.count_cons_eq, Nat.add_comm, Lib.replaceK, hix, List.map_cons, if_pos rfl, ← repK_eq b d t]
      rfl
    · rw [Lib.count_cons_ne b c t h, repK_cons c d b h, repK_eq c d t, List.map_cons, if_neg h]
theorem Rep_ok (s : ByteArray) (hs : s.size ≤ 1000000000) : strings_ReplaceAll.f s (⟨#[43]⟩ : ByteArray) (⟨#[32]⟩ : ByteArray) = some (mk ((B s).map fun b => if b = 43 then 32 else b)) := by
  unfold strings_ReplaceAll.f
  rw [if_pos ⟨by omega, rfl, rfl⟩]
  have e : Lib.replaceAll (B s) [43] [32] = (B s).map fun b => if b = 43 then 32 else b := by
    unfold Lib.replaceAll Lib.replace
    rw [if_neg (by decide)]
    unfold Lib.replaceNum
    rw [if_pos (Or.inl (by decide))]
    exact repK_eq 43 32 (B s)
  rw [← e]; rfl
theorem I_plus : ∀ l : List UInt8, I (l.map fun b => if b = 43 then 32 else b) = plus (I l)
  | [] => rfl
  | b :: t => by
    show ((if b = 43 then (32 : UInt8) else b).toNat : Int) :: I (t.map _) = (if (b.toNat : Int) = 43 then 32 else (b.toNat : Int)) :: plus (I t)
    rw [I_plus t]
    congr 1
    by_cases h : b = 43
    · rw [if_pos h, h]; rfl
    · rw [if_neg h, if_neg (show ¬ (b.toNat : Int) = 43 from fun q => h ((u8_eq b 43 (by omega)).1 q))]
theorem digit_all : ∀ n : Fin 256, pct_digit.f ((n.val : Nat) : Int) = some (dg ((n.val : Nat) : Int)) := by decide +kernel
theorem digit_ok (c : UInt8) : pct_digit.f (c.toNat : Int) = some (dg (c.toNat : Int)) := digit_all ⟨c.toNat, c.toNat_lt⟩
theorem hexs_all : ∀ a b : Fin 16, (Go.bits .or .i64 (wrap64 (((a.val : Nat) : Int) * 16)) ((b.val : Nat) : Int)) % 256 = ((a.val : Nat) : Int) * 16 + ((b.val : Nat) : Int) := by decide +kernel
theorem hexs {a b : Int} (a0 : 0 ≤ a) (a1 : a < 16) (b0 : 0 ≤ b) (b1 : b < 16) : (Go.bits .or .i64 (wrap64 (a * 16)) b) % 256 = a * 16 + b := by
  obtain ⟨n, rfl⟩ : ∃ n : Nat, a = n := ⟨a.toNat, by omega⟩
  obtain ⟨m, rfl⟩ : ∃ m : Nat, b = m := ⟨b.toNat, by omega⟩
  exact hexs_all ⟨n, by omega⟩ ⟨m, by omega⟩
theorem I_cons (c : UInt8) (t : List UInt8) : I (c :: t) = (c.toNat : Int) :: I t := rfl
theorem pdec_two {c : Int} {t : List Int} (h : t.length < 2) : pdec (c :: t) = c :: pdec t := by
  match t, h with
  | [], _ => rfl
  | [d], _ => rfl
theorem Dec_loop (s : ByteArray) (hs : s.size ≤ 1000000000) : ∀ (n i : Nat) (t : List UInt8) (acc : List Int), t.length ≤ n → (B s).drop i = t → acc.length ≤ i → Ev (fun k => pct_Decode.l0 k s acc (i : Int)) (acc ++ pdec (I t))
  | _, i, [], acc, _, h, ha => by
    have := end_drop h
    refine Ev.step (fun _ => pct_Decode.l0.eq_2 ..) (Ev.neg (by omega) (Ev.tell ?_))
    show acc = acc ++ []
    rw [List.append_nil]
  | 0, i, c :: t, acc, hn, h, ha => by simp only [List.length_cons] at hn; omega
  | n + 1, i, c :: t, acc, hn, h, ha => by
    obtain ⟨e1, e2, e3⟩ := bt_drop h
    simp only [List.length_cons] at hn
    have htl : s.size = i + 1 + t.length := by
      have := congrArg List.length h
      rw [List.length_drop, ← size_B, List.length_cons] at this
      omega
    have miss : pdec (I (c :: t)) = (c.toNat : Int) :: pdec (I t) → Ev (fun k => pct_Decode.l0 k s (acc ++ [bt s (i : Int)]) (wrap64 ((i : Int) + 1))) (acc ++ pdec (I (c :: t))) := fun q => by
      have ih := Dec_loop s hs n (i + 1) t (acc ++ [(c.toNat : Int)]) (by omega) e3 (by simp; omega)
      rw [wrap_id (by omega) (by omega), cast_succ, e1, q]
      rw [List.append_assoc] at ih
      exact ih
    have j1 : ∀ b : Bool, (b = false → pdec (I (c :: t)) = (c.toNat : Int) :: pdec (I t)) → (b = true → c = 37 ∧ 2 ≤ t.length) → Ev (fun k => pct_Decode.j1 k s acc (i : Int) b) (acc ++ pdec (I (c :: t))) := by
      intro b h0 h1
      refine Ev.step (fun _ => pct_Decode.j1.eq_2 ..) ?_
      cases b with
      | false => exact Ev.neg (by simp) (Ev.pos (by omega) (Ev.pos (by omega) (Ev.pos (by omega) (miss (h0 rfl)))))
      | true =>
        obtain ⟨hc, hl⟩ := h1 rfl
        match t, hl, e3, htl, miss, hn with
        | a :: d :: r, _, e3, htl, miss, hn =>
        simp only [List.length_cons] at htl hn
        obtain ⟨f1, f2, f3⟩ := bt_drop e3
        obtain ⟨g1, g2, g3⟩ := bt_drop f3
        have d1 := dg_rng (a.toNat : Int)
        have d2 := dg_rng (d.toNat : Int)
        rw [wrap_id (x := (i : Int) + 1) (by omega) (by omega), wrap_id (x := (i : Int) + 2) (by omega) (by omega)]
        rw [wrap_id (x := (i : Int) + 1) (by omega) (by omega)] at miss
        have w1 : bt s ((i : Int) + 1) = (a.toNat : Int) := f1
        have w2 : bt s ((i : Int) + 2) = (d.toNat : Int) := g1
        refine Ev.pos rfl (Ev.pos (by omega) (Ev.pos (by omega) ?_))
        rw [w1, w2]
        refine Ev.bnd (digit_ok a) (Ev.pos (by omega) (Ev.pos (by omega) (Ev.bnd (digit_ok d) ?_)))
        have no : ¬ ((c.toNat : Int) = 37 ∧ 0 ≤ dg (a.toNat : Int) ∧ 0 ≤ dg (d.toNat : Int)) → pdec (I (c :: a :: d :: r)) = (c.toNat : Int) :: pdec (I (a :: d :: r)) := fun q => by
          rw [I_cons, I_cons, I_cons, pdec, if_neg q]
        by_cases q1 : dg (a.toNat : Int) ≥ 0
        · refine Ev.pos q1 ?_
          by_cases q2 : dg (d.toNat : Int) ≥ 0
          · refine Ev.pos q2 (Ev.pos (by omega) ?_)
            have ih := Dec_loop s hs n (i + 3) r (acc ++ [dg (a.toNat : Int) * 16 + dg (d.toNat : Int)]) (by omega) g3 (by simp; omega)
            rw [hexs (by omega) (by omega) (by omega) (by omega), wrap_id (x := (i : Int) + 2 + 1) (by omega) (by omega)]
            have e37 : (c.toNat : Int) = 37 := by rw [hc]; rfl
            rw [I_cons, I_cons, I_cons, e37, pdec_hit (by omega) (by omega)]
            rw [List.append_assoc] at ih
            exact ih
          · exact Ev.neg q2 (Ev.pos (by omega) (Ev.pos (by omega) (Ev.pos (by omega) (miss (no (fun z => q2 z.2.2))))))
        · exact Ev.neg q1 (Ev.pos (by omega) (Ev.pos (by omega) (Ev.pos (by omega) (miss (no (fun z => q1 z.2.1))))))
    refine Ev.step (fun _ => pct_Decode.l0.eq_2 ..) (Ev.pos (by omega) (Ev.pos (by omega) ?_))
    rw [e1]
    by_cases hc : (c.toNat : Int) = 37
    · refine Ev.pos hc (j1 _ (fun hb => ?_) (fun hb => ?_))
      · have := of_decide_eq_false hb
        rw [wrap_id (by omega) (by omega)] at this
        rw [I_cons]
        exact pdec_two (by rw [I_len]; omega)
      · have := of_decide_eq_true hb
        rw [wrap_id (by omega) (by omega)] at this
        exact ⟨(u8_eq c 37 (by omega)).1 hc, by omega⟩
    · refine Ev.neg hc (j1 _ (fun _ => ?_) (fun hb => by cases hb))
      rw [I_cons]
      exact pdec_cons hc _
theorem Dec_ok (s : ByteArray) (hs : s.size ≤ 1000000000) : Ev (fun k => pct_Decode.f k s) (pdec (I (B s))) := by
  have := Dec_loop s hs (B s).length 0 (B s) [] (Nat.le_refl _) rfl (by simp)
  rw [List.nil_append] at this
  exact this
theorem Text_loop (l : List Int) (hl : l.length ≤ 1000000) (hs : ∀ c ∈ l, sc c = true) : ∀ (t : List Int) (i : Nat) (acc : List Int), l.drop i = t → acc.length ≤ 4 * i → Ev (fun k => utf_Text.l0 k acc l (l.length : Int) (i : Int)) (mk (U (acc ++ ens t)))
  | [], i, acc, h, ha => by
    have := drop_nil h
    refine Ev.step (fun _ => utf_Text.l0.eq_2 ..) (Ev.neg (by omega) (Ev.tell ?_))
    show mk (U acc) = mk (U (acc ++ []))
    rw [List.append_nil]
  | c :: t, i, acc, h, ha => by
    obtain ⟨a1, a2, a3⟩ := drop_cons h
    have hc := hs c (List.mem_of_getElem? a2)
    have he := en_len c
    have hr : rd l (i : Int) = c := rdOf_of a2
    refine Ev.step (fun _ => utf_Text.l0.eq_2 ..) (Ev.pos (by omega) (Ev.pos (by omega) (Ev.pos (by omega) ?_)))
    rw [hr, wrap_id (x := (i : Int) + 1) (by omega) (by omega), cast_succ]
    refine Ev.bnd (Scalar_ok c) (Ev.pos hc (Ev.bnd (lay_ok acc c hc (by omega)) ?_))
    have ih := Text_loop l hl hs t (i + 1) (acc ++ en c) a3 (by rw [List.length_append]; omega)
    rw [List.append_assoc] at ih
    exact ih
theorem Word_ok (s : ByteArray) (hs : s.size ≤ 100000) : Ev (fun k => query_word.f k s) (mk (wordU (B s))) := by
  have hz : (mk ((B s).map fun b => if b = 43 then (32 : UInt8) else b)).size = s.size := by rw [size_B, B_mk, List.length_map, ← size_B]
  have hd := Dec_ok (mk ((B s).map fun b => if b = 43 then (32 : UInt8) else b)) (by omega)
  rw [B_mk, I_plus] at hd
  have f := pdec_facts _ (plus (I (B s))) (Nat.le_refl _) (plus_bytes (I_bytes _))
  have hpl : (plus (I (B s))).length = s.size := by unfold plus; rw [List.length_map, I_len, ← size_B]
  have hL := Lossy_ok (pdec (plus (I (B s)))) (by omega) f.1
  have hw := wordI_len (I_bytes (B s))
  rw [I_len, ← size_B] at hw
  have hT := Text_loop (wordI (I (B s))) (by omega) (wordI_sc (I_bytes _)) _ 0 [] rfl (by simp)
  rw [List.nil_append] at hT
  unfold query_word.f
  exact Ev.bnd (Rep_ok s (by omega)) (Ev.bind hd (Ev.bind hL (Ev.bind hT (Ev.now _))))
def toP (x : List UInt8 × List UInt8) : S33 := ⟨mk x.1, mk x.2⟩
/-- What a query says. -/
def qparse (l : List UInt8) : List S33 × Int := if (Pc l).length ≤ 256 then ((pairsU l).map toP, 0) else ([], 11)
theorem cutL_le (p : List UInt8) : (cutL p).1.length ≤ p.length ∧ (cutL p).2.1.length ≤ p.length := ⟨(cutL_len p).1, (cutL_len p).2.1⟩
theorem Parse_loop (L : List (List UInt8)) (hL : L.length ≤ 100000) (hb : ∀ p ∈ L, p.length ≤ 100000) : ∀ (t : List (List UInt8)) (i : Nat) (acc : List S33), L.drop i = t → acc.length ≤ 256 → Ev (fun k => query_Parse.l0 k acc (L.map mk) ((L.map mk).length : Int) (i : Int)) (if acc.length + (t.filter fun p => !p.isEmpty).length ≤ 256 then (acc ++ ((t.filter fun p => !p.isEmpty).map pairU).map toP, 0) else ([], 11))
  | [], i, acc, h, ha => by
    have := drop_nil h
    refine Ev.step (fun _ => query_Parse.l0.eq_2 ..) (Ev.neg (by rw [List.length_map]; omega) (Ev.tell ?_))
    rw [if_pos (by simpa using ha)]
    show (acc, (0 : Int)) = (acc ++ [], 0)
    rw [List.append_nil]
  | p :: t, i, acc, h, ha => by
    obtain ⟨a1, a2, a3⟩ := drop_cons h
    have hp := hb p (List.mem_of_getElem? a2)
    have hr : rdOf ByteArray.empty (L.map mk) (i : Int) = mk p := rdOf_of (by rw [List.getElem?_map, a2]; rfl)
    refine Ev.step (fun _ => query_Parse.l0.eq_2 ..) (Ev.pos (by rw [List.length_map]; omega) (Ev.pos (by omega) (Ev.pos (by rw [List.length_map]; omega) ?_)))
    rw [hr, wrap_id (x := (i : Int) + 1) (by omega) (by omega), cast_succ, toList_B, B_mk]
    cases p with
    | nil => exact Ev.pos rfl (Parse_loop L hL hb t (i + 1) acc a3 ha)
    | cons b q =>
      have hf : ((b :: q) :: t).filter (fun p => !p.isEmpty) = (b :: q) :: t.filter (fun p => !p.isEmpty) := rfl
      rw [hf]
      refine Ev.neg (by simp) ?_
      by_cases h256 : (acc.length : Int) ≥ 256
      · rw [if_neg (by simp only [List.length_cons]; omega)]
        exact Ev.pos h256 (Ev.now _)
      · refine Ev.neg h256 ?_
        have hc := Cut_ok (mk (b :: q)) (by rw [size_B, B_mk]; omega)
        rw [B_mk] at hc
        have cl := cutL_le (b :: q)
        have w1 := Word_ok (mk (cutL (b :: q)).1) (by rw [size_B, B_mk]; omega)
        have w2 := Word_ok (mk (cutL (b :: q)).2.1) (by rw [size_B, B_mk]; omega)
        rw [B_mk] at w1 w2
        refine Ev.bnd hc (Ev.bind w1 (Ev.bind w2 (Ev.pos (by omega) ?_)))
        have ih := Parse_loop L hL hb t (i + 1) (acc ++ [toP (pairU (b :: q))]) a3 (by simp; omega)
        have e : (if (acc ++ [toP (pairU (b :: q))]).length + (t.filter fun p => !p.isEmpty).length ≤ 256 then ((acc ++ [toP (pairU (b :: q))]) ++ ((t.filter fun p => !p.isEmpty).map pairU).map toP, (0 : Int)) else ([], 11)) = (if acc.length + ((b :: q) :: t.filter fun p => !p.isEmpty).length ≤ 256 then (acc ++ (((b :: q) :: t.filter fun p => !p.isEmpty).map pairU).map toP, 0) else ([], 11)) := by
          have e1 : (acc ++ [toP (pairU (b :: q))]).length + (t.filter fun p => !p.isEmpty).length = acc.length + ((b :: q) :: t.filter fun p => !p.isEmpty).length := by
            simp only [List.length_append, List.length_cons, List.length_nil]; omega
          rw [e1, List.append_assoc]; rfl
        rw [e] at ih
        exact ih
theorem spl_small (c : UInt8) : ∀ l : List UInt8, (spl c l).length ≤ l.length + 1 ∧ ∀ p ∈ spl c l, p.length ≤ l.length
  | [] => by simp [spl]
  | b :: t => by
    obtain ⟨h1, h2⟩ := spl_small c t
    unfold spl
    split
    · refine ⟨by simp only [List.length_cons]; omega, fun p hp => ?_⟩
      rcases List.mem_cons.1 hp with rfl | hp
      · simp
      · have := h2 p hp; simp only [List.length_cons]; omega
    · cases hs : spl c t with
      | nil => exact absurd hs (spl_ne c t)
      | cons a r =>
        rw [hs] at h1 h2
        refine ⟨by simp only [List.length_cons, List.tail_cons] at h1 ⊢; omega, fun p hp => ?_⟩
        simp only [List.headD_cons, List.tail_cons, List.mem_cons] at hp
        rcases hp with rfl | hp
        · have := h2 a List.mem_cons_self; simp only [List.length_cons]; omega
        · have := h2 p (List.mem_cons_of_mem _ hp); simp only [List.length_cons]; omega
theorem Parse_ok (s : ByteArray) (hs : s.size ≤ 4000) : Ev (fun k => query_Parse.f k s) (qparse (B s)) := by
  obtain ⟨h1, h2⟩ := spl_small 38 (B s)
  rw [← size_B] at h1 h2
  have h := Parse_loop (spl 38 (B s)) (by omega) (fun p hp => by have := h2 p hp; omega) _ 0 [] rfl (by simp)
  unfold query_Parse.f
  refine Ev.neg (by omega) (Ev.bnd (Split_ok s 38 (by omega)) ?_)
  simp only [List.length_nil, Nat.zero_add, List.nil_append, List.drop_zero] at h
  exact h
theorem first10_ok : Ev (fun k => sprlaw10_first.f k) true := Ev.of (fun k => sprlaw10_first.mono k) (k := 60) (by kernel_rfl)
instance : DecidableEq S33 := fun x y => if h : x.f0 = y.f0 ∧ x.f1 = y.f1 then isTrue (by cases x; cases y; simp_all) else isFalse (fun e => h (by subst e; exact ⟨rfl, rfl⟩))
theorem Pairs_loop (a b : List S33) (hl : a.length = b.length) (hb : a.length ≤ 1000000000) : ∀ (s t : List S33) (i : Nat), a.drop i = s → b.drop i = t → Ev (fun k => sprref_Pairs.l0 k a b (i : Int)) (decide (s = t))
  | [], t, i, h1, h2 => by
    have := drop_nil h1
    have e : t = [] := by rw [← h2]; exact List.drop_eq_nil_of_le (by omega)
    rw [e]
    exact Ev.step (fun _ => sprref_Pairs.l0.eq_2 ..) (Ev.neg (by omega) (Ev.now _))
  | x :: s, [], i, h1, h2 => by
    have := drop_nil h2
    have := (drop_cons h1).1
    omega
  | x :: s, y :: t, i, h1, h2 => by
    obtain ⟨a1, a2, a3⟩ := drop_cons h1
    obtain ⟨b1, b2, b3⟩ := drop_cons h2
    have r1 : rd_T33 a (i : Int) = x := by unfold rd_T33; rw [Int.toNat_natCast, List.getD_eq_getElem?_getD, a2]; rfl
    have r2 : rd_T33 b (i : Int) = y := by unfold rd_T33; rw [Int.toNat_natCast, List.getD_eq_getElem?_getD, b2]; rfl
    refine Ev.step (fun _ => sprref_Pairs.l0.eq_2 ..) (Ev.pos (by omega) (Ev.pos (by omega) (Ev.pos (by omega) ?_)))
    rw [r1, r2, toList_B, toList_B, toList_B, toList_B]
    by_cases e0 : x.f0 = y.f0
    · refine Ev.pos (by rw [e0]) ?_
      by_cases e1 : x.f1 = y.f1
      · refine Ev.pos (by rw [e1]) ?_
        rw [wrap_id (by omega) (by omega), cast_succ]
        have e : x = y := by cases x; cases y; cases e0; cases e1; rfl
        have ih := Pairs_loop a b hl hb s t (i + 1) a3 b3
        have e2 : decide (x :: s = y :: t) = decide (s = t) := by rw [e]; simp
        rw [e2]; exact ih
      · refine Ev.neg (fun h => e1 (B_inj h)) ?_
        rw [decide_eq_false (fun h => e1 (by rw [(List.cons.inj h).1]))]; exact Ev.now _
    · refine Ev.neg (fun h => e0 (B_inj h)) ?_
      rw [decide_eq_false (fun h => e0 (by rw [(List.cons.inj h).1]))]; exact Ev.now _
theorem Pairs_ok (a b : List S33) (hb : a.length ≤ 1000000000) : Ev (fun k => sprref_Pairs.f k a b) (decide (a = b)) := by
  unfold sprref_Pairs.f
  by_cases h : a.length = b.length
  · exact Ev.pos (by omega) (Pairs_loop a b h hb a b 0 rfl rfl)
  · refine Ev.neg (by omega) ?_
    rw [decide_eq_false (fun e => h (by rw [e]))]; exact Ev.now _
theorem plain_all : ∀ n : Fin 256, pct_plain.f ((n.val : Nat) : Int) = some (plainC ((n.val : Nat) : Int)) := by decide +kernel
theorem In_ok (k : Nat) {c : Int} (h0 : 0 ≤ c) (h1 : c < 256) : pct_In.f k 8 c = some (!plainC c) := by
  obtain ⟨n, rfl⟩ : ∃ n : Nat, c = n := ⟨c.toNat, by omega⟩
  have h : pct_plain.f (n : Int) = some (plainC (n : Int)) := plain_all ⟨n, by omega⟩
  unfold pct_In.f
  rw [if_pos rfl, h]; rfl
theorem low_all : ∀ n : Fin 256, Go.bits .and .u8 ((n.val : Nat) : Int) 15 = ((n.val : Nat) : Int) % 16 := by decide +kernel
theorem low_ok {c : Int} (h0 : 0 ≤ c) (h1 : c < 256) : Go.bits .and .u8 c 15 = c % 16 := by
  obtain ⟨n, rfl⟩ : ∃ n : Nat, c = n := ⟨c.toNat, by omega⟩
  exact low_all ⟨n, by omega⟩
theorem great_all : ∀ n : Fin 16, bt (⟨#[48, 49, 50, 51, 52, 53, 54, 55, 56, 57, 65, 66, 67, 68, 69, 70]⟩ : ByteArray) ((n.val : Nat) : Int) = great ((n.val : Nat) : Int) := by decide +kernel
theorem great_ok {c : Int} (h0 : 0 ≤ c) (h1 : c < 16) : bt (⟨#[48, 49, 50, 51, 52, 53, 54, 55, 56, 57, 65, 66, 67, 68, 69, 70]⟩ : ByteArray) c = great c := by
  obtain ⟨n, rfl⟩ : ∃ n : Nat, c = n := ⟨c.toNat, by omega⟩
  exact great_all ⟨n, by omega⟩
theorem Enc_loop (l : List Int) (hl : l.length ≤ 100000000) (hb : bytes l) : ∀ (t : List Int) (i : Nat) (acc : List Int), l.drop i = t → acc.length ≤ 3 * i → Ev (fun k => pct_Encode.l0 k 8 acc l (l.length : Int) (i : Int)) (mk (U (acc ++ penc t)))
  | [], i, acc, h, ha => by
    have := drop_nil h
    refine Ev.step (fun _ => pct_Encode.l0.eq_2 ..) (Ev.neg (by omega) (Ev.tell ?_))
    show mk (U acc) = mk (U (acc ++ []))
    rw [List.append_nil]
  | c :: t, i, acc, h, ha => by
    obtain ⟨a1, a2, a3⟩ := drop_cons h
    obtain ⟨c0, c1⟩ := hb c (List.mem_of_getElem? a2)
    have hr : rd l (i : Int) = c := rdOf_of a2
    have ih := fun (p : List Int) (hp : p.length ≤ 3) => Enc_loop l hl hb t (i + 1) (acc ++ p) a3 (by rw [List.length_append]; omega)
    refine Ev.step (fun _ => pct_Encode.l0.eq_2 ..) (Ev.pos (by omega) (Ev.pos (by omega) (Ev.pos (by omega) (Ev.pos rfl ?_))))
    rw [hr]
    refine Ev.step (fun _ => pct_Encode.j1.eq_2 ..) ?_
    rw [wrap_id (x := (i : Int) + 1) (by omega) (by omega), cast_succ, penc_cons, ← List.append_assoc]
    by_cases h32 : c = 32
    · have e : penc1 c = [43] := by unfold penc1; rw [if_pos h32]
      rw [e]
      exact Ev.pos (by rw [h32]; rfl) (Ev.pos (by omega) (ih [43] (by decide)))
    · refine Ev.neg (by simpa using h32) ?_
      refine Ev.bind (Ev.of (fun k => pct_In.mono _ _ k) (k := 0) (In_ok 0 c0 c1)) ?_
      cases hp : plainC c with
      | true =>
        have e : penc1 c = [c] := by unfold penc1; rw [if_neg h32, if_pos hp]
        rw [e]
        exact Ev.neg (by simp) (Ev.pos (by omega) (ih [c] (by simp)))
      | false =>
        have e : penc1 c = [37, great (c / 16), great (c % 16)] := by unfold penc1; rw [if_neg h32, if_neg (by rw [hp]; simp)]
        rw [e, low_ok c0 c1, great_ok (c := c / 16) (by omega) (by omega), great_ok (c := c % 16) (by omega) (by omega)]
        exact Ev.pos rfl (Ev.pos (by omega) (Ev.pos (by omega) (Ev.pos (by omega) (Ev.pos (by omega) (Ev.bnd rfl (Ev.pos (by simp only [List.length_cons, List.length_nil]; omega) (ih [37, great (c / 16), great (c % 16)] (by simp))))))))
theorem Enc_ok (s : ByteArray) (hs : s.size ≤ 100000000) : Ev (fun k => pct_Encode.f k 8 (bytesOf s)) (mk (U (penc (I (B s))))) := by
  have h := Enc_loop (I (B s)) (by rw [I_len, ← size_B]; exact hs) (I_bytes _) _ 0 [] rfl (by simp)
  rw [List.nil_append] at h
  exact h
def pr (x : S33) : List UInt8 × List UInt8 := (B x.f0, B x.f1)
theorem toP_pr (x : S33) : toP (pr x) = x := rfl
theorem map_pr (l : List S33) : (l.map pr).map toP = l := by
  rw [List.map_map]
  conv => rhs; rw [← List.map_id l]
  rfl
theorem map_toP (l : List (List UInt8 × List UInt8)) : (l.map toP).map pr = l := by
  rw [List.map_map]
  conv => rhs; rw [← List.map_id l]
  rfl
theorem join_A : ∀ L : List (List UInt8), Lib.join L [38] = joinA L
  | [] => rfl
  | [p] => by rw [Lib.join_one]; rfl
  | p :: q :: r => by
    have ih := join_A (q :: r)
    rw [Lib.join_cons] at ih
    rw [Lib.join_cons, joinA, ← ih]
    show p ++ ((List.map ([38] ++ ·) (q :: r)).flatten) = _
    rw [List.map_cons, List.flatten_cons]; rfl
theorem joinA_len : ∀ L : List (List UInt8), (joinA L).length ≤ (L.map fun p => p.length + 1).sum
  | [] => by simp [joinA]
  | [p] => by simp [joinA]
  | p :: q :: r => by
    have ih := joinA_len (q :: r)
    rw [joinA, List.map_cons, List.sum_cons, List.length_append, List.length_cons]
    omega
theorem piece_len (x : List UInt8 × List UInt8) : (pieceU x).length ≤ 3 * x.1.length + 3 * x.2.length + 1 := by
  have h1 := (penc_len (I x.1)).2
  have h2 := (penc_len (I x.2)).2
  rw [I_len] at h1 h2
  unfold pieceU
  rw [List.length_append, List.length_cons, U_len, U_len]
  omega
theorem B_piece (x : S33) : B ((mk (U (penc (I (B x.f0)))) ++ (⟨#[61]⟩ : ByteArray)) ++ mk (U (penc (I (B x.f1))))) = pieceU (pr x) := by
  rw [B_append, B_append, List.append_assoc]; rfl
theorem Print_loop10 (l : List S33) (hl : l.length ≤ 1000000) (hz : ∀ x ∈ l, x.f0.size ≤ 10000000 ∧ x.f1.size ≤ 10000000) : ∀ (t : List S33) (i : Nat) (acc : List ByteArray), l.drop i = t → acc.length ≤ i ∧ acc.length ≤ l.length → (joinA (acc.map B ++ t.map fun x => pieceU (pr x))).length ≤ 140737488355328 →
    Ev (fun k => query_Print.l0 k acc l (l.length : Int) (i : Int)) (mk (joinA (acc.map B ++ t.map fun x => pieceU (pr x))))
  | [], i, acc, h, ha, hj => by
    have := drop_nil h
    rw [List.map_nil, List.append_nil] at hj ⊢
    refine Ev.step (fun _ => query_Print.l0.eq_2 ..) (Ev.neg (by omega) ?_)
    have e : strings_Join.f acc (⟨#[38]⟩ : ByteArray) = some (mk (joinA (acc.map B))) := by
      unfold strings_Join.f
      have q : Lib.join (acc.map (·.data.toList)) [38] = joinA (acc.map B) := join_A _
      show (if acc.length ≤ 140737488355328 ∧ (Lib.join (acc.map (·.data.toList)) [38]).length ≤ 140737488355328 then some (mk (Lib.join (acc.map (·.data.toList)) [38])) else none) = _
      rw [q, if_pos (show acc.length ≤ 140737488355328 ∧ (joinA (acc.map B)).length ≤ 140737488355328 from ⟨by omega, hj⟩)]
    exact Ev.konst e
  | x :: t, i, acc, h, ha, hj => by
    obtain ⟨a1, a2, a3⟩ := drop_cons h
    obtain ⟨z0, z1⟩ := hz x (List.mem_of_getElem? a2)
    have hr : rd_T33 l (i : Int) = x := by unfold rd_T33; rw [Int.toNat_natCast, List.getD_eq_getElem?_getD, a2]; rfl
    have p0 := (penc_len (I (B x.f0))).2
    have p1 := (penc_len (I (B x.f1))).2
    rw [I_len, ← size_B] at p0 p1
    have s0 : (mk (U (penc (I (B x.f0))))).size = (penc (I (B x.f0))).length := by rw [size_B, B_mk, U_len]
    have s1 : (mk (U (penc (I (B x.f1))))).size = (penc (I (B x.f1))).length := by rw [size_B, B_mk, U_len]
    have s2 : (⟨#[61]⟩ : ByteArray).size = 1 := rfl
    refine Ev.step (fun _ => query_Print.l0.eq_2 ..) (Ev.pos (by omega) (Ev.pos (by omega) (Ev.pos (by omega) ?_)))
    rw [hr, wrap_id (x := (i : Int) + 1) (by omega) (by omega), cast_succ]
    have ih := Print_loop10 l hl hz t (i + 1) (acc ++ [(mk (U (penc (I (B x.f0)))) ++ (⟨#[61]⟩ : ByteArray)) ++ mk (U (penc (I (B x.f1))))]) a3 (by simp only [List.length_append, List.length_cons, List.length_nil]; omega)
    have e : (acc ++ [(mk (U (penc (I (B x.f0)))) ++ (⟨#[61]⟩ : ByteArray)) ++ mk (U (penc (I (B x.f1))))]).map B ++ t.map (fun x => pieceU (pr x)) = acc.map B ++ (x :: t).map fun x => pieceU (pr x) := by
      rw [List.map_append, List.map_cons, List.map_nil, B_piece, List.append_assoc]; rfl
    rw [e] at ih
    exact Ev.pos (by omega) (Ev.bind (Enc_ok x.f0 (by omega)) (Ev.pos (by omega) (Ev.bind (Enc_ok x.f1 (by omega)) (Ev.pos (by rw [ByteArray.size_append]; omega) (Ev.pos (by omega) (ih hj))))))
theorem sum_pieces : ∀ (l : List S33) (M : Nat), (∀ x ∈ l, x.f0.size ≤ M ∧ x.f1.size ≤ M) → ((l.map fun x => pieceU (pr x)).map fun p => p.length + 1).sum ≤ l.length * (6 * M + 2)
  | [], M, _ => by simp
  | x :: t, M, h => by
    have ih := sum_pieces t M (fun y hy => h y (List.mem_cons_of_mem _ hy))
    obtain ⟨h0, h1⟩ := h x List.mem_cons_self
    have hp := piece_len (pr x)
    have e0 : (pr x).1.length = x.f0.size := (size_B _).symm
    have e1 : (pr x).2.length = x.f1.size := (size_B _).symm
    rw [List.map_cons, List.map_cons, List.sum_cons, List.length_cons, Nat.succ_mul]
    omega
theorem Print_ok10 (l : List S33) (M : Nat) (hM : M ≤ 10000000) (hl : l.length ≤ 1000000) (hz : ∀ x ∈ l, x.f0.size ≤ M ∧ x.f1.size ≤ M) : Ev (fun k => query_Print.f k l) (mk (printU (l.map pr))) := by
  have e : printU (l.map pr) = joinA (l.map fun x => pieceU (pr x)) := by unfold printU; rw [List.map_map]; rfl
  have h1 := joinA_len (l.map fun x => pieceU (pr x))
  have h2 := sum_pieces l M hz
  have h3 : l.length * (6 * M + 2) ≤ 1000000 * 60000002 := Nat.mul_le_mul hl (by omega)
  have h := Print_loop10 l hl (fun x hx => by have := hz x hx; omega) l 0 [] rfl ⟨by simp, by simp⟩ (by rw [List.map_nil, List.nil_append]; omega)
  rw [List.map_nil, List.nil_append, ← e] at h
  exact h
theorem Parse_long (s : ByteArray) (hs : 4000 < s.size) : Ev (fun k => query_Parse.f k s) (([] : List S33), (3 : Int)) := by
  unfold query_Parse.f
  exact Ev.pos (by omega) (Ev.now _)
theorem few_ok (l : List S33) : ∃ b, Ev (fun k => sprlaw10_few.f k l) b ∧ (b = true → l.length ≤ 300) := few_loop l l 0 0 rfl (by omega) (by omega) (by omega)
where
  few_loop (l : List S33) : ∀ (t : List S33) (i : Nat) (n : Int), l.drop i = t → 0 ≤ n → n ≤ 20000 → i ≤ 300 → ∃ b, Ev (fun k => sprlaw10_few.l0 k l n (i : Int)) b ∧ (b = true → l.length ≤ 300)
  | [], i, n, h, h0, h1, hi => by
    have := drop_nil h
    by_cases hl : l.length ≤ 300
    · exact ⟨_, Ev.step (fun _ => sprlaw10_few.l0.eq_2 ..) (Ev.neg (by omega) (Ev.pos (by omega) (Ev.now _))), fun _ => hl⟩
    · exact ⟨false, Ev.step (fun _ => sprlaw10_few.l0.eq_2 ..) (Ev.neg (by omega) (Ev.neg (by omega) (Ev.now _))), fun h => by cases h⟩
  | x :: t, i, n, h, h0, h1, hi => by
    obtain ⟨a1, a2, a3⟩ := drop_cons h
    by_cases h300 : i < 300
    · have mn2 : ∀ a b : Int, mn a b ≤ b ∧ (0 ≤ a → 0 ≤ b → 0 ≤ mn a b) := by intro a b; unfold mn; split <;> omega
      obtain ⟨b, hb, hf⟩ := few_loop l t (i + 1) (mn (wrap64 ((wrap64 (n + (mn (((rd_T33 l (i : Int)).f0).size : Int) 5000))) + (mn (((rd_T33 l (i : Int)).f1).size : Int) 5000))) 20000) a3 (by
        have q1 := mn2 (((rd_T33 l (i : Int)).f0).size : Int) 5000
        have q2 := mn2 (((rd_T33 l (i : Int)).f1).size : Int) 5000
        have q3 := q1.2 (by omega) (by omega)
        have q4 := q2.2 (by omega) (by omega)
        rw [wrap_id (x := n + _) (by omega) (by omega), wrap_id (by omega) (by omega)]
        exact (mn2 _ _).2 (by omega) (by omega)) ((mn2 _ _).1) (by omega)
      refine ⟨b, Ev.step (fun _ => sprlaw10_few.l0.eq_2 ..) (Ev.pos (by omega) (Ev.pos (by omega) (Ev.pos (by omega) ?_))), hf⟩
      rw [wrap_id (x := (i : Int) + 1) (by omega) (by omega), cast_succ]
      exact hb
    · refine ⟨false, Ev.step (fun _ => sprlaw10_few.l0.eq_2 ..) (Ev.pos (by omega) (Ev.neg (by omega) (Ev.neg (by omega) (Ev.now _)))), fun h => by cases h⟩
theorem Pairs_same (l : List S33) (hl : l.length ≤ 1000000) : Ev (fun k => sprref_Pairs.f k l l) true := by
  have h := Pairs_ok l l (by omega)
  rw [decide_eq_true rfl] at h
  exact h
theorem word_len (l : List UInt8) : (wordU l).length ≤ 4 * l.length := by
  have h1 := wordI_len (I_bytes l)
  have h2 := (ens_len (wordI (I l))).2
  rw [I_len] at h1
  unfold wordU
  rw [U_len]
  omega
theorem pairs_size (l : List UInt8) : ∀ x ∈ pairsU l, x.1.length ≤ 4 * l.length ∧ x.2.length ≤ 4 * l.length := by
  intro x hx
  obtain ⟨p, hp, rfl⟩ := List.mem_map.1 hx
  have hp' := (spl_small 38 l).2 p (List.mem_filter.1 hp).1
  have c := cutL_le p
  have w1 := word_len (cutL p).1
  have w2 := word_len (cutL p).2.1
  unfold pairU
  exact ⟨by show (wordU (cutL p).1).length ≤ _; omega, by show (wordU (cutL p).2.1).length ≤ _; omega⟩
theorem spl_hdtl (c : UInt8) (l : List UInt8) : spl c l = (spl c l).headD [] :: (spl c l).tail := by
  cases h : spl c l with
  | nil => exact absurd h (spl_ne c l)
  | cons p r => rfl
theorem SplitA_loop (c : UInt8) (s : ByteArray) (hs : s.size ≤ 1000000000) : ∀ (t : List UInt8) (i fr : Nat) (acc : List ByteArray), (B s).drop i = t → i ≤ s.size → fr ≤ i → acc.length ≤ i → Ev (fun k => sprref_Split.l0 k s (c.toNat : Int) acc (fr : Int) (i : Int)) (acc ++ mk (((B s).drop fr).take (i - fr) ++ (spl c t).headD []) :: ((spl c t).tail).map mk)
  | [], i, fr, acc, h, hi, hf, ha => by
    have := end_drop h
    have e : mk (((B s).drop fr).take (i - fr) ++ (spl c []).headD []) = s.extract fr i := by
      apply B_inj
      rw [B_extract, B_mk]
      show _ ++ [] = _
      rw [List.append_nil]
    rw [e]
    refine Ev.step (fun _ => sprref_Split.l0.eq_2 ..) (Ev.pos (by omega) (Ev.pos (by omega) (Ev.pos (by omega) (Ev.pos (by omega) (Ev.pos (by omega) ?_)))))
    rw [wrap_id (x := (i : Int) + 1) (by omega) (by omega), cast_succ]
    exact Ev.step (fun _ => sprref_Split.l0.eq_2 ..) (Ev.neg (by omega) (Ev.now _))
  | b :: t, i, fr, acc, h, hi, hf, ha => by
    obtain ⟨e1, e2, e3⟩ := bt_drop h
    have u := u8_lt c
    by_cases hc : b = c
    · have ih := SplitA_loop c s hs t (i + 1) (i + 1) (acc ++ [s.extract fr i]) e3 (by omega) (by omega) (by simp; omega)
      have e : mk (((B s).drop fr).take (i - fr) ++ (spl c (b :: t)).headD []) = s.extract fr i := by
        apply B_inj
        rw [B_extract, B_mk, spl, if_pos hc]
        show _ ++ [] = _
        rw [List.append_nil]
      have e4 : (spl c (b :: t)).tail = spl c t := by rw [spl, if_pos hc]; rfl
      rw [e, e4]
      refine Ev.step (fun _ => sprref_Split.l0.eq_2 ..) (Ev.pos (by omega) (Ev.neg (by omega) (Ev.pos (by omega) (Ev.pos (by omega) (Ev.pos (by rw [e1, hc]) (Ev.pos (by omega) (Ev.pos (by omega) (Ev.pos (by omega) ?_))))))))
      rw [wrap_id (x := (i : Int) + 1) (by omega) (by omega), cast_succ, Int.toNat_natCast, Int.toNat_natCast]
      rw [Nat.sub_self, List.take_zero, List.nil_append, List.append_assoc, ← List.map_cons (f := mk), ← spl_hdtl] at ih
      exact ih
    · have ih := SplitA_loop c s hs t (i + 1) fr acc e3 (by omega) (by omega) (by omega)
      have e : ((B s).drop fr).take (i - fr) ++ (spl c (b :: t)).headD [] = ((B s).drop fr).take (i + 1 - fr) ++ (spl c t).headD [] := by
        rw [spl, if_neg hc]
        have q : ((B s).drop fr).take (i + 1 - fr) = ((B s).drop fr).take (i - fr) ++ [b] := by
          have q1 : i + 1 - fr = (i - fr) + 1 := by omega
          have q2 : ((B s).drop fr)[i - fr]? = some b := by
            rw [List.getElem?_drop]
            have q3 : fr + (i - fr) = i := by omega
            rw [q3]
            have := congrArg (fun l : List UInt8 => l[0]?) h
            simpa using this
          rw [q1, List.take_add_one, q2]; rfl
        rw [q, List.append_assoc]; rfl
      have e4 : (spl c (b :: t)).tail = (spl c t).tail := by rw [spl, if_neg hc]; rfl
      rw [e, e4]
      refine Ev.step (fun _ => sprref_Split.l0.eq_2 ..) (Ev.pos (by omega) (Ev.neg (by omega) (Ev.pos (by omega) (Ev.pos (by omega) (Ev.neg (fun q => hc ?_) ?_)))))
      · rw [e1] at q
        have := (u8_eq b c.toNat (by omega)).1 q
        rw [this, UInt8.ofNat_toNat]
      · rw [wrap_id (x := (i : Int) + 1) (by omega) (by omega), cast_succ]
        exact ih
theorem SplitA_ok (c : UInt8) (s : ByteArray) (hs : s.size ≤ 1000000000) : Ev (fun k => sprref_Split.f k s (c.toNat : Int)) ((spl c (B s)).map mk) := by
  have h := SplitA_loop c s hs (B s) 0 0 [] rfl (by omega) (by omega) (by simp)
  rw [Nat.sub_self, List.take_zero, List.nil_append, List.nil_append, ← List.map_cons (f := mk), ← spl_hdtl] at h
  exact h
def fx (r : Int × Int × Bool) : Int × Int × Bool := (if r.2.2 = true then r.1 else 0, r.2.1, r.2.2)
theorem one_loop (b : List Int) (m : Int) (a : Nat) (hb : b.length ≤ 4000000) (ha : a ≤ 4000000) (hy : bytes b) : ∀ (r : Nat) (suf : List Int) (i : Nat) (lo hi acc : Int), b.drop (a + i) = suf → m - i + 1 = r → r ≤ 3 → m ≤ 3 → 0 ≤ acc → acc < 64 ^ (4 - r) →
    Ev (fun k => sprref1_one.l0 k b a m acc lo hi i) (fx (ct suf r lo hi acc i))
  | 0, suf, i, lo, hi, acc, hs, hr, _, hi5, h0, h1 => by
    rw [ct_end]
    refine Ev.step (fun _ => sprref1_one.l0.eq_2 ..) (Ev.neg (by omega) ?_)
    rw [wrap_id (by omega) (by omega)]
    exact Ev.konst (by simp [fx]; omega)
  | r + 1, [], i, lo, hi, acc, hs, hr, hr3, hi5, h0, h1 => by
    have := drop_nil hs
    refine Ev.step (fun _ => sprref1_one.l0.eq_2 ..) (Ev.pos (by omega) (Ev.pos ?_ (Ev.now _)))
    rw [wrap_id (by omega) (by omega)]; omega
  | r + 1, y :: t, i, lo, hi, acc, hs, hr, hr3, hi5, h0, h1 => by
    obtain ⟨hlt, hc, ht⟩ := drop_cons hs
    have hyy := hy y (List.mem_of_getElem? hc)
    have e : wrap64 ((a : Int) + (i : Int)) = ((a + i : Nat) : Int) := by rw [wrap_id (by omega) (by omega)]; omega
    refine Ev.step (fun _ => sprref1_one.l0.eq_2 ..) ?_
    rw [e, rd_of hc, wrap_id (x := y) (by omega) (by omega), ct]
    refine Ev.pos (by omega) (Ev.neg (by omega) (Ev.pos (by omega) (Ev.pos (by omega) ?_)))
    by_cases h2 : y < lo
    · rw [if_pos (.inl h2)]; exact Ev.pos h2 (Ev.now _)
    · by_cases h3 : y > hi
      · rw [if_pos (.inr h3)]; exact Ev.neg h2 (Ev.pos h3 (Ev.now _))
      · rw [if_neg (by omega)]
        refine Ev.neg h2 (Ev.neg h3 ?_)
        have hp : (64 : Int) ^ (4 - (r + 1)) * 64 = 64 ^ (4 - r) := by rw [← Int.pow_succ]; congr 1; omega
        have hq : (64 : Int) ^ (4 - (r + 1)) ≤ 64 ^ 3 := by
          have : r = 0 ∨ r = 1 ∨ r = 2 := by omega
          rcases this with rfl | rfl | rfl <;> decide
        have h64 : (64 : Int) ^ 3 = 262144 := by decide
        rw [wrap_id (x := acc * 64) (by omega) (by omega), and63 y (by omega) (by omega), orsix acc (y % 64) h0 (by omega) (by omega) (by omega), wrap_id (x := (i : Int) + 1) (by omega) (by omega), cast_succ]
        exact one_loop b m a hb ha hy r t (i + 1) 128 191 _ (by rw [← Nat.add_assoc]; exact ht) (by omega) (by omega) (by omega) (by omega) (by omega)
theorem one_j2 (b : List Int) (a : Nat) (x : Int) (m : Nat) (lo hi acc lo' hi' : Int) (t : List Int) (hb : b.length ≤ 4000000) (ha : a ≤ 4000000) (hy : bytes b) (hx : b.drop (a + 1) = t) (hm : 1 ≤ m) (hm3 : m ≤ 3) (h0 : 0 ≤ acc) (h1 : acc < 64)
    (hlo : lo' = if x = 224 then 160 else if x = 240 then 144 else lo) (hhi : hi' = if x = 237 then 159 else if x = 244 then 143 else hi) :
    Ev (fun k => sprref1_one.j2 k b a x m acc lo hi) (fx (ct t m lo' hi' acc 1)) := by
  have hp : acc < 64 ^ (4 - m) := by
    have : m = 1 ∨ m = 2 ∨ m = 3 := by omega
    rcases this with rfl | rfl | rfl <;> omega
  have fin : ∀ lo hi, Ev (fun k => sprref1_one.j3 k b a (m : Int) acc lo hi) (fx (ct t m lo hi acc 1)) := fun lo hi => Ev.step (fun _ => sprref1_one.j3.eq_2 ..) (one_loop b m a hb ha hy m t 1 lo hi acc hx (by omega) (by omega) (by omega) h0 hp)
  refine Ev.step (fun _ => sprref1_one.j2.eq_2 ..) ?_
  by_cases e1 : x = 224
  · subst e1; rw [if_pos rfl] at hlo; rw [if_neg (by decide), if_neg (by decide)] at hhi; subst hlo hhi
    exact Ev.pos rfl (fin _ _)
  · refine Ev.neg e1 ?_
    by_cases e2 : x = 237
    · subst e2; rw [if_neg (by decide), if_neg (by decide)] at hlo; rw [if_pos rfl] at hhi; subst hlo hhi
      exact Ev.pos rfl (fin _ _)
    · refine Ev.neg e2 ?_
      by_cases e3 : x = 240
      · subst e3; rw [if_neg (by decide), if_pos rfl] at hlo; rw [if_neg (by decide), if_neg (by decide)] at hhi; subst hlo hhi
        exact Ev.pos rfl (fin _ _)
      · refine Ev.neg e3 ?_
        by_cases e4 : x = 244
        · subst e4; rw [if_neg (by decide), if_neg (by decide)] at hlo; rw [if_neg (by decide), if_pos rfl] at hhi; subst hlo hhi
          exact Ev.pos rfl (fin _ _)
        · rw [if_neg e1, if_neg e3] at hlo; rw [if_neg e2, if_neg e4] at hhi; subst hlo hhi
          exact Ev.neg e4 (fin _ _)
theorem one_ok (b : List Int) (a : Nat) (hb : b.length ≤ 4000000) (ha : a < b.length) (hy : bytes b) : Ev (fun k => sprref1_one.f k b a) (fx (nx (b.drop a))) := by
  obtain ⟨x, t, hs⟩ : ∃ x t, b.drop a = x :: t := by
    cases h : b.drop a with
    | nil => have := drop_nil h; omega
    | cons x t => exact ⟨x, t, rfl⟩
  obtain ⟨hlt, hc, ht⟩ := drop_cons hs
  have hx := hy x (List.mem_of_getElem? hc)
  unfold sprref1_one.f
  rw [rd_of hc, wrap_id (x := x) (by omega) (by omega), hs]
  refine Ev.pos (by omega) (Ev.pos (by omega) ?_)
  have a1 := and31 x (by omega) (by omega)
  have a2 := and15 x (by omega) (by omega)
  have a3 := and7 x (by omega) (by omega)
  have ha' : a ≤ 4000000 := by omega
  rcases ld_cases x hx.1 hx.2 with ⟨c, hl⟩ | ⟨c, hl⟩ | ⟨c, hl⟩ | ⟨c, hl⟩ | ⟨c, hl⟩ | ⟨c, hl⟩ | ⟨c, hl⟩ | ⟨c, hl⟩ | ⟨c, hl⟩
  · rw [nx0 t hl]; exact Ev.pos c (Ev.now _)
  · rw [nx1 t hl, decide_eq_true (by omega)]
    refine Ev.neg (by omega) (Ev.pos (by omega) (Ev.step (fun _ => sprref1_one.j0.eq_2 ..) (Ev.pos rfl ?_)))
    rw [a1]
    exact one_j2 b a x 1 128 191 _ _ _ t hb ha' hy ht (by omega) (by omega) (by omega) (by omega) (by rw [if_neg (by omega), if_neg (by omega)]) (by rw [if_neg (by omega), if_neg (by omega)])
  · rw [nx2 t hl, decide_eq_false (by omega)]
    refine Ev.neg (by omega) (Ev.pos (by omega) (Ev.step (fun _ => sprref1_one.j0.eq_2 ..) (Ev.neg (by simp) (Ev.pos (by omega) (Ev.step (fun _ => sprref1_one.j1.eq_2 ..) ?_)))))
    rw [decide_eq_true (by omega), a2]
    exact Ev.pos rfl (one_j2 b a x 2 128 191 _ _ _ t hb ha' hy ht (by omega) (by omega) (by omega) (by omega) (by rw [if_pos (by omega)]) (by rw [if_neg (by omega), if_neg (by omega)]))
  · rw [nx2 t hl, decide_eq_false (by omega)]
    refine Ev.neg (by omega) (Ev.pos (by omega) (Ev.step (fun _ => sprref1_one.j0.eq_2 ..) (Ev.neg (by simp) (Ev.pos (by omega) (Ev.step (fun _ => sprref1_one.j1.eq_2 ..) ?_)))))
    rw [decide_eq_true (by omega), a2]
    exact Ev.pos rfl (one_j2 b a x 2 128 191 _ _ _ t hb ha' hy ht (by omega) (by omega) (by omega) (by omega) (by rw [if_neg (by omega), if_neg (by omega)]) (by rw [if_pos (by omega)]))
  · rw [nx2 t hl, decide_eq_false (by omega)]
    refine Ev.neg (by omega) (Ev.pos (by omega) (Ev.step (fun _ => sprref1_one.j0.eq_2 ..) (Ev.neg (by simp) (Ev.pos (by omega) (Ev.step (fun _ => sprref1_one.j1.eq_2 ..) ?_)))))
    rw [decide_eq_true (by omega), a2]
    exact Ev.pos rfl (one_j2 b a x 2 128 191 _ _ _ t hb ha' hy ht (by omega) (by omega) (by omega) (by omega) (by rw [if_neg (by omega), if_neg (by omega)]) (by rw [if_neg (by omega), if_neg (by omega)]))
  · rw [nx3 t hl, decide_eq_false (by omega)]
    refine Ev.neg (by omega) (Ev.pos (by omega) (Ev.step (fun _ => sprref1_one.j0.eq_2 ..) (Ev.neg (by simp) (Ev.pos (by omega) (Ev.step (fun _ => sprref1_one.j1.eq_2 ..) ?_)))))
    rw [decide_eq_false (by omega), a3]
    exact Ev.neg (by simp) (Ev.pos (by omega) (Ev.pos (by omega) (one_j2 b a x 3 128 191 _ _ _ t hb ha' hy ht (by omega) (by omega) (by omega) (by omega) (by rw [if_neg (by omega), if_pos (by omega)]) (by rw [if_neg (by omega), if_neg (by omega)]))))
  · rw [nx3 t hl, decide_eq_false (by omega)]
    refine Ev.neg (by omega) (Ev.pos (by omega) (Ev.step (fun _ => sprref1_one.j0.eq_2 ..) (Ev.neg (by simp) (Ev.pos (by omega) (Ev.step (fun _ => sprref1_one.j1.eq_2 ..) ?_)))))
    rw [decide_eq_false (by omega), a3]
    exact Ev.neg (by simp) (Ev.pos (by omega) (Ev.pos (by omega) (one_j2 b a x 3 128 191 _ _ _ t hb ha' hy ht (by omega) (by omega) (by omega) (by omega) (by rw [if_neg (by omega), if_neg (by omega)]) (by rw [if_neg (by omega), if_pos (by omega)]))))
  · rw [nx3 t hl, decide_eq_false (by omega)]
    refine Ev.neg (by omega) (Ev.pos (by omega) (Ev.step (fun _ => sprref1_one.j0.eq_2 ..) (Ev.neg (by simp) (Ev.pos (by omega) (Ev.step (fun _ => sprref1_one.j1.eq_2 ..) ?_)))))
    rw [decide_eq_false (by omega), a3]
    exact Ev.neg (by simp) (Ev.pos (by omega) (Ev.pos (by omega) (one_j2 b a x 3 128 191 _ _ _ t hb ha' hy ht (by omega) (by omega) (by omega) (by omega) (by rw [if_neg (by omega), if_neg (by omega)]) (by rw [if_neg (by omega), if_neg (by omega)]))))
  · rw [nxm t hl]
    refine Ev.neg (by omega) ?_
    rcases c with c | c
    · exact Ev.neg (by omega) (Ev.step (fun _ => sprref1_one.j0.eq_2 ..) (Ev.neg (by simp) (Ev.neg (by omega) (Ev.step (fun _ => sprref1_one.j1.eq_2 ..) (Ev.neg (by simp) (Ev.neg (by omega) (Ev.now _)))))))
    · rw [decide_eq_false (by omega)]
      refine Ev.pos (by omega) (Ev.step (fun _ => sprref1_one.j0.eq_2 ..) (Ev.neg (by simp) (Ev.pos (by omega) (Ev.step (fun _ => sprref1_one.j1.eq_2 ..) ?_))))
      rw [decide_eq_false (by omega)]
      exact Ev.neg (by simp) (Ev.pos (by omega) (Ev.neg (by omega) (Ev.now _)))
theorem losr_loop (b : List Int) (hb : b.length ≤ 4000000) (hy : bytes b) : ∀ (n i : Nat) (acc : List Int), b.length - i ≤ n → i ≤ b.length → acc.length ≤ i →
    Ev (fun k => sprref1_Lossy.l0 k b acc i) (losR n (b.drop i) acc)
  | 0, i, acc, hn, hi, ha => by
    rw [losR]
    exact Ev.succ (Ev.neg (by omega) (Ev.now _))
  | n + 1, i, acc, hn, hi, ha => by
    cases hs : b.drop i with
    | nil =>
      have := drop_nil hs
      rw [losR]
      exact Ev.succ (Ev.neg (by omega) (Ev.now _))
    | cons x s =>
      obtain ⟨hlt, hc, ht⟩ := drop_cons hs
      have hyd := bytes_drop hy i
      have hne : b.drop i ≠ [] := by rw [hs]; simp
      have hk := nx_n hyd hne
      have hok := one_ok b i hb hlt hy
      rw [List.length_drop] at hk
      have e1 : (fx (nx (b.drop i))).2.1 = (nx (b.drop i)).2.1 := rfl
      have e : wrap64 ((i : Int) + (nx (b.drop i)).2.1) = ((i + (nx (b.drop i)).2.1.toNat : Nat) : Int) := by rw [wrap_id (by omega) (by omega)]; omega
      refine Ev.succ (Ev.pos (by omega) (Ev.bind hok ?_))
      rw [losR, ← hs, e1, e, List.drop_drop]
      by_cases h : (nx (b.drop i)).2.2 = true
      · have e0 : (fx (nx (b.drop i))).1 = (nx (b.drop i)).1 := by simp only [fx]; rw [if_pos h]
        refine Ev.pos h (Ev.pos (by omega) ?_)
        rw [e0]
        exact losr_loop b hb hy n _ _ (by omega) (by omega) (by simp only [List.length_append, List.length_cons, List.length_nil]; omega)
      · obtain ⟨e0, _, _⟩ := nx_false hne (by simpa using h)
        refine Ev.neg h (Ev.pos (by omega) ?_)
        rw [e0]
        exact losr_loop b hb hy n _ _ (by omega) (by omega) (by simp only [List.length_append, List.length_cons, List.length_nil]; omega)
theorem LossyR_ok (b : List Int) (hb : b.length ≤ 4000000) (hy : bytes b) : Ev (fun k => sprref1_Lossy.f k b) (losR b.length b []) := by
  unfold sprref1_Lossy.f
  exact losr_loop b hb hy b.length 0 [] (by omega) (by omega) (by simp)
theorem ScalarR_ok (c : Int) : sprref1_Scalar.f c = some (sc c) := by
  unfold sprref1_Scalar.f sc
  by_cases h1 : c ≥ 0 <;> by_cases h2 : c ≤ 1114111 <;> by_cases h3 : c < 55296 <;> simp [h1, h2, h3] <;> omega
theorem sign_ok (c : Int) (h : sc c = true) : sprref1_sign.f c = some (en c) := by
  have h' := sc_iff.1 h
  unfold sprref1_sign.f en
  by_cases h1 : c < 128
  · rw [if_pos h1, if_pos h1, Int.emod_eq_of_lt (by omega) (by omega)]
  · rw [if_neg h1, if_neg h1, and63 c (by omega) (by omega), and63 (c / 64) (by omega) (by omega), and63 (c / 4096) (by omega) (by omega), or128 (c % 64) (by omega) (by omega), or128 (c / 64 % 64) (by omega) (by omega), or128 (c / 4096 % 64) (by omega) (by omega)]
    by_cases h2 : c < 2048
    · rw [if_pos h2, if_pos h2, or192 (c / 64) (by omega) (by omega), Int.emod_eq_of_lt (a := 192 + c / 64) (by omega) (by omega), Int.emod_eq_of_lt (a := 128 + c % 64) (by omega) (by omega)]
    · rw [if_neg h2, if_neg h2]
      by_cases h3 : c < 65536
      · rw [if_pos h3, if_pos h3, or224 (c / 4096) (by omega) (by omega), Int.emod_eq_of_lt (a := 224 + c / 4096) (by omega) (by omega), Int.emod_eq_of_lt (a := 128 + c / 64 % 64) (by omega) (by omega), Int.emod_eq_of_lt (a := 128 + c % 64) (by omega) (by omega)]
      · rw [if_neg h3, if_neg h3, or240 (c / 262144) (by omega) (by omega), Int.emod_eq_of_lt (a := 240 + c / 262144) (by omega) (by omega), Int.emod_eq_of_lt (a := 128 + c / 4096 % 64) (by omega) (by omega), Int.emod_eq_of_lt (a := 128 + c / 64 % 64) (by omega) (by omega), Int.emod_eq_of_lt (a := 128 + c % 64) (by omega) (by omega)]
theorem TextR_loop (l : List Int) (hl : l.length ≤ 1000000) (hs : ∀ c ∈ l, sc c = true) : ∀ (t : List Int) (i : Nat) (acc : List Int), l.drop i = t → acc.length ≤ 4 * i → Ev (fun k => sprref1_Text.l0 k l acc (i : Int)) (strOfNums (acc ++ ens t))
  | [], i, acc, h, ha => by
    have := drop_nil h
    refine Ev.step (fun _ => sprref1_Text.l0.eq_2 ..) (Ev.neg (by omega) (Ev.tell ?_))
    show strOfNums acc = strOfNums (acc ++ [])
    rw [List.append_nil]
  | c :: t, i, acc, h, ha => by
    obtain ⟨a1, a2, a3⟩ := drop_cons h
    have hc := hs c (List.mem_of_getElem? a2)
    have he := en_len c
    have hr : rd l (i : Int) = c := rdOf_of a2
    refine Ev.step (fun _ => sprref1_Text.l0.eq_2 ..) (Ev.pos (by omega) (Ev.pos (by omega) ?_))
    rw [hr, wrap_id (x := (i : Int) + 1) (by omega) (by omega), cast_succ]
    refine Ev.bnd (ScalarR_ok c) (Ev.pos hc (Ev.bnd (sign_ok c hc) (Ev.pos (by omega) ?_)))
    have ih := TextR_loop l hl hs t (i + 1) (acc ++ en c) a3 (by rw [List.length_append]; omega)
    rw [List.append_assoc] at ih
    exact ih
/-! texts in rising order, each once -/
def ltB (a b : ByteArray) : Prop := B a < B b
theorem lt_irr (a : List UInt8) : ¬ a < a := List.lt_irrefl a
theorem lt_tr {a b c : List UInt8} (h : a < b) (k : b < c) : a < c := List.lt_trans h k
theorem lt_of_not {a b : List UInt8} (h : ¬ a < b) (k : a ≠ b) : b < a := by
  have h1 : b ≤ a := List.not_lt.1 h
  rcases List.le_iff_lt_or_eq.1 h1 with q | q
  · exact q
  · exact absurd q.symm k
theorem less_B (x y : ByteArray) : Op.bytesLess x.toList y.toList = decide (B x < B y) := by rw [toList_B, toList_B]; exact Go.Proofs.bytesLess_eq _ _
theorem strict_ext : ∀ (a b : List ByteArray), a.Pairwise ltB → b.Pairwise ltB → (∀ x, x ∈ a ↔ x ∈ b) → a = b
  | [], [], _, _, _ => rfl
  | [], y :: b, _, _, h => absurd ((h y).2 List.mem_cons_self) (by simp)
  | x :: a, [], _, _, h => absurd ((h x).1 List.mem_cons_self) (by simp)
  | x :: a, y :: b, ha, hb, h => by
    obtain ⟨a1, a2⟩ := List.pairwise_cons.1 ha
    obtain ⟨b1, b2⟩ := List.pairwise_cons.1 hb
    have e : x = y := by
      rcases List.mem_cons.1 ((h x).1 List.mem_cons_self) with q | q
      · exact q
      · rcases List.mem_cons.1 ((h y).2 List.mem_cons_self) with r | r
        · exact r.symm
        · exact absurd (lt_tr (b1 x q) (a1 y r)) (lt_irr _)
    subst e
    rw [strict_ext a b a2 b2 (fun z => ⟨fun hz => ?_, fun hz => ?_⟩)]
    · rcases List.mem_cons.1 ((h z).1 (List.mem_cons_of_mem _ hz)) with q | q
      · subst q; exact absurd (a1 z hz) (lt_irr _)
      · exact q
    · rcases List.mem_cons.1 ((h z).2 (List.mem_cons_of_mem _ hz)) with q | q
      · subst q; exact absurd (b1 z hz) (lt_irr _)
      · exact q
theorem rdOf_get {l : List ByteArray} {j : Nat} (h : j < l.length) : rdOf ByteArray.empty l (j : Int) = l[j] := by
  unfold rdOf
  rw [Int.toNat_natCast, List.getD_eq_getElem?_getD, List.getElem?_eq_getElem h]; rfl
theorem uBack_spec (out : List ByteArray) (x : ByteArray) : ∀ k, k ≤ out.length → (∀ j (h : j < out.length), uBack out x k ≤ j → j < k → ¬ B out[j] < B x) ∧ (∀ (h : 0 < uBack out x k) (h2 : uBack out x k - 1 < out.length), B out[uBack out x k - 1] < B x)
  | 0, _ => ⟨fun j _ _ h => by omega, fun h => by simp [uBack] at h⟩
  | k + 1, hk => by
    have ih := uBack_spec out x k (by omega)
    have hr := rdOf_get (l := out) (j := k) (by omega)
    have hl := less_B (rdOf ByteArray.empty out (k : Int)) x
    rw [hr] at hl
    by_cases h : B out[k] < B x
    · have e : uBack out x (k + 1) = k + 1 := by
        unfold uBack
        rw [if_pos (by rw [hr, hl]; exact decide_eq_true h)]
      rw [e]
      exact ⟨fun j _ h1 h2 => by omega, fun _ _ => h⟩
    · have e : uBack out x (k + 1) = uBack out x k := by
        rw [uBack, if_neg (by rw [hr, hl]; simpa using h)]
      rw [e]
      refine ⟨fun j hj h1 h2 => ?_, ih.2⟩
      by_cases q : j = k
      · subst q; exact h
      · exact ih.1 j hj h1 (by omega)
theorem uStep_spec (out : List ByteArray) (x : ByteArray) (h : out.Pairwise ltB) : (uStep out x).Pairwise ltB ∧ ∀ y, y ∈ uStep out x ↔ y ∈ out ∨ y = x := by
  obtain ⟨s1, s2⟩ := uBack_spec out x out.length (Nat.le_refl _)
  have s0 := uBack_le out x out.length
  unfold uStep
  generalize uBack out x out.length = k at *
  unfold uIns
  by_cases c : k < out.length ∧ (rdOf ByteArray.empty out (k : Int)).toList = x.toList
  · rw [if_pos c]
    refine ⟨h, fun y => ⟨Or.inl, fun q => ?_⟩⟩
    rcases q with q | q
    · exact q
    · obtain ⟨k1, e⟩ := c
      rw [rdOf_get k1, toList_B, toList_B] at e
      rw [q, ← B_inj e]
      exact List.getElem_mem k1
  · rw [if_neg c]
    have lo : ∀ y ∈ out.take k, B y < B x := by
      intro y hy
      obtain ⟨j, hj, rfl⟩ := List.getElem_of_mem hy
      rw [List.length_take] at hj
      rw [List.getElem_take]
      have hx := s2 (by omega) (by omega)
      by_cases e : j = k - 1
      · subst e; exact hx
      · exact lt_tr (List.pairwise_iff_getElem.1 h j (k - 1) (by omega) (by omega) (by omega)) hx
    have hi : ∀ y ∈ out.drop k, B x < B y := by
      intro y hy
      obtain ⟨j, hj, rfl⟩ := List.getElem_of_mem hy
      rw [List.length_drop] at hj
      rw [List.getElem_drop]
      have hx : B x < B out[k] := lt_of_not (s1 k (by omega) (Nat.le_refl _) (by omega)) (fun e => c ⟨by omega, by rw [rdOf_get (by omega), toList_B, toList_B]; exact e⟩)
      by_cases e : j = 0
      · subst e; exact hx
      · exact lt_tr hx (List.pairwise_iff_getElem.1 h k (k + j) (by omega) (by omega) (by omega))
    have hsplit : out.Pairwise ltB := h
    rw [← List.take_append_drop k out] at hsplit
    obtain ⟨p1, p2, p3⟩ := List.pairwise_append.1 hsplit
    refine ⟨List.pairwise_append.2 ⟨p1, List.pairwise_append.2 ⟨List.pairwise_singleton _ _, p2, fun a ha b hb => ?_⟩, fun a ha b hb => ?_⟩, fun y => ?_⟩
    · rw [List.mem_singleton.1 ha]; exact hi b hb
    · rcases List.mem_append.1 hb with q | q
      · rw [List.mem_singleton.1 q]; exact lo a ha
      · exact p3 a ha b q
    · have e : y ∈ out ↔ y ∈ out.take k ∨ y ∈ out.drop k := by rw [← List.mem_append, List.take_append_drop]
      rw [e, List.mem_append, List.mem_append, List.mem_singleton]
      constructor
      · rintro (q | q | q)
        · exact .inl (.inl q)
        · exact .inr q
        · exact .inl (.inr q)
      · rintro ((q | q) | q)
        · exact .inl q
        · exact .inr (.inr q)
        · exact .inr (.inl q)
theorem uniq_from : ∀ (l out : List ByteArray), out.Pairwise ltB → (l.foldl uStep out).Pairwise ltB ∧ ∀ y, y ∈ l.foldl uStep out ↔ y ∈ out ∨ y ∈ l
  | [], out, h => ⟨h, fun y => by simp⟩
  | x :: l, out, h => by
    obtain ⟨s1, s2⟩ := uStep_spec out x h
    obtain ⟨h1, h2⟩ := uniq_from l (uStep out x) s1
    refine ⟨h1, fun y => ?_⟩
    rw [List.foldl_cons, h2 y, s2 y, List.mem_cons, or_assoc]
theorem comp_spec (d : Array (List UInt8)) (hs : ∀ i j, i ≤ j → j < d.size → d[i]! ≤ d[j]!) : ∀ m, m ≤ d.size → (Lib.compactUpTo d m).Pairwise (· < ·) ∧ (∀ x, x ∈ Lib.compactUpTo d m ↔ ∃ j, j < m ∧ d[j]! = x)
  | 0, _ => by simp [Lib.compactUpTo]
  | m + 1, hm => by
    obtain ⟨h1, h2⟩ := comp_spec d hs m (by omega)
    rw [Lib.compactUpTo_succ]
    by_cases hk : Lib.keeps d m = true
    · rw [if_pos hk]
      have hk' : m = 0 ∨ d[m]! ≠ d[m - 1]! := of_decide_eq_true hk
      refine ⟨List.pairwise_append.2 ⟨h1, List.pairwise_singleton _ _, fun a ha b hb => ?_⟩, fun x => ?_⟩
      · rw [List.mem_singleton.1 hb]
        obtain ⟨j, hj, rfl⟩ := (h2 a).1 ha
        have q : d[m]! ≠ d[m - 1]! := by
          rcases hk' with e | e
          · omega
          · exact e
        have le1 := hs j (m - 1) (by omega) (by omega)
        have le2 := hs (m - 1) m (by omega) (by omega)
        have lt2 : d[m - 1]! < d[m]! := by
          rcases List.le_iff_lt_or_eq.1 le2 with e | e
          · exact e
          · exact absurd e.symm q
        rcases List.le_iff_lt_or_eq.1 le1 with e | e
        · exact lt_tr e lt2
        · rw [e]; exact lt2
      · rw [List.mem_append, List.mem_singleton, h2 x]
        constructor
        · rintro (⟨j, hj, e⟩ | e)
          · exact ⟨j, by omega, e⟩
          · exact ⟨m, by omega, e.symm⟩
        · rintro ⟨j, hj, e⟩
          by_cases q : j = m
          · subst q; exact .inr e.symm
          · exact .inl ⟨j, by omega, e⟩
    · rw [if_neg hk, List.append_nil]
      have hk' : ¬ (m = 0 ∨ d[m]! ≠ d[m - 1]!) := fun q => hk (decide_eq_true q)
      refine ⟨h1, fun x => ?_⟩
      rw [h2 x]
      constructor
      · rintro ⟨j, hj, e⟩
        exact ⟨j, by omega, e⟩
      · rintro ⟨j, hj, e⟩
        by_cases q : j = m
        · subst q
          exact ⟨j - 1, by omega, by rw [← e]; exact (Decidable.not_not.1 (fun z => hk' (.inr z))).symm⟩
        · exact ⟨j, by omega, e⟩
theorem comp_sort (l : List ByteArray) : (compB (sortB l)).Pairwise ltB ∧ ∀ y, y ∈ compB (sortB l) ↔ y ∈ l := by
  have hsm : (sortB l).map (fun s => s.data.toList) = (l.map B).mergeSort (fun x y => decide (x ≤ y)) := by
    unfold sortB
    rw [List.map_map]
    conv => rhs; rw [← List.map_id ((l.map B).mergeSort (fun x y => decide (x ≤ y)))]
    rfl
  have hp := List.pairwise_mergeSort (le := fun (x y : List UInt8) => decide (x ≤ y)) (fun a b c h k => decide_eq_true (List.le_trans (of_decide_eq_true h) (of_decide_eq_true k))) (fun a b => by
    rcases List.le_total a b with h | h
    · simp [h]
    · simp [h]) (l.map B)
  have hmem : ∀ x, x ∈ (l.map B).mergeSort (fun x y => decide (x ≤ y)) ↔ x ∈ l.map B := fun x => List.mem_mergeSort
  unfold compB
  rw [hsm]
  generalize (l.map B).mergeSort (fun x y => decide (x ≤ y)) = z at *
  have hs : ∀ i j, i ≤ j → j < z.toArray.size → z.toArray[i]! ≤ z.toArray[j]! := by
    intro i j hij hj
    have hj' : j < z.length := by simpa using hj
    rw [getElem!_pos z.toArray i (by simp; omega), getElem!_pos z.toArray j (by simp; omega)]
    by_cases e : i = j
    · subst e; exact List.le_refl _
    · have := List.pairwise_iff_getElem.1 hp i j (by omega) hj' (by omega)
      simpa using of_decide_eq_true this
  obtain ⟨c1, c2⟩ := comp_spec z.toArray hs z.length (by simp)
  have hc : Lib.compact z = Lib.compactUpTo z.toArray z.length := rfl
  rw [hc]
  refine ⟨List.pairwise_map.2 c1, fun y => ?_⟩
  rw [List.mem_map]
  constructor
  · rintro ⟨b, hb, rfl⟩
    obtain ⟨j, hj, e⟩ := (c2 b).1 hb
    rw [getElem!_pos z.toArray j (by simpa using hj)] at e
    have : b ∈ z := by rw [← e]; simp
    obtain ⟨s, hs, es⟩ := List.mem_map.1 ((hmem b).1 this)
    rw [← es]; exact hs
  · intro hy
    have : B y ∈ z := (hmem _).2 (List.mem_map_of_mem hy)
    obtain ⟨j, hj, e⟩ := List.getElem_of_mem this
    exact ⟨B y, (c2 _).2 ⟨j, hj, by rw [getElem!_pos z.toArray j (by simpa using hj)]; simpa using e⟩, rfl⟩
theorem uniq_eq (l : List ByteArray) : compB (sortB l) = uniqL l := by
  obtain ⟨a1, a2⟩ := comp_sort l
  obtain ⟨b1, b2⟩ := uniq_from l [] List.Pairwise.nil
  refine strict_ext _ _ a1 b1 (fun x => ?_)
  rw [a2 x]
  unfold uniqL
  rw [b2 x]; simp
theorem Texts_loop (a b : List ByteArray) (hl : a.length = b.length) (hb : a.length ≤ 1000000000) : ∀ (s t : List ByteArray) (i : Nat), a.drop i = s → b.drop i = t → Ev (fun k => sprref_Texts.l0 k a b i) (decide (s = t))
  | [], t, i, hs, ht => by
    have h1 := drop_nil hs
    have h2 : t = [] := by rw [← ht]; exact List.drop_eq_nil_of_le (by omega)
    subst h2
    exact Ev.step (fun _ => sprref_Texts.l0.eq_2 ..) (Ev.neg (by omega) (Ev.now _))
  | c :: s, [], i, hs, ht => by
    have h1 := drop_nil ht
    have h2 := drop_cons hs
    omega
  | c :: s, d :: t, i, hs, ht => by
    obtain ⟨h1, h2, h3⟩ := drop_cons hs
    obtain ⟨g1, g2, g3⟩ := drop_cons ht
    refine Ev.step (fun _ => sprref_Texts.l0.eq_2 ..) (Ev.pos (by omega) (Ev.pos (by omega) (Ev.pos (by omega) ?_)))
    rw [rdOf_of h2, rdOf_of g2, toList_B, toList_B]
    by_cases e : c = d
    · refine Ev.pos (by rw [e]) ?_
      rw [wrap_id (by omega) (by omega), cast_succ]
      have := Texts_loop a b hl hb s t (i + 1) h3 g3
      simpa [e] using this
    · refine Ev.neg (fun h => e (B_inj h)) ?_
      exact Ev.konst (by simp [e])
theorem Texts_ok (a b : List ByteArray) (hb : a.length ≤ 1000000000) : Ev (fun k => sprref_Texts.f k a b) (decide (a = b)) := by
  unfold sprref_Texts.f
  by_cases h : a.length = b.length
  · exact Ev.pos (by omega) (Texts_loop a b h hb a b 0 rfl rfl)
  · refine Ev.neg (by omega) (Ev.konst ?_)
    have : a ≠ b := fun e => h (by rw [e])
    simp [this]
theorem digitR_all : ∀ n : Fin 256, sprref1_Digit.f 4 ((n.val : Nat) : Int) = some (dg ((n.val : Nat) : Int)) := by decide +kernel
theorem digitR_ok (c : UInt8) : Ev (fun k => sprref1_Digit.f k (c.toNat : Int)) (dg (c.toNat : Int)) := Ev.of (fun k => sprref1_Digit.mono _ k) (digitR_all ⟨c.toNat, c.toNat_lt⟩)
theorem Unp_loop (s : ByteArray) (hs : s.size ≤ 1000000000) : ∀ (n i : Nat) (t : List UInt8) (acc : List Int), t.length ≤ n → (B s).drop i = t → acc.length ≤ i → Ev (fun k => sprref1_Unpercent.l0 k s acc (i : Int)) (acc ++ pdec (I t))
  | _, i, [], acc, _, h, ha => by
    have := end_drop h
    refine Ev.step (fun _ => sprref1_Unpercent.l0.eq_2 ..) (Ev.neg (by omega) (Ev.tell ?_))
    show acc = acc ++ []
    rw [List.append_nil]
  | 0, i, c :: t, acc, hn, h, ha => by simp only [List.length_cons] at hn; omega
  | n + 1, i, c :: t, acc, hn, h, ha => by
    obtain ⟨e1, e2, e3⟩ := bt_drop h
    simp only [List.length_cons] at hn
    have htl : s.size = i + 1 + t.length := by
      have := congrArg List.length h
      rw [List.length_drop, ← size_B, List.length_cons] at this
      omega
    have miss : pdec (I (c :: t)) = (c.toNat : Int) :: pdec (I t) → Ev (fun k => sprref1_Unpercent.j1 k s acc (i : Int) false) (acc ++ pdec (I (c :: t))) := fun q => by
      have ih := Unp_loop s hs n (i + 1) t (acc ++ [(c.toNat : Int)]) (by omega) e3 (by simp; omega)
      refine Ev.step (fun _ => sprref1_Unpercent.j1.eq_2 ..) (Ev.neg (by simp) (Ev.pos (by omega) (Ev.pos (by omega) (Ev.pos (by omega) ?_))))
      rw [wrap_id (by omega) (by omega), cast_succ, e1, q]
      rw [List.append_assoc] at ih
      exact ih
    refine Ev.step (fun _ => sprref1_Unpercent.l0.eq_2 ..) (Ev.pos (by omega) (Ev.pos (by omega) ?_))
    rw [e1]
    by_cases hc : (c.toNat : Int) = 37
    · refine Ev.pos hc ?_
      rw [wrap_id (x := (i : Int) + 2) (by omega) (by omega), wrap_id (x := (i : Int) + 1) (by omega) (by omega)]
      by_cases hl : 2 ≤ t.length
      · match t, hl, e3, htl, miss, hn with
        | a :: d :: r, _, e3, htl, miss, hn =>
        simp only [List.length_cons] at htl hn
        obtain ⟨f1, f2, f3⟩ := bt_drop e3
        obtain ⟨g1, g2, g3⟩ := bt_drop f3
        have d1 := dg_rng (a.toNat : Int)
        have d2 := dg_rng (d.toNat : Int)
        have w1 : bt s ((i : Int) + 1) = (a.toNat : Int) := f1
        have w2 : bt s ((i : Int) + 2) = (d.toNat : Int) := g1
        have no : ¬ ((c.toNat : Int) = 37 ∧ 0 ≤ dg (a.toNat : Int) ∧ 0 ≤ dg (d.toNat : Int)) → pdec (I (c :: a :: d :: r)) = (c.toNat : Int) :: pdec (I (a :: d :: r)) := fun q => by
          rw [I_cons, I_cons, I_cons, pdec, if_neg q]
        refine Ev.pos (by omega) (Ev.pos (by omega) (Ev.pos (by omega) ?_))
        rw [w1, w2]
        refine Ev.bind (digitR_ok a) ?_
        by_cases q1 : dg (a.toNat : Int) ≥ 0
        · refine Ev.pos q1 (Ev.pos (by omega) (Ev.bind (digitR_ok d) ?_))
          by_cases q2 : dg (d.toNat : Int) ≥ 0
          · rw [decide_eq_true q2]
            refine Ev.step (fun _ => sprref1_Unpercent.j1.eq_2 ..) (Ev.pos rfl ?_)
            rw [wrap_id (x := (i : Int) + 2) (by omega) (by omega), wrap_id (x := (i : Int) + 1) (by omega) (by omega), w1, w2]
            refine Ev.pos (by omega) (Ev.pos (by omega) (Ev.bind (digitR_ok a) (Ev.pos (by omega) (Ev.pos (by omega) (Ev.bind (digitR_ok d) (Ev.pos (by omega) ?_))))))
            have ih := Unp_loop s hs n (i + 3) r (acc ++ [dg (a.toNat : Int) * 16 + dg (d.toNat : Int)]) (by omega) g3 (by simp; omega)
            rw [hexs (by omega) (by omega) (by omega) (by omega), wrap_id (x := (i : Int) + 2 + 1) (by omega) (by omega)]
            rw [I_cons, I_cons, I_cons, hc, pdec_hit (by omega) (by omega)]
            rw [List.append_assoc] at ih
            exact ih
          · rw [decide_eq_false q2]
            exact miss (no (fun z => q2 z.2.2))
        · exact Ev.neg q1 (miss (no (fun z => q1 z.2.1)))
      · exact Ev.neg (by omega) (miss (by rw [I_cons]; exact pdec_two (by rw [I_len]; omega)))
    · refine Ev.neg hc (miss ?_)
      rw [I_cons]
      exact pdec_cons hc _
theorem Unp_ok (s : ByteArray) (hs : s.size ≤ 1000000000) : Ev (fun k => sprref1_Unpercent.f k s) (pdec (I (B s))) := by
  have := Unp_loop s hs (B s).length 0 (B s) [] (Nat.le_refl _) rfl (by simp)
  rw [List.nil_append] at this
  exact this
theorem FormText_ok (s : ByteArray) (hs : s.size ≤ 100000) : Ev (fun k => sprref7_FormText.f k s) (mk (wordU (B s))) := by
  have hz : (mk ((B s).map fun b => if b = 43 then (32 : UInt8) else b)).size = s.size := by rw [size_B, B_mk, List.length_map, ← size_B]
  have hd := Unp_ok (mk ((B s).map fun b => if b = 43 then (32 : UInt8) else b)) (by omega)
  rw [B_mk, I_plus] at hd
  have f := pdec_facts _ (plus (I (B s))) (Nat.le_refl _) (plus_bytes (I_bytes _))
  have hpl : (plus (I (B s))).length = s.size := by unfold plus; rw [List.length_map, I_len, ← size_B]
  have hL := LossyR_ok (pdec (plus (I (B s)))) (by omega) f.1
  have hw := wordI_len (I_bytes (B s))
  rw [I_len, ← size_B] at hw
  have hT := TextR_loop (wordI (I (B s))) (by omega) (wordI_sc (I_bytes _)) _ 0 [] rfl (by simp)
  rw [List.nil_append] at hT
  have hsp : sprref7_spaced.f s = some (mk ((B s).map fun b => if b = 43 then (32 : UInt8) else b)) := by unfold sprref7_spaced.f; rw [if_pos (by omega)]; rfl
  unfold sprref7_FormText.f
  exact Ev.bnd hsp (Ev.bind hd (Ev.bind hL (Ev.bind hT (Ev.now _))))
theorem spl_cutL : ∀ l : List UInt8, ∃ r, spl 61 l = (cutL l).1 :: r ∧ ((cutL l).2.2 = true → 0 < r.length) ∧ ((cutL l).2.2 = false → r = [])
  | [] => ⟨[], rfl, by simp [cutL], fun _ => rfl⟩
  | b :: t => by
    obtain ⟨r, h1, h2, h3⟩ := spl_cutL t
    unfold spl cutL
    by_cases hb : b = 61
    · rw [if_pos hb, if_pos hb]
      exact ⟨spl 61 t, rfl, fun _ => by rw [h1]; simp, fun h => by cases h⟩
    · rw [if_neg hb, if_neg hb, h1]
      exact ⟨r, rfl, h2, h3⟩
theorem PF_loop (L : List (List UInt8)) (hL : L.length ≤ 100000) (hb : ∀ p ∈ L, p.length ≤ 100000) : ∀ (t : List (List UInt8)) (i : Nat) (acc : List S33), L.drop i = t → acc.length ≤ i → Ev (fun k => sprref7_ParseForm.l0 k (L.map mk) acc (i : Int)) (if acc.length + (t.filter fun p => !p.isEmpty).length ≤ 256 then (acc ++ ((t.filter fun p => !p.isEmpty).map pairU).map toP, 0) else ([], 11))
  | [], i, acc, h, ha => by
    have := drop_nil h
    refine Ev.step (fun _ => sprref7_ParseForm.l0.eq_2 ..) (Ev.neg (by rw [List.length_map]; omega) ?_)
    show Ev _ (if acc.length + 0 ≤ 256 then (acc ++ [], (0 : Int)) else ([], 11))
    rw [Nat.add_zero, List.append_nil]
    by_cases h256 : (acc.length : Int) > 256
    · rw [if_neg (show ¬ acc.length ≤ 256 by omega)]
      exact Ev.pos h256 (Ev.now _)
    · rw [if_pos (show acc.length ≤ 256 by omega)]
      exact Ev.neg h256 (Ev.now _)
  | p :: t, i, acc, h, ha => by
    obtain ⟨a1, a2, a3⟩ := drop_cons h
    have hp := hb p (List.mem_of_getElem? a2)
    have hr : rdOf ByteArray.empty (L.map mk) (i : Int) = mk p := rdOf_of (by rw [List.getElem?_map, a2]; rfl)
    refine Ev.step (fun _ => sprref7_ParseForm.l0.eq_2 ..) (Ev.pos (by rw [List.length_map]; omega) (Ev.pos (by omega) ?_))
    rw [hr, wrap_id (x := (i : Int) + 1) (by omega) (by omega), cast_succ, toList_B, B_mk]
    cases p with
    | nil => exact Ev.pos rfl (PF_loop L hL hb t (i + 1) acc a3 (by omega))
    | cons b q =>
      have hf : ((b :: q) :: t).filter (fun p => !p.isEmpty) = (b :: q) :: t.filter (fun p => !p.isEmpty) := rfl
      rw [hf]
      refine Ev.neg (by simp) ?_
      have hs := SplitA_ok 61 (mk (b :: q)) (by rw [size_B, B_mk]; omega)
      rw [B_mk] at hs
      have hsz : (mk (b :: q)).size = (b :: q).length := by rw [size_B, B_mk]
      generalize b :: q = p at *
      have cl := cutL_len p
      have w1 := FormText_ok (mk (cutL p).1) (by rw [size_B, B_mk]; omega)
      have w2 := FormText_ok (mk (cutL p).2.1) (by rw [size_B, B_mk]; omega)
      have z1 : (mk (cutL p).1).size = (cutL p).1.length := by rw [size_B, B_mk]
      rw [B_mk] at w1 w2
      obtain ⟨r, h1, h2, h3⟩ := spl_cutL p
      rw [h1, List.map_cons] at hs
      have hh : rdOf ByteArray.empty (mk (cutL p).1 :: r.map mk) 0 = mk (cutL p).1 := rfl
      have ih := PF_loop L hL hb t (i + 1) (acc ++ [toP (pairU p)]) a3 (by simp; omega)
      have e : (if (acc ++ [toP (pairU p)]).length + (t.filter fun p => !p.isEmpty).length ≤ 256 then ((acc ++ [toP (pairU p)]) ++ ((t.filter fun p => !p.isEmpty).map pairU).map toP, (0 : Int)) else ([], 11)) = (if acc.length + (p :: t.filter fun p => !p.isEmpty).length ≤ 256 then (acc ++ ((p :: t.filter fun p => !p.isEmpty).map pairU).map toP, 0) else ([], 11)) := by
        have e1 : (acc ++ [toP (pairU p)]).length + (t.filter fun p => !p.isEmpty).length = acc.length + (p :: t.filter fun p => !p.isEmpty).length := by
          simp only [List.length_append, List.length_cons, List.length_nil]; omega
        rw [e1, List.append_assoc]; rfl
      rw [e] at ih
      refine Ev.bind hs ?_
      rw [hh, z1, hsz]
      cases hc : (cutL p).2.2 with
      | true =>
        have hr0 := h2 hc
        obtain ⟨c1, c2⟩ := cl.2.2.2 hc
        have ev : (mk p).extract ((wrap64 (((cutL p).1.length : Int) + 1)) : Int).toNat p.length = mk (cutL p).2.1 := by
          apply B_inj
          have e0 : (wrap64 (((cutL p).1.length : Int) + 1)).toNat = (cutL p).1.length + 1 := by rw [wrap_id (by omega) (by omega)]; omega
          rw [← hsz, e0, B_from, B_mk, B_mk, c2]
        rw [ev]
        exact Ev.pos (by simp only [List.length_cons, List.length_map]; omega) (Ev.pos (by simp only [List.length_cons, List.length_map]; omega) (Ev.pos (by rw [wrap_id (by omega) (by omega)]; omega) (Ev.pos (by rw [wrap_id (by omega) (by omega)]; omega) (Ev.bind w1 (Ev.bind w2 (Ev.pos (by omega) ih))))))
      | false =>
        have hr0 := h3 hc
        obtain ⟨c1, c2⟩ := cl.2.2.1 hc
        have w3 : Ev (fun k => sprref7_FormText.f k (⟨#[]⟩ : ByteArray)) (mk (wordU (cutL p).2.1)) := by rw [c2] at w2 ⊢; exact w2
        subst hr0
        exact Ev.neg (by simp) (Ev.pos (by simp) (Ev.bind w1 (Ev.bind w3 (Ev.pos (by omega) ih))))
theorem ParseForm_ok (s : ByteArray) (hs : s.size ≤ 4000) : Ev (fun k => sprref7_ParseForm.f k s) (qparse (B s)) := by
  obtain ⟨h1, h2⟩ := spl_small 38 (B s)
  rw [← size_B] at h1 h2
  have h := PF_loop (spl 38 (B s)) (by omega) (fun p hp => by have := h2 p hp; omega) _ 0 [] rfl (by simp)
  unfold sprref7_ParseForm.f
  refine Ev.neg (by omega) (Ev.bind (SplitA_ok 38 s (by omega)) ?_)
  simp only [List.length_nil, Nat.zero_add, List.nil_append, List.drop_zero] at h
  exact h
theorem ParseForm_long (s : ByteArray) (hs : 4000 < s.size) : Ev (fun k => sprref7_ParseForm.f k s) (([] : List S33), (3 : Int)) := by
  unfold sprref7_ParseForm.f
  exact Ev.pos (by omega) (Ev.now _)
theorem inR_all : ∀ n : Fin 256, sprref1_In.f 40 8 ((n.val : Nat) : Int) = some (!plainC ((n.val : Nat) : Int)) := by decide +kernel
theorem InR_ok {c : Int} (h0 : 0 ≤ c) (h1 : c < 256) : Ev (fun k => sprref1_In.f k 8 c) (!plainC c) := by
  obtain ⟨n, rfl⟩ : ∃ n : Nat, c = n := ⟨c.toNat, by omega⟩
  exact Ev.of (fun k => sprref1_In.mono _ _ k) (inR_all ⟨n, by omega⟩)
theorem EncR_loop (l : List Int) (hl : l.length ≤ 100000000) (hb : bytes l) : ∀ (t : List Int) (i : Nat) (acc : List Int), l.drop i = t → acc.length ≤ 3 * i → Ev (fun k => sprref1_Percent.l0 k 8 l (⟨#[48, 49, 50, 51, 52, 53, 54, 55, 56, 57, 65, 66, 67, 68, 69, 70]⟩ : ByteArray) acc (i : Int)) (mk (U (acc ++ penc t)))
  | [], i, acc, h, ha => by
    have := drop_nil h
    refine Ev.step (fun _ => sprref1_Percent.l0.eq_2 ..) (Ev.neg (by omega) (Ev.tell ?_))
    show mk (U acc) = mk (U (acc ++ []))
    rw [List.append_nil]
  | c :: t, i, acc, h, ha => by
    obtain ⟨a1, a2, a3⟩ := drop_cons h
    obtain ⟨c0, c1⟩ := hb c (List.mem_of_getElem? a2)
    have hr : rd l (i : Int) = c := rdOf_of a2
    have hsz : (⟨#[48, 49, 50, 51, 52, 53, 54, 55, 56, 57, 65, 66, 67, 68, 69, 70]⟩ : ByteArray).size = 16 := rfl
    have ih := fun (p : List Int) (hp : p.length ≤ 3) => EncR_loop l hl hb t (i + 1) (acc ++ p) a3 (by rw [List.length_append]; omega)
    refine Ev.step (fun _ => sprref1_Percent.l0.eq_2 ..) (Ev.pos (by omega) (Ev.pos rfl (Ev.pos (by omega) ?_)))
    rw [hr]
    refine Ev.step (fun _ => sprref1_Percent.j1.eq_2 ..) ?_
    rw [wrap_id (x := (i : Int) + 1) (by omega) (by omega), cast_succ, penc_cons, ← List.append_assoc, hr]
    by_cases h32 : c = 32
    · have e : penc1 c = [43] := by unfold penc1; rw [if_pos h32]
      rw [e]
      exact Ev.pos (by rw [h32]; rfl) (Ev.pos (by omega) (ih [43] (by decide)))
    · refine Ev.neg (by simpa using h32) (Ev.pos (by omega) (Ev.pos (by omega) (Ev.bind (InR_ok c0 c1) ?_)))
      cases hp : plainC c with
      | true =>
        have e : penc1 c = [c] := by unfold penc1; rw [if_neg h32, if_pos hp]
        rw [e]
        exact Ev.neg (by simp) (Ev.pos (by omega) (ih [c] (by simp)))
      | false =>
        have e : penc1 c = [37, great (c / 16), great (c % 16)] := by unfold penc1; rw [if_neg h32, if_neg (by rw [hp]; simp)]
        rw [e, low_ok c0 c1, great_ok (c := c / 16) (by omega) (by omega), great_ok (c := c % 16) (by omega) (by omega)]
        exact Ev.pos rfl (Ev.pos (by omega) (Ev.pos (by omega) (Ev.pos (by omega) (Ev.pos (by omega) (Ev.bnd rfl (Ev.pos (by simp only [List.length_cons, List.length_nil]; omega) (ih [37, great (c / 16), great (c % 16)] (by simp))))))))
theorem EncR_ok (s : ByteArray) (hs : s.size ≤ 100000000) : Ev (fun k => sprref1_Percent.f k 8 (bytesOf s)) (mk (U (penc (I (B s))))) := by
  have h := EncR_loop (I (B s)) (by rw [I_len, ← size_B]; exact hs) (I_bytes _) _ 0 [] rfl (by simp)
  rw [List.nil_append] at h
  exact h
theorem joinA_snoc (p : List UInt8) : ∀ L : List (List UInt8), L ≠ [] → joinA (L ++ [p]) = joinA L ++ 38 :: p
  | [], h => absurd rfl h
  | [q], _ => rfl
  | q :: r :: t, _ => by
    have ih := joinA_snoc p (r :: t) (by simp)
    rw [List.cons_append, List.cons_append, joinA, ← List.cons_append, ih, joinA, List.append_assoc]; rfl
theorem PForm_loop (l : List S33) (hl : l.length ≤ 1000000) (hz : ∀ x ∈ l, x.f0.size ≤ 10000000 ∧ x.f1.size ≤ 10000000) (hj : ∀ i, (joinA ((l.take i).map fun x => pieceU (pr x))).length ≤ 140737488355328) : ∀ (t : List S33) (i : Nat), l.drop i = t →
    Ev (fun k => sprref7_PrintForm.l0 k (mk (joinA ((l.take i).map fun x => pieceU (pr x)))) l (i : Int)) (mk (joinA (l.map fun x => pieceU (pr x))))
  | [], i, h => by
    have := drop_nil h
    rw [List.take_of_length_le this]
    exact Ev.step (fun _ => sprref7_PrintForm.l0.eq_2 ..) (Ev.neg (by omega) (Ev.now _))
  | x :: t, i, h => by
    obtain ⟨a1, a2, a3⟩ := drop_cons h
    obtain ⟨z0, z1⟩ := hz x (List.mem_of_getElem? a2)
    have hr : rd_T33 l (i : Int) = x := by unfold rd_T33; rw [Int.toNat_natCast, List.getD_eq_getElem?_getD, a2]; rfl
    have p0 := (penc_len (I (B x.f0))).2
    have p1 := (penc_len (I (B x.f1))).2
    rw [I_len, ← size_B] at p0 p1
    have s0 : (mk (U (penc (I (B x.f0))))).size = (penc (I (B x.f0))).length := by rw [size_B, B_mk, U_len]
    have s1 : (mk (U (penc (I (B x.f1))))).size = (penc (I (B x.f1))).length := by rw [size_B, B_mk, U_len]
    have s2 : (⟨#[61]⟩ : ByteArray).size = 1 := rfl
    have s3 : (⟨#[38]⟩ : ByteArray).size = 1 := rfl
    have ih := PForm_loop l hl hz hj t (i + 1) a3
    have et : (l.take (i + 1)).map (fun x => pieceU (pr x)) = (l.take i).map (fun x => pieceU (pr x)) ++ [pieceU (pr x)] := by rw [List.take_add_one, a2, List.map_append]; rfl
    have hji := hj i
    refine Ev.step (fun _ => sprref7_PrintForm.l0.eq_2 ..) (Ev.pos (by omega) (Ev.pos (by omega) ?_))
    rw [hr, wrap_id (x := (i : Int) + 1) (by omega) (by omega), cast_succ]
    refine Ev.pos ⟨by omega, by omega⟩ ?_
    have body : ∀ s : List UInt8, s.length ≤ 140737488355329 → s ++ pieceU (pr x) = joinA ((l.take (i + 1)).map (fun x => pieceU (pr x))) → Ev (fun k => sprref7_PrintForm.body (fun x => sprref7_PrintForm.l0 k x l ((i + 1 : Nat) : Int)) (sprref1_Percent.f k 8 (bytesOf x.f0)) (sprref1_Percent.f k 8 (bytesOf x.f1)) (mk s)) (mk (joinA (l.map fun x => pieceU (pr x)))) := by
      intro s hsl hse
      have z : (mk s).size = s.length := by rw [size_B, B_mk]
      have eB := B_piece x
      have e : mk s ++ ((mk (U (penc (I (B x.f0)))) ++ (⟨#[61]⟩ : ByteArray)) ++ mk (U (penc (I (B x.f1))))) = mk (joinA ((l.take (i + 1)).map (fun x => pieceU (pr x)))) := by
        apply B_inj
        rw [B_append, eB, B_mk, B_mk, hse]
      unfold sprref7_PrintForm.body
      refine Ev.bind (EncR_ok x.f0 (by omega)) (Ev.pos (by omega) (Ev.bind (EncR_ok x.f1 (by omega)) (Ev.pos (by rw [ByteArray.size_append]; omega) (Ev.pos (by rw [ByteArray.size_append, ByteArray.size_append]; omega) ?_))))
      rw [e]; exact ih
    by_cases h0 : (i : Int) > 0
    · have hne : (l.take i).map (fun x => pieceU (pr x)) ≠ [] := by
        intro q
        have := congrArg List.length q
        rw [List.length_map, List.length_take, List.length_nil] at this
        omega
      have zz : (mk (joinA ((l.take i).map fun x => pieceU (pr x)))).size = (joinA ((l.take i).map fun x => pieceU (pr x))).length := by rw [size_B, B_mk]
      have e : mk (joinA ((l.take i).map fun x => pieceU (pr x))) ++ (⟨#[38]⟩ : ByteArray) = mk (joinA ((l.take i).map fun x => pieceU (pr x)) ++ [38]) := by
        apply B_inj; rw [B_append]; rfl
      refine Ev.pos h0 (Ev.pos (by omega) ?_)
      rw [e]
      refine body _ (by rw [List.length_append]; simp only [List.length_cons, List.length_nil]; omega) ?_
      rw [et, joinA_snoc _ _ hne, List.append_assoc]; rfl
    · obtain rfl : i = 0 := by omega
      exact Ev.neg h0 (body [] (by simp) (by rw [et]; rfl))
theorem PrintForm_ok (l : List S33) (M : Nat) (hM : M ≤ 10000000) (hl : l.length ≤ 1000000) (hz : ∀ x ∈ l, x.f0.size ≤ M ∧ x.f1.size ≤ M) : Ev (fun k => sprref7_PrintForm.f k l) (mk (printU (l.map pr))) := by
  have hj : ∀ i, (joinA ((l.take i).map fun x => pieceU (pr x))).length ≤ 140737488355328 := fun i => by
    have h1 := joinA_len ((l.take i).map fun x => pieceU (pr x))
    have h2 := sum_pieces (l.take i) M (fun x hx => hz x (List.mem_of_mem_take hx))
    have h3 : (l.take i).length ≤ 1000000 := by rw [List.length_take]; omega
    have h4 : (l.take i).length * (6 * M + 2) ≤ 1000000 * 60000002 := Nat.mul_le_mul h3 (by omega)
    omega
  have h := PForm_loop l hl (fun x hx => by have := hz x hx; omega) hj l 0 rfl
  have e : mk (printU (l.map pr)) = mk (joinA (l.map fun x => pieceU (pr x))) := by unfold printU; rw [List.map_map]; rfl
  rw [e]
  exact h
theorem Names_loop (l : List S33) (hl : l.length ≤ 1000000) : ∀ (t : List S33) (i : Nat) (acc : List ByteArray), l.drop i = t → acc.length ≤ i → acc.length ≤ l.length → Ev (fun k => query_Names.l0 k acc l (l.length : Int) (i : Int)) (uniqL (acc ++ t.map (·.f0)))
  | [], i, acc, h, ha, hb => by
    have := drop_nil h
    rw [List.map_nil, List.append_nil]
    exact Ev.step (fun _ => query_Names.l0.eq_2 ..) (Ev.neg (by omega) (Ev.pos (by omega) (Ev.tell (uniq_eq acc))))
  | x :: t, i, acc, h, ha, hb => by
    obtain ⟨a1, a2, a3⟩ := drop_cons h
    have hr : rd_T33 l (i : Int) = x := by unfold rd_T33; rw [Int.toNat_natCast, List.getD_eq_getElem?_getD, a2]; rfl
    have ih := Names_loop l hl t (i + 1) (acc ++ [x.f0]) a3 (by simp; omega) (by simp; omega)
    refine Ev.step (fun _ => query_Names.l0.eq_2 ..) (Ev.pos (by omega) (Ev.pos (by omega) (Ev.pos (by omega) (Ev.pos (by omega) ?_))))
    rw [hr, wrap_id (x := (i : Int) + 1) (by omega) (by omega), cast_succ]
    rw [List.append_assoc] at ih
    exact ih
theorem Names_ok (l : List S33) (hl : l.length ≤ 1000000) : Ev (fun k => query_Names.f k l) (uniqL (l.map (·.f0))) := Names_loop l hl l 0 [] rfl (by simp) (by simp)
theorem NamesR_loop (l : List S33) (hl : l.length ≤ 1000000) : ∀ (t : List S33) (i : Nat) (acc : List ByteArray), l.drop i = t → acc.length ≤ i → acc.length ≤ l.length → Ev (fun k => sprref7_Names.l0 k l acc (i : Int)) (uniqL (acc ++ t.map (·.f0)))
  | [], i, acc, h, ha, hb => by
    have := drop_nil h
    rw [List.map_nil, List.append_nil]
    refine Ev.step (fun _ => sprref7_Names.l0.eq_2 ..) (Ev.neg (by omega) (Ev.bnd (a := uniqL acc) ?_ (Ev.now _)))
    unfold sprref_Unique.f
    rw [if_pos (by omega)]
  | x :: t, i, acc, h, ha, hb => by
    obtain ⟨a1, a2, a3⟩ := drop_cons h
    have hr : rd_T33 l (i : Int) = x := by unfold rd_T33; rw [Int.toNat_natCast, List.getD_eq_getElem?_getD, a2]; rfl
    have ih := NamesR_loop l hl t (i + 1) (acc ++ [x.f0]) a3 (by simp; omega) (by simp; omega)
    refine Ev.step (fun _ => sprref7_Names.l0.eq_2 ..) (Ev.pos (by omega) (Ev.pos (by omega) (Ev.pos (by omega) ?_)))
    rw [hr, wrap_id (x := (i : Int) + 1) (by omega) (by omega), cast_succ]
    rw [List.append_assoc] at ih
    exact ih
theorem NamesR_ok (l : List S33) (hl : l.length ≤ 1000000) : Ev (fun k => sprref7_Names.f k l) (uniqL (l.map (·.f0))) := NamesR_loop l hl l 0 [] rfl (by simp) (by simp)
theorem uniqL_len (l : List ByteArray) : (uniqL l).length ≤ l.length := by
  have h : ∀ (l out : List ByteArray), (l.foldl uStep out).length ≤ out.length + l.length := by
    intro l
    induction l with
    | nil => intro out; simp
    | cons x l ih =>
      intro out
      have h1 := ih (uStep out x)
      have h2 : (uStep out x).length ≤ out.length + 1 := uIns_len out x _
      rw [List.foldl_cons, List.length_cons]
      omega
  have := h l []
  simp only [List.length_nil, Nat.zero_add] at this
  exact this
--@pairs
theorem sum_pairs : ∀ (l : List S33), l.length ≤ (l.map fun y => ((y.f0.size + 1) + (y.f1.size + 1) + 1)).sum ∧ ∀ x ∈ l, x.f0.size + x.f1.size + 3 ≤ (l.map fun y => ((y.f0.size + 1) + (y.f1.size + 1) + 1)).sum
  | [] => by simp
  | x :: t => by
    obtain ⟨h1, h2⟩ := sum_pairs t
    simp only [List.map_cons, List.sum_cons, List.length_cons]
    refine ⟨by omega, fun s hs => ?_⟩
    rcases List.mem_cons.1 hs with rfl | hs
    · omega
    · have := h2 s hs; omega
theorem FormTexts (a0 : ByteArray) (l : List S33) (g0 : a0.size ≤ maxLen) (g1 : l.length ≤ maxLen ∧ ∀ x ∈ l, x.f0.size ≤ maxLen ∧ x.f1.size ≤ maxLen)
    (hk : (a0.size + 1) + ((l.map fun y => ((y.f0.size + 1) + (y.f1.size + 1) + 1)).sum + 1) ≤ 1048576) : ∃ k, sprlaw10_FormTexts.f k a0 l = some true := by
  obtain ⟨p1, p2⟩ := sum_pairs l
  have big : Ev (fun k => sprlaw10_FormTexts.j0 k a0 l true) true := Ev.step (fun _ => sprlaw10_FormTexts.j0.eq_2 ..) (Ev.pos rfl (Ev.bind first10_ok (Ev.now _)))
  apply Ev.rounds
  unfold sprlaw10_FormTexts.f
  refine Ev.bind first10_ok (Ev.pos rfl ?_)
  by_cases h5 : (a0.size : Int) > 5000
  · exact Ev.pos h5 big
  refine Ev.neg h5 ?_
  obtain ⟨b, hb, hf⟩ := few_ok l
  refine Ev.bind hb ?_
  cases b with
  | false => exact big
  | true =>
    have hl := hf rfl
    have hP := Print_ok10 l 1048576 (by omega) (by omega) (fun x hx => by have := p2 x hx; omega)
    have hQ := PrintForm_ok l 1048576 (by omega) (by omega) (fun x hx => by have := p2 x hx; omega)
    have hS := Pairs_same l (by omega)
    have hN := Names_ok l (by omega)
    have hM := NamesR_ok l (by omega)
    have hu := uniqL_len (l.map (·.f0))
    rw [List.length_map] at hu
    have hT := Texts_ok (uniqL (l.map (·.f0))) (uniqL (l.map (·.f0))) (by omega)
    rw [decide_eq_true rfl] at hT
    have tail : ∀ (q : List S33 × Int), q.1.length ≤ 256 → Ev (fun k => query_Parse.f k a0) q → Ev (fun k => sprref7_ParseForm.f k a0) q → Ev (fun k => sprlaw10_FormTexts.j0 k a0 l false) true := by
      intro q hq h1 h2
      exact Ev.step (fun _ => sprlaw10_FormTexts.j0.eq_2 ..) (Ev.neg (by simp) (Ev.bnd rfl (Ev.pos (by simp only [List.length_nil]; omega) (Ev.bnd rfl (Ev.bind h1 (Ev.bind h2 (Ev.bind first10_ok (Ev.pos rfl (Ev.bind (Pairs_same q.1 (by omega)) (Ev.pos rfl (Ev.pos rfl (Ev.bind hP (Ev.bind hQ (Ev.pos rfl (Ev.bind hN (Ev.bind hM (Ev.bind hT (Ev.pos rfl (Ev.bind hS (Ev.now _))))))))))))))))))))
    show Ev (fun k => sprlaw10_FormTexts.j0 k a0 l false) true
    by_cases h4 : 4000 < a0.size
    · exact tail _ (by simp) (Parse_long a0 h4) (ParseForm_long a0 h4)
    · refine tail _ ?_ (Parse_ok a0 (by omega)) (ParseForm_ok a0 (by omega))
      unfold qparse
      by_cases hc : (Pc (B a0)).length ≤ 256
      · rw [if_pos hc]; unfold pairsU; rw [List.length_map, List.length_map]; exact hc
      · rw [if_neg hc]; simp

end Go.Proofs.YtkaegbamkdgjjaaDoor.Pure
