/-
The law EtagPairs: two tags that are strongly the same are weakly so; both comparisons go either way; a weak tag is strongly the same as none. For every two tags.
-/
import Derived.Test.YtalmcjdlfppkdaaDoorQ5
set_option linter.unusedVariables false
set_option linter.unusedSimpArgs false
namespace Go.Proofs.YtalmcjdlfppkdaaDoor.Pure
open Go.RowKit Go.Proofs.YtalmcjdlfppkdaaDoor.Q Go.Proofs.YtalmcjdlfppkdaaDoorW.PrintWords Go.Proofs.YtalmcjdlfppkdaaDoorW.PrintLast
theorem wrap_id {x : Int} (h0 : -9223372036854775808 ≤ x) (h1 : x ≤ 9223372036854775807) : wrap64 x = x := by unfold wrap64; omega
theorem Ev.succ {α : Type} {g : Nat → Option α} {r : α} (h : Ev (fun k => g (k + 1)) r) : Ev g r := Ev.step (fun _ => rfl) h
theorem Ev.konst {α : Type} {o : Option α} {r : α} (h : o = some r) : Ev (fun _ => o) r := ⟨0, fun _ _ => h⟩
theorem Ev.at {α : Type} {g : Nat → Option α} {r : α} (K : Nat) (h : ∀ k, g (k + K) = some r) : Ev g r := ⟨K, fun n hn => by
  obtain ⟨m, rfl⟩ : ∃ m, n = m + K := ⟨n - K, by omega⟩
  exact h m⟩
theorem drop_cons {α : Type} {l : List α} {i : Nat} {c : α} {t : List α} (h : l.drop i = c :: t) : i < l.length ∧ l[i]? = some c ∧ l.drop (i + 1) = t := by
  have h1 : (l.drop i)[0]? = some c := by rw [h]; rfl
  rw [List.getElem?_drop] at h1
  simp only [Nat.add_zero] at h1
  refine ⟨(List.getElem?_eq_some_iff.1 h1).1, h1, ?_⟩
  rw [← List.drop_drop, h]; rfl
theorem drop_nil {α : Type} {l : List α} {i : Nat} (h : l.drop i = []) : l.length ≤ i := by
  simpa using h
theorem rd_of {l : List Int} {i : Nat} {c : Int} (h : l[i]? = some c) : rd l (i : Int) = c := by
  unfold rd; rw [Int.toNat_natCast, List.getD_eq_getElem?_getD, h]; rfl
theorem rdOf_of {α : Type} {d : α} {l : List α} {i : Nat} {c : α} (h : l[i]? = some c) : rdOf d l (i : Int) = c := by
  unfold rdOf; rw [Int.toNat_natCast, List.getD_eq_getElem?_getD, h]; rfl
theorem cast_succ (i : Nat) : ((i : Int) + 1) = ((i + 1 : Nat) : Int) := by omega
theorem Ev.pos {α : Type} {c : Prop} [Decidable c] {A B : Nat → Option α} {r : α} (h : c) (k : Ev A r) : Ev (fun n => if c then A n else B n) r := Ev.congr (fun _ => if_pos h) k
theorem Ev.neg {α : Type} {c : Prop} [Decidable c] {A B : Nat → Option α} {r : α} (h : ¬ c) (k : Ev B r) : Ev (fun n => if c then A n else B n) r := Ev.congr (fun _ => if_neg h) k
theorem Ev.bnd {α β : Type} {o : Option β} {a : β} {f : Nat → β → Option α} {r : α} (h : o = some a) (k : Ev (fun n => f n a) r) : Ev (fun n => o.bind (f n)) r := by
  subst h; exact k
theorem first_ok : Ev (fun k => sprlaw16_first.f k) true := Ev.of (fun k => sprlaw16_first.mono k) (k := 60) (by kernel_rfl)
theorem EtagPairs (a0 : Bool) (a1 : ByteArray) (b0 : Bool) (b1 : ByteArray) (_ : True ∧ a1.size ≤ maxLen) (_ : True ∧ b1.size ≤ maxLen) : ∃ k, sprlaw16_EtagPairs.f k a0 a1 b0 b1 = some true := by
  refine Ev.rounds ?_
  unfold sprlaw16_EtagPairs.f
  refine Ev.bind first_ok (Ev.pos rfl ?_)
  have big : Ev (fun k => sprlaw16_EtagPairs.j0 k true a0 a1 b0 b1) true := Ev.step (fun _ => sprlaw16_EtagPairs.j0.eq_2 ..) (Ev.pos rfl (Ev.bind first_ok (Ev.now _)))
  by_cases h1 : (a1.size : Int) > 20000
  · exact Ev.pos h1 big
  · refine Ev.neg h1 ?_
    by_cases h2 : (b1.size : Int) > 20000
    · rw [decide_eq_true h2]; exact big
    · rw [decide_eq_false h2]
      refine Ev.step (fun _ => sprlaw16_EtagPairs.j0.eq_2 ..) (Ev.neg (by simp) ?_)
      obtain ⟨K, hK⟩ := first_ok
      by_cases e : a1.toList = b1.toList
      · have e' : b1.toList = a1.toList := e.symm
        cases a0 <;> cases b0 <;> exact ⟨K, fun k hk => by simp [etag_Strong.f, etag_Weak.f, hK k hk, e]⟩
      · have e1 : (a1.toList == b1.toList) = false := beq_eq_false_iff_ne.2 e
        have e' : (b1.toList == a1.toList) = false := beq_eq_false_iff_ne.2 fun h => e h.symm
        cases a0 <;> cases b0 <;> exact ⟨K, fun k hk => by simp [etag_Strong.f, etag_Weak.f, hK k hk, e1, e']⟩

end Go.Proofs.YtalmcjdlfppkdaaDoor.Pure
