-- Written by a program of this session's (wip/xprint.py), out of the seat's translation.
import Derived.Test.YtifchklfomddhaaDoorX0
import Derived.Test.YtifchklfomddhaaDoorX1
namespace Go.Proofs.YtifchklfomddhaaDoor.X
open Go.RowKit Go.Proofs.YtifchklfomddhaaDoorW.PrintWords Go.Proofs.YtifchklfomddhaaDoorW.PrintLast Go.Proofs.YtifchklfomddhaaDoorW.PrintMore
attribute [local go_sem] max2_int min2_int max_two min_two max_three min_three max_four min_four   -- for this text's walks alone
set_option linter.unusedVariables false
set_option linter.unusedSimpArgs false

/-! ### strings_Cut: function 22 -/
set_option maxHeartbeats 8000000 in
set_option maxRecDepth 100000 in
theorem strings_Cut.idx (s sep : ByteArray) (c : UInt8) (hsep : sep = ⟨#[c]⟩) (hs : s.size ≤ 9223372036854775807) (w : World) :
    Calls Tryd.prog 42 #[.string s, .string sep] w fun e w' => e = .returned (.int .i64 (Lib.indexByte s.data.toList c)) ∧ w' = w := by
  have hz : sep.size = 1 := by rw [hsep]; rfl
  have h0 : sep[0] = c := by subst hsep; rfl
  have hib := fun w => Tryd.stringslite_IndexByte s (c.toNat : Int) w
  have hcc : (c.toNat : Int).toNat.toUInt8 = c := by rw [Int.toNat_natCast]; simp
  rw [hcc] at hib
  have e2 : (sep.toList == s.toList) = true → Lib.indexByte s.data.toList c = 0 := fun h => by
    have := beq_iff_eq.1 h
    rw [Lib.toList_data, Lib.toList_data, hsep] at this
    rw [← this]; simp [Lib.indexByte]
  have E2 := Aside0.mk e2
  clear e2
  go_enter Tryd.func42, Tryd.ntmps42
  go_wp2_with (go_at_call 51; (try rw [h0]); refine (hib _).mono ?_; rintro e w' ⟨rfl, rfl⟩)
  · go_ret
    exact ⟨by rw [E2.out (by first | assumption | (simp [*]))]; simp [*], rfl⟩
  · go_ret
    exact ⟨rfl, rfl⟩
theorem strings_Cut.range : ∀ (s : List UInt8) (c : UInt8), -1 ≤ Lib.indexByte s c ∧ Lib.indexByte s c < (s.length : Int)
  | [], c => by unfold Lib.indexByte; simp
  | x :: t, c => by
    have ih := strings_Cut.range t c
    unfold Lib.indexByte
    rw [List.length_cons]
    split
    · omega
    · split
      · omega
      · omega
def strings_Cut.val (s : ByteArray) (c : UInt8) : ByteArray × ByteArray × Bool :=
  if Lib.indexByte s.data.toList c ≥ 0 then (s.extract 0 (Lib.indexByte s.data.toList c).toNat, s.extract (Lib.indexByte s.data.toList c + 1).toNat s.size, true) else (s, ⟨#[]⟩, false)
set_option maxHeartbeats 800000 in
set_option maxRecDepth 100000 in
theorem strings_Cut.miss (s sep : ByteArray) (i : Int) (hidx : ∀ w, Calls Tryd.prog 42 #[.string s, .string sep] w fun e w' => e = .returned (.int .i64 i) ∧ w' = w) (h0 : ¬ i ≥ 0) (w : World) :
    Calls Tryd.prog 33 #[.string s, .string sep] w fun e w' => e = .returned (.tuple #[.string s, .string ⟨#[]⟩, .bool false]) ∧ Below w.heap.size w w' := by
  have q0 : decide (i ≥ 0) = false := decide_eq_false h0
  go_enter Tryd.func33, Tryd.ntmps33
  go_wp2_with (go_at_call 42; refine (hidx _).mono ?_; rintro e w' ⟨rfl, rfl⟩)
  refine bodyPost_ret (results_tmp3 rfl _ _ _) rfl ?_
  exact ⟨rfl, Below.refl _ _⟩
set_option maxHeartbeats 800000 in
set_option maxRecDepth 100000 in
theorem strings_Cut.hit (s sep : ByteArray) (i : Int) (hz : sep.size = 1) (hs : s.size ≤ 9223372036854775807) (hidx : ∀ w, Calls Tryd.prog 42 #[.string s, .string sep] w fun e w' => e = .returned (.int .i64 i) ∧ w' = w) (h0 : i ≥ 0) (h1 : i < (s.size : Int)) (w : World) :
    Calls Tryd.prog 33 #[.string s, .string sep] w fun e w' => e = .returned (.tuple #[.string (s.extract 0 i.toNat), .string (s.extract (i + 1).toNat s.size), .bool true]) ∧ Below w.heap.size w w' := by
  have q0 : decide (i ≥ 0) = true := decide_eq_true h0
  have hw : wrap64 (i + (sep.size : Int)) = i + 1 := by rw [hz]; unfold wrap64; omega
  have p1 := eq_true (show (0 : Int) ≤ i by omega)
  have p2 := eq_true (show i ≤ (s.size : Int) by omega)
  have p3 := eq_true (show (0 : Int) ≤ wrap64 (i + (sep.size : Int)) by rw [hw]; omega)
  have p4 := eq_true (show wrap64 (i + (sep.size : Int)) ≤ (s.size : Int) by rw [hw]; omega)
  have HW := Aside0.mk hw
  clear hw h0 h1 hs hz
  go_enter Tryd.func33, Tryd.ntmps33
  go_wp2_with (go_at_call 42; refine (hidx _).mono ?_; rintro e w' ⟨rfl, rfl⟩)
  go_quiet (fail)
  go_wp2
  refine bodyPost_ret (results_tmp3 rfl _ _ _) rfl ?_
  exact ⟨by rw [← HW.out]; rfl, pw_below_drewN (Below.refl _ _) _⟩
theorem strings_Cut.lite (s sep : ByteArray) (c : UInt8) (hsep : sep = ⟨#[c]⟩) (hs : s.size ≤ 9223372036854775807) (x y : ByteArray) (b : Bool) (he : strings_Cut.val s c = (x, y, b)) (w : World) :
    Calls Tryd.prog 33 #[.string s, .string sep] w fun e w' => e = .returned (.tuple #[.string x, .string y, .bool b]) ∧ Below w.heap.size w w' := by
  have hr := strings_Cut.range s.data.toList c
  have hl : s.data.toList.length = s.size := rfl
  have hz : sep.size = 1 := by rw [hsep]; rfl
  have hi := strings_Cut.idx s sep c hsep hs
  rw [hl] at hr
  unfold strings_Cut.val at he
  generalize Lib.indexByte s.data.toList c = i at *
  by_cases h0 : i ≥ 0
  · rw [if_pos h0, Prod.mk.injEq, Prod.mk.injEq] at he
    obtain ⟨h1, h2, h3⟩ := he
    have := strings_Cut.hit s sep i hz hs hi h0 hr.2 w
    rw [h1, h2, h3] at this
    exact this
  · rw [if_neg h0, Prod.mk.injEq, Prod.mk.injEq] at he
    obtain ⟨h1, h2, h3⟩ := he
    have := strings_Cut.miss s sep i hi h0 w
    rw [h2, h3] at this
    subst h1
    exact this
set_option maxHeartbeats 800000 in
set_option maxRecDepth 100000 in
theorem strings_Cut.own (s sep : ByteArray) (x y : ByteArray) (b : Bool) (hl : ∀ w, Calls Tryd.prog 33 #[.string s, .string sep] w fun e w' => e = .returned (.tuple #[.string x, .string y, .bool b]) ∧ Below w.heap.size w w') (w : World) :
    Calls Tryd.prog 22 #[.string s, .string sep] w fun e w' => e = .returned (.tuple #[.string x, .string y, .bool b]) ∧ Below w.heap.size w w' := by
  go_enter Tryd.func22, Tryd.ntmps22
  go_wp2_with (go_at_call 33; refine (hl _).mono ?_; rintro e w' ⟨rfl, hb⟩)
  refine bodyPost_ret (results_tmp3 rfl _ _ _) rfl ?_
  exact ⟨rfl, hb⟩
def strings_Cut.f (a0 : ByteArray) (a1 : ByteArray) : Option (ByteArray × ByteArray × Bool) :=
  if a0.size ≤ 9223372036854775807 then (match a1.data.toList with | [c] => some (strings_Cut.val a0 c) | _ => none) else none
theorem strings_Cut.calls (a0 : ByteArray) (a1 : ByteArray) (r1 : ByteArray) (r2 : ByteArray) (r3 : Bool) (w : World) (h : strings_Cut.f a0 a1 = some (r1, r2, r3)) :
    Calls Tryd.prog 22 #[.string a0, .string a1] w fun e w' => e = .returned (.tuple #[.string r1, .string r2, .bool r3]) ∧ Below w.heap.size w w' := by
  unfold strings_Cut.f at h
  split at h
  · rename_i h1
    split at h
    · rename_i c hc
      exact strings_Cut.own a0 a1 r1 r2 r3 (strings_Cut.lite a0 a1 c (by rw [show a1 = ⟨a1.data.toList.toArray⟩ from rfl, hc]) h1 r1 r2 r3 (Option.some.inj h)) w
    · cases h
  · cases h


/-! ### head_Lower: function 24 -/
set_option maxHeartbeats 8000000 in
set_option maxRecDepth 100000 in
theorem head_Lower.own (a0 : ByteArray) (w : World) (hs : a0.size ≤ 9223372036854775807) :
    Calls Tryd.prog 24 #[.string a0] w fun e w' => e = .returned (.string ⟨(a0.data.toList.map Own.lowb).toArray⟩) ∧ Below w.heap.size w w' := by
  have hconv := Lib.run_convert_string_bytes (P := Tryd.prog) w 9 52 5 a0 Tryd.underlying9 Tryd.underlying52 Tryd.underlying5
  have hb0 : Aside0 (Own.BytesAt (Lib.bytesWorld w 5 a0) w.heap.size (Own.lowTo a0 0)) := ⟨Own.bytesAt_conv w 5 a0⟩
  have hw0 : Aside0 (Below w.heap.size w (Lib.bytesWorld w 5 a0)) := ⟨Own.below_bytesWorld w 5 a0⟩
  go_enter Tryd.func24, Tryd.ntmps24
  go_wp2
  clear hconv
  go_loopw [10] (fun i wr => ∃ n : Nat, i = .int .i64 n ∧ n ≤ a0.size ∧ Aside0 (Own.BytesAt wr w.heap.size (Own.lowTo a0 n)) ∧ Aside0 (Below w.heap.size w wr)) (fun i _ => a0.size - (intOf i).toNat)
  case atStart => exact ⟨0, rfl, by omega, hb0, hw0⟩
  case round =>
    clear hb0 hw0
    obtain ⟨n, rfl, hn, hB, hW⟩ := hrel
    by_cases hlt : n < a0.size
    · have hat := hB.out.at n _ (Own.lowTo_at a0 n hlt)
      have hfr := hB.out.free n (by rw [Own.lowTo_length]; exact hlt)
      have q1 : decide ((n : Int) < (a0.size : Int)) = true := decide_eq_true (by omega)
      have p5 := eq_true (show (0 : Int) ≤ (n : Int) by omega)
      have q5 := eq_true (show (n : Int) < (a0.size : Int) by omega)
      have hz : 0 + (n : Int).toNat = n := by omega
      have hup := fun h1 h2 => hB.out.low hlt h1 h2
      have hkeep := fun h => hB.out.keep hlt h
      generalize a0.data.toList[n]'hlt = c at *
      have hup' := Aside0.mk hup
      have hkeep' := Aside0.mk hkeep
      clear hup hkeep hB
      go_wp2
      · go_roundw
        case measure => simp [intOf]; omega
        case rel => exact ⟨n + 1, rfl, by omega, ⟨hup'.out (by assumption) (by assumption)⟩, ⟨hW.out.setCell (Nat.le_refl _) _⟩⟩
      · go_roundw
        case measure => simp [intOf]; omega
        case rel => exact ⟨n + 1, rfl, by omega, ⟨hkeep'.out (by omega)⟩, hW⟩
      · go_roundw
        case measure => simp [intOf]; omega
        case rel => exact ⟨n + 1, rfl, by omega, ⟨hkeep'.out (by omega)⟩, hW⟩
    · have q1 : decide ((n : Int) < (a0.size : Int)) = false := decide_eq_false (by omega)
      obtain rfl : n = a0.size := by omega
      have hback := run_convert_bytes_back (P := Tryd.prog) wr 52 9 5 ⟨w.heap.size, 0, none⟩ (grownCap w a0.size 0 5) (Own.lowTo a0 a0.size) Tryd.underlying52 Tryd.underlying5 Tryd.underlying9 (fun j hj => hB.out.off j hj)
      rw [Own.lowTo_length, Own.lowTo_all] at hback
      go_wp2
      go_ret
      exact ⟨rfl, hW.out⟩
def head_Lower.f (a0 : ByteArray) : Option (ByteArray) := if a0.size ≤ 9223372036854775807 then some (Own.low a0) else none
theorem head_Lower.calls (a0 : ByteArray) (r : ByteArray) (w : World) (h : head_Lower.f a0 = some r) :
    Calls Tryd.prog 24 #[.string a0] w fun e w' => e = .returned (.string r) ∧ Below w.heap.size w w' := by
  unfold head_Lower.f at h
  by_cases h1 : a0.size ≤ 9223372036854775807
  · rw [if_pos h1] at h
    obtain rfl := Option.some.inj h
    exact head_Lower.own a0 w h1
  · rw [if_neg h1] at h; cases h


/-! ### cc_unquoted: function 26 -/
def cc_unquoted.f (a0 : ByteArray) : Option (ByteArray) := if (a0.size : Int) ≥ 2 then (if 0 < (a0.size : Int) then (if (bt a0 0) = 34 then (if 0 ≤ (wrap64 ((a0.size : Int) - 1)) then (if (wrap64 ((a0.size : Int) - 1)) < (a0.size : Int) then (if (bt a0 (wrap64 ((a0.size : Int) - 1))) = 34 then (if 1 ≤ (wrap64 ((a0.size : Int) - 1)) then (if (wrap64 ((a0.size : Int) - 1)) ≤ (a0.size : Int) then (some (a0.extract 1 ((wrap64 ((a0.size : Int) - 1)) : Int).toNat)) else (none)) else (none)) else (some a0)) else (none)) else (none)) else (some a0)) else (none)) else (some a0)
set_option maxHeartbeats 8000000 in
set_option maxRecDepth 100000 in
theorem cc_unquoted.calls (a0 : ByteArray) (r : ByteArray) (w : World) (h : cc_unquoted.f a0 = some r) :
    Calls Tryd.prog 26 #[.string a0] w fun e w' => e = .returned (.string r) ∧ Drawn0 w w' := by
  have H : (if (a0.size : Int) ≥ 2 then (if 0 < (a0.size : Int) then (if (bt a0 0) = 34 then (if 0 ≤ (wrap64 ((a0.size : Int) - 1)) then (if (wrap64 ((a0.size : Int) - 1)) < (a0.size : Int) then (if (bt a0 (wrap64 ((a0.size : Int) - 1))) = 34 then (if 1 ≤ (wrap64 ((a0.size : Int) - 1)) then (if (wrap64 ((a0.size : Int) - 1)) ≤ (a0.size : Int) then (some (a0.extract 1 ((wrap64 ((a0.size : Int) - 1)) : Int).toNat)) else (none)) else (none)) else (some a0)) else (none)) else (none)) else (some a0)) else (none)) else (some a0)) = some r := h
  clear h
  by_cases c2 : (a0.size : Int) ≥ 2
  · rw [if_pos c2] at H
    have c2b0 : decide (2 ≤ (a0.size : Int)) = true := decide_eq_true c2
    have c2b1 : decide (2 ≤ a0.size) = true := decide_eq_true (by omega)
    clear c2
    by_cases c3 : 0 < (a0.size : Int)
    · rw [if_pos c3] at H
      have c3b0 : decide (0 < (a0.size : Int)) = true := decide_eq_true c3
      have c3b1 : decide (0 < a0.size) = true := decide_eq_true (by omega)
      clear c3
      by_cases c5 : (bt a0 0) = 34
      · rw [if_pos c5] at H
        have c5b0 : ((bt a0 0) == 34) = true := beq_iff_eq.mpr c5
        have c5b1 : ((bt a0 0) != 34) = false := bne_eq_false_iff_eq.mpr c5
        clear c5
        obtain ⟨ji6, hji6⟩ : ∃ j_ : Int, (wrap64 ((a0.size : Int) - 1)) = j_ := ⟨_, rfl⟩
        replace H : (if 0 ≤ (ji6) then (if (ji6) < (a0.size : Int) then (if (bt a0 (ji6)) = 34 then (if 1 ≤ (ji6) then (if (ji6) ≤ (a0.size : Int) then (some (a0.extract 1 ((ji6) : Int).toNat)) else (none)) else (none)) else (some a0)) else (none)) else (none)) = some r := by first | (rw [hji6] at H; exact H) | (simp only [hji6] at H ⊢; exact H)
        have hji6w : (IntKind.i64.wrap ((a0.size : Int) - 1)) = ji6 := (i64_w _).trans hji6
        by_cases c7 : 0 ≤ (ji6)
        · rw [if_pos c7] at H
          have c7b0 : decide (0 ≤ (ji6)) = true := decide_eq_true c7
          clear c7
          by_cases c8 : (ji6) < (a0.size : Int)
          · rw [if_pos c8] at H
            have c8b0 : decide ((ji6) < (a0.size : Int)) = true := decide_eq_true c8
            clear c8
            by_cases c10 : (bt a0 (ji6)) = 34
            · rw [if_pos c10] at H
              have c10b0 : ((bt a0 (ji6)) == 34) = true := beq_iff_eq.mpr c10
              have c10b1 : ((bt a0 (ji6)) != 34) = false := bne_eq_false_iff_eq.mpr c10
              clear c10
              by_cases c11 : 1 ≤ (ji6)
              · rw [if_pos c11] at H
                have c11b0 := eq_true c11
                have c11b1 : decide (1 ≤ (ji6)) = true := decide_eq_true c11
                clear c11
                by_cases c12 : (ji6) ≤ (a0.size : Int)
                · rw [if_pos c12] at H
                  have c12b0 := eq_true c12
                  have c12b1 : decide ((ji6) ≤ (a0.size : Int)) = true := decide_eq_true c12
                  clear c12
                  obtain rfl := Option.some.inj H
                  have p4 : 0 ≤ (0 : Int) := (by omega)
                  have q4 : 0 < a0.size := (by have : (0 : Int) < (a0.size : Int) := of_decide_eq_true (by first | (with_reducible assumption) | assumption); omega)
                  have hx4 : ∀ h : 0 < a0.size, ((a0[0]'h).toNat : Int) = bt a0 0 := bt_at a0 0
                  clear p4
                  have qi4 : (0 < (a0.size : Int)) = True := eq_true (of_decide_eq_true (by first | (with_reducible assumption) | assumption))
                  replace q4 := eq_true q4
                  have p9 : 0 ≤ ((ji6) : Int) := of_decide_eq_true (by first | (with_reducible assumption) | assumption)
                  have q9 : (ji6) < (a0.size : Int) := of_decide_eq_true (by first | (with_reducible assumption) | assumption)
                  have hx9 := bt_at a0 (ji6)
                  replace p9 := eq_true p9
                  replace q9 := eq_true q9
                  (try (have e_c5b0 := c5b0; simp only [c2b0, c3b0, c7b0, c8b0, c10b0] at e_c5b0; simp at e_c5b0))
                  (try (have e_c10b0 := c10b0; simp only [c2b0, c3b0, c5b0, c7b0, c8b0] at e_c10b0; simp at e_c10b0))
                  go_enter Tryd.func26, Tryd.ntmps26
                  go_wp2
                  go_ret
                  exact ⟨by first | rfl | (simp; done) | (simp only [← hji6] <;> (first | rfl | simp)) | (simp [*]; done), by repeat (first | exact Drawn0.refl _ | apply Drawn0.step)⟩
                · rw [if_neg c12] at H
                  exact absurd H (by simp)
              · rw [if_neg c11] at H
                exact absurd H (by simp)
            · rw [if_neg c10] at H
              have c10b0 : ((bt a0 (ji6)) == 34) = false := beq_eq_false_iff_ne.mpr c10
              have c10b1 : ((bt a0 (ji6)) != 34) = true := bne_iff_ne.mpr c10
              obtain rfl := Option.some.inj H
              have p4 : 0 ≤ (0 : Int) := (by omega)
              have q4 : 0 < a0.size := (by have : (0 : Int) < (a0.size : Int) := of_decide_eq_true (by first | (with_reducible assumption) | assumption); omega)
              have hx4 : ∀ h : 0 < a0.size, ((a0[0]'h).toNat : Int) = bt a0 0 := bt_at a0 0
              clear p4
              have qi4 : (0 < (a0.size : Int)) = True := eq_true (of_decide_eq_true (by first | (with_reducible assumption) | assumption))
              replace q4 := eq_true q4
              have p9 : 0 ≤ ((ji6) : Int) := of_decide_eq_true (by first | (with_reducible assumption) | assumption)
              have q9 : (ji6) < (a0.size : Int) := of_decide_eq_true (by first | (with_reducible assumption) | assumption)
              have hx9 := bt_at a0 (ji6)
              replace p9 := eq_true p9
              replace q9 := eq_true q9
              (try (have e_c5b0 := c5b0; simp only [c2b0, c3b0, c7b0, c8b0, c10b0] at e_c5b0; simp at e_c5b0))
              (try (have e_c10b0 := c10b0; simp only [c2b0, c3b0, c5b0, c7b0, c8b0] at e_c10b0; simp at e_c10b0))
              go_enter Tryd.func26, Tryd.ntmps26
              go_wp2
              go_ret
              exact ⟨by first | rfl | (simp; done) | (simp only [← hji6] <;> (first | rfl | simp)) | (simp [*]; done), by repeat (first | exact Drawn0.refl _ | apply Drawn0.step)⟩
          · rw [if_neg c8] at H
            exact absurd H (by simp)
        · rw [if_neg c7] at H
          exact absurd H (by simp)
      · rw [if_neg c5] at H
        have c5b0 : ((bt a0 0) == 34) = false := beq_eq_false_iff_ne.mpr c5
        have c5b1 : ((bt a0 0) != 34) = true := bne_iff_ne.mpr c5
        obtain rfl := Option.some.inj H
        have p4 : 0 ≤ (0 : Int) := (by omega)
        have q4 : 0 < a0.size := (by have : (0 : Int) < (a0.size : Int) := of_decide_eq_true (by first | (with_reducible assumption) | assumption); omega)
        have hx4 : ∀ h : 0 < a0.size, ((a0[0]'h).toNat : Int) = bt a0 0 := bt_at a0 0
        clear p4
        have qi4 : (0 < (a0.size : Int)) = True := eq_true (of_decide_eq_true (by first | (with_reducible assumption) | assumption))
        replace q4 := eq_true q4
        (try (have e_c5b0 := c5b0; simp only [c2b0, c3b0] at e_c5b0; simp at e_c5b0))
        go_enter Tryd.func26, Tryd.ntmps26
        go_wp2
        go_ret
        exact ⟨by first | rfl | (simp; done) | (simp [*]; done), by repeat (first | exact Drawn0.refl _ | apply Drawn0.step)⟩
    · rw [if_neg c3] at H
      exact absurd H (by simp)
  · rw [if_neg c2] at H
    have c2b0 : decide (2 ≤ (a0.size : Int)) = false := decide_eq_false c2
    have c2b1 : decide (2 ≤ a0.size) = false := decide_eq_false (by omega)
    clear c2
    obtain rfl := Option.some.inj H
    go_enter Tryd.func26, Tryd.ntmps26
    go_wp2
    go_ret
    exact ⟨by first | rfl | (simp; done) | (simp [*]; done), by repeat (first | exact Drawn0.refl _ | apply Drawn0.step)⟩

/-! ### cc_Parse: function 14 -/
def cc_flagAt (B : Nat) (nm : ByteArray) : Option Addr := if Own.kindOf nm < 10 then some ⟨B, Own.kindOf nm, none⟩ else none
theorem cc_flagAt_lt (B : Nat) (nm : ByteArray) {n : Nat} (h : Own.kindOf nm = n) (hn : n < 10) : cc_flagAt B nm = some ⟨B, n, none⟩ := by subst h; unfold cc_flagAt; rw [if_pos hn]
theorem cc_flagAt_ge (B : Nat) (nm : ByteArray) (hn : ¬ Own.kindOf nm < 10) : cc_flagAt B nm = none := by unfold cc_flagAt; rw [if_neg hn]
set_option maxHeartbeats 1000000 in
set_option maxRecDepth 100000 in
theorem cc_flag.own (B : Nat) (nm : ByteArray) (w : World) :
    Calls Tryd.prog 34 #[.pointer (some ⟨B, 0, none⟩), .string nm] w fun e w' => e = .returned (.pointer (cc_flagAt B nm)) ∧ w' = w := by
  go_enter Tryd.func34, Tryd.ntmps34
  go_wp2
  all_goals (go_ret; refine ⟨?_, rfl⟩; first
    | (have q := cc_flagAt_lt B nm (n := 0) (by unfold Own.kindOf; simp only [*, if_true, if_false, Bool.false_eq_true]) (by decide); rw [q]; rfl)
    | (have q := cc_flagAt_lt B nm (n := 1) (by unfold Own.kindOf; simp only [*, if_true, if_false, Bool.false_eq_true]) (by decide); rw [q]; rfl)
    | (have q := cc_flagAt_lt B nm (n := 2) (by unfold Own.kindOf; simp only [*, if_true, if_false, Bool.false_eq_true]) (by decide); rw [q]; rfl)
    | (have q := cc_flagAt_lt B nm (n := 3) (by unfold Own.kindOf; simp only [*, if_true, if_false, Bool.false_eq_true]) (by decide); rw [q]; rfl)
    | (have q := cc_flagAt_lt B nm (n := 4) (by unfold Own.kindOf; simp only [*, if_true, if_false, Bool.false_eq_true]) (by decide); rw [q]; rfl)
    | (have q := cc_flagAt_lt B nm (n := 5) (by unfold Own.kindOf; simp only [*, if_true, if_false, Bool.false_eq_true]) (by decide); rw [q]; rfl)
    | (have q := cc_flagAt_lt B nm (n := 6) (by unfold Own.kindOf; simp only [*, if_true, if_false, Bool.false_eq_true]) (by decide); rw [q]; rfl)
    | (have q := cc_flagAt_lt B nm (n := 7) (by unfold Own.kindOf; simp only [*, if_true, if_false, Bool.false_eq_true]) (by decide); rw [q]; rfl)
    | (have q := cc_flagAt_lt B nm (n := 8) (by unfold Own.kindOf; simp only [*, if_true, if_false, Bool.false_eq_true]) (by decide); rw [q]; rfl)
    | (have q := cc_flagAt_lt B nm (n := 9) (by unfold Own.kindOf; simp only [*, if_true, if_false, Bool.false_eq_true]) (by decide); rw [q]; rfl)
    | (have q := cc_flagAt_ge B nm (by unfold Own.kindOf; simp only [*, if_true, if_false, Bool.false_eq_true]; (repeat' split) <;> omega); rw [q]; rfl))
theorem min_lt (x n : Int) : min n x = if x < n then x else n := by rw [Int.min_def]; split <;> split <;> omega
theorem max_lt (x n : Int) : max n x = if n < x then x else n := by rw [Int.max_def]; split <;> split <;> omega
set_option maxHeartbeats 1000000 in
set_option maxRecDepth 100000 in
theorem cc_least.own (B o : Nat) (h : Bool) (x : Int) (a : ByteArray) (k : Nat) (n : Int) (ok : Bool) (w0 w : World) (cs : Array Value) (hB : w.heap[B]? = some (.cells cs 35 (0, 0))) (h0 : cs[o]? = some (.bool h)) (h1 : cs[o + 1]? = some (.int .i64 x)) (hge : w0.heap.size ≤ B) (hW : Below w0.heap.size w0 w) (hs : cc_Seconds.f k a = some (n, ok)) :
    Calls Tryd.prog 35 #[.pointer (some ⟨B, o, none⟩), .string a] w fun e w' => e = .returned (.tuple #[]) ∧ w'.heap[B]? = some (.cells ((cs.setIfInBounds o (.bool true)).setIfInBounds (o + 1) (.int .i64 (Own.leastOf h x n))) 35 (0, 0)) ∧ Below w0.heap.size w0 w' ∧ KeepBut w w' B none := by
  have hu33 := Tryd.underlying33
  have hsec := fun w => cc_Seconds.calls k a n ok w hs
  have HB := Aside0.mk hB
  have HW := Aside0.mk hW
  clear hB hW
  cases h with
  | true =>
    go_enter Tryd.func35, Tryd.ntmps35
    go_wp2_with (go_at_call 11; refine (hsec _).mono ?_; rintro e w' ⟨rfl, hb⟩; have HB' := Aside0.mk (blk_below HB.out hb); have HW' := Aside0.mk (HW.out.trans (hb.mono HW.out.size)); have c0 := (blk_cell HB'.out o).trans h0; have c1 := (blk_cell HB'.out (o + 1)).trans h1; have f0 := blk_frozen HB'.out o; have f1 := blk_frozen HB'.out (o + 1))
    all_goals go_end0
    all_goals refine ⟨rfl, ?_, (HW'.out.setCell hge _).setCell hge _, ((KeepBut.of_below hb B none).set_ _ _).set_ _ _⟩
    all_goals rw [← blk_set (blk_set HB'.out o (.bool true)) (o + 1) (.int .i64 (Own.leastOf true x n))]
    all_goals first
      | (rw [show Own.leastOf true x n = min n x by unfold Own.leastOf; rw [if_pos rfl, min_lt x n]]; done)
      | (rw [show Own.leastOf true x n = x by unfold Own.leastOf; rw [if_pos rfl, if_pos (by omega)]]; done)
      | (rw [show Own.leastOf true x n = n by unfold Own.leastOf; rw [if_pos rfl, if_neg (by omega)]]; done)
  | false =>
    go_enter Tryd.func35, Tryd.ntmps35
    go_wp2_with (go_at_call 11; refine (hsec _).mono ?_; rintro e w' ⟨rfl, hb⟩; have HB' := Aside0.mk (blk_below HB.out hb); have HW' := Aside0.mk (HW.out.trans (hb.mono HW.out.size)); have c0 := (blk_cell HB'.out o).trans h0; have c1 := (blk_cell HB'.out (o + 1)).trans h1; have f0 := blk_frozen HB'.out o; have f1 := blk_frozen HB'.out (o + 1))
    go_end0
    refine ⟨rfl, ?_, (HW'.out.setCell hge _).setCell hge _, ((KeepBut.of_below hb B none).set_ _ _).set_ _ _⟩
    have := blk_set (blk_set HB'.out o (.bool true)) (o + 1) (.int .i64 (Own.leastOf false x n))
    rw [← this]
    rfl
set_option maxHeartbeats 1000000 in
set_option maxRecDepth 100000 in
theorem cc_greatest.own (B o : Nat) (h : Bool) (x : Int) (a : ByteArray) (k : Nat) (n : Int) (ok : Bool) (w0 w : World) (cs : Array Value) (hB : w.heap[B]? = some (.cells cs 35 (0, 0))) (h0 : cs[o]? = some (.bool h)) (h1 : cs[o + 1]? = some (.int .i64 x)) (hge : w0.heap.size ≤ B) (hW : Below w0.heap.size w0 w) (hs : cc_Seconds.f k a = some (n, ok)) :
    Calls Tryd.prog 36 #[.pointer (some ⟨B, o, none⟩), .string a] w fun e w' => e = .returned (.tuple #[]) ∧ w'.heap[B]? = some (.cells ((cs.setIfInBounds o (.bool true)).setIfInBounds (o + 1) (.int .i64 (Own.greatestOf x (if ok = true then n else 2147483648)))) 35 (0, 0)) ∧ Below w0.heap.size w0 w' ∧ KeepBut w w' B none := by
  have hu33 := Tryd.underlying33
  have hsec := fun w => cc_Seconds.calls k a n ok w hs
  have HB := Aside0.mk hB
  have HW := Aside0.mk hW
  clear hB hW
  cases ok with
  | true =>
    go_enter Tryd.func36, Tryd.ntmps36
    go_wp2_with (go_at_call 11; refine (hsec _).mono ?_; rintro e w' ⟨rfl, hb⟩; have HB' := Aside0.mk (blk_below HB.out hb); have HW' := Aside0.mk (HW.out.trans (hb.mono HW.out.size)); have c0 := (blk_cell HB'.out o).trans h0; have c1 := (blk_cell HB'.out (o + 1)).trans h1; have f0 := blk_frozen HB'.out o; have f1 := blk_frozen HB'.out (o + 1))
    all_goals go_end0
    all_goals refine ⟨rfl, ?_, (HW'.out.setCell hge _).setCell hge _, ((KeepBut.of_below hb B none).set_ _ _).set_ _ _⟩
    all_goals rw [← blk_set (blk_set HB'.out o (.bool true)) (o + 1) (.int .i64 (Own.greatestOf x (n)))]
    all_goals first
      | (rw [show Own.greatestOf x (n) = max (n) x by unfold Own.greatestOf; rw [max_lt]]; done)
      | (rw [show Own.greatestOf x (n) = x by unfold Own.greatestOf; rw [if_pos (by omega)]]; done)
      | (rw [show Own.greatestOf x (n) = (n) by unfold Own.greatestOf; rw [if_neg (by omega)]]; done)
  | false =>
    go_enter Tryd.func36, Tryd.ntmps36
    go_wp2_with (go_at_call 11; refine (hsec _).mono ?_; rintro e w' ⟨rfl, hb⟩; have HB' := Aside0.mk (blk_below HB.out hb); have HW' := Aside0.mk (HW.out.trans (hb.mono HW.out.size)); have c0 := (blk_cell HB'.out o).trans h0; have c1 := (blk_cell HB'.out (o + 1)).trans h1; have f0 := blk_frozen HB'.out o; have f1 := blk_frozen HB'.out (o + 1))
    all_goals go_end0
    all_goals refine ⟨rfl, ?_, (HW'.out.setCell hge _).setCell hge _, ((KeepBut.of_below hb B none).set_ _ _).set_ _ _⟩
    all_goals rw [← blk_set (blk_set HB'.out o (.bool true)) (o + 1) (.int .i64 (Own.greatestOf x (2147483648)))]
    all_goals first
      | (rw [show Own.greatestOf x (2147483648) = max (2147483648) x by unfold Own.greatestOf; rw [max_lt]]; done)
      | (rw [show Own.greatestOf x (2147483648) = x by unfold Own.greatestOf; rw [if_pos (by omega)]]; done)
      | (rw [show Own.greatestOf x (2147483648) = (2147483648) by unfold Own.greatestOf; rw [if_neg (by omega)]]; done)
theorem act_10 (c : Own.Ctl) (has : Bool) (n : Int) (ok : Bool) : (c.cells.setIfInBounds 11 (.bool true)).setIfInBounds (11 + 1) (.int .i64 (Own.leastOf c.h0 c.n0 n)) = (c.act 10 has n ok).cells := by simp [Own.Ctl.act, Own.Ctl.cells]
theorem act_11 (c : Own.Ctl) (has : Bool) (n : Int) (ok : Bool) : (c.cells.setIfInBounds 13 (.bool true)).setIfInBounds (13 + 1) (.int .i64 (Own.leastOf c.h1 c.n1 n)) = (c.act 11 has n ok).cells := by simp [Own.Ctl.act, Own.Ctl.cells]
theorem act_12 (c : Own.Ctl) (has : Bool) (n : Int) (ok : Bool) : (c.cells.setIfInBounds 19 (.bool true)).setIfInBounds (19 + 1) (.int .i64 (Own.leastOf c.h4 c.n4 n)) = (c.act 12 has n ok).cells := by simp [Own.Ctl.act, Own.Ctl.cells]
theorem act_13 (c : Own.Ctl) (has : Bool) (n : Int) (ok : Bool) : (c.cells.setIfInBounds 17 (.bool true)).setIfInBounds (17 + 1) (.int .i64 (Own.greatestOf c.n3 (if ok = true then n else 2147483648))) = (c.act 13 has n ok).cells := by simp [Own.Ctl.act, Own.Ctl.cells]
theorem act_14 (c : Own.Ctl) (n : Int) (ok : Bool) : (c.cells.setIfInBounds 15 (.bool true)).setIfInBounds (15 + 1) (.int .i64 (Own.leastOf c.h2 c.n2 n)) = (c.act 14 true n ok).cells := by simp [Own.Ctl.act, Own.Ctl.cells]
theorem act_14n (c : Own.Ctl) (n : Int) (ok : Bool) : c.cells.setIfInBounds 10 (.bool true) = (c.act 14 false n ok).cells := by simp [Own.Ctl.act, Own.Ctl.cells]
theorem act_15 (c : Own.Ctl) (has : Bool) (n : Int) (ok : Bool) : (c.act 15 has n ok).cells = c.cells := by simp [Own.Ctl.act, Own.Ctl.cells]
set_option maxHeartbeats 1000000 in
set_option maxRecDepth 100000 in
theorem cc_take.flag (B j : Nat) (nm a : ByteArray) (has : Bool) (hfl : ∀ w, Calls Tryd.prog 34 #[.pointer (some ⟨B, 0, none⟩), .string nm] w fun e w' => e = .returned (.pointer (some ⟨B, j, none⟩)) ∧ w' = w) (b : Bool) (cs cs' : Array Value) (w0 w : World) (hB : w.heap[B]? = some (.cells cs 35 (0, 0))) (hc : cs[j]? = some (.bool b)) (hset : cs.setIfInBounds j (.bool true) = cs') (hge : w0.heap.size ≤ B) (hW : Below w0.heap.size w0 w) :
    Calls Tryd.prog 23 #[.pointer (some ⟨B, 0, none⟩), .string nm, .string a, .bool has] w fun e w' => e = .returned (.tuple #[]) ∧ w'.heap[B]? = some (.cells cs' 35 (0, 0)) ∧ Below w0.heap.size w0 w' ∧ KeepBut w w' B none := by
  have c0 := (blk_cell hB j).trans hc
  have f0 := blk_frozen hB j
  have HB := Aside0.mk hB
  have HW := Aside0.mk hW
  have HS := Aside0.mk hset
  clear hB hW hset hc
  go_enter Tryd.func23, Tryd.ntmps23
  go_wp2_with (go_at_call 34; refine (hfl _).mono ?_; rintro e w' ⟨rfl, rfl⟩)
  refine bodyPost_ret (results_none rfl _ _ _) rfl ?_
  exact ⟨rfl, by rw [← HS.out]; exact blk_set HB.out j _, HW.out.setCell hge _, (KeepBut.refl _ B none).set_ _ _⟩
set_option maxHeartbeats 1000000 in
set_option maxRecDepth 100000 in
theorem cc_take.rest (B : Nat) (nm a : ByteArray) (has : Bool) (hfl : ∀ w, Calls Tryd.prog 34 #[.pointer (some ⟨B, 0, none⟩), .string nm] w fun e w' => e = .returned (.pointer none) ∧ w' = w) (k : Nat) (n : Int) (ok : Bool) (w0 w : World) (c : Own.Ctl) (kd : Nat)
    (k10 : (nm.toList == [109, 97, 120, 45, 97, 103, 101]) = true → kd = 10) (k11 : (nm.toList == [115, 45, 109, 97, 120, 97, 103, 101]) = true → kd = 11) (k12 : (nm.toList == [115, 116, 97, 108, 101, 45, 105, 102, 45, 101, 114, 114, 111, 114]) = true → kd = 12) (k13 : (nm.toList == [109, 105, 110, 45, 102, 114, 101, 115, 104]) = true → kd = 13) (k14 : (nm.toList == [109, 97, 120, 45, 115, 116, 97, 108, 101]) = true → kd = 14)
    (k15 : (nm.toList == [109, 97, 120, 45, 97, 103, 101]) = false → (nm.toList == [115, 45, 109, 97, 120, 97, 103, 101]) = false → (nm.toList == [115, 116, 97, 108, 101, 45, 105, 102, 45, 101, 114, 114, 111, 114]) = false → (nm.toList == [109, 105, 110, 45, 102, 114, 101, 115, 104]) = false → (nm.toList == [109, 97, 120, 45, 115, 116, 97, 108, 101]) = false → kd = 15)
    (hB : w.heap[B]? = some (.cells c.cells 35 (0, 0))) (hge : w0.heap.size ≤ B) (hW : Below w0.heap.size w0 w) (hs : cc_Seconds.f k a = some (n, ok)) :
    Calls Tryd.prog 23 #[.pointer (some ⟨B, 0, none⟩), .string nm, .string a, .bool has] w fun e w' => e = .returned (.tuple #[]) ∧ w'.heap[B]? = some (.cells (c.act kd has n ok).cells 35 (0, 0)) ∧ Below w0.heap.size w0 w' ∧ KeepBut w w' B none := by
  have K10 := Aside0.mk k10
  have K11 := Aside0.mk k11
  have K12 := Aside0.mk k12
  have K13 := Aside0.mk k13
  have K14 := Aside0.mk k14
  have K15 := Aside0.mk k15
  have HB := Aside0.mk hB
  have HW := Aside0.mk hW
  have c10 := (blk_cell hB 10).trans (show c.cells[10]? = some (.bool c.b10) from rfl)
  have f10 := blk_frozen hB 10
  have hu35 := Tryd.underlying35
  have L11 := cc_least.own B 11 c.h0 c.n0 a k n ok w0 _ c.cells hB rfl rfl hge hW hs
  have L13 := cc_least.own B 13 c.h1 c.n1 a k n ok w0 _ c.cells hB rfl rfl hge hW hs
  have L15 := cc_least.own B 15 c.h2 c.n2 a k n ok w0 _ c.cells hB rfl rfl hge hW hs
  have L19 := cc_least.own B 19 c.h4 c.n4 a k n ok w0 _ c.cells hB rfl rfl hge hW hs
  have G17 := cc_greatest.own B 17 c.h3 c.n3 a k n ok w0 _ c.cells hB rfl rfl hge hW hs
  clear k10 k11 k12 k13 k14 k15 hB hW
  go_enter Tryd.func23, Tryd.ntmps23
  go_wp2_with (first | (go_at_call 34; (with_reducible refine (hfl _).mono ?_); rintro e w' ⟨rfl, rfl⟩) | (go_at_call 35; (with_reducible refine L11.mono ?_); rintro e w' ⟨rfl, hq, hw, hk⟩) | (go_at_call 35; (with_reducible refine L13.mono ?_); rintro e w' ⟨rfl, hq, hw, hk⟩) | (go_at_call 35; (with_reducible refine L15.mono ?_); rintro e w' ⟨rfl, hq, hw, hk⟩) | (go_at_call 35; (with_reducible refine L19.mono ?_); rintro e w' ⟨rfl, hq, hw, hk⟩) | (go_at_call 36; (with_reducible refine G17.mono ?_); rintro e w' ⟨rfl, hq, hw, hk⟩))
  all_goals first | go_end0 | (refine bodyPost_ret (results_none rfl _ _ _) rfl ?_)
  all_goals (first
    | (obtain rfl := K10.out (by assumption); exact ⟨rfl, by rw [hq]; exact congrArg (fun z => some (Obj.cells z 35 (0, 0))) (act_10 c has n ok), hw, hk⟩)
    | (obtain rfl := K11.out (by assumption); exact ⟨rfl, by rw [hq]; exact congrArg (fun z => some (Obj.cells z 35 (0, 0))) (act_11 c has n ok), hw, hk⟩)
    | (obtain rfl := K12.out (by assumption); exact ⟨rfl, by rw [hq]; exact congrArg (fun z => some (Obj.cells z 35 (0, 0))) (act_12 c has n ok), hw, hk⟩)
    | (obtain rfl := K13.out (by assumption); exact ⟨rfl, by rw [hq]; exact congrArg (fun z => some (Obj.cells z 35 (0, 0))) (act_13 c has n ok), hw, hk⟩)
    | (obtain rfl := K14.out (by assumption); obtain rfl : has = true := (by assumption); exact ⟨rfl, by rw [hq]; exact congrArg (fun z => some (Obj.cells z 35 (0, 0))) (act_14 c n ok), hw, hk⟩)
    | (obtain rfl := K14.out (by assumption); obtain rfl : has = false := (by assumption); exact ⟨rfl, by rw [← act_14n c n ok]; exact blk_set HB.out 10 _, HW.out.setCell hge _, (KeepBut.refl _ B none).set_ _ _⟩)
    | (obtain rfl := K15.out (by assumption) (by assumption) (by assumption) (by assumption) (by assumption); exact ⟨rfl, by rw [act_15 c has n ok]; exact HB.out, HW.out, KeepBut.refl _ B none⟩))
theorem cc_take.own (B : Nat) (nm a : ByteArray) (has : Bool) (k : Nat) (n : Int) (ok : Bool) (w0 w : World) (c : Own.Ctl) (hB : w.heap[B]? = some (.cells c.cells 35 (0, 0))) (hge : w0.heap.size ≤ B) (hW : Below w0.heap.size w0 w) (hs : cc_Seconds.f k a = some (n, ok)) :
    Calls Tryd.prog 23 #[.pointer (some ⟨B, 0, none⟩), .string nm, .string a, .bool has] w fun e w' => e = .returned (.tuple #[]) ∧ w'.heap[B]? = some (.cells (c.act (Own.kindOf nm) has n ok).cells 35 (0, 0)) ∧ Below w0.heap.size w0 w' ∧ KeepBut w w' B none := by
  have hfl := fun w => cc_flag.own B nm w
  by_cases hk : Own.kindOf nm < 10
  · rw [cc_flagAt_lt B nm rfl hk] at hfl
    have hc : ∃ b, c.cells[Own.kindOf nm]? = some (.bool b) := by
      generalize Own.kindOf nm = j at hk
      have : j = 0 ∨ j = 1 ∨ j = 2 ∨ j = 3 ∨ j = 4 ∨ j = 5 ∨ j = 6 ∨ j = 7 ∨ j = 8 ∨ j = 9 := by omega
      rcases this with rfl | rfl | rfl | rfl | rfl | rfl | rfl | rfl | rfl | rfl <;> exact ⟨_, rfl⟩
    have hset : c.cells.setIfInBounds (Own.kindOf nm) (.bool true) = (c.act (Own.kindOf nm) has n ok).cells := by
      generalize Own.kindOf nm = j at hk
      have : j = 0 ∨ j = 1 ∨ j = 2 ∨ j = 3 ∨ j = 4 ∨ j = 5 ∨ j = 6 ∨ j = 7 ∨ j = 8 ∨ j = 9 := by omega
      rcases this with rfl | rfl | rfl | rfl | rfl | rfl | rfl | rfl | rfl | rfl <;> simp [Own.Ctl.act, Own.Ctl.cells]
    obtain ⟨b, hc⟩ := hc
    exact cc_take.flag B _ nm a has hfl b _ _ w0 w hB hc hset hge hW
  · rw [cc_flagAt_ge B nm hk] at hfl
    refine cc_take.rest B nm a has hfl k n ok w0 w c (Own.kindOf nm) (fun h => ?_) (fun h => ?_) (fun h => ?_) (fun h => ?_) (fun h => ?_) (fun h1 h2 h3 h4 h5 => ?_) hB hge hW hs
    · unfold Own.kindOf; rw [beq_iff_eq.1 h]; rfl
    · unfold Own.kindOf; rw [beq_iff_eq.1 h]; rfl
    · unfold Own.kindOf; rw [beq_iff_eq.1 h]; rfl
    · unfold Own.kindOf; rw [beq_iff_eq.1 h]; rfl
    · unfold Own.kindOf; rw [beq_iff_eq.1 h]; rfl
    · unfold Own.kindOf at hk ⊢
      simp only [h1, h2, h3, h4, h5, Bool.false_eq_true, if_false] at hk ⊢
      (repeat' split) <;> first | rfl | (exfalso; revert hk; simp [*])
def cc_Parse.step (k : Nat) (c : Own.Ctl) (p : ByteArray) : Option Own.Ctl :=
  (strings_Cut.f p (⟨#[61]⟩ : ByteArray)).bind fun t => (head_Trim.f t.1).bind fun u => (head_Lower.f u).bind fun nm => (head_Trim.f t.2.1).bind fun b => (cc_unquoted.f b).bind fun a => (cc_Seconds.f k a).bind fun s => some (c.act (Own.kindOf nm) t.2.2 s.1 s.2)
def cc_Parse.steps (k : Nat) : List ByteArray → Own.Ctl → Option Own.Ctl
  | [], c => some c
  | p :: t, c => (cc_Parse.step k c p).bind fun c' => cc_Parse.steps k t c'
theorem cc_at_str {w : World} {A : Option Addr} {n : Nat} {xs : List ByteArray} (h : Kd.C Kd.string w A n xs) (i : Nat) (x : ByteArray) (hx : xs[i]? = some x) : ∃ ad, A = some ad ∧ w.cell? (ad.add i) = some (.string x) := by
  have hn := h.1
  have hi := (List.getElem?_eq_some_iff.1 hx).1
  obtain ⟨ad, e, hc⟩ := h.2.2 (by omega)
  obtain ⟨c, hl, hr, hcell⟩ := hc i x hx
  refine ⟨ad, e, ?_⟩
  have := hcell 0 (.string x) (by
    have e : c = [.string x] := hr
    rw [e]; rfl)
  simpa [Kd.string, Kd.scalar] using this
/-- The world in a round: what was made before stands, the block of the answer holds c. -/
structure CcSt (w w2 : World) (B : Nat) (c : Own.Ctl) (W : World) : Prop where
  at_ : W.heap[B]? = some (.cells c.cells 35 (0, 0))
  below : Below w.heap.size w W
  keep : KeepBut w2 W B none
theorem CcSt.next {w w2 : World} {B : Nat} {c : Own.Ctl} {W W' : World} (h : CcSt w w2 B c W) (hb : Below W.heap.size W W') : CcSt w w2 B c W' :=
  ⟨blk_below h.at_ hb, h.below.trans (hb.mono h.below.size), h.keep.trans (KeepBut.of_below hb B none) (.inl rfl)⟩
theorem cc_below_setRow {B g : Nat} {w0 w : World} (hb : Below B w0 w) (hg : B ≤ g) (cs : Array Value) : Below B w0 (w.setRow g cs) :=
  ⟨hb.os, hb.tape, hb.output, by rw [setRow_size]; exact hb.size, fun k hk => (setRow_other w g k cs (by omega)).trans (hb.block k hk)⟩
theorem cc_info : (Tryd.prog.info? 35).map (·.size) = some 21 := by kernel_rfl
theorem cc_zero (w : World) : (w.alloc (.cells Own.Ctl.zero.cells 35)).heap[w.heap.size]? = some (.cells Own.Ctl.zero.cells 35 (0, 0)) := blk_new w _
set_option maxHeartbeats 1000000 in
set_option maxRecDepth 100000 in
theorem cc_Parse.own (k : Nat) (A : Option Addr) (c0 : Nat) (l ps : List ByteArray) (r : Own.Ctl) (w : World) (hr0 : Kd.C Kd.string w A l.length l) (hc0 : l.length ≤ c0) (hS : head_Split.f k l = some ps) (hF : cc_Parse.steps k ps Own.Ctl.zero = some r) :
    Calls Tryd.prog 14 #[.slice A l.length c0] w fun e w' => e = .returned (.agg r.fin.cells) ∧ Below w.heap.size w w' := by
  have hu35 := Tryd.underlying35
  obtain ⟨wa, hwa⟩ : ∃ wa, wa = w.alloc (.cells #[.bool false, .bool false, .bool false, .bool false, .bool false, .bool false, .bool false, .bool false, .bool false, .bool false, .bool false, .bool false, .int .i64 0, .bool false, .int .i64 0, .bool false, .int .i64 0, .bool false, .int .i64 0, .bool false, .int .i64 0] 35) := ⟨_, rfl⟩
  obtain ⟨w1, hw1⟩ : ∃ w1, w1 = wa.alloc (.cells #[.bool false, .bool false, .bool false, .bool false, .bool false, .bool false, .bool false, .bool false, .bool false, .bool false, .bool false, .bool false, .int .i64 0, .bool false, .int .i64 0, .bool false, .int .i64 0, .bool false, .int .i64 0, .bool false, .int .i64 0] 35) := ⟨_, rfl⟩
  have hba : Below w.heap.size w wa := by rw [hwa]; exact (Below.refl _ w).alloc (Nat.le_refl _) _
  have hsa : wa.heap.size = w.heap.size + 1 := by rw [hwa, World.size_alloc]
  have hza : wa.heap[w.heap.size]? = some (.cells Own.Ctl.zero.cells 35 (0, 0)) := by rw [hwa]; exact blk_new w _
  have hb1 : Below w.heap.size w w1 := by rw [hw1]; exact hba.alloc (by omega) _
  have hs1 : w1.heap.size = w.heap.size + 2 := by rw [hw1, World.size_alloc, hsa]
  have hz0 : w1.heap[w.heap.size]? = some (.cells Own.Ctl.zero.cells 35 (0, 0)) := by rw [hw1]; exact blk_alloc hza _
  have hz1 : w1.heap[w.heap.size + 1]? = some (.cells Own.Ctl.zero.cells 35 (0, 0)) := by rw [hw1, ← hsa]; exact blk_new wa _
  have hsp := head_Split.calls k A c0 l ps w1 (Kd.C_below hr0 hb1) hc0 hS
  have HB1 := Aside0.mk hb1
  have HS1 := Aside0.mk hs1
  have HZ1 := Aside0.mk hz1
  have HZ0 := Aside0.mk hz0
  clear hb1 hs1 hz1 hz0 hr0 hS hza hba
  go_enter Tryd.func14, Tryd.ntmps14
  go_wp2_with (first | (go_at_call 21; rw [← hwa, ← hw1]; (with_reducible refine hsp.mono ?_); rintro e w2 ⟨v, rfl, hR, hB2⟩; obtain ⟨A2, c2, rfl, hc2, hC2⟩ := Kd.R_reads hR))
  have HB2 := Aside0.mk (HB1.out.trans (hB2.mono (by have := HS1.out; omega)))
  have HZ2 := Aside0.mk (blk_below HZ1.out hB2)
  have HZ20 := Aside0.mk (blk_below HZ0.out hB2)
  have HC2 := Aside0.mk hC2
  have HF := Aside0.mk hF
  have hlen : ps.length ≤ 9223372036854775807 := hC2.2.1
  have HA2 : Aside0 (some (w.heap.size + 1) ≠ (Value.slice A2 ps.length c2).ownBlock) := ⟨Kd.R_ne hR HZ2.out (by decide)⟩
  clear hB2 hC2 hF hR hsp hwa hw1 hsa
  go_loopg [12] ps.length (fun gg i wr => ∃ n : Nat, i = .int .i64 n ∧ n ≤ ps.length ∧ ps.length - n ≤ gg ∧ ∃ c : Own.Ctl, Aside0 (cc_Parse.steps k (ps.drop n) c = some r) ∧ Aside0 (CcSt w w2 (w.heap.size + 1) c wr))
  case atStart => exact ⟨0, rfl, by omega, by omega, _, ⟨HF.out⟩, ⟨⟨HZ2.out, HB2.out, KeepBut.refl _ _ _⟩⟩⟩
  case round =>
    obtain ⟨n, rfl, hn, hgg, c, hst, hS0⟩ := hrel
    by_cases hlt : n < ps.length
    · have hx : ps[n]? = some ps[n] := List.getElem?_eq_getElem hlt
      have q1 : decide ((n : Int) < (ps.length : Int)) = true := decide_eq_true (by omega)
      obtain ⟨ad, rfl, hx0⟩ := cc_at_str HC2.out n _ hx
      replace hx0 : wr.cell? (ad.add n) = some (.string ps[n]) := by
        have hl := World.block_lt_of_cell? w2 _ hx0
        have hne : (ad.add n).block ≠ w.heap.size + 1 := fun e => HA2.out (by rw [← e]; simp [Value.ownBlock, Addr.add]; split <;> rfl)
        have := hS0.out.keep.2 (ad.add n).block hl hne (by simp)
        rw [← hx0]; unfold World.cell?; rw [this]
      have p5 := eq_true (show (0 : Int) ≤ (n : Int) by omega)
      have q5 := eq_true (show (n : Int) < (ps.length : Int) by omega)
      have hd : ps.drop n = ps[n] :: ps.drop (n + 1) := List.drop_eq_getElem_cons hlt
      have hst' := hst.out
      rw [hd] at hst'
      clear hd hx hst
      generalize ps[n] = x at *
      obtain ⟨c', hc1, hc2⟩ := Option.bind_eq_some_iff.1 (show (cc_Parse.step k c x).bind (fun c' => cc_Parse.steps k (ps.drop (n + 1)) c') = some r from hst')
      clear hst'
      unfold cc_Parse.step at hc1
      obtain ⟨⟨t1, t2, t3⟩, e1, hc1⟩ := Option.bind_eq_some_iff.1 hc1
      obtain ⟨u, e2, hc1⟩ := Option.bind_eq_some_iff.1 hc1
      obtain ⟨nm, e3, hc1⟩ := Option.bind_eq_some_iff.1 hc1
      obtain ⟨b, e4, hc1⟩ := Option.bind_eq_some_iff.1 hc1
      obtain ⟨a, e5, hc1⟩ := Option.bind_eq_some_iff.1 hc1
      obtain ⟨⟨s1, s2⟩, e6, hc1⟩ := Option.bind_eq_some_iff.1 hc1
      have k1 := fun w => strings_Cut.calls x _ t1 t2 t3 w e1
      have k2 := fun w => head_Trim.calls t1 u w e2
      have k3 := fun w => head_Lower.calls u nm w e3
      have k4 := fun w => head_Trim.calls t2 b w e4
      have k5 := fun w => cc_unquoted.calls b a w e5
      have E6 := Aside0.mk e6
      have HC1 := Aside0.mk (Option.some.inj hc1)
      have HC2' := Aside0.mk hc2
      clear hc1 hc2 e1 e2 e3 e4 e5 e6
      go_wp2_with (first | (go_at_call 22; (with_reducible refine (k1 _).mono ?_); rintro e w3 ⟨rfl, hb⟩; have S1 := Aside0.mk (hS0.out.next hb); clear hb) | (go_at_call 25; (with_reducible refine (k2 _).mono ?_); rintro e w4 ⟨rfl, hb⟩; have S2 := Aside0.mk (S1.out.next hb); clear hb k2) | (go_at_call 24; (with_reducible refine (k3 _).mono ?_); rintro e w5 ⟨rfl, hb⟩; have S3 := Aside0.mk (S2.out.next hb); clear hb) | (go_at_call 25; (with_reducible refine (k4 _).mono ?_); rintro e w6 ⟨rfl, hb⟩; have S4 := Aside0.mk (S3.out.next hb); clear hb) | (go_at_call 26; (with_reducible refine (k5 _).mono ?_); rintro e w7 ⟨rfl, hb⟩; have S5 := Aside0.mk (S4.out.next hb.below); clear hb; have k6 := cc_take.own (w.heap.size + 1) nm a t3 k s1 s2 w w7 c S5.out.at_ (by omega) S5.out.below E6.out) | (go_at_call 23; (with_reducible refine k6.mono ?_); rintro e w8 ⟨rfl, hq, hw, hk⟩; have S6 : Aside0 (CcSt w w2 (w.heap.size + 1) c' w8) := ⟨⟨by rw [hq, HC1.out], hw, S5.out.keep.trans hk (.inl rfl)⟩⟩; clear hq hw hk k6))
      go_roundg (ps.length - (n + 1))
      case measure => omega
      case rel => exact ⟨n + 1, rfl, by omega, by omega, c', HC2', S6⟩
    · have q1 : decide ((n : Int) < (ps.length : Int)) = false := decide_eq_false (by omega)
      have hd : ps.drop n = [] := List.drop_eq_nil_of_le (by omega)
      have hst' := hst.out
      rw [hd] at hst'
      obtain rfl : c = r := Option.some.inj hst'
      have hc10 := (blk_cell hS0.out.at_ 10).trans (show c.cells[10]? = some (.bool c.b10) from rfl)
      have hc15 := (blk_cell hS0.out.at_ 15).trans (show c.cells[15]? = some (.bool c.h2) from rfl)
      have hf10 := blk_frozen hS0.out.at_ 10
      have hu33 := Tryd.underlying33
      clear hd hst'
      have hres : wr.heap[w.heap.size]? = some (.cells Own.Ctl.zero.cells 35 (0, 0)) := (hS0.out.keep.2 w.heap.size (blk_lt HZ20.out) (by omega) (by simp)).trans HZ20.out
      have hfin : ∀ v : Bool, (c.b10 && !c.h2) = v → (wr.setCell ⟨w.heap.size + 1, 10, none⟩ (.bool v)).heap[w.heap.size + 1]? = some (.cells c.fin.cells 35 (0, 0)) := fun v hv => by
        rw [blk_set hS0.out.at_ 10]
        subst hv
        rfl
      have hres2 : ∀ v : Bool, (wr.setCell ⟨w.heap.size + 1, 10, none⟩ (.bool v)).heap[w.heap.size]? = some (.cells Own.Ctl.zero.cells 35 (0, 0)) := fun v => blk_far hres (by show w.heap.size ≠ w.heap.size + 1; omega) _
      have hbel : ∀ v : Bool, Below w.heap.size w ((wr.setCell ⟨w.heap.size + 1, 10, none⟩ (.bool v)).setRow w.heap.size c.fin.cells) := fun v => cc_below_setRow (hS0.out.below.setCell (Nat.le_succ _) _) (Nat.le_refl _) _
      have hback : ∀ v : Bool, ((wr.setCell ⟨w.heap.size + 1, 10, none⟩ (.bool v)).setRow w.heap.size c.fin.cells).heap[w.heap.size]? = some (.cells c.fin.cells 35 (0, 0)) := fun v => setRow_heap _ _ _ _ _ _ (hres2 v)
      obtain ⟨fc, hfc⟩ : ∃ fc, fc = c.fin.cells := ⟨_, rfl⟩
      have hsz : some 21 = some fc.size := by rw [hfc]; rfl
      have hone : fc.all (·.oneCell') = true := by rw [hfc]; simp [Own.Ctl.cells, Value.oneCell']
      rw [← hfc] at hfin hbel hback
      have HFC := Aside0.mk hfc
      have HFIN := Aside0.mk hfin
      have HRES := Aside0.mk hres2
      have HBEL := Aside0.mk hbel
      have HBK := Aside0.mk hback
      clear hfc hfin hres2 hbel hback hres
      cases hb : c.b10 with
      | true =>
        cases hh : c.h2 with
        | true =>
          have HV := HFIN.out false (by rw [hb, hh]; rfl)
          rw [hb] at hc10
          rw [hh] at hc15
          clear hb hh
          go_wp2_with (first | ((with_reducible refine gate_dst (N := 40) rfl ?_); refine wpList_load_row rfl 35 (.tmp 3) rfl (w.heap.size + 1) rfl 35 fc (0, 0) _ HV hu35 rfl (cc_info.trans hsz) ?_) | ((with_reducible refine gate_store (t := 35) rfl ?_); refine wpList_store_row rfl 35 (.tmp 2) (.tmp 40) rfl w.heap.size fc rfl rfl 35 Own.Ctl.zero.cells (HRES.out false) (cc_info.trans hsz) (by rw [← Option.some.inj hsz]; rfl) hone ?_))
          refine bodyPost_ret (results_cell_row rfl _ _ w.heap.size 35 fc (0, 0) _ rfl (HBK.out false) hu35 rfl (cc_info.trans hsz)) rfl ?_
          exact ⟨by rw [HFC.out], HBEL.out false⟩
        | false =>
          have HV := HFIN.out true (by rw [hb, hh]; rfl)
          rw [hb] at hc10
          rw [hh] at hc15
          clear hb hh
          go_wp2_with (first | ((with_reducible refine gate_dst (N := 40) rfl ?_); refine wpList_load_row rfl 35 (.tmp 3) rfl (w.heap.size + 1) rfl 35 fc (0, 0) _ HV hu35 rfl (cc_info.trans hsz) ?_) | ((with_reducible refine gate_store (t := 35) rfl ?_); refine wpList_store_row rfl 35 (.tmp 2) (.tmp 40) rfl w.heap.size fc rfl rfl 35 Own.Ctl.zero.cells (HRES.out true) (cc_info.trans hsz) (by rw [← Option.some.inj hsz]; rfl) hone ?_))
          refine bodyPost_ret (results_cell_row rfl _ _ w.heap.size 35 fc (0, 0) _ rfl (HBK.out true) hu35 rfl (cc_info.trans hsz)) rfl ?_
          exact ⟨by rw [HFC.out], HBEL.out true⟩
      | false =>
        have HV := HFIN.out false (by rw [hb]; rfl)
        rw [hb] at hc10
        clear hb
        go_wp2_with (first | ((with_reducible refine gate_dst (N := 40) rfl ?_); refine wpList_load_row rfl 35 (.tmp 3) rfl (w.heap.size + 1) rfl 35 fc (0, 0) _ HV hu35 rfl (cc_info.trans hsz) ?_) | ((with_reducible refine gate_store (t := 35) rfl ?_); refine wpList_store_row rfl 35 (.tmp 2) (.tmp 40) rfl w.heap.size fc rfl rfl 35 Own.Ctl.zero.cells (HRES.out false) (cc_info.trans hsz) (by rw [← Option.some.inj hsz]; rfl) hone ?_))
        refine bodyPost_ret (results_cell_row rfl _ _ w.heap.size 35 fc (0, 0) _ rfl (HBK.out false) hu35 rfl (cc_info.trans hsz)) rfl ?_
        exact ⟨by rw [HFC.out], HBEL.out false⟩
def cc_Parse.f (k : Nat) (l0 : List ByteArray) : Option (Bool × Bool × Bool × Bool × Bool × Bool × Bool × Bool × Bool × Bool × Bool × Bool × Int × Bool × Int × Bool × Int × Bool × Int × Bool × Int) :=
  (head_Split.f k l0).bind fun ps => (cc_Parse.steps k ps Own.Ctl.zero).bind fun c => some c.fin.tup
theorem cc_Parse.mono_steps (k : Nat) : ∀ (ps : List ByteArray) (c : Own.Ctl), LeO (cc_Parse.steps k ps c) (cc_Parse.steps (k + 1) ps c)
  | [], c => LeO.refl _
  | p :: t, c => by
    unfold cc_Parse.steps cc_Parse.step
    refine LeO.bind ?_ (fun _ => cc_Parse.mono_steps k t _)
    exact LeO.bind (LeO.refl _) fun _ => LeO.bind (LeO.refl _) fun _ => LeO.bind (LeO.refl _) fun _ => LeO.bind (LeO.refl _) fun _ => LeO.bind (LeO.refl _) fun _ => LeO.bind (cc_Seconds.mono _ k) fun _ => LeO.refl _
theorem cc_Parse.mono : ∀ a0 k, LeO (cc_Parse.f k a0) (cc_Parse.f (k + 1) a0) := by
  intro a0 k
  unfold cc_Parse.f
  exact LeO.bind (head_Split.mono _ k) fun _ => LeO.bind (cc_Parse.mono_steps k _ _) fun _ => LeO.refl _
theorem cc_Parse.calls (k : Nat) (A0 : Option Addr) (c0 : Nat) (l0 : List ByteArray) (r1 : Bool) (r2 : Bool) (r3 : Bool) (r4 : Bool) (r5 : Bool) (r6 : Bool) (r7 : Bool) (r8 : Bool) (r9 : Bool) (r10 : Bool) (r11 : Bool) (r12 : Bool) (r13 : Int) (r14 : Bool) (r15 : Int) (r16 : Bool) (r17 : Int) (r18 : Bool) (r19 : Int) (r20 : Bool) (r21 : Int) (w : World) (hr0 : Kd.C Kd.string w A0 l0.length l0) (hc0 : l0.length ≤ c0) (h : cc_Parse.f k l0 = some (r1, r2, r3, r4, r5, r6, r7, r8, r9, r10, r11, r12, r13, r14, r15, r16, r17, r18, r19, r20, r21)) :
    Calls Tryd.prog 14 #[.slice A0 l0.length c0] w fun e w' => e = .returned (.agg #[.bool r1, .bool r2, .bool r3, .bool r4, .bool r5, .bool r6, .bool r7, .bool r8, .bool r9, .bool r10, .bool r11, .bool r12, .int .i64 r13, .bool r14, .int .i64 r15, .bool r16, .int .i64 r17, .bool r18, .int .i64 r19, .bool r20, .int .i64 r21]) ∧ Below w.heap.size w w' := by
  unfold cc_Parse.f at h
  obtain ⟨ps, h1, h⟩ := Option.bind_eq_some_iff.1 h
  obtain ⟨c, h2, h⟩ := Option.bind_eq_some_iff.1 h
  have h := Option.some.inj h
  unfold Own.Ctl.tup at h
  simp only [Prod.mk.injEq] at h
  obtain ⟨rfl, rfl, rfl, rfl, rfl, rfl, rfl, rfl, rfl, rfl, rfl, rfl, rfl, rfl, rfl, rfl, rfl, rfl, rfl, rfl, rfl⟩ := h
  exact cc_Parse.own k A0 c0 l0 ps c w hr0 hc0 h1 h2


/-! ### sprlaw14_first: function 8 -/
theorem cc_lit (w : World) (x : ByteArray) (t : TypeId) : Kd.C Kd.string (w.alloc (.cells #[.string x] t)) (some ⟨w.heap.size, 0, none⟩) 1 [x] := by
  refine ⟨rfl, by decide, fun _ => ⟨_, rfl, fun i y hy => ?_⟩⟩
  have hi : i = 0 := by have := (List.getElem?_eq_some_iff.1 hy).1; simp at this; exact this
  subst hi
  obtain rfl : x = y := Option.some.inj hy
  refine ⟨[.string x], rfl, rfl, fun j v hv => ?_⟩
  have hj : j = 0 := by have := (List.getElem?_eq_some_iff.1 hv).1; simp at this; exact this
  subst hj
  obtain rfl : Value.string x = v := Option.some.inj hv
  exact (blk_cell (blk_new w (.cells #[.string x] t)) 0).trans rfl
theorem sprlaw14_first.p0 (w : World) : Calls Tryd.prog 14 #[.slice (some ⟨w.heap.size, 0, none⟩) 1 1] (w.alloc (.cells #[.string (⟨#[109, 97, 120, 45, 97, 103, 101, 61, 53, 44, 32, 109, 97, 120, 45, 97, 103, 101, 61, 34, 51, 34, 44, 32, 112, 114, 105, 118, 97, 116, 101]⟩ : ByteArray)] 9)) fun e w' => e = .returned (.agg #[.bool false, .bool false, .bool true, .bool false, .bool false, .bool false, .bool false, .bool false, .bool false, .bool false, .bool false, .bool true, .int .i64 3, .bool false, .int .i64 0, .bool false, .int .i64 0, .bool false, .int .i64 0, .bool false, .int .i64 0]) ∧ Below w.heap.size w w' := by
  refine (cc_Parse.calls 60 (some ⟨w.heap.size, 0, none⟩) 1 [(⟨#[109, 97, 120, 45, 97, 103, 101, 61, 53, 44, 32, 109, 97, 120, 45, 97, 103, 101, 61, 34, 51, 34, 44, 32, 112, 114, 105, 118, 97, 116, 101]⟩ : ByteArray)] false false true false false false false false false false false true 3 false 0 false 0 false 0 false 0 _ (cc_lit w _ 9) (Nat.le_refl _) (by kernel_rfl)).mono ?_
  rintro e w' ⟨rfl, hb⟩
  exact ⟨rfl, ((Below.refl _ w).alloc (Nat.le_refl _) _).trans (hb.mono (by rw [World.size_alloc]; omega))⟩
theorem sprlaw14_first.p1 (w : World) : Calls Tryd.prog 14 #[.slice (some ⟨w.heap.size, 0, none⟩) 1 1] (w.alloc (.cells #[.string (⟨#[109, 97, 120, 45, 97, 103, 101, 61, 120]⟩ : ByteArray)] 9)) fun e w' => e = .returned (.agg #[.bool false, .bool false, .bool false, .bool false, .bool false, .bool false, .bool false, .bool false, .bool false, .bool false, .bool false, .bool true, .int .i64 0, .bool false, .int .i64 0, .bool false, .int .i64 0, .bool false, .int .i64 0, .bool false, .int .i64 0]) ∧ Below w.heap.size w w' := by
  refine (cc_Parse.calls 60 (some ⟨w.heap.size, 0, none⟩) 1 [(⟨#[109, 97, 120, 45, 97, 103, 101, 61, 120]⟩ : ByteArray)] false false false false false false false false false false false true 0 false 0 false 0 false 0 false 0 _ (cc_lit w _ 9) (Nat.le_refl _) (by kernel_rfl)).mono ?_
  rintro e w' ⟨rfl, hb⟩
  exact ⟨rfl, ((Below.refl _ w).alloc (Nat.le_refl _) _).trans (hb.mono (by rw [World.size_alloc]; omega))⟩
theorem sprlaw14_first.p2 (w : World) : Calls Tryd.prog 14 #[.slice (some ⟨w.heap.size, 0, none⟩) 1 1] (w.alloc (.cells #[.string (⟨#[109, 105, 110, 45, 102, 114, 101, 115, 104]⟩ : ByteArray)] 9)) fun e w' => e = .returned (.agg #[.bool false, .bool false, .bool false, .bool false, .bool false, .bool false, .bool false, .bool false, .bool false, .bool false, .bool false, .bool false, .int .i64 0, .bool false, .int .i64 0, .bool false, .int .i64 0, .bool true, .int .i64 2147483648, .bool false, .int .i64 0]) ∧ Below w.heap.size w w' := by
  refine (cc_Parse.calls 60 (some ⟨w.heap.size, 0, none⟩) 1 [(⟨#[109, 105, 110, 45, 102, 114, 101, 115, 104]⟩ : ByteArray)] false false false false false false false false false false false false 0 false 0 false 0 true 2147483648 false 0 _ (cc_lit w _ 9) (Nat.le_refl _) (by kernel_rfl)).mono ?_
  rintro e w' ⟨rfl, hb⟩
  exact ⟨rfl, ((Below.refl _ w).alloc (Nat.le_refl _) _).trans (hb.mono (by rw [World.size_alloc]; omega))⟩
set_option maxHeartbeats 1000000 in
set_option maxRecDepth 100000 in
theorem sprlaw14_first.own (w : World) :
    Calls Tryd.prog 8 #[] w fun e w' => e = .returned (.bool true) ∧ Below w.heap.size w w' := by
  have hu35 := Tryd.underlying35
  have hu33 := Tryd.underlying33
  have q0 := sprlaw14_first.p0 w
  have q1 := fun w => sprlaw14_first.p1 w
  have q2 := fun w => sprlaw14_first.p2 w
  obtain ⟨A0, hA0⟩ : ∃ A : Array Value, A = #[.bool false, .bool false, .bool true, .bool false, .bool false, .bool false, .bool false, .bool false, .bool false, .bool false, .bool false, .bool true, .int .i64 3, .bool false, .int .i64 0, .bool false, .int .i64 0, .bool false, .int .i64 0, .bool false, .int .i64 0] := ⟨_, rfl⟩
  have hs0 : Aside0 (some 21 = some A0.size) := ⟨by rw [hA0]; rfl⟩
  have ho0 : A0.all (·.oneCell') = true := by rw [hA0]; simp [Value.oneCell']
  rw [← hA0] at q0
  have HA0 := Aside0.mk hA0
  clear hA0
  obtain ⟨A1, hA1⟩ : ∃ A : Array Value, A = #[.bool false, .bool false, .bool false, .bool false, .bool false, .bool false, .bool false, .bool false, .bool false, .bool false, .bool false, .bool true, .int .i64 0, .bool false, .int .i64 0, .bool false, .int .i64 0, .bool false, .int .i64 0, .bool false, .int .i64 0] := ⟨_, rfl⟩
  have hs1 : Aside0 (some 21 = some A1.size) := ⟨by rw [hA1]; rfl⟩
  have ho1 : A1.all (·.oneCell') = true := by rw [hA1]; simp [Value.oneCell']
  simp only [← hA1] at q1
  have HA1 := Aside0.mk hA1
  clear hA1
  obtain ⟨A2, hA2⟩ : ∃ A : Array Value, A = #[.bool false, .bool false, .bool false, .bool false, .bool false, .bool false, .bool false, .bool false, .bool false, .bool false, .bool false, .bool false, .int .i64 0, .bool false, .int .i64 0, .bool false, .int .i64 0, .bool true, .int .i64 2147483648, .bool false, .int .i64 0] := ⟨_, rfl⟩
  have hs2 : Aside0 (some 21 = some A2.size) := ⟨by rw [hA2]; rfl⟩
  have ho2 : A2.all (·.oneCell') = true := by rw [hA2]; simp [Value.oneCell']
  simp only [← hA2] at q2
  have HA2 := Aside0.mk hA2
  clear hA2
  have T0 := Aside0.mk trivial
  go_enter Tryd.func8, Tryd.ntmps8
  go_wp2_with (first | (clear T0; go_at_call 14; (with_reducible refine q0.mono ?_); rintro e w1 ⟨rfl, hb1⟩; obtain ⟨wz, hwz⟩ : ∃ wz, wz = w1.alloc (.cells #[.bool false, .bool false, .bool false, .bool false, .bool false, .bool false, .bool false, .bool false, .bool false, .bool false, .bool false, .bool false, .int .i64 0, .bool false, .int .i64 0, .bool false, .int .i64 0, .bool false, .int .i64 0, .bool false, .int .i64 0] 35) := ⟨_, rfl⟩; obtain ⟨wa, hwa⟩ : ∃ wa, wa = wz.setRow w1.heap.size A0 := ⟨_, rfl⟩; have hsa : wa.heap.size = w1.heap.size + 1 := (by rw [hwa, setRow_size, hwz, World.size_alloc]); have HZA : Aside0 (wa.heap[w1.heap.size]? = some (.cells A0 35 (0, 0))) := ⟨(by rw [hwa, hwz]; exact setRow_heap _ _ _ _ _ _ (blk_new w1 _))⟩; have HB1 : Aside0 (Below w.heap.size w wa) := ⟨(by rw [hwa, hwz]; exact cc_below_setRow (hb1.alloc hb1.size _) hb1.size _)⟩; clear hb1; have T1 := Aside0.mk trivial) | ((with_reducible refine gate_store (t := 35) (p := 1) rfl ?_); refine wpList_store_row rfl 35 (.tmp 1) (.tmp 5) rfl w1.heap.size A0 rfl rfl 35 Own.Ctl.zero.cells (blk_new w1 _) (cc_info.trans hs0.out) (by rw [← Option.some.inj hs0.out]; rfl) ho0 ?_) | (clear T1; go_at_call 14; rw [← hwz, ← hwa, ← hsa]; (with_reducible refine (q1 wa).mono ?_); rintro e w2 ⟨rfl, hb2⟩; have HZA2 := Aside0.mk (blk_below HZA.out hb2); have HB2 := Aside0.mk (HB1.out.trans (hb2.mono HB1.out.size)); clear hb2 HZA hwa hwz hsa HB1; have T2 := Aside0.mk trivial) | (clear T2; go_at_call 14; (with_reducible refine (q2 w2).mono ?_); rintro e w3 ⟨rfl, hb3⟩; have HZA3 := Aside0.mk (blk_below HZA2.out hb3); have HB3 := Aside0.mk (HB2.out.trans (hb3.mono HB2.out.size)); clear hb3 HB2 q0 q1 q2) | ((with_reducible refine gate_store (t := 35) (p := 2) rfl ?_); refine wpList_store_row rfl 35 (.tmp 2) (.tmp 7) rfl w3.heap.size A1 rfl rfl 35 Own.Ctl.zero.cells (blk_alloc (blk_new w3 _) _) (cc_info.trans hs1.out) (by rw [← Option.some.inj hs1.out]; rfl) ho1 ?_) | ((with_reducible refine gate_store (t := 35) (p := 3) rfl ?_); obtain ⟨wx, hwx⟩ : ∃ wx, wx = w3.alloc (.cells #[.bool false, .bool false, .bool false, .bool false, .bool false, .bool false, .bool false, .bool false, .bool false, .bool false, .bool false, .bool false, .int .i64 0, .bool false, .int .i64 0, .bool false, .int .i64 0, .bool false, .int .i64 0, .bool false, .int .i64 0] 35) := ⟨_, rfl⟩; obtain ⟨wy, hwy⟩ : ∃ wy, wy = wx.alloc (.cells #[.bool false, .bool false, .bool false, .bool false, .bool false, .bool false, .bool false, .bool false, .bool false, .bool false, .bool false, .bool false, .int .i64 0, .bool false, .int .i64 0, .bool false, .int .i64 0, .bool false, .int .i64 0, .bool false, .int .i64 0] 35) := ⟨_, rfl⟩; have hsx : wx.heap.size = w3.heap.size + 1 := (by rw [hwx, World.size_alloc]); have hy0 := (by rw [hwy, hwx]; exact blk_alloc (blk_new w3 _) _ : wy.heap[w3.heap.size]? = some (.cells Own.Ctl.zero.cells 35 (0, 0))); have hy1 := (by rw [hwy, ← hsx]; exact blk_new wx _ : wy.heap[w3.heap.size + 1]? = some (.cells Own.Ctl.zero.cells 35 (0, 0))); have hya := (by rw [hwy, hwx]; exact blk_alloc (blk_alloc HZA3.out _) _ : wy.heap[w1.heap.size]? = some (.cells A0 35 (0, 0))); have hlt := blk_lt HZA3.out; obtain ⟨wv, hwv⟩ : ∃ wv, wv = wy.setRow w3.heap.size A1 := ⟨_, rfl⟩; have hv1 := (by rw [hwv]; exact (setRow_other _ _ _ _ (by omega)).trans hy1 : wv.heap[w3.heap.size + 1]? = some (.cells Own.Ctl.zero.cells 35 (0, 0))); have hv0 := (by rw [hwv]; exact setRow_heap _ _ _ _ _ _ hy0 : wv.heap[w3.heap.size]? = some (.cells A1 35 (0, 0))); have hva := (by rw [hwv]; exact (setRow_other _ _ _ _ (by omega)).trans hya : wv.heap[w1.heap.size]? = some (.cells A0 35 (0, 0))); obtain ⟨wf, hwf⟩ : ∃ wf, wf = wv.setRow (w3.heap.size + 1) A2 := ⟨_, rfl⟩; have hf1 := (by rw [hwf]; exact setRow_heap _ _ _ _ _ _ hv1 : wf.heap[w3.heap.size + 1]? = some (.cells A2 35 (0, 0))); have hf0 := (by rw [hwf]; exact (setRow_other _ _ _ _ (by omega)).trans hv0 : wf.heap[w3.heap.size]? = some (.cells A1 35 (0, 0))); have hfa := (by rw [hwf]; exact (setRow_other _ _ _ _ (by omega)).trans hva : wf.heap[w1.heap.size]? = some (.cells A0 35 (0, 0))); have HBF := Aside0.mk (by rw [hwf, hwv, hwy, hwx]; exact cc_below_setRow (cc_below_setRow ((HB3.out.alloc HB3.out.size _).alloc (by rw [World.size_alloc]; have := HB3.out.size; omega) _) HB3.out.size _) (by have := HB3.out.size; omega) _ : Below w.heap.size w wf); refine wpList_store_row rfl 35 (.tmp 3) (.tmp 9) rfl (w3.heap.size + 1) A2 rfl rfl 35 Own.Ctl.zero.cells (by rw [← hwx, ← hwy, ← hwv]; exact hv1) (cc_info.trans hs2.out) (by rw [← Option.some.inj hs2.out]; rfl) ho2 ?_; rw [← hwx, ← hwy, ← hwv, ← hwf]; have ca11 := (blk_cell hfa 11).trans (show A0[11]? = some (.bool true) by rw [HA0.out]; rfl); have ca12 := (blk_cell hfa 12).trans (show A0[12]? = some (.int .i64 3) by rw [HA0.out]; rfl); have ca2 := (blk_cell hfa 2).trans (show A0[2]? = some (.bool true) by rw [HA0.out]; rfl); have cb11 := (blk_cell hf0 11).trans (show A1[11]? = some (.bool true) by rw [HA1.out]; rfl); have cb12 := (blk_cell hf0 12).trans (show A1[12]? = some (.int .i64 0) by rw [HA1.out]; rfl); have cc18 := (blk_cell hf1 18).trans (show A2[18]? = some (.int .i64 2147483648) by rw [HA2.out]; rfl); clear hwf hwv hwy hwx hsx hy0 hy1 hya hv1 hv0 hva hf1 hf0 hfa hlt HZA3 HB3))
  go_ret
  exact ⟨rfl, HBF.out⟩
def sprlaw14_first.f (k : Nat) : Option Bool := some true
theorem sprlaw14_first.mono : ∀ k, LeO (sprlaw14_first.f k) (sprlaw14_first.f (k + 1)) := fun _ => LeO.refl _
theorem sprlaw14_first.calls (k : Nat) (r : Bool) (w : World) (h : sprlaw14_first.f k = some r) :
    Calls Tryd.prog 8 #[] w fun e w' => e = .returned (.bool r) ∧ Below w.heap.size w w' := by
  obtain rfl : true = r := Option.some.inj h
  exact sprlaw14_first.own w


/-! ### sprlaw14_texts: function 9 -/
def sprlaw14_texts.l0 : Nat → List ByteArray → Int → Int → Option (Bool)
  | 0, _, _, _ => none
  | k + 1, x0, x3, x4 => if x4 < (x0.length : Int) then (if x4 < 80 then (if 0 ≤ x4 then (sprlaw14_texts.l0 k x0 (mn (wrap64 (x3 + (mn ((rdOf ByteArray.empty x0 x4).size : Int) 20000))) 80000) (wrap64 (x4 + 1))) else (none)) else (if (x0.length : Int) ≤ 80 then (some (decide (x3 ≤ 20000))) else (some false))) else (if (x0.length : Int) ≤ 80 then (some (decide (x3 ≤ 20000))) else (some false))
def sprlaw14_texts.f (k : Nat) (l0 : List ByteArray) : Option (Bool) := sprlaw14_texts.l0 k l0 0 0
theorem sprlaw14_texts.mono_l : ∀ k, (∀ y0 y1 y2, LeO (sprlaw14_texts.l0 k y0 y1 y2) (sprlaw14_texts.l0 (k + 1) y0 y1 y2))
  | 0 => fun _ _ _ r h => by simp [sprlaw14_texts.l0] at h
  | k + 1 => by
    have ih0 := sprlaw14_texts.mono_l k
    · intro y0 y1 y2
      unfold sprlaw14_texts.l0
      repeat' first
      | (with_reducible exact ih0 _ _ _)
      | (with_reducible exact LeO.refl _)
      | (with_reducible exact LeO.none _)
      | (with_reducible refine LeO.ite ?_ ?_)
      | (with_reducible refine LeO.bind ?_ (fun _ => ?_))
      | exact ih0 _ _ _
      | exact LeO.none _
      | refine LeO.ite ?_ ?_
      | refine LeO.bind ?_ (fun _ => ?_)
theorem sprlaw14_texts.mono : ∀ a0 k, LeO (sprlaw14_texts.f k a0) (sprlaw14_texts.f (k + 1) a0) := by
  intro a0 k
  have ih0 := sprlaw14_texts.mono_l k
  unfold sprlaw14_texts.f
  repeat' first
      | (with_reducible exact ih0 _ _ _)
      | (with_reducible exact LeO.refl _)
      | (with_reducible exact LeO.none _)
      | (with_reducible refine LeO.ite ?_ ?_)
      | (with_reducible refine LeO.bind ?_ (fun _ => ?_))
      | exact ih0 _ _ _
      | exact LeO.none _
      | refine LeO.ite ?_ ?_
      | refine LeO.bind ?_ (fun _ => ?_)
set_option maxHeartbeats 8000000 in
set_option maxRecDepth 100000 in
theorem sprlaw14_texts.calls (k : Nat) (A0 : Option Addr) (c0 : Nat) (l0 : List ByteArray) (r : Bool) (w : World) (hr0 : Kd.C Kd.string w A0 l0.length l0) (hc0 : l0.length ≤ c0) (h : sprlaw14_texts.f k l0 = some r) :
    Calls Tryd.prog 9 #[.slice A0 l0.length c0] w fun e w' => e = .returned (.bool r) ∧ Below w.heap.size w w' := by
  have HR0 := Aside0.mk hr0
  have HC0 := Aside0.mk hc0
  clear hr0 hc0
  have HB := Aside0.mk (Below.refl w.heap.size w)
  have H : (sprlaw14_texts.l0 k l0 0 0) = some r := h
  clear h
  have H' := Aside0.mk H
  clear H
  go_enter Tryd.func9, Tryd.ntmps9
  go_wp2
  go_loopg [3, 4] k (fun kq v3 v4 w' => ∃ (x3_1 : Int) (x4_1 : Int), v3 = .int .i64 x3_1 ∧ v4 = .int .i64 x4_1 ∧ Aside0 (sprlaw14_texts.l0 kq l0 x3_1 x4_1 = some r) ∧ Aside0 (kq ≤ k) ∧ Aside0 (Below w.heap.size w w'))
  case atStart => exact ⟨(0), (0), (by first | rfl | (simp; done) | (simp [*]; done)), (by first | rfl | (simp; done) | (simp [*]; done)), H', ⟨Nat.le_refl _⟩, ⟨by repeat (first | (with_reducible first | exact HB.out | apply below_alloc | apply pw_below_drewN | apply below_drew1) | exact HB.out)⟩⟩
  case round =>
    clear H'
    obtain ⟨x3_1, x4_1, rfl, rfl, HA, HK1, HB⟩ := hrel
    cases gk with
    | zero => exact absurd HA.out (by simp [sprlaw14_texts.l0])
    | succ k1 =>
      have H := HA.out
      clear HA
      simp only [sprlaw14_texts.l0] at H
      by_cases c2 : x4_1 < (l0.length : Int)
      · rw [if_pos c2] at H
        have c2b0 : decide (x4_1 < (l0.length : Int)) = true := decide_eq_true c2
        clear c2
        by_cases c3 : x4_1 < 80
        · rw [if_pos c3] at H
          have c3b0 : decide (x4_1 < 80) = true := decide_eq_true c3
          clear c3
          by_cases c4 : 0 ≤ x4_1
          · rw [if_pos c4] at H
            have c4b0 : decide (0 ≤ x4_1) = true := decide_eq_true c4
            clear c4
            obtain ⟨ji5, hji5⟩ : ∃ j_ : Int, (mn ((rdOf ByteArray.empty l0 x4_1).size : Int) 20000) = j_ := ⟨_, rfl⟩
            replace H : (sprlaw14_texts.l0 k1 l0 (mn (wrap64 (x3_1 + (ji5))) 80000) (wrap64 (x4_1 + 1))) = some r := by first | (rw [hji5] at H; exact H) | (simp only [hji5] at H ⊢; exact H)
            have hji5_ : (if 20000 < ((rdOf ByteArray.empty l0 x4_1).size : Int) then 20000 else ((rdOf ByteArray.empty l0 x4_1).size : Int)) = ji5 := hji5
            obtain ⟨ji6, hji6⟩ : ∃ j_ : Int, (mn (wrap64 (x3_1 + (ji5))) 80000) = j_ := ⟨_, rfl⟩
            replace H : (sprlaw14_texts.l0 k1 l0 ji6 (wrap64 (x4_1 + 1))) = some r := by first | (rw [hji6] at H; exact H) | (simp only [hji6] at H ⊢; exact H)
            have hji6_ : (if 80000 < (wrap64 (x3_1 + (ji5))) then 80000 else (wrap64 (x3_1 + (ji5)))) = ji6 := hji6
            have H' := Aside0.mk H
            clear H
            have p109 : 0 ≤ (x4_1 : Int) := of_decide_eq_true (by first | (with_reducible assumption) | assumption)
            have q109 : x4_1 < (l0.length : Int) := of_decide_eq_true (by first | (with_reducible assumption) | assumption)
            obtain ⟨ad109, e109, hx109_0⟩ := Kd.at_string HR0.out x4_1 p109 q109
            cases e109
            replace hx109_0 := (HB.out.cell (World.block_lt_of_cell? w _ hx109_0)).trans hx109_0
            replace p109 := eq_true p109
            replace q109 := eq_true q109
            go_wp2
            go_roundg k1
            case measure => have := HK1.out; omega
            case rel => exact ⟨(ji6), (wrap64 (x4_1 + 1)), (by first | rfl | (simp; done) | (simp only [← hji6] <;> (first | rfl | simp)) | (simp [*]; done)), (by first | rfl | (simp; done) | (simp [*]; done)), H', ⟨by have := HK1.out; omega⟩, ⟨by repeat (first | (with_reducible first | exact HB.out | apply below_alloc | apply pw_below_drewN | apply below_drew1) | exact HB.out)⟩⟩
          · rw [if_neg c4] at H
            exact absurd H (by simp)
        · rw [if_neg c3] at H
          have c3b0 : decide (x4_1 < 80) = false := decide_eq_false c3
          clear c3
          by_cases c7 : (l0.length : Int) ≤ 80
          · rw [if_pos c7] at H
            have c7b0 : decide ((l0.length : Int) ≤ 80) = true := decide_eq_true c7
            have c7b1 : decide (l0.length ≤ 80) = true := decide_eq_true (by omega)
            clear c7
            obtain rfl := Option.some.inj H
            go_wp2
            go_ret
            exact ⟨by first | rfl | (simp [errW_none, errW_some] <;> rfl) | (simp [*, errW_none, errW_some] <;> rfl), by repeat (first | (with_reducible first | exact HB.out | apply below_alloc | apply pw_below_drewN | apply below_drew1) | exact HB.out)⟩
          · rw [if_neg c7] at H
            have c7b0 : decide ((l0.length : Int) ≤ 80) = false := decide_eq_false c7
            have c7b1 : decide (l0.length ≤ 80) = false := decide_eq_false (by omega)
            clear c7
            obtain rfl := Option.some.inj H
            go_wp2
            go_ret
            exact ⟨by first | rfl | (simp [errW_none, errW_some] <;> rfl) | (simp [*, errW_none, errW_some] <;> rfl), by repeat (first | (with_reducible first | exact HB.out | apply below_alloc | apply pw_below_drewN | apply below_drew1) | exact HB.out)⟩
      · rw [if_neg c2] at H
        have c2b0 : decide (x4_1 < (l0.length : Int)) = false := decide_eq_false c2
        clear c2
        by_cases c8 : (l0.length : Int) ≤ 80
        · rw [if_pos c8] at H
          have c8b0 : decide ((l0.length : Int) ≤ 80) = true := decide_eq_true c8
          have c8b1 : decide (l0.length ≤ 80) = true := decide_eq_true (by omega)
          clear c8
          obtain rfl := Option.some.inj H
          go_wp2
          go_ret
          exact ⟨by first | rfl | (simp [errW_none, errW_some] <;> rfl) | (simp [*, errW_none, errW_some] <;> rfl), by repeat (first | (with_reducible first | exact HB.out | apply below_alloc | apply pw_below_drewN | apply below_drew1) | exact HB.out)⟩
        · rw [if_neg c8] at H
          have c8b0 : decide ((l0.length : Int) ≤ 80) = false := decide_eq_false c8
          have c8b1 : decide (l0.length ≤ 80) = false := decide_eq_false (by omega)
          clear c8
          obtain rfl := Option.some.inj H
          go_wp2
          go_ret
          exact ⟨by first | rfl | (simp [errW_none, errW_some] <;> rfl) | (simp [*, errW_none, errW_some] <;> rfl), by repeat (first | (with_reducible first | exact HB.out | apply below_alloc | apply pw_below_drewN | apply below_drew1) | exact HB.out)⟩

/-! ### sprref_CopyTexts: function 10 -/
def sprref_CopyTexts.f (l0 : List ByteArray) : Option (List ByteArray) := (some (([] : List ByteArray) : List ByteArray)).bind fun y110 => (if y110.length + l0.length < 8796093022208 then (some (y110 ++ l0)) else (none))
set_option maxHeartbeats 8000000 in
set_option maxRecDepth 100000 in
theorem sprref_CopyTexts.calls (A0 : Option Addr) (c0 : Nat) (l0 : List ByteArray) (r : List ByteArray) (w : World) (hr0 : Kd.C Kd.string w A0 l0.length l0) (hc0 : l0.length ≤ c0) (h : sprref_CopyTexts.f l0 = some r) :
    Calls Tryd.prog 10 #[.slice A0 l0.length c0] w fun e w' => ∃ v0_ : Value, e = .returned (v0_) ∧ Kd.R Kd.string 9 w' w.heap.size (fun _ => True) v0_ r ∧ Below w.heap.size w w' := by
  have HR0 := Aside0.mk hr0
  have HC0 := Aside0.mk hc0
  clear hr0 hc0
  have HB := Aside0.mk (Below.refl w.heap.size w)
  have H : ((some (([] : List ByteArray) : List ByteArray)).bind fun y110 => (if y110.length + l0.length < 8796093022208 then (some (y110 ++ l0)) else (none))) = some r := h
  clear h
  obtain ⟨y110, hy110⟩ : ∃ y_ : List ByteArray, y_ = (([] : List ByteArray)) := ⟨_, rfl⟩
  replace H : (if y110.length + l0.length < 8796093022208 then (some (y110 ++ l0)) else (none)) = some r := by first | (rw [hy110]; with_reducible exact H) | (have H2_ := (Option.bind_some _ _).symm.trans H; rw [hy110]; with_reducible exact H2_) | (have H2_ := (Option.bind_some _ _).symm.trans H; with_reducible exact H2_) | with_reducible exact H | (rw [hy110]; exact H) | exact H
  have Ny110 := Aside0.mk hy110
  clear hy110
  by_cases c2 : y110.length + l0.length < 8796093022208
  · rw [if_pos c2] at H
    have LMc2 := Aside0.mk c2
    clear c2
    obtain ⟨y113, hy113⟩ : ∃ y_ : List ByteArray, y_ = (y110 ++ l0) := ⟨_, rfl⟩
    replace H : (some y113) = some r := by first | (rw [hy113]; with_reducible exact H) | (have H2_ := (Option.bind_some _ _).symm.trans H; rw [hy113]; with_reducible exact H2_) | (have H2_ := (Option.bind_some _ _).symm.trans H; with_reducible exact H2_) | with_reducible exact H | (rw [hy113]; exact H) | exact H
    have Ny113 := Aside0.mk hy113
    clear hy113
    obtain rfl := Option.some.inj H
    go_enter Tryd.func10, Tryd.ntmps10
    go_wp2_with (first | ((with_reducible refine gate_dst (N := 3) rfl ?_); refine Kd.R_lit Kd.string _ 9 ?hg (N := 3) ?hd (xs := ([] : List ByteArray)) (inner := []) (ok := fun _ => True) (okp := fun _ => True) ?hr ?hp (fun _ hk => hk) trivial (Below.refl _ _) (Nat.le_refl _) (by simp) ?_; (case hd => rfl); (case hg => rfl); (case hr => first | (go_simp; done) | (go_simp; rfl)); (case hp => exact (Reps.none _ _)); intro v111 w3 ho4 hb hg_ hnew_; clear hg_ hnew_; (first | rw [← Ny110.out] at ho4 | (simp only [Int.reduceToNat] at ho4; rw [← Ny110.out] at ho4)); have n0_ := Aside0.mk (Kd.R_lower ho4 (below_size (by repeat (first | (with_reducible first | exact HB.out | apply below_alloc | apply pw_below_drewN | apply below_drew1) | exact HB.out)))); have n1_ := Aside0.mk (below_step (by repeat (first | (with_reducible first | exact HB.out | apply below_alloc | apply pw_below_drewN | apply below_drew1) | exact HB.out)) hb); clear HB; have HO112 := n0_; have HB := n1_; clear n0_ n1_; clear hb ho4) | ((with_reducible refine gate_builtin (b := .append) (xs := #[.tmp 3, .tmp 4]) rfl ?_); at_builtin; refine Kd.R_append_rows Kd.string (w0 := w) w.heap.size rfl (.tmp 3) (.tmp 4) 22 9 (.string ⟨#[]⟩) 16 rfl Tryd.underlying22 info9 rfl (by decide) (by omega) v111 y110 l0 _ _ _ (fun _ => True) (fun _ => False) rfl rfl ?aO ?aR (fun _ _ h => h) (fun _ h => h.elim) ?aF ?aB ?aS ?aL ?_; (case aR => repeat (first | exact (Kd.C_below HR0.out HB.out) | (with_reducible refine Kd.C_alloc ?_ _) | (with_reducible refine Kd.C_drewN ?_ _) | (with_reducible refine Kd.C_drew ?_))); (case aB => exact (by repeat (first | (with_reducible first | exact HB.out | apply below_alloc | apply pw_below_drewN | apply below_drew1) | exact HB.out))); (case aF => exact (fun _ _ => trivial)); (case aO => exact (by (with_reducible repeat (first | apply Kd.R_alloc | apply Kd.R_drewN | apply Kd.R_drew)); exact HO112.out)); (case aS => exact (below_size (by repeat (first | (with_reducible first | exact HB.out | apply below_alloc | apply pw_below_drewN | apply below_drew1) | exact HB.out)))); (case aL => have := LMc2.out; omega); intro v114 w5 ho hb hg hat; rw [← Ny113.out] at ho; have n0_ := Aside0.mk (hb); have n1_ := Aside0.mk (ho); clear HB; clear HO112; have HB := n0_; have HO115 := n1_; clear n0_ n1_; clear ho hb hg hat))
    go_ret
    exact ⟨_, by first | rfl | (simp [errW_none, errW_some] <;> rfl) | (simp [*, errW_none, errW_some] <;> rfl), by (with_reducible repeat (first | apply Kd.R_alloc | apply Kd.R_drewN | apply Kd.R_drew)); exact HO115.out, by repeat (first | (with_reducible first | exact HB.out | apply below_alloc | apply pw_below_drewN | apply below_drew1) | exact HB.out)⟩
  · rw [if_neg c2] at H
    exact absurd H (by simp)

end Go.Proofs.YtifchklfomddhaaDoor.X
