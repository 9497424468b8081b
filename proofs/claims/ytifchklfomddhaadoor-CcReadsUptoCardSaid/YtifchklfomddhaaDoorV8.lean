-- Written by a program of this session's (wip/xprint.py), out of the seat's translation.
import Derived.Test.YtifchklfomddhaaDoorV0
import Derived.Test.YtifchklfomddhaaDoorV1
import Derived.Test.YtifchklfomddhaaDoorV2
import Derived.Test.YtifchklfomddhaaDoorV3
import Derived.Test.YtifchklfomddhaaDoorV4
import Derived.Test.YtifchklfomddhaaDoorV7
namespace Go.Proofs.YtifchklfomddhaaDoor.V
open Go.RowKit Go.Proofs.YtifchklfomddhaaDoorW.PrintWords Go.Proofs.YtifchklfomddhaaDoorW.PrintLast Go.Proofs.YtifchklfomddhaaDoorW.PrintMore
attribute [local go_sem] max2_int min2_int max_two min_two max_three min_three max_four min_four   -- for this text's walks alone
set_option linter.unusedVariables false
set_option linter.unusedSimpArgs false

attribute [local go_sem high] eqA31
/-! ### sprref_Texts: function 16 -/
def sprref_Texts.l0 : Nat → List ByteArray → List ByteArray → Int → Option (Bool)
  | 0, _, _, _ => none
  | k + 1, x0, x1, x5 => if x5 < (x0.length : Int) then (if 0 ≤ x5 then (if x5 < (x1.length : Int) then (if (rdOf ByteArray.empty x0 x5).toList = (rdOf ByteArray.empty x1 x5).toList then (sprref_Texts.l0 k x0 x1 (wrap64 (x5 + 1))) else (some false)) else (none)) else (none)) else (some true)
def sprref_Texts.f (k : Nat) (l0 : List ByteArray) (l1 : List ByteArray) : Option (Bool) := if (l0.length : Int) = (l1.length : Int) then (sprref_Texts.l0 k l0 l1 0) else (some false)
theorem sprref_Texts.mono_l : ∀ k, (∀ y0 y1 y2, LeO (sprref_Texts.l0 k y0 y1 y2) (sprref_Texts.l0 (k + 1) y0 y1 y2))
  | 0 => fun _ _ _ r h => by simp [sprref_Texts.l0] at h
  | k + 1 => by
    have ih0 := sprref_Texts.mono_l k
    · intro y0 y1 y2
      unfold sprref_Texts.l0
      repeat' first
      | (with_reducible exact ih0 _ _ _)
      | (with_reducible exact LeO.refl _)
      | (with_reducible exact LeO.none _)
      | (with_reducible refine LeO.ite ?_ ?_)
      | (with_reducible refine LeO.bind ?_ (fun _ => ?_))
      | exact ih0 _ _ _
      | exact LeO.none _
      | refine LeO.ite ?_ ?_
      | refine LeO.bind ?_ (fun _ => ?_)
theorem sprref_Texts.mono : ∀ a0 a1 k, LeO (sprref_Texts.f k a0 a1) (sprref_Texts.f (k + 1) a0 a1) := by
  intro a0 a1 k
  have ih0 := sprref_Texts.mono_l k
  unfold sprref_Texts.f
  repeat' first
      | (with_reducible exact ih0 _ _ _)
      | (with_reducible exact LeO.refl _)
      | (with_reducible exact LeO.none _)
      | (with_reducible refine LeO.ite ?_ ?_)
      | (with_reducible refine LeO.bind ?_ (fun _ => ?_))
      | exact ih0 _ _ _
      | exact LeO.none _
      | refine LeO.ite ?_ ?_
      | refine LeO.bind ?_ (fun _ => ?_)
set_option maxHeartbeats 8000000 in
set_option maxRecDepth 100000 in
theorem sprref_Texts.calls (k : Nat) (A0 : Option Addr) (c0 : Nat) (l0 : List ByteArray) (A1 : Option Addr) (c1 : Nat) (l1 : List ByteArray) (r : Bool) (w : World) (hr0 : Kd.C Kd.string w A0 l0.length l0) (hc0 : l0.length ≤ c0) (hr1 : Kd.C Kd.string w A1 l1.length l1) (hc1 : l1.length ≤ c1) (h : sprref_Texts.f k l0 l1 = some r) :
    Calls Tryd.prog 16 #[.slice A0 l0.length c0, .slice A1 l1.length c1] w fun e w' => e = .returned (.bool r) ∧ Drawn0 w w' := by
  have HR0 := Aside0.mk hr0
  have HC0 := Aside0.mk hc0
  clear hr0 hc0
  have HR1 := Aside0.mk hr1
  have HC1 := Aside0.mk hc1
  clear hr1 hc1
  have H : (if (l0.length : Int) = (l1.length : Int) then (sprref_Texts.l0 k l0 l1 0) else (some false)) = some r := h
  clear h
  by_cases c3 : (l0.length : Int) = (l1.length : Int)
  · rw [if_pos c3] at H
    have c3b0 : ((l0.length : Int) == (l1.length : Int)) = true := beq_iff_eq.mpr c3
    have c3b1 : ((l0.length : Int) != (l1.length : Int)) = false := bne_eq_false_iff_eq.mpr c3
    have c3b2 : (l0.length == l1.length) = true := by first | simpa using c3 | (simp at c3 ⊢; omega)
    clear c3
    have H' := Aside0.mk H
    clear H
    go_enter Tryd.func16, Tryd.ntmps16
    go_wp2
    repeat (go_quiet (fail); try go_wp2)
    go_loopg [5] k (fun kq v5 w' => ∃ (x5_1 : Int), v5 = .int .i64 x5_1 ∧ Aside0 (sprref_Texts.l0 kq l0 l1 x5_1 = some r) ∧ Aside0 (kq ≤ k) ∧ Drawn0 w w')
    case atStart => exact ⟨(0), (by first | rfl | (simp; done) | (simp [*]; done)), H', ⟨Nat.le_refl _⟩, by repeat (first | exact Drawn0.refl _ | apply Drawn0.step)⟩
    case round =>
      clear H'
      try clear c1
      try clear p2
      try clear c3
      try clear c3b0
      try clear c3b1
      try clear c3b2
      obtain ⟨x5_1, rfl, HA, HK1, ⟨m1, rfl⟩⟩ := hrel
      cases gk with
      | zero => exact absurd HA.out (by simp [sprref_Texts.l0])
      | succ k1 =>
        have H := HA.out
        clear HA
        simp only [sprref_Texts.l0] at H
        by_cases c4 : x5_1 < (l0.length : Int)
        · rw [if_pos c4] at H
          have c4b0 : decide (x5_1 < (l0.length : Int)) = true := decide_eq_true c4
          clear c4
          by_cases c5 : 0 ≤ x5_1
          · rw [if_pos c5] at H
            have c5b0 : decide (0 ≤ x5_1) = true := decide_eq_true c5
            clear c5
            by_cases c6 : x5_1 < (l1.length : Int)
            · rw [if_pos c6] at H
              have c6b0 : decide (x5_1 < (l1.length : Int)) = true := decide_eq_true c6
              clear c6
              by_cases c7 : (rdOf ByteArray.empty l0 x5_1).toList = (rdOf ByteArray.empty l1 x5_1).toList
              · rw [if_pos c7] at H
                have c7b0 : ((rdOf ByteArray.empty l0 x5_1).toList == (rdOf ByteArray.empty l1 x5_1).toList) = true := beq_iff_eq.mpr c7
                have c7b1 : ((rdOf ByteArray.empty l0 x5_1).toList != (rdOf ByteArray.empty l1 x5_1).toList) = false := bne_eq_false_iff_eq.mpr c7
                clear c7
                have H' := Aside0.mk H
                clear H
                have p153 : 0 ≤ (x5_1 : Int) := of_decide_eq_true (by first | (with_reducible assumption) | assumption)
                have q153 : x5_1 < (l0.length : Int) := of_decide_eq_true (by first | (with_reducible assumption) | assumption)
                obtain ⟨ad153, e153, hx153_0⟩ := Kd.at_string HR0.out x5_1 p153 q153
                cases e153
                replace p153 := eq_true p153
                replace q153 := eq_true q153
                have p154 : 0 ≤ (x5_1 : Int) := of_decide_eq_true (by first | (with_reducible assumption) | assumption)
                have q154 : x5_1 < (l1.length : Int) := of_decide_eq_true (by first | (with_reducible assumption) | assumption)
                obtain ⟨ad154, e154, hx154_0⟩ := Kd.at_string HR1.out x5_1 p154 q154
                cases e154
                replace p154 := eq_true p154
                replace q154 := eq_true q154
                go_wp2
                repeat (go_quiet (fail); try go_wp2)
                go_roundg k1
                case measure => have := HK1.out; omega
                case rel => exact ⟨(wrap64 (x5_1 + 1)), (by first | rfl | (simp; done) | (simp [*]; done)), H', ⟨by have := HK1.out; omega⟩, by repeat (first | exact Drawn0.refl _ | apply Drawn0.step)⟩
              · rw [if_neg c7] at H
                have c7b0 : ((rdOf ByteArray.empty l0 x5_1).toList == (rdOf ByteArray.empty l1 x5_1).toList) = false := beq_eq_false_iff_ne.mpr c7
                have c7b1 : ((rdOf ByteArray.empty l0 x5_1).toList != (rdOf ByteArray.empty l1 x5_1).toList) = true := bne_iff_ne.mpr c7
                obtain rfl := Option.some.inj H
                have p153 : 0 ≤ (x5_1 : Int) := of_decide_eq_true (by first | (with_reducible assumption) | assumption)
                have q153 : x5_1 < (l0.length : Int) := of_decide_eq_true (by first | (with_reducible assumption) | assumption)
                obtain ⟨ad153, e153, hx153_0⟩ := Kd.at_string HR0.out x5_1 p153 q153
                cases e153
                replace p153 := eq_true p153
                replace q153 := eq_true q153
                have p154 : 0 ≤ (x5_1 : Int) := of_decide_eq_true (by first | (with_reducible assumption) | assumption)
                have q154 : x5_1 < (l1.length : Int) := of_decide_eq_true (by first | (with_reducible assumption) | assumption)
                obtain ⟨ad154, e154, hx154_0⟩ := Kd.at_string HR1.out x5_1 p154 q154
                cases e154
                replace p154 := eq_true p154
                replace q154 := eq_true q154
                go_wp2
                repeat (go_quiet (fail); try go_wp2)
                go_ret
                exact ⟨by first | rfl | (simp; done) | (simp [*]; done), by repeat (first | exact Drawn0.refl _ | apply Drawn0.step)⟩
            · rw [if_neg c6] at H
              exact absurd H (by simp)
          · rw [if_neg c5] at H
            exact absurd H (by simp)
        · rw [if_neg c4] at H
          have c4b0 : decide (x5_1 < (l0.length : Int)) = false := decide_eq_false c4
          clear c4
          obtain rfl := Option.some.inj H
          go_wp2
          repeat (go_quiet (fail); try go_wp2)
          go_ret
          exact ⟨by first | rfl | (simp; done) | (simp [*]; done), by repeat (first | exact Drawn0.refl _ | apply Drawn0.step)⟩
  · rw [if_neg c3] at H
    have c3b0 : ((l0.length : Int) == (l1.length : Int)) = false := beq_eq_false_iff_ne.mpr c3
    have c3b1 : ((l0.length : Int) != (l1.length : Int)) = true := bne_iff_ne.mpr c3
    have c3b2 : (l0.length == l1.length) = false := by first | simpa using c3 | (simp at c3 ⊢; omega)
    obtain rfl := Option.some.inj H
    go_enter Tryd.func16, Tryd.ntmps16
    go_wp2
    repeat (go_quiet (fail); try go_wp2)
    go_ret
    exact ⟨by first | rfl | (simp; done) | (simp [*]; done), by repeat (first | exact Drawn0.refl _ | apply Drawn0.step)⟩

/-! ### sprlaw14_CcReads: function 3 -/
def sprlaw14_CcReads.j0 : Nat → List ByteArray → ByteArray → Bool → Option (Bool)
  | 0, _, _, _ => none
  | k + 1, x0, x1, x19 => if x19 = true then ((sprlaw14_first.f k).bind fun t157 => (some t157)) else ((sprref_CopyTexts.f x0).bind fun t158 => ((cc_Seconds.f k x1).bind fun bt161 => ((sprref14_Seconds.f k x1).bind fun bt163 => ((sprlaw14_first.f k).bind fun t165 => (if t165 = true then ((cc_Parse.f k t158).bind fun bt166 => ((sprlaw14_Plain.f bt166.1 bt166.2.1 bt166.2.2.1 bt166.2.2.2.1 bt166.2.2.2.2.1 bt166.2.2.2.2.2.1 bt166.2.2.2.2.2.2.1 bt166.2.2.2.2.2.2.2.1 bt166.2.2.2.2.2.2.2.2.1 bt166.2.2.2.2.2.2.2.2.2.1 bt166.2.2.2.2.2.2.2.2.2.2.1 bt166.2.2.2.2.2.2.2.2.2.2.2.1 bt166.2.2.2.2.2.2.2.2.2.2.2.2.1 bt166.2.2.2.2.2.2.2.2.2.2.2.2.2.1 bt166.2.2.2.2.2.2.2.2.2.2.2.2.2.2.1 bt166.2.2.2.2.2.2.2.2.2.2.2.2.2.2.2.1 bt166.2.2.2.2.2.2.2.2.2.2.2.2.2.2.2.2.1 bt166.2.2.2.2.2.2.2.2.2.2.2.2.2.2.2.2.2.1 bt166.2.2.2.2.2.2.2.2.2.2.2.2.2.2.2.2.2.2.1 bt166.2.2.2.2.2.2.2.2.2.2.2.2.2.2.2.2.2.2.2.1 bt166.2.2.2.2.2.2.2.2.2.2.2.2.2.2.2.2.2.2.2.2).bind fun bt187 => ((sprref14_Parse.f k x0).bind fun bt208 => (if (bt187.1 == bt208.1 && (bt187.2.1 == bt208.2.1 && (bt187.2.2.1 == bt208.2.2.1 && (bt187.2.2.2.1 == bt208.2.2.2.1 && (bt187.2.2.2.2.1 == bt208.2.2.2.2.1 && (bt187.2.2.2.2.2.1 == bt208.2.2.2.2.2.1 && (bt187.2.2.2.2.2.2.1 == bt208.2.2.2.2.2.2.1 && (bt187.2.2.2.2.2.2.2.1 == bt208.2.2.2.2.2.2.2.1 && (bt187.2.2.2.2.2.2.2.2.1 == bt208.2.2.2.2.2.2.2.2.1 && (bt187.2.2.2.2.2.2.2.2.2.1 == bt208.2.2.2.2.2.2.2.2.2.1 && (bt187.2.2.2.2.2.2.2.2.2.2.1 == bt208.2.2.2.2.2.2.2.2.2.2.1 && ((bt187.2.2.2.2.2.2.2.2.2.2.2.1 == bt208.2.2.2.2.2.2.2.2.2.2.2.1 && (bt187.2.2.2.2.2.2.2.2.2.2.2.2.1 == bt208.2.2.2.2.2.2.2.2.2.2.2.2.1)) && ((bt187.2.2.2.2.2.2.2.2.2.2.2.2.2.1 == bt208.2.2.2.2.2.2.2.2.2.2.2.2.2.1 && (bt187.2.2.2.2.2.2.2.2.2.2.2.2.2.2.1 == bt208.2.2.2.2.2.2.2.2.2.2.2.2.2.2.1)) && ((bt187.2.2.2.2.2.2.2.2.2.2.2.2.2.2.2.1 == bt208.2.2.2.2.2.2.2.2.2.2.2.2.2.2.2.1 && (bt187.2.2.2.2.2.2.2.2.2.2.2.2.2.2.2.2.1 == bt208.2.2.2.2.2.2.2.2.2.2.2.2.2.2.2.2.1)) && ((bt187.2.2.2.2.2.2.2.2.2.2.2.2.2.2.2.2.2.1 == bt208.2.2.2.2.2.2.2.2.2.2.2.2.2.2.2.2.2.1 && (bt187.2.2.2.2.2.2.2.2.2.2.2.2.2.2.2.2.2.2.1 == bt208.2.2.2.2.2.2.2.2.2.2.2.2.2.2.2.2.2.2.1)) && ((bt187.2.2.2.2.2.2.2.2.2.2.2.2.2.2.2.2.2.2.2.1 == bt208.2.2.2.2.2.2.2.2.2.2.2.2.2.2.2.2.2.2.2.1 && (bt187.2.2.2.2.2.2.2.2.2.2.2.2.2.2.2.2.2.2.2.2 == bt208.2.2.2.2.2.2.2.2.2.2.2.2.2.2.2.2.2.2.2.2)))))))))))))))))) = true then (if bt161.1 = bt163.1 then (if (bt161.2 == bt163.2) = true then ((sprref_Texts.f k t158 x0).bind fun t229 => (some t229)) else (some false)) else (some false)) else (some false))))) else (some false))))))
def sprlaw14_CcReads.f (k : Nat) (l0 : List ByteArray) (a1 : ByteArray) : Option (Bool) := (sprlaw14_first.f k).bind fun t155 => (if t155 = true then ((sprlaw14_texts.f k l0).bind fun t156 => (if t156 = true then (sprlaw14_CcReads.j0 k l0 a1 (decide ((a1.size : Int) > 20000))) else (sprlaw14_CcReads.j0 k l0 a1 true))) else (some false))
theorem sprlaw14_CcReads.mono_l : ∀ k, (∀ y0 y1 y2, LeO (sprlaw14_CcReads.j0 k y0 y1 y2) (sprlaw14_CcReads.j0 (k + 1) y0 y1 y2))
  | 0 => fun _ _ _ r h => by simp [sprlaw14_CcReads.j0] at h
  | k + 1 => by
    have ih0 := sprlaw14_CcReads.mono_l k
    · intro y0 y1 y2
      unfold sprlaw14_CcReads.j0
      repeat' first
      | (with_reducible exact ih0 _ _ _)
      | (with_reducible exact cc_Parse.mono _ _)
      | (with_reducible exact cc_Seconds.mono _ _)
      | (with_reducible exact sprlaw14_first.mono _)
      | (with_reducible exact sprlaw14_texts.mono _ _)
      | (with_reducible exact sprref14_Parse.mono _ _)
      | (with_reducible exact sprref14_Seconds.mono _ _)
      | (with_reducible exact sprref_Texts.mono _ _ _)
      | (with_reducible exact LeO.refl _)
      | (with_reducible exact LeO.none _)
      | (with_reducible refine LeO.ite ?_ ?_)
      | (with_reducible refine LeO.bind ?_ (fun _ => ?_))
      | exact ih0 _ _ _
      | exact cc_Parse.mono _ _
      | exact cc_Seconds.mono _ _
      | exact sprlaw14_first.mono _
      | exact sprlaw14_texts.mono _ _
      | exact sprref14_Parse.mono _ _
      | exact sprref14_Seconds.mono _ _
      | exact sprref_Texts.mono _ _ _
      | exact LeO.none _
      | refine LeO.ite ?_ ?_
      | refine LeO.bind ?_ (fun _ => ?_)
theorem sprlaw14_CcReads.mono : ∀ a0 a1 k, LeO (sprlaw14_CcReads.f k a0 a1) (sprlaw14_CcReads.f (k + 1) a0 a1) := by
  intro a0 a1 k
  have ih0 := sprlaw14_CcReads.mono_l k
  unfold sprlaw14_CcReads.f
  repeat' first
      | (with_reducible exact ih0 _ _ _)
      | (with_reducible exact cc_Parse.mono _ _)
      | (with_reducible exact cc_Seconds.mono _ _)
      | (with_reducible exact sprlaw14_first.mono _)
      | (with_reducible exact sprlaw14_texts.mono _ _)
      | (with_reducible exact sprref14_Parse.mono _ _)
      | (with_reducible exact sprref14_Seconds.mono _ _)
      | (with_reducible exact sprref_Texts.mono _ _ _)
      | (with_reducible exact LeO.refl _)
      | (with_reducible exact LeO.none _)
      | (with_reducible refine LeO.ite ?_ ?_)
      | (with_reducible refine LeO.bind ?_ (fun _ => ?_))
      | exact ih0 _ _ _
      | exact cc_Parse.mono _ _
      | exact cc_Seconds.mono _ _
      | exact sprlaw14_first.mono _
      | exact sprlaw14_texts.mono _ _
      | exact sprref14_Parse.mono _ _
      | exact sprref14_Seconds.mono _ _
      | exact sprref_Texts.mono _ _ _
      | exact LeO.none _
      | refine LeO.ite ?_ ?_
      | refine LeO.bind ?_ (fun _ => ?_)
set_option maxHeartbeats 8000000 in
set_option maxRecDepth 100000 in
theorem sprlaw14_CcReads.calls (k : Nat) (A0 : Option Addr) (c0 : Nat) (l0 : List ByteArray) (a1 : ByteArray) (r : Bool) (w : World) (hr0 : Kd.C Kd.string w A0 l0.length l0) (hc0 : l0.length ≤ c0) (h : sprlaw14_CcReads.f k l0 a1 = some r) (hT : Aside0 (r = true)) :
    Calls Tryd.prog 3 #[.slice A0 l0.length c0, .string a1] w fun e w' => e = .returned (.bool r) ∧ Below w.heap.size w w' := by
  have HR0 := Aside0.mk hr0
  have HC0 := Aside0.mk hc0
  clear hr0 hc0
  have HB := Aside0.mk (Below.refl w.heap.size w)
  have H : ((sprlaw14_first.f k).bind fun t155 => (if t155 = true then ((sprlaw14_texts.f k l0).bind fun t156 => (if t156 = true then (sprlaw14_CcReads.j0 k l0 a1 (decide ((a1.size : Int) > 20000))) else (sprlaw14_CcReads.j0 k l0 a1 true))) else (some false))) = some r := h
  clear h
  replace H := Option.bind_eq_some_iff.mp H
  obtain ⟨t155, A30, H⟩ := H
  replace H : (if t155 = true then ((sprlaw14_texts.f k l0).bind fun t156 => (if t156 = true then (sprlaw14_CcReads.j0 k l0 a1 (decide ((a1.size : Int) > 20000))) else (sprlaw14_CcReads.j0 k l0 a1 true))) else (some false)) = some r := H
  have A3 := Aside0.mk A30
  clear A30
  by_cases c4 : t155 = true
  · subst c4
    have H1 : ((sprlaw14_texts.f k l0).bind fun t156 => (if t156 = true then (sprlaw14_CcReads.j0 k l0 a1 (decide ((a1.size : Int) > 20000))) else (sprlaw14_CcReads.j0 k l0 a1 true))) = some r := by rw [if_pos rfl] at H; exact H
    clear H
    have H := H1
    clear H1
    have HC5 := Aside0.mk H
    clear H
    go_enter Tryd.func3, Tryd.ntmps3
    go_upto_region 3 with (first | ((with_reducible refine gate_callee (f := 8) rfl ?_); refine goesL_ (some 10) rfl rfl Tryd.func8 (by kernel_rfl) rfl #[] rfl (by (try simp only [List.map_toArray, List.map_cons, List.map_nil]); first | done | rfl | (simp only [List.length_drop, List.length_take]; rfl)) ?_; (with_reducible refine (sprlaw14_first.calls k  true _ A3.out).mono ?_); rintro e w6 ⟨rfl, hb⟩; refine ⟨_, rfl, ?_⟩; have n0_ := Aside0.mk (below_step (by repeat (first | (with_reducible first | exact HB.out | apply below_alloc | apply pw_below_drewN | apply below_drew1) | exact HB.out)) hb); clear HB; have HB := n0_; clear n0_; (try clear hb); (try clear hb2); (try clear hk); (try clear hi)))
    (try simp only [Act.put, List.setIfInBounds_toArray, List.set_cons_zero, List.set_cons_succ])
    go_cut [19] (fun v19 wc => ∃ (kq : Nat) (x19_4 : Bool), v19 = .bool x19_4 ∧ Aside0 (sprlaw14_CcReads.j0 kq l0 a1 x19_4 = some r) ∧ Aside0 (kq ≤ k) ∧ Aside0 (Below w.heap.size w wc))
    case first =>
      have H := HC5.out
      clear HC5
      replace H := Option.bind_eq_some_iff.mp H
      obtain ⟨t156, A70, H⟩ := H
      replace H : (if t156 = true then (sprlaw14_CcReads.j0 k l0 a1 (decide ((a1.size : Int) > 20000))) else (sprlaw14_CcReads.j0 k l0 a1 true)) = some r := H
      have A7 := Aside0.mk A70
      clear A70
      by_cases c8 : t156 = true
      · subst c8
        have H1 : (sprlaw14_CcReads.j0 k l0 a1 (decide ((a1.size : Int) > 20000))) = some r := by rw [if_pos rfl] at H; exact H
        clear H
        have H := H1
        clear H1
        have H' := Aside0.mk H
        clear H
        go_wp2_with (first | ((with_reducible refine gate_callee (f := 9) rfl ?_); refine goesL_ (some 13) rfl rfl Tryd.func9 (by kernel_rfl) rfl #[.slice A0 l0.length c0] rfl (by (try simp only [List.map_toArray, List.map_cons, List.map_nil]); first | done | rfl | (simp only [List.length_drop, List.length_take]; rfl)) ?_; (with_reducible refine (sprlaw14_texts.calls k _ _ l0 true _ ?side1 ?side2 A7.out).mono ?_); (case side1 => repeat (first | exact (Kd.C_below HR0.out HB.out) | (with_reducible refine Kd.C_alloc ?_ _) | (with_reducible refine Kd.C_drewN ?_ _) | (with_reducible refine Kd.C_drew ?_))); (case side2 => exact HC0.out); rintro e w9 ⟨rfl, hb⟩; refine ⟨_, rfl, ?_⟩; have n0_ := Aside0.mk (below_step (by repeat (first | (with_reducible first | exact HB.out | apply below_alloc | apply pw_below_drewN | apply below_drew1) | exact HB.out)) hb); clear HB; have HB := n0_; clear n0_; (try clear hb); (try clear hb2); (try clear hk); (try clear hi)))
        go_meet
        case rel => exact ⟨_, (decide ((a1.size : Int) > 20000)), (by first | rfl | (simp; done) | (simp [*]; done)), H', ⟨by first | omega | exact Nat.le_refl _⟩, ⟨by repeat (first | (with_reducible first | exact HB.out | apply below_alloc | apply pw_below_drewN | apply below_drew1) | exact HB.out)⟩⟩
      · replace c8 := Bool.eq_false_iff.mpr c8
        subst c8
        have H1 : (sprlaw14_CcReads.j0 k l0 a1 true) = some r := by rw [if_neg (show ¬ (false = true) by decide)] at H; exact H
        clear H
        have H := H1
        clear H1
        have H' := Aside0.mk H
        clear H
        go_wp2_with (first | ((with_reducible refine gate_callee (f := 9) rfl ?_); refine goesL_ (some 13) rfl rfl Tryd.func9 (by kernel_rfl) rfl #[.slice A0 l0.length c0] rfl (by (try simp only [List.map_toArray, List.map_cons, List.map_nil]); first | done | rfl | (simp only [List.length_drop, List.length_take]; rfl)) ?_; (with_reducible refine (sprlaw14_texts.calls k _ _ l0 false _ ?side1 ?side2 A7.out).mono ?_); (case side1 => repeat (first | exact (Kd.C_below HR0.out HB.out) | (with_reducible refine Kd.C_alloc ?_ _) | (with_reducible refine Kd.C_drewN ?_ _) | (with_reducible refine Kd.C_drew ?_))); (case side2 => exact HC0.out); rintro e w10 ⟨rfl, hb⟩; refine ⟨_, rfl, ?_⟩; have n0_ := Aside0.mk (below_step (by repeat (first | (with_reducible first | exact HB.out | apply below_alloc | apply pw_below_drewN | apply below_drew1) | exact HB.out)) hb); clear HB; have HB := n0_; clear n0_; (try clear hb); (try clear hb2); (try clear hk); (try clear hi)))
        go_meet
        case rel => exact ⟨_, (true), (by first | rfl | (simp; done) | (simp [*]; done)), H', ⟨by first | omega | exact Nat.le_refl _⟩, ⟨by repeat (first | (with_reducible first | exact HB.out | apply below_alloc | apply pw_below_drewN | apply below_drew1) | exact HB.out)⟩⟩
    case rest =>
      clear HC5
      try clear p2
      try clear c3
      try clear c4
      try clear c8
      try clear c9
      obtain ⟨kq, x19_4, rfl, HA, HJ4, HB⟩ := hcut
      cases kq with
      | zero => exact absurd HA.out (by simp [sprlaw14_CcReads.j0])
      | succ kj4 =>
        have H := HA.out
        clear HA
        simp only [sprlaw14_CcReads.j0] at H
        by_cases c11 : x19_4 = true
        · subst c11
          have H1 : ((sprlaw14_first.f kj4).bind fun t157 => (some t157)) = some r := by rw [if_pos rfl] at H; exact H
          clear H
          have H := H1
          clear H1
          replace H := Option.bind_eq_some_iff.mp H
          obtain ⟨t157, A120, H⟩ := H
          replace H : (some t157) = some r := H
          have A12 := Aside0.mk A120
          clear A120
          obtain rfl := Option.some.inj H
          go_wp2_with (first | ((with_reducible refine gate_callee (f := 8) rfl ?_); refine goesL_ (some 20) rfl rfl Tryd.func8 (by kernel_rfl) rfl #[] rfl (by (try simp only [List.map_toArray, List.map_cons, List.map_nil]); first | done | rfl | (simp only [List.length_drop, List.length_take]; rfl)) ?_; (with_reducible refine (sprlaw14_first.calls kj4  t157 _ A12.out).mono ?_); rintro e w13 ⟨rfl, hb⟩; refine ⟨_, rfl, ?_⟩; have n0_ := Aside0.mk (below_step (by repeat (first | (with_reducible first | exact HB.out | apply below_alloc | apply pw_below_drewN | apply below_drew1) | exact HB.out)) hb); clear HB; have HB := n0_; clear n0_; (try clear hb); (try clear hb2); (try clear hk); (try clear hi)))
          go_ret
          exact ⟨by first | rfl | (simp [errW_none, errW_some] <;> rfl) | (simp [*, errW_none, errW_some] <;> rfl), by repeat (first | (with_reducible first | exact HB.out | apply below_alloc | apply pw_below_drewN | apply below_drew1) | exact HB.out)⟩
        · replace c11 := Bool.eq_false_iff.mpr c11
          subst c11
          have H1 : ((sprref_CopyTexts.f l0).bind fun t158 => ((cc_Seconds.f kj4 a1).bind fun bt161 => ((sprref14_Seconds.f kj4 a1).bind fun bt163 => ((sprlaw14_first.f kj4).bind fun t165 => (if t165 = true then ((cc_Parse.f kj4 t158).bind fun bt166 => ((sprlaw14_Plain.f bt166.1 bt166.2.1 bt166.2.2.1 bt166.2.2.2.1 bt166.2.2.2.2.1 bt166.2.2.2.2.2.1 bt166.2.2.2.2.2.2.1 bt166.2.2.2.2.2.2.2.1 bt166.2.2.2.2.2.2.2.2.1 bt166.2.2.2.2.2.2.2.2.2.1 bt166.2.2.2.2.2.2.2.2.2.2.1 bt166.2.2.2.2.2.2.2.2.2.2.2.1 bt166.2.2.2.2.2.2.2.2.2.2.2.2.1 bt166.2.2.2.2.2.2.2.2.2.2.2.2.2.1 bt166.2.2.2.2.2.2.2.2.2.2.2.2.2.2.1 bt166.2.2.2.2.2.2.2.2.2.2.2.2.2.2.2.1 bt166.2.2.2.2.2.2.2.2.2.2.2.2.2.2.2.2.1 bt166.2.2.2.2.2.2.2.2.2.2.2.2.2.2.2.2.2.1 bt166.2.2.2.2.2.2.2.2.2.2.2.2.2.2.2.2.2.2.1 bt166.2.2.2.2.2.2.2.2.2.2.2.2.2.2.2.2.2.2.2.1 bt166.2.2.2.2.2.2.2.2.2.2.2.2.2.2.2.2.2.2.2.2).bind fun bt187 => ((sprref14_Parse.f kj4 l0).bind fun bt208 => (if (bt187.1 == bt208.1 && (bt187.2.1 == bt208.2.1 && (bt187.2.2.1 == bt208.2.2.1 && (bt187.2.2.2.1 == bt208.2.2.2.1 && (bt187.2.2.2.2.1 == bt208.2.2.2.2.1 && (bt187.2.2.2.2.2.1 == bt208.2.2.2.2.2.1 && (bt187.2.2.2.2.2.2.1 == bt208.2.2.2.2.2.2.1 && (bt187.2.2.2.2.2.2.2.1 == bt208.2.2.2.2.2.2.2.1 && (bt187.2.2.2.2.2.2.2.2.1 == bt208.2.2.2.2.2.2.2.2.1 && (bt187.2.2.2.2.2.2.2.2.2.1 == bt208.2.2.2.2.2.2.2.2.2.1 && (bt187.2.2.2.2.2.2.2.2.2.2.1 == bt208.2.2.2.2.2.2.2.2.2.2.1 && ((bt187.2.2.2.2.2.2.2.2.2.2.2.1 == bt208.2.2.2.2.2.2.2.2.2.2.2.1 && (bt187.2.2.2.2.2.2.2.2.2.2.2.2.1 == bt208.2.2.2.2.2.2.2.2.2.2.2.2.1)) && ((bt187.2.2.2.2.2.2.2.2.2.2.2.2.2.1 == bt208.2.2.2.2.2.2.2.2.2.2.2.2.2.1 && (bt187.2.2.2.2.2.2.2.2.2.2.2.2.2.2.1 == bt208.2.2.2.2.2.2.2.2.2.2.2.2.2.2.1)) && ((bt187.2.2.2.2.2.2.2.2.2.2.2.2.2.2.2.1 == bt208.2.2.2.2.2.2.2.2.2.2.2.2.2.2.2.1 && (bt187.2.2.2.2.2.2.2.2.2.2.2.2.2.2.2.2.1 == bt208.2.2.2.2.2.2.2.2.2.2.2.2.2.2.2.2.1)) && ((bt187.2.2.2.2.2.2.2.2.2.2.2.2.2.2.2.2.2.1 == bt208.2.2.2.2.2.2.2.2.2.2.2.2.2.2.2.2.2.1 && (bt187.2.2.2.2.2.2.2.2.2.2.2.2.2.2.2.2.2.2.1 == bt208.2.2.2.2.2.2.2.2.2.2.2.2.2.2.2.2.2.2.1)) && ((bt187.2.2.2.2.2.2.2.2.2.2.2.2.2.2.2.2.2.2.2.1 == bt208.2.2.2.2.2.2.2.2.2.2.2.2.2.2.2.2.2.2.2.1 && (bt187.2.2.2.2.2.2.2.2.2.2.2.2.2.2.2.2.2.2.2.2 == bt208.2.2.2.2.2.2.2.2.2.2.2.2.2.2.2.2.2.2.2.2)))))))))))))))))) = true then (if bt161.1 = bt163.1 then (if (bt161.2 == bt163.2) = true then ((sprref_Texts.f kj4 t158 l0).bind fun t229 => (some t229)) else (some false)) else (some false)) else (some false))))) else (some false)))))) = some r := by rw [if_neg (show ¬ (false = true) by decide)] at H; exact H
          clear H
          have H := H1
          clear H1
          replace H := Option.bind_eq_some_iff.mp H
          obtain ⟨t158, A140, H⟩ := H
          replace H : ((cc_Seconds.f kj4 a1).bind fun bt161 => ((sprref14_Seconds.f kj4 a1).bind fun bt163 => ((sprlaw14_first.f kj4).bind fun t165 => (if t165 = true then ((cc_Parse.f kj4 t158).bind fun bt166 => ((sprlaw14_Plain.f bt166.1 bt166.2.1 bt166.2.2.1 bt166.2.2.2.1 bt166.2.2.2.2.1 bt166.2.2.2.2.2.1 bt166.2.2.2.2.2.2.1 bt166.2.2.2.2.2.2.2.1 bt166.2.2.2.2.2.2.2.2.1 bt166.2.2.2.2.2.2.2.2.2.1 bt166.2.2.2.2.2.2.2.2.2.2.1 bt166.2.2.2.2.2.2.2.2.2.2.2.1 bt166.2.2.2.2.2.2.2.2.2.2.2.2.1 bt166.2.2.2.2.2.2.2.2.2.2.2.2.2.1 bt166.2.2.2.2.2.2.2.2.2.2.2.2.2.2.1 bt166.2.2.2.2.2.2.2.2.2.2.2.2.2.2.2.1 bt166.2.2.2.2.2.2.2.2.2.2.2.2.2.2.2.2.1 bt166.2.2.2.2.2.2.2.2.2.2.2.2.2.2.2.2.2.1 bt166.2.2.2.2.2.2.2.2.2.2.2.2.2.2.2.2.2.2.1 bt166.2.2.2.2.2.2.2.2.2.2.2.2.2.2.2.2.2.2.2.1 bt166.2.2.2.2.2.2.2.2.2.2.2.2.2.2.2.2.2.2.2.2).bind fun bt187 => ((sprref14_Parse.f kj4 l0).bind fun bt208 => (if (bt187.1 == bt208.1 && (bt187.2.1 == bt208.2.1 && (bt187.2.2.1 == bt208.2.2.1 && (bt187.2.2.2.1 == bt208.2.2.2.1 && (bt187.2.2.2.2.1 == bt208.2.2.2.2.1 && (bt187.2.2.2.2.2.1 == bt208.2.2.2.2.2.1 && (bt187.2.2.2.2.2.2.1 == bt208.2.2.2.2.2.2.1 && (bt187.2.2.2.2.2.2.2.1 == bt208.2.2.2.2.2.2.2.1 && (bt187.2.2.2.2.2.2.2.2.1 == bt208.2.2.2.2.2.2.2.2.1 && (bt187.2.2.2.2.2.2.2.2.2.1 == bt208.2.2.2.2.2.2.2.2.2.1 && (bt187.2.2.2.2.2.2.2.2.2.2.1 == bt208.2.2.2.2.2.2.2.2.2.2.1 && ((bt187.2.2.2.2.2.2.2.2.2.2.2.1 == bt208.2.2.2.2.2.2.2.2.2.2.2.1 && (bt187.2.2.2.2.2.2.2.2.2.2.2.2.1 == bt208.2.2.2.2.2.2.2.2.2.2.2.2.1)) && ((bt187.2.2.2.2.2.2.2.2.2.2.2.2.2.1 == bt208.2.2.2.2.2.2.2.2.2.2.2.2.2.1 && (bt187.2.2.2.2.2.2.2.2.2.2.2.2.2.2.1 == bt208.2.2.2.2.2.2.2.2.2.2.2.2.2.2.1)) && ((bt187.2.2.2.2.2.2.2.2.2.2.2.2.2.2.2.1 == bt208.2.2.2.2.2.2.2.2.2.2.2.2.2.2.2.1 && (bt187.2.2.2.2.2.2.2.2.2.2.2.2.2.2.2.2.1 == bt208.2.2.2.2.2.2.2.2.2.2.2.2.2.2.2.2.1)) && ((bt187.2.2.2.2.2.2.2.2.2.2.2.2.2.2.2.2.2.1 == bt208.2.2.2.2.2.2.2.2.2.2.2.2.2.2.2.2.2.1 && (bt187.2.2.2.2.2.2.2.2.2.2.2.2.2.2.2.2.2.2.1 == bt208.2.2.2.2.2.2.2.2.2.2.2.2.2.2.2.2.2.2.1)) && ((bt187.2.2.2.2.2.2.2.2.2.2.2.2.2.2.2.2.2.2.2.1 == bt208.2.2.2.2.2.2.2.2.2.2.2.2.2.2.2.2.2.2.2.1 && (bt187.2.2.2.2.2.2.2.2.2.2.2.2.2.2.2.2.2.2.2.2 == bt208.2.2.2.2.2.2.2.2.2.2.2.2.2.2.2.2.2.2.2.2)))))))))))))))))) = true then (if bt161.1 = bt163.1 then (if (bt161.2 == bt163.2) = true then ((sprref_Texts.f kj4 t158 l0).bind fun t229 => (some t229)) else (some false)) else (some false)) else (some false))))) else (some false))))) = some r := H
          have A14 := Aside0.mk A140
          clear A140
          replace H := Option.bind_eq_some_iff.mp H
          obtain ⟨⟨t161, t162⟩, A150, H⟩ := H
          replace H : ((sprref14_Seconds.f kj4 a1).bind fun bt163 => ((sprlaw14_first.f kj4).bind fun t165 => (if t165 = true then ((cc_Parse.f kj4 t158).bind fun bt166 => ((sprlaw14_Plain.f bt166.1 bt166.2.1 bt166.2.2.1 bt166.2.2.2.1 bt166.2.2.2.2.1 bt166.2.2.2.2.2.1 bt166.2.2.2.2.2.2.1 bt166.2.2.2.2.2.2.2.1 bt166.2.2.2.2.2.2.2.2.1 bt166.2.2.2.2.2.2.2.2.2.1 bt166.2.2.2.2.2.2.2.2.2.2.1 bt166.2.2.2.2.2.2.2.2.2.2.2.1 bt166.2.2.2.2.2.2.2.2.2.2.2.2.1 bt166.2.2.2.2.2.2.2.2.2.2.2.2.2.1 bt166.2.2.2.2.2.2.2.2.2.2.2.2.2.2.1 bt166.2.2.2.2.2.2.2.2.2.2.2.2.2.2.2.1 bt166.2.2.2.2.2.2.2.2.2.2.2.2.2.2.2.2.1 bt166.2.2.2.2.2.2.2.2.2.2.2.2.2.2.2.2.2.1 bt166.2.2.2.2.2.2.2.2.2.2.2.2.2.2.2.2.2.2.1 bt166.2.2.2.2.2.2.2.2.2.2.2.2.2.2.2.2.2.2.2.1 bt166.2.2.2.2.2.2.2.2.2.2.2.2.2.2.2.2.2.2.2.2).bind fun bt187 => ((sprref14_Parse.f kj4 l0).bind fun bt208 => (if (bt187.1 == bt208.1 && (bt187.2.1 == bt208.2.1 && (bt187.2.2.1 == bt208.2.2.1 && (bt187.2.2.2.1 == bt208.2.2.2.1 && (bt187.2.2.2.2.1 == bt208.2.2.2.2.1 && (bt187.2.2.2.2.2.1 == bt208.2.2.2.2.2.1 && (bt187.2.2.2.2.2.2.1 == bt208.2.2.2.2.2.2.1 && (bt187.2.2.2.2.2.2.2.1 == bt208.2.2.2.2.2.2.2.1 && (bt187.2.2.2.2.2.2.2.2.1 == bt208.2.2.2.2.2.2.2.2.1 && (bt187.2.2.2.2.2.2.2.2.2.1 == bt208.2.2.2.2.2.2.2.2.2.1 && (bt187.2.2.2.2.2.2.2.2.2.2.1 == bt208.2.2.2.2.2.2.2.2.2.2.1 && ((bt187.2.2.2.2.2.2.2.2.2.2.2.1 == bt208.2.2.2.2.2.2.2.2.2.2.2.1 && (bt187.2.2.2.2.2.2.2.2.2.2.2.2.1 == bt208.2.2.2.2.2.2.2.2.2.2.2.2.1)) && ((bt187.2.2.2.2.2.2.2.2.2.2.2.2.2.1 == bt208.2.2.2.2.2.2.2.2.2.2.2.2.2.1 && (bt187.2.2.2.2.2.2.2.2.2.2.2.2.2.2.1 == bt208.2.2.2.2.2.2.2.2.2.2.2.2.2.2.1)) && ((bt187.2.2.2.2.2.2.2.2.2.2.2.2.2.2.2.1 == bt208.2.2.2.2.2.2.2.2.2.2.2.2.2.2.2.1 && (bt187.2.2.2.2.2.2.2.2.2.2.2.2.2.2.2.2.1 == bt208.2.2.2.2.2.2.2.2.2.2.2.2.2.2.2.2.1)) && ((bt187.2.2.2.2.2.2.2.2.2.2.2.2.2.2.2.2.2.1 == bt208.2.2.2.2.2.2.2.2.2.2.2.2.2.2.2.2.2.1 && (bt187.2.2.2.2.2.2.2.2.2.2.2.2.2.2.2.2.2.2.1 == bt208.2.2.2.2.2.2.2.2.2.2.2.2.2.2.2.2.2.2.1)) && ((bt187.2.2.2.2.2.2.2.2.2.2.2.2.2.2.2.2.2.2.2.1 == bt208.2.2.2.2.2.2.2.2.2.2.2.2.2.2.2.2.2.2.2.1 && (bt187.2.2.2.2.2.2.2.2.2.2.2.2.2.2.2.2.2.2.2.2 == bt208.2.2.2.2.2.2.2.2.2.2.2.2.2.2.2.2.2.2.2.2)))))))))))))))))) = true then (if t161 = bt163.1 then (if (t162 == bt163.2) = true then ((sprref_Texts.f kj4 t158 l0).bind fun t229 => (some t229)) else (some false)) else (some false)) else (some false))))) else (some false)))) = some r := H
          have A15 := Aside0.mk A150
          clear A150
          replace H := Option.bind_eq_some_iff.mp H
          obtain ⟨⟨t163, t164⟩, A160, H⟩ := H
          replace H : ((sprlaw14_first.f kj4).bind fun t165 => (if t165 = true then ((cc_Parse.f kj4 t158).bind fun bt166 => ((sprlaw14_Plain.f bt166.1 bt166.2.1 bt166.2.2.1 bt166.2.2.2.1 bt166.2.2.2.2.1 bt166.2.2.2.2.2.1 bt166.2.2.2.2.2.2.1 bt166.2.2.2.2.2.2.2.1 bt166.2.2.2.2.2.2.2.2.1 bt166.2.2.2.2.2.2.2.2.2.1 bt166.2.2.2.2.2.2.2.2.2.2.1 bt166.2.2.2.2.2.2.2.2.2.2.2.1 bt166.2.2.2.2.2.2.2.2.2.2.2.2.1 bt166.2.2.2.2.2.2.2.2.2.2.2.2.2.1 bt166.2.2.2.2.2.2.2.2.2.2.2.2.2.2.1 bt166.2.2.2.2.2.2.2.2.2.2.2.2.2.2.2.1 bt166.2.2.2.2.2.2.2.2.2.2.2.2.2.2.2.2.1 bt166.2.2.2.2.2.2.2.2.2.2.2.2.2.2.2.2.2.1 bt166.2.2.2.2.2.2.2.2.2.2.2.2.2.2.2.2.2.2.1 bt166.2.2.2.2.2.2.2.2.2.2.2.2.2.2.2.2.2.2.2.1 bt166.2.2.2.2.2.2.2.2.2.2.2.2.2.2.2.2.2.2.2.2).bind fun bt187 => ((sprref14_Parse.f kj4 l0).bind fun bt208 => (if (bt187.1 == bt208.1 && (bt187.2.1 == bt208.2.1 && (bt187.2.2.1 == bt208.2.2.1 && (bt187.2.2.2.1 == bt208.2.2.2.1 && (bt187.2.2.2.2.1 == bt208.2.2.2.2.1 && (bt187.2.2.2.2.2.1 == bt208.2.2.2.2.2.1 && (bt187.2.2.2.2.2.2.1 == bt208.2.2.2.2.2.2.1 && (bt187.2.2.2.2.2.2.2.1 == bt208.2.2.2.2.2.2.2.1 && (bt187.2.2.2.2.2.2.2.2.1 == bt208.2.2.2.2.2.2.2.2.1 && (bt187.2.2.2.2.2.2.2.2.2.1 == bt208.2.2.2.2.2.2.2.2.2.1 && (bt187.2.2.2.2.2.2.2.2.2.2.1 == bt208.2.2.2.2.2.2.2.2.2.2.1 && ((bt187.2.2.2.2.2.2.2.2.2.2.2.1 == bt208.2.2.2.2.2.2.2.2.2.2.2.1 && (bt187.2.2.2.2.2.2.2.2.2.2.2.2.1 == bt208.2.2.2.2.2.2.2.2.2.2.2.2.1)) && ((bt187.2.2.2.2.2.2.2.2.2.2.2.2.2.1 == bt208.2.2.2.2.2.2.2.2.2.2.2.2.2.1 && (bt187.2.2.2.2.2.2.2.2.2.2.2.2.2.2.1 == bt208.2.2.2.2.2.2.2.2.2.2.2.2.2.2.1)) && ((bt187.2.2.2.2.2.2.2.2.2.2.2.2.2.2.2.1 == bt208.2.2.2.2.2.2.2.2.2.2.2.2.2.2.2.1 && (bt187.2.2.2.2.2.2.2.2.2.2.2.2.2.2.2.2.1 == bt208.2.2.2.2.2.2.2.2.2.2.2.2.2.2.2.2.1)) && ((bt187.2.2.2.2.2.2.2.2.2.2.2.2.2.2.2.2.2.1 == bt208.2.2.2.2.2.2.2.2.2.2.2.2.2.2.2.2.2.1 && (bt187.2.2.2.2.2.2.2.2.2.2.2.2.2.2.2.2.2.2.1 == bt208.2.2.2.2.2.2.2.2.2.2.2.2.2.2.2.2.2.2.1)) && ((bt187.2.2.2.2.2.2.2.2.2.2.2.2.2.2.2.2.2.2.2.1 == bt208.2.2.2.2.2.2.2.2.2.2.2.2.2.2.2.2.2.2.2.1 && (bt187.2.2.2.2.2.2.2.2.2.2.2.2.2.2.2.2.2.2.2.2 == bt208.2.2.2.2.2.2.2.2.2.2.2.2.2.2.2.2.2.2.2.2)))))))))))))))))) = true then (if t161 = t163 then (if (t162 == t164) = true then ((sprref_Texts.f kj4 t158 l0).bind fun t229 => (some t229)) else (some false)) else (some false)) else (some false))))) else (some false))) = some r := H
          have A16 := Aside0.mk A160
          clear A160
          replace H := Option.bind_eq_some_iff.mp H
          obtain ⟨t165, A170, H⟩ := H
          replace H : (if t165 = true then ((cc_Parse.f kj4 t158).bind fun bt166 => ((sprlaw14_Plain.f bt166.1 bt166.2.1 bt166.2.2.1 bt166.2.2.2.1 bt166.2.2.2.2.1 bt166.2.2.2.2.2.1 bt166.2.2.2.2.2.2.1 bt166.2.2.2.2.2.2.2.1 bt166.2.2.2.2.2.2.2.2.1 bt166.2.2.2.2.2.2.2.2.2.1 bt166.2.2.2.2.2.2.2.2.2.2.1 bt166.2.2.2.2.2.2.2.2.2.2.2.1 bt166.2.2.2.2.2.2.2.2.2.2.2.2.1 bt166.2.2.2.2.2.2.2.2.2.2.2.2.2.1 bt166.2.2.2.2.2.2.2.2.2.2.2.2.2.2.1 bt166.2.2.2.2.2.2.2.2.2.2.2.2.2.2.2.1 bt166.2.2.2.2.2.2.2.2.2.2.2.2.2.2.2.2.1 bt166.2.2.2.2.2.2.2.2.2.2.2.2.2.2.2.2.2.1 bt166.2.2.2.2.2.2.2.2.2.2.2.2.2.2.2.2.2.2.1 bt166.2.2.2.2.2.2.2.2.2.2.2.2.2.2.2.2.2.2.2.1 bt166.2.2.2.2.2.2.2.2.2.2.2.2.2.2.2.2.2.2.2.2).bind fun bt187 => ((sprref14_Parse.f kj4 l0).bind fun bt208 => (if (bt187.1 == bt208.1 && (bt187.2.1 == bt208.2.1 && (bt187.2.2.1 == bt208.2.2.1 && (bt187.2.2.2.1 == bt208.2.2.2.1 && (bt187.2.2.2.2.1 == bt208.2.2.2.2.1 && (bt187.2.2.2.2.2.1 == bt208.2.2.2.2.2.1 && (bt187.2.2.2.2.2.2.1 == bt208.2.2.2.2.2.2.1 && (bt187.2.2.2.2.2.2.2.1 == bt208.2.2.2.2.2.2.2.1 && (bt187.2.2.2.2.2.2.2.2.1 == bt208.2.2.2.2.2.2.2.2.1 && (bt187.2.2.2.2.2.2.2.2.2.1 == bt208.2.2.2.2.2.2.2.2.2.1 && (bt187.2.2.2.2.2.2.2.2.2.2.1 == bt208.2.2.2.2.2.2.2.2.2.2.1 && ((bt187.2.2.2.2.2.2.2.2.2.2.2.1 == bt208.2.2.2.2.2.2.2.2.2.2.2.1 && (bt187.2.2.2.2.2.2.2.2.2.2.2.2.1 == bt208.2.2.2.2.2.2.2.2.2.2.2.2.1)) && ((bt187.2.2.2.2.2.2.2.2.2.2.2.2.2.1 == bt208.2.2.2.2.2.2.2.2.2.2.2.2.2.1 && (bt187.2.2.2.2.2.2.2.2.2.2.2.2.2.2.1 == bt208.2.2.2.2.2.2.2.2.2.2.2.2.2.2.1)) && ((bt187.2.2.2.2.2.2.2.2.2.2.2.2.2.2.2.1 == bt208.2.2.2.2.2.2.2.2.2.2.2.2.2.2.2.1 && (bt187.2.2.2.2.2.2.2.2.2.2.2.2.2.2.2.2.1 == bt208.2.2.2.2.2.2.2.2.2.2.2.2.2.2.2.2.1)) && ((bt187.2.2.2.2.2.2.2.2.2.2.2.2.2.2.2.2.2.1 == bt208.2.2.2.2.2.2.2.2.2.2.2.2.2.2.2.2.2.1 && (bt187.2.2.2.2.2.2.2.2.2.2.2.2.2.2.2.2.2.2.1 == bt208.2.2.2.2.2.2.2.2.2.2.2.2.2.2.2.2.2.2.1)) && ((bt187.2.2.2.2.2.2.2.2.2.2.2.2.2.2.2.2.2.2.2.1 == bt208.2.2.2.2.2.2.2.2.2.2.2.2.2.2.2.2.2.2.2.1 && (bt187.2.2.2.2.2.2.2.2.2.2.2.2.2.2.2.2.2.2.2.2 == bt208.2.2.2.2.2.2.2.2.2.2.2.2.2.2.2.2.2.2.2.2)))))))))))))))))) = true then (if t161 = t163 then (if (t162 == t164) = true then ((sprref_Texts.f kj4 t158 l0).bind fun t229 => (some t229)) else (some false)) else (some false)) else (some false))))) else (some false)) = some r := H
          have A17 := Aside0.mk A170
          clear A170
          by_cases c18 : t165 = true
          · subst c18
            have H1 : ((cc_Parse.f kj4 t158).bind fun bt166 => ((sprlaw14_Plain.f bt166.1 bt166.2.1 bt166.2.2.1 bt166.2.2.2.1 bt166.2.2.2.2.1 bt166.2.2.2.2.2.1 bt166.2.2.2.2.2.2.1 bt166.2.2.2.2.2.2.2.1 bt166.2.2.2.2.2.2.2.2.1 bt166.2.2.2.2.2.2.2.2.2.1 bt166.2.2.2.2.2.2.2.2.2.2.1 bt166.2.2.2.2.2.2.2.2.2.2.2.1 bt166.2.2.2.2.2.2.2.2.2.2.2.2.1 bt166.2.2.2.2.2.2.2.2.2.2.2.2.2.1 bt166.2.2.2.2.2.2.2.2.2.2.2.2.2.2.1 bt166.2.2.2.2.2.2.2.2.2.2.2.2.2.2.2.1 bt166.2.2.2.2.2.2.2.2.2.2.2.2.2.2.2.2.1 bt166.2.2.2.2.2.2.2.2.2.2.2.2.2.2.2.2.2.1 bt166.2.2.2.2.2.2.2.2.2.2.2.2.2.2.2.2.2.2.1 bt166.2.2.2.2.2.2.2.2.2.2.2.2.2.2.2.2.2.2.2.1 bt166.2.2.2.2.2.2.2.2.2.2.2.2.2.2.2.2.2.2.2.2).bind fun bt187 => ((sprref14_Parse.f kj4 l0).bind fun bt208 => (if (bt187.1 == bt208.1 && (bt187.2.1 == bt208.2.1 && (bt187.2.2.1 == bt208.2.2.1 && (bt187.2.2.2.1 == bt208.2.2.2.1 && (bt187.2.2.2.2.1 == bt208.2.2.2.2.1 && (bt187.2.2.2.2.2.1 == bt208.2.2.2.2.2.1 && (bt187.2.2.2.2.2.2.1 == bt208.2.2.2.2.2.2.1 && (bt187.2.2.2.2.2.2.2.1 == bt208.2.2.2.2.2.2.2.1 && (bt187.2.2.2.2.2.2.2.2.1 == bt208.2.2.2.2.2.2.2.2.1 && (bt187.2.2.2.2.2.2.2.2.2.1 == bt208.2.2.2.2.2.2.2.2.2.1 && (bt187.2.2.2.2.2.2.2.2.2.2.1 == bt208.2.2.2.2.2.2.2.2.2.2.1 && ((bt187.2.2.2.2.2.2.2.2.2.2.2.1 == bt208.2.2.2.2.2.2.2.2.2.2.2.1 && (bt187.2.2.2.2.2.2.2.2.2.2.2.2.1 == bt208.2.2.2.2.2.2.2.2.2.2.2.2.1)) && ((bt187.2.2.2.2.2.2.2.2.2.2.2.2.2.1 == bt208.2.2.2.2.2.2.2.2.2.2.2.2.2.1 && (bt187.2.2.2.2.2.2.2.2.2.2.2.2.2.2.1 == bt208.2.2.2.2.2.2.2.2.2.2.2.2.2.2.1)) && ((bt187.2.2.2.2.2.2.2.2.2.2.2.2.2.2.2.1 == bt208.2.2.2.2.2.2.2.2.2.2.2.2.2.2.2.1 && (bt187.2.2.2.2.2.2.2.2.2.2.2.2.2.2.2.2.1 == bt208.2.2.2.2.2.2.2.2.2.2.2.2.2.2.2.2.1)) && ((bt187.2.2.2.2.2.2.2.2.2.2.2.2.2.2.2.2.2.1 == bt208.2.2.2.2.2.2.2.2.2.2.2.2.2.2.2.2.2.1 && (bt187.2.2.2.2.2.2.2.2.2.2.2.2.2.2.2.2.2.2.1 == bt208.2.2.2.2.2.2.2.2.2.2.2.2.2.2.2.2.2.2.1)) && ((bt187.2.2.2.2.2.2.2.2.2.2.2.2.2.2.2.2.2.2.2.1 == bt208.2.2.2.2.2.2.2.2.2.2.2.2.2.2.2.2.2.2.2.1 && (bt187.2.2.2.2.2.2.2.2.2.2.2.2.2.2.2.2.2.2.2.2 == bt208.2.2.2.2.2.2.2.2.2.2.2.2.2.2.2.2.2.2.2.2)))))))))))))))))) = true then (if t161 = t163 then (if (t162 == t164) = true then ((sprref_Texts.f kj4 t158 l0).bind fun t229 => (some t229)) else (some false)) else (some false)) else (some false))))) = some r := by rw [if_pos rfl] at H; exact H
            clear H
            have H := H1
            clear H1
            replace H := Option.bind_eq_some_iff.mp H
            obtain ⟨⟨t166, t167, t168, t169, t170, t171, t172, t173, t174, t175, t176, t177, t178, t179, t180, t181, t182, t183, t184, t185, t186⟩, A190, H⟩ := H
            replace H : ((sprlaw14_Plain.f t166 t167 t168 t169 t170 t171 t172 t173 t174 t175 t176 t177 t178 t179 t180 t181 t182 t183 t184 t185 t186).bind fun bt187 => ((sprref14_Parse.f kj4 l0).bind fun bt208 => (if (bt187.1 == bt208.1 && (bt187.2.1 == bt208.2.1 && (bt187.2.2.1 == bt208.2.2.1 && (bt187.2.2.2.1 == bt208.2.2.2.1 && (bt187.2.2.2.2.1 == bt208.2.2.2.2.1 && (bt187.2.2.2.2.2.1 == bt208.2.2.2.2.2.1 && (bt187.2.2.2.2.2.2.1 == bt208.2.2.2.2.2.2.1 && (bt187.2.2.2.2.2.2.2.1 == bt208.2.2.2.2.2.2.2.1 && (bt187.2.2.2.2.2.2.2.2.1 == bt208.2.2.2.2.2.2.2.2.1 && (bt187.2.2.2.2.2.2.2.2.2.1 == bt208.2.2.2.2.2.2.2.2.2.1 && (bt187.2.2.2.2.2.2.2.2.2.2.1 == bt208.2.2.2.2.2.2.2.2.2.2.1 && ((bt187.2.2.2.2.2.2.2.2.2.2.2.1 == bt208.2.2.2.2.2.2.2.2.2.2.2.1 && (bt187.2.2.2.2.2.2.2.2.2.2.2.2.1 == bt208.2.2.2.2.2.2.2.2.2.2.2.2.1)) && ((bt187.2.2.2.2.2.2.2.2.2.2.2.2.2.1 == bt208.2.2.2.2.2.2.2.2.2.2.2.2.2.1 && (bt187.2.2.2.2.2.2.2.2.2.2.2.2.2.2.1 == bt208.2.2.2.2.2.2.2.2.2.2.2.2.2.2.1)) && ((bt187.2.2.2.2.2.2.2.2.2.2.2.2.2.2.2.1 == bt208.2.2.2.2.2.2.2.2.2.2.2.2.2.2.2.1 && (bt187.2.2.2.2.2.2.2.2.2.2.2.2.2.2.2.2.1 == bt208.2.2.2.2.2.2.2.2.2.2.2.2.2.2.2.2.1)) && ((bt187.2.2.2.2.2.2.2.2.2.2.2.2.2.2.2.2.2.1 == bt208.2.2.2.2.2.2.2.2.2.2.2.2.2.2.2.2.2.1 && (bt187.2.2.2.2.2.2.2.2.2.2.2.2.2.2.2.2.2.2.1 == bt208.2.2.2.2.2.2.2.2.2.2.2.2.2.2.2.2.2.2.1)) && ((bt187.2.2.2.2.2.2.2.2.2.2.2.2.2.2.2.2.2.2.2.1 == bt208.2.2.2.2.2.2.2.2.2.2.2.2.2.2.2.2.2.2.2.1 && (bt187.2.2.2.2.2.2.2.2.2.2.2.2.2.2.2.2.2.2.2.2 == bt208.2.2.2.2.2.2.2.2.2.2.2.2.2.2.2.2.2.2.2.2)))))))))))))))))) = true then (if t161 = t163 then (if (t162 == t164) = true then ((sprref_Texts.f kj4 t158 l0).bind fun t229 => (some t229)) else (some false)) else (some false)) else (some false)))) = some r := H
            have A19 := Aside0.mk A190
            clear A190
            replace H := Option.bind_eq_some_iff.mp H
            obtain ⟨⟨t187, t188, t189, t190, t191, t192, t193, t194, t195, t196, t197, t198, t199, t200, t201, t202, t203, t204, t205, t206, t207⟩, A200, H⟩ := H
            replace H : ((sprref14_Parse.f kj4 l0).bind fun bt208 => (if (t187 == bt208.1 && (t188 == bt208.2.1 && (t189 == bt208.2.2.1 && (t190 == bt208.2.2.2.1 && (t191 == bt208.2.2.2.2.1 && (t192 == bt208.2.2.2.2.2.1 && (t193 == bt208.2.2.2.2.2.2.1 && (t194 == bt208.2.2.2.2.2.2.2.1 && (t195 == bt208.2.2.2.2.2.2.2.2.1 && (t196 == bt208.2.2.2.2.2.2.2.2.2.1 && (t197 == bt208.2.2.2.2.2.2.2.2.2.2.1 && ((t198 == bt208.2.2.2.2.2.2.2.2.2.2.2.1 && (t199 == bt208.2.2.2.2.2.2.2.2.2.2.2.2.1)) && ((t200 == bt208.2.2.2.2.2.2.2.2.2.2.2.2.2.1 && (t201 == bt208.2.2.2.2.2.2.2.2.2.2.2.2.2.2.1)) && ((t202 == bt208.2.2.2.2.2.2.2.2.2.2.2.2.2.2.2.1 && (t203 == bt208.2.2.2.2.2.2.2.2.2.2.2.2.2.2.2.2.1)) && ((t204 == bt208.2.2.2.2.2.2.2.2.2.2.2.2.2.2.2.2.2.1 && (t205 == bt208.2.2.2.2.2.2.2.2.2.2.2.2.2.2.2.2.2.2.1)) && ((t206 == bt208.2.2.2.2.2.2.2.2.2.2.2.2.2.2.2.2.2.2.2.1 && (t207 == bt208.2.2.2.2.2.2.2.2.2.2.2.2.2.2.2.2.2.2.2.2)))))))))))))))))) = true then (if t161 = t163 then (if (t162 == t164) = true then ((sprref_Texts.f kj4 t158 l0).bind fun t229 => (some t229)) else (some false)) else (some false)) else (some false))) = some r := H
            have A20 := Aside0.mk A200
            clear A200
            replace H := Option.bind_eq_some_iff.mp H
            obtain ⟨⟨t208, t209, t210, t211, t212, t213, t214, t215, t216, t217, t218, t219, t220, t221, t222, t223, t224, t225, t226, t227, t228⟩, A210, H⟩ := H
            replace H : (if (t187 == t208 && (t188 == t209 && (t189 == t210 && (t190 == t211 && (t191 == t212 && (t192 == t213 && (t193 == t214 && (t194 == t215 && (t195 == t216 && (t196 == t217 && (t197 == t218 && ((t198 == t219 && (t199 == t220)) && ((t200 == t221 && (t201 == t222)) && ((t202 == t223 && (t203 == t224)) && ((t204 == t225 && (t205 == t226)) && ((t206 == t227 && (t207 == t228)))))))))))))))))) = true then (if t161 = t163 then (if (t162 == t164) = true then ((sprref_Texts.f kj4 t158 l0).bind fun t229 => (some t229)) else (some false)) else (some false)) else (some false)) = some r := H
            have A21 := Aside0.mk A210
            clear A210
            by_cases c22 : (t187 == t208 && (t188 == t209 && (t189 == t210 && (t190 == t211 && (t191 == t212 && (t192 == t213 && (t193 == t214 && (t194 == t215 && (t195 == t216 && (t196 == t217 && (t197 == t218 && ((t198 == t219 && (t199 == t220)) && ((t200 == t221 && (t201 == t222)) && ((t202 == t223 && (t203 == t224)) && ((t204 == t225 && (t205 == t226)) && ((t206 == t227 && (t207 == t228)))))))))))))))))) = true
            · rw [if_pos c22] at H
              (try (have c22s := c22; simp at c22s)); (try obtain ⟨c22s1, c22s2⟩ := c22s)
              have c22b0 : (t187 == t208 && (t188 == t209 && (t189 == t210 && (t190 == t211 && (t191 == t212 && (t192 == t213 && (t193 == t214 && (t194 == t215 && (t195 == t216 && (t196 == t217 && (t197 == t218 && ((t198 == t219 && (t199 == t220)) && ((t200 == t221 && (t201 == t222)) && ((t202 == t223 && (t203 == t224)) && ((t204 == t225 && (t205 == t226)) && ((t206 == t227 && (t207 == t228)))))))))))))))))) = true := c22
              (try (have c22b1 : decide (t187 = t208 && (t188 == t209 && (t189 == t210 && (t190 == t211 && (t191 == t212 && (t192 == t213 && (t193 == t214 && (t194 == t215 && (t195 == t216 && (t196 == t217 && (t197 == t218 && ((t198 == t219 && (t199 == t220)) && ((t200 == t221 && (t201 == t222)) && ((t202 == t223 && (t203 == t224)) && ((t204 == t225 && (t205 == t226)) && ((t206 == t227 && (t207 == t228)))))))))))))))))) = true := by simpa using c22))
              (try (have c22b2 : (t187 == t208 && (t188 == t209 && (t189 == t210 && (t190 == t211 && (t191 == t212 && (t192 == t213 && (t193 == t214 && (t194 == t215 && (t195 == t216 && (t196 == t217 && (t197 == t218 && ((t198 == t219 && (t199 == t220)) && ((t200 == t221 && (t201 == t222)) && ((t202 == t223 && (t203 == t224)) && ((t204 == t225 && (t205 == t226)) && ((t206 == t227 && (t207 == t228)))))))))))))))))) = true := by simpa using c22))
              clear c22
              by_cases c23 : t161 = t163
              · rw [if_pos c23] at H
                have c23b0 : (t161 == t163) = true := beq_iff_eq.mpr c23
                have c23b1 : (t161 != t163) = false := bne_eq_false_iff_eq.mpr c23
                clear c23
                by_cases c24 : (t162 == t164) = true
                · rw [if_pos c24] at H
                  have c24b0 : (t162 == t164) = true := c24
                  (try (have c24b1 : decide (t162 = t164) = true := by simpa using c24))
                  (try (have c24b2 : (t162 == t164) = true := by simpa using c24))
                  clear c24
                  replace H := Option.bind_eq_some_iff.mp H
                  obtain ⟨t229, A250, H⟩ := H
                  replace H : (some t229) = some r := H
                  have A25 := Aside0.mk A250
                  clear A250
                  obtain rfl := Option.some.inj H
                  go_wp2_with (first | ((with_reducible refine gate_callee (f := 10) rfl ?_); refine goesL_ (some 22) rfl rfl Tryd.func10 (by kernel_rfl) rfl #[.slice A0 l0.length c0] rfl (by (try simp only [List.map_toArray, List.map_cons, List.map_nil]); first | done | rfl | (simp only [List.length_drop, List.length_take]; rfl)) ?_; (with_reducible refine (sprref_CopyTexts.calls _ _ l0 t158 _ ?side1 ?side2 A14.out).mono ?_); (case side1 => repeat (first | exact (Kd.C_below HR0.out HB.out) | (with_reducible refine Kd.C_alloc ?_ _) | (with_reducible refine Kd.C_drewN ?_ _) | (with_reducible refine Kd.C_drew ?_))); (case side2 => exact HC0.out); rintro e w26 ⟨v159, rfl, ho0, hb⟩; refine ⟨_, rfl, ?_⟩; have n0_ := Aside0.mk (Kd.R_lower ho0 (below_size (by repeat (first | (with_reducible first | exact HB.out | apply below_alloc | apply pw_below_drewN | apply below_drew1) | exact HB.out)))); have n1_ := Aside0.mk (below_step (by repeat (first | (with_reducible first | exact HB.out | apply below_alloc | apply pw_below_drewN | apply below_drew1) | exact HB.out)) hb); clear HB; have HO160 := n0_; have HB := n1_; clear n0_ n1_; (try clear hb); (try clear hb2); (try clear hk); (try clear hi); (try clear ho0)) | ((with_reducible refine gate_callee (f := 11) rfl ?_); refine goesL_ (some 25) rfl rfl Tryd.func11 (by kernel_rfl) rfl #[.string a1] rfl (by (try simp only [List.map_toArray, List.map_cons, List.map_nil]); first | done | rfl | (simp only [List.length_drop, List.length_take]; rfl)) ?_; (with_reducible refine (cc_Seconds.calls kj4 a1 t161 t162 _ A15.out).mono ?_); rintro e w27 ⟨rfl, hb⟩; refine ⟨_, rfl, ?_⟩; have n0_ := Aside0.mk (Kd.R_below (by (with_reducible repeat (first | apply Kd.R_alloc | apply Kd.R_drewN | apply Kd.R_drew)); exact HO160.out) hb); have n1_ := Aside0.mk (below_step (by repeat (first | (with_reducible first | exact HB.out | apply below_alloc | apply pw_below_drewN | apply below_drew1) | exact HB.out)) hb); clear HO160; clear HB; have HO160 := n0_; have HB := n1_; clear n0_ n1_; (try clear hb); (try clear hb2); (try clear hk); (try clear hi)) | ((with_reducible refine gate_callee (f := 12) rfl ?_); refine goesL_ (some 30) rfl rfl Tryd.func12 (by kernel_rfl) rfl #[.string a1] rfl (by (try simp only [List.map_toArray, List.map_cons, List.map_nil]); first | done | rfl | (simp only [List.length_drop, List.length_take]; rfl)) ?_; (with_reducible refine (sprref14_Seconds.calls kj4 a1 t163 t164 _ A16.out).mono ?_); rintro e w28 ⟨rfl, hb⟩; refine ⟨_, rfl, ?_⟩; have n0_ := Aside0.mk (Kd.R_below (by (with_reducible repeat (first | apply Kd.R_alloc | apply Kd.R_drewN | apply Kd.R_drew)); exact HO160.out) hb); have n1_ := Aside0.mk (below_step (by repeat (first | (with_reducible first | exact HB.out | apply below_alloc | apply pw_below_drewN | apply below_drew1) | exact HB.out)) hb); clear HO160; clear HB; have HO160 := n0_; have HB := n1_; clear n0_ n1_; (try clear hb); (try clear hb2); (try clear hk); (try clear hi)) | ((with_reducible refine gate_callee (f := 8) rfl ?_); refine goesL_ (some 33) rfl rfl Tryd.func8 (by kernel_rfl) rfl #[] rfl (by (try simp only [List.map_toArray, List.map_cons, List.map_nil]); first | done | rfl | (simp only [List.length_drop, List.length_take]; rfl)) ?_; (with_reducible refine (sprlaw14_first.calls kj4  true _ A17.out).mono ?_); rintro e w29 ⟨rfl, hb⟩; refine ⟨_, rfl, ?_⟩; have n0_ := Aside0.mk (Kd.R_below (by (with_reducible repeat (first | apply Kd.R_alloc | apply Kd.R_drewN | apply Kd.R_drew)); exact HO160.out) hb); have n1_ := Aside0.mk (below_step (by repeat (first | (with_reducible first | exact HB.out | apply below_alloc | apply pw_below_drewN | apply below_drew1) | exact HB.out)) hb); clear HO160; clear HB; have HO160 := n0_; have HB := n1_; clear n0_ n1_; (try clear hb); (try clear hb2); (try clear hk); (try clear hi); obtain ⟨Ao30, co30, eo30⟩ := Kd.R_slice HO160.out; subst eo30) | (go_at_call 14; (with_reducible refine (cc_Parse.calls kj4 _ _ t158 t166 t167 t168 t169 t170 t171 t172 t173 t174 t175 t176 t177 t178 t179 t180 t181 t182 t183 t184 t185 t186 _ ?side1 ?side2 A19.out).mono ?_); (case side1 => repeat (first | exact (Kd.R_reads' HO160.out).2.2 | (with_reducible refine Kd.C_alloc ?_ _) | (with_reducible refine Kd.C_drewN ?_ _) | (with_reducible refine Kd.C_drew ?_))); (case side2 => exact (Kd.R_reads' HO160.out).2.1); rintro e w31 ⟨rfl, hb⟩; have n0_ := Aside0.mk (Kd.R_below (by (with_reducible repeat (first | apply Kd.R_alloc | apply Kd.R_drewN | apply Kd.R_drew)); exact HO160.out) hb); have n1_ := Aside0.mk (below_step (by repeat (first | (with_reducible first | exact HB.out | apply below_alloc | apply pw_below_drewN | apply below_drew1) | exact HB.out)) hb); clear HO160; clear HB; have HO160 := n0_; have HB := n1_; clear n0_ n1_; (try clear hb); (try clear hb2); (try clear hk); (try clear hi)) | (go_at_call 13; (with_reducible refine (sprlaw14_Plain.calls t166 t167 t168 t169 t170 t171 t172 t173 t174 t175 t176 t177 t178 t179 t180 t181 t182 t183 t184 t185 t186 t187 t188 t189 t190 t191 t192 t193 t194 t195 t196 t197 t198 t199 t200 t201 t202 t203 t204 t205 t206 t207 _ A20.out).mono ?_); rintro e w32 ⟨rfl, hb⟩; have n0_ := Aside0.mk (Kd.R_below (by (with_reducible repeat (first | apply Kd.R_alloc | apply Kd.R_drewN | apply Kd.R_drew)); exact HO160.out) hb); have n1_ := Aside0.mk (below_step (by repeat (first | (with_reducible first | exact HB.out | apply below_alloc | apply pw_below_drewN | apply below_drew1) | exact HB.out)) hb); clear HO160; clear HB; have HO160 := n0_; have HB := n1_; clear n0_ n1_; (try clear hb); (try clear hb2); (try clear hk); (try clear hi)) | (go_at_call 15; (with_reducible refine (sprref14_Parse.calls kj4 _ _ l0 t208 t209 t210 t211 t212 t213 t214 t215 t216 t217 t218 t219 t220 t221 t222 t223 t224 t225 t226 t227 t228 _ ?side1 ?side2 A21.out).mono ?_); (case side1 => repeat (first | exact (Kd.C_below HR0.out HB.out) | (with_reducible refine Kd.C_alloc ?_ _) | (with_reducible refine Kd.C_drewN ?_ _) | (with_reducible refine Kd.C_drew ?_))); (case side2 => exact HC0.out); rintro e w33 ⟨rfl, hb⟩; have n0_ := Aside0.mk (Kd.R_below (by (with_reducible repeat (first | apply Kd.R_alloc | apply Kd.R_drewN | apply Kd.R_drew)); exact HO160.out) hb); have n1_ := Aside0.mk (below_step (by repeat (first | (with_reducible first | exact HB.out | apply below_alloc | apply pw_below_drewN | apply below_drew1) | exact HB.out)) hb); clear HO160; clear HB; have HO160 := n0_; have HB := n1_; clear n0_ n1_; (try clear hb); (try clear hb2); (try clear hk); (try clear hi)) | (go_at_call 16; (with_reducible refine (sprref_Texts.calls kj4 _ _ t158 _ _ l0 t229 _ ?side1 ?side2 ?side3 ?side4 A25.out).mono ?_); (case side1 => repeat (first | exact (Kd.R_reads' HO160.out).2.2 | (with_reducible refine Kd.C_alloc ?_ _) | (with_reducible refine Kd.C_drewN ?_ _) | (with_reducible refine Kd.C_drew ?_))); (case side2 => exact (Kd.R_reads' HO160.out).2.1); (case side3 => repeat (first | exact (Kd.C_below HR0.out HB.out) | (with_reducible refine Kd.C_alloc ?_ _) | (with_reducible refine Kd.C_drewN ?_ _) | (with_reducible refine Kd.C_drew ?_))); (case side4 => exact HC0.out); rintro e w' ⟨rfl, ⟨nd, rfl⟩⟩))
                  go_ret
                  exact ⟨by first | rfl | (simp [errW_none, errW_some] <;> rfl) | (simp [*, errW_none, errW_some] <;> rfl), by repeat (first | (with_reducible first | exact HB.out | apply below_alloc | apply pw_below_drewN | apply below_drew1) | exact HB.out)⟩
                · rw [if_neg c24] at H
                  have c24b0 : (t162 == t164) = false := by simpa using c24
                  (try (have c24b1 : decide (t162 = t164) = false := by simpa using c24))
                  (try (have c24b2 : (t162 == t164) = false := by simpa using c24))
                  (try (have c24b3 : ¬ (t162 = t164) := by simpa using c24))
                  clear c24
                  exact absurd ((Option.some.inj H).trans hT.out) (by decide)
              · rw [if_neg c23] at H
                have c23b0 : (t161 == t163) = false := beq_eq_false_iff_ne.mpr c23
                have c23b1 : (t161 != t163) = true := bne_iff_ne.mpr c23
                exact absurd ((Option.some.inj H).trans hT.out) (by decide)
            · rw [if_neg c22] at H
              have c22b0 : (t187 == t208 && (t188 == t209 && (t189 == t210 && (t190 == t211 && (t191 == t212 && (t192 == t213 && (t193 == t214 && (t194 == t215 && (t195 == t216 && (t196 == t217 && (t197 == t218 && ((t198 == t219 && (t199 == t220)) && ((t200 == t221 && (t201 == t222)) && ((t202 == t223 && (t203 == t224)) && ((t204 == t225 && (t205 == t226)) && ((t206 == t227 && (t207 == t228)))))))))))))))))) = false := by simpa using c22
              (try (have c22b1 : decide (t187 = t208 && (t188 == t209 && (t189 == t210 && (t190 == t211 && (t191 == t212 && (t192 == t213 && (t193 == t214 && (t194 == t215 && (t195 == t216 && (t196 == t217 && (t197 == t218 && ((t198 == t219 && (t199 == t220)) && ((t200 == t221 && (t201 == t222)) && ((t202 == t223 && (t203 == t224)) && ((t204 == t225 && (t205 == t226)) && ((t206 == t227 && (t207 == t228)))))))))))))))))) = false := by simpa using c22))
              (try (have c22b2 : (t187 == t208 && (t188 == t209 && (t189 == t210 && (t190 == t211 && (t191 == t212 && (t192 == t213 && (t193 == t214 && (t194 == t215 && (t195 == t216 && (t196 == t217 && (t197 == t218 && ((t198 == t219 && (t199 == t220)) && ((t200 == t221 && (t201 == t222)) && ((t202 == t223 && (t203 == t224)) && ((t204 == t225 && (t205 == t226)) && ((t206 == t227 && (t207 == t228)))))))))))))))))) = false := by simpa using c22))
              (try (have c22b3 : ¬ (t187 = t208 && (t188 == t209 && (t189 == t210 && (t190 == t211 && (t191 == t212 && (t192 == t213 && (t193 == t214 && (t194 == t215 && (t195 == t216 && (t196 == t217 && (t197 == t218 && ((t198 == t219 && (t199 == t220)) && ((t200 == t221 && (t201 == t222)) && ((t202 == t223 && (t203 == t224)) && ((t204 == t225 && (t205 == t226)) && ((t206 == t227 && (t207 == t228)))))))))))))))))) := by simpa using c22))
              clear c22
              exact absurd ((Option.some.inj H).trans hT.out) (by decide)
          · replace c18 := Bool.eq_false_iff.mpr c18
            subst c18
            have H1 : (some false) = some r := by rw [if_neg (show ¬ (false = true) by decide)] at H; exact H
            clear H
            have H := H1
            clear H1
            exact absurd ((Option.some.inj H).trans hT.out) (by decide)
  · replace c4 := Bool.eq_false_iff.mpr c4
    subst c4
    have H1 : (some false) = some r := by rw [if_neg (show ¬ (false = true) by decide)] at H; exact H
    clear H
    have H := H1
    clear H1
    exact absurd ((Option.some.inj H).trans hT.out) (by decide)

end Go.Proofs.YtifchklfomddhaaDoor.V
