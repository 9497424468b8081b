-- Written by a program of this session's (wip/xprint.py), out of the seat's translation.
import Derived.Test.YtkaegbamkdgjjaaDoorG0
namespace Go.Proofs.YtkaegbamkdgjjaaDoor.G
open Go.RowKit Go.Proofs.YtkaegbamkdgjjaaDoorW.PrintWords Go.Proofs.YtkaegbamkdgjjaaDoorW.PrintLast Go.Proofs.YtkaegbamkdgjjaaDoorW.PrintMore
attribute [local go_sem] max2_int min2_int max_two min_two max_three min_three max_four min_four   -- for this text's walks alone
set_option linter.unusedVariables false
set_option linter.unusedSimpArgs false

/-! ### sprref_Texts: function 15 -/
def sprref_Texts.l0 : Nat → List ByteArray → List ByteArray → Int → Option (Bool)
  | 0, _, _, _ => none
  | k + 1, x0, x1, x5 => if x5 < (x0.length : Int) then (if 0 ≤ x5 then (if x5 < (x1.length : Int) then (if (rdOf ByteArray.empty x0 x5).toList = (rdOf ByteArray.empty x1 x5).toList then (sprref_Texts.l0 k x0 x1 (wrap64 (x5 + 1))) else (some false)) else (none)) else (none)) else (some true)
def sprref_Texts.f (k : Nat) (l0 : List ByteArray) (l1 : List ByteArray) : Option (Bool) := if (l0.length : Int) = (l1.length : Int) then (sprref_Texts.l0 k l0 l1 0) else (some false)
theorem sprref_Texts.mono_l : ∀ k, (∀ y0 y1 y2, LeO (sprref_Texts.l0 k y0 y1 y2) (sprref_Texts.l0 (k + 1) y0 y1 y2))
  | 0 => fun _ _ _ r h => by simp [sprref_Texts.l0] at h
  | k + 1 => by
    have ih0 := sprref_Texts.mono_l k
    · intro y0 y1 y2
      unfold sprref_Texts.l0
      repeat' first
      | (with_reducible exact ih0 _ _ _)
      | (with_reducible exact LeO.refl _)
      | (with_reducible exact LeO.none _)
      | (with_reducible refine LeO.ite ?_ ?_)
      | (with_reducible refine LeO.bind ?_ (fun _ => ?_))
      | exact ih0 _ _ _
      | exact LeO.none _
      | refine LeO.ite ?_ ?_
      | refine LeO.bind ?_ (fun _ => ?_)
theorem sprref_Texts.mono : ∀ a0 a1 k, LeO (sprref_Texts.f k a0 a1) (sprref_Texts.f (k + 1) a0 a1) := by
  intro a0 a1 k
  have ih0 := sprref_Texts.mono_l k
  unfold sprref_Texts.f
  repeat' first
      | (with_reducible exact ih0 _ _ _)
      | (with_reducible exact LeO.refl _)
      | (with_reducible exact LeO.none _)
      | (with_reducible refine LeO.ite ?_ ?_)
      | (with_reducible refine LeO.bind ?_ (fun _ => ?_))
      | exact ih0 _ _ _
      | exact LeO.none _
      | refine LeO.ite ?_ ?_
      | refine LeO.bind ?_ (fun _ => ?_)
set_option maxHeartbeats 2000000 in
set_option maxRecDepth 100000 in
theorem sprref_Texts.calls (k : Nat) (A0 : Option Addr) (c0 : Nat) (l0 : List ByteArray) (A1 : Option Addr) (c1 : Nat) (l1 : List ByteArray) (r : Bool) (w : World) (hr0 : Kd.C Kd.string w A0 l0.length l0) (hc0 : l0.length ≤ c0) (hr1 : Kd.C Kd.string w A1 l1.length l1) (hc1 : l1.length ≤ c1) (h : sprref_Texts.f k l0 l1 = some r) :
    Calls Tryd.prog 15 #[.slice A0 l0.length c0, .slice A1 l1.length c1] w fun e w' => e = .returned (.bool r) ∧ Drawn0 w w' := by
  have HR0 := Aside0.mk hr0
  have HC0 := Aside0.mk hc0
  clear hr0 hc0
  have HR1 := Aside0.mk hr1
  have HC1 := Aside0.mk hc1
  clear hr1 hc1
  have H : (if (l0.length : Int) = (l1.length : Int) then (sprref_Texts.l0 k l0 l1 0) else (some false)) = some r := h
  clear h
  by_cases c3 : (l0.length : Int) = (l1.length : Int)
  · rw [if_pos c3] at H
    have c3b0 : ((l0.length : Int) == (l1.length : Int)) = true := beq_iff_eq.mpr c3
    have c3b1 : ((l0.length : Int) != (l1.length : Int)) = false := bne_eq_false_iff_eq.mpr c3
    have c3b2 : (l0.length == l1.length) = true := by first | simpa using c3 | (simp at c3 ⊢; omega)
    clear c3
    have H' := Aside0.mk H
    clear H
    go_enter Tryd.func15, Tryd.ntmps15
    go_wp2
    repeat (go_quiet (fail); try go_wp2)
    go_loopg [5] k (fun kq v5 w' => ∃ (x5_1 : Int), v5 = .int .i64 x5_1 ∧ Aside0 (sprref_Texts.l0 kq l0 l1 x5_1 = some r) ∧ Aside0 (kq ≤ k) ∧ Drawn0 w w')
    case atStart => exact ⟨(0), (by first | rfl | (simp; done) | (simp [*]; done)), H', ⟨Nat.le_refl _⟩, by repeat (first | exact Drawn0.refl _ | apply Drawn0.step)⟩
    case round =>
      clear H'
      try clear c1
      try clear p2
      try clear c3
      try clear c3b0
      try clear c3b1
      try clear c3b2
      obtain ⟨x5_1, rfl, HA, HK1, ⟨m1, rfl⟩⟩ := hrel
      cases gk with
      | zero => exact absurd HA.out (by simp [sprref_Texts.l0])
      | succ k1 =>
        have H := HA.out
        clear HA
        simp only [sprref_Texts.l0] at H
        by_cases c4 : x5_1 < (l0.length : Int)
        · rw [if_pos c4] at H
          have c4b0 : decide (x5_1 < (l0.length : Int)) = true := decide_eq_true c4
          clear c4
          by_cases c5 : 0 ≤ x5_1
          · rw [if_pos c5] at H
            have c5b0 : decide (0 ≤ x5_1) = true := decide_eq_true c5
            clear c5
            by_cases c6 : x5_1 < (l1.length : Int)
            · rw [if_pos c6] at H
              have c6b0 : decide (x5_1 < (l1.length : Int)) = true := decide_eq_true c6
              clear c6
              by_cases c7 : (rdOf ByteArray.empty l0 x5_1).toList = (rdOf ByteArray.empty l1 x5_1).toList
              · rw [if_pos c7] at H
                have c7b0 : ((rdOf ByteArray.empty l0 x5_1).toList == (rdOf ByteArray.empty l1 x5_1).toList) = true := beq_iff_eq.mpr c7
                have c7b1 : ((rdOf ByteArray.empty l0 x5_1).toList != (rdOf ByteArray.empty l1 x5_1).toList) = false := bne_eq_false_iff_eq.mpr c7
                clear c7
                have H' := Aside0.mk H
                clear H
                have p340 : 0 ≤ (x5_1 : Int) := of_decide_eq_true (by first | (with_reducible assumption) | assumption)
                have q340 : x5_1 < (l0.length : Int) := of_decide_eq_true (by first | (with_reducible assumption) | assumption)
                obtain ⟨ad340, e340, hx340_0⟩ := Kd.at_string HR0.out x5_1 p340 q340
                cases e340
                replace p340 := eq_true p340
                replace q340 := eq_true q340
                have p341 : 0 ≤ (x5_1 : Int) := of_decide_eq_true (by first | (with_reducible assumption) | assumption)
                have q341 : x5_1 < (l1.length : Int) := of_decide_eq_true (by first | (with_reducible assumption) | assumption)
                obtain ⟨ad341, e341, hx341_0⟩ := Kd.at_string HR1.out x5_1 p341 q341
                cases e341
                replace p341 := eq_true p341
                replace q341 := eq_true q341
                go_wp2
                repeat (go_quiet (fail); try go_wp2)
                go_roundg k1
                case measure => have := HK1.out; omega
                case rel => exact ⟨(wrap64 (x5_1 + 1)), (by first | rfl | (simp; done) | (simp [*]; done)), H', ⟨by have := HK1.out; omega⟩, by repeat (first | exact Drawn0.refl _ | apply Drawn0.step)⟩
              · rw [if_neg c7] at H
                have c7b0 : ((rdOf ByteArray.empty l0 x5_1).toList == (rdOf ByteArray.empty l1 x5_1).toList) = false := beq_eq_false_iff_ne.mpr c7
                have c7b1 : ((rdOf ByteArray.empty l0 x5_1).toList != (rdOf ByteArray.empty l1 x5_1).toList) = true := bne_iff_ne.mpr c7
                obtain rfl := Option.some.inj H
                have p340 : 0 ≤ (x5_1 : Int) := of_decide_eq_true (by first | (with_reducible assumption) | assumption)
                have q340 : x5_1 < (l0.length : Int) := of_decide_eq_true (by first | (with_reducible assumption) | assumption)
                obtain ⟨ad340, e340, hx340_0⟩ := Kd.at_string HR0.out x5_1 p340 q340
                cases e340
                replace p340 := eq_true p340
                replace q340 := eq_true q340
                have p341 : 0 ≤ (x5_1 : Int) := of_decide_eq_true (by first | (with_reducible assumption) | assumption)
                have q341 : x5_1 < (l1.length : Int) := of_decide_eq_true (by first | (with_reducible assumption) | assumption)
                obtain ⟨ad341, e341, hx341_0⟩ := Kd.at_string HR1.out x5_1 p341 q341
                cases e341
                replace p341 := eq_true p341
                replace q341 := eq_true q341
                go_wp2
                repeat (go_quiet (fail); try go_wp2)
                go_ret
                exact ⟨by first | rfl | (simp; done) | (simp [*]; done), by repeat (first | exact Drawn0.refl _ | apply Drawn0.step)⟩
            · rw [if_neg c6] at H
              exact absurd H (by simp)
          · rw [if_neg c5] at H
            exact absurd H (by simp)
        · rw [if_neg c4] at H
          have c4b0 : decide (x5_1 < (l0.length : Int)) = false := decide_eq_false c4
          clear c4
          obtain rfl := Option.some.inj H
          go_wp2
          repeat (go_quiet (fail); try go_wp2)
          go_ret
          exact ⟨by first | rfl | (simp; done) | (simp [*]; done), by repeat (first | exact Drawn0.refl _ | apply Drawn0.step)⟩
  · rw [if_neg c3] at H
    have c3b0 : ((l0.length : Int) == (l1.length : Int)) = false := beq_eq_false_iff_ne.mpr c3
    have c3b1 : ((l0.length : Int) != (l1.length : Int)) = true := bne_iff_ne.mpr c3
    have c3b2 : (l0.length == l1.length) = false := by first | simpa using c3 | (simp at c3 ⊢; omega)
    obtain rfl := Option.some.inj H
    go_enter Tryd.func15, Tryd.ntmps15
    go_wp2
    repeat (go_quiet (fail); try go_wp2)
    go_ret
    exact ⟨by first | rfl | (simp; done) | (simp [*]; done), by repeat (first | exact Drawn0.refl _ | apply Drawn0.step)⟩

/-! ### slices_SortS: function 27 -/
section
open Go.Sort
/-! slices.Sort of texts, at a row of the call's own -/
def sortB (l : List ByteArray) : List ByteArray := ((l.map (·.data.toList)).mergeSort fun x y => decide (x ≤ y)).map fun b => ⟨b.toArray⟩
theorem sortB_len (l : List ByteArray) : (sortB l).length = l.length := by simp [sortB]
theorem enc_mk (l : List (List UInt8)) : encs Value.string (l.map fun b => (⟨b.toArray⟩ : ByteArray)) = l.map encStr := by
  unfold encs
  rw [List.map_map]
  rfl
theorem slices_SortS.own (A : Option Addr) (cap : Nat) (xs : List ByteArray) (w : World) (base : Nat) (ok : Nat → Prop) (h : Kd.R Kd.string 9 w base ok (.slice A xs.length cap) xs) (hl : xs.length < 4611686018427387904) :
    Calls Tryd.prog 27 #[.slice A xs.length cap] w fun e w' => e = .returned (.tuple #[]) ∧ Kd.R Kd.string 9 w' base ok (.slice A xs.length cap) (sortB xs) ∧ w.grownBy w' (Value.slice A xs.length cap).ownBlock := by
  have ho := Kd.own_of_R (enc := Value.string) (h1 := fun _ => rfl) h
  have hok := h.1
  have ee : encs Value.string xs = (xs.map (·.data.toList)).map encStr := (Lib.map_encStr xs).symm
  rcases ho.2 with ⟨hnil, h0⟩ | ⟨g, cap', cur, hv, hbase, hb, h1, h2, h3, h4⟩
  · obtain rfl : xs = [] := List.eq_nil_of_length_eq_zero h0
    refine (Tryd.slices_Sort_string_none A cap w).mono fun e w' ⟨he, hw⟩ => ?_
    subst hw
    refine ⟨he, ?_, grown_of_below (Below.refl _ _) _⟩
    have e0 : sortB [] = [] := by simp [sortB]
    rw [e0]
    exact h
  · injection hv with f1 f2 f3
    subst f1; subst f3
    have hg : g < w.heap.size := (Array.getElem?_eq_some_iff.1 hb).1
    rw [Nat.mul_one, ee] at h4
    have hH : Holds encStr w g 0 (xs.map (·.data.toList)).toArray := holds_of_block hb (by rw [List.length_map]; exact h4)
    have c := Tryd.slices_Sort_string g 0 cap (xs.map (·.data.toList)) w hH hg (by simpa using hl)
    rw [List.length_map] at c
    refine c.mono fun e w' ⟨he, n, os, hw⟩ => ⟨he, ?_, ?_⟩
    · rw [hw]
      refine Kd.R_of_own (enc := Value.string) (h1 := fun _ => rfl) ?_ hok
      have q := ownsRow_sorted (n := n) (os := os) (ss := xs.map (·.data.toList)) (ts := (xs.map (·.data.toList)).mergeSort fun x y => decide (x ≤ y)) (by simp) hbase hb (by simpa using h1) h2 h3
      have hl2 : (xs.map (·.data.toList)).length = xs.length := List.length_map _
      rw [hl2] at q
      unfold sortB
      rw [enc_mk, List.length_map, List.length_mergeSort, hl2]
      exact q
    · rw [hw]; exact grownBy_sorted _
/-! slices.Compact of texts, at a row of the call's own -/
theorem grown_putRow (w : World) (g q : Nat) (d : Array (List UInt8)) : w.grownBy (putRow encStr (Sort.ahead w q) g 0 d) (some g) :=
  ⟨rfl, rfl, rfl, by simp [putRow, mapBlock, Sort.ahead], fun k hk hne => by
    have : g ≠ k := fun e => hne (by rw [e])
    simp [putRow, mapBlock, Sort.ahead, Array.getElem?_modify, this]⟩
theorem compact_le (l : List (List UInt8)) : (Lib.compact l).length ≤ l.length := by
  unfold Lib.compact Lib.compactUpTo
  rw [List.length_map]
  exact Nat.le_trans (List.length_filter_le _ _) (by simp)
def compB (l : List ByteArray) : List ByteArray := (Lib.compact (l.map (·.data.toList))).map fun b => ⟨b.toArray⟩
theorem slices_CompactS.own (A : Option Addr) (cap : Nat) (xs : List ByteArray) (w : World) (base : Nat) (ok : Nat → Prop) (h : Kd.R Kd.string 9 w base ok (.slice A xs.length cap) xs) :
    Calls Tryd.prog 28 #[.slice A xs.length cap] w fun e w' => e = .returned (.slice A (compB xs).length cap) ∧ Kd.R Kd.string 9 w' base ok (.slice A (compB xs).length cap) (compB xs) ∧ w.grownBy w' (Value.slice A xs.length cap).ownBlock := by
  have ho := Kd.own_of_R (enc := Value.string) (h1 := fun _ => rfl) h
  have hok := h.1
  have ee : encs Value.string xs = (xs.map (·.data.toList)).map encStr := (Lib.map_encStr xs).symm
  rcases ho.2 with ⟨hnil, h0⟩ | ⟨g, cap', cur, hv, hbase, hb, h1, h2, h3, h4⟩
  · obtain rfl : xs = [] := List.eq_nil_of_length_eq_zero h0
    refine (Tryd.slices_Compact_string_empty A cap w).mono fun e w' ⟨he, hw⟩ => ?_
    subst hw
    exact ⟨he, (show compB [] = [] from rfl) ▸ h, grown_of_below (Below.refl _ _) _⟩
  · injection hv with f1 f2 f3
    subst f1; subst f3
    have hm := h1
    rw [Nat.mul_one, ee] at h4
    have hH : Holds encStr w g 0 (xs.map (·.data.toList)).toArray := holds_of_block hb (by rw [List.length_map]; exact h4)
    have hle : (Lib.compact (xs.map (·.data.toList))).length ≤ xs.length := by
      have := compact_le (xs.map (·.data.toList))
      rwa [List.length_map] at this
    have c := Tryd.slices_Compact_string g 0 cap (xs.map (·.data.toList)) w hH (by rw [List.length_map]; exact Nat.le_trans h1 h2) (by rw [List.length_map]; exact h1)
    rw [List.length_map] at c
    have hlen : (compB xs).length = (Lib.compact (xs.map (·.data.toList))).length := by unfold compB; rw [List.length_map]
    refine c.mono fun e w' ⟨he, q, hw⟩ => ⟨by rw [he, hlen], ?_, ?_⟩
    · rw [hw, hlen]
      have ho' : w.ownsRow base 9 1 (.slice (some ⟨g, 0, none⟩) xs.length cap) xs.length ((xs.map (·.data.toList)).map encStr) := ee ▸ ho
      have z := Lib.ownsRow_putRow (q := q) (k := (Lib.compact (xs.map (·.data.toList))).length) (ys := Lib.compact (xs.map (·.data.toList)) ++ List.replicate (xs.length - (Lib.compact (xs.map (·.data.toList))).length) []) ho' (by rw [List.length_append, List.length_replicate]; omega) hle
      rw [List.take_left] at z
      refine Kd.R_of_own (enc := Value.string) (h1 := fun _ => rfl) ?_ (fun k hk => hok k hk)
      unfold compB
      rw [enc_mk, List.length_map]
      exact z
    · rw [hw]
      exact grown_putRow _ _ _ _
theorem slices_CompactS.len (A : Option Addr) (cap n : Nat) (xs : List ByteArray) (w : World) (base : Nat) (ok : Nat → Prop) (hn : xs.length = n) (h : Kd.R Kd.string 9 w base ok (.slice A n cap) xs) :
    Calls Tryd.prog 28 #[.slice A n cap] w fun e w' => e = .returned (.slice A (compB xs).length cap) ∧ Kd.R Kd.string 9 w' base ok (.slice A (compB xs).length cap) (compB xs) ∧ w.grownBy w' (Value.slice A n cap).ownBlock := by
  subst hn
  exact slices_CompactS.own A cap xs w base ok h
theorem slices_SortS.len (A : Option Addr) (cap : Nat) (xs : List ByteArray) (w : World) (base : Nat) (ok : Nat → Prop) (h : Kd.R Kd.string 9 w base ok (.slice A xs.length cap) xs) (hl : xs.length < 4611686018427387904) :
    Calls Tryd.prog 27 #[.slice A xs.length cap] w fun e w' => e = .returned (.tuple #[]) ∧ Kd.R Kd.string 9 w' base ok (.slice A xs.length cap) (sortB xs) ∧ w.grownBy w' (Value.slice A xs.length cap).ownBlock := slices_SortS.own A cap xs w base ok h hl
end


/-! ### query_Names: function 16 -/
def query_Names.l0 : Nat → List ByteArray → List S33 → Int → Int → Option (List ByteArray)
  | 0, _, _, _, _ => none
  | k + 1, out, l, n, i => if i < n then (if 0 ≤ i then (if i < (l.length : Int) then (if out.length < 4398046511104 then (query_Names.l0 k (out ++ [(rd_T33 l i).f0]) l n (wrap64 (i + 1))) else (none)) else (none)) else (none)) else (if out.length < 4398046511104 then some (compB (sortB out)) else none)
def query_Names.f (k : Nat) (l : List S33) : Option (List ByteArray) := query_Names.l0 k [] l (l.length : Int) 0
theorem query_Names.mono_l : ∀ k, (∀ y0 y1 y2 y3, LeO (query_Names.l0 k y0 y1 y2 y3) (query_Names.l0 (k + 1) y0 y1 y2 y3))
  | 0 => fun _ _ _ _ r h => by simp [query_Names.l0] at h
  | k + 1 => by
    have ih0 := query_Names.mono_l k
    intro y0 y1 y2 y3
    unfold query_Names.l0
    repeat' first
      | (with_reducible exact ih0 _ _ _ _)
      | (with_reducible exact LeO.refl _)
      | (with_reducible exact LeO.none _)
      | (with_reducible refine LeO.ite ?_ ?_)
      | exact ih0 _ _ _ _
      | exact LeO.none _
      | refine LeO.ite ?_ ?_
theorem query_Names.mono : ∀ a0 k, LeO (query_Names.f k a0) (query_Names.f (k + 1) a0) := fun _ k => query_Names.mono_l k _ _ _ _
set_option maxHeartbeats 4000000 in
set_option maxRecDepth 100000 in
theorem query_Names.calls (k : Nat) (A0 : Option Addr) (c0 : Nat) (l0 : List S33) (r : List ByteArray) (w : World) (hr0 : Kd.C k33 w A0 l0.length l0) (hc0 : l0.length ≤ c0) (h : query_Names.f k l0 = some r) :
    Calls Tryd.prog 16 #[.slice A0 l0.length c0] w fun e w' => ∃ v0_ : Value, e = .returned v0_ ∧ Kd.R Kd.string 9 w' w.heap.size (fun _ => True) v0_ r ∧ Below w.heap.size w w' := by
  have HR0 := Aside0.mk hr0
  have HC0 := Aside0.mk hc0
  clear hr0 hc0
  have HB := Aside0.mk (Below.refl w.heap.size w)
  have H' := Aside0.mk (show query_Names.l0 k [] l0 (l0.length : Int) 0 = some r from h)
  clear h
  go_enter Tryd.func16, Tryd.ntmps16
  go_wp2
  go_loopg [3, 8] k (fun kq v3 v8 w' => ∃ (out : List ByteArray) (x8 : Int), v8 = .int .i64 x8 ∧ Aside0 (query_Names.l0 kq out l0 (l0.length : Int) x8 = some r) ∧ Aside0 (kq ≤ k) ∧ Aside0 (Kd.R Kd.string 9 w' w.heap.size (fun _ => True) v3 out) ∧ Aside0 (Below w.heap.size w w'))
  case atStart => exact ⟨[], 0, rfl, H', ⟨Nat.le_refl _⟩, ⟨Kd.R_nil _ _ _ _ _⟩, ⟨by repeat (first | (with_reducible first | exact HB.out | apply below_alloc | apply pw_below_drewN | apply below_drew1) | exact HB.out)⟩⟩
  case round =>
    clear H' HB
    obtain ⟨out, i, rfl, HA, HK1, HO, HB⟩ := hrel
    cases gk with
    | zero => exact absurd HA.out (by simp [query_Names.l0])
    | succ k1 =>
      have H := HA.out
      clear HA
      simp only [query_Names.l0] at H
      by_cases c2 : i < (l0.length : Int)
      · rw [if_pos c2] at H
        have c2b0 : decide (i < (l0.length : Int)) = true := decide_eq_true c2
        by_cases c3 : 0 ≤ i
        · rw [if_pos c3, if_pos c2] at H
          obtain ⟨ad, e225, hx0, hx1⟩ := at_T33 HR0.out i c3 c2
          cases e225
          replace hx0 := (HB.out.cell (World.block_lt_of_cell? w _ hx0)).trans hx0
          replace hx1 := (HB.out.cell (World.block_lt_of_cell? w _ hx1)).trans hx1
          generalize (rd_T33 l0 i).f0 = nm at H hx0
          generalize (rd_T33 l0 i).f1 = vl at H hx1
          by_cases c7 : out.length < 4398046511104
          · rw [if_pos c7] at H
            have H' := Aside0.mk H
            have C7 := Aside0.mk c7
            clear H c7
            have p225 := eq_true c3
            have q225 := eq_true c2
            clear c2 c3
            have hu33 := Tryd.underlying33
            obtain ⟨Ao, co, eo⟩ := Kd.R_slice HO.out
            subst eo
            go_wp2_with (first | ((with_reducible refine gate_builtin (b := .append) (xs := #[.tmp 12, .tmp 15]) rfl ?_); at_builtin; (obtain ⟨w0, hw0⟩ : ∃ w_, w_ = wr.alloc (.cells #[.string nm, .string vl] 33) := ⟨_, rfl⟩); rw [← hw0]; have hs0 : wr.heap.size + 1 = w0.heap.size := (by rw [hw0, World.size_alloc]); rw [hs0]; have n0_ := Aside0.mk (show Below w.heap.size w w0 by rw [hw0]; exact below_alloc HB.out _); have n1_ := Aside0.mk (show Kd.R Kd.string 9 w0 w.heap.size (fun _ => True) (.slice Ao out.length co) out by rw [hw0]; exact Kd.R_alloc HO.out _); clear HB HO hw0 hs0; have HB := n0_; have HO := n1_; clear n0_ n1_; refine Kd.R_append Kd.string (w0 := w) w.heap.size rfl (.tmp 12) (.tmp 15) 36 9 (.string ⟨#[]⟩) 16 rfl Tryd.underlying36 info9 rfl (by decide) (by omega) (.slice Ao out.length co) out nm [.string nm] (fun _ => True) (fun _ => False) rfl rfl ?aP (fun _ hk => hk.elim) ?aF ?aO ?aB ?aS ?aL ?_; (case aP => exact rfl); (case aB => exact (by repeat (first | (with_reducible first | exact HB.out | apply below_alloc | apply pw_below_drewN | apply below_drew1) | exact HB.out))); (case aF => exact (fun _ _ => trivial)); (case aO => exact (by (with_reducible repeat (first | apply Kd.R_alloc | apply Kd.R_drewN | apply Kd.R_drew)); exact HO.out)); (case aS => exact (below_size (by repeat (first | (with_reducible first | exact HB.out | apply below_alloc | apply pw_below_drewN | apply below_drew1) | exact HB.out)))); (case aL => have := C7.out; omega); intro v185 w20 ho hb hg hat; have n1_ := Aside0.mk (hb); have n2_ := Aside0.mk (ho); clear HB; clear HO; have HB := n1_; have HO := n2_; clear n1_ n2_; clear ho hb hg hat hx0 hx1))
            go_roundg k1
            case measure => have := HK1.out; omega
            case rel => exact ⟨out ++ [nm], wrap64 (i + 1), (by first | rfl | (simp; done) | (simp [*]; done)), H', ⟨by have := HK1.out; omega⟩, ⟨by (with_reducible repeat (first | apply Kd.R_alloc | apply Kd.R_drewN | apply Kd.R_drew)); exact HO.out⟩, ⟨by repeat (first | (with_reducible first | exact HB.out | apply below_alloc | apply pw_below_drewN | apply below_drew1) | exact HB.out)⟩⟩
          · rw [if_neg c7] at H
            exact absurd H (by simp)
        · rw [if_neg c3] at H
          exact absurd H (by simp)
      · rw [if_neg c2] at H
        have c2b0 : decide (i < (l0.length : Int)) = false := decide_eq_false c2
        by_cases c7 : out.length < 4398046511104
        · rw [if_pos c7] at H
          obtain rfl := Option.some.inj H
          have C7 := Aside0.mk c7
          clear H c2 c7
          obtain ⟨Ao, co, eo⟩ := Kd.R_slice HO.out
          subst eo
          have SL := Aside0.mk (sortB_len out)
          go_wp2_with (first | ((with_reducible refine gate_callee (f := 27) rfl ?_); refine goesL_ (some 19) rfl rfl Tryd.func27 (by kernel_rfl) rfl #[.slice Ao out.length co] rfl (by first | rfl | (simp only [List.map_toArray, List.map_cons, List.map_nil]; rfl)) ?_; (with_reducible refine (slices_SortS.own Ao co out _ w.heap.size (fun _ => True) HO.out (by have := C7.out; omega)).mono ?_); rintro e ws ⟨rfl, ho, hg⟩; refine ⟨_, rfl, ?_⟩; have n0_ := Aside0.mk (pw_below_grown HB.out _ (below_size HB.out) hg (Kd.R_base HO.out)); have n1_ := Aside0.mk ho; clear HB HO ho hg; have HB := n0_; have HO := n1_; clear n0_ n1_) | ((with_reducible refine gate_callee (f := 28) rfl ?_); refine goesL_ (some 21) rfl rfl Tryd.func28 (by kernel_rfl) rfl #[.slice Ao out.length co] rfl (by first | rfl | (simp only [List.map_toArray, List.map_cons, List.map_nil]; rfl)) ?_; (with_reducible refine (slices_CompactS.len Ao co out.length (sortB out) _ w.heap.size (fun _ => True) SL.out HO.out).mono ?_); rintro e wt ⟨rfl, ho, hg⟩; refine ⟨_, rfl, ?_⟩; have n0_ := Aside0.mk (pw_below_grown HB.out _ (below_size HB.out) hg (Kd.R_base HO.out)); have n1_ := Aside0.mk ho; clear HB HO ho hg; have HB := n0_; have HO := n1_; clear n0_ n1_))
          go_ret
          exact ⟨_, rfl, HO.out, by repeat (first | (with_reducible first | exact HB.out | apply below_alloc | apply pw_below_drewN | apply below_drew1) | exact HB.out)⟩
        · rw [if_neg c7] at H
          exact absurd H (by simp)


end Go.Proofs.YtkaegbamkdgjjaaDoor.G
