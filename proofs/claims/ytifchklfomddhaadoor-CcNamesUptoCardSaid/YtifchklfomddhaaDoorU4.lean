-- Written by a program of this session's (wip/xprint.py), out of the seat's translation.
import Derived.Test.YtifchklfomddhaaDoorU0
import Derived.Test.YtifchklfomddhaaDoorU1
import Derived.Test.YtifchklfomddhaaDoorU3
namespace Go.Proofs.YtifchklfomddhaaDoor.U
open Go.RowKit Go.Proofs.YtifchklfomddhaaDoorW.PrintWords Go.Proofs.YtifchklfomddhaaDoorW.PrintLast Go.Proofs.YtifchklfomddhaaDoorW.PrintMore
attribute [local go_sem] max2_int min2_int max_two min_two max_three min_three max_four min_four   -- for this text's walks alone
set_option linter.unusedVariables false
set_option linter.unusedSimpArgs false

attribute [local go_sem high] eqA35
/-! ### sprlaw14_CcNames: function 7 -/
mutual
def sprlaw14_CcNames.j0 : Nat → List ByteArray → ByteArray → ByteArray → Int → Bool → Option (Bool)
  | 0, _, _, _, _, _ => none
  | k + 1, x0, x1, x2, x3, x38 => if x38 = true then ((sprlaw14_first.f k).bind fun t118 => (some t118)) else (sprlaw14_CcNames.l0 k x0 x1 x2 x3 0)
def sprlaw14_CcNames.l0 : Nat → List ByteArray → ByteArray → ByteArray → Int → Int → Option (Bool)
  | 0, _, _, _, _, _ => none
  | k + 1, x0, x1, x2, x3, x9 => if x1.size + x2.size ≤ 9223372036854775807 then (if x9 < ((x1 ++ x2).size : Int) then (if 0 ≤ x9 then (if (bt (x1 ++ x2) x9) < 97 then (if (bt (x1 ++ x2) x9) < 48 then ((sprlaw14_first.f k).bind fun t119 => (some t119)) else (if (bt (x1 ++ x2) x9) > 57 then ((sprlaw14_first.f k).bind fun t120 => (some t120)) else (sprlaw14_CcNames.l0 k x0 x1 x2 x3 (wrap64 (x9 + 1))))) else (if (bt (x1 ++ x2) x9) > 122 then (if (bt (x1 ++ x2) x9) < 48 then ((sprlaw14_first.f k).bind fun t121 => (some t121)) else (if (bt (x1 ++ x2) x9) > 57 then ((sprlaw14_first.f k).bind fun t122 => (some t122)) else (sprlaw14_CcNames.l0 k x0 x1 x2 x3 (wrap64 (x9 + 1))))) else (sprlaw14_CcNames.l0 k x0 x1 x2 x3 (wrap64 (x9 + 1))))) else (none)) else ((some (([] : List ByteArray) : List ByteArray)).bind fun y123 => (if 0 ≤ x3 then (if x3 ≤ (x0.length : Int) then (if y123.length + (x0.take (x3 : Int).toNat).length < 8796093022208 then ((some (y123 ++ (x0.take (x3 : Int).toNat) : List ByteArray)).bind fun y127 => (if 2 + x1.size ≤ 9223372036854775807 then (if ((⟨#[120, 45]⟩ : ByteArray) ++ x1).size + 1 ≤ 9223372036854775807 then (if (((⟨#[120, 45]⟩ : ByteArray) ++ x1) ++ (⟨#[61]⟩ : ByteArray)).size + x2.size ≤ 9223372036854775807 then ((some (([(((⟨#[120, 45]⟩ : ByteArray) ++ x1) ++ (⟨#[61]⟩ : ByteArray)) ++ x2] : List ByteArray) : List ByteArray)).bind fun y130 => (if y127.length + y130.length < 8796093022208 then ((some (y127 ++ y130 : List ByteArray)).bind fun y133 => (if y133.length + (x0.drop (x3 : Int).toNat).length < 8796093022208 then ((cc_Parse.f k (y133 ++ (x0.drop (x3 : Int).toNat))).bind fun bt140 => ((cc_Parse.f k x0).bind fun bt161 => (if (!(bt140.1 == bt161.1) || (!(bt140.2.1 == bt161.2.1) || (!(bt140.2.2.1 == bt161.2.2.1) || (!(bt140.2.2.2.1 == bt161.2.2.2.1) || (!(bt140.2.2.2.2.1 == bt161.2.2.2.2.1) || (!(bt140.2.2.2.2.2.1 == bt161.2.2.2.2.2.1) || (!(bt140.2.2.2.2.2.2.1 == bt161.2.2.2.2.2.2.1) || (!(bt140.2.2.2.2.2.2.2.1 == bt161.2.2.2.2.2.2.2.1) || (!(bt140.2.2.2.2.2.2.2.2.1 == bt161.2.2.2.2.2.2.2.2.1) || (!(bt140.2.2.2.2.2.2.2.2.2.1 == bt161.2.2.2.2.2.2.2.2.2.1) || (!(bt140.2.2.2.2.2.2.2.2.2.2.1 == bt161.2.2.2.2.2.2.2.2.2.2.1) || ((!(bt140.2.2.2.2.2.2.2.2.2.2.2.1 == bt161.2.2.2.2.2.2.2.2.2.2.2.1) || (!(bt140.2.2.2.2.2.2.2.2.2.2.2.2.1 == bt161.2.2.2.2.2.2.2.2.2.2.2.2.1))) || ((!(bt140.2.2.2.2.2.2.2.2.2.2.2.2.2.1 == bt161.2.2.2.2.2.2.2.2.2.2.2.2.2.1) || (!(bt140.2.2.2.2.2.2.2.2.2.2.2.2.2.2.1 == bt161.2.2.2.2.2.2.2.2.2.2.2.2.2.2.1))) || ((!(bt140.2.2.2.2.2.2.2.2.2.2.2.2.2.2.2.1 == bt161.2.2.2.2.2.2.2.2.2.2.2.2.2.2.2.1) || (!(bt140.2.2.2.2.2.2.2.2.2.2.2.2.2.2.2.2.1 == bt161.2.2.2.2.2.2.2.2.2.2.2.2.2.2.2.2.1))) || ((!(bt140.2.2.2.2.2.2.2.2.2.2.2.2.2.2.2.2.2.1 == bt161.2.2.2.2.2.2.2.2.2.2.2.2.2.2.2.2.2.1) || (!(bt140.2.2.2.2.2.2.2.2.2.2.2.2.2.2.2.2.2.2.1 == bt161.2.2.2.2.2.2.2.2.2.2.2.2.2.2.2.2.2.2.1))) || ((!(bt140.2.2.2.2.2.2.2.2.2.2.2.2.2.2.2.2.2.2.2.1 == bt161.2.2.2.2.2.2.2.2.2.2.2.2.2.2.2.2.2.2.2.1) || (!(bt140.2.2.2.2.2.2.2.2.2.2.2.2.2.2.2.2.2.2.2.2 == bt161.2.2.2.2.2.2.2.2.2.2.2.2.2.2.2.2.2.2.2.2))))))))))))))))))) = true then (some false) else ((sprref_CopyTexts.f x0).bind fun t182 => ((some (([(⟨#[78, 79, 45, 83, 116, 111, 114, 101, 44, 32, 77, 97, 120, 45, 65, 71, 69, 61, 55, 44, 32, 77, 73, 78, 45, 102, 114, 101, 115, 104, 61, 51]⟩ : ByteArray)] : List ByteArray) : List ByteArray)).bind fun y185 => (if t182.length + y185.length < 8796093022208 then ((some (t182 ++ y185 : List ByteArray)).bind fun y188 => ((sprref_CopyTexts.f x0).bind fun t191 => ((some (([(⟨#[110, 111, 45, 115, 116, 111, 114, 101, 44, 32, 109, 97, 120, 45, 97, 103, 101, 61, 55, 44, 32, 109, 105, 110, 45, 102, 114, 101, 115, 104, 61, 51]⟩ : ByteArray)] : List ByteArray) : List ByteArray)).bind fun y194 => (if t191.length + y194.length < 8796093022208 then ((sprlaw14_first.f k).bind fun t200 => (if t200 = true then ((cc_Parse.f k y188).bind fun bt201 => ((cc_Parse.f k (t191 ++ y194)).bind fun bt222 => (if (bt201.1 == bt222.1 && (bt201.2.1 == bt222.2.1 && (bt201.2.2.1 == bt222.2.2.1 && (bt201.2.2.2.1 == bt222.2.2.2.1 && (bt201.2.2.2.2.1 == bt222.2.2.2.2.1 && (bt201.2.2.2.2.2.1 == bt222.2.2.2.2.2.1 && (bt201.2.2.2.2.2.2.1 == bt222.2.2.2.2.2.2.1 && (bt201.2.2.2.2.2.2.2.1 == bt222.2.2.2.2.2.2.2.1 && (bt201.2.2.2.2.2.2.2.2.1 == bt222.2.2.2.2.2.2.2.2.1 && (bt201.2.2.2.2.2.2.2.2.2.1 == bt222.2.2.2.2.2.2.2.2.2.1 && (bt201.2.2.2.2.2.2.2.2.2.2.1 == bt222.2.2.2.2.2.2.2.2.2.2.1 && ((bt201.2.2.2.2.2.2.2.2.2.2.2.1 == bt222.2.2.2.2.2.2.2.2.2.2.2.1 && (bt201.2.2.2.2.2.2.2.2.2.2.2.2.1 == bt222.2.2.2.2.2.2.2.2.2.2.2.2.1)) && ((bt201.2.2.2.2.2.2.2.2.2.2.2.2.2.1 == bt222.2.2.2.2.2.2.2.2.2.2.2.2.2.1 && (bt201.2.2.2.2.2.2.2.2.2.2.2.2.2.2.1 == bt222.2.2.2.2.2.2.2.2.2.2.2.2.2.2.1)) && ((bt201.2.2.2.2.2.2.2.2.2.2.2.2.2.2.2.1 == bt222.2.2.2.2.2.2.2.2.2.2.2.2.2.2.2.1 && (bt201.2.2.2.2.2.2.2.2.2.2.2.2.2.2.2.2.1 == bt222.2.2.2.2.2.2.2.2.2.2.2.2.2.2.2.2.1)) && ((bt201.2.2.2.2.2.2.2.2.2.2.2.2.2.2.2.2.2.1 == bt222.2.2.2.2.2.2.2.2.2.2.2.2.2.2.2.2.2.1 && (bt201.2.2.2.2.2.2.2.2.2.2.2.2.2.2.2.2.2.2.1 == bt222.2.2.2.2.2.2.2.2.2.2.2.2.2.2.2.2.2.2.1)) && ((bt201.2.2.2.2.2.2.2.2.2.2.2.2.2.2.2.2.2.2.2.1 == bt222.2.2.2.2.2.2.2.2.2.2.2.2.2.2.2.2.2.2.2.1 && (bt201.2.2.2.2.2.2.2.2.2.2.2.2.2.2.2.2.2.2.2.2 == bt222.2.2.2.2.2.2.2.2.2.2.2.2.2.2.2.2.2.2.2.2)))))))))))))))))) = true then ((cc_Parse.f k y188).bind fun bt243 => (some bt243.1)) else (some false)))) else (some false))) else (none))))) else (none))))))) else (none))) else (none))) else (none)) else (none)) else (none))) else (none)) else (none)) else (none)))) else (none)
end
def sprlaw14_CcNames.f (k : Nat) (l0 : List ByteArray) (a1 : ByteArray) (a2 : ByteArray) (a3 : Int) : Option (Bool) := (sprlaw14_first.f k).bind fun t116 => (if t116 = true then ((sprlaw14_texts.f k l0).bind fun t117 => (if t117 = true then (if (a1.size : Int) > 100 then (sprlaw14_CcNames.j0 k l0 a1 a2 a3 true) else (if (a2.size : Int) > 100 then (sprlaw14_CcNames.j0 k l0 a1 a2 a3 true) else (if a3 < 0 then (sprlaw14_CcNames.j0 k l0 a1 a2 a3 true) else (sprlaw14_CcNames.j0 k l0 a1 a2 a3 (decide (a3 > (l0.length : Int))))))) else (sprlaw14_CcNames.j0 k l0 a1 a2 a3 true))) else (some false))
theorem sprlaw14_CcNames.mono_l : ∀ k, (∀ y0 y1 y2 y3 y4, LeO (sprlaw14_CcNames.j0 k y0 y1 y2 y3 y4) (sprlaw14_CcNames.j0 (k + 1) y0 y1 y2 y3 y4)) ∧ (∀ y0 y1 y2 y3 y4, LeO (sprlaw14_CcNames.l0 k y0 y1 y2 y3 y4) (sprlaw14_CcNames.l0 (k + 1) y0 y1 y2 y3 y4))
  | 0 => ⟨fun _ _ _ _ _ r h => by simp [sprlaw14_CcNames.j0] at h, fun _ _ _ _ _ r h => by simp [sprlaw14_CcNames.l0] at h⟩
  | k + 1 => by
    obtain ⟨ih0, ih1⟩ := sprlaw14_CcNames.mono_l k
    refine ⟨?_, ?_⟩
    · intro y0 y1 y2 y3 y4
      unfold sprlaw14_CcNames.j0
      repeat' first
      | (with_reducible exact ih0 _ _ _ _ _)
      | (with_reducible exact ih1 _ _ _ _ _)
      | (with_reducible exact cc_Parse.mono _ _)
      | (with_reducible exact sprlaw14_first.mono _)
      | (with_reducible exact sprlaw14_texts.mono _ _)
      | (with_reducible exact LeO.refl _)
      | (with_reducible exact LeO.none _)
      | (with_reducible refine LeO.ite ?_ ?_)
      | (with_reducible refine LeO.bind ?_ (fun _ => ?_))
      | exact ih0 _ _ _ _ _
      | exact ih1 _ _ _ _ _
      | exact cc_Parse.mono _ _
      | exact sprlaw14_first.mono _
      | exact sprlaw14_texts.mono _ _
      | exact LeO.none _
      | refine LeO.ite ?_ ?_
      | refine LeO.bind ?_ (fun _ => ?_)
    · intro y0 y1 y2 y3 y4
      unfold sprlaw14_CcNames.l0
      repeat' first
      | (with_reducible exact ih0 _ _ _ _ _)
      | (with_reducible exact ih1 _ _ _ _ _)
      | (with_reducible exact cc_Parse.mono _ _)
      | (with_reducible exact sprlaw14_first.mono _)
      | (with_reducible exact sprlaw14_texts.mono _ _)
      | (with_reducible exact LeO.refl _)
      | (with_reducible exact LeO.none _)
      | (with_reducible refine LeO.ite ?_ ?_)
      | (with_reducible refine LeO.bind ?_ (fun _ => ?_))
      | exact ih0 _ _ _ _ _
      | exact ih1 _ _ _ _ _
      | exact cc_Parse.mono _ _
      | exact sprlaw14_first.mono _
      | exact sprlaw14_texts.mono _ _
      | exact LeO.none _
      | refine LeO.ite ?_ ?_
      | refine LeO.bind ?_ (fun _ => ?_)
theorem sprlaw14_CcNames.mono : ∀ a0 a1 a2 a3 k, LeO (sprlaw14_CcNames.f k a0 a1 a2 a3) (sprlaw14_CcNames.f (k + 1) a0 a1 a2 a3) := by
  intro a0 a1 a2 a3 k
  obtain ⟨ih0, ih1⟩ := sprlaw14_CcNames.mono_l k
  unfold sprlaw14_CcNames.f
  repeat' first
      | (with_reducible exact ih0 _ _ _ _ _)
      | (with_reducible exact ih1 _ _ _ _ _)
      | (with_reducible exact cc_Parse.mono _ _)
      | (with_reducible exact sprlaw14_first.mono _)
      | (with_reducible exact sprlaw14_texts.mono _ _)
      | (with_reducible exact LeO.refl _)
      | (with_reducible exact LeO.none _)
      | (with_reducible refine LeO.ite ?_ ?_)
      | (with_reducible refine LeO.bind ?_ (fun _ => ?_))
      | exact ih0 _ _ _ _ _
      | exact ih1 _ _ _ _ _
      | exact cc_Parse.mono _ _
      | exact sprlaw14_first.mono _
      | exact sprlaw14_texts.mono _ _
      | exact LeO.none _
      | refine LeO.ite ?_ ?_
      | refine LeO.bind ?_ (fun _ => ?_)
def sprlaw14_CcNames.T11 : Bool × List (List Nat × List Nat) := (true, [([], []), ([], []), ([], []), ([1, 2], [1, 2]), ([0, 3], [0, 3]), ([], []), ([5], [5]), ([6], [6]), ([], []), ([7, 8], [7, 8]), ([9], [9]), ([4, 10, 4], [4, 10]), ([], []), ([], []), ([12, 13], [12, 13]), ([11, 14, 11], [11, 14]), ([15, 15, 0, 1, 2, 3, 4, 5, 6, 7, 8, 9, 10, 11, 12, 13, 14, 15], [15])])
def sprlaw14_CcNames.B11 : List Nat := [0, 0, 0, 6, 15, 0, 32, 96, 0, 480, 992, 2047, 0, 0, 12288, 32767, 65535]
theorem sprlaw14_CcNames.tab11 : rtab .any (opsOf Tryd.f7 11) = sprlaw14_CcNames.T11 := by kernel_rfl
theorem sprlaw14_CcNames.bits11 : waitsOk sprlaw14_CcNames.T11.2 sprlaw14_CcNames.B11 = true := by kernel_rfl
theorem cc_field0 (x0 : Bool) (x1 : Bool) (x2 : Bool) (x3 : Bool) (x4 : Bool) (x5 : Bool) (x6 : Bool) (x7 : Bool) (x8 : Bool) (x9 : Bool) (x10 : Bool) (x11 : Bool) (x12 : Int) (x13 : Bool) (x14 : Int) (x15 : Bool) (x16 : Int) (x17 : Bool) (x18 : Int) (x19 : Bool) (x20 : Int) (w : World) : (Instr.field 35 (.agg #[.bool x0, .bool x1, .bool x2, .bool x3, .bool x4, .bool x5, .bool x6, .bool x7, .bool x8, .bool x9, .bool x10, .bool x11, .int .i64 x12, .bool x13, .int .i64 x14, .bool x15, .int .i64 x16, .bool x17, .int .i64 x18, .bool x19, .int .i64 x20]) 0).run Tryd.prog w = .ok (.bool x0) w := by
  have hu35 := Tryd.underlying35
  first | rfl | (simp [go_sem, hu35]; done) | (simp [Instr.field, hu35, go_sem])
set_option maxHeartbeats 8000000 in
set_option maxRecDepth 100000 in
theorem sprlaw14_CcNames.calls (k : Nat) (A0 : Option Addr) (c0 : Nat) (l0 : List ByteArray) (a1 : ByteArray) (a2 : ByteArray) (a3 : Int) (r : Bool) (w : World) (hr0 : Kd.C Kd.string w A0 l0.length l0) (hc0 : l0.length ≤ c0) (h : sprlaw14_CcNames.f k l0 a1 a2 a3 = some r) (hT : Aside0 (r = true)) :
    Calls Tryd.prog 7 #[.slice A0 l0.length c0, .string a1, .string a2, .int .i64 a3] w fun e w' => e = .returned (.bool r) ∧ Below w.heap.size w w' := by
  have hu35 := Tryd.underlying35
  have hfd := cc_field0
  have HR0 := Aside0.mk hr0
  have HC0 := Aside0.mk hc0
  clear hr0 hc0
  have HB := Aside0.mk (Below.refl w.heap.size w)
  have H : ((sprlaw14_first.f k).bind fun t116 => (if t116 = true then ((sprlaw14_texts.f k l0).bind fun t117 => (if t117 = true then (if (a1.size : Int) > 100 then (sprlaw14_CcNames.j0 k l0 a1 a2 a3 true) else (if (a2.size : Int) > 100 then (sprlaw14_CcNames.j0 k l0 a1 a2 a3 true) else (if a3 < 0 then (sprlaw14_CcNames.j0 k l0 a1 a2 a3 true) else (sprlaw14_CcNames.j0 k l0 a1 a2 a3 (decide (a3 > (l0.length : Int))))))) else (sprlaw14_CcNames.j0 k l0 a1 a2 a3 true))) else (some false))) = some r := h
  clear h
  replace H := Option.bind_eq_some_iff.mp H
  obtain ⟨t116, A50, H⟩ := H
  replace H : (if t116 = true then ((sprlaw14_texts.f k l0).bind fun t117 => (if t117 = true then (if (a1.size : Int) > 100 then (sprlaw14_CcNames.j0 k l0 a1 a2 a3 true) else (if (a2.size : Int) > 100 then (sprlaw14_CcNames.j0 k l0 a1 a2 a3 true) else (if a3 < 0 then (sprlaw14_CcNames.j0 k l0 a1 a2 a3 true) else (sprlaw14_CcNames.j0 k l0 a1 a2 a3 (decide (a3 > (l0.length : Int))))))) else (sprlaw14_CcNames.j0 k l0 a1 a2 a3 true))) else (some false)) = some r := H
  have A5 := Aside0.mk A50
  clear A50
  by_cases c6 : t116 = true
  · subst c6
    have H1 : ((sprlaw14_texts.f k l0).bind fun t117 => (if t117 = true then (if (a1.size : Int) > 100 then (sprlaw14_CcNames.j0 k l0 a1 a2 a3 true) else (if (a2.size : Int) > 100 then (sprlaw14_CcNames.j0 k l0 a1 a2 a3 true) else (if a3 < 0 then (sprlaw14_CcNames.j0 k l0 a1 a2 a3 true) else (sprlaw14_CcNames.j0 k l0 a1 a2 a3 (decide (a3 > (l0.length : Int))))))) else (sprlaw14_CcNames.j0 k l0 a1 a2 a3 true))) = some r := by rw [if_pos rfl] at H; exact H
    clear H
    have H := H1
    clear H1
    have HC7 := Aside0.mk H
    clear H
    go_enter Tryd.func7, Tryd.ntmps7
    go_upto_region 3 with (first | ((with_reducible refine gate_callee (f := 8) rfl ?_); refine goesL_ (some 14) rfl rfl Tryd.func8 (by kernel_rfl) rfl #[] rfl (by (try simp only [List.map_toArray, List.map_cons, List.map_nil]); first | done | rfl | (simp only [List.length_drop, List.length_take]; rfl)) ?_; (with_reducible refine (sprlaw14_first.calls k  true _ A5.out).mono ?_); rintro e w8 ⟨rfl, hb⟩; refine ⟨_, rfl, ?_⟩; have n0_ := Aside0.mk (below_step (by repeat (first | (with_reducible first | exact HB.out | apply below_alloc | apply pw_below_drewN | apply below_drew1) | exact HB.out)) hb); clear HB; have HB := n0_; clear n0_; (try clear hb); (try clear hb2); (try clear hk); (try clear hi)))
    (try simp only [Act.put, List.setIfInBounds_toArray, List.set_cons_zero, List.set_cons_succ])
    go_cut [38] (fun v38 wc => ∃ (kq : Nat) (x38_6 : Bool), v38 = .bool x38_6 ∧ Aside0 (sprlaw14_CcNames.j0 kq l0 a1 a2 a3 x38_6 = some r) ∧ Aside0 (kq ≤ k) ∧ Aside0 (Below w.heap.size w wc))
    case first =>
      have H := HC7.out
      clear HC7
      replace H := Option.bind_eq_some_iff.mp H
      obtain ⟨t117, A90, H⟩ := H
      replace H : (if t117 = true then (if (a1.size : Int) > 100 then (sprlaw14_CcNames.j0 k l0 a1 a2 a3 true) else (if (a2.size : Int) > 100 then (sprlaw14_CcNames.j0 k l0 a1 a2 a3 true) else (if a3 < 0 then (sprlaw14_CcNames.j0 k l0 a1 a2 a3 true) else (sprlaw14_CcNames.j0 k l0 a1 a2 a3 (decide (a3 > (l0.length : Int))))))) else (sprlaw14_CcNames.j0 k l0 a1 a2 a3 true)) = some r := H
      have A9 := Aside0.mk A90
      clear A90
      by_cases c10 : t117 = true
      · subst c10
        have H1 : (if (a1.size : Int) > 100 then (sprlaw14_CcNames.j0 k l0 a1 a2 a3 true) else (if (a2.size : Int) > 100 then (sprlaw14_CcNames.j0 k l0 a1 a2 a3 true) else (if a3 < 0 then (sprlaw14_CcNames.j0 k l0 a1 a2 a3 true) else (sprlaw14_CcNames.j0 k l0 a1 a2 a3 (decide (a3 > (l0.length : Int))))))) = some r := by rw [if_pos rfl] at H; exact H
        clear H
        have H := H1
        clear H1
        by_cases c11 : (a1.size : Int) > 100
        · rw [if_pos c11] at H
          have c11b0 : decide (100 < (a1.size : Int)) = true := decide_eq_true c11
          have c11b1 : decide (100 < a1.size) = true := decide_eq_true (by omega)
          clear c11
          (first | rw [c11b0] | (simp only [i64_w, i32_w]; rw [c11b0]) | skip)
          have H' := Aside0.mk H
          clear H
          go_wp2_with (first | ((with_reducible refine gate_callee (f := 9) rfl ?_); refine goesL_ (some 17) rfl rfl Tryd.func9 (by kernel_rfl) rfl #[.slice A0 l0.length c0] rfl (by (try simp only [List.map_toArray, List.map_cons, List.map_nil]); first | done | rfl | (simp only [List.length_drop, List.length_take]; rfl)) ?_; (with_reducible refine (sprlaw14_texts.calls k _ _ l0 true _ ?side1 ?side2 A9.out).mono ?_); (case side1 => repeat (first | exact (Kd.C_below HR0.out HB.out) | (with_reducible refine Kd.C_alloc ?_ _) | (with_reducible refine Kd.C_drewN ?_ _) | (with_reducible refine Kd.C_drew ?_))); (case side2 => exact HC0.out); rintro e w12 ⟨rfl, hb⟩; refine ⟨_, rfl, ?_⟩; have n0_ := Aside0.mk (below_step (by repeat (first | (with_reducible first | exact HB.out | apply below_alloc | apply pw_below_drewN | apply below_drew1) | exact HB.out)) hb); clear HB; have HB := n0_; clear n0_; (try clear hb); (try clear hb2); (try clear hk); (try clear hi)))
          go_meet
          case rel => exact ⟨_, (true), (by first | rfl | (simp; done) | (simp [*]; done)), H', ⟨by first | omega | exact Nat.le_refl _⟩, ⟨by repeat (first | (with_reducible first | exact HB.out | apply below_alloc | apply pw_below_drewN | apply below_drew1) | exact HB.out)⟩⟩
        · rw [if_neg c11] at H
          have c11b0 : decide (100 < (a1.size : Int)) = false := decide_eq_false c11
          have c11b1 : decide (100 < a1.size) = false := decide_eq_false (by omega)
          clear c11
          (first | rw [c11b0] | (simp only [i64_w, i32_w]; rw [c11b0]) | skip)
          by_cases c13 : (a2.size : Int) > 100
          · rw [if_pos c13] at H
            have c13b0 : decide (100 < (a2.size : Int)) = true := decide_eq_true c13
            have c13b1 : decide (100 < a2.size) = true := decide_eq_true (by omega)
            clear c13
            have H' := Aside0.mk H
            clear H
            go_wp2_with (first | ((with_reducible refine gate_callee (f := 9) rfl ?_); refine goesL_ (some 17) rfl rfl Tryd.func9 (by kernel_rfl) rfl #[.slice A0 l0.length c0] rfl (by (try simp only [List.map_toArray, List.map_cons, List.map_nil]); first | done | rfl | (simp only [List.length_drop, List.length_take]; rfl)) ?_; (with_reducible refine (sprlaw14_texts.calls k _ _ l0 true _ ?side1 ?side2 A9.out).mono ?_); (case side1 => repeat (first | exact (Kd.C_below HR0.out HB.out) | (with_reducible refine Kd.C_alloc ?_ _) | (with_reducible refine Kd.C_drewN ?_ _) | (with_reducible refine Kd.C_drew ?_))); (case side2 => exact HC0.out); rintro e w14 ⟨rfl, hb⟩; refine ⟨_, rfl, ?_⟩; have n0_ := Aside0.mk (below_step (by repeat (first | (with_reducible first | exact HB.out | apply below_alloc | apply pw_below_drewN | apply below_drew1) | exact HB.out)) hb); clear HB; have HB := n0_; clear n0_; (try clear hb); (try clear hb2); (try clear hk); (try clear hi)))
            go_meet
            case rel => exact ⟨_, (true), (by first | rfl | (simp; done) | (simp [*]; done)), H', ⟨by first | omega | exact Nat.le_refl _⟩, ⟨by repeat (first | (with_reducible first | exact HB.out | apply below_alloc | apply pw_below_drewN | apply below_drew1) | exact HB.out)⟩⟩
          · rw [if_neg c13] at H
            have c13b0 : decide (100 < (a2.size : Int)) = false := decide_eq_false c13
            have c13b1 : decide (100 < a2.size) = false := decide_eq_false (by omega)
            clear c13
            by_cases c15 : a3 < 0
            · rw [if_pos c15] at H
              have c15b0 : decide (a3 < 0) = true := decide_eq_true c15
              clear c15
              have H' := Aside0.mk H
              clear H
              go_wp2_with (first | ((with_reducible refine gate_callee (f := 9) rfl ?_); refine goesL_ (some 17) rfl rfl Tryd.func9 (by kernel_rfl) rfl #[.slice A0 l0.length c0] rfl (by (try simp only [List.map_toArray, List.map_cons, List.map_nil]); first | done | rfl | (simp only [List.length_drop, List.length_take]; rfl)) ?_; (with_reducible refine (sprlaw14_texts.calls k _ _ l0 true _ ?side1 ?side2 A9.out).mono ?_); (case side1 => repeat (first | exact (Kd.C_below HR0.out HB.out) | (with_reducible refine Kd.C_alloc ?_ _) | (with_reducible refine Kd.C_drewN ?_ _) | (with_reducible refine Kd.C_drew ?_))); (case side2 => exact HC0.out); rintro e w16 ⟨rfl, hb⟩; refine ⟨_, rfl, ?_⟩; have n0_ := Aside0.mk (below_step (by repeat (first | (with_reducible first | exact HB.out | apply below_alloc | apply pw_below_drewN | apply below_drew1) | exact HB.out)) hb); clear HB; have HB := n0_; clear n0_; (try clear hb); (try clear hb2); (try clear hk); (try clear hi)))
              go_meet
              case rel => exact ⟨_, (true), (by first | rfl | (simp; done) | (simp [*]; done)), H', ⟨by first | omega | exact Nat.le_refl _⟩, ⟨by repeat (first | (with_reducible first | exact HB.out | apply below_alloc | apply pw_below_drewN | apply below_drew1) | exact HB.out)⟩⟩
            · rw [if_neg c15] at H
              have c15b0 : decide (a3 < 0) = false := decide_eq_false c15
              clear c15
              have H' := Aside0.mk H
              clear H
              go_wp2_with (first | ((with_reducible refine gate_callee (f := 9) rfl ?_); refine goesL_ (some 17) rfl rfl Tryd.func9 (by kernel_rfl) rfl #[.slice A0 l0.length c0] rfl (by (try simp only [List.map_toArray, List.map_cons, List.map_nil]); first | done | rfl | (simp only [List.length_drop, List.length_take]; rfl)) ?_; (with_reducible refine (sprlaw14_texts.calls k _ _ l0 true _ ?side1 ?side2 A9.out).mono ?_); (case side1 => repeat (first | exact (Kd.C_below HR0.out HB.out) | (with_reducible refine Kd.C_alloc ?_ _) | (with_reducible refine Kd.C_drewN ?_ _) | (with_reducible refine Kd.C_drew ?_))); (case side2 => exact HC0.out); rintro e w17 ⟨rfl, hb⟩; refine ⟨_, rfl, ?_⟩; have n0_ := Aside0.mk (below_step (by repeat (first | (with_reducible first | exact HB.out | apply below_alloc | apply pw_below_drewN | apply below_drew1) | exact HB.out)) hb); clear HB; have HB := n0_; clear n0_; (try clear hb); (try clear hb2); (try clear hk); (try clear hi)))
              go_meet
              case rel => exact ⟨_, (decide (a3 > (l0.length : Int))), (by first | rfl | (simp; done) | (simp [*]; done)), H', ⟨by first | omega | exact Nat.le_refl _⟩, ⟨by repeat (first | (with_reducible first | exact HB.out | apply below_alloc | apply pw_below_drewN | apply below_drew1) | exact HB.out)⟩⟩
      · replace c10 := Bool.eq_false_iff.mpr c10
        subst c10
        have H1 : (sprlaw14_CcNames.j0 k l0 a1 a2 a3 true) = some r := by rw [if_neg (show ¬ (false = true) by decide)] at H; exact H
        clear H
        have H := H1
        clear H1
        have H' := Aside0.mk H
        clear H
        go_wp2_with (first | ((with_reducible refine gate_callee (f := 9) rfl ?_); refine goesL_ (some 17) rfl rfl Tryd.func9 (by kernel_rfl) rfl #[.slice A0 l0.length c0] rfl (by (try simp only [List.map_toArray, List.map_cons, List.map_nil]); first | done | rfl | (simp only [List.length_drop, List.length_take]; rfl)) ?_; (with_reducible refine (sprlaw14_texts.calls k _ _ l0 false _ ?side1 ?side2 A9.out).mono ?_); (case side1 => repeat (first | exact (Kd.C_below HR0.out HB.out) | (with_reducible refine Kd.C_alloc ?_ _) | (with_reducible refine Kd.C_drewN ?_ _) | (with_reducible refine Kd.C_drew ?_))); (case side2 => exact HC0.out); rintro e w18 ⟨rfl, hb⟩; refine ⟨_, rfl, ?_⟩; have n0_ := Aside0.mk (below_step (by repeat (first | (with_reducible first | exact HB.out | apply below_alloc | apply pw_below_drewN | apply below_drew1) | exact HB.out)) hb); clear HB; have HB := n0_; clear n0_; (try clear hb); (try clear hb2); (try clear hk); (try clear hi)))
        go_meet
        case rel => exact ⟨_, (true), (by first | rfl | (simp; done) | (simp [*]; done)), H', ⟨by first | omega | exact Nat.le_refl _⟩, ⟨by repeat (first | (with_reducible first | exact HB.out | apply below_alloc | apply pw_below_drewN | apply below_drew1) | exact HB.out)⟩⟩
    case rest =>
      clear HC7
      try clear c1
      try clear p2
      try clear c6
      try clear c7
      try clear c8
      try clear c9
      try clear c10
      try clear c11
      try clear c11b0
      try clear c11b1
      try clear c13
      try clear c13b0
      try clear c13b1
      try clear c15
      try clear c15b0
      obtain ⟨kq, x38_6, rfl, HA, HJ6, HB⟩ := hcut
      cases kq with
      | zero => exact absurd HA.out (by simp [sprlaw14_CcNames.j0])
      | succ kj6 =>
        have H := HA.out
        clear HA
        simp only [sprlaw14_CcNames.j0] at H
        by_cases c19 : x38_6 = true
        · subst c19
          have H1 : ((sprlaw14_first.f kj6).bind fun t118 => (some t118)) = some r := by rw [if_pos rfl] at H; exact H
          clear H
          have H := H1
          clear H1
          replace H := Option.bind_eq_some_iff.mp H
          obtain ⟨t118, A200, H⟩ := H
          replace H : (some t118) = some r := H
          have A20 := Aside0.mk A200
          clear A200
          obtain rfl := Option.some.inj H
          go_wp2_with (first | ((with_reducible refine gate_callee (f := 8) rfl ?_); refine goesL_ (some 39) rfl rfl Tryd.func8 (by kernel_rfl) rfl #[] rfl (by (try simp only [List.map_toArray, List.map_cons, List.map_nil]); first | done | rfl | (simp only [List.length_drop, List.length_take]; rfl)) ?_; (with_reducible refine (sprlaw14_first.calls kj6  t118 _ A20.out).mono ?_); rintro e w21 ⟨rfl, hb⟩; refine ⟨_, rfl, ?_⟩; have n0_ := Aside0.mk (below_step (by repeat (first | (with_reducible first | exact HB.out | apply below_alloc | apply pw_below_drewN | apply below_drew1) | exact HB.out)) hb); clear HB; have HB := n0_; clear n0_; (try clear hb); (try clear hb2); (try clear hk); (try clear hi)))
          go_ret
          exact ⟨by first | rfl | (simp [errW_none, errW_some] <;> rfl) | (simp [*, errW_none, errW_some] <;> rfl), by repeat (first | (with_reducible first | exact HB.out | apply below_alloc | apply pw_below_drewN | apply below_drew1) | exact HB.out)⟩
        · replace c19 := Bool.eq_false_iff.mpr c19
          subst c19
          have H1 : (sprlaw14_CcNames.l0 kj6 l0 a1 a2 a3 0) = some r := by rw [if_neg (show ¬ (false = true) by decide)] at H; exact H
          clear H
          have H := H1
          clear H1
          have H' := Aside0.mk H
          clear H
          go_wp2
          go_loopg [9] kj6 (fun kq v9 w' => ∃ (x9_2 : Int), v9 = .int .i64 x9_2 ∧ Aside0 (sprlaw14_CcNames.l0 kq l0 a1 a2 a3 x9_2 = some r) ∧ Aside0 (kq ≤ kj6) ∧ Aside0 (Below w.heap.size w w'))
          case atStart => exact ⟨(0), (by first | rfl | (simp; done) | (simp [*]; done)), H', ⟨Nat.le_refl _⟩, ⟨by repeat (first | (with_reducible first | exact HB.out | apply below_alloc | apply pw_below_drewN | apply below_drew1) | exact HB.out)⟩⟩
          case round =>
            clear H'
            try clear c1
            try clear p2
            try clear c6
            try clear c7
            try clear c8
            try clear c9
            try clear c10
            try clear c11
            try clear c11b0
            try clear c11b1
            try clear c13
            try clear c13b0
            try clear c13b1
            try clear c15
            try clear c15b0
            try clear c19
            try clear p2
            obtain ⟨x9_2, rfl, HA, HK2, HB⟩ := hrel
            cases gk with
            | zero => exact absurd HA.out (by simp [sprlaw14_CcNames.l0])
            | succ k2 =>
              have H := HA.out
              clear HA
              simp only [sprlaw14_CcNames.l0] at H
              by_cases c22 : a1.size + a2.size ≤ 9223372036854775807
              · rw [if_pos c22] at H
                have c22b0 := eq_true c22
                have c22b1 : decide (a1.size + a2.size ≤ 9223372036854775807) = true := decide_eq_true c22
                try have c22b2 : (9223372036854775807 < a1.size + a2.size) = False := eq_false (Nat.not_lt.2 c22)
                by_cases c23 : x9_2 < ((a1 ++ a2).size : Int)
                · rw [if_pos c23] at H
                  try (have c23s := c23; simp [go_sem] at c23s)
                  have c23b0 : decide (x9_2 < ((a1 ++ a2).size : Int)) = true := decide_eq_true c23
                  clear c23
                  by_cases c24 : 0 ≤ x9_2
                  · rw [if_pos c24] at H
                    have c24b0 : decide (0 ≤ x9_2) = true := decide_eq_true c24
                    clear c24
                    by_cases c26 : (bt (a1 ++ a2) x9_2) < 97
                    · rw [if_pos c26] at H
                      try (have c26s := c26; simp [go_sem] at c26s)
                      have c26b0 : decide ((bt (a1 ++ a2) x9_2) < 97) = true := decide_eq_true c26
                      clear c26
                      by_cases c27 : (bt (a1 ++ a2) x9_2) < 48
                      · rw [if_pos c27] at H
                        try (have c27s := c27; simp [go_sem] at c27s)
                        have c27b0 : decide ((bt (a1 ++ a2) x9_2) < 48) = true := decide_eq_true c27
                        clear c27
                        replace H := Option.bind_eq_some_iff.mp H
                        obtain ⟨t119, A280, H⟩ := H
                        replace H : (some t119) = some r := H
                        have A28 := Aside0.mk A280
                        clear A280
                        obtain rfl := Option.some.inj H
                        have p25 : 0 ≤ (x9_2 : Int) := of_decide_eq_true (by first | (with_reducible assumption) | assumption)
                        have q25 : x9_2 < ((a1 ++ a2).size : Int) := of_decide_eq_true (by first | (with_reducible assumption) | assumption)
                        have hx25 := bt_at (a1 ++ a2) x9_2
                        replace p25 := eq_true p25
                        replace q25 := eq_true q25
                        go_wp2_with (first | ((with_reducible refine gate_callee (f := 8) rfl ?_); refine goesL_ (some 67) rfl rfl Tryd.func8 (by kernel_rfl) rfl #[] rfl (by (try simp only [List.map_toArray, List.map_cons, List.map_nil]); first | done | rfl | (simp only [List.length_drop, List.length_take]; rfl)) ?_; (with_reducible refine (sprlaw14_first.calls k2  t119 _ A28.out).mono ?_); rintro e w29 ⟨rfl, hb⟩; refine ⟨_, rfl, ?_⟩; have n0_ := Aside0.mk (below_step (by repeat (first | (with_reducible first | exact HB.out | apply below_alloc | apply pw_below_drewN | apply below_drew1) | exact HB.out)) hb); clear HB; have HB := n0_; clear n0_; (try clear hb); (try clear hb2); (try clear hk); (try clear hi)))
                        go_ret
                        exact ⟨by first | rfl | (simp [errW_none, errW_some] <;> rfl) | (simp [*, errW_none, errW_some] <;> rfl), by repeat (first | (with_reducible first | exact HB.out | apply below_alloc | apply pw_below_drewN | apply below_drew1) | exact HB.out)⟩
                      · rw [if_neg c27] at H
                        try (have c27s := c27; simp [go_sem] at c27s)
                        have c27b0 : decide ((bt (a1 ++ a2) x9_2) < 48) = false := decide_eq_false c27
                        clear c27
                        by_cases c30 : (bt (a1 ++ a2) x9_2) > 57
                        · rw [if_pos c30] at H
                          try (have c30s := c30; simp [go_sem] at c30s)
                          have c30b0 : decide (57 < (bt (a1 ++ a2) x9_2)) = true := decide_eq_true c30
                          clear c30
                          replace H := Option.bind_eq_some_iff.mp H
                          obtain ⟨t120, A310, H⟩ := H
                          replace H : (some t120) = some r := H
                          have A31 := Aside0.mk A310
                          clear A310
                          obtain rfl := Option.some.inj H
                          have p25 : 0 ≤ (x9_2 : Int) := of_decide_eq_true (by first | (with_reducible assumption) | assumption)
                          have q25 : x9_2 < ((a1 ++ a2).size : Int) := of_decide_eq_true (by first | (with_reducible assumption) | assumption)
                          have hx25 := bt_at (a1 ++ a2) x9_2
                          replace p25 := eq_true p25
                          replace q25 := eq_true q25
                          go_wp2_with (first | ((with_reducible refine gate_callee (f := 8) rfl ?_); refine goesL_ (some 67) rfl rfl Tryd.func8 (by kernel_rfl) rfl #[] rfl (by (try simp only [List.map_toArray, List.map_cons, List.map_nil]); first | done | rfl | (simp only [List.length_drop, List.length_take]; rfl)) ?_; (with_reducible refine (sprlaw14_first.calls k2  t120 _ A31.out).mono ?_); rintro e w32 ⟨rfl, hb⟩; refine ⟨_, rfl, ?_⟩; have n0_ := Aside0.mk (below_step (by repeat (first | (with_reducible first | exact HB.out | apply below_alloc | apply pw_below_drewN | apply below_drew1) | exact HB.out)) hb); clear HB; have HB := n0_; clear n0_; (try clear hb); (try clear hb2); (try clear hk); (try clear hi)))
                          go_ret
                          exact ⟨by first | rfl | (simp [errW_none, errW_some] <;> rfl) | (simp [*, errW_none, errW_some] <;> rfl), by repeat (first | (with_reducible first | exact HB.out | apply below_alloc | apply pw_below_drewN | apply below_drew1) | exact HB.out)⟩
                        · rw [if_neg c30] at H
                          try (have c30s := c30; simp [go_sem] at c30s)
                          have c30b0 : decide (57 < (bt (a1 ++ a2) x9_2)) = false := decide_eq_false c30
                          clear c30
                          have H' := Aside0.mk H
                          clear H
                          have p25 : 0 ≤ (x9_2 : Int) := of_decide_eq_true (by first | (with_reducible assumption) | assumption)
                          have q25 : x9_2 < ((a1 ++ a2).size : Int) := of_decide_eq_true (by first | (with_reducible assumption) | assumption)
                          have hx25 := bt_at (a1 ++ a2) x9_2
                          replace p25 := eq_true p25
                          replace q25 := eq_true q25
                          go_wp2
                          go_roundg k2
                          case measure => have := HJ6.out; have := HK2.out; omega
                          case rel => exact ⟨(wrap64 (x9_2 + 1)), (by first | rfl | (simp; done) | (simp [*]; done) | (have zz := of_eq_true q25; rw [ByteArray.size_append] at zz; have zy := of_eq_true c22b0; have zx := of_eq_true p25; simp; unfold wrap64; omega)), H', ⟨by have := HJ6.out; have := HK2.out; omega⟩, ⟨by repeat (first | (with_reducible first | exact HB.out | apply below_alloc | apply pw_below_drewN | apply below_drew1) | exact HB.out)⟩⟩
                    · rw [if_neg c26] at H
                      try (have c26s := c26; simp [go_sem] at c26s)
                      have c26b0 : decide ((bt (a1 ++ a2) x9_2) < 97) = false := decide_eq_false c26
                      clear c26
                      by_cases c33 : (bt (a1 ++ a2) x9_2) > 122
                      · rw [if_pos c33] at H
                        try (have c33s := c33; simp [go_sem] at c33s)
                        have c33b0 : decide (122 < (bt (a1 ++ a2) x9_2)) = true := decide_eq_true c33
                        clear c33
                        by_cases c34 : (bt (a1 ++ a2) x9_2) < 48
                        · rw [if_pos c34] at H
                          try (have c34s := c34; simp [go_sem] at c34s)
                          have c34b0 : decide ((bt (a1 ++ a2) x9_2) < 48) = true := decide_eq_true c34
                          clear c34
                          replace H := Option.bind_eq_some_iff.mp H
                          obtain ⟨t121, A350, H⟩ := H
                          replace H : (some t121) = some r := H
                          have A35 := Aside0.mk A350
                          clear A350
                          obtain rfl := Option.some.inj H
                          have p25 : 0 ≤ (x9_2 : Int) := of_decide_eq_true (by first | (with_reducible assumption) | assumption)
                          have q25 : x9_2 < ((a1 ++ a2).size : Int) := of_decide_eq_true (by first | (with_reducible assumption) | assumption)
                          have hx25 := bt_at (a1 ++ a2) x9_2
                          replace p25 := eq_true p25
                          replace q25 := eq_true q25
                          go_wp2_with (first | ((with_reducible refine gate_callee (f := 8) rfl ?_); refine goesL_ (some 67) rfl rfl Tryd.func8 (by kernel_rfl) rfl #[] rfl (by (try simp only [List.map_toArray, List.map_cons, List.map_nil]); first | done | rfl | (simp only [List.length_drop, List.length_take]; rfl)) ?_; (with_reducible refine (sprlaw14_first.calls k2  t121 _ A35.out).mono ?_); rintro e w36 ⟨rfl, hb⟩; refine ⟨_, rfl, ?_⟩; have n0_ := Aside0.mk (below_step (by repeat (first | (with_reducible first | exact HB.out | apply below_alloc | apply pw_below_drewN | apply below_drew1) | exact HB.out)) hb); clear HB; have HB := n0_; clear n0_; (try clear hb); (try clear hb2); (try clear hk); (try clear hi)))
                          go_ret
                          exact ⟨by first | rfl | (simp [errW_none, errW_some] <;> rfl) | (simp [*, errW_none, errW_some] <;> rfl), by repeat (first | (with_reducible first | exact HB.out | apply below_alloc | apply pw_below_drewN | apply below_drew1) | exact HB.out)⟩
                        · rw [if_neg c34] at H
                          try (have c34s := c34; simp [go_sem] at c34s)
                          have c34b0 : decide ((bt (a1 ++ a2) x9_2) < 48) = false := decide_eq_false c34
                          clear c34
                          by_cases c37 : (bt (a1 ++ a2) x9_2) > 57
                          · rw [if_pos c37] at H
                            try (have c37s := c37; simp [go_sem] at c37s)
                            have c37b0 : decide (57 < (bt (a1 ++ a2) x9_2)) = true := decide_eq_true c37
                            clear c37
                            replace H := Option.bind_eq_some_iff.mp H
                            obtain ⟨t122, A380, H⟩ := H
                            replace H : (some t122) = some r := H
                            have A38 := Aside0.mk A380
                            clear A380
                            obtain rfl := Option.some.inj H
                            have p25 : 0 ≤ (x9_2 : Int) := of_decide_eq_true (by first | (with_reducible assumption) | assumption)
                            have q25 : x9_2 < ((a1 ++ a2).size : Int) := of_decide_eq_true (by first | (with_reducible assumption) | assumption)
                            have hx25 := bt_at (a1 ++ a2) x9_2
                            replace p25 := eq_true p25
                            replace q25 := eq_true q25
                            go_wp2_with (first | ((with_reducible refine gate_callee (f := 8) rfl ?_); refine goesL_ (some 67) rfl rfl Tryd.func8 (by kernel_rfl) rfl #[] rfl (by (try simp only [List.map_toArray, List.map_cons, List.map_nil]); first | done | rfl | (simp only [List.length_drop, List.length_take]; rfl)) ?_; (with_reducible refine (sprlaw14_first.calls k2  t122 _ A38.out).mono ?_); rintro e w39 ⟨rfl, hb⟩; refine ⟨_, rfl, ?_⟩; have n0_ := Aside0.mk (below_step (by repeat (first | (with_reducible first | exact HB.out | apply below_alloc | apply pw_below_drewN | apply below_drew1) | exact HB.out)) hb); clear HB; have HB := n0_; clear n0_; (try clear hb); (try clear hb2); (try clear hk); (try clear hi)))
                            go_ret
                            exact ⟨by first | rfl | (simp [errW_none, errW_some] <;> rfl) | (simp [*, errW_none, errW_some] <;> rfl), by repeat (first | (with_reducible first | exact HB.out | apply below_alloc | apply pw_below_drewN | apply below_drew1) | exact HB.out)⟩
                          · rw [if_neg c37] at H
                            try (have c37s := c37; simp [go_sem] at c37s)
                            have c37b0 : decide (57 < (bt (a1 ++ a2) x9_2)) = false := decide_eq_false c37
                            clear c37
                            have H' := Aside0.mk H
                            clear H
                            have p25 : 0 ≤ (x9_2 : Int) := of_decide_eq_true (by first | (with_reducible assumption) | assumption)
                            have q25 : x9_2 < ((a1 ++ a2).size : Int) := of_decide_eq_true (by first | (with_reducible assumption) | assumption)
                            have hx25 := bt_at (a1 ++ a2) x9_2
                            replace p25 := eq_true p25
                            replace q25 := eq_true q25
                            go_wp2
                            go_roundg k2
                            case measure => have := HJ6.out; have := HK2.out; omega
                            case rel => exact ⟨(wrap64 (x9_2 + 1)), (by first | rfl | (simp; done) | (simp [*]; done) | (have zz := of_eq_true q25; rw [ByteArray.size_append] at zz; have zy := of_eq_true c22b0; have zx := of_eq_true p25; simp; unfold wrap64; omega)), H', ⟨by have := HJ6.out; have := HK2.out; omega⟩, ⟨by repeat (first | (with_reducible first | exact HB.out | apply below_alloc | apply pw_below_drewN | apply below_drew1) | exact HB.out)⟩⟩
                      · rw [if_neg c33] at H
                        try (have c33s := c33; simp [go_sem] at c33s)
                        have c33b0 : decide (122 < (bt (a1 ++ a2) x9_2)) = false := decide_eq_false c33
                        clear c33
                        have H' := Aside0.mk H
                        clear H
                        have p25 : 0 ≤ (x9_2 : Int) := of_decide_eq_true (by first | (with_reducible assumption) | assumption)
                        have q25 : x9_2 < ((a1 ++ a2).size : Int) := of_decide_eq_true (by first | (with_reducible assumption) | assumption)
                        have hx25 := bt_at (a1 ++ a2) x9_2
                        replace p25 := eq_true p25
                        replace q25 := eq_true q25
                        go_wp2
                        go_roundg k2
                        case measure => have := HJ6.out; have := HK2.out; omega
                        case rel => exact ⟨(wrap64 (x9_2 + 1)), (by first | rfl | (simp; done) | (simp [*]; done) | (have zz := of_eq_true q25; rw [ByteArray.size_append] at zz; have zy := of_eq_true c22b0; have zx := of_eq_true p25; simp; unfold wrap64; omega)), H', ⟨by have := HJ6.out; have := HK2.out; omega⟩, ⟨by repeat (first | (with_reducible first | exact HB.out | apply below_alloc | apply pw_below_drewN | apply below_drew1) | exact HB.out)⟩⟩
                  · rw [if_neg c24] at H
                    exact absurd H (by simp)
                · rw [if_neg c23] at H
                  try (have c23s := c23; simp [go_sem] at c23s)
                  have c23b0 : decide (x9_2 < ((a1 ++ a2).size : Int)) = false := decide_eq_false c23
                  clear c23
                  obtain ⟨y123, hy123⟩ : ∃ y_ : List ByteArray, y_ = (([] : List ByteArray)) := ⟨_, rfl⟩
                  replace H : (if 0 ≤ a3 then (if a3 ≤ (l0.length : Int) then (if y123.length + (l0.take (a3 : Int).toNat).length < 8796093022208 then ((some (y123 ++ (l0.take (a3 : Int).toNat) : List ByteArray)).bind fun y127 => (if 2 + a1.size ≤ 9223372036854775807 then (if ((⟨#[120, 45]⟩ : ByteArray) ++ a1).size + 1 ≤ 9223372036854775807 then (if (((⟨#[120, 45]⟩ : ByteArray) ++ a1) ++ (⟨#[61]⟩ : ByteArray)).size + a2.size ≤ 9223372036854775807 then ((some (([(((⟨#[120, 45]⟩ : ByteArray) ++ a1) ++ (⟨#[61]⟩ : ByteArray)) ++ a2] : List ByteArray) : List ByteArray)).bind fun y130 => (if y127.length + y130.length < 8796093022208 then ((some (y127 ++ y130 : List ByteArray)).bind fun y133 => (if y133.length + (l0.drop (a3 : Int).toNat).length < 8796093022208 then ((cc_Parse.f k2 (y133 ++ (l0.drop (a3 : Int).toNat))).bind fun bt140 => ((cc_Parse.f k2 l0).bind fun bt161 => (if (!(bt140.1 == bt161.1) || (!(bt140.2.1 == bt161.2.1) || (!(bt140.2.2.1 == bt161.2.2.1) || (!(bt140.2.2.2.1 == bt161.2.2.2.1) || (!(bt140.2.2.2.2.1 == bt161.2.2.2.2.1) || (!(bt140.2.2.2.2.2.1 == bt161.2.2.2.2.2.1) || (!(bt140.2.2.2.2.2.2.1 == bt161.2.2.2.2.2.2.1) || (!(bt140.2.2.2.2.2.2.2.1 == bt161.2.2.2.2.2.2.2.1) || (!(bt140.2.2.2.2.2.2.2.2.1 == bt161.2.2.2.2.2.2.2.2.1) || (!(bt140.2.2.2.2.2.2.2.2.2.1 == bt161.2.2.2.2.2.2.2.2.2.1) || (!(bt140.2.2.2.2.2.2.2.2.2.2.1 == bt161.2.2.2.2.2.2.2.2.2.2.1) || ((!(bt140.2.2.2.2.2.2.2.2.2.2.2.1 == bt161.2.2.2.2.2.2.2.2.2.2.2.1) || (!(bt140.2.2.2.2.2.2.2.2.2.2.2.2.1 == bt161.2.2.2.2.2.2.2.2.2.2.2.2.1))) || ((!(bt140.2.2.2.2.2.2.2.2.2.2.2.2.2.1 == bt161.2.2.2.2.2.2.2.2.2.2.2.2.2.1) || (!(bt140.2.2.2.2.2.2.2.2.2.2.2.2.2.2.1 == bt161.2.2.2.2.2.2.2.2.2.2.2.2.2.2.1))) || ((!(bt140.2.2.2.2.2.2.2.2.2.2.2.2.2.2.2.1 == bt161.2.2.2.2.2.2.2.2.2.2.2.2.2.2.2.1) || (!(bt140.2.2.2.2.2.2.2.2.2.2.2.2.2.2.2.2.1 == bt161.2.2.2.2.2.2.2.2.2.2.2.2.2.2.2.2.1))) || ((!(bt140.2.2.2.2.2.2.2.2.2.2.2.2.2.2.2.2.2.1 == bt161.2.2.2.2.2.2.2.2.2.2.2.2.2.2.2.2.2.1) || (!(bt140.2.2.2.2.2.2.2.2.2.2.2.2.2.2.2.2.2.2.1 == bt161.2.2.2.2.2.2.2.2.2.2.2.2.2.2.2.2.2.2.1))) || ((!(bt140.2.2.2.2.2.2.2.2.2.2.2.2.2.2.2.2.2.2.2.1 == bt161.2.2.2.2.2.2.2.2.2.2.2.2.2.2.2.2.2.2.2.1) || (!(bt140.2.2.2.2.2.2.2.2.2.2.2.2.2.2.2.2.2.2.2.2 == bt161.2.2.2.2.2.2.2.2.2.2.2.2.2.2.2.2.2.2.2.2))))))))))))))))))) = true then (some false) else ((sprref_CopyTexts.f l0).bind fun t182 => ((some (([(⟨#[78, 79, 45, 83, 116, 111, 114, 101, 44, 32, 77, 97, 120, 45, 65, 71, 69, 61, 55, 44, 32, 77, 73, 78, 45, 102, 114, 101, 115, 104, 61, 51]⟩ : ByteArray)] : List ByteArray) : List ByteArray)).bind fun y185 => (if t182.length + y185.length < 8796093022208 then ((some (t182 ++ y185 : List ByteArray)).bind fun y188 => ((sprref_CopyTexts.f l0).bind fun t191 => ((some (([(⟨#[110, 111, 45, 115, 116, 111, 114, 101, 44, 32, 109, 97, 120, 45, 97, 103, 101, 61, 55, 44, 32, 109, 105, 110, 45, 102, 114, 101, 115, 104, 61, 51]⟩ : ByteArray)] : List ByteArray) : List ByteArray)).bind fun y194 => (if t191.length + y194.length < 8796093022208 then ((sprlaw14_first.f k2).bind fun t200 => (if t200 = true then ((cc_Parse.f k2 y188).bind fun bt201 => ((cc_Parse.f k2 (t191 ++ y194)).bind fun bt222 => (if (bt201.1 == bt222.1 && (bt201.2.1 == bt222.2.1 && (bt201.2.2.1 == bt222.2.2.1 && (bt201.2.2.2.1 == bt222.2.2.2.1 && (bt201.2.2.2.2.1 == bt222.2.2.2.2.1 && (bt201.2.2.2.2.2.1 == bt222.2.2.2.2.2.1 && (bt201.2.2.2.2.2.2.1 == bt222.2.2.2.2.2.2.1 && (bt201.2.2.2.2.2.2.2.1 == bt222.2.2.2.2.2.2.2.1 && (bt201.2.2.2.2.2.2.2.2.1 == bt222.2.2.2.2.2.2.2.2.1 && (bt201.2.2.2.2.2.2.2.2.2.1 == bt222.2.2.2.2.2.2.2.2.2.1 && (bt201.2.2.2.2.2.2.2.2.2.2.1 == bt222.2.2.2.2.2.2.2.2.2.2.1 && ((bt201.2.2.2.2.2.2.2.2.2.2.2.1 == bt222.2.2.2.2.2.2.2.2.2.2.2.1 && (bt201.2.2.2.2.2.2.2.2.2.2.2.2.1 == bt222.2.2.2.2.2.2.2.2.2.2.2.2.1)) && ((bt201.2.2.2.2.2.2.2.2.2.2.2.2.2.1 == bt222.2.2.2.2.2.2.2.2.2.2.2.2.2.1 && (bt201.2.2.2.2.2.2.2.2.2.2.2.2.2.2.1 == bt222.2.2.2.2.2.2.2.2.2.2.2.2.2.2.1)) && ((bt201.2.2.2.2.2.2.2.2.2.2.2.2.2.2.2.1 == bt222.2.2.2.2.2.2.2.2.2.2.2.2.2.2.2.1 && (bt201.2.2.2.2.2.2.2.2.2.2.2.2.2.2.2.2.1 == bt222.2.2.2.2.2.2.2.2.2.2.2.2.2.2.2.2.1)) && ((bt201.2.2.2.2.2.2.2.2.2.2.2.2.2.2.2.2.2.1 == bt222.2.2.2.2.2.2.2.2.2.2.2.2.2.2.2.2.2.1 && (bt201.2.2.2.2.2.2.2.2.2.2.2.2.2.2.2.2.2.2.1 == bt222.2.2.2.2.2.2.2.2.2.2.2.2.2.2.2.2.2.2.1)) && ((bt201.2.2.2.2.2.2.2.2.2.2.2.2.2.2.2.2.2.2.2.1 == bt222.2.2.2.2.2.2.2.2.2.2.2.2.2.2.2.2.2.2.2.1 && (bt201.2.2.2.2.2.2.2.2.2.2.2.2.2.2.2.2.2.2.2.2 == bt222.2.2.2.2.2.2.2.2.2.2.2.2.2.2.2.2.2.2.2.2)))))))))))))))))) = true then ((cc_Parse.f k2 y188).bind fun bt243 => (some bt243.1)) else (some false)))) else (some false))) else (none))))) else (none))))))) else (none))) else (none))) else (none)) else (none)) else (none))) else (none)) else (none)) else (none)) = some r := by first | (rw [hy123]; with_reducible exact H) | (have H2_ := (Option.bind_some _ _).symm.trans H; rw [hy123]; with_reducible exact H2_) | (have H2_ := (Option.bind_some _ _).symm.trans H; with_reducible exact H2_) | with_reducible exact H | (rw [hy123]; exact H) | exact H
                  have Ny123 := Aside0.mk hy123
                  clear hy123
                  by_cases c40 : 0 ≤ a3
                  · rw [if_pos c40] at H
                    have c40b0 := eq_true c40
                    have c40b1 : decide (0 ≤ a3) = true := decide_eq_true c40
                    clear c40
                    by_cases c41 : a3 ≤ (l0.length : Int)
                    · rw [if_pos c41] at H
                      have c41b0 := eq_true c41
                      have c41b1 : decide (a3 ≤ (l0.length : Int)) = true := decide_eq_true c41
                      clear c41
                      by_cases c42 : y123.length + (l0.take (a3 : Int).toNat).length < 8796093022208
                      · rw [if_pos c42] at H
                        have LMc42 := Aside0.mk c42
                        clear c42
                        obtain ⟨y127, hy127⟩ : ∃ y_ : List ByteArray, y_ = (y123 ++ (l0.take (a3 : Int).toNat)) := ⟨_, rfl⟩
                        replace H : (if 2 + a1.size ≤ 9223372036854775807 then (if ((⟨#[120, 45]⟩ : ByteArray) ++ a1).size + 1 ≤ 9223372036854775807 then (if (((⟨#[120, 45]⟩ : ByteArray) ++ a1) ++ (⟨#[61]⟩ : ByteArray)).size + a2.size ≤ 9223372036854775807 then ((some (([(((⟨#[120, 45]⟩ : ByteArray) ++ a1) ++ (⟨#[61]⟩ : ByteArray)) ++ a2] : List ByteArray) : List ByteArray)).bind fun y130 => (if y127.length + y130.length < 8796093022208 then ((some (y127 ++ y130 : List ByteArray)).bind fun y133 => (if y133.length + (l0.drop (a3 : Int).toNat).length < 8796093022208 then ((cc_Parse.f k2 (y133 ++ (l0.drop (a3 : Int).toNat))).bind fun bt140 => ((cc_Parse.f k2 l0).bind fun bt161 => (if (!(bt140.1 == bt161.1) || (!(bt140.2.1 == bt161.2.1) || (!(bt140.2.2.1 == bt161.2.2.1) || (!(bt140.2.2.2.1 == bt161.2.2.2.1) || (!(bt140.2.2.2.2.1 == bt161.2.2.2.2.1) || (!(bt140.2.2.2.2.2.1 == bt161.2.2.2.2.2.1) || (!(bt140.2.2.2.2.2.2.1 == bt161.2.2.2.2.2.2.1) || (!(bt140.2.2.2.2.2.2.2.1 == bt161.2.2.2.2.2.2.2.1) || (!(bt140.2.2.2.2.2.2.2.2.1 == bt161.2.2.2.2.2.2.2.2.1) || (!(bt140.2.2.2.2.2.2.2.2.2.1 == bt161.2.2.2.2.2.2.2.2.2.1) || (!(bt140.2.2.2.2.2.2.2.2.2.2.1 == bt161.2.2.2.2.2.2.2.2.2.2.1) || ((!(bt140.2.2.2.2.2.2.2.2.2.2.2.1 == bt161.2.2.2.2.2.2.2.2.2.2.2.1) || (!(bt140.2.2.2.2.2.2.2.2.2.2.2.2.1 == bt161.2.2.2.2.2.2.2.2.2.2.2.2.1))) || ((!(bt140.2.2.2.2.2.2.2.2.2.2.2.2.2.1 == bt161.2.2.2.2.2.2.2.2.2.2.2.2.2.1) || (!(bt140.2.2.2.2.2.2.2.2.2.2.2.2.2.2.1 == bt161.2.2.2.2.2.2.2.2.2.2.2.2.2.2.1))) || ((!(bt140.2.2.2.2.2.2.2.2.2.2.2.2.2.2.2.1 == bt161.2.2.2.2.2.2.2.2.2.2.2.2.2.2.2.1) || (!(bt140.2.2.2.2.2.2.2.2.2.2.2.2.2.2.2.2.1 == bt161.2.2.2.2.2.2.2.2.2.2.2.2.2.2.2.2.1))) || ((!(bt140.2.2.2.2.2.2.2.2.2.2.2.2.2.2.2.2.2.1 == bt161.2.2.2.2.2.2.2.2.2.2.2.2.2.2.2.2.2.1) || (!(bt140.2.2.2.2.2.2.2.2.2.2.2.2.2.2.2.2.2.2.1 == bt161.2.2.2.2.2.2.2.2.2.2.2.2.2.2.2.2.2.2.1))) || ((!(bt140.2.2.2.2.2.2.2.2.2.2.2.2.2.2.2.2.2.2.2.1 == bt161.2.2.2.2.2.2.2.2.2.2.2.2.2.2.2.2.2.2.2.1) || (!(bt140.2.2.2.2.2.2.2.2.2.2.2.2.2.2.2.2.2.2.2.2 == bt161.2.2.2.2.2.2.2.2.2.2.2.2.2.2.2.2.2.2.2.2))))))))))))))))))) = true then (some false) else ((sprref_CopyTexts.f l0).bind fun t182 => ((some (([(⟨#[78, 79, 45, 83, 116, 111, 114, 101, 44, 32, 77, 97, 120, 45, 65, 71, 69, 61, 55, 44, 32, 77, 73, 78, 45, 102, 114, 101, 115, 104, 61, 51]⟩ : ByteArray)] : List ByteArray) : List ByteArray)).bind fun y185 => (if t182.length + y185.length < 8796093022208 then ((some (t182 ++ y185 : List ByteArray)).bind fun y188 => ((sprref_CopyTexts.f l0).bind fun t191 => ((some (([(⟨#[110, 111, 45, 115, 116, 111, 114, 101, 44, 32, 109, 97, 120, 45, 97, 103, 101, 61, 55, 44, 32, 109, 105, 110, 45, 102, 114, 101, 115, 104, 61, 51]⟩ : ByteArray)] : List ByteArray) : List ByteArray)).bind fun y194 => (if t191.length + y194.length < 8796093022208 then ((sprlaw14_first.f k2).bind fun t200 => (if t200 = true then ((cc_Parse.f k2 y188).bind fun bt201 => ((cc_Parse.f k2 (t191 ++ y194)).bind fun bt222 => (if (bt201.1 == bt222.1 && (bt201.2.1 == bt222.2.1 && (bt201.2.2.1 == bt222.2.2.1 && (bt201.2.2.2.1 == bt222.2.2.2.1 && (bt201.2.2.2.2.1 == bt222.2.2.2.2.1 && (bt201.2.2.2.2.2.1 == bt222.2.2.2.2.2.1 && (bt201.2.2.2.2.2.2.1 == bt222.2.2.2.2.2.2.1 && (bt201.2.2.2.2.2.2.2.1 == bt222.2.2.2.2.2.2.2.1 && (bt201.2.2.2.2.2.2.2.2.1 == bt222.2.2.2.2.2.2.2.2.1 && (bt201.2.2.2.2.2.2.2.2.2.1 == bt222.2.2.2.2.2.2.2.2.2.1 && (bt201.2.2.2.2.2.2.2.2.2.2.1 == bt222.2.2.2.2.2.2.2.2.2.2.1 && ((bt201.2.2.2.2.2.2.2.2.2.2.2.1 == bt222.2.2.2.2.2.2.2.2.2.2.2.1 && (bt201.2.2.2.2.2.2.2.2.2.2.2.2.1 == bt222.2.2.2.2.2.2.2.2.2.2.2.2.1)) && ((bt201.2.2.2.2.2.2.2.2.2.2.2.2.2.1 == bt222.2.2.2.2.2.2.2.2.2.2.2.2.2.1 && (bt201.2.2.2.2.2.2.2.2.2.2.2.2.2.2.1 == bt222.2.2.2.2.2.2.2.2.2.2.2.2.2.2.1)) && ((bt201.2.2.2.2.2.2.2.2.2.2.2.2.2.2.2.1 == bt222.2.2.2.2.2.2.2.2.2.2.2.2.2.2.2.1 && (bt201.2.2.2.2.2.2.2.2.2.2.2.2.2.2.2.2.1 == bt222.2.2.2.2.2.2.2.2.2.2.2.2.2.2.2.2.1)) && ((bt201.2.2.2.2.2.2.2.2.2.2.2.2.2.2.2.2.2.1 == bt222.2.2.2.2.2.2.2.2.2.2.2.2.2.2.2.2.2.1 && (bt201.2.2.2.2.2.2.2.2.2.2.2.2.2.2.2.2.2.2.1 == bt222.2.2.2.2.2.2.2.2.2.2.2.2.2.2.2.2.2.2.1)) && ((bt201.2.2.2.2.2.2.2.2.2.2.2.2.2.2.2.2.2.2.2.1 == bt222.2.2.2.2.2.2.2.2.2.2.2.2.2.2.2.2.2.2.2.1 && (bt201.2.2.2.2.2.2.2.2.2.2.2.2.2.2.2.2.2.2.2.2 == bt222.2.2.2.2.2.2.2.2.2.2.2.2.2.2.2.2.2.2.2.2)))))))))))))))))) = true then ((cc_Parse.f k2 y188).bind fun bt243 => (some bt243.1)) else (some false)))) else (some false))) else (none))))) else (none))))))) else (none))) else (none))) else (none)) else (none)) else (none)) = some r := by first | (rw [hy127]; with_reducible exact H) | (have H2_ := (Option.bind_some _ _).symm.trans H; rw [hy127]; with_reducible exact H2_) | (have H2_ := (Option.bind_some _ _).symm.trans H; with_reducible exact H2_) | with_reducible exact H | (rw [hy127]; exact H) | exact H
                        have Ny127 := Aside0.mk hy127
                        clear hy127
                        by_cases c43 : 2 + a1.size ≤ 9223372036854775807
                        · rw [if_pos c43] at H
                          have c43b0 := eq_true c43
                          have c43b1 : decide (2 + a1.size ≤ 9223372036854775807) = true := decide_eq_true c43
                          try have c43b2 : (9223372036854775807 < 2 + a1.size) = False := eq_false (Nat.not_lt.2 c43)
                          by_cases c44 : ((⟨#[120, 45]⟩ : ByteArray) ++ a1).size + 1 ≤ 9223372036854775807
                          · rw [if_pos c44] at H
                            have c44b0 := eq_true c44
                            have c44b1 : decide (((⟨#[120, 45]⟩ : ByteArray) ++ a1).size + 1 ≤ 9223372036854775807) = true := decide_eq_true c44
                            try have c44b2 : (9223372036854775807 < ((⟨#[120, 45]⟩ : ByteArray) ++ a1).size + 1) = False := eq_false (Nat.not_lt.2 c44)
                            (try (have c44y : (9223372036854775807 < 2 + a1.size + 1) = False := eq_false (by have zz := c44; simp only [ByteArray.size_append] at zz; have e0 : (⟨#[120, 45]⟩ : ByteArray).size = 2 := rfl; omega)))
                            (try (have c44s := c44; simp [go_sem] at c44s)); (try (have c44z := eq_false (Nat.not_lt.2 c44s)))
                            by_cases c45 : (((⟨#[120, 45]⟩ : ByteArray) ++ a1) ++ (⟨#[61]⟩ : ByteArray)).size + a2.size ≤ 9223372036854775807
                            · rw [if_pos c45] at H
                              have c45b0 := eq_true c45
                              have c45b1 : decide ((((⟨#[120, 45]⟩ : ByteArray) ++ a1) ++ (⟨#[61]⟩ : ByteArray)).size + a2.size ≤ 9223372036854775807) = true := decide_eq_true c45
                              try have c45b2 : (9223372036854775807 < (((⟨#[120, 45]⟩ : ByteArray) ++ a1) ++ (⟨#[61]⟩ : ByteArray)).size + a2.size) = False := eq_false (Nat.not_lt.2 c45)
                              (try (have c45y : (9223372036854775807 < 2 + a1.size + 1 + a2.size) = False := eq_false (by have zz := c45; simp only [ByteArray.size_append] at zz; have e0 : (⟨#[120, 45]⟩ : ByteArray).size = 2 := rfl; have e1 : (⟨#[61]⟩ : ByteArray).size = 1 := rfl; omega)))
                              (try (have c45s := c45; simp [go_sem] at c45s)); (try (have c45z := eq_false (Nat.not_lt.2 c45s)))
                              obtain ⟨y130, hy130⟩ : ∃ y_ : List ByteArray, y_ = (([(((⟨#[120, 45]⟩ : ByteArray) ++ a1) ++ (⟨#[61]⟩ : ByteArray)) ++ a2] : List ByteArray)) := ⟨_, rfl⟩
                              replace H : (if y127.length + y130.length < 8796093022208 then ((some (y127 ++ y130 : List ByteArray)).bind fun y133 => (if y133.length + (l0.drop (a3 : Int).toNat).length < 8796093022208 then ((cc_Parse.f k2 (y133 ++ (l0.drop (a3 : Int).toNat))).bind fun bt140 => ((cc_Parse.f k2 l0).bind fun bt161 => (if (!(bt140.1 == bt161.1) || (!(bt140.2.1 == bt161.2.1) || (!(bt140.2.2.1 == bt161.2.2.1) || (!(bt140.2.2.2.1 == bt161.2.2.2.1) || (!(bt140.2.2.2.2.1 == bt161.2.2.2.2.1) || (!(bt140.2.2.2.2.2.1 == bt161.2.2.2.2.2.1) || (!(bt140.2.2.2.2.2.2.1 == bt161.2.2.2.2.2.2.1) || (!(bt140.2.2.2.2.2.2.2.1 == bt161.2.2.2.2.2.2.2.1) || (!(bt140.2.2.2.2.2.2.2.2.1 == bt161.2.2.2.2.2.2.2.2.1) || (!(bt140.2.2.2.2.2.2.2.2.2.1 == bt161.2.2.2.2.2.2.2.2.2.1) || (!(bt140.2.2.2.2.2.2.2.2.2.2.1 == bt161.2.2.2.2.2.2.2.2.2.2.1) || ((!(bt140.2.2.2.2.2.2.2.2.2.2.2.1 == bt161.2.2.2.2.2.2.2.2.2.2.2.1) || (!(bt140.2.2.2.2.2.2.2.2.2.2.2.2.1 == bt161.2.2.2.2.2.2.2.2.2.2.2.2.1))) || ((!(bt140.2.2.2.2.2.2.2.2.2.2.2.2.2.1 == bt161.2.2.2.2.2.2.2.2.2.2.2.2.2.1) || (!(bt140.2.2.2.2.2.2.2.2.2.2.2.2.2.2.1 == bt161.2.2.2.2.2.2.2.2.2.2.2.2.2.2.1))) || ((!(bt140.2.2.2.2.2.2.2.2.2.2.2.2.2.2.2.1 == bt161.2.2.2.2.2.2.2.2.2.2.2.2.2.2.2.1) || (!(bt140.2.2.2.2.2.2.2.2.2.2.2.2.2.2.2.2.1 == bt161.2.2.2.2.2.2.2.2.2.2.2.2.2.2.2.2.1))) || ((!(bt140.2.2.2.2.2.2.2.2.2.2.2.2.2.2.2.2.2.1 == bt161.2.2.2.2.2.2.2.2.2.2.2.2.2.2.2.2.2.1) || (!(bt140.2.2.2.2.2.2.2.2.2.2.2.2.2.2.2.2.2.2.1 == bt161.2.2.2.2.2.2.2.2.2.2.2.2.2.2.2.2.2.2.1))) || ((!(bt140.2.2.2.2.2.2.2.2.2.2.2.2.2.2.2.2.2.2.2.1 == bt161.2.2.2.2.2.2.2.2.2.2.2.2.2.2.2.2.2.2.2.1) || (!(bt140.2.2.2.2.2.2.2.2.2.2.2.2.2.2.2.2.2.2.2.2 == bt161.2.2.2.2.2.2.2.2.2.2.2.2.2.2.2.2.2.2.2.2))))))))))))))))))) = true then (some false) else ((sprref_CopyTexts.f l0).bind fun t182 => ((some (([(⟨#[78, 79, 45, 83, 116, 111, 114, 101, 44, 32, 77, 97, 120, 45, 65, 71, 69, 61, 55, 44, 32, 77, 73, 78, 45, 102, 114, 101, 115, 104, 61, 51]⟩ : ByteArray)] : List ByteArray) : List ByteArray)).bind fun y185 => (if t182.length + y185.length < 8796093022208 then ((some (t182 ++ y185 : List ByteArray)).bind fun y188 => ((sprref_CopyTexts.f l0).bind fun t191 => ((some (([(⟨#[110, 111, 45, 115, 116, 111, 114, 101, 44, 32, 109, 97, 120, 45, 97, 103, 101, 61, 55, 44, 32, 109, 105, 110, 45, 102, 114, 101, 115, 104, 61, 51]⟩ : ByteArray)] : List ByteArray) : List ByteArray)).bind fun y194 => (if t191.length + y194.length < 8796093022208 then ((sprlaw14_first.f k2).bind fun t200 => (if t200 = true then ((cc_Parse.f k2 y188).bind fun bt201 => ((cc_Parse.f k2 (t191 ++ y194)).bind fun bt222 => (if (bt201.1 == bt222.1 && (bt201.2.1 == bt222.2.1 && (bt201.2.2.1 == bt222.2.2.1 && (bt201.2.2.2.1 == bt222.2.2.2.1 && (bt201.2.2.2.2.1 == bt222.2.2.2.2.1 && (bt201.2.2.2.2.2.1 == bt222.2.2.2.2.2.1 && (bt201.2.2.2.2.2.2.1 == bt222.2.2.2.2.2.2.1 && (bt201.2.2.2.2.2.2.2.1 == bt222.2.2.2.2.2.2.2.1 && (bt201.2.2.2.2.2.2.2.2.1 == bt222.2.2.2.2.2.2.2.2.1 && (bt201.2.2.2.2.2.2.2.2.2.1 == bt222.2.2.2.2.2.2.2.2.2.1 && (bt201.2.2.2.2.2.2.2.2.2.2.1 == bt222.2.2.2.2.2.2.2.2.2.2.1 && ((bt201.2.2.2.2.2.2.2.2.2.2.2.1 == bt222.2.2.2.2.2.2.2.2.2.2.2.1 && (bt201.2.2.2.2.2.2.2.2.2.2.2.2.1 == bt222.2.2.2.2.2.2.2.2.2.2.2.2.1)) && ((bt201.2.2.2.2.2.2.2.2.2.2.2.2.2.1 == bt222.2.2.2.2.2.2.2.2.2.2.2.2.2.1 && (bt201.2.2.2.2.2.2.2.2.2.2.2.2.2.2.1 == bt222.2.2.2.2.2.2.2.2.2.2.2.2.2.2.1)) && ((bt201.2.2.2.2.2.2.2.2.2.2.2.2.2.2.2.1 == bt222.2.2.2.2.2.2.2.2.2.2.2.2.2.2.2.1 && (bt201.2.2.2.2.2.2.2.2.2.2.2.2.2.2.2.2.1 == bt222.2.2.2.2.2.2.2.2.2.2.2.2.2.2.2.2.1)) && ((bt201.2.2.2.2.2.2.2.2.2.2.2.2.2.2.2.2.2.1 == bt222.2.2.2.2.2.2.2.2.2.2.2.2.2.2.2.2.2.1 && (bt201.2.2.2.2.2.2.2.2.2.2.2.2.2.2.2.2.2.2.1 == bt222.2.2.2.2.2.2.2.2.2.2.2.2.2.2.2.2.2.2.1)) && ((bt201.2.2.2.2.2.2.2.2.2.2.2.2.2.2.2.2.2.2.2.1 == bt222.2.2.2.2.2.2.2.2.2.2.2.2.2.2.2.2.2.2.2.1 && (bt201.2.2.2.2.2.2.2.2.2.2.2.2.2.2.2.2.2.2.2.2 == bt222.2.2.2.2.2.2.2.2.2.2.2.2.2.2.2.2.2.2.2.2)))))))))))))))))) = true then ((cc_Parse.f k2 y188).bind fun bt243 => (some bt243.1)) else (some false)))) else (some false))) else (none))))) else (none))))))) else (none))) else (none)) = some r := by first | (rw [hy130]; with_reducible exact H) | (have H2_ := (Option.bind_some _ _).symm.trans H; rw [hy130]; with_reducible exact H2_) | (have H2_ := (Option.bind_some _ _).symm.trans H; with_reducible exact H2_) | with_reducible exact H | (rw [hy130]; exact H) | exact H
                              have Ny130 := Aside0.mk hy130
                              clear hy130
                              by_cases c46 : y127.length + y130.length < 8796093022208
                              · rw [if_pos c46] at H
                                have LMc46 := Aside0.mk c46
                                clear c46
                                obtain ⟨y133, hy133⟩ : ∃ y_ : List ByteArray, y_ = (y127 ++ y130) := ⟨_, rfl⟩
                                replace H : (if y133.length + (l0.drop (a3 : Int).toNat).length < 8796093022208 then ((cc_Parse.f k2 (y133 ++ (l0.drop (a3 : Int).toNat))).bind fun bt140 => ((cc_Parse.f k2 l0).bind fun bt161 => (if (!(bt140.1 == bt161.1) || (!(bt140.2.1 == bt161.2.1) || (!(bt140.2.2.1 == bt161.2.2.1) || (!(bt140.2.2.2.1 == bt161.2.2.2.1) || (!(bt140.2.2.2.2.1 == bt161.2.2.2.2.1) || (!(bt140.2.2.2.2.2.1 == bt161.2.2.2.2.2.1) || (!(bt140.2.2.2.2.2.2.1 == bt161.2.2.2.2.2.2.1) || (!(bt140.2.2.2.2.2.2.2.1 == bt161.2.2.2.2.2.2.2.1) || (!(bt140.2.2.2.2.2.2.2.2.1 == bt161.2.2.2.2.2.2.2.2.1) || (!(bt140.2.2.2.2.2.2.2.2.2.1 == bt161.2.2.2.2.2.2.2.2.2.1) || (!(bt140.2.2.2.2.2.2.2.2.2.2.1 == bt161.2.2.2.2.2.2.2.2.2.2.1) || ((!(bt140.2.2.2.2.2.2.2.2.2.2.2.1 == bt161.2.2.2.2.2.2.2.2.2.2.2.1) || (!(bt140.2.2.2.2.2.2.2.2.2.2.2.2.1 == bt161.2.2.2.2.2.2.2.2.2.2.2.2.1))) || ((!(bt140.2.2.2.2.2.2.2.2.2.2.2.2.2.1 == bt161.2.2.2.2.2.2.2.2.2.2.2.2.2.1) || (!(bt140.2.2.2.2.2.2.2.2.2.2.2.2.2.2.1 == bt161.2.2.2.2.2.2.2.2.2.2.2.2.2.2.1))) || ((!(bt140.2.2.2.2.2.2.2.2.2.2.2.2.2.2.2.1 == bt161.2.2.2.2.2.2.2.2.2.2.2.2.2.2.2.1) || (!(bt140.2.2.2.2.2.2.2.2.2.2.2.2.2.2.2.2.1 == bt161.2.2.2.2.2.2.2.2.2.2.2.2.2.2.2.2.1))) || ((!(bt140.2.2.2.2.2.2.2.2.2.2.2.2.2.2.2.2.2.1 == bt161.2.2.2.2.2.2.2.2.2.2.2.2.2.2.2.2.2.1) || (!(bt140.2.2.2.2.2.2.2.2.2.2.2.2.2.2.2.2.2.2.1 == bt161.2.2.2.2.2.2.2.2.2.2.2.2.2.2.2.2.2.2.1))) || ((!(bt140.2.2.2.2.2.2.2.2.2.2.2.2.2.2.2.2.2.2.2.1 == bt161.2.2.2.2.2.2.2.2.2.2.2.2.2.2.2.2.2.2.2.1) || (!(bt140.2.2.2.2.2.2.2.2.2.2.2.2.2.2.2.2.2.2.2.2 == bt161.2.2.2.2.2.2.2.2.2.2.2.2.2.2.2.2.2.2.2.2))))))))))))))))))) = true then (some false) else ((sprref_CopyTexts.f l0).bind fun t182 => ((some (([(⟨#[78, 79, 45, 83, 116, 111, 114, 101, 44, 32, 77, 97, 120, 45, 65, 71, 69, 61, 55, 44, 32, 77, 73, 78, 45, 102, 114, 101, 115, 104, 61, 51]⟩ : ByteArray)] : List ByteArray) : List ByteArray)).bind fun y185 => (if t182.length + y185.length < 8796093022208 then ((some (t182 ++ y185 : List ByteArray)).bind fun y188 => ((sprref_CopyTexts.f l0).bind fun t191 => ((some (([(⟨#[110, 111, 45, 115, 116, 111, 114, 101, 44, 32, 109, 97, 120, 45, 97, 103, 101, 61, 55, 44, 32, 109, 105, 110, 45, 102, 114, 101, 115, 104, 61, 51]⟩ : ByteArray)] : List ByteArray) : List ByteArray)).bind fun y194 => (if t191.length + y194.length < 8796093022208 then ((sprlaw14_first.f k2).bind fun t200 => (if t200 = true then ((cc_Parse.f k2 y188).bind fun bt201 => ((cc_Parse.f k2 (t191 ++ y194)).bind fun bt222 => (if (bt201.1 == bt222.1 && (bt201.2.1 == bt222.2.1 && (bt201.2.2.1 == bt222.2.2.1 && (bt201.2.2.2.1 == bt222.2.2.2.1 && (bt201.2.2.2.2.1 == bt222.2.2.2.2.1 && (bt201.2.2.2.2.2.1 == bt222.2.2.2.2.2.1 && (bt201.2.2.2.2.2.2.1 == bt222.2.2.2.2.2.2.1 && (bt201.2.2.2.2.2.2.2.1 == bt222.2.2.2.2.2.2.2.1 && (bt201.2.2.2.2.2.2.2.2.1 == bt222.2.2.2.2.2.2.2.2.1 && (bt201.2.2.2.2.2.2.2.2.2.1 == bt222.2.2.2.2.2.2.2.2.2.1 && (bt201.2.2.2.2.2.2.2.2.2.2.1 == bt222.2.2.2.2.2.2.2.2.2.2.1 && ((bt201.2.2.2.2.2.2.2.2.2.2.2.1 == bt222.2.2.2.2.2.2.2.2.2.2.2.1 && (bt201.2.2.2.2.2.2.2.2.2.2.2.2.1 == bt222.2.2.2.2.2.2.2.2.2.2.2.2.1)) && ((bt201.2.2.2.2.2.2.2.2.2.2.2.2.2.1 == bt222.2.2.2.2.2.2.2.2.2.2.2.2.2.1 && (bt201.2.2.2.2.2.2.2.2.2.2.2.2.2.2.1 == bt222.2.2.2.2.2.2.2.2.2.2.2.2.2.2.1)) && ((bt201.2.2.2.2.2.2.2.2.2.2.2.2.2.2.2.1 == bt222.2.2.2.2.2.2.2.2.2.2.2.2.2.2.2.1 && (bt201.2.2.2.2.2.2.2.2.2.2.2.2.2.2.2.2.1 == bt222.2.2.2.2.2.2.2.2.2.2.2.2.2.2.2.2.1)) && ((bt201.2.2.2.2.2.2.2.2.2.2.2.2.2.2.2.2.2.1 == bt222.2.2.2.2.2.2.2.2.2.2.2.2.2.2.2.2.2.1 && (bt201.2.2.2.2.2.2.2.2.2.2.2.2.2.2.2.2.2.2.1 == bt222.2.2.2.2.2.2.2.2.2.2.2.2.2.2.2.2.2.2.1)) && ((bt201.2.2.2.2.2.2.2.2.2.2.2.2.2.2.2.2.2.2.2.1 == bt222.2.2.2.2.2.2.2.2.2.2.2.2.2.2.2.2.2.2.2.1 && (bt201.2.2.2.2.2.2.2.2.2.2.2.2.2.2.2.2.2.2.2.2 == bt222.2.2.2.2.2.2.2.2.2.2.2.2.2.2.2.2.2.2.2.2)))))))))))))))))) = true then ((cc_Parse.f k2 y188).bind fun bt243 => (some bt243.1)) else (some false)))) else (some false))) else (none))))) else (none))))))) else (none)) = some r := by first | (rw [hy133]; with_reducible exact H) | (have H2_ := (Option.bind_some _ _).symm.trans H; rw [hy133]; with_reducible exact H2_) | (have H2_ := (Option.bind_some _ _).symm.trans H; with_reducible exact H2_) | with_reducible exact H | (rw [hy133]; exact H) | exact H
                                have Ny133 := Aside0.mk hy133
                                clear hy133
                                have c47b0 := eq_true (of_decide_eq_true (by first | (with_reducible assumption) | assumption) : 0 ≤ a3)
                                have c48b0 := eq_true (of_decide_eq_true (by first | (with_reducible assumption) | assumption) : a3 ≤ (l0.length : Int))
                                by_cases c49 : y133.length + (l0.drop (a3 : Int).toNat).length < 8796093022208
                                · rw [if_pos c49] at H
                                  have LMc49 := Aside0.mk c49
                                  clear c49
                                  obtain ⟨y137, hy137⟩ : ∃ y_ : List ByteArray, y_ = (y133 ++ (l0.drop (a3 : Int).toNat)) := ⟨_, rfl⟩
                                  replace H : ((cc_Parse.f k2 y137).bind fun bt140 => ((cc_Parse.f k2 l0).bind fun bt161 => (if (!(bt140.1 == bt161.1) || (!(bt140.2.1 == bt161.2.1) || (!(bt140.2.2.1 == bt161.2.2.1) || (!(bt140.2.2.2.1 == bt161.2.2.2.1) || (!(bt140.2.2.2.2.1 == bt161.2.2.2.2.1) || (!(bt140.2.2.2.2.2.1 == bt161.2.2.2.2.2.1) || (!(bt140.2.2.2.2.2.2.1 == bt161.2.2.2.2.2.2.1) || (!(bt140.2.2.2.2.2.2.2.1 == bt161.2.2.2.2.2.2.2.1) || (!(bt140.2.2.2.2.2.2.2.2.1 == bt161.2.2.2.2.2.2.2.2.1) || (!(bt140.2.2.2.2.2.2.2.2.2.1 == bt161.2.2.2.2.2.2.2.2.2.1) || (!(bt140.2.2.2.2.2.2.2.2.2.2.1 == bt161.2.2.2.2.2.2.2.2.2.2.1) || ((!(bt140.2.2.2.2.2.2.2.2.2.2.2.1 == bt161.2.2.2.2.2.2.2.2.2.2.2.1) || (!(bt140.2.2.2.2.2.2.2.2.2.2.2.2.1 == bt161.2.2.2.2.2.2.2.2.2.2.2.2.1))) || ((!(bt140.2.2.2.2.2.2.2.2.2.2.2.2.2.1 == bt161.2.2.2.2.2.2.2.2.2.2.2.2.2.1) || (!(bt140.2.2.2.2.2.2.2.2.2.2.2.2.2.2.1 == bt161.2.2.2.2.2.2.2.2.2.2.2.2.2.2.1))) || ((!(bt140.2.2.2.2.2.2.2.2.2.2.2.2.2.2.2.1 == bt161.2.2.2.2.2.2.2.2.2.2.2.2.2.2.2.1) || (!(bt140.2.2.2.2.2.2.2.2.2.2.2.2.2.2.2.2.1 == bt161.2.2.2.2.2.2.2.2.2.2.2.2.2.2.2.2.1))) || ((!(bt140.2.2.2.2.2.2.2.2.2.2.2.2.2.2.2.2.2.1 == bt161.2.2.2.2.2.2.2.2.2.2.2.2.2.2.2.2.2.1) || (!(bt140.2.2.2.2.2.2.2.2.2.2.2.2.2.2.2.2.2.2.1 == bt161.2.2.2.2.2.2.2.2.2.2.2.2.2.2.2.2.2.2.1))) || ((!(bt140.2.2.2.2.2.2.2.2.2.2.2.2.2.2.2.2.2.2.2.1 == bt161.2.2.2.2.2.2.2.2.2.2.2.2.2.2.2.2.2.2.2.1) || (!(bt140.2.2.2.2.2.2.2.2.2.2.2.2.2.2.2.2.2.2.2.2 == bt161.2.2.2.2.2.2.2.2.2.2.2.2.2.2.2.2.2.2.2.2))))))))))))))))))) = true then (some false) else ((sprref_CopyTexts.f l0).bind fun t182 => ((some (([(⟨#[78, 79, 45, 83, 116, 111, 114, 101, 44, 32, 77, 97, 120, 45, 65, 71, 69, 61, 55, 44, 32, 77, 73, 78, 45, 102, 114, 101, 115, 104, 61, 51]⟩ : ByteArray)] : List ByteArray) : List ByteArray)).bind fun y185 => (if t182.length + y185.length < 8796093022208 then ((some (t182 ++ y185 : List ByteArray)).bind fun y188 => ((sprref_CopyTexts.f l0).bind fun t191 => ((some (([(⟨#[110, 111, 45, 115, 116, 111, 114, 101, 44, 32, 109, 97, 120, 45, 97, 103, 101, 61, 55, 44, 32, 109, 105, 110, 45, 102, 114, 101, 115, 104, 61, 51]⟩ : ByteArray)] : List ByteArray) : List ByteArray)).bind fun y194 => (if t191.length + y194.length < 8796093022208 then ((sprlaw14_first.f k2).bind fun t200 => (if t200 = true then ((cc_Parse.f k2 y188).bind fun bt201 => ((cc_Parse.f k2 (t191 ++ y194)).bind fun bt222 => (if (bt201.1 == bt222.1 && (bt201.2.1 == bt222.2.1 && (bt201.2.2.1 == bt222.2.2.1 && (bt201.2.2.2.1 == bt222.2.2.2.1 && (bt201.2.2.2.2.1 == bt222.2.2.2.2.1 && (bt201.2.2.2.2.2.1 == bt222.2.2.2.2.2.1 && (bt201.2.2.2.2.2.2.1 == bt222.2.2.2.2.2.2.1 && (bt201.2.2.2.2.2.2.2.1 == bt222.2.2.2.2.2.2.2.1 && (bt201.2.2.2.2.2.2.2.2.1 == bt222.2.2.2.2.2.2.2.2.1 && (bt201.2.2.2.2.2.2.2.2.2.1 == bt222.2.2.2.2.2.2.2.2.2.1 && (bt201.2.2.2.2.2.2.2.2.2.2.1 == bt222.2.2.2.2.2.2.2.2.2.2.1 && ((bt201.2.2.2.2.2.2.2.2.2.2.2.1 == bt222.2.2.2.2.2.2.2.2.2.2.2.1 && (bt201.2.2.2.2.2.2.2.2.2.2.2.2.1 == bt222.2.2.2.2.2.2.2.2.2.2.2.2.1)) && ((bt201.2.2.2.2.2.2.2.2.2.2.2.2.2.1 == bt222.2.2.2.2.2.2.2.2.2.2.2.2.2.1 && (bt201.2.2.2.2.2.2.2.2.2.2.2.2.2.2.1 == bt222.2.2.2.2.2.2.2.2.2.2.2.2.2.2.1)) && ((bt201.2.2.2.2.2.2.2.2.2.2.2.2.2.2.2.1 == bt222.2.2.2.2.2.2.2.2.2.2.2.2.2.2.2.1 && (bt201.2.2.2.2.2.2.2.2.2.2.2.2.2.2.2.2.1 == bt222.2.2.2.2.2.2.2.2.2.2.2.2.2.2.2.2.1)) && ((bt201.2.2.2.2.2.2.2.2.2.2.2.2.2.2.2.2.2.1 == bt222.2.2.2.2.2.2.2.2.2.2.2.2.2.2.2.2.2.1 && (bt201.2.2.2.2.2.2.2.2.2.2.2.2.2.2.2.2.2.2.1 == bt222.2.2.2.2.2.2.2.2.2.2.2.2.2.2.2.2.2.2.1)) && ((bt201.2.2.2.2.2.2.2.2.2.2.2.2.2.2.2.2.2.2.2.1 == bt222.2.2.2.2.2.2.2.2.2.2.2.2.2.2.2.2.2.2.2.1 && (bt201.2.2.2.2.2.2.2.2.2.2.2.2.2.2.2.2.2.2.2.2 == bt222.2.2.2.2.2.2.2.2.2.2.2.2.2.2.2.2.2.2.2.2)))))))))))))))))) = true then ((cc_Parse.f k2 y188).bind fun bt243 => (some bt243.1)) else (some false)))) else (some false))) else (none))))) else (none))))))) = some r := by first | (rw [hy137]; with_reducible exact H) | (have H2_ := (Option.bind_some _ _).symm.trans H; rw [hy137]; with_reducible exact H2_) | (have H2_ := (Option.bind_some _ _).symm.trans H; with_reducible exact H2_) | with_reducible exact H | (rw [hy137]; exact H) | exact H
                                  have Ny137 := Aside0.mk hy137
                                  clear hy137
                                  replace H := Option.bind_eq_some_iff.mp H
                                  obtain ⟨⟨t140, t141, t142, t143, t144, t145, t146, t147, t148, t149, t150, t151, t152, t153, t154, t155, t156, t157, t158, t159, t160⟩, A500, H⟩ := H
                                  replace H : ((cc_Parse.f k2 l0).bind fun bt161 => (if (!(t140 == bt161.1) || (!(t141 == bt161.2.1) || (!(t142 == bt161.2.2.1) || (!(t143 == bt161.2.2.2.1) || (!(t144 == bt161.2.2.2.2.1) || (!(t145 == bt161.2.2.2.2.2.1) || (!(t146 == bt161.2.2.2.2.2.2.1) || (!(t147 == bt161.2.2.2.2.2.2.2.1) || (!(t148 == bt161.2.2.2.2.2.2.2.2.1) || (!(t149 == bt161.2.2.2.2.2.2.2.2.2.1) || (!(t150 == bt161.2.2.2.2.2.2.2.2.2.2.1) || ((!(t151 == bt161.2.2.2.2.2.2.2.2.2.2.2.1) || (!(t152 == bt161.2.2.2.2.2.2.2.2.2.2.2.2.1))) || ((!(t153 == bt161.2.2.2.2.2.2.2.2.2.2.2.2.2.1) || (!(t154 == bt161.2.2.2.2.2.2.2.2.2.2.2.2.2.2.1))) || ((!(t155 == bt161.2.2.2.2.2.2.2.2.2.2.2.2.2.2.2.1) || (!(t156 == bt161.2.2.2.2.2.2.2.2.2.2.2.2.2.2.2.2.1))) || ((!(t157 == bt161.2.2.2.2.2.2.2.2.2.2.2.2.2.2.2.2.2.1) || (!(t158 == bt161.2.2.2.2.2.2.2.2.2.2.2.2.2.2.2.2.2.2.1))) || ((!(t159 == bt161.2.2.2.2.2.2.2.2.2.2.2.2.2.2.2.2.2.2.2.1) || (!(t160 == bt161.2.2.2.2.2.2.2.2.2.2.2.2.2.2.2.2.2.2.2.2))))))))))))))))))) = true then (some false) else ((sprref_CopyTexts.f l0).bind fun t182 => ((some (([(⟨#[78, 79, 45, 83, 116, 111, 114, 101, 44, 32, 77, 97, 120, 45, 65, 71, 69, 61, 55, 44, 32, 77, 73, 78, 45, 102, 114, 101, 115, 104, 61, 51]⟩ : ByteArray)] : List ByteArray) : List ByteArray)).bind fun y185 => (if t182.length + y185.length < 8796093022208 then ((some (t182 ++ y185 : List ByteArray)).bind fun y188 => ((sprref_CopyTexts.f l0).bind fun t191 => ((some (([(⟨#[110, 111, 45, 115, 116, 111, 114, 101, 44, 32, 109, 97, 120, 45, 97, 103, 101, 61, 55, 44, 32, 109, 105, 110, 45, 102, 114, 101, 115, 104, 61, 51]⟩ : ByteArray)] : List ByteArray) : List ByteArray)).bind fun y194 => (if t191.length + y194.length < 8796093022208 then ((sprlaw14_first.f k2).bind fun t200 => (if t200 = true then ((cc_Parse.f k2 y188).bind fun bt201 => ((cc_Parse.f k2 (t191 ++ y194)).bind fun bt222 => (if (bt201.1 == bt222.1 && (bt201.2.1 == bt222.2.1 && (bt201.2.2.1 == bt222.2.2.1 && (bt201.2.2.2.1 == bt222.2.2.2.1 && (bt201.2.2.2.2.1 == bt222.2.2.2.2.1 && (bt201.2.2.2.2.2.1 == bt222.2.2.2.2.2.1 && (bt201.2.2.2.2.2.2.1 == bt222.2.2.2.2.2.2.1 && (bt201.2.2.2.2.2.2.2.1 == bt222.2.2.2.2.2.2.2.1 && (bt201.2.2.2.2.2.2.2.2.1 == bt222.2.2.2.2.2.2.2.2.1 && (bt201.2.2.2.2.2.2.2.2.2.1 == bt222.2.2.2.2.2.2.2.2.2.1 && (bt201.2.2.2.2.2.2.2.2.2.2.1 == bt222.2.2.2.2.2.2.2.2.2.2.1 && ((bt201.2.2.2.2.2.2.2.2.2.2.2.1 == bt222.2.2.2.2.2.2.2.2.2.2.2.1 && (bt201.2.2.2.2.2.2.2.2.2.2.2.2.1 == bt222.2.2.2.2.2.2.2.2.2.2.2.2.1)) && ((bt201.2.2.2.2.2.2.2.2.2.2.2.2.2.1 == bt222.2.2.2.2.2.2.2.2.2.2.2.2.2.1 && (bt201.2.2.2.2.2.2.2.2.2.2.2.2.2.2.1 == bt222.2.2.2.2.2.2.2.2.2.2.2.2.2.2.1)) && ((bt201.2.2.2.2.2.2.2.2.2.2.2.2.2.2.2.1 == bt222.2.2.2.2.2.2.2.2.2.2.2.2.2.2.2.1 && (bt201.2.2.2.2.2.2.2.2.2.2.2.2.2.2.2.2.1 == bt222.2.2.2.2.2.2.2.2.2.2.2.2.2.2.2.2.1)) && ((bt201.2.2.2.2.2.2.2.2.2.2.2.2.2.2.2.2.2.1 == bt222.2.2.2.2.2.2.2.2.2.2.2.2.2.2.2.2.2.1 && (bt201.2.2.2.2.2.2.2.2.2.2.2.2.2.2.2.2.2.2.1 == bt222.2.2.2.2.2.2.2.2.2.2.2.2.2.2.2.2.2.2.1)) && ((bt201.2.2.2.2.2.2.2.2.2.2.2.2.2.2.2.2.2.2.2.1 == bt222.2.2.2.2.2.2.2.2.2.2.2.2.2.2.2.2.2.2.2.1 && (bt201.2.2.2.2.2.2.2.2.2.2.2.2.2.2.2.2.2.2.2.2 == bt222.2.2.2.2.2.2.2.2.2.2.2.2.2.2.2.2.2.2.2.2)))))))))))))))))) = true then ((cc_Parse.f k2 y188).bind fun bt243 => (some bt243.1)) else (some false)))) else (some false))) else (none))))) else (none)))))) = some r := H
                                  have A50 := Aside0.mk A500
                                  clear A500
                                  replace H := Option.bind_eq_some_iff.mp H
                                  obtain ⟨⟨t161, t162, t163, t164, t165, t166, t167, t168, t169, t170, t171, t172, t173, t174, t175, t176, t177, t178, t179, t180, t181⟩, A510, H⟩ := H
                                  replace H : (if (!(t140 == t161) || (!(t141 == t162) || (!(t142 == t163) || (!(t143 == t164) || (!(t144 == t165) || (!(t145 == t166) || (!(t146 == t167) || (!(t147 == t168) || (!(t148 == t169) || (!(t149 == t170) || (!(t150 == t171) || ((!(t151 == t172) || (!(t152 == t173))) || ((!(t153 == t174) || (!(t154 == t175))) || ((!(t155 == t176) || (!(t156 == t177))) || ((!(t157 == t178) || (!(t158 == t179))) || ((!(t159 == t180) || (!(t160 == t181))))))))))))))))))) = true then (some false) else ((sprref_CopyTexts.f l0).bind fun t182 => ((some (([(⟨#[78, 79, 45, 83, 116, 111, 114, 101, 44, 32, 77, 97, 120, 45, 65, 71, 69, 61, 55, 44, 32, 77, 73, 78, 45, 102, 114, 101, 115, 104, 61, 51]⟩ : ByteArray)] : List ByteArray) : List ByteArray)).bind fun y185 => (if t182.length + y185.length < 8796093022208 then ((some (t182 ++ y185 : List ByteArray)).bind fun y188 => ((sprref_CopyTexts.f l0).bind fun t191 => ((some (([(⟨#[110, 111, 45, 115, 116, 111, 114, 101, 44, 32, 109, 97, 120, 45, 97, 103, 101, 61, 55, 44, 32, 109, 105, 110, 45, 102, 114, 101, 115, 104, 61, 51]⟩ : ByteArray)] : List ByteArray) : List ByteArray)).bind fun y194 => (if t191.length + y194.length < 8796093022208 then ((sprlaw14_first.f k2).bind fun t200 => (if t200 = true then ((cc_Parse.f k2 y188).bind fun bt201 => ((cc_Parse.f k2 (t191 ++ y194)).bind fun bt222 => (if (bt201.1 == bt222.1 && (bt201.2.1 == bt222.2.1 && (bt201.2.2.1 == bt222.2.2.1 && (bt201.2.2.2.1 == bt222.2.2.2.1 && (bt201.2.2.2.2.1 == bt222.2.2.2.2.1 && (bt201.2.2.2.2.2.1 == bt222.2.2.2.2.2.1 && (bt201.2.2.2.2.2.2.1 == bt222.2.2.2.2.2.2.1 && (bt201.2.2.2.2.2.2.2.1 == bt222.2.2.2.2.2.2.2.1 && (bt201.2.2.2.2.2.2.2.2.1 == bt222.2.2.2.2.2.2.2.2.1 && (bt201.2.2.2.2.2.2.2.2.2.1 == bt222.2.2.2.2.2.2.2.2.2.1 && (bt201.2.2.2.2.2.2.2.2.2.2.1 == bt222.2.2.2.2.2.2.2.2.2.2.1 && ((bt201.2.2.2.2.2.2.2.2.2.2.2.1 == bt222.2.2.2.2.2.2.2.2.2.2.2.1 && (bt201.2.2.2.2.2.2.2.2.2.2.2.2.1 == bt222.2.2.2.2.2.2.2.2.2.2.2.2.1)) && ((bt201.2.2.2.2.2.2.2.2.2.2.2.2.2.1 == bt222.2.2.2.2.2.2.2.2.2.2.2.2.2.1 && (bt201.2.2.2.2.2.2.2.2.2.2.2.2.2.2.1 == bt222.2.2.2.2.2.2.2.2.2.2.2.2.2.2.1)) && ((bt201.2.2.2.2.2.2.2.2.2.2.2.2.2.2.2.1 == bt222.2.2.2.2.2.2.2.2.2.2.2.2.2.2.2.1 && (bt201.2.2.2.2.2.2.2.2.2.2.2.2.2.2.2.2.1 == bt222.2.2.2.2.2.2.2.2.2.2.2.2.2.2.2.2.1)) && ((bt201.2.2.2.2.2.2.2.2.2.2.2.2.2.2.2.2.2.1 == bt222.2.2.2.2.2.2.2.2.2.2.2.2.2.2.2.2.2.1 && (bt201.2.2.2.2.2.2.2.2.2.2.2.2.2.2.2.2.2.2.1 == bt222.2.2.2.2.2.2.2.2.2.2.2.2.2.2.2.2.2.2.1)) && ((bt201.2.2.2.2.2.2.2.2.2.2.2.2.2.2.2.2.2.2.2.1 == bt222.2.2.2.2.2.2.2.2.2.2.2.2.2.2.2.2.2.2.2.1 && (bt201.2.2.2.2.2.2.2.2.2.2.2.2.2.2.2.2.2.2.2.2 == bt222.2.2.2.2.2.2.2.2.2.2.2.2.2.2.2.2.2.2.2.2)))))))))))))))))) = true then ((cc_Parse.f k2 y188).bind fun bt243 => (some bt243.1)) else (some false)))) else (some false))) else (none))))) else (none))))) = some r := H
                                  have A51 := Aside0.mk A510
                                  clear A510
                                  by_cases c52 : (!(t140 == t161) || (!(t141 == t162) || (!(t142 == t163) || (!(t143 == t164) || (!(t144 == t165) || (!(t145 == t166) || (!(t146 == t167) || (!(t147 == t168) || (!(t148 == t169) || (!(t149 == t170) || (!(t150 == t171) || ((!(t151 == t172) || (!(t152 == t173))) || ((!(t153 == t174) || (!(t154 == t175))) || ((!(t155 == t176) || (!(t156 == t177))) || ((!(t157 == t178) || (!(t158 == t179))) || ((!(t159 == t180) || (!(t160 == t181))))))))))))))))))) = true
                                  · rw [if_pos c52] at H
                                    have c52b0 : (!(t140 == t161) || (!(t141 == t162) || (!(t142 == t163) || (!(t143 == t164) || (!(t144 == t165) || (!(t145 == t166) || (!(t146 == t167) || (!(t147 == t168) || (!(t148 == t169) || (!(t149 == t170) || (!(t150 == t171) || ((!(t151 == t172) || (!(t152 == t173))) || ((!(t153 == t174) || (!(t154 == t175))) || ((!(t155 == t176) || (!(t156 == t177))) || ((!(t157 == t178) || (!(t158 == t179))) || ((!(t159 == t180) || (!(t160 == t181))))))))))))))))))) = true := c52
                                    clear c52
                                    exact absurd ((Option.some.inj H).trans hT.out) (by decide)
                                  · rw [if_neg c52] at H
                                    have c52b0 : (!(t140 == t161) || (!(t141 == t162) || (!(t142 == t163) || (!(t143 == t164) || (!(t144 == t165) || (!(t145 == t166) || (!(t146 == t167) || (!(t147 == t168) || (!(t148 == t169) || (!(t149 == t170) || (!(t150 == t171) || ((!(t151 == t172) || (!(t152 == t173))) || ((!(t153 == t174) || (!(t154 == t175))) || ((!(t155 == t176) || (!(t156 == t177))) || ((!(t157 == t178) || (!(t158 == t179))) || ((!(t159 == t180) || (!(t160 == t181))))))))))))))))))) = false := by simpa using c52
                                    clear c52
                                    replace H := Option.bind_eq_some_iff.mp H
                                    obtain ⟨t182, A530, H⟩ := H
                                    replace H : ((some (([(⟨#[78, 79, 45, 83, 116, 111, 114, 101, 44, 32, 77, 97, 120, 45, 65, 71, 69, 61, 55, 44, 32, 77, 73, 78, 45, 102, 114, 101, 115, 104, 61, 51]⟩ : ByteArray)] : List ByteArray) : List ByteArray)).bind fun y185 => (if t182.length + y185.length < 8796093022208 then ((some (t182 ++ y185 : List ByteArray)).bind fun y188 => ((sprref_CopyTexts.f l0).bind fun t191 => ((some (([(⟨#[110, 111, 45, 115, 116, 111, 114, 101, 44, 32, 109, 97, 120, 45, 97, 103, 101, 61, 55, 44, 32, 109, 105, 110, 45, 102, 114, 101, 115, 104, 61, 51]⟩ : ByteArray)] : List ByteArray) : List ByteArray)).bind fun y194 => (if t191.length + y194.length < 8796093022208 then ((sprlaw14_first.f k2).bind fun t200 => (if t200 = true then ((cc_Parse.f k2 y188).bind fun bt201 => ((cc_Parse.f k2 (t191 ++ y194)).bind fun bt222 => (if (bt201.1 == bt222.1 && (bt201.2.1 == bt222.2.1 && (bt201.2.2.1 == bt222.2.2.1 && (bt201.2.2.2.1 == bt222.2.2.2.1 && (bt201.2.2.2.2.1 == bt222.2.2.2.2.1 && (bt201.2.2.2.2.2.1 == bt222.2.2.2.2.2.1 && (bt201.2.2.2.2.2.2.1 == bt222.2.2.2.2.2.2.1 && (bt201.2.2.2.2.2.2.2.1 == bt222.2.2.2.2.2.2.2.1 && (bt201.2.2.2.2.2.2.2.2.1 == bt222.2.2.2.2.2.2.2.2.1 && (bt201.2.2.2.2.2.2.2.2.2.1 == bt222.2.2.2.2.2.2.2.2.2.1 && (bt201.2.2.2.2.2.2.2.2.2.2.1 == bt222.2.2.2.2.2.2.2.2.2.2.1 && ((bt201.2.2.2.2.2.2.2.2.2.2.2.1 == bt222.2.2.2.2.2.2.2.2.2.2.2.1 && (bt201.2.2.2.2.2.2.2.2.2.2.2.2.1 == bt222.2.2.2.2.2.2.2.2.2.2.2.2.1)) && ((bt201.2.2.2.2.2.2.2.2.2.2.2.2.2.1 == bt222.2.2.2.2.2.2.2.2.2.2.2.2.2.1 && (bt201.2.2.2.2.2.2.2.2.2.2.2.2.2.2.1 == bt222.2.2.2.2.2.2.2.2.2.2.2.2.2.2.1)) && ((bt201.2.2.2.2.2.2.2.2.2.2.2.2.2.2.2.1 == bt222.2.2.2.2.2.2.2.2.2.2.2.2.2.2.2.1 && (bt201.2.2.2.2.2.2.2.2.2.2.2.2.2.2.2.2.1 == bt222.2.2.2.2.2.2.2.2.2.2.2.2.2.2.2.2.1)) && ((bt201.2.2.2.2.2.2.2.2.2.2.2.2.2.2.2.2.2.1 == bt222.2.2.2.2.2.2.2.2.2.2.2.2.2.2.2.2.2.1 && (bt201.2.2.2.2.2.2.2.2.2.2.2.2.2.2.2.2.2.2.1 == bt222.2.2.2.2.2.2.2.2.2.2.2.2.2.2.2.2.2.2.1)) && ((bt201.2.2.2.2.2.2.2.2.2.2.2.2.2.2.2.2.2.2.2.1 == bt222.2.2.2.2.2.2.2.2.2.2.2.2.2.2.2.2.2.2.2.1 && (bt201.2.2.2.2.2.2.2.2.2.2.2.2.2.2.2.2.2.2.2.2 == bt222.2.2.2.2.2.2.2.2.2.2.2.2.2.2.2.2.2.2.2.2)))))))))))))))))) = true then ((cc_Parse.f k2 y188).bind fun bt243 => (some bt243.1)) else (some false)))) else (some false))) else (none))))) else (none))) = some r := H
                                    have A53 := Aside0.mk A530
                                    clear A530
                                    obtain ⟨y185, hy185⟩ : ∃ y_ : List ByteArray, y_ = (([(⟨#[78, 79, 45, 83, 116, 111, 114, 101, 44, 32, 77, 97, 120, 45, 65, 71, 69, 61, 55, 44, 32, 77, 73, 78, 45, 102, 114, 101, 115, 104, 61, 51]⟩ : ByteArray)] : List ByteArray)) := ⟨_, rfl⟩
                                    replace H : (if t182.length + y185.length < 8796093022208 then ((some (t182 ++ y185 : List ByteArray)).bind fun y188 => ((sprref_CopyTexts.f l0).bind fun t191 => ((some (([(⟨#[110, 111, 45, 115, 116, 111, 114, 101, 44, 32, 109, 97, 120, 45, 97, 103, 101, 61, 55, 44, 32, 109, 105, 110, 45, 102, 114, 101, 115, 104, 61, 51]⟩ : ByteArray)] : List ByteArray) : List ByteArray)).bind fun y194 => (if t191.length + y194.length < 8796093022208 then ((sprlaw14_first.f k2).bind fun t200 => (if t200 = true then ((cc_Parse.f k2 y188).bind fun bt201 => ((cc_Parse.f k2 (t191 ++ y194)).bind fun bt222 => (if (bt201.1 == bt222.1 && (bt201.2.1 == bt222.2.1 && (bt201.2.2.1 == bt222.2.2.1 && (bt201.2.2.2.1 == bt222.2.2.2.1 && (bt201.2.2.2.2.1 == bt222.2.2.2.2.1 && (bt201.2.2.2.2.2.1 == bt222.2.2.2.2.2.1 && (bt201.2.2.2.2.2.2.1 == bt222.2.2.2.2.2.2.1 && (bt201.2.2.2.2.2.2.2.1 == bt222.2.2.2.2.2.2.2.1 && (bt201.2.2.2.2.2.2.2.2.1 == bt222.2.2.2.2.2.2.2.2.1 && (bt201.2.2.2.2.2.2.2.2.2.1 == bt222.2.2.2.2.2.2.2.2.2.1 && (bt201.2.2.2.2.2.2.2.2.2.2.1 == bt222.2.2.2.2.2.2.2.2.2.2.1 && ((bt201.2.2.2.2.2.2.2.2.2.2.2.1 == bt222.2.2.2.2.2.2.2.2.2.2.2.1 && (bt201.2.2.2.2.2.2.2.2.2.2.2.2.1 == bt222.2.2.2.2.2.2.2.2.2.2.2.2.1)) && ((bt201.2.2.2.2.2.2.2.2.2.2.2.2.2.1 == bt222.2.2.2.2.2.2.2.2.2.2.2.2.2.1 && (bt201.2.2.2.2.2.2.2.2.2.2.2.2.2.2.1 == bt222.2.2.2.2.2.2.2.2.2.2.2.2.2.2.1)) && ((bt201.2.2.2.2.2.2.2.2.2.2.2.2.2.2.2.1 == bt222.2.2.2.2.2.2.2.2.2.2.2.2.2.2.2.1 && (bt201.2.2.2.2.2.2.2.2.2.2.2.2.2.2.2.2.1 == bt222.2.2.2.2.2.2.2.2.2.2.2.2.2.2.2.2.1)) && ((bt201.2.2.2.2.2.2.2.2.2.2.2.2.2.2.2.2.2.1 == bt222.2.2.2.2.2.2.2.2.2.2.2.2.2.2.2.2.2.1 && (bt201.2.2.2.2.2.2.2.2.2.2.2.2.2.2.2.2.2.2.1 == bt222.2.2.2.2.2.2.2.2.2.2.2.2.2.2.2.2.2.2.1)) && ((bt201.2.2.2.2.2.2.2.2.2.2.2.2.2.2.2.2.2.2.2.1 == bt222.2.2.2.2.2.2.2.2.2.2.2.2.2.2.2.2.2.2.2.1 && (bt201.2.2.2.2.2.2.2.2.2.2.2.2.2.2.2.2.2.2.2.2 == bt222.2.2.2.2.2.2.2.2.2.2.2.2.2.2.2.2.2.2.2.2)))))))))))))))))) = true then ((cc_Parse.f k2 y188).bind fun bt243 => (some bt243.1)) else (some false)))) else (some false))) else (none))))) else (none)) = some r := by first | (rw [hy185]; with_reducible exact H) | (have H2_ := (Option.bind_some _ _).symm.trans H; rw [hy185]; with_reducible exact H2_) | (have H2_ := (Option.bind_some _ _).symm.trans H; with_reducible exact H2_) | with_reducible exact H | (rw [hy185]; exact H) | exact H
                                    have Ny185 := Aside0.mk hy185
                                    clear hy185
                                    by_cases c54 : t182.length + y185.length < 8796093022208
                                    · rw [if_pos c54] at H
                                      have LMc54 := Aside0.mk c54
                                      clear c54
                                      obtain ⟨y188, hy188⟩ : ∃ y_ : List ByteArray, y_ = (t182 ++ y185) := ⟨_, rfl⟩
                                      replace H : ((sprref_CopyTexts.f l0).bind fun t191 => ((some (([(⟨#[110, 111, 45, 115, 116, 111, 114, 101, 44, 32, 109, 97, 120, 45, 97, 103, 101, 61, 55, 44, 32, 109, 105, 110, 45, 102, 114, 101, 115, 104, 61, 51]⟩ : ByteArray)] : List ByteArray) : List ByteArray)).bind fun y194 => (if t191.length + y194.length < 8796093022208 then ((sprlaw14_first.f k2).bind fun t200 => (if t200 = true then ((cc_Parse.f k2 y188).bind fun bt201 => ((cc_Parse.f k2 (t191 ++ y194)).bind fun bt222 => (if (bt201.1 == bt222.1 && (bt201.2.1 == bt222.2.1 && (bt201.2.2.1 == bt222.2.2.1 && (bt201.2.2.2.1 == bt222.2.2.2.1 && (bt201.2.2.2.2.1 == bt222.2.2.2.2.1 && (bt201.2.2.2.2.2.1 == bt222.2.2.2.2.2.1 && (bt201.2.2.2.2.2.2.1 == bt222.2.2.2.2.2.2.1 && (bt201.2.2.2.2.2.2.2.1 == bt222.2.2.2.2.2.2.2.1 && (bt201.2.2.2.2.2.2.2.2.1 == bt222.2.2.2.2.2.2.2.2.1 && (bt201.2.2.2.2.2.2.2.2.2.1 == bt222.2.2.2.2.2.2.2.2.2.1 && (bt201.2.2.2.2.2.2.2.2.2.2.1 == bt222.2.2.2.2.2.2.2.2.2.2.1 && ((bt201.2.2.2.2.2.2.2.2.2.2.2.1 == bt222.2.2.2.2.2.2.2.2.2.2.2.1 && (bt201.2.2.2.2.2.2.2.2.2.2.2.2.1 == bt222.2.2.2.2.2.2.2.2.2.2.2.2.1)) && ((bt201.2.2.2.2.2.2.2.2.2.2.2.2.2.1 == bt222.2.2.2.2.2.2.2.2.2.2.2.2.2.1 && (bt201.2.2.2.2.2.2.2.2.2.2.2.2.2.2.1 == bt222.2.2.2.2.2.2.2.2.2.2.2.2.2.2.1)) && ((bt201.2.2.2.2.2.2.2.2.2.2.2.2.2.2.2.1 == bt222.2.2.2.2.2.2.2.2.2.2.2.2.2.2.2.1 && (bt201.2.2.2.2.2.2.2.2.2.2.2.2.2.2.2.2.1 == bt222.2.2.2.2.2.2.2.2.2.2.2.2.2.2.2.2.1)) && ((bt201.2.2.2.2.2.2.2.2.2.2.2.2.2.2.2.2.2.1 == bt222.2.2.2.2.2.2.2.2.2.2.2.2.2.2.2.2.2.1 && (bt201.2.2.2.2.2.2.2.2.2.2.2.2.2.2.2.2.2.2.1 == bt222.2.2.2.2.2.2.2.2.2.2.2.2.2.2.2.2.2.2.1)) && ((bt201.2.2.2.2.2.2.2.2.2.2.2.2.2.2.2.2.2.2.2.1 == bt222.2.2.2.2.2.2.2.2.2.2.2.2.2.2.2.2.2.2.2.1 && (bt201.2.2.2.2.2.2.2.2.2.2.2.2.2.2.2.2.2.2.2.2 == bt222.2.2.2.2.2.2.2.2.2.2.2.2.2.2.2.2.2.2.2.2)))))))))))))))))) = true then ((cc_Parse.f k2 y188).bind fun bt243 => (some bt243.1)) else (some false)))) else (some false))) else (none)))) = some r := by first | (rw [hy188]; with_reducible exact H) | (have H2_ := (Option.bind_some _ _).symm.trans H; rw [hy188]; with_reducible exact H2_) | (have H2_ := (Option.bind_some _ _).symm.trans H; with_reducible exact H2_) | with_reducible exact H | (rw [hy188]; exact H) | exact H
                                      have Ny188 := Aside0.mk hy188
                                      clear hy188
                                      replace H := Option.bind_eq_some_iff.mp H
                                      obtain ⟨t191, A550, H⟩ := H
                                      replace H : ((some (([(⟨#[110, 111, 45, 115, 116, 111, 114, 101, 44, 32, 109, 97, 120, 45, 97, 103, 101, 61, 55, 44, 32, 109, 105, 110, 45, 102, 114, 101, 115, 104, 61, 51]⟩ : ByteArray)] : List ByteArray) : List ByteArray)).bind fun y194 => (if t191.length + y194.length < 8796093022208 then ((sprlaw14_first.f k2).bind fun t200 => (if t200 = true then ((cc_Parse.f k2 y188).bind fun bt201 => ((cc_Parse.f k2 (t191 ++ y194)).bind fun bt222 => (if (bt201.1 == bt222.1 && (bt201.2.1 == bt222.2.1 && (bt201.2.2.1 == bt222.2.2.1 && (bt201.2.2.2.1 == bt222.2.2.2.1 && (bt201.2.2.2.2.1 == bt222.2.2.2.2.1 && (bt201.2.2.2.2.2.1 == bt222.2.2.2.2.2.1 && (bt201.2.2.2.2.2.2.1 == bt222.2.2.2.2.2.2.1 && (bt201.2.2.2.2.2.2.2.1 == bt222.2.2.2.2.2.2.2.1 && (bt201.2.2.2.2.2.2.2.2.1 == bt222.2.2.2.2.2.2.2.2.1 && (bt201.2.2.2.2.2.2.2.2.2.1 == bt222.2.2.2.2.2.2.2.2.2.1 && (bt201.2.2.2.2.2.2.2.2.2.2.1 == bt222.2.2.2.2.2.2.2.2.2.2.1 && ((bt201.2.2.2.2.2.2.2.2.2.2.2.1 == bt222.2.2.2.2.2.2.2.2.2.2.2.1 && (bt201.2.2.2.2.2.2.2.2.2.2.2.2.1 == bt222.2.2.2.2.2.2.2.2.2.2.2.2.1)) && ((bt201.2.2.2.2.2.2.2.2.2.2.2.2.2.1 == bt222.2.2.2.2.2.2.2.2.2.2.2.2.2.1 && (bt201.2.2.2.2.2.2.2.2.2.2.2.2.2.2.1 == bt222.2.2.2.2.2.2.2.2.2.2.2.2.2.2.1)) && ((bt201.2.2.2.2.2.2.2.2.2.2.2.2.2.2.2.1 == bt222.2.2.2.2.2.2.2.2.2.2.2.2.2.2.2.1 && (bt201.2.2.2.2.2.2.2.2.2.2.2.2.2.2.2.2.1 == bt222.2.2.2.2.2.2.2.2.2.2.2.2.2.2.2.2.1)) && ((bt201.2.2.2.2.2.2.2.2.2.2.2.2.2.2.2.2.2.1 == bt222.2.2.2.2.2.2.2.2.2.2.2.2.2.2.2.2.2.1 && (bt201.2.2.2.2.2.2.2.2.2.2.2.2.2.2.2.2.2.2.1 == bt222.2.2.2.2.2.2.2.2.2.2.2.2.2.2.2.2.2.2.1)) && ((bt201.2.2.2.2.2.2.2.2.2.2.2.2.2.2.2.2.2.2.2.1 == bt222.2.2.2.2.2.2.2.2.2.2.2.2.2.2.2.2.2.2.2.1 && (bt201.2.2.2.2.2.2.2.2.2.2.2.2.2.2.2.2.2.2.2.2 == bt222.2.2.2.2.2.2.2.2.2.2.2.2.2.2.2.2.2.2.2.2)))))))))))))))))) = true then ((cc_Parse.f k2 y188).bind fun bt243 => (some bt243.1)) else (some false)))) else (some false))) else (none))) = some r := H
                                      have A55 := Aside0.mk A550
                                      clear A550
                                      obtain ⟨y194, hy194⟩ : ∃ y_ : List ByteArray, y_ = (([(⟨#[110, 111, 45, 115, 116, 111, 114, 101, 44, 32, 109, 97, 120, 45, 97, 103, 101, 61, 55, 44, 32, 109, 105, 110, 45, 102, 114, 101, 115, 104, 61, 51]⟩ : ByteArray)] : List ByteArray)) := ⟨_, rfl⟩
                                      replace H : (if t191.length + y194.length < 8796093022208 then ((sprlaw14_first.f k2).bind fun t200 => (if t200 = true then ((cc_Parse.f k2 y188).bind fun bt201 => ((cc_Parse.f k2 (t191 ++ y194)).bind fun bt222 => (if (bt201.1 == bt222.1 && (bt201.2.1 == bt222.2.1 && (bt201.2.2.1 == bt222.2.2.1 && (bt201.2.2.2.1 == bt222.2.2.2.1 && (bt201.2.2.2.2.1 == bt222.2.2.2.2.1 && (bt201.2.2.2.2.2.1 == bt222.2.2.2.2.2.1 && (bt201.2.2.2.2.2.2.1 == bt222.2.2.2.2.2.2.1 && (bt201.2.2.2.2.2.2.2.1 == bt222.2.2.2.2.2.2.2.1 && (bt201.2.2.2.2.2.2.2.2.1 == bt222.2.2.2.2.2.2.2.2.1 && (bt201.2.2.2.2.2.2.2.2.2.1 == bt222.2.2.2.2.2.2.2.2.2.1 && (bt201.2.2.2.2.2.2.2.2.2.2.1 == bt222.2.2.2.2.2.2.2.2.2.2.1 && ((bt201.2.2.2.2.2.2.2.2.2.2.2.1 == bt222.2.2.2.2.2.2.2.2.2.2.2.1 && (bt201.2.2.2.2.2.2.2.2.2.2.2.2.1 == bt222.2.2.2.2.2.2.2.2.2.2.2.2.1)) && ((bt201.2.2.2.2.2.2.2.2.2.2.2.2.2.1 == bt222.2.2.2.2.2.2.2.2.2.2.2.2.2.1 && (bt201.2.2.2.2.2.2.2.2.2.2.2.2.2.2.1 == bt222.2.2.2.2.2.2.2.2.2.2.2.2.2.2.1)) && ((bt201.2.2.2.2.2.2.2.2.2.2.2.2.2.2.2.1 == bt222.2.2.2.2.2.2.2.2.2.2.2.2.2.2.2.1 && (bt201.2.2.2.2.2.2.2.2.2.2.2.2.2.2.2.2.1 == bt222.2.2.2.2.2.2.2.2.2.2.2.2.2.2.2.2.1)) && ((bt201.2.2.2.2.2.2.2.2.2.2.2.2.2.2.2.2.2.1 == bt222.2.2.2.2.2.2.2.2.2.2.2.2.2.2.2.2.2.1 && (bt201.2.2.2.2.2.2.2.2.2.2.2.2.2.2.2.2.2.2.1 == bt222.2.2.2.2.2.2.2.2.2.2.2.2.2.2.2.2.2.2.1)) && ((bt201.2.2.2.2.2.2.2.2.2.2.2.2.2.2.2.2.2.2.2.1 == bt222.2.2.2.2.2.2.2.2.2.2.2.2.2.2.2.2.2.2.2.1 && (bt201.2.2.2.2.2.2.2.2.2.2.2.2.2.2.2.2.2.2.2.2 == bt222.2.2.2.2.2.2.2.2.2.2.2.2.2.2.2.2.2.2.2.2)))))))))))))))))) = true then ((cc_Parse.f k2 y188).bind fun bt243 => (some bt243.1)) else (some false)))) else (some false))) else (none)) = some r := by first | (rw [hy194]; with_reducible exact H) | (have H2_ := (Option.bind_some _ _).symm.trans H; rw [hy194]; with_reducible exact H2_) | (have H2_ := (Option.bind_some _ _).symm.trans H; with_reducible exact H2_) | with_reducible exact H | (rw [hy194]; exact H) | exact H
                                      have Ny194 := Aside0.mk hy194
                                      clear hy194
                                      by_cases c56 : t191.length + y194.length < 8796093022208
                                      · rw [if_pos c56] at H
                                        have LMc56 := Aside0.mk c56
                                        clear c56
                                        obtain ⟨y197, hy197⟩ : ∃ y_ : List ByteArray, y_ = (t191 ++ y194) := ⟨_, rfl⟩
                                        replace H : ((sprlaw14_first.f k2).bind fun t200 => (if t200 = true then ((cc_Parse.f k2 y188).bind fun bt201 => ((cc_Parse.f k2 y197).bind fun bt222 => (if (bt201.1 == bt222.1 && (bt201.2.1 == bt222.2.1 && (bt201.2.2.1 == bt222.2.2.1 && (bt201.2.2.2.1 == bt222.2.2.2.1 && (bt201.2.2.2.2.1 == bt222.2.2.2.2.1 && (bt201.2.2.2.2.2.1 == bt222.2.2.2.2.2.1 && (bt201.2.2.2.2.2.2.1 == bt222.2.2.2.2.2.2.1 && (bt201.2.2.2.2.2.2.2.1 == bt222.2.2.2.2.2.2.2.1 && (bt201.2.2.2.2.2.2.2.2.1 == bt222.2.2.2.2.2.2.2.2.1 && (bt201.2.2.2.2.2.2.2.2.2.1 == bt222.2.2.2.2.2.2.2.2.2.1 && (bt201.2.2.2.2.2.2.2.2.2.2.1 == bt222.2.2.2.2.2.2.2.2.2.2.1 && ((bt201.2.2.2.2.2.2.2.2.2.2.2.1 == bt222.2.2.2.2.2.2.2.2.2.2.2.1 && (bt201.2.2.2.2.2.2.2.2.2.2.2.2.1 == bt222.2.2.2.2.2.2.2.2.2.2.2.2.1)) && ((bt201.2.2.2.2.2.2.2.2.2.2.2.2.2.1 == bt222.2.2.2.2.2.2.2.2.2.2.2.2.2.1 && (bt201.2.2.2.2.2.2.2.2.2.2.2.2.2.2.1 == bt222.2.2.2.2.2.2.2.2.2.2.2.2.2.2.1)) && ((bt201.2.2.2.2.2.2.2.2.2.2.2.2.2.2.2.1 == bt222.2.2.2.2.2.2.2.2.2.2.2.2.2.2.2.1 && (bt201.2.2.2.2.2.2.2.2.2.2.2.2.2.2.2.2.1 == bt222.2.2.2.2.2.2.2.2.2.2.2.2.2.2.2.2.1)) && ((bt201.2.2.2.2.2.2.2.2.2.2.2.2.2.2.2.2.2.1 == bt222.2.2.2.2.2.2.2.2.2.2.2.2.2.2.2.2.2.1 && (bt201.2.2.2.2.2.2.2.2.2.2.2.2.2.2.2.2.2.2.1 == bt222.2.2.2.2.2.2.2.2.2.2.2.2.2.2.2.2.2.2.1)) && ((bt201.2.2.2.2.2.2.2.2.2.2.2.2.2.2.2.2.2.2.2.1 == bt222.2.2.2.2.2.2.2.2.2.2.2.2.2.2.2.2.2.2.2.1 && (bt201.2.2.2.2.2.2.2.2.2.2.2.2.2.2.2.2.2.2.2.2 == bt222.2.2.2.2.2.2.2.2.2.2.2.2.2.2.2.2.2.2.2.2)))))))))))))))))) = true then ((cc_Parse.f k2 y188).bind fun bt243 => (some bt243.1)) else (some false)))) else (some false))) = some r := by first | (rw [hy197]; with_reducible exact H) | (have H2_ := (Option.bind_some _ _).symm.trans H; rw [hy197]; with_reducible exact H2_) | (have H2_ := (Option.bind_some _ _).symm.trans H; with_reducible exact H2_) | with_reducible exact H | (rw [hy197]; exact H) | exact H
                                        have Ny197 := Aside0.mk hy197
                                        clear hy197
                                        replace H := Option.bind_eq_some_iff.mp H
                                        obtain ⟨t200, A570, H⟩ := H
                                        replace H : (if t200 = true then ((cc_Parse.f k2 y188).bind fun bt201 => ((cc_Parse.f k2 y197).bind fun bt222 => (if (bt201.1 == bt222.1 && (bt201.2.1 == bt222.2.1 && (bt201.2.2.1 == bt222.2.2.1 && (bt201.2.2.2.1 == bt222.2.2.2.1 && (bt201.2.2.2.2.1 == bt222.2.2.2.2.1 && (bt201.2.2.2.2.2.1 == bt222.2.2.2.2.2.1 && (bt201.2.2.2.2.2.2.1 == bt222.2.2.2.2.2.2.1 && (bt201.2.2.2.2.2.2.2.1 == bt222.2.2.2.2.2.2.2.1 && (bt201.2.2.2.2.2.2.2.2.1 == bt222.2.2.2.2.2.2.2.2.1 && (bt201.2.2.2.2.2.2.2.2.2.1 == bt222.2.2.2.2.2.2.2.2.2.1 && (bt201.2.2.2.2.2.2.2.2.2.2.1 == bt222.2.2.2.2.2.2.2.2.2.2.1 && ((bt201.2.2.2.2.2.2.2.2.2.2.2.1 == bt222.2.2.2.2.2.2.2.2.2.2.2.1 && (bt201.2.2.2.2.2.2.2.2.2.2.2.2.1 == bt222.2.2.2.2.2.2.2.2.2.2.2.2.1)) && ((bt201.2.2.2.2.2.2.2.2.2.2.2.2.2.1 == bt222.2.2.2.2.2.2.2.2.2.2.2.2.2.1 && (bt201.2.2.2.2.2.2.2.2.2.2.2.2.2.2.1 == bt222.2.2.2.2.2.2.2.2.2.2.2.2.2.2.1)) && ((bt201.2.2.2.2.2.2.2.2.2.2.2.2.2.2.2.1 == bt222.2.2.2.2.2.2.2.2.2.2.2.2.2.2.2.1 && (bt201.2.2.2.2.2.2.2.2.2.2.2.2.2.2.2.2.1 == bt222.2.2.2.2.2.2.2.2.2.2.2.2.2.2.2.2.1)) && ((bt201.2.2.2.2.2.2.2.2.2.2.2.2.2.2.2.2.2.1 == bt222.2.2.2.2.2.2.2.2.2.2.2.2.2.2.2.2.2.1 && (bt201.2.2.2.2.2.2.2.2.2.2.2.2.2.2.2.2.2.2.1 == bt222.2.2.2.2.2.2.2.2.2.2.2.2.2.2.2.2.2.2.1)) && ((bt201.2.2.2.2.2.2.2.2.2.2.2.2.2.2.2.2.2.2.2.1 == bt222.2.2.2.2.2.2.2.2.2.2.2.2.2.2.2.2.2.2.2.1 && (bt201.2.2.2.2.2.2.2.2.2.2.2.2.2.2.2.2.2.2.2.2 == bt222.2.2.2.2.2.2.2.2.2.2.2.2.2.2.2.2.2.2.2.2)))))))))))))))))) = true then ((cc_Parse.f k2 y188).bind fun bt243 => (some bt243.1)) else (some false)))) else (some false)) = some r := H
                                        have A57 := Aside0.mk A570
                                        clear A570
                                        by_cases c58 : t200 = true
                                        · subst c58
                                          have H1 : ((cc_Parse.f k2 y188).bind fun bt201 => ((cc_Parse.f k2 y197).bind fun bt222 => (if (bt201.1 == bt222.1 && (bt201.2.1 == bt222.2.1 && (bt201.2.2.1 == bt222.2.2.1 && (bt201.2.2.2.1 == bt222.2.2.2.1 && (bt201.2.2.2.2.1 == bt222.2.2.2.2.1 && (bt201.2.2.2.2.2.1 == bt222.2.2.2.2.2.1 && (bt201.2.2.2.2.2.2.1 == bt222.2.2.2.2.2.2.1 && (bt201.2.2.2.2.2.2.2.1 == bt222.2.2.2.2.2.2.2.1 && (bt201.2.2.2.2.2.2.2.2.1 == bt222.2.2.2.2.2.2.2.2.1 && (bt201.2.2.2.2.2.2.2.2.2.1 == bt222.2.2.2.2.2.2.2.2.2.1 && (bt201.2.2.2.2.2.2.2.2.2.2.1 == bt222.2.2.2.2.2.2.2.2.2.2.1 && ((bt201.2.2.2.2.2.2.2.2.2.2.2.1 == bt222.2.2.2.2.2.2.2.2.2.2.2.1 && (bt201.2.2.2.2.2.2.2.2.2.2.2.2.1 == bt222.2.2.2.2.2.2.2.2.2.2.2.2.1)) && ((bt201.2.2.2.2.2.2.2.2.2.2.2.2.2.1 == bt222.2.2.2.2.2.2.2.2.2.2.2.2.2.1 && (bt201.2.2.2.2.2.2.2.2.2.2.2.2.2.2.1 == bt222.2.2.2.2.2.2.2.2.2.2.2.2.2.2.1)) && ((bt201.2.2.2.2.2.2.2.2.2.2.2.2.2.2.2.1 == bt222.2.2.2.2.2.2.2.2.2.2.2.2.2.2.2.1 && (bt201.2.2.2.2.2.2.2.2.2.2.2.2.2.2.2.2.1 == bt222.2.2.2.2.2.2.2.2.2.2.2.2.2.2.2.2.1)) && ((bt201.2.2.2.2.2.2.2.2.2.2.2.2.2.2.2.2.2.1 == bt222.2.2.2.2.2.2.2.2.2.2.2.2.2.2.2.2.2.1 && (bt201.2.2.2.2.2.2.2.2.2.2.2.2.2.2.2.2.2.2.1 == bt222.2.2.2.2.2.2.2.2.2.2.2.2.2.2.2.2.2.2.1)) && ((bt201.2.2.2.2.2.2.2.2.2.2.2.2.2.2.2.2.2.2.2.1 == bt222.2.2.2.2.2.2.2.2.2.2.2.2.2.2.2.2.2.2.2.1 && (bt201.2.2.2.2.2.2.2.2.2.2.2.2.2.2.2.2.2.2.2.2 == bt222.2.2.2.2.2.2.2.2.2.2.2.2.2.2.2.2.2.2.2.2)))))))))))))))))) = true then ((cc_Parse.f k2 y188).bind fun bt243 => (some bt243.1)) else (some false)))) = some r := by rw [if_pos rfl] at H; exact H
                                          clear H
                                          have H := H1
                                          clear H1
                                          replace H := Option.bind_eq_some_iff.mp H
                                          obtain ⟨⟨t201, t202, t203, t204, t205, t206, t207, t208, t209, t210, t211, t212, t213, t214, t215, t216, t217, t218, t219, t220, t221⟩, A590, H⟩ := H
                                          replace H : ((cc_Parse.f k2 y197).bind fun bt222 => (if (t201 == bt222.1 && (t202 == bt222.2.1 && (t203 == bt222.2.2.1 && (t204 == bt222.2.2.2.1 && (t205 == bt222.2.2.2.2.1 && (t206 == bt222.2.2.2.2.2.1 && (t207 == bt222.2.2.2.2.2.2.1 && (t208 == bt222.2.2.2.2.2.2.2.1 && (t209 == bt222.2.2.2.2.2.2.2.2.1 && (t210 == bt222.2.2.2.2.2.2.2.2.2.1 && (t211 == bt222.2.2.2.2.2.2.2.2.2.2.1 && ((t212 == bt222.2.2.2.2.2.2.2.2.2.2.2.1 && (t213 == bt222.2.2.2.2.2.2.2.2.2.2.2.2.1)) && ((t214 == bt222.2.2.2.2.2.2.2.2.2.2.2.2.2.1 && (t215 == bt222.2.2.2.2.2.2.2.2.2.2.2.2.2.2.1)) && ((t216 == bt222.2.2.2.2.2.2.2.2.2.2.2.2.2.2.2.1 && (t217 == bt222.2.2.2.2.2.2.2.2.2.2.2.2.2.2.2.2.1)) && ((t218 == bt222.2.2.2.2.2.2.2.2.2.2.2.2.2.2.2.2.2.1 && (t219 == bt222.2.2.2.2.2.2.2.2.2.2.2.2.2.2.2.2.2.2.1)) && ((t220 == bt222.2.2.2.2.2.2.2.2.2.2.2.2.2.2.2.2.2.2.2.1 && (t221 == bt222.2.2.2.2.2.2.2.2.2.2.2.2.2.2.2.2.2.2.2.2)))))))))))))))))) = true then ((cc_Parse.f k2 y188).bind fun bt243 => (some bt243.1)) else (some false))) = some r := H
                                          have A59 := Aside0.mk A590
                                          clear A590
                                          replace H := Option.bind_eq_some_iff.mp H
                                          obtain ⟨⟨t222, t223, t224, t225, t226, t227, t228, t229, t230, t231, t232, t233, t234, t235, t236, t237, t238, t239, t240, t241, t242⟩, A600, H⟩ := H
                                          replace H : (if (t201 == t222 && (t202 == t223 && (t203 == t224 && (t204 == t225 && (t205 == t226 && (t206 == t227 && (t207 == t228 && (t208 == t229 && (t209 == t230 && (t210 == t231 && (t211 == t232 && ((t212 == t233 && (t213 == t234)) && ((t214 == t235 && (t215 == t236)) && ((t216 == t237 && (t217 == t238)) && ((t218 == t239 && (t219 == t240)) && ((t220 == t241 && (t221 == t242)))))))))))))))))) = true then ((cc_Parse.f k2 y188).bind fun bt243 => (some bt243.1)) else (some false)) = some r := H
                                          have A60 := Aside0.mk A600
                                          clear A600
                                          by_cases c61 : (t201 == t222 && (t202 == t223 && (t203 == t224 && (t204 == t225 && (t205 == t226 && (t206 == t227 && (t207 == t228 && (t208 == t229 && (t209 == t230 && (t210 == t231 && (t211 == t232 && ((t212 == t233 && (t213 == t234)) && ((t214 == t235 && (t215 == t236)) && ((t216 == t237 && (t217 == t238)) && ((t218 == t239 && (t219 == t240)) && ((t220 == t241 && (t221 == t242)))))))))))))))))) = true
                                          · rw [if_pos c61] at H
                                            (try (have c61s := c61; simp at c61s)); (try obtain ⟨c61s1, c61s2⟩ := c61s)
                                            have c61b0 : (t201 == t222 && (t202 == t223 && (t203 == t224 && (t204 == t225 && (t205 == t226 && (t206 == t227 && (t207 == t228 && (t208 == t229 && (t209 == t230 && (t210 == t231 && (t211 == t232 && ((t212 == t233 && (t213 == t234)) && ((t214 == t235 && (t215 == t236)) && ((t216 == t237 && (t217 == t238)) && ((t218 == t239 && (t219 == t240)) && ((t220 == t241 && (t221 == t242)))))))))))))))))) = true := c61
                                            (try (have c61b1 : decide (t201 = t222 && (t202 == t223 && (t203 == t224 && (t204 == t225 && (t205 == t226 && (t206 == t227 && (t207 == t228 && (t208 == t229 && (t209 == t230 && (t210 == t231 && (t211 == t232 && ((t212 == t233 && (t213 == t234)) && ((t214 == t235 && (t215 == t236)) && ((t216 == t237 && (t217 == t238)) && ((t218 == t239 && (t219 == t240)) && ((t220 == t241 && (t221 == t242)))))))))))))))))) = true := by simpa using c61))
                                            (try (have c61b2 : (t201 == t222 && (t202 == t223 && (t203 == t224 && (t204 == t225 && (t205 == t226 && (t206 == t227 && (t207 == t228 && (t208 == t229 && (t209 == t230 && (t210 == t231 && (t211 == t232 && ((t212 == t233 && (t213 == t234)) && ((t214 == t235 && (t215 == t236)) && ((t216 == t237 && (t217 == t238)) && ((t218 == t239 && (t219 == t240)) && ((t220 == t241 && (t221 == t242)))))))))))))))))) = true := by simpa using c61))
                                            clear c61
                                            replace H := Option.bind_eq_some_iff.mp H
                                            obtain ⟨⟨t243, t244, t245, t246, t247, t248, t249, t250, t251, t252, t253, t254, t255, t256, t257, t258, t259, t260, t261, t262, t263⟩, A620, H⟩ := H
                                            replace H : (some t243) = some r := H
                                            have A62 := Aside0.mk A620
                                            clear A620
                                            obtain rfl := Option.some.inj H
                                            try go_wp2
                                            have n0_ := Aside0.mk (below_drew1 HB.out)
                                            clear HB
                                            have HB := n0_
                                            clear n0_
                                            obtain ⟨i064, hi064, _, hsz64, _⟩ := info_parts info9
                                            obtain ⟨hcut64, hA64, hC64⟩ := print_take_of (P := Tryd.prog) Value.string (⟨#[]⟩ : ByteArray) 22 9 .i64 Tryd.underlying22 hi064 hsz64 A0 c0 l0 a3 (of_decide_eq_true (by first | (with_reducible assumption) | assumption)) (of_decide_eq_true (by first | (with_reducible assumption) | assumption)) HC0.out
                                            have HR126 := Aside0.mk (Kd.C_of_reads (h1 := fun _ => rfl) (hA64 _ (Kd.reads_of_C HR0.out)))
                                            have HC126 := Aside0.mk hC64
                                            clear hA64 hC64 hi064 hsz64
                                            obtain ⟨i065, hi065, _, hsz65, _⟩ := info_parts info9
                                            obtain ⟨A65, hcut65, hA65, hC65⟩ := print_drop_of (P := Tryd.prog) Value.string (⟨#[]⟩ : ByteArray) 22 9 .i64 Tryd.underlying22 hi065 hsz65 A0 c0 l0 a3 (of_decide_eq_true (by first | (with_reducible assumption) | assumption)) (of_decide_eq_true (by first | (with_reducible assumption) | assumption)) HC0.out
                                            have HR136 := Aside0.mk (Kd.C_of_reads (h1 := fun _ => rfl) (hA65 _ (Kd.reads_of_C HR0.out)))
                                            have HC136 := Aside0.mk hC65
                                            clear hA65 hC65 hi065 hsz65
                                            refine start_ (n := 17) (S := fun w' => True) (ds := []) #[false, false, false, false, false, false, false, false, false, false, false, false, false, false, false, false, false] (by kernel_rfl) rfl rfl trivial (fun hHeld => ?_); refine with_tabW sprlaw14_CcNames.tab11 sprlaw14_CcNames.bits11 (fun HT_ HW_ => ?_)
                                            generalize wr.drew = w63 at HB HR126 HR136 hHeld ⊢
                                            refine pure_ (i := 1) (N := some 69) (v := ?_) (a' := ?_) #[false, true, false, false, false, false, false, false, false, false, false, false, false, false, false, false, false] rfl rfl (any_of HT_.out (by kernel_rfl)) (fun _ _ _ h => h) (Or.inl ⟨by rfl, ?_⟩) ?_ ?_
                                            rotate_left
                                            · intro w'
                                              go_simp
                                              with_reducible rfl
                                            rotate_left
                                            · simp only [Act.put, List.setIfInBounds_toArray, List.set_cons_zero, List.set_cons_succ, i64_w, i32_w]
                                              rfl
                                            refine pure_ (i := 2) (N := some 70) (v := ?_) (a' := ?_) #[false, true, true, false, false, false, false, false, false, false, false, false, false, false, false, false, false] rfl rfl (any_of HT_.out (by kernel_rfl)) (fun _ _ _ h => h) (Or.inl ⟨by rfl, ?_⟩) ?_ ?_
                                            rotate_left
                                            · intro w'
                                              go_simp
                                              with_reducible rfl
                                            rotate_left
                                            · simp only [Act.put, List.setIfInBounds_toArray, List.set_cons_zero, List.set_cons_succ, i64_w, i32_w]
                                              rfl
                                            refine pure_ (i := 3) (N := some 71) (v := ?_) (a' := ?_) #[false, true, true, true, false, false, false, false, false, false, false, false, false, false, false, false, false] rfl rfl (any_of HT_.out (by kernel_rfl)) (fun _ _ _ h => h) (Or.inl ⟨by rfl, ?_⟩) ?_ ?_
                                            rotate_left
                                            · intro w'
                                              go_simp
                                              with_reducible rfl
                                            rotate_left
                                            · simp only [Act.put, List.setIfInBounds_toArray, List.set_cons_zero, List.set_cons_succ, i64_w, i32_w]
                                              rfl
                                            refine pure_ (i := 5) (N := some 73) (v := ?_) (a' := ?_) #[false, true, true, true, false, true, false, false, false, false, false, false, false, false, false, false, false] rfl rfl (any_of HT_.out (by kernel_rfl)) (fun _ _ _ h => h) (Or.inl ⟨by rfl, ?_⟩) ?_ ?_
                                            rotate_left
                                            · intro w'
                                              go_simp
                                              with_reducible rfl
                                            rotate_left
                                            · simp only [Act.put, List.setIfInBounds_toArray, List.set_cons_zero, List.set_cons_succ, i64_w, i32_w]
                                              rfl
                                            refine pure_ (i := 6) (N := some 74) (v := ?_) (a' := ?_) #[false, true, true, true, false, true, true, false, false, false, false, false, false, false, false, false, false] rfl rfl (any_of HT_.out (by kernel_rfl)) (fun _ _ _ h => h) (Or.inl ⟨by rfl, ?_⟩) ?_ ?_
                                            rotate_left
                                            · intro w'
                                              go_simp
                                              with_reducible rfl
                                            rotate_left
                                            · simp only [Act.put, List.setIfInBounds_toArray, List.set_cons_zero, List.set_cons_succ, i64_w, i32_w]
                                              rfl
                                            refine pure_ (i := 7) (N := some 75) (v := ?_) (a' := ?_) #[false, true, true, true, false, true, true, true, false, false, false, false, false, false, false, false, false] rfl rfl (any_of HT_.out (by kernel_rfl)) (fun _ _ _ h => h) (Or.inl ⟨by rfl, ?_⟩) ?_ ?_
                                            rotate_left
                                            · intro w'
                                              go_simp
                                              with_reducible rfl
                                            rotate_left
                                            · simp only [Act.put, List.setIfInBounds_toArray, List.set_cons_zero, List.set_cons_succ, i64_w, i32_w]
                                              rfl
                                            refine pure_ (i := 8) (N := some 76) (v := ?_) (a' := ?_) #[false, true, true, true, false, true, true, true, true, false, false, false, false, false, false, false, false] rfl rfl (any_of HT_.out (by kernel_rfl)) (fun _ _ _ h => h) (Or.inl ⟨by rfl, ?_⟩) ?_ ?_
                                            rotate_left
                                            · intro w'
                                              go_simp
                                              with_reducible rfl
                                            rotate_left
                                            · simp only [Act.put, List.setIfInBounds_toArray, List.set_cons_zero, List.set_cons_succ, i64_w, i32_w]
                                              rfl
                                            refine pure_ (i := 9) (N := some 77) (v := ?_) (a' := ?_) #[false, true, true, true, false, true, true, true, true, true, false, false, false, false, false, false, false] rfl rfl (any_of HT_.out (by kernel_rfl)) (fun _ _ _ h => h) (Or.inl ⟨by rfl, ?_⟩) ?_ ?_
                                            rotate_left
                                            · intro w'
                                              go_simp
                                              with_reducible rfl
                                            rotate_left
                                            · simp only [Act.put, List.setIfInBounds_toArray, List.set_cons_zero, List.set_cons_succ, i64_w, i32_w]
                                              rfl
                                            refine pure_ (i := 12) (N := some 80) (v := ?_) (a' := ?_) #[false, true, true, true, false, true, true, true, true, true, false, false, true, false, false, false, false] rfl rfl (any_of HT_.out (by kernel_rfl)) (fun _ _ _ h => h) (Or.inl ⟨by rfl, ?_⟩) ?_ ?_
                                            rotate_left
                                            · intro w'
                                              go_simp
                                              with_reducible rfl
                                            rotate_left
                                            · simp only [Act.put, List.setIfInBounds_toArray, List.set_cons_zero, List.set_cons_succ, i64_w, i32_w]
                                              rfl
                                            refine pure_ (i := 13) (N := some 81) (v := ?_) (a' := ?_) #[false, true, true, true, false, true, true, true, true, true, false, false, true, true, false, false, false] rfl rfl (any_of HT_.out (by kernel_rfl)) (fun _ _ _ h => h) (Or.inl ⟨by rfl, ?_⟩) ?_ ?_
                                            rotate_left
                                            · intro w'
                                              go_simp
                                              with_reducible rfl
                                            rotate_left
                                            · simp only [Act.put, List.setIfInBounds_toArray, List.set_cons_zero, List.set_cons_succ, i64_w, i32_w]
                                              rfl
                                            refine pure_ (i := 14) (N := some 82) (v := ?_) (a' := ?_) #[false, true, true, true, false, true, true, true, true, true, false, false, true, true, true, false, false] rfl rfl (any_of HT_.out (by kernel_rfl)) (fun _ _ _ h => h) (Or.inl ⟨by rfl, ?_⟩) ?_ ?_
                                            rotate_left
                                            · intro w'
                                              go_simp
                                              with_reducible rfl
                                            rotate_left
                                            · simp only [Act.put, List.setIfInBounds_toArray, List.set_cons_zero, List.set_cons_succ, i64_w, i32_w]
                                              rfl
                                            refine join_ (σ := Value × Value × Value) 3 #[true, true, true, true, true, true, true, true, true, true, true, false, true, true, true, false, false] (fun s_ => [(68, s_.1), (72, s_.2.1), (78, s_.2.2)]) (fun s_ w' => (Kd.R Kd.string 9 w' w.heap.size (fun k_ => some k_ ≠ (s_.2.2 : Value).ownBlock) s_.2.1 y127) ∧ (Kd.R Kd.string 9 w' w.heap.size (fun k_ => some k_ ≠ (s_.2.1 : Value).ownBlock) s_.2.2 y130) ∧ (Below w.heap.size w w')) ?_ ?_
                                            rotate_left
                                            · intro hCont
                                              refine two_ (i := 0) (j := 10) (Ni := some 68) (Nj := some 78) #[true, true, true, true, false, true, true, true, true, true, false, false, true, true, true, false, false] #[false, true, true, true, false, true, true, true, true, true, true, false, true, true, true, false, false] rfl rfl rfl rfl (two_of HT_.out (by kernel_rfl)) (by decide) (by decide) (fun K hK => ?_) (fun K hK => ?_)
                                              · skip
                                                refine Kd.R_lit_step Kd.string _ 9 ?hg (N := 68) ?hd (xs := ([] : List ByteArray)) (inner := []) (ok := fun _ => True) (okp := fun _ => True) ?hr ?hp (fun _ hk => hk) trivial (Below.refl _ _) (Nat.le_refl _) (by simp) ?_; (case hd => rfl); (case hg => rfl); (case hr => first | (go_simp; done) | (go_simp; rfl)); (case hp => exact (Reps.none _ _))
                                                intro v124 w66 ho67 hb hg_ hnew_
                                                clear hg_ hnew_
                                                (first | rw [← Ny123.out] at ho67 | (simp only [Int.reduceToNat] at ho67; rw [← Ny123.out] at ho67))
                                                have n0_ := Aside0.mk (Kd.R_lower ho67 (below_size (by repeat (first | (with_reducible first | exact HB.out | apply below_alloc | apply pw_below_drewN | apply below_drew1) | exact HB.out))))
                                                have n1_ := Aside0.mk (below_step (by repeat (first | (with_reducible first | exact HB.out | apply below_alloc | apply pw_below_drewN | apply below_drew1) | exact HB.out)) hb)
                                                clear HB
                                                have HO125 := n0_
                                                have HB := n1_
                                                clear n0_ n1_
                                                clear hb ho67
                                                refine hK.out _ _ trivial (fun hHeld => ?_)
                                                clear hK K
                                                refine norm_ (a' := ?_) ?_ ?_
                                                rotate_left
                                                · show Act.put _ (some 68) _ = _
                                                  simp only [Act.put, List.setIfInBounds_toArray, List.set_cons_zero, List.set_cons_succ, i64_w, i32_w]
                                                  rfl
                                                refine two_ (i := 4) (j := 10) (Ni := some 72) (Nj := some 78) #[true, true, true, true, true, true, true, true, true, true, false, false, true, true, true, false, false] #[true, true, true, true, false, true, true, true, true, true, true, false, true, true, true, false, false] rfl rfl rfl rfl (two_of HT_.out (by kernel_rfl)) (by decide) (by decide) (fun K hK => ?_) (fun K hK => ?_)
                                                · skip
                                                  refine Kd.R_append_rows_step Kd.string (w0 := w) w.heap.size (by rfl) (.tmp 68) (.tmp 71) 22 9 (.string ⟨#[]⟩) 16 rfl Tryd.underlying22 info9 rfl (by decide) (by omega) v124 y123 (l0.take (a3 : Int).toNat) _ _ _ (fun _ => True) (fun _ => False) rfl rfl ?aO ?aR (fun _ _ h => h) (fun _ h => h.elim) ?aF ?aB ?aS ?aL ?_
                                                  (case aR => first | (have hl_ : (l0.take (a3 : Int).toNat).length = a3.toNat := (by rw [List.length_take]; have h_ : (a3 : Int) ≤ (l0.length : Int) := of_decide_eq_true (by first | (with_reducible assumption) | assumption); omega); refine (congrArg (fun n_ => ReadsRow _ _ _ _ n_ _) hl_).mp ?_; repeat (first | exact (Kd.C_below HR126.out HB.out) | (with_reducible refine Kd.C_alloc ?_ _) | (with_reducible refine Kd.C_drewN ?_ _) | (with_reducible refine Kd.C_drew ?_))) | (repeat (first | exact (Kd.C_below HR126.out HB.out) | (with_reducible refine Kd.C_alloc ?_ _) | (with_reducible refine Kd.C_drewN ?_ _) | (with_reducible refine Kd.C_drew ?_))))
                                                  (case aB => exact (by repeat (first | (with_reducible first | exact HB.out | apply below_alloc | apply pw_below_drewN | apply below_drew1) | exact HB.out)))
                                                  (case aF => exact (fun _ _ => trivial))
                                                  (case aO => exact (by (with_reducible repeat (first | apply Kd.R_alloc | apply Kd.R_drewN | apply Kd.R_drew)); exact HO125.out))
                                                  (case aS => exact (below_size (by repeat (first | (with_reducible first | exact HB.out | apply below_alloc | apply pw_below_drewN | apply below_drew1) | exact HB.out))))
                                                  (case aL => have := LMc42.out; have hlx_ := (show (l0.take (a3 : Int).toNat).length = a3.toNat from (by rw [List.length_take]; have h_ : (a3 : Int) ≤ (l0.length : Int) := of_decide_eq_true (by first | (with_reducible assumption) | assumption); omega)); omega)
                                                  intro v128 w68 ho hb hg hat
                                                  rw [← Ny127.out] at ho
                                                  have n0_ := Aside0.mk (hb)
                                                  have n1_ := Aside0.mk (ho)
                                                  clear HB
                                                  clear HO125
                                                  have HB := n0_
                                                  have HO129 := n1_
                                                  clear n0_ n1_
                                                  clear ho hb hg hat
                                                  refine hK.out _ _ trivial (fun hHeld => ?_)
                                                  clear hK K
                                                  refine norm_ (a' := ?_) ?_ ?_
                                                  rotate_left
                                                  · show Act.put _ (some 72) _ = _
                                                    simp only [Act.put, List.setIfInBounds_toArray, List.set_cons_zero, List.set_cons_succ, i64_w, i32_w]
                                                    rfl
                                                  refine one_ (i := 10) (N := some 78) #[true, true, true, true, true, true, true, true, true, true, true, false, true, true, true, false, false] rfl rfl (one_of HT_.out (by kernel_rfl)) (by decide) (fun K hK => ?_)
                                                  refine Kd.R_lit_step Kd.string _ 9 ?hg (N := 78) ?hd (xs := ([(((⟨#[120, 45]⟩ : ByteArray) ++ a1) ++ (⟨#[61]⟩ : ByteArray)) ++ a2] : List ByteArray)) (inner := [.string ((((⟨#[120, 45]⟩ : ByteArray) ++ a1) ++ (⟨#[61]⟩ : ByteArray)) ++ a2)]) (ok := fun _ => True) (okp := fun _ => True) ?hr ?hp (fun _ hk => hk) trivial (Below.refl _ _) (Nat.le_refl _) (by simp) ?_; (case hd => rfl); (case hg => rfl); (case hr => first | (go_simp; done) | (go_simp; rfl)); (case hp => exact (Reps.one (show Kd.M Kd.string _ _ _ ((((⟨#[120, 45]⟩ : ByteArray) ++ a1) ++ (⟨#[61]⟩ : ByteArray)) ++ a2) [.string ((((⟨#[120, 45]⟩ : ByteArray) ++ a1) ++ (⟨#[61]⟩ : ByteArray)) ++ a2)] from rfl) (Reps.none _ _)))
                                                  intro v131 w69 ho70 hb hg_ hnew_
                                                  clear hg_ hnew_
                                                  (first | rw [← Ny130.out] at ho70 | (simp only [Int.reduceToNat] at ho70; rw [← Ny130.out] at ho70))
                                                  have n0_ := Aside0.mk (Kd.R_elder' (by (with_reducible repeat (first | apply Kd.R_alloc | apply Kd.R_drewN | apply Kd.R_drew)); exact HO129.out) (Kd.R_base ho70) hb)
                                                  have n1_ := Aside0.mk (Kd.R_lower (Kd.R_new' ho70 (Kd.R_lt (by (with_reducible repeat (first | apply Kd.R_alloc | apply Kd.R_drewN | apply Kd.R_drew)); exact HO129.out))) (below_size (by repeat (first | (with_reducible first | exact HB.out | apply below_alloc | apply pw_below_drewN | apply below_drew1) | exact HB.out))))
                                                  have n2_ := Aside0.mk (below_step (by repeat (first | (with_reducible first | exact HB.out | apply below_alloc | apply pw_below_drewN | apply below_drew1) | exact HB.out)) hb)
                                                  clear HO129
                                                  clear HB
                                                  have HO129 := n0_
                                                  have HO132 := n1_
                                                  have HB := n2_
                                                  clear n0_ n1_ n2_
                                                  clear hb ho70
                                                  refine hK.out _ _ trivial (fun hHeld => ?_)
                                                  clear hK K
                                                  refine norm_ (a' := ?_) ?_ ?_
                                                  rotate_left
                                                  · show Act.put _ (some 78) _ = _
                                                    simp only [Act.put, List.setIfInBounds_toArray, List.set_cons_zero, List.set_cons_succ, i64_w, i32_w]
                                                    rfl
                                                  exact norm_ (by simp only [putAll, Act.put, List.setIfInBounds_toArray, List.set_cons_zero, List.set_cons_succ]) (hCont (v124, v128, v131) _ ⟨(by (with_reducible repeat (first | apply Kd.R_alloc | apply Kd.R_drewN | apply Kd.R_drew)); exact Kd.R_mono HO129.out (fun _ hk => hk.2)), (by (with_reducible repeat (first | apply Kd.R_alloc | apply Kd.R_drewN | apply Kd.R_drew)); exact Kd.R_mono HO132.out (fun _ hk => hk.2)), (by repeat (first | (with_reducible first | exact HB.out | apply below_alloc | apply pw_below_drewN | apply below_drew1) | exact HB.out))⟩)
                                                · skip
                                                  refine Kd.R_lit_step Kd.string _ 9 ?hg (N := 78) ?hd (xs := ([(((⟨#[120, 45]⟩ : ByteArray) ++ a1) ++ (⟨#[61]⟩ : ByteArray)) ++ a2] : List ByteArray)) (inner := [.string ((((⟨#[120, 45]⟩ : ByteArray) ++ a1) ++ (⟨#[61]⟩ : ByteArray)) ++ a2)]) (ok := fun _ => True) (okp := fun _ => True) ?hr ?hp (fun _ hk => hk) trivial (Below.refl _ _) (Nat.le_refl _) (by simp) ?_; (case hd => rfl); (case hg => rfl); (case hr => first | (go_simp; done) | (go_simp; rfl)); (case hp => exact (Reps.one (show Kd.M Kd.string _ _ _ ((((⟨#[120, 45]⟩ : ByteArray) ++ a1) ++ (⟨#[61]⟩ : ByteArray)) ++ a2) [.string ((((⟨#[120, 45]⟩ : ByteArray) ++ a1) ++ (⟨#[61]⟩ : ByteArray)) ++ a2)] from rfl) (Reps.none _ _)))
                                                  intro v131 w68 ho69 hb hg_ hnew_
                                                  clear hg_ hnew_
                                                  (first | rw [← Ny130.out] at ho69 | (simp only [Int.reduceToNat] at ho69; rw [← Ny130.out] at ho69))
                                                  have n0_ := Aside0.mk (Kd.R_elder' (by (with_reducible repeat (first | apply Kd.R_alloc | apply Kd.R_drewN | apply Kd.R_drew)); exact HO125.out) (Kd.R_base ho69) hb)
                                                  have n1_ := Aside0.mk (Kd.R_lower (Kd.R_new' ho69 (Kd.R_lt (by (with_reducible repeat (first | apply Kd.R_alloc | apply Kd.R_drewN | apply Kd.R_drew)); exact HO125.out))) (below_size (by repeat (first | (with_reducible first | exact HB.out | apply below_alloc | apply pw_below_drewN | apply below_drew1) | exact HB.out))))
                                                  have n2_ := Aside0.mk (below_step (by repeat (first | (with_reducible first | exact HB.out | apply below_alloc | apply pw_below_drewN | apply below_drew1) | exact HB.out)) hb)
                                                  clear HO125
                                                  clear HB
                                                  have HO125 := n0_
                                                  have HO132 := n1_
                                                  have HB := n2_
                                                  clear n0_ n1_ n2_
                                                  clear hb ho69
                                                  refine hK.out _ _ trivial (fun hHeld => ?_)
                                                  clear hK K
                                                  refine norm_ (a' := ?_) ?_ ?_
                                                  rotate_left
                                                  · show Act.put _ (some 78) _ = _
                                                    simp only [Act.put, List.setIfInBounds_toArray, List.set_cons_zero, List.set_cons_succ, i64_w, i32_w]
                                                    rfl
                                                  refine one_ (i := 4) (N := some 72) #[true, true, true, true, true, true, true, true, true, true, true, false, true, true, true, false, false] rfl rfl (one_of HT_.out (by kernel_rfl)) (by decide) (fun K hK => ?_)
                                                  refine Kd.R_append_rows_step Kd.string (w0 := w) w.heap.size (by rfl) (.tmp 68) (.tmp 71) 22 9 (.string ⟨#[]⟩) 16 rfl Tryd.underlying22 info9 rfl (by decide) (by omega) v124 y123 (l0.take (a3 : Int).toNat) _ _ _ (fun k_ => some k_ ≠ (v131 : Value).ownBlock) (fun _ => False) rfl rfl ?aO ?aR (fun _ _ h => h) (fun _ h => h.elim) ?aF ?aB ?aS ?aL ?_
                                                  (case aR => first | (have hl_ : (l0.take (a3 : Int).toNat).length = a3.toNat := (by rw [List.length_take]; have h_ : (a3 : Int) ≤ (l0.length : Int) := of_decide_eq_true (by first | (with_reducible assumption) | assumption); omega); refine (congrArg (fun n_ => ReadsRow _ _ _ _ n_ _) hl_).mp ?_; repeat (first | exact (Kd.C_below HR126.out HB.out) | (with_reducible refine Kd.C_alloc ?_ _) | (with_reducible refine Kd.C_drewN ?_ _) | (with_reducible refine Kd.C_drew ?_))) | (repeat (first | exact (Kd.C_below HR126.out HB.out) | (with_reducible refine Kd.C_alloc ?_ _) | (with_reducible refine Kd.C_drewN ?_ _) | (with_reducible refine Kd.C_drew ?_))))
                                                  (case aB => exact (by repeat (first | (with_reducible first | exact HB.out | apply below_alloc | apply pw_below_drewN | apply below_drew1) | exact HB.out)))
                                                  (case aF => exact (fun k_ hk => Kd.fresh' (Kd.R_lt (by (with_reducible repeat (first | apply Kd.R_alloc | apply Kd.R_drewN | apply Kd.R_drew)); exact HO132.out)) k_ hk))
                                                  (case aO => exact (by (with_reducible repeat (first | apply Kd.R_alloc | apply Kd.R_drewN | apply Kd.R_drew)); exact Kd.R_mono HO125.out (fun _ hk => hk.2)))
                                                  (case aS => exact (below_size (by repeat (first | (with_reducible first | exact HB.out | apply below_alloc | apply pw_below_drewN | apply below_drew1) | exact HB.out))))
                                                  (case aL => have := LMc42.out; have hlx_ := (show (l0.take (a3 : Int).toNat).length = a3.toNat from (by rw [List.length_take]; have h_ : (a3 : Int) ≤ (l0.length : Int) := of_decide_eq_true (by first | (with_reducible assumption) | assumption); omega)); omega)
                                                  intro v128 w70 ho hb hg hat
                                                  rw [← Ny127.out] at ho
                                                  have n0_ := Aside0.mk (Kd.R_after (ok := (fun _ => True)) (by (with_reducible repeat (first | apply Kd.R_alloc | apply Kd.R_drewN | apply Kd.R_drew)); exact HO132.out) hg hat)
                                                  have n1_ := Aside0.mk (hb)
                                                  have n2_ := Aside0.mk (ho)
                                                  clear HO132
                                                  clear HB
                                                  clear HO125
                                                  have HO132 := n0_
                                                  have HB := n1_
                                                  have HO129 := n2_
                                                  clear n0_ n1_ n2_
                                                  clear ho hb hg hat
                                                  refine hK.out _ _ trivial (fun hHeld => ?_)
                                                  clear hK K
                                                  refine norm_ (a' := ?_) ?_ ?_
                                                  rotate_left
                                                  · show Act.put _ (some 72) _ = _
                                                    simp only [Act.put, List.setIfInBounds_toArray, List.set_cons_zero, List.set_cons_succ, i64_w, i32_w]
                                                    rfl
                                                  exact norm_ (by simp only [putAll, Act.put, List.setIfInBounds_toArray, List.set_cons_zero, List.set_cons_succ]) (hCont (v124, v128, v131) _ ⟨(by (with_reducible repeat (first | apply Kd.R_alloc | apply Kd.R_drewN | apply Kd.R_drew)); exact HO129.out), (by (with_reducible repeat (first | apply Kd.R_alloc | apply Kd.R_drewN | apply Kd.R_drew)); exact Kd.R_mono HO132.out (fun _ hk => hk.2)), (by repeat (first | (with_reducible first | exact HB.out | apply below_alloc | apply pw_below_drewN | apply below_drew1) | exact HB.out))⟩)
                                              · skip
                                                refine Kd.R_lit_step Kd.string _ 9 ?hg (N := 78) ?hd (xs := ([(((⟨#[120, 45]⟩ : ByteArray) ++ a1) ++ (⟨#[61]⟩ : ByteArray)) ++ a2] : List ByteArray)) (inner := [.string ((((⟨#[120, 45]⟩ : ByteArray) ++ a1) ++ (⟨#[61]⟩ : ByteArray)) ++ a2)]) (ok := fun _ => True) (okp := fun _ => True) ?hr ?hp (fun _ hk => hk) trivial (Below.refl _ _) (Nat.le_refl _) (by simp) ?_; (case hd => rfl); (case hg => rfl); (case hr => first | (go_simp; done) | (go_simp; rfl)); (case hp => exact (Reps.one (show Kd.M Kd.string _ _ _ ((((⟨#[120, 45]⟩ : ByteArray) ++ a1) ++ (⟨#[61]⟩ : ByteArray)) ++ a2) [.string ((((⟨#[120, 45]⟩ : ByteArray) ++ a1) ++ (⟨#[61]⟩ : ByteArray)) ++ a2)] from rfl) (Reps.none _ _)))
                                                intro v131 w66 ho67 hb hg_ hnew_
                                                clear hg_ hnew_
                                                (first | rw [← Ny130.out] at ho67 | (simp only [Int.reduceToNat] at ho67; rw [← Ny130.out] at ho67))
                                                have n0_ := Aside0.mk (Kd.R_lower ho67 (below_size (by repeat (first | (with_reducible first | exact HB.out | apply below_alloc | apply pw_below_drewN | apply below_drew1) | exact HB.out))))
                                                have n1_ := Aside0.mk (below_step (by repeat (first | (with_reducible first | exact HB.out | apply below_alloc | apply pw_below_drewN | apply below_drew1) | exact HB.out)) hb)
                                                clear HB
                                                have HO132 := n0_
                                                have HB := n1_
                                                clear n0_ n1_
                                                clear hb ho67
                                                refine hK.out _ _ trivial (fun hHeld => ?_)
                                                clear hK K
                                                refine norm_ (a' := ?_) ?_ ?_
                                                rotate_left
                                                · show Act.put _ (some 78) _ = _
                                                  simp only [Act.put, List.setIfInBounds_toArray, List.set_cons_zero, List.set_cons_succ, i64_w, i32_w]
                                                  rfl
                                                refine one_ (i := 0) (N := some 68) #[true, true, true, true, false, true, true, true, true, true, true, false, true, true, true, false, false] rfl rfl (one_of HT_.out (by kernel_rfl)) (by decide) (fun K hK => ?_)
                                                refine Kd.R_lit_step Kd.string _ 9 ?hg (N := 68) ?hd (xs := ([] : List ByteArray)) (inner := []) (ok := fun _ => True) (okp := fun _ => True) ?hr ?hp (fun _ hk => hk) trivial (Below.refl _ _) (Nat.le_refl _) (by simp) ?_; (case hd => rfl); (case hg => rfl); (case hr => first | (go_simp; done) | (go_simp; rfl)); (case hp => exact (Reps.none _ _))
                                                intro v124 w68 ho69 hb hg_ hnew_
                                                clear hg_ hnew_
                                                (first | rw [← Ny123.out] at ho69 | (simp only [Int.reduceToNat] at ho69; rw [← Ny123.out] at ho69))
                                                have n0_ := Aside0.mk (Kd.R_elder' (by (with_reducible repeat (first | apply Kd.R_alloc | apply Kd.R_drewN | apply Kd.R_drew)); exact HO132.out) (Kd.R_base ho69) hb)
                                                have n1_ := Aside0.mk (Kd.R_lower (Kd.R_new' ho69 (Kd.R_lt (by (with_reducible repeat (first | apply Kd.R_alloc | apply Kd.R_drewN | apply Kd.R_drew)); exact HO132.out))) (below_size (by repeat (first | (with_reducible first | exact HB.out | apply below_alloc | apply pw_below_drewN | apply below_drew1) | exact HB.out))))
                                                have n2_ := Aside0.mk (below_step (by repeat (first | (with_reducible first | exact HB.out | apply below_alloc | apply pw_below_drewN | apply below_drew1) | exact HB.out)) hb)
                                                clear HO132
                                                clear HB
                                                have HO132 := n0_
                                                have HO125 := n1_
                                                have HB := n2_
                                                clear n0_ n1_ n2_
                                                clear hb ho69
                                                refine hK.out _ _ trivial (fun hHeld => ?_)
                                                clear hK K
                                                refine norm_ (a' := ?_) ?_ ?_
                                                rotate_left
                                                · show Act.put _ (some 68) _ = _
                                                  simp only [Act.put, List.setIfInBounds_toArray, List.set_cons_zero, List.set_cons_succ, i64_w, i32_w]
                                                  rfl
                                                refine one_ (i := 4) (N := some 72) #[true, true, true, true, true, true, true, true, true, true, true, false, true, true, true, false, false] rfl rfl (one_of HT_.out (by kernel_rfl)) (by decide) (fun K hK => ?_)
                                                refine Kd.R_append_rows_step Kd.string (w0 := w) w.heap.size (by rfl) (.tmp 68) (.tmp 71) 22 9 (.string ⟨#[]⟩) 16 rfl Tryd.underlying22 info9 rfl (by decide) (by omega) v124 y123 (l0.take (a3 : Int).toNat) _ _ _ (fun k_ => some k_ ≠ (v131 : Value).ownBlock) (fun _ => False) rfl rfl ?aO ?aR (fun _ _ h => h) (fun _ h => h.elim) ?aF ?aB ?aS ?aL ?_
                                                (case aR => first | (have hl_ : (l0.take (a3 : Int).toNat).length = a3.toNat := (by rw [List.length_take]; have h_ : (a3 : Int) ≤ (l0.length : Int) := of_decide_eq_true (by first | (with_reducible assumption) | assumption); omega); refine (congrArg (fun n_ => ReadsRow _ _ _ _ n_ _) hl_).mp ?_; repeat (first | exact (Kd.C_below HR126.out HB.out) | (with_reducible refine Kd.C_alloc ?_ _) | (with_reducible refine Kd.C_drewN ?_ _) | (with_reducible refine Kd.C_drew ?_))) | (repeat (first | exact (Kd.C_below HR126.out HB.out) | (with_reducible refine Kd.C_alloc ?_ _) | (with_reducible refine Kd.C_drewN ?_ _) | (with_reducible refine Kd.C_drew ?_))))
                                                (case aB => exact (by repeat (first | (with_reducible first | exact HB.out | apply below_alloc | apply pw_below_drewN | apply below_drew1) | exact HB.out)))
                                                (case aF => exact (fun k_ hk => Kd.fresh' (Kd.R_lt (by (with_reducible repeat (first | apply Kd.R_alloc | apply Kd.R_drewN | apply Kd.R_drew)); exact HO132.out)) k_ hk))
                                                (case aO => exact (by (with_reducible repeat (first | apply Kd.R_alloc | apply Kd.R_drewN | apply Kd.R_drew)); exact Kd.R_mono HO125.out (fun _ hk => hk.2)))
                                                (case aS => exact (below_size (by repeat (first | (with_reducible first | exact HB.out | apply below_alloc | apply pw_below_drewN | apply below_drew1) | exact HB.out))))
                                                (case aL => have := LMc42.out; have hlx_ := (show (l0.take (a3 : Int).toNat).length = a3.toNat from (by rw [List.length_take]; have h_ : (a3 : Int) ≤ (l0.length : Int) := of_decide_eq_true (by first | (with_reducible assumption) | assumption); omega)); omega)
                                                intro v128 w70 ho hb hg hat
                                                rw [← Ny127.out] at ho
                                                have n0_ := Aside0.mk (Kd.R_after (ok := (fun _ => True)) (by (with_reducible repeat (first | apply Kd.R_alloc | apply Kd.R_drewN | apply Kd.R_drew)); exact HO132.out) hg hat)
                                                have n1_ := Aside0.mk (hb)
                                                have n2_ := Aside0.mk (ho)
                                                clear HO132
                                                clear HB
                                                clear HO125
                                                have HO132 := n0_
                                                have HB := n1_
                                                have HO129 := n2_
                                                clear n0_ n1_ n2_
                                                clear ho hb hg hat
                                                refine hK.out _ _ trivial (fun hHeld => ?_)
                                                clear hK K
                                                refine norm_ (a' := ?_) ?_ ?_
                                                rotate_left
                                                · show Act.put _ (some 72) _ = _
                                                  simp only [Act.put, List.setIfInBounds_toArray, List.set_cons_zero, List.set_cons_succ, i64_w, i32_w]
                                                  rfl
                                                exact norm_ (by simp only [putAll, Act.put, List.setIfInBounds_toArray, List.set_cons_zero, List.set_cons_succ]) (hCont (v124, v128, v131) _ ⟨(by (with_reducible repeat (first | apply Kd.R_alloc | apply Kd.R_drewN | apply Kd.R_drew)); exact HO129.out), (by (with_reducible repeat (first | apply Kd.R_alloc | apply Kd.R_drewN | apply Kd.R_drew)); exact Kd.R_mono HO132.out (fun _ hk => hk.2)), (by repeat (first | (with_reducible first | exact HB.out | apply below_alloc | apply pw_below_drewN | apply below_drew1) | exact HB.out))⟩)
                                            rintro ⟨v124, v128, v131⟩ w71 ⟨h0_, h1_, h2_⟩
                                            have n0_ : Aside0 (Kd.R Kd.string 9 w71 w.heap.size (fun k_ => some k_ ≠ (v131 : Value).ownBlock) v128 y127) := ⟨h0_⟩
                                            have n1_ : Aside0 (Kd.R Kd.string 9 w71 w.heap.size (fun k_ => some k_ ≠ (v128 : Value).ownBlock) v131 y130) := ⟨h1_⟩
                                            have n2_ : Aside0 (Below w.heap.size w w71) := ⟨h2_⟩
                                            clear HB
                                            clear h0_ h1_ h2_
                                            have HO129 := n0_
                                            have HO132 := n1_
                                            have HB := n2_
                                            clear n0_ n1_ n2_
                                            have hHeld := trivial
                                            obtain ⟨Ao73, co73, eo73⟩ := Kd.R_slice HO132.out
                                            (first | subst eo73 | (injection eo73 with f1_ f2_ f3_; have f4_ := f1_.symm; have f5_ := f3_.symm; clear f1_ f2_ f3_; subst f4_; subst f5_))
                                            refine norm_ (a' := ?_) ?_ ?_
                                            rotate_left
                                            · simp only [putAll, Act.put, List.setIfInBounds_toArray, List.set_cons_zero, List.set_cons_succ]
                                              rfl
                                            refine one_ (i := 11) (N := some 79) #[true, true, true, true, true, true, true, true, true, true, true, true, true, true, true, false, false] rfl rfl (one_of HT_.out (by kernel_rfl)) (by decide) (fun K hK => ?_)
                                            refine Kd.R_append_rows_step Kd.string (w0 := w) w.heap.size (by rfl) (.tmp 72) (.tmp 78) 22 9 (.string ⟨#[]⟩) 16 rfl Tryd.underlying22 info9 rfl (by decide) (by omega) v128 y127 y130 _ _ _ (fun k_ => some k_ ≠ (.slice Ao73 y130.length co73 : Value).ownBlock) (fun _ => False) rfl rfl ?aO ?aR (fun _ _ h => h) (fun _ h => h.elim) ?aF ?aB ?aS ?aL ?_
                                            (case aR => repeat (first | exact (Kd.R_reads' HO132.out).2.2 | (with_reducible refine Kd.C_alloc ?_ _) | (with_reducible refine Kd.C_drewN ?_ _) | (with_reducible refine Kd.C_drew ?_)))
                                            (case aB => exact (by repeat (first | (with_reducible first | exact HB.out | apply below_alloc | apply pw_below_drewN | apply below_drew1) | exact HB.out)))
                                            (case aF => exact (fun k_ hk => Kd.fresh' (Kd.R_lt (by (with_reducible repeat (first | apply Kd.R_alloc | apply Kd.R_drewN | apply Kd.R_drew)); exact HO132.out)) k_ hk))
                                            (case aO => exact (by (with_reducible repeat (first | apply Kd.R_alloc | apply Kd.R_drewN | apply Kd.R_drew)); exact HO129.out))
                                            (case aS => exact (below_size (by repeat (first | (with_reducible first | exact HB.out | apply below_alloc | apply pw_below_drewN | apply below_drew1) | exact HB.out))))
                                            (case aL => have := LMc46.out; omega)
                                            intro v134 w72 ho hb hg hat
                                            rw [← Ny133.out] at ho
                                            have n0_ := Aside0.mk (Kd.R_after (ok := (fun _ => True)) (by (with_reducible repeat (first | apply Kd.R_alloc | apply Kd.R_drewN | apply Kd.R_drew)); exact Kd.R_mono HO132.out (fun _ hk => ⟨trivial, hk⟩)) hg hat)
                                            have n1_ := Aside0.mk (hb)
                                            have n2_ := Aside0.mk (ho)
                                            clear HO132
                                            clear HB
                                            clear HO129
                                            have HO132 := n0_
                                            have HB := n1_
                                            have HO135 := n2_
                                            clear n0_ n1_ n2_
                                            clear ho hb hg hat
                                            refine hK.out _ _ trivial (fun hHeld => ?_)
                                            clear hK K
                                            refine norm_ (a' := ?_) ?_ ?_
                                            rotate_left
                                            · show Act.put _ (some 79) _ = _
                                              simp only [Act.put, List.setIfInBounds_toArray, List.set_cons_zero, List.set_cons_succ, i64_w, i32_w]
                                              rfl
                                            refine one_ (i := 15) (N := some 83) #[true, true, true, true, true, true, true, true, true, true, true, true, true, true, true, true, false] rfl rfl (one_of HT_.out (by kernel_rfl)) (by decide) (fun K hK => ?_)
                                            refine Kd.R_append_rows_step Kd.string (w0 := w) w.heap.size (by rfl) (.tmp 79) (.tmp 82) 22 9 (.string ⟨#[]⟩) 16 rfl Tryd.underlying22 info9 rfl (by decide) (by omega) v134 y133 (l0.drop (a3 : Int).toNat) _ _ _ (fun k_ => some k_ ≠ (.slice Ao73 y130.length co73 : Value).ownBlock) (fun _ => False) rfl rfl ?aO ?aR (fun _ _ h => h) (fun _ h => h.elim) ?aF ?aB ?aS ?aL ?_
                                            (case aR => first | (rw [← show (l0.drop (a3 : Int).toNat).length = (l0.length - a3.toNat) from List.length_drop]; repeat (first | exact (Kd.C_below HR136.out HB.out) | (with_reducible refine Kd.C_alloc ?_ _) | (with_reducible refine Kd.C_drewN ?_ _) | (with_reducible refine Kd.C_drew ?_))) | (repeat (first | exact (Kd.C_below HR136.out HB.out) | (with_reducible refine Kd.C_alloc ?_ _) | (with_reducible refine Kd.C_drewN ?_ _) | (with_reducible refine Kd.C_drew ?_))))
                                            (case aB => exact (by repeat (first | (with_reducible first | exact HB.out | apply below_alloc | apply pw_below_drewN | apply below_drew1) | exact HB.out)))
                                            (case aF => exact (fun k_ hk => Kd.fresh' (Kd.R_lt (by (with_reducible repeat (first | apply Kd.R_alloc | apply Kd.R_drewN | apply Kd.R_drew)); exact HO132.out)) k_ hk))
                                            (case aO => exact (by (with_reducible repeat (first | apply Kd.R_alloc | apply Kd.R_drewN | apply Kd.R_drew)); exact HO135.out))
                                            (case aS => exact (below_size (by repeat (first | (with_reducible first | exact HB.out | apply below_alloc | apply pw_below_drewN | apply below_drew1) | exact HB.out))))
                                            (case aL => have := LMc49.out; have hlx_ := (show (l0.drop (a3 : Int).toNat).length = (l0.length - a3.toNat) from List.length_drop); omega)
                                            intro v138 w74 ho hb hg hat
                                            rw [← Ny137.out] at ho
                                            have n0_ := Aside0.mk (Kd.R_after (ok := (fun _ => True)) (by (with_reducible repeat (first | apply Kd.R_alloc | apply Kd.R_drewN | apply Kd.R_drew)); exact HO132.out) hg hat)
                                            have n1_ := Aside0.mk (hb)
                                            have n2_ := Aside0.mk (ho)
                                            clear HO132
                                            clear HB
                                            clear HO135
                                            have HO132 := n0_
                                            have HB := n1_
                                            have HO139 := n2_
                                            clear n0_ n1_ n2_
                                            clear ho hb hg hat
                                            refine hK.out _ _ trivial (fun hHeld => ?_)
                                            clear hK K
                                            refine norm_ (a' := ?_) ?_ ?_
                                            rotate_left
                                            · show Act.put _ (some 83) _ = _
                                              simp only [Act.put, List.setIfInBounds_toArray, List.set_cons_zero, List.set_cons_succ, i64_w, i32_w]
                                              rfl
                                            refine pure_ (i := 16) (N := some 11) (v := ?_) (a' := ?_) #[true, true, true, true, true, true, true, true, true, true, true, true, true, true, true, true, true] rfl rfl (any_of HT_.out (by kernel_rfl)) (fun _ _ _ h => h) (Or.inl ⟨by rfl, ?_⟩) ?_ ?_
                                            rotate_left
                                            · intro w'
                                              go_simp
                                              with_reducible rfl
                                            rotate_left
                                            · simp only [Act.put, List.setIfInBounds_toArray, List.set_cons_zero, List.set_cons_succ, i64_w, i32_w]
                                              rfl
                                            refine done_ (done_of HT_.out (by kernel_rfl)) ?_
                                            obtain ⟨Ao75, co75, eo75⟩ := Kd.R_slice HO139.out
                                            subst eo75
                                            try go_wp2_with (first | ((with_reducible refine gate_callee (f := 14) rfl ?_); refine goesL_ (some 85) rfl rfl Tryd.func14 (by kernel_rfl) rfl #[.slice Ao75 y137.length co75] rfl (by (try simp only [List.map_toArray, List.map_cons, List.map_nil]); first | done | rfl | (simp only [List.length_drop, List.length_take]; rfl)) ?_; (with_reducible refine (cc_Parse.calls k2 _ _ y137 t140 t141 t142 t143 t144 t145 t146 t147 t148 t149 t150 t151 t152 t153 t154 t155 t156 t157 t158 t159 t160 _ ?side1 ?side2 A50.out).mono ?_); (case side1 => repeat (first | exact (Kd.R_reads' HO139.out).2.2 | (with_reducible refine Kd.C_alloc ?_ _) | (with_reducible refine Kd.C_drewN ?_ _) | (with_reducible refine Kd.C_drew ?_))); (case side2 => exact (Kd.R_reads' HO139.out).2.1); rintro e w76 ⟨rfl, hb⟩; refine ⟨_, rfl, ?_⟩; have n0_ := Aside0.mk (Kd.R_below (by (with_reducible repeat (first | apply Kd.R_alloc | apply Kd.R_drewN | apply Kd.R_drew)); exact HO132.out) hb); have n1_ := Aside0.mk (Kd.R_below (by (with_reducible repeat (first | apply Kd.R_alloc | apply Kd.R_drewN | apply Kd.R_drew)); exact HO139.out) hb); have n2_ := Aside0.mk (below_step (by repeat (first | (with_reducible first | exact HB.out | apply below_alloc | apply pw_below_drewN | apply below_drew1) | exact HB.out)) hb); clear HO132; clear HO139; clear HB; have HO132 := n0_; have HO139 := n1_; have HB := n2_; clear n0_ n1_ n2_; (try clear hb); (try clear hb2); (try clear hk); (try clear hi)) | ((with_reducible refine gate_callee (f := 14) rfl ?_); refine goesL_ (some 87) rfl rfl Tryd.func14 (by kernel_rfl) rfl #[.slice A0 l0.length c0] rfl (by (try simp only [List.map_toArray, List.map_cons, List.map_nil]); first | done | rfl | (simp only [List.length_drop, List.length_take]; rfl)) ?_; (with_reducible refine (cc_Parse.calls k2 _ _ l0 t161 t162 t163 t164 t165 t166 t167 t168 t169 t170 t171 t172 t173 t174 t175 t176 t177 t178 t179 t180 t181 _ ?side1 ?side2 A51.out).mono ?_); (case side1 => repeat (first | exact (Kd.C_below HR0.out HB.out) | (with_reducible refine Kd.C_alloc ?_ _) | (with_reducible refine Kd.C_drewN ?_ _) | (with_reducible refine Kd.C_drew ?_))); (case side2 => exact HC0.out); rintro e w77 ⟨rfl, hb⟩; refine ⟨_, rfl, ?_⟩; have n0_ := Aside0.mk (Kd.R_below (by (with_reducible repeat (first | apply Kd.R_alloc | apply Kd.R_drewN | apply Kd.R_drew)); exact HO132.out) hb); have n1_ := Aside0.mk (Kd.R_below (by (with_reducible repeat (first | apply Kd.R_alloc | apply Kd.R_drewN | apply Kd.R_drew)); exact HO139.out) hb); have n2_ := Aside0.mk (below_step (by repeat (first | (with_reducible first | exact HB.out | apply below_alloc | apply pw_below_drewN | apply below_drew1) | exact HB.out)) hb); clear HO132; clear HO139; clear HB; have HO132 := n0_; have HO139 := n1_; have HB := n2_; clear n0_ n1_ n2_; (try clear hb); (try clear hb2); (try clear hk); (try clear hi)) | ((with_reducible refine gate_callee (f := 10) rfl ?_); refine goesL_ (some 90) rfl rfl Tryd.func10 (by kernel_rfl) rfl #[.slice A0 l0.length c0] rfl (by (try simp only [List.map_toArray, List.map_cons, List.map_nil]); first | done | rfl | (simp only [List.length_drop, List.length_take]; rfl)) ?_; (with_reducible refine (sprref_CopyTexts.calls _ _ l0 t182 _ ?side1 ?side2 A53.out).mono ?_); (case side1 => repeat (first | exact (Kd.C_below HR0.out HB.out) | (with_reducible refine Kd.C_alloc ?_ _) | (with_reducible refine Kd.C_drewN ?_ _) | (with_reducible refine Kd.C_drew ?_))); (case side2 => exact HC0.out); rintro e w78 ⟨v183, rfl, ho0, hb⟩; refine ⟨_, rfl, ?_⟩; have n0_ := Aside0.mk (Kd.R_elder' (by (with_reducible repeat (first | apply Kd.R_alloc | apply Kd.R_drewN | apply Kd.R_drew)); exact HO132.out) (Kd.R_base ho0) hb); have n1_ := Aside0.mk (Kd.R_elder' (by (with_reducible repeat (first | apply Kd.R_alloc | apply Kd.R_drewN | apply Kd.R_drew)); exact HO139.out) (Kd.R_base ho0) hb); have n2_ := Aside0.mk (Kd.R_lower (Kd.R_new' (Kd.R_new' ho0 (Kd.R_lt (by (with_reducible repeat (first | apply Kd.R_alloc | apply Kd.R_drewN | apply Kd.R_drew)); exact HO132.out))) (Kd.R_lt (by (with_reducible repeat (first | apply Kd.R_alloc | apply Kd.R_drewN | apply Kd.R_drew)); exact HO139.out))) (below_size (by repeat (first | (with_reducible first | exact HB.out | apply below_alloc | apply pw_below_drewN | apply below_drew1) | exact HB.out)))); have n3_ := Aside0.mk (below_step (by repeat (first | (with_reducible first | exact HB.out | apply below_alloc | apply pw_below_drewN | apply below_drew1) | exact HB.out)) hb); clear HO132; clear HO139; clear HB; have HO132 := n0_; have HO139 := n1_; have HO184 := n2_; have HB := n3_; clear n0_ n1_ n2_ n3_; (try clear hb); (try clear hb2); (try clear hk); (try clear hi); (try clear ho0)) | ((with_reducible refine gate_dst (N := 91) rfl ?_); (try (refine gate_guard (by rfl) ?_; dsimp only)); refine Kd.R_lit Kd.string _ 9 ?hg (N := 91) ?hd (xs := ([(⟨#[78, 79, 45, 83, 116, 111, 114, 101, 44, 32, 77, 97, 120, 45, 65, 71, 69, 61, 55, 44, 32, 77, 73, 78, 45, 102, 114, 101, 115, 104, 61, 51]⟩ : ByteArray)] : List ByteArray)) (inner := [.string (⟨#[78, 79, 45, 83, 116, 111, 114, 101, 44, 32, 77, 97, 120, 45, 65, 71, 69, 61, 55, 44, 32, 77, 73, 78, 45, 102, 114, 101, 115, 104, 61, 51]⟩ : ByteArray)]) (ok := fun _ => True) (okp := fun _ => True) ?hr ?hp (fun _ hk => hk) trivial (Below.refl _ _) (Nat.le_refl _) (by simp) ?_; (case hd => rfl); (case hg => rfl); (case hr => first | (go_simp; done) | (go_simp; rfl)); (case hp => exact (Reps.one (show Kd.M Kd.string _ _ _ (⟨#[78, 79, 45, 83, 116, 111, 114, 101, 44, 32, 77, 97, 120, 45, 65, 71, 69, 61, 55, 44, 32, 77, 73, 78, 45, 102, 114, 101, 115, 104, 61, 51]⟩ : ByteArray) [.string (⟨#[78, 79, 45, 83, 116, 111, 114, 101, 44, 32, 77, 97, 120, 45, 65, 71, 69, 61, 55, 44, 32, 77, 73, 78, 45, 102, 114, 101, 115, 104, 61, 51]⟩ : ByteArray)] from rfl) (Reps.none _ _))); intro v186 w79 ho80 hb hg_ hnew_; clear hg_ hnew_; (first | rw [← Ny185.out] at ho80 | (simp only [Int.reduceToNat] at ho80; rw [← Ny185.out] at ho80)); have n0_ := Aside0.mk (Kd.R_elder' (by (with_reducible repeat (first | apply Kd.R_alloc | apply Kd.R_drewN | apply Kd.R_drew)); exact HO132.out) (Kd.R_base ho80) hb); have n1_ := Aside0.mk (Kd.R_elder' (by (with_reducible repeat (first | apply Kd.R_alloc | apply Kd.R_drewN | apply Kd.R_drew)); exact HO139.out) (Kd.R_base ho80) hb); have n2_ := Aside0.mk (Kd.R_elder' (by (with_reducible repeat (first | apply Kd.R_alloc | apply Kd.R_drewN | apply Kd.R_drew)); exact HO184.out) (Kd.R_base ho80) hb); have n3_ := Aside0.mk (Kd.R_lower (Kd.R_new' (Kd.R_new' (Kd.R_new' ho80 (Kd.R_lt (by (with_reducible repeat (first | apply Kd.R_alloc | apply Kd.R_drewN | apply Kd.R_drew)); exact HO132.out))) (Kd.R_lt (by (with_reducible repeat (first | apply Kd.R_alloc | apply Kd.R_drewN | apply Kd.R_drew)); exact HO139.out))) (Kd.R_lt (by (with_reducible repeat (first | apply Kd.R_alloc | apply Kd.R_drewN | apply Kd.R_drew)); exact HO184.out))) (below_size (by repeat (first | (with_reducible first | exact HB.out | apply below_alloc | apply pw_below_drewN | apply below_drew1) | exact HB.out)))); have n4_ := Aside0.mk (below_step (by repeat (first | (with_reducible first | exact HB.out | apply below_alloc | apply pw_below_drewN | apply below_drew1) | exact HB.out)) hb); clear HO132; clear HO139; clear HO184; clear HB; have HO132 := n0_; have HO139 := n1_; have HO184 := n2_; have HO187 := n3_; have HB := n4_; clear n0_ n1_ n2_ n3_ n4_; clear hb ho80; obtain ⟨Ao82, co82, eo82⟩ := Kd.R_slice HO187.out; subst eo82) | ((with_reducible refine gate_builtin (b := .append) (xs := #[.tmp 90, .tmp 91]) rfl ?_); (try (refine gate_guard (by rfl) ?_; dsimp only)); at_builtin; refine Kd.R_append_rows Kd.string (w0 := w) w.heap.size rfl (.tmp 90) (.tmp 91) 22 9 (.string ⟨#[]⟩) 16 rfl Tryd.underlying22 info9 rfl (by decide) (by omega) v183 t182 y185 _ _ _ (fun k_ => some k_ ≠ (.slice Ao73 y130.length co73 : Value).ownBlock ∧ some k_ ≠ (.slice Ao75 y137.length co75 : Value).ownBlock ∧ some k_ ≠ (.slice Ao82 y185.length co82 : Value).ownBlock) (fun _ => False) rfl rfl ?aO ?aR (fun _ _ h => h) (fun _ h => h.elim) ?aF ?aB ?aS ?aL ?_; (case aR => repeat (first | exact (Kd.R_reads' HO187.out).2.2 | (with_reducible refine Kd.C_alloc ?_ _) | (with_reducible refine Kd.C_drewN ?_ _) | (with_reducible refine Kd.C_drew ?_))); (case aB => exact (by repeat (first | (with_reducible first | exact HB.out | apply below_alloc | apply pw_below_drewN | apply below_drew1) | exact HB.out))); (case aF => exact (fun k_ hk => ⟨Kd.fresh' (Kd.R_lt (by (with_reducible repeat (first | apply Kd.R_alloc | apply Kd.R_drewN | apply Kd.R_drew)); exact HO132.out)) k_ hk, Kd.fresh' (Kd.R_lt (by (with_reducible repeat (first | apply Kd.R_alloc | apply Kd.R_drewN | apply Kd.R_drew)); exact HO139.out)) k_ hk, Kd.fresh' (Kd.R_lt (by (with_reducible repeat (first | apply Kd.R_alloc | apply Kd.R_drewN | apply Kd.R_drew)); exact HO187.out)) k_ hk⟩)); (case aO => exact (by (with_reducible repeat (first | apply Kd.R_alloc | apply Kd.R_drewN | apply Kd.R_drew)); exact Kd.R_mono HO184.out (fun _ hk => ⟨hk.1.1.2, ⟨hk.1.2, hk.2⟩⟩))); (case aS => exact (below_size (by repeat (first | (with_reducible first | exact HB.out | apply below_alloc | apply pw_below_drewN | apply below_drew1) | exact HB.out)))); (case aL => have := LMc54.out; omega); intro v189 w81 ho hb hg hat; rw [← Ny188.out] at ho; have n0_ := Aside0.mk (Kd.R_after (ok := (fun k_ => some k_ ≠ (.slice Ao75 y137.length co75 : Value).ownBlock ∧ some k_ ≠ (.slice Ao82 y185.length co82 : Value).ownBlock)) (by (with_reducible repeat (first | apply Kd.R_alloc | apply Kd.R_drewN | apply Kd.R_drew)); exact Kd.R_mono HO132.out (fun _ hk => ⟨⟨hk.1.1.2, hk.2⟩, hk.1.2⟩)) hg hat); have n1_ := Aside0.mk (Kd.R_after (ok := (fun k_ => some k_ ≠ (.slice Ao73 y130.length co73 : Value).ownBlock ∧ some k_ ≠ (.slice Ao82 y185.length co82 : Value).ownBlock)) (by (with_reducible repeat (first | apply Kd.R_alloc | apply Kd.R_drewN | apply Kd.R_drew)); exact Kd.R_mono HO139.out (fun _ hk => ⟨⟨hk.1.1, hk.2⟩, hk.1.2⟩)) hg hat); have n2_ := Aside0.mk (Kd.R_after (ok := (fun k_ => some k_ ≠ (.slice Ao73 y130.length co73 : Value).ownBlock ∧ some k_ ≠ (.slice Ao75 y137.length co75 : Value).ownBlock)) (by (with_reducible repeat (first | apply Kd.R_alloc | apply Kd.R_drewN | apply Kd.R_drew)); exact Kd.R_mono HO187.out (fun _ hk => ⟨⟨hk.1.1.2, hk.1.2⟩, hk.2⟩)) hg hat); have n3_ := Aside0.mk (hb); have n4_ := Aside0.mk (ho); clear HO132; clear HO139; clear HO187; clear HB; clear HO184; have HO132 := n0_; have HO139 := n1_; have HO187 := n2_; have HB := n3_; have HO190 := n4_; clear n0_ n1_ n2_ n3_ n4_; clear ho hb hg hat) | ((with_reducible refine gate_callee (f := 10) rfl ?_); refine goesL_ (some 94) rfl rfl Tryd.func10 (by kernel_rfl) rfl #[.slice A0 l0.length c0] rfl (by (try simp only [List.map_toArray, List.map_cons, List.map_nil]); first | done | rfl | (simp only [List.length_drop, List.length_take]; rfl)) ?_; (with_reducible refine (sprref_CopyTexts.calls _ _ l0 t191 _ ?side1 ?side2 A55.out).mono ?_); (case side1 => repeat (first | exact (Kd.C_below HR0.out HB.out) | (with_reducible refine Kd.C_alloc ?_ _) | (with_reducible refine Kd.C_drewN ?_ _) | (with_reducible refine Kd.C_drew ?_))); (case side2 => exact HC0.out); rintro e w83 ⟨v192, rfl, ho0, hb⟩; refine ⟨_, rfl, ?_⟩; have n0_ := Aside0.mk (Kd.R_elder' (by (with_reducible repeat (first | apply Kd.R_alloc | apply Kd.R_drewN | apply Kd.R_drew)); exact HO132.out) (Kd.R_base ho0) hb); have n1_ := Aside0.mk (Kd.R_elder' (by (with_reducible repeat (first | apply Kd.R_alloc | apply Kd.R_drewN | apply Kd.R_drew)); exact HO139.out) (Kd.R_base ho0) hb); have n2_ := Aside0.mk (Kd.R_elder' (by (with_reducible repeat (first | apply Kd.R_alloc | apply Kd.R_drewN | apply Kd.R_drew)); exact HO187.out) (Kd.R_base ho0) hb); have n3_ := Aside0.mk (Kd.R_elder' (by (with_reducible repeat (first | apply Kd.R_alloc | apply Kd.R_drewN | apply Kd.R_drew)); exact HO190.out) (Kd.R_base ho0) hb); have n4_ := Aside0.mk (Kd.R_lower (Kd.R_new' (Kd.R_new' (Kd.R_new' (Kd.R_new' ho0 (Kd.R_lt (by (with_reducible repeat (first | apply Kd.R_alloc | apply Kd.R_drewN | apply Kd.R_drew)); exact HO132.out))) (Kd.R_lt (by (with_reducible repeat (first | apply Kd.R_alloc | apply Kd.R_drewN | apply Kd.R_drew)); exact HO139.out))) (Kd.R_lt (by (with_reducible repeat (first | apply Kd.R_alloc | apply Kd.R_drewN | apply Kd.R_drew)); exact HO187.out))) (Kd.R_lt (by (with_reducible repeat (first | apply Kd.R_alloc | apply Kd.R_drewN | apply Kd.R_drew)); exact HO190.out))) (below_size (by repeat (first | (with_reducible first | exact HB.out | apply below_alloc | apply pw_below_drewN | apply below_drew1) | exact HB.out)))); have n5_ := Aside0.mk (below_step (by repeat (first | (with_reducible first | exact HB.out | apply below_alloc | apply pw_below_drewN | apply below_drew1) | exact HB.out)) hb); clear HO132; clear HO139; clear HO187; clear HO190; clear HB; have HO132 := n0_; have HO139 := n1_; have HO187 := n2_; have HO190 := n3_; have HO193 := n4_; have HB := n5_; clear n0_ n1_ n2_ n3_ n4_ n5_; (try clear hb); (try clear hb2); (try clear hk); (try clear hi); (try clear ho0)) | ((with_reducible refine gate_dst (N := 95) rfl ?_); (try (refine gate_guard (by rfl) ?_; dsimp only)); refine Kd.R_lit Kd.string _ 9 ?hg (N := 95) ?hd (xs := ([(⟨#[110, 111, 45, 115, 116, 111, 114, 101, 44, 32, 109, 97, 120, 45, 97, 103, 101, 61, 55, 44, 32, 109, 105, 110, 45, 102, 114, 101, 115, 104, 61, 51]⟩ : ByteArray)] : List ByteArray)) (inner := [.string (⟨#[110, 111, 45, 115, 116, 111, 114, 101, 44, 32, 109, 97, 120, 45, 97, 103, 101, 61, 55, 44, 32, 109, 105, 110, 45, 102, 114, 101, 115, 104, 61, 51]⟩ : ByteArray)]) (ok := fun _ => True) (okp := fun _ => True) ?hr ?hp (fun _ hk => hk) trivial (Below.refl _ _) (Nat.le_refl _) (by simp) ?_; (case hd => rfl); (case hg => rfl); (case hr => first | (go_simp; done) | (go_simp; rfl)); (case hp => exact (Reps.one (show Kd.M Kd.string _ _ _ (⟨#[110, 111, 45, 115, 116, 111, 114, 101, 44, 32, 109, 97, 120, 45, 97, 103, 101, 61, 55, 44, 32, 109, 105, 110, 45, 102, 114, 101, 115, 104, 61, 51]⟩ : ByteArray) [.string (⟨#[110, 111, 45, 115, 116, 111, 114, 101, 44, 32, 109, 97, 120, 45, 97, 103, 101, 61, 55, 44, 32, 109, 105, 110, 45, 102, 114, 101, 115, 104, 61, 51]⟩ : ByteArray)] from rfl) (Reps.none _ _))); intro v195 w84 ho85 hb hg_ hnew_; clear hg_ hnew_; (first | rw [← Ny194.out] at ho85 | (simp only [Int.reduceToNat] at ho85; rw [← Ny194.out] at ho85)); have n0_ := Aside0.mk (Kd.R_elder' (by (with_reducible repeat (first | apply Kd.R_alloc | apply Kd.R_drewN | apply Kd.R_drew)); exact HO132.out) (Kd.R_base ho85) hb); have n1_ := Aside0.mk (Kd.R_elder' (by (with_reducible repeat (first | apply Kd.R_alloc | apply Kd.R_drewN | apply Kd.R_drew)); exact HO139.out) (Kd.R_base ho85) hb); have n2_ := Aside0.mk (Kd.R_elder' (by (with_reducible repeat (first | apply Kd.R_alloc | apply Kd.R_drewN | apply Kd.R_drew)); exact HO187.out) (Kd.R_base ho85) hb); have n3_ := Aside0.mk (Kd.R_elder' (by (with_reducible repeat (first | apply Kd.R_alloc | apply Kd.R_drewN | apply Kd.R_drew)); exact HO190.out) (Kd.R_base ho85) hb); have n4_ := Aside0.mk (Kd.R_elder' (by (with_reducible repeat (first | apply Kd.R_alloc | apply Kd.R_drewN | apply Kd.R_drew)); exact HO193.out) (Kd.R_base ho85) hb); have n5_ := Aside0.mk (Kd.R_lower (Kd.R_new' (Kd.R_new' (Kd.R_new' (Kd.R_new' (Kd.R_new' ho85 (Kd.R_lt (by (with_reducible repeat (first | apply Kd.R_alloc | apply Kd.R_drewN | apply Kd.R_drew)); exact HO132.out))) (Kd.R_lt (by (with_reducible repeat (first | apply Kd.R_alloc | apply Kd.R_drewN | apply Kd.R_drew)); exact HO139.out))) (Kd.R_lt (by (with_reducible repeat (first | apply Kd.R_alloc | apply Kd.R_drewN | apply Kd.R_drew)); exact HO187.out))) (Kd.R_lt (by (with_reducible repeat (first | apply Kd.R_alloc | apply Kd.R_drewN | apply Kd.R_drew)); exact HO190.out))) (Kd.R_lt (by (with_reducible repeat (first | apply Kd.R_alloc | apply Kd.R_drewN | apply Kd.R_drew)); exact HO193.out))) (below_size (by repeat (first | (with_reducible first | exact HB.out | apply below_alloc | apply pw_below_drewN | apply below_drew1) | exact HB.out)))); have n6_ := Aside0.mk (below_step (by repeat (first | (with_reducible first | exact HB.out | apply below_alloc | apply pw_below_drewN | apply below_drew1) | exact HB.out)) hb); clear HO132; clear HO139; clear HO187; clear HO190; clear HO193; clear HB; have HO132 := n0_; have HO139 := n1_; have HO187 := n2_; have HO190 := n3_; have HO193 := n4_; have HO196 := n5_; have HB := n6_; clear n0_ n1_ n2_ n3_ n4_ n5_ n6_; clear hb ho85; obtain ⟨Ao87, co87, eo87⟩ := Kd.R_slice HO196.out; subst eo87) | ((with_reducible refine gate_builtin (b := .append) (xs := #[.tmp 94, .tmp 95]) rfl ?_); (try (refine gate_guard (by rfl) ?_; dsimp only)); at_builtin; refine Kd.R_append_rows Kd.string (w0 := w) w.heap.size rfl (.tmp 94) (.tmp 95) 22 9 (.string ⟨#[]⟩) 16 rfl Tryd.underlying22 info9 rfl (by decide) (by omega) v192 t191 y194 _ _ _ (fun k_ => some k_ ≠ (.slice Ao73 y130.length co73 : Value).ownBlock ∧ some k_ ≠ (.slice Ao75 y137.length co75 : Value).ownBlock ∧ some k_ ≠ (.slice Ao82 y185.length co82 : Value).ownBlock ∧ some k_ ≠ (v189 : Value).ownBlock ∧ some k_ ≠ (.slice Ao87 y194.length co87 : Value).ownBlock) (fun _ => False) rfl rfl ?aO ?aR (fun _ _ h => h) (fun _ h => h.elim) ?aF ?aB ?aS ?aL ?_; (case aR => repeat (first | exact (Kd.R_reads' HO196.out).2.2 | (with_reducible refine Kd.C_alloc ?_ _) | (with_reducible refine Kd.C_drewN ?_ _) | (with_reducible refine Kd.C_drew ?_))); (case aB => exact (by repeat (first | (with_reducible first | exact HB.out | apply below_alloc | apply pw_below_drewN | apply below_drew1) | exact HB.out))); (case aF => exact (fun k_ hk => ⟨Kd.fresh' (Kd.R_lt (by (with_reducible repeat (first | apply Kd.R_alloc | apply Kd.R_drewN | apply Kd.R_drew)); exact HO132.out)) k_ hk, Kd.fresh' (Kd.R_lt (by (with_reducible repeat (first | apply Kd.R_alloc | apply Kd.R_drewN | apply Kd.R_drew)); exact HO139.out)) k_ hk, Kd.fresh' (Kd.R_lt (by (with_reducible repeat (first | apply Kd.R_alloc | apply Kd.R_drewN | apply Kd.R_drew)); exact HO187.out)) k_ hk, Kd.fresh' (Kd.R_lt (by (with_reducible repeat (first | apply Kd.R_alloc | apply Kd.R_drewN | apply Kd.R_drew)); exact HO190.out)) k_ hk, Kd.fresh' (Kd.R_lt (by (with_reducible repeat (first | apply Kd.R_alloc | apply Kd.R_drewN | apply Kd.R_drew)); exact HO196.out)) k_ hk⟩)); (case aO => exact (by (with_reducible repeat (first | apply Kd.R_alloc | apply Kd.R_drewN | apply Kd.R_drew)); exact Kd.R_mono HO193.out (fun _ hk => ⟨hk.1.1.1.1.2, ⟨hk.1.1.1.2, ⟨hk.1.1.2, ⟨hk.1.2, hk.2⟩⟩⟩⟩))); (case aS => exact (below_size (by repeat (first | (with_reducible first | exact HB.out | apply below_alloc | apply pw_below_drewN | apply below_drew1) | exact HB.out)))); (case aL => have := LMc56.out; omega); intro v198 w86 ho hb hg hat; rw [← Ny197.out] at ho; have n0_ := Aside0.mk (Kd.R_after (ok := (fun k_ => some k_ ≠ (.slice Ao75 y137.length co75 : Value).ownBlock ∧ some k_ ≠ (.slice Ao82 y185.length co82 : Value).ownBlock ∧ some k_ ≠ (v189 : Value).ownBlock ∧ some k_ ≠ (.slice Ao87 y194.length co87 : Value).ownBlock)) (by (with_reducible repeat (first | apply Kd.R_alloc | apply Kd.R_drewN | apply Kd.R_drew)); exact Kd.R_mono HO132.out (fun _ hk => ⟨⟨hk.1.1.1.1, ⟨hk.1.1.1.2, ⟨hk.1.1.2, hk.2⟩⟩⟩, hk.1.2⟩)) hg hat); have n1_ := Aside0.mk (Kd.R_after (ok := (fun k_ => some k_ ≠ (.slice Ao73 y130.length co73 : Value).ownBlock ∧ some k_ ≠ (.slice Ao82 y185.length co82 : Value).ownBlock ∧ some k_ ≠ (v189 : Value).ownBlock ∧ some k_ ≠ (.slice Ao87 y194.length co87 : Value).ownBlock)) (by (with_reducible repeat (first | apply Kd.R_alloc | apply Kd.R_drewN | apply Kd.R_drew)); exact Kd.R_mono HO139.out (fun _ hk => ⟨⟨hk.1.1.1.1, ⟨hk.1.1.1.2, ⟨hk.1.1.2, hk.2⟩⟩⟩, hk.1.2⟩)) hg hat); have n2_ := Aside0.mk (Kd.R_after (ok := (fun k_ => some k_ ≠ (.slice Ao73 y130.length co73 : Value).ownBlock ∧ some k_ ≠ (.slice Ao75 y137.length co75 : Value).ownBlock ∧ some k_ ≠ (v189 : Value).ownBlock ∧ some k_ ≠ (.slice Ao87 y194.length co87 : Value).ownBlock)) (by (with_reducible repeat (first | apply Kd.R_alloc | apply Kd.R_drewN | apply Kd.R_drew)); exact Kd.R_mono HO187.out (fun _ hk => ⟨⟨hk.1.1.1.1, ⟨hk.1.1.1.2, ⟨hk.1.1.2, hk.2⟩⟩⟩, hk.1.2⟩)) hg hat); have n3_ := Aside0.mk (Kd.R_after (ok := (fun k_ => some k_ ≠ (.slice Ao73 y130.length co73 : Value).ownBlock ∧ some k_ ≠ (.slice Ao75 y137.length co75 : Value).ownBlock ∧ some k_ ≠ (.slice Ao82 y185.length co82 : Value).ownBlock ∧ some k_ ≠ (.slice Ao87 y194.length co87 : Value).ownBlock)) (by (with_reducible repeat (first | apply Kd.R_alloc | apply Kd.R_drewN | apply Kd.R_drew)); exact Kd.R_mono HO190.out (fun _ hk => ⟨⟨hk.1.1.1, ⟨hk.1.1.2.1, ⟨hk.1.1.2.2, hk.2⟩⟩⟩, hk.1.2⟩)) hg hat); have n4_ := Aside0.mk (Kd.R_after (ok := (fun k_ => some k_ ≠ (.slice Ao73 y130.length co73 : Value).ownBlock ∧ some k_ ≠ (.slice Ao75 y137.length co75 : Value).ownBlock ∧ some k_ ≠ (.slice Ao82 y185.length co82 : Value).ownBlock ∧ some k_ ≠ (v189 : Value).ownBlock)) (by (with_reducible repeat (first | apply Kd.R_alloc | apply Kd.R_drewN | apply Kd.R_drew)); exact Kd.R_mono HO196.out (fun _ hk => ⟨⟨hk.1.1.1.1.2, ⟨hk.1.1.1.2, ⟨hk.1.1.2, hk.1.2⟩⟩⟩, hk.2⟩)) hg hat); have n5_ := Aside0.mk (hb); have n6_ := Aside0.mk (ho); clear HO132; clear HO139; clear HO187; clear HO190; clear HO196; clear HB; clear HO193; have HO132 := n0_; have HO139 := n1_; have HO187 := n2_; have HO190 := n3_; have HO196 := n4_; have HB := n5_; have HO199 := n6_; clear n0_ n1_ n2_ n3_ n4_ n5_ n6_; clear ho hb hg hat) | ((with_reducible refine gate_callee (f := 8) rfl ?_); refine goesL_ (some 97) rfl rfl Tryd.func8 (by kernel_rfl) rfl #[] rfl (by (try simp only [List.map_toArray, List.map_cons, List.map_nil]); first | done | rfl | (simp only [List.length_drop, List.length_take]; rfl)) ?_; (with_reducible refine (sprlaw14_first.calls k2  true _ A57.out).mono ?_); rintro e w88 ⟨rfl, hb⟩; refine ⟨_, rfl, ?_⟩; have n0_ := Aside0.mk (Kd.R_below (by (with_reducible repeat (first | apply Kd.R_alloc | apply Kd.R_drewN | apply Kd.R_drew)); exact HO132.out) hb); have n1_ := Aside0.mk (Kd.R_below (by (with_reducible repeat (first | apply Kd.R_alloc | apply Kd.R_drewN | apply Kd.R_drew)); exact HO139.out) hb); have n2_ := Aside0.mk (Kd.R_below (by (with_reducible repeat (first | apply Kd.R_alloc | apply Kd.R_drewN | apply Kd.R_drew)); exact HO187.out) hb); have n3_ := Aside0.mk (Kd.R_below (by (with_reducible repeat (first | apply Kd.R_alloc | apply Kd.R_drewN | apply Kd.R_drew)); exact HO190.out) hb); have n4_ := Aside0.mk (Kd.R_below (by (with_reducible repeat (first | apply Kd.R_alloc | apply Kd.R_drewN | apply Kd.R_drew)); exact HO196.out) hb); have n5_ := Aside0.mk (Kd.R_below (by (with_reducible repeat (first | apply Kd.R_alloc | apply Kd.R_drewN | apply Kd.R_drew)); exact HO199.out) hb); have n6_ := Aside0.mk (below_step (by repeat (first | (with_reducible first | exact HB.out | apply below_alloc | apply pw_below_drewN | apply below_drew1) | exact HB.out)) hb); clear HO132; clear HO139; clear HO187; clear HO190; clear HO196; clear HO199; clear HB; have HO132 := n0_; have HO139 := n1_; have HO187 := n2_; have HO190 := n3_; have HO196 := n4_; have HO199 := n5_; have HB := n6_; clear n0_ n1_ n2_ n3_ n4_ n5_ n6_; (try clear hb); (try clear hb2); (try clear hk); (try clear hi); obtain ⟨Ao89, co89, eo89⟩ := Kd.R_slice HO190.out; subst eo89) | (go_at_call 14; (with_reducible refine (cc_Parse.calls k2 _ _ y188 t201 t202 t203 t204 t205 t206 t207 t208 t209 t210 t211 t212 t213 t214 t215 t216 t217 t218 t219 t220 t221 _ ?side1 ?side2 A59.out).mono ?_); (case side1 => repeat (first | exact (Kd.R_reads' HO190.out).2.2 | (with_reducible refine Kd.C_alloc ?_ _) | (with_reducible refine Kd.C_drewN ?_ _) | (with_reducible refine Kd.C_drew ?_))); (case side2 => exact (Kd.R_reads' HO190.out).2.1); rintro e w90 ⟨rfl, hb⟩; have n0_ := Aside0.mk (Kd.R_below (by (with_reducible repeat (first | apply Kd.R_alloc | apply Kd.R_drewN | apply Kd.R_drew)); exact HO132.out) hb); have n1_ := Aside0.mk (Kd.R_below (by (with_reducible repeat (first | apply Kd.R_alloc | apply Kd.R_drewN | apply Kd.R_drew)); exact HO139.out) hb); have n2_ := Aside0.mk (Kd.R_below (by (with_reducible repeat (first | apply Kd.R_alloc | apply Kd.R_drewN | apply Kd.R_drew)); exact HO187.out) hb); have n3_ := Aside0.mk (Kd.R_below (by (with_reducible repeat (first | apply Kd.R_alloc | apply Kd.R_drewN | apply Kd.R_drew)); exact HO190.out) hb); have n4_ := Aside0.mk (Kd.R_below (by (with_reducible repeat (first | apply Kd.R_alloc | apply Kd.R_drewN | apply Kd.R_drew)); exact HO196.out) hb); have n5_ := Aside0.mk (Kd.R_below (by (with_reducible repeat (first | apply Kd.R_alloc | apply Kd.R_drewN | apply Kd.R_drew)); exact HO199.out) hb); have n6_ := Aside0.mk (below_step (by repeat (first | (with_reducible first | exact HB.out | apply below_alloc | apply pw_below_drewN | apply below_drew1) | exact HB.out)) hb); clear HO132; clear HO139; clear HO187; clear HO190; clear HO196; clear HO199; clear HB; have HO132 := n0_; have HO139 := n1_; have HO187 := n2_; have HO190 := n3_; have HO196 := n4_; have HO199 := n5_; have HB := n6_; clear n0_ n1_ n2_ n3_ n4_ n5_ n6_; (try clear hb); (try clear hb2); (try clear hk); (try clear hi); obtain ⟨Ao91, co91, eo91⟩ := Kd.R_slice HO199.out; subst eo91) | (go_at_call 14; (with_reducible refine (cc_Parse.calls k2 _ _ y197 t222 t223 t224 t225 t226 t227 t228 t229 t230 t231 t232 t233 t234 t235 t236 t237 t238 t239 t240 t241 t242 _ ?side1 ?side2 A60.out).mono ?_); (case side1 => repeat (first | exact (Kd.R_reads' HO199.out).2.2 | (with_reducible refine Kd.C_alloc ?_ _) | (with_reducible refine Kd.C_drewN ?_ _) | (with_reducible refine Kd.C_drew ?_))); (case side2 => exact (Kd.R_reads' HO199.out).2.1); rintro e w92 ⟨rfl, hb⟩; have n0_ := Aside0.mk (Kd.R_below (by (with_reducible repeat (first | apply Kd.R_alloc | apply Kd.R_drewN | apply Kd.R_drew)); exact HO132.out) hb); have n1_ := Aside0.mk (Kd.R_below (by (with_reducible repeat (first | apply Kd.R_alloc | apply Kd.R_drewN | apply Kd.R_drew)); exact HO139.out) hb); have n2_ := Aside0.mk (Kd.R_below (by (with_reducible repeat (first | apply Kd.R_alloc | apply Kd.R_drewN | apply Kd.R_drew)); exact HO187.out) hb); have n3_ := Aside0.mk (Kd.R_below (by (with_reducible repeat (first | apply Kd.R_alloc | apply Kd.R_drewN | apply Kd.R_drew)); exact HO190.out) hb); have n4_ := Aside0.mk (Kd.R_below (by (with_reducible repeat (first | apply Kd.R_alloc | apply Kd.R_drewN | apply Kd.R_drew)); exact HO196.out) hb); have n5_ := Aside0.mk (Kd.R_below (by (with_reducible repeat (first | apply Kd.R_alloc | apply Kd.R_drewN | apply Kd.R_drew)); exact HO199.out) hb); have n6_ := Aside0.mk (below_step (by repeat (first | (with_reducible first | exact HB.out | apply below_alloc | apply pw_below_drewN | apply below_drew1) | exact HB.out)) hb); clear HO132; clear HO139; clear HO187; clear HO190; clear HO196; clear HO199; clear HB; have HO132 := n0_; have HO139 := n1_; have HO187 := n2_; have HO190 := n3_; have HO196 := n4_; have HO199 := n5_; have HB := n6_; clear n0_ n1_ n2_ n3_ n4_ n5_ n6_; (try clear hb); (try clear hb2); (try clear hk); (try clear hi)) | (go_at_call 14; (with_reducible refine (cc_Parse.calls k2 _ _ y188 t243 t244 t245 t246 t247 t248 t249 t250 t251 t252 t253 t254 t255 t256 t257 t258 t259 t260 t261 t262 t263 _ ?side1 ?side2 A62.out).mono ?_); (case side1 => repeat (first | exact (Kd.R_reads' HO190.out).2.2 | (with_reducible refine Kd.C_alloc ?_ _) | (with_reducible refine Kd.C_drewN ?_ _) | (with_reducible refine Kd.C_drew ?_))); (case side2 => exact (Kd.R_reads' HO190.out).2.1); rintro e w93 ⟨rfl, hb⟩; have n0_ := Aside0.mk (Kd.R_below (by (with_reducible repeat (first | apply Kd.R_alloc | apply Kd.R_drewN | apply Kd.R_drew)); exact HO132.out) hb); have n1_ := Aside0.mk (Kd.R_below (by (with_reducible repeat (first | apply Kd.R_alloc | apply Kd.R_drewN | apply Kd.R_drew)); exact HO139.out) hb); have n2_ := Aside0.mk (Kd.R_below (by (with_reducible repeat (first | apply Kd.R_alloc | apply Kd.R_drewN | apply Kd.R_drew)); exact HO187.out) hb); have n3_ := Aside0.mk (Kd.R_below (by (with_reducible repeat (first | apply Kd.R_alloc | apply Kd.R_drewN | apply Kd.R_drew)); exact HO190.out) hb); have n4_ := Aside0.mk (Kd.R_below (by (with_reducible repeat (first | apply Kd.R_alloc | apply Kd.R_drewN | apply Kd.R_drew)); exact HO196.out) hb); have n5_ := Aside0.mk (Kd.R_below (by (with_reducible repeat (first | apply Kd.R_alloc | apply Kd.R_drewN | apply Kd.R_drew)); exact HO199.out) hb); have n6_ := Aside0.mk (below_step (by repeat (first | (with_reducible first | exact HB.out | apply below_alloc | apply pw_below_drewN | apply below_drew1) | exact HB.out)) hb); clear HO132; clear HO139; clear HO187; clear HO190; clear HO196; clear HO199; clear HB; have HO132 := n0_; have HO139 := n1_; have HO187 := n2_; have HO190 := n3_; have HO196 := n4_; have HO199 := n5_; have HB := n6_; clear n0_ n1_ n2_ n3_ n4_ n5_ n6_; (try clear hb); (try clear hb2); (try clear hk); (try clear hi)))
                                            go_ret
                                            exact ⟨by first | rfl | (simp [errW_none, errW_some] <;> rfl) | (simp [*, errW_none, errW_some] <;> rfl), by repeat (first | (with_reducible first | exact HB.out | apply below_alloc | apply pw_below_drewN | apply below_drew1) | exact HB.out)⟩
                                          · rw [if_neg c61] at H
                                            have c61b0 : (t201 == t222 && (t202 == t223 && (t203 == t224 && (t204 == t225 && (t205 == t226 && (t206 == t227 && (t207 == t228 && (t208 == t229 && (t209 == t230 && (t210 == t231 && (t211 == t232 && ((t212 == t233 && (t213 == t234)) && ((t214 == t235 && (t215 == t236)) && ((t216 == t237 && (t217 == t238)) && ((t218 == t239 && (t219 == t240)) && ((t220 == t241 && (t221 == t242)))))))))))))))))) = false := by simpa using c61
                                            (try (have c61b1 : decide (t201 = t222 && (t202 == t223 && (t203 == t224 && (t204 == t225 && (t205 == t226 && (t206 == t227 && (t207 == t228 && (t208 == t229 && (t209 == t230 && (t210 == t231 && (t211 == t232 && ((t212 == t233 && (t213 == t234)) && ((t214 == t235 && (t215 == t236)) && ((t216 == t237 && (t217 == t238)) && ((t218 == t239 && (t219 == t240)) && ((t220 == t241 && (t221 == t242)))))))))))))))))) = false := by simpa using c61))
                                            (try (have c61b2 : (t201 == t222 && (t202 == t223 && (t203 == t224 && (t204 == t225 && (t205 == t226 && (t206 == t227 && (t207 == t228 && (t208 == t229 && (t209 == t230 && (t210 == t231 && (t211 == t232 && ((t212 == t233 && (t213 == t234)) && ((t214 == t235 && (t215 == t236)) && ((t216 == t237 && (t217 == t238)) && ((t218 == t239 && (t219 == t240)) && ((t220 == t241 && (t221 == t242)))))))))))))))))) = false := by simpa using c61))
                                            (try (have c61b3 : ¬ (t201 = t222 && (t202 == t223 && (t203 == t224 && (t204 == t225 && (t205 == t226 && (t206 == t227 && (t207 == t228 && (t208 == t229 && (t209 == t230 && (t210 == t231 && (t211 == t232 && ((t212 == t233 && (t213 == t234)) && ((t214 == t235 && (t215 == t236)) && ((t216 == t237 && (t217 == t238)) && ((t218 == t239 && (t219 == t240)) && ((t220 == t241 && (t221 == t242)))))))))))))))))) := by simpa using c61))
                                            clear c61
                                            exact absurd ((Option.some.inj H).trans hT.out) (by decide)
                                        · replace c58 := Bool.eq_false_iff.mpr c58
                                          subst c58
                                          have H1 : (some false) = some r := by rw [if_neg (show ¬ (false = true) by decide)] at H; exact H
                                          clear H
                                          have H := H1
                                          clear H1
                                          exact absurd ((Option.some.inj H).trans hT.out) (by decide)
                                      · rw [if_neg c56] at H
                                        exact absurd H (by simp)
                                    · rw [if_neg c54] at H
                                      exact absurd H (by simp)
                                · rw [if_neg c49] at H
                                  exact absurd H (by simp)
                              · rw [if_neg c46] at H
                                exact absurd H (by simp)
                            · rw [if_neg c45] at H
                              exact absurd H (by simp)
                          · rw [if_neg c44] at H
                            exact absurd H (by simp)
                        · rw [if_neg c43] at H
                          exact absurd H (by simp)
                      · rw [if_neg c42] at H
                        exact absurd H (by simp)
                    · rw [if_neg c41] at H
                      exact absurd H (by simp)
                  · rw [if_neg c40] at H
                    exact absurd H (by simp)
              · rw [if_neg c22] at H
                exact absurd H (by simp)
  · replace c6 := Bool.eq_false_iff.mpr c6
    subst c6
    have H1 : (some false) = some r := by rw [if_neg (show ¬ (false = true) by decide)] at H; exact H
    clear H
    have H := H1
    clear H1
    exact absurd ((Option.some.inj H).trans hT.out) (by decide)

end Go.Proofs.YtifchklfomddhaaDoor.U
