-- Written by a program of this session's (wip/xprint.py), out of the seat's translation.
import Derived.Test.YtldkhokpedfhdaaDoorQ0
import Derived.Test.YtldkhokpedfhdaaDoorQ2
import Derived.Test.YtldkhokpedfhdaaDoorQ3
import Derived.Test.YtldkhokpedfhdaaDoorQ4
namespace Go.Proofs.YtldkhokpedfhdaaDoor.Q
open Go.RowKit Go.Proofs.YtldkhokpedfhdaaDoorW.PrintWords Go.Proofs.YtldkhokpedfhdaaDoorW.PrintLast Go.Proofs.YtldkhokpedfhdaaDoorW.PrintMore
attribute [local go_sem] max2_int min2_int max_two min_two max_three min_three max_four min_four   -- for this text's walks alone
set_option linter.unusedVariables false
set_option linter.unusedSimpArgs false

/-! ### sprlaw7_IpForms: function 7 -/
mutual
def sprlaw7_IpForms.l0 : Nat → Int → ByteArray → ByteArray → ByteArray → Int → Option (Bool)
  | 0, _, _, _, _, _ => none
  | k + 1, x0, x3, x4, x5, x6 => if x6 > 0 then ((some (([(wrap64 (48 + (Int.tmod x6 10))) % 256] : List Int) : List Int)).bind fun y174 => (if (strOfNums y174).size + x3.size ≤ 9223372036854775807 then (sprlaw7_IpForms.l0 k x0 ((strOfNums y174) ++ x3) x4 x5 (wrap64 (Int.tdiv x6 10))) else (none))) else (if x3.toList = ([] : List UInt8) then ((some (([(wrap64 (48 + (Int.tmod x6 10))) % 256] : List Int) : List Int)).bind fun y177 => (if (strOfNums y177).size + x3.size ≤ 9223372036854775807 then (sprlaw7_IpForms.l0 k x0 ((strOfNums y177) ++ x3) x4 x5 (wrap64 (Int.tdiv x6 10))) else (none))) else (sprlaw7_IpForms.l1 k x0 x3 x4 x5 (wrap64 (x0))))
def sprlaw7_IpForms.l1 : Nat → Int → ByteArray → ByteArray → ByteArray → Int → Option (Bool)
  | 0, _, _, _, _, _ => none
  | k + 1, x0, x3, x4, x5, x7 => if x7 > 0 then (if 0 ≤ (Int.tmod x7 16) then (if (Int.tmod x7 16) < 16 then ((some (([bt (⟨#[48, 49, 50, 51, 52, 53, 54, 55, 56, 57, 97, 98, 99, 100, 101, 102]⟩ : ByteArray) (Int.tmod x7 16)] : List Int) : List Int)).bind fun y180 => (if (strOfNums y180).size + x4.size ≤ 9223372036854775807 then (sprlaw7_IpForms.l1 k x0 x3 ((strOfNums y180) ++ x4) x5 (wrap64 (Int.tdiv x7 16))) else (none))) else (none)) else (none)) else (if x4.toList = ([] : List UInt8) then (if 0 ≤ (Int.tmod x7 16) then (if (Int.tmod x7 16) < 16 then ((some (([bt (⟨#[48, 49, 50, 51, 52, 53, 54, 55, 56, 57, 97, 98, 99, 100, 101, 102]⟩ : ByteArray) (Int.tmod x7 16)] : List Int) : List Int)).bind fun y183 => (if (strOfNums y183).size + x4.size ≤ 9223372036854775807 then (sprlaw7_IpForms.l1 k x0 x3 ((strOfNums y183) ++ x4) x5 (wrap64 (Int.tdiv x7 16))) else (none))) else (none)) else (none)) else (sprlaw7_IpForms.l2 k x0 x3 x4 x5 (wrap64 (x0))))
def sprlaw7_IpForms.l2 : Nat → Int → ByteArray → ByteArray → ByteArray → Int → Option (Bool)
  | 0, _, _, _, _, _ => none
  | k + 1, x0, x3, x4, x5, x8 => if x8 > 0 then ((some (([(wrap64 (48 + (Int.tmod x8 8))) % 256] : List Int) : List Int)).bind fun y186 => (if (strOfNums y186).size + x5.size ≤ 9223372036854775807 then (sprlaw7_IpForms.l2 k x0 x3 x4 ((strOfNums y186) ++ x5) (wrap64 (Int.tdiv x8 8))) else (none))) else (if x5.toList = ([] : List UInt8) then ((some (([(wrap64 (48 + (Int.tmod x8 8))) % 256] : List Int) : List Int)).bind fun y189 => (if (strOfNums y189).size + x5.size ≤ 9223372036854775807 then (sprlaw7_IpForms.l2 k x0 x3 x4 ((strOfNums y189) ++ x5) (wrap64 (Int.tdiv x8 8))) else (none))) else ((ip_Parse4.f k x3).bind fun bt192 => (if 2 + x4.size ≤ 9223372036854775807 then ((ip_Parse4.f k ((⟨#[48, 120]⟩ : ByteArray) ++ x4)).bind fun bt194 => (if 1 + x5.size ≤ 9223372036854775807 then ((ip_Parse4.f k ((⟨#[48]⟩ : ByteArray) ++ x5)).bind fun bt196 => ((ip_Print4.f k x0).bind fun t198 => (if t198.size + 1 ≤ 9223372036854775807 then ((ip_Parse4.f k (t198 ++ (⟨#[46]⟩ : ByteArray))).bind fun bt199 => (if 4 + x3.size ≤ 9223372036854775807 then ((ip_Parse4.f k ((⟨#[50, 53, 54, 46]⟩ : ByteArray) ++ x3)).bind fun bt201 => ((ip_Parse4.f k (⟨#[52, 50, 57, 52, 57, 54, 55, 50, 57, 54]⟩ : ByteArray)).bind fun bt203 => ((ip_Parse4.f k (⟨#[49, 46, 50, 46, 51, 46, 52, 46, 53]⟩ : ByteArray)).bind fun bt205 => ((sprlaw7_first.f k).bind fun t207 => (if t207 = true then (if bt192.2 = 0 then (if bt194.2 = 0 then (if bt196.2 = 0 then (if bt199.2 = 0 then (if bt192.1 = x0 then (if bt194.1 = x0 then (if bt196.1 = x0 then (if bt199.1 = x0 then (if bt201.2 = 1 then (if bt203.2 = 1 then (some (bt205.2 == 4)) else (some false)) else (some false)) else (some false)) else (some false)) else (some false)) else (some false)) else (some false)) else (some false)) else (some false)) else (some false)) else (some false)))))) else (none))) else (none)))) else (none))) else (none))))
end
def sprlaw7_IpForms.f (k : Nat) (a0 : Int) : Option (Bool) := (sprlaw7_first.f k).bind fun t173 => (if t173 = true then (sprlaw7_IpForms.l0 k a0 (⟨#[]⟩ : ByteArray) (⟨#[]⟩ : ByteArray) (⟨#[]⟩ : ByteArray) (wrap64 (a0))) else (some false))
theorem sprlaw7_IpForms.mono_l : ∀ k, (∀ y0 y1 y2 y3 y4, LeO (sprlaw7_IpForms.l0 k y0 y1 y2 y3 y4) (sprlaw7_IpForms.l0 (k + 1) y0 y1 y2 y3 y4)) ∧ (∀ y0 y1 y2 y3 y4, LeO (sprlaw7_IpForms.l1 k y0 y1 y2 y3 y4) (sprlaw7_IpForms.l1 (k + 1) y0 y1 y2 y3 y4)) ∧ (∀ y0 y1 y2 y3 y4, LeO (sprlaw7_IpForms.l2 k y0 y1 y2 y3 y4) (sprlaw7_IpForms.l2 (k + 1) y0 y1 y2 y3 y4))
  | 0 => ⟨fun _ _ _ _ _ r h => by simp [sprlaw7_IpForms.l0] at h, fun _ _ _ _ _ r h => by simp [sprlaw7_IpForms.l1] at h, fun _ _ _ _ _ r h => by simp [sprlaw7_IpForms.l2] at h⟩
  | k + 1 => by
    obtain ⟨ih0, ih1, ih2⟩ := sprlaw7_IpForms.mono_l k
    refine ⟨?_, ?_, ?_⟩
    · intro y0 y1 y2 y3 y4
      unfold sprlaw7_IpForms.l0
      repeat' first
      | (with_reducible exact ih0 _ _ _ _ _)
      | (with_reducible exact ih1 _ _ _ _ _)
      | (with_reducible exact ih2 _ _ _ _ _)
      | (with_reducible exact ip_Parse4.mono _ _)
      | (with_reducible exact ip_Print4.mono _ _)
      | (with_reducible exact sprlaw7_first.mono _)
      | (with_reducible exact LeO.refl _)
      | (with_reducible exact LeO.none _)
      | (with_reducible refine LeO.ite ?_ ?_)
      | (with_reducible refine LeO.bind ?_ (fun _ => ?_))
      | exact ih0 _ _ _ _ _
      | exact ih1 _ _ _ _ _
      | exact ih2 _ _ _ _ _
      | exact ip_Parse4.mono _ _
      | exact ip_Print4.mono _ _
      | exact sprlaw7_first.mono _
      | exact LeO.none _
      | refine LeO.ite ?_ ?_
      | refine LeO.bind ?_ (fun _ => ?_)
    · intro y0 y1 y2 y3 y4
      unfold sprlaw7_IpForms.l1
      repeat' first
      | (with_reducible exact ih0 _ _ _ _ _)
      | (with_reducible exact ih1 _ _ _ _ _)
      | (with_reducible exact ih2 _ _ _ _ _)
      | (with_reducible exact ip_Parse4.mono _ _)
      | (with_reducible exact ip_Print4.mono _ _)
      | (with_reducible exact sprlaw7_first.mono _)
      | (with_reducible exact LeO.refl _)
      | (with_reducible exact LeO.none _)
      | (with_reducible refine LeO.ite ?_ ?_)
      | (with_reducible refine LeO.bind ?_ (fun _ => ?_))
      | exact ih0 _ _ _ _ _
      | exact ih1 _ _ _ _ _
      | exact ih2 _ _ _ _ _
      | exact ip_Parse4.mono _ _
      | exact ip_Print4.mono _ _
      | exact sprlaw7_first.mono _
      | exact LeO.none _
      | refine LeO.ite ?_ ?_
      | refine LeO.bind ?_ (fun _ => ?_)
    · intro y0 y1 y2 y3 y4
      unfold sprlaw7_IpForms.l2
      repeat' first
      | (with_reducible exact ih0 _ _ _ _ _)
      | (with_reducible exact ih1 _ _ _ _ _)
      | (with_reducible exact ih2 _ _ _ _ _)
      | (with_reducible exact ip_Parse4.mono _ _)
      | (with_reducible exact ip_Print4.mono _ _)
      | (with_reducible exact sprlaw7_first.mono _)
      | (with_reducible exact LeO.refl _)
      | (with_reducible exact LeO.none _)
      | (with_reducible refine LeO.ite ?_ ?_)
      | (with_reducible refine LeO.bind ?_ (fun _ => ?_))
      | exact ih0 _ _ _ _ _
      | exact ih1 _ _ _ _ _
      | exact ih2 _ _ _ _ _
      | exact ip_Parse4.mono _ _
      | exact ip_Print4.mono _ _
      | exact sprlaw7_first.mono _
      | exact LeO.none _
      | refine LeO.ite ?_ ?_
      | refine LeO.bind ?_ (fun _ => ?_)
theorem sprlaw7_IpForms.mono : ∀ a0 k, LeO (sprlaw7_IpForms.f k a0) (sprlaw7_IpForms.f (k + 1) a0) := by
  intro a0 k
  obtain ⟨ih0, ih1, ih2⟩ := sprlaw7_IpForms.mono_l k
  unfold sprlaw7_IpForms.f
  repeat' first
      | (with_reducible exact ih0 _ _ _ _ _)
      | (with_reducible exact ih1 _ _ _ _ _)
      | (with_reducible exact ih2 _ _ _ _ _)
      | (with_reducible exact ip_Parse4.mono _ _)
      | (with_reducible exact ip_Print4.mono _ _)
      | (with_reducible exact sprlaw7_first.mono _)
      | (with_reducible exact LeO.refl _)
      | (with_reducible exact LeO.none _)
      | (with_reducible refine LeO.ite ?_ ?_)
      | (with_reducible refine LeO.bind ?_ (fun _ => ?_))
      | exact ih0 _ _ _ _ _
      | exact ih1 _ _ _ _ _
      | exact ih2 _ _ _ _ _
      | exact ip_Parse4.mono _ _
      | exact ip_Print4.mono _ _
      | exact sprlaw7_first.mono _
      | exact LeO.none _
      | refine LeO.ite ?_ ?_
      | refine LeO.bind ?_ (fun _ => ?_)
set_option maxHeartbeats 2000000 in
set_option maxRecDepth 100000 in
theorem sprlaw7_IpForms.calls (k : Nat) (a0 : Int) (r : Bool) (w : World) (h : sprlaw7_IpForms.f k a0 = some r) (hT : Aside0 (r = true)) (hT0 : Own.ipW w) :
    Calls Tryd.prog 7 #[.int .u32 a0] w fun e w' => e = .returned (.bool r) ∧ Below w.heap.size w w' := by
  have HT0 := Aside0.mk hT0
  clear hT0
  have HB := Aside0.mk (Below.refl w.heap.size w)
  have H : ((sprlaw7_first.f k).bind fun t173 => (if t173 = true then (sprlaw7_IpForms.l0 k a0 (⟨#[]⟩ : ByteArray) (⟨#[]⟩ : ByteArray) (⟨#[]⟩ : ByteArray) (wrap64 (a0))) else (some false))) = some r := h
  clear h
  replace H := Option.bind_eq_some_iff.mp H
  obtain ⟨t173, A20, H⟩ := H
  replace H : (if t173 = true then (sprlaw7_IpForms.l0 k a0 (⟨#[]⟩ : ByteArray) (⟨#[]⟩ : ByteArray) (⟨#[]⟩ : ByteArray) (wrap64 (a0))) else (some false)) = some r := H
  have A2 := Aside0.mk A20
  clear A20
  by_cases c3 : t173 = true
  · subst c3
    have H1 : (sprlaw7_IpForms.l0 k a0 (⟨#[]⟩ : ByteArray) (⟨#[]⟩ : ByteArray) (⟨#[]⟩ : ByteArray) (wrap64 (a0))) = some r := by rw [if_pos rfl] at H; exact H
    clear H
    have H := H1
    clear H1
    have H' := Aside0.mk H
    clear H
    go_enter Tryd.func7, Tryd.ntmps7
    go_wp2_with (first | ((with_reducible refine gate_callee (f := 9) rfl ?_); refine goesL_ (some 23) rfl rfl Tryd.func9 (by kernel_rfl) rfl #[] rfl (by (try simp only [List.map_toArray, List.map_cons, List.map_nil]); first | done | rfl | (simp only [List.length_drop, List.length_take]; rfl)) ?_; (with_reducible refine (sprlaw7_first.calls k  true _ A2.out (Own.ipW_below HT0.out (by repeat (first | (with_reducible first | exact HB.out | apply below_alloc | apply pw_below_drewN | apply below_drew1) | exact HB.out)))).mono ?_); rintro e w4 ⟨rfl, hb⟩; refine ⟨_, rfl, ?_⟩; have n0_ := Aside0.mk (below_step (by repeat (first | (with_reducible first | exact HB.out | apply below_alloc | apply pw_below_drewN | apply below_drew1) | exact HB.out)) hb); clear HB; have HB := n0_; clear n0_; (try clear hb); (try clear hb2); (try clear hk); (try clear hi)))
    go_loopg [3, 6] k (fun kq v3 v6 w' => ∃ (x3_1 : ByteArray) (x6_1 : Int), v3 = .string x3_1 ∧ v6 = .int .i64 x6_1 ∧ Aside0 (sprlaw7_IpForms.l0 kq a0 x3_1 (⟨#[]⟩ : ByteArray) (⟨#[]⟩ : ByteArray) x6_1 = some r) ∧ Aside0 (kq ≤ k) ∧ Aside0 (Below w.heap.size w w'))
    case atStart => exact ⟨((⟨#[]⟩ : ByteArray)), (wrap64 (a0)), (by first | rfl | (simp; done) | (simp [*]; done)), (by first | rfl | (simp; done) | (simp [*]; done)), H', ⟨Nat.le_refl _⟩, ⟨by repeat (first | (with_reducible first | exact HB.out | apply below_alloc | apply pw_below_drewN | apply below_drew1) | exact HB.out)⟩⟩
    case round =>
      clear H'
      try clear p2
      try clear c3
      obtain ⟨x3_1, x6_1, rfl, rfl, HA, HK1, HB⟩ := hrel
      cases gk with
      | zero => exact absurd HA.out (by simp [sprlaw7_IpForms.l0])
      | succ k1 =>
        have H := HA.out
        clear HA
        simp only [sprlaw7_IpForms.l0] at H
        by_cases c5 : x6_1 > 0
        · rw [if_pos c5] at H
          have c5b0 : decide (0 < x6_1) = true := decide_eq_true c5
          clear c5
          obtain ⟨y174, hy174⟩ : ∃ y_ : List Int, y_ = (([(wrap64 (48 + (Int.tmod x6_1 10))) % 256] : List Int)) := ⟨_, rfl⟩
          replace H : (if (strOfNums y174).size + x3_1.size ≤ 9223372036854775807 then (sprlaw7_IpForms.l0 k1 a0 ((strOfNums y174) ++ x3_1) (⟨#[]⟩ : ByteArray) (⟨#[]⟩ : ByteArray) (wrap64 (Int.tdiv x6_1 10))) else (none)) = some r := by first | (rw [hy174]; with_reducible exact H) | (have H2_ := (Option.bind_some _ _).symm.trans H; rw [hy174]; with_reducible exact H2_) | (have H2_ := (Option.bind_some _ _).symm.trans H; with_reducible exact H2_) | with_reducible exact H | (rw [hy174]; exact H) | exact H
          have Ny174 := Aside0.mk hy174
          clear hy174
          by_cases c6 : (strOfNums y174).size + x3_1.size ≤ 9223372036854775807
          · rw [if_pos c6] at H
            have c6b0 := eq_true c6
            have c6b1 : decide ((strOfNums y174).size + x3_1.size ≤ 9223372036854775807) = true := decide_eq_true c6
            try have c6b2 : (9223372036854775807 < (strOfNums y174).size + x3_1.size) = False := eq_false (Nat.not_lt.2 c6)
            have H' := Aside0.mk H
            clear H
            go_wp2_with (first | ((with_reducible refine gate_dst (N := 39) rfl ?_); refine Kd.R_lit (Kd.int .u8) _ 5 ?hg (N := 39) ?hd (xs := ([(wrap64 (48 + (Int.tmod x6_1 10))) % 256] : List Int)) (inner := [.int .u8 ((wrap64 (48 + (Int.tmod x6_1 10))) % 256)]) (ok := fun _ => True) (okp := fun _ => True) ?hr ?hp (fun _ hk => hk) trivial (Below.refl _ _) (Nat.le_refl _) (by simp) ?_; (case hd => rfl); (case hg => rfl); (case hr => first | (go_simp; done) | (go_simp; rfl)); (case hp => exact (Reps.one (show Kd.M (Kd.int .u8) _ _ _ ((wrap64 (48 + (Int.tmod x6_1 10))) % 256) [.int .u8 ((wrap64 (48 + (Int.tmod x6_1 10))) % 256)] from rfl) (Reps.none _ _))); intro v175 w7 ho8 hb hg_ hnew_; clear hg_ hnew_; (first | rw [← Ny174.out] at ho8 | (simp only [Int.reduceToNat] at ho8; rw [← Ny174.out] at ho8)); have n0_ := Aside0.mk (Kd.R_lower ho8 (below_size (by repeat (first | (with_reducible first | exact HB.out | apply below_alloc | apply pw_below_drewN | apply below_drew1) | exact HB.out)))); have n1_ := Aside0.mk (below_step (by repeat (first | (with_reducible first | exact HB.out | apply below_alloc | apply pw_below_drewN | apply below_drew1) | exact HB.out)) hb); clear HB; have HO176 := n0_; have HB := n1_; clear n0_ n1_; clear hb ho8; have hcv9 := own_string (P := Tryd.prog) Tryd.underlying40 Tryd.underlying5 Tryd.underlying9 (Kd.own_of_R HO176.out)))
            go_roundg k1
            case measure => have := HK1.out; omega
            case rel => exact ⟨((strOfNums y174) ++ x3_1), (wrap64 (Int.tdiv x6_1 10)), (by first | rfl | (simp; done) | (simp [*]; done)), (by first | rfl | (simp; done) | (simp [*]; done)), H', ⟨by have := HK1.out; omega⟩, ⟨by repeat (first | (with_reducible first | exact HB.out | apply below_alloc | apply pw_below_drewN | apply below_drew1) | exact HB.out)⟩⟩
          · rw [if_neg c6] at H
            exact absurd H (by simp)
        · rw [if_neg c5] at H
          have c5b0 : decide (0 < x6_1) = false := decide_eq_false c5
          clear c5
          by_cases c10 : x3_1.toList = ([] : List UInt8)
          · rw [if_pos c10] at H
            have c10b0 : (x3_1.toList == ([] : List UInt8)) = true := beq_iff_eq.mpr c10
            have c10b1 : (x3_1.toList != ([] : List UInt8)) = false := bne_eq_false_iff_eq.mpr c10
            clear c10
            obtain ⟨y177, hy177⟩ : ∃ y_ : List Int, y_ = (([(wrap64 (48 + (Int.tmod x6_1 10))) % 256] : List Int)) := ⟨_, rfl⟩
            replace H : (if (strOfNums y177).size + x3_1.size ≤ 9223372036854775807 then (sprlaw7_IpForms.l0 k1 a0 ((strOfNums y177) ++ x3_1) (⟨#[]⟩ : ByteArray) (⟨#[]⟩ : ByteArray) (wrap64 (Int.tdiv x6_1 10))) else (none)) = some r := by first | (rw [hy177]; with_reducible exact H) | (have H2_ := (Option.bind_some _ _).symm.trans H; rw [hy177]; with_reducible exact H2_) | (have H2_ := (Option.bind_some _ _).symm.trans H; with_reducible exact H2_) | with_reducible exact H | (rw [hy177]; exact H) | exact H
            have Ny177 := Aside0.mk hy177
            clear hy177
            by_cases c11 : (strOfNums y177).size + x3_1.size ≤ 9223372036854775807
            · rw [if_pos c11] at H
              have c11b0 := eq_true c11
              have c11b1 : decide ((strOfNums y177).size + x3_1.size ≤ 9223372036854775807) = true := decide_eq_true c11
              try have c11b2 : (9223372036854775807 < (strOfNums y177).size + x3_1.size) = False := eq_false (Nat.not_lt.2 c11)
              have H' := Aside0.mk H
              clear H
              go_wp2_with (first | ((with_reducible refine gate_dst (N := 39) rfl ?_); refine Kd.R_lit (Kd.int .u8) _ 5 ?hg (N := 39) ?hd (xs := ([(wrap64 (48 + (Int.tmod x6_1 10))) % 256] : List Int)) (inner := [.int .u8 ((wrap64 (48 + (Int.tmod x6_1 10))) % 256)]) (ok := fun _ => True) (okp := fun _ => True) ?hr ?hp (fun _ hk => hk) trivial (Below.refl _ _) (Nat.le_refl _) (by simp) ?_; (case hd => rfl); (case hg => rfl); (case hr => first | (go_simp; done) | (go_simp; rfl)); (case hp => exact (Reps.one (show Kd.M (Kd.int .u8) _ _ _ ((wrap64 (48 + (Int.tmod x6_1 10))) % 256) [.int .u8 ((wrap64 (48 + (Int.tmod x6_1 10))) % 256)] from rfl) (Reps.none _ _))); intro v178 w12 ho13 hb hg_ hnew_; clear hg_ hnew_; (first | rw [← Ny177.out] at ho13 | (simp only [Int.reduceToNat] at ho13; rw [← Ny177.out] at ho13)); have n0_ := Aside0.mk (Kd.R_lower ho13 (below_size (by repeat (first | (with_reducible first | exact HB.out | apply below_alloc | apply pw_below_drewN | apply below_drew1) | exact HB.out)))); have n1_ := Aside0.mk (below_step (by repeat (first | (with_reducible first | exact HB.out | apply below_alloc | apply pw_below_drewN | apply below_drew1) | exact HB.out)) hb); clear HB; have HO179 := n0_; have HB := n1_; clear n0_ n1_; clear hb ho13; have hcv14 := own_string (P := Tryd.prog) Tryd.underlying40 Tryd.underlying5 Tryd.underlying9 (Kd.own_of_R HO179.out)))
              go_roundg k1
              case measure => have := HK1.out; omega
              case rel => exact ⟨((strOfNums y177) ++ x3_1), (wrap64 (Int.tdiv x6_1 10)), (by first | rfl | (simp; done) | (simp [*]; done)), (by first | rfl | (simp; done) | (simp [*]; done)), H', ⟨by have := HK1.out; omega⟩, ⟨by repeat (first | (with_reducible first | exact HB.out | apply below_alloc | apply pw_below_drewN | apply below_drew1) | exact HB.out)⟩⟩
            · rw [if_neg c11] at H
              exact absurd H (by simp)
          · rw [if_neg c10] at H
            have c10b0 : (x3_1.toList == ([] : List UInt8)) = false := beq_eq_false_iff_ne.mpr c10
            have c10b1 : (x3_1.toList != ([] : List UInt8)) = true := bne_iff_ne.mpr c10
            have H' := Aside0.mk H
            clear H
            go_wp2
            go_loopg [4, 7] k1 (fun kq v4 v7 w' => ∃ (x4_2 : ByteArray) (x7_2 : Int), v4 = .string x4_2 ∧ v7 = .int .i64 x7_2 ∧ Aside0 (sprlaw7_IpForms.l1 kq a0 x3_1 x4_2 (⟨#[]⟩ : ByteArray) x7_2 = some r) ∧ Aside0 (kq ≤ k1) ∧ Aside0 (Below w.heap.size w w'))
            case atStart => exact ⟨((⟨#[]⟩ : ByteArray)), (wrap64 (a0)), (by first | rfl | (simp; done) | (simp [*]; done)), (by first | rfl | (simp; done) | (simp [*]; done)), H', ⟨Nat.le_refl _⟩, ⟨by repeat (first | (with_reducible first | exact HB.out | apply below_alloc | apply pw_below_drewN | apply below_drew1) | exact HB.out)⟩⟩
            case round =>
              clear H'
              try clear c1
              try clear hcv1
              try clear p2
              try clear c3
              try clear c5
              try clear c5b0
              try clear c6
              try clear c6b0
              try clear c6b1
              try clear c6b2
              try clear p6
              try clear c7
              try clear c9
              try clear hcv9
              try clear c10
              try clear c10b0
              try clear c10b1
              try clear c11
              try clear c11b0
              try clear c11b1
              try clear c11b2
              try clear hcv14
              try clear p2
              obtain ⟨x4_2, x7_2, rfl, rfl, HA, HK2, HB⟩ := hrel
              cases gk with
              | zero => exact absurd HA.out (by simp [sprlaw7_IpForms.l1])
              | succ k2 =>
                have H := HA.out
                clear HA
                simp only [sprlaw7_IpForms.l1] at H
                by_cases c15 : x7_2 > 0
                · rw [if_pos c15] at H
                  have c15b0 : decide (0 < x7_2) = true := decide_eq_true c15
                  clear c15
                  obtain ⟨ji16, hji16⟩ : ∃ j_ : Int, (Int.tmod x7_2 16) = j_ := ⟨_, rfl⟩
                  replace H : (if 0 ≤ (ji16) then (if (ji16) < 16 then ((some (([bt (⟨#[48, 49, 50, 51, 52, 53, 54, 55, 56, 57, 97, 98, 99, 100, 101, 102]⟩ : ByteArray) (ji16)] : List Int) : List Int)).bind fun y180 => (if (strOfNums y180).size + x4_2.size ≤ 9223372036854775807 then (sprlaw7_IpForms.l1 k2 a0 x3_1 ((strOfNums y180) ++ x4_2) (⟨#[]⟩ : ByteArray) (wrap64 (Int.tdiv x7_2 16))) else (none))) else (none)) else (none)) = some r := by first | (rw [hji16] at H; exact H) | (simp only [hji16] at H ⊢; exact H)
                  by_cases c17 : 0 ≤ (ji16)
                  · rw [if_pos c17] at H
                    have c17b0 : decide (0 ≤ (ji16)) = true := decide_eq_true c17
                    clear c17
                    by_cases c18 : (ji16) < 16
                    · rw [if_pos c18] at H
                      have c18b0 : decide ((ji16) < 16) = true := decide_eq_true c18
                      clear c18
                      obtain ⟨y180, hy180⟩ : ∃ y_ : List Int, y_ = (([bt (⟨#[48, 49, 50, 51, 52, 53, 54, 55, 56, 57, 97, 98, 99, 100, 101, 102]⟩ : ByteArray) (ji16)] : List Int)) := ⟨_, rfl⟩
                      replace H : (if (strOfNums y180).size + x4_2.size ≤ 9223372036854775807 then (sprlaw7_IpForms.l1 k2 a0 x3_1 ((strOfNums y180) ++ x4_2) (⟨#[]⟩ : ByteArray) (wrap64 (Int.tdiv x7_2 16))) else (none)) = some r := by first | (rw [hy180]; with_reducible exact H) | (have H2_ := (Option.bind_some _ _).symm.trans H; rw [hy180]; with_reducible exact H2_) | (have H2_ := (Option.bind_some _ _).symm.trans H; with_reducible exact H2_) | with_reducible exact H | (rw [hy180]; exact H) | exact H
                      have Ny180 := Aside0.mk hy180
                      clear hy180
                      by_cases c20 : (strOfNums y180).size + x4_2.size ≤ 9223372036854775807
                      · rw [if_pos c20] at H
                        have c20b0 := eq_true c20
                        have c20b1 : decide ((strOfNums y180).size + x4_2.size ≤ 9223372036854775807) = true := decide_eq_true c20
                        try have c20b2 : (9223372036854775807 < (strOfNums y180).size + x4_2.size) = False := eq_false (Nat.not_lt.2 c20)
                        have H' := Aside0.mk H
                        clear H
                        have p19 : 0 ≤ ((ji16) : Int) := of_decide_eq_true (by first | (with_reducible assumption) | assumption)
                        have q19 : (ji16) < (16 : Int) := of_decide_eq_true (by first | (with_reducible assumption) | assumption)
                        have hx19 := bt_at (⟨#[48, 49, 50, 51, 52, 53, 54, 55, 56, 57, 97, 98, 99, 100, 101, 102]⟩ : ByteArray) (ji16)
                        replace p19 := eq_true p19
                        replace q19 := eq_true q19
                        go_wp2_with (first | ((with_reducible refine gate_dst (N := 56) rfl ?_); refine Kd.R_lit (Kd.int .u8) _ 5 ?hg (N := 56) ?hd (xs := ([bt (⟨#[48, 49, 50, 51, 52, 53, 54, 55, 56, 57, 97, 98, 99, 100, 101, 102]⟩ : ByteArray) (ji16)] : List Int)) (inner := [.int .u8 (bt (⟨#[48, 49, 50, 51, 52, 53, 54, 55, 56, 57, 97, 98, 99, 100, 101, 102]⟩ : ByteArray) (ji16))]) (ok := fun _ => True) (okp := fun _ => True) ?hr ?hp (fun _ hk => hk) trivial (Below.refl _ _) (Nat.le_refl _) (by simp) ?_; (case hd => rfl); (case hg => rfl); (case hr => first | (go_simp; done) | (go_simp; rfl)); (case hp => exact (Reps.one (show Kd.M (Kd.int .u8) _ _ _ (bt (⟨#[48, 49, 50, 51, 52, 53, 54, 55, 56, 57, 97, 98, 99, 100, 101, 102]⟩ : ByteArray) (ji16)) [.int .u8 (bt (⟨#[48, 49, 50, 51, 52, 53, 54, 55, 56, 57, 97, 98, 99, 100, 101, 102]⟩ : ByteArray) (ji16))] from rfl) (Reps.none _ _))); intro v181 w21 ho22 hb hg_ hnew_; clear hg_ hnew_; (first | rw [← Ny180.out] at ho22 | (simp only [Int.reduceToNat] at ho22; rw [← Ny180.out] at ho22)); have n0_ := Aside0.mk (Kd.R_lower ho22 (below_size (by repeat (first | (with_reducible first | exact HB.out | apply below_alloc | apply pw_below_drewN | apply below_drew1) | exact HB.out)))); have n1_ := Aside0.mk (below_step (by repeat (first | (with_reducible first | exact HB.out | apply below_alloc | apply pw_below_drewN | apply below_drew1) | exact HB.out)) hb); clear HB; have HO182 := n0_; have HB := n1_; clear n0_ n1_; clear hb ho22; have hcv23 := own_string (P := Tryd.prog) Tryd.underlying40 Tryd.underlying5 Tryd.underlying9 (Kd.own_of_R HO182.out)))
                        go_roundg k2
                        case measure => have := HK1.out; have := HK2.out; omega
                        case rel => exact ⟨((strOfNums y180) ++ x4_2), (wrap64 (Int.tdiv x7_2 16)), (by first | rfl | (simp; done) | (simp [*]; done)), (by first | rfl | (simp; done) | (simp [*]; done)), H', ⟨by have := HK1.out; have := HK2.out; omega⟩, ⟨by repeat (first | (with_reducible first | exact HB.out | apply below_alloc | apply pw_below_drewN | apply below_drew1) | exact HB.out)⟩⟩
                      · rw [if_neg c20] at H
                        exact absurd H (by simp)
                    · rw [if_neg c18] at H
                      exact absurd H (by simp)
                  · rw [if_neg c17] at H
                    exact absurd H (by simp)
                · rw [if_neg c15] at H
                  have c15b0 : decide (0 < x7_2) = false := decide_eq_false c15
                  clear c15
                  by_cases c24 : x4_2.toList = ([] : List UInt8)
                  · rw [if_pos c24] at H
                    have c24b0 : (x4_2.toList == ([] : List UInt8)) = true := beq_iff_eq.mpr c24
                    have c24b1 : (x4_2.toList != ([] : List UInt8)) = false := bne_eq_false_iff_eq.mpr c24
                    clear c24
                    obtain ⟨ji25, hji25⟩ : ∃ j_ : Int, (Int.tmod x7_2 16) = j_ := ⟨_, rfl⟩
                    replace H : (if 0 ≤ (ji25) then (if (ji25) < 16 then ((some (([bt (⟨#[48, 49, 50, 51, 52, 53, 54, 55, 56, 57, 97, 98, 99, 100, 101, 102]⟩ : ByteArray) (ji25)] : List Int) : List Int)).bind fun y183 => (if (strOfNums y183).size + x4_2.size ≤ 9223372036854775807 then (sprlaw7_IpForms.l1 k2 a0 x3_1 ((strOfNums y183) ++ x4_2) (⟨#[]⟩ : ByteArray) (wrap64 (Int.tdiv x7_2 16))) else (none))) else (none)) else (none)) = some r := by first | (rw [hji25] at H; exact H) | (simp only [hji25] at H ⊢; exact H)
                    by_cases c26 : 0 ≤ (ji25)
                    · rw [if_pos c26] at H
                      have c26b0 : decide (0 ≤ (ji25)) = true := decide_eq_true c26
                      clear c26
                      by_cases c27 : (ji25) < 16
                      · rw [if_pos c27] at H
                        have c27b0 : decide ((ji25) < 16) = true := decide_eq_true c27
                        clear c27
                        obtain ⟨y183, hy183⟩ : ∃ y_ : List Int, y_ = (([bt (⟨#[48, 49, 50, 51, 52, 53, 54, 55, 56, 57, 97, 98, 99, 100, 101, 102]⟩ : ByteArray) (ji25)] : List Int)) := ⟨_, rfl⟩
                        replace H : (if (strOfNums y183).size + x4_2.size ≤ 9223372036854775807 then (sprlaw7_IpForms.l1 k2 a0 x3_1 ((strOfNums y183) ++ x4_2) (⟨#[]⟩ : ByteArray) (wrap64 (Int.tdiv x7_2 16))) else (none)) = some r := by first | (rw [hy183]; with_reducible exact H) | (have H2_ := (Option.bind_some _ _).symm.trans H; rw [hy183]; with_reducible exact H2_) | (have H2_ := (Option.bind_some _ _).symm.trans H; with_reducible exact H2_) | with_reducible exact H | (rw [hy183]; exact H) | exact H
                        have Ny183 := Aside0.mk hy183
                        clear hy183
                        by_cases c29 : (strOfNums y183).size + x4_2.size ≤ 9223372036854775807
                        · rw [if_pos c29] at H
                          have c29b0 := eq_true c29
                          have c29b1 : decide ((strOfNums y183).size + x4_2.size ≤ 9223372036854775807) = true := decide_eq_true c29
                          try have c29b2 : (9223372036854775807 < (strOfNums y183).size + x4_2.size) = False := eq_false (Nat.not_lt.2 c29)
                          have H' := Aside0.mk H
                          clear H
                          have p28 : 0 ≤ ((ji25) : Int) := of_decide_eq_true (by first | (with_reducible assumption) | assumption)
                          have q28 : (ji25) < (16 : Int) := of_decide_eq_true (by first | (with_reducible assumption) | assumption)
                          have hx28 := bt_at (⟨#[48, 49, 50, 51, 52, 53, 54, 55, 56, 57, 97, 98, 99, 100, 101, 102]⟩ : ByteArray) (ji25)
                          replace p28 := eq_true p28
                          replace q28 := eq_true q28
                          go_wp2_with (first | ((with_reducible refine gate_dst (N := 56) rfl ?_); refine Kd.R_lit (Kd.int .u8) _ 5 ?hg (N := 56) ?hd (xs := ([bt (⟨#[48, 49, 50, 51, 52, 53, 54, 55, 56, 57, 97, 98, 99, 100, 101, 102]⟩ : ByteArray) (ji25)] : List Int)) (inner := [.int .u8 (bt (⟨#[48, 49, 50, 51, 52, 53, 54, 55, 56, 57, 97, 98, 99, 100, 101, 102]⟩ : ByteArray) (ji25))]) (ok := fun _ => True) (okp := fun _ => True) ?hr ?hp (fun _ hk => hk) trivial (Below.refl _ _) (Nat.le_refl _) (by simp) ?_; (case hd => rfl); (case hg => rfl); (case hr => first | (go_simp; done) | (go_simp; rfl)); (case hp => exact (Reps.one (show Kd.M (Kd.int .u8) _ _ _ (bt (⟨#[48, 49, 50, 51, 52, 53, 54, 55, 56, 57, 97, 98, 99, 100, 101, 102]⟩ : ByteArray) (ji25)) [.int .u8 (bt (⟨#[48, 49, 50, 51, 52, 53, 54, 55, 56, 57, 97, 98, 99, 100, 101, 102]⟩ : ByteArray) (ji25))] from rfl) (Reps.none _ _))); intro v184 w30 ho31 hb hg_ hnew_; clear hg_ hnew_; (first | rw [← Ny183.out] at ho31 | (simp only [Int.reduceToNat] at ho31; rw [← Ny183.out] at ho31)); have n0_ := Aside0.mk (Kd.R_lower ho31 (below_size (by repeat (first | (with_reducible first | exact HB.out | apply below_alloc | apply pw_below_drewN | apply below_drew1) | exact HB.out)))); have n1_ := Aside0.mk (below_step (by repeat (first | (with_reducible first | exact HB.out | apply below_alloc | apply pw_below_drewN | apply below_drew1) | exact HB.out)) hb); clear HB; have HO185 := n0_; have HB := n1_; clear n0_ n1_; clear hb ho31; have hcv32 := own_string (P := Tryd.prog) Tryd.underlying40 Tryd.underlying5 Tryd.underlying9 (Kd.own_of_R HO185.out)))
                          go_roundg k2
                          case measure => have := HK1.out; have := HK2.out; omega
                          case rel => exact ⟨((strOfNums y183) ++ x4_2), (wrap64 (Int.tdiv x7_2 16)), (by first | rfl | (simp; done) | (simp [*]; done)), (by first | rfl | (simp; done) | (simp [*]; done)), H', ⟨by have := HK1.out; have := HK2.out; omega⟩, ⟨by repeat (first | (with_reducible first | exact HB.out | apply below_alloc | apply pw_below_drewN | apply below_drew1) | exact HB.out)⟩⟩
                        · rw [if_neg c29] at H
                          exact absurd H (by simp)
                      · rw [if_neg c27] at H
                        exact absurd H (by simp)
                    · rw [if_neg c26] at H
                      exact absurd H (by simp)
                  · rw [if_neg c24] at H
                    have c24b0 : (x4_2.toList == ([] : List UInt8)) = false := beq_eq_false_iff_ne.mpr c24
                    have c24b1 : (x4_2.toList != ([] : List UInt8)) = true := bne_iff_ne.mpr c24
                    have H' := Aside0.mk H
                    clear H
                    go_wp2
                    go_loopg [5, 8] k2 (fun kq v5 v8 w' => ∃ (x5_3 : ByteArray) (x8_3 : Int), v5 = .string x5_3 ∧ v8 = .int .i64 x8_3 ∧ Aside0 (sprlaw7_IpForms.l2 kq a0 x3_1 x4_2 x5_3 x8_3 = some r) ∧ Aside0 (kq ≤ k2) ∧ Aside0 (Below w.heap.size w w'))
                    case atStart => exact ⟨((⟨#[]⟩ : ByteArray)), (wrap64 (a0)), (by first | rfl | (simp; done) | (simp [*]; done)), (by first | rfl | (simp; done) | (simp [*]; done)), H', ⟨Nat.le_refl _⟩, ⟨by repeat (first | (with_reducible first | exact HB.out | apply below_alloc | apply pw_below_drewN | apply below_drew1) | exact HB.out)⟩⟩
                    case round =>
                      clear H'
                      try clear c1
                      try clear p1
                      try clear q1
                      try clear hx1
                      try clear hcv1
                      try clear c2
                      try clear p2
                      try clear q2
                      try clear hx2
                      try clear hcv2
                      try clear c3
                      try clear hcv3
                      try clear c5
                      try clear c5b0
                      try clear c6
                      try clear c6b0
                      try clear c6b1
                      try clear c6b2
                      try clear p6
                      try clear c7
                      try clear c9
                      try clear hcv9
                      try clear c10
                      try clear c10b0
                      try clear c10b1
                      try clear c11
                      try clear c11b0
                      try clear c11b1
                      try clear c11b2
                      try clear hcv14
                      try clear c15
                      try clear c15b0
                      try clear c17
                      try clear c17b0
                      try clear c18
                      try clear c18b0
                      try clear p19
                      try clear q19
                      try clear hx19
                      try clear c20
                      try clear c20b0
                      try clear c20b1
                      try clear c20b2
                      try clear hcv23
                      try clear c24
                      try clear c24b0
                      try clear c24b1
                      try clear c26
                      try clear c26b0
                      try clear c27
                      try clear c27b0
                      try clear p28
                      try clear q28
                      try clear hx28
                      try clear c29
                      try clear c29b0
                      try clear c29b1
                      try clear c29b2
                      try clear hcv32
                      try clear p19
                      try clear p2
                      try clear p28
                      try clear p6
                      try clear q19
                      try clear q28
                      obtain ⟨x5_3, x8_3, rfl, rfl, HA, HK3, HB⟩ := hrel
                      cases gk with
                      | zero => exact absurd HA.out (by simp [sprlaw7_IpForms.l2])
                      | succ k3 =>
                        have H := HA.out
                        clear HA
                        simp only [sprlaw7_IpForms.l2] at H
                        by_cases c33 : x8_3 > 0
                        · rw [if_pos c33] at H
                          have c33b0 : decide (0 < x8_3) = true := decide_eq_true c33
                          clear c33
                          obtain ⟨y186, hy186⟩ : ∃ y_ : List Int, y_ = (([(wrap64 (48 + (Int.tmod x8_3 8))) % 256] : List Int)) := ⟨_, rfl⟩
                          replace H : (if (strOfNums y186).size + x5_3.size ≤ 9223372036854775807 then (sprlaw7_IpForms.l2 k3 a0 x3_1 x4_2 ((strOfNums y186) ++ x5_3) (wrap64 (Int.tdiv x8_3 8))) else (none)) = some r := by first | (rw [hy186]; with_reducible exact H) | (have H2_ := (Option.bind_some _ _).symm.trans H; rw [hy186]; with_reducible exact H2_) | (have H2_ := (Option.bind_some _ _).symm.trans H; with_reducible exact H2_) | with_reducible exact H | (rw [hy186]; exact H) | exact H
                          have Ny186 := Aside0.mk hy186
                          clear hy186
                          by_cases c34 : (strOfNums y186).size + x5_3.size ≤ 9223372036854775807
                          · rw [if_pos c34] at H
                            have c34b0 := eq_true c34
                            have c34b1 : decide ((strOfNums y186).size + x5_3.size ≤ 9223372036854775807) = true := decide_eq_true c34
                            try have c34b2 : (9223372036854775807 < (strOfNums y186).size + x5_3.size) = False := eq_false (Nat.not_lt.2 c34)
                            have H' := Aside0.mk H
                            clear H
                            go_wp2_with (first | ((with_reducible refine gate_dst (N := 74) rfl ?_); refine Kd.R_lit (Kd.int .u8) _ 5 ?hg (N := 74) ?hd (xs := ([(wrap64 (48 + (Int.tmod x8_3 8))) % 256] : List Int)) (inner := [.int .u8 ((wrap64 (48 + (Int.tmod x8_3 8))) % 256)]) (ok := fun _ => True) (okp := fun _ => True) ?hr ?hp (fun _ hk => hk) trivial (Below.refl _ _) (Nat.le_refl _) (by simp) ?_; (case hd => rfl); (case hg => rfl); (case hr => first | (go_simp; done) | (go_simp; rfl)); (case hp => exact (Reps.one (show Kd.M (Kd.int .u8) _ _ _ ((wrap64 (48 + (Int.tmod x8_3 8))) % 256) [.int .u8 ((wrap64 (48 + (Int.tmod x8_3 8))) % 256)] from rfl) (Reps.none _ _))); intro v187 w35 ho36 hb hg_ hnew_; clear hg_ hnew_; (first | rw [← Ny186.out] at ho36 | (simp only [Int.reduceToNat] at ho36; rw [← Ny186.out] at ho36)); have n0_ := Aside0.mk (Kd.R_lower ho36 (below_size (by repeat (first | (with_reducible first | exact HB.out | apply below_alloc | apply pw_below_drewN | apply below_drew1) | exact HB.out)))); have n1_ := Aside0.mk (below_step (by repeat (first | (with_reducible first | exact HB.out | apply below_alloc | apply pw_below_drewN | apply below_drew1) | exact HB.out)) hb); clear HB; have HO188 := n0_; have HB := n1_; clear n0_ n1_; clear hb ho36; have hcv37 := own_string (P := Tryd.prog) Tryd.underlying40 Tryd.underlying5 Tryd.underlying9 (Kd.own_of_R HO188.out)))
                            go_roundg k3
                            case measure => have := HK1.out; have := HK2.out; have := HK3.out; omega
                            case rel => exact ⟨((strOfNums y186) ++ x5_3), (wrap64 (Int.tdiv x8_3 8)), (by first | rfl | (simp; done) | (simp [*]; done)), (by first | rfl | (simp; done) | (simp [*]; done)), H', ⟨by have := HK1.out; have := HK2.out; have := HK3.out; omega⟩, ⟨by repeat (first | (with_reducible first | exact HB.out | apply below_alloc | apply pw_below_drewN | apply below_drew1) | exact HB.out)⟩⟩
                          · rw [if_neg c34] at H
                            exact absurd H (by simp)
                        · rw [if_neg c33] at H
                          have c33b0 : decide (0 < x8_3) = false := decide_eq_false c33
                          clear c33
                          by_cases c38 : x5_3.toList = ([] : List UInt8)
                          · rw [if_pos c38] at H
                            have c38b0 : (x5_3.toList == ([] : List UInt8)) = true := beq_iff_eq.mpr c38
                            have c38b1 : (x5_3.toList != ([] : List UInt8)) = false := bne_eq_false_iff_eq.mpr c38
                            clear c38
                            obtain ⟨y189, hy189⟩ : ∃ y_ : List Int, y_ = (([(wrap64 (48 + (Int.tmod x8_3 8))) % 256] : List Int)) := ⟨_, rfl⟩
                            replace H : (if (strOfNums y189).size + x5_3.size ≤ 9223372036854775807 then (sprlaw7_IpForms.l2 k3 a0 x3_1 x4_2 ((strOfNums y189) ++ x5_3) (wrap64 (Int.tdiv x8_3 8))) else (none)) = some r := by first | (rw [hy189]; with_reducible exact H) | (have H2_ := (Option.bind_some _ _).symm.trans H; rw [hy189]; with_reducible exact H2_) | (have H2_ := (Option.bind_some _ _).symm.trans H; with_reducible exact H2_) | with_reducible exact H | (rw [hy189]; exact H) | exact H
                            have Ny189 := Aside0.mk hy189
                            clear hy189
                            by_cases c39 : (strOfNums y189).size + x5_3.size ≤ 9223372036854775807
                            · rw [if_pos c39] at H
                              have c39b0 := eq_true c39
                              have c39b1 : decide ((strOfNums y189).size + x5_3.size ≤ 9223372036854775807) = true := decide_eq_true c39
                              try have c39b2 : (9223372036854775807 < (strOfNums y189).size + x5_3.size) = False := eq_false (Nat.not_lt.2 c39)
                              have H' := Aside0.mk H
                              clear H
                              go_wp2_with (first | ((with_reducible refine gate_dst (N := 74) rfl ?_); refine Kd.R_lit (Kd.int .u8) _ 5 ?hg (N := 74) ?hd (xs := ([(wrap64 (48 + (Int.tmod x8_3 8))) % 256] : List Int)) (inner := [.int .u8 ((wrap64 (48 + (Int.tmod x8_3 8))) % 256)]) (ok := fun _ => True) (okp := fun _ => True) ?hr ?hp (fun _ hk => hk) trivial (Below.refl _ _) (Nat.le_refl _) (by simp) ?_; (case hd => rfl); (case hg => rfl); (case hr => first | (go_simp; done) | (go_simp; rfl)); (case hp => exact (Reps.one (show Kd.M (Kd.int .u8) _ _ _ ((wrap64 (48 + (Int.tmod x8_3 8))) % 256) [.int .u8 ((wrap64 (48 + (Int.tmod x8_3 8))) % 256)] from rfl) (Reps.none _ _))); intro v190 w40 ho41 hb hg_ hnew_; clear hg_ hnew_; (first | rw [← Ny189.out] at ho41 | (simp only [Int.reduceToNat] at ho41; rw [← Ny189.out] at ho41)); have n0_ := Aside0.mk (Kd.R_lower ho41 (below_size (by repeat (first | (with_reducible first | exact HB.out | apply below_alloc | apply pw_below_drewN | apply below_drew1) | exact HB.out)))); have n1_ := Aside0.mk (below_step (by repeat (first | (with_reducible first | exact HB.out | apply below_alloc | apply pw_below_drewN | apply below_drew1) | exact HB.out)) hb); clear HB; have HO191 := n0_; have HB := n1_; clear n0_ n1_; clear hb ho41; have hcv42 := own_string (P := Tryd.prog) Tryd.underlying40 Tryd.underlying5 Tryd.underlying9 (Kd.own_of_R HO191.out)))
                              go_roundg k3
                              case measure => have := HK1.out; have := HK2.out; have := HK3.out; omega
                              case rel => exact ⟨((strOfNums y189) ++ x5_3), (wrap64 (Int.tdiv x8_3 8)), (by first | rfl | (simp; done) | (simp [*]; done)), (by first | rfl | (simp; done) | (simp [*]; done)), H', ⟨by have := HK1.out; have := HK2.out; have := HK3.out; omega⟩, ⟨by repeat (first | (with_reducible first | exact HB.out | apply below_alloc | apply pw_below_drewN | apply below_drew1) | exact HB.out)⟩⟩
                            · rw [if_neg c39] at H
                              exact absurd H (by simp)
                          · rw [if_neg c38] at H
                            have c38b0 : (x5_3.toList == ([] : List UInt8)) = false := beq_eq_false_iff_ne.mpr c38
                            have c38b1 : (x5_3.toList != ([] : List UInt8)) = true := bne_iff_ne.mpr c38
                            replace H := Option.bind_eq_some_iff.mp H
                            obtain ⟨⟨t192, t193⟩, A430, H⟩ := H
                            replace H : (if 2 + x4_2.size ≤ 9223372036854775807 then ((ip_Parse4.f k3 ((⟨#[48, 120]⟩ : ByteArray) ++ x4_2)).bind fun bt194 => (if 1 + x5_3.size ≤ 9223372036854775807 then ((ip_Parse4.f k3 ((⟨#[48]⟩ : ByteArray) ++ x5_3)).bind fun bt196 => ((ip_Print4.f k3 a0).bind fun t198 => (if t198.size + 1 ≤ 9223372036854775807 then ((ip_Parse4.f k3 (t198 ++ (⟨#[46]⟩ : ByteArray))).bind fun bt199 => (if 4 + x3_1.size ≤ 9223372036854775807 then ((ip_Parse4.f k3 ((⟨#[50, 53, 54, 46]⟩ : ByteArray) ++ x3_1)).bind fun bt201 => ((ip_Parse4.f k3 (⟨#[52, 50, 57, 52, 57, 54, 55, 50, 57, 54]⟩ : ByteArray)).bind fun bt203 => ((ip_Parse4.f k3 (⟨#[49, 46, 50, 46, 51, 46, 52, 46, 53]⟩ : ByteArray)).bind fun bt205 => ((sprlaw7_first.f k3).bind fun t207 => (if t207 = true then (if t193 = 0 then (if bt194.2 = 0 then (if bt196.2 = 0 then (if bt199.2 = 0 then (if t192 = a0 then (if bt194.1 = a0 then (if bt196.1 = a0 then (if bt199.1 = a0 then (if bt201.2 = 1 then (if bt203.2 = 1 then (some (bt205.2 == 4)) else (some false)) else (some false)) else (some false)) else (some false)) else (some false)) else (some false)) else (some false)) else (some false)) else (some false)) else (some false)) else (some false)))))) else (none))) else (none)))) else (none))) else (none)) = some r := H
                            have A43 := Aside0.mk A430
                            clear A430
                            by_cases c44 : 2 + x4_2.size ≤ 9223372036854775807
                            · rw [if_pos c44] at H
                              have c44b0 := eq_true c44
                              have c44b1 : decide (2 + x4_2.size ≤ 9223372036854775807) = true := decide_eq_true c44
                              try have c44b2 : (9223372036854775807 < 2 + x4_2.size) = False := eq_false (Nat.not_lt.2 c44)
                              replace H := Option.bind_eq_some_iff.mp H
                              obtain ⟨⟨t194, t195⟩, A450, H⟩ := H
                              replace H : (if 1 + x5_3.size ≤ 9223372036854775807 then ((ip_Parse4.f k3 ((⟨#[48]⟩ : ByteArray) ++ x5_3)).bind fun bt196 => ((ip_Print4.f k3 a0).bind fun t198 => (if t198.size + 1 ≤ 9223372036854775807 then ((ip_Parse4.f k3 (t198 ++ (⟨#[46]⟩ : ByteArray))).bind fun bt199 => (if 4 + x3_1.size ≤ 9223372036854775807 then ((ip_Parse4.f k3 ((⟨#[50, 53, 54, 46]⟩ : ByteArray) ++ x3_1)).bind fun bt201 => ((ip_Parse4.f k3 (⟨#[52, 50, 57, 52, 57, 54, 55, 50, 57, 54]⟩ : ByteArray)).bind fun bt203 => ((ip_Parse4.f k3 (⟨#[49, 46, 50, 46, 51, 46, 52, 46, 53]⟩ : ByteArray)).bind fun bt205 => ((sprlaw7_first.f k3).bind fun t207 => (if t207 = true then (if t193 = 0 then (if t195 = 0 then (if bt196.2 = 0 then (if bt199.2 = 0 then (if t192 = a0 then (if t194 = a0 then (if bt196.1 = a0 then (if bt199.1 = a0 then (if bt201.2 = 1 then (if bt203.2 = 1 then (some (bt205.2 == 4)) else (some false)) else (some false)) else (some false)) else (some false)) else (some false)) else (some false)) else (some false)) else (some false)) else (some false)) else (some false)) else (some false)))))) else (none))) else (none)))) else (none)) = some r := H
                              have A45 := Aside0.mk A450
                              clear A450
                              by_cases c46 : 1 + x5_3.size ≤ 9223372036854775807
                              · rw [if_pos c46] at H
                                have c46b0 := eq_true c46
                                have c46b1 : decide (1 + x5_3.size ≤ 9223372036854775807) = true := decide_eq_true c46
                                try have c46b2 : (9223372036854775807 < 1 + x5_3.size) = False := eq_false (Nat.not_lt.2 c46)
                                replace H := Option.bind_eq_some_iff.mp H
                                obtain ⟨⟨t196, t197⟩, A470, H⟩ := H
                                replace H : ((ip_Print4.f k3 a0).bind fun t198 => (if t198.size + 1 ≤ 9223372036854775807 then ((ip_Parse4.f k3 (t198 ++ (⟨#[46]⟩ : ByteArray))).bind fun bt199 => (if 4 + x3_1.size ≤ 9223372036854775807 then ((ip_Parse4.f k3 ((⟨#[50, 53, 54, 46]⟩ : ByteArray) ++ x3_1)).bind fun bt201 => ((ip_Parse4.f k3 (⟨#[52, 50, 57, 52, 57, 54, 55, 50, 57, 54]⟩ : ByteArray)).bind fun bt203 => ((ip_Parse4.f k3 (⟨#[49, 46, 50, 46, 51, 46, 52, 46, 53]⟩ : ByteArray)).bind fun bt205 => ((sprlaw7_first.f k3).bind fun t207 => (if t207 = true then (if t193 = 0 then (if t195 = 0 then (if t197 = 0 then (if bt199.2 = 0 then (if t192 = a0 then (if t194 = a0 then (if t196 = a0 then (if bt199.1 = a0 then (if bt201.2 = 1 then (if bt203.2 = 1 then (some (bt205.2 == 4)) else (some false)) else (some false)) else (some false)) else (some false)) else (some false)) else (some false)) else (some false)) else (some false)) else (some false)) else (some false)) else (some false)))))) else (none))) else (none))) = some r := H
                                have A47 := Aside0.mk A470
                                clear A470
                                replace H := Option.bind_eq_some_iff.mp H
                                obtain ⟨t198, A480, H⟩ := H
                                replace H : (if t198.size + 1 ≤ 9223372036854775807 then ((ip_Parse4.f k3 (t198 ++ (⟨#[46]⟩ : ByteArray))).bind fun bt199 => (if 4 + x3_1.size ≤ 9223372036854775807 then ((ip_Parse4.f k3 ((⟨#[50, 53, 54, 46]⟩ : ByteArray) ++ x3_1)).bind fun bt201 => ((ip_Parse4.f k3 (⟨#[52, 50, 57, 52, 57, 54, 55, 50, 57, 54]⟩ : ByteArray)).bind fun bt203 => ((ip_Parse4.f k3 (⟨#[49, 46, 50, 46, 51, 46, 52, 46, 53]⟩ : ByteArray)).bind fun bt205 => ((sprlaw7_first.f k3).bind fun t207 => (if t207 = true then (if t193 = 0 then (if t195 = 0 then (if t197 = 0 then (if bt199.2 = 0 then (if t192 = a0 then (if t194 = a0 then (if t196 = a0 then (if bt199.1 = a0 then (if bt201.2 = 1 then (if bt203.2 = 1 then (some (bt205.2 == 4)) else (some false)) else (some false)) else (some false)) else (some false)) else (some false)) else (some false)) else (some false)) else (some false)) else (some false)) else (some false)) else (some false)))))) else (none))) else (none)) = some r := H
                                have A48 := Aside0.mk A480
                                clear A480
                                by_cases c49 : t198.size + 1 ≤ 9223372036854775807
                                · rw [if_pos c49] at H
                                  have c49b0 := eq_true c49
                                  have c49b1 : decide (t198.size + 1 ≤ 9223372036854775807) = true := decide_eq_true c49
                                  try have c49b2 : (9223372036854775807 < t198.size + 1) = False := eq_false (Nat.not_lt.2 c49)
                                  replace H := Option.bind_eq_some_iff.mp H
                                  obtain ⟨⟨t199, t200⟩, A500, H⟩ := H
                                  replace H : (if 4 + x3_1.size ≤ 9223372036854775807 then ((ip_Parse4.f k3 ((⟨#[50, 53, 54, 46]⟩ : ByteArray) ++ x3_1)).bind fun bt201 => ((ip_Parse4.f k3 (⟨#[52, 50, 57, 52, 57, 54, 55, 50, 57, 54]⟩ : ByteArray)).bind fun bt203 => ((ip_Parse4.f k3 (⟨#[49, 46, 50, 46, 51, 46, 52, 46, 53]⟩ : ByteArray)).bind fun bt205 => ((sprlaw7_first.f k3).bind fun t207 => (if t207 = true then (if t193 = 0 then (if t195 = 0 then (if t197 = 0 then (if t200 = 0 then (if t192 = a0 then (if t194 = a0 then (if t196 = a0 then (if t199 = a0 then (if bt201.2 = 1 then (if bt203.2 = 1 then (some (bt205.2 == 4)) else (some false)) else (some false)) else (some false)) else (some false)) else (some false)) else (some false)) else (some false)) else (some false)) else (some false)) else (some false)) else (some false)))))) else (none)) = some r := H
                                  have A50 := Aside0.mk A500
                                  clear A500
                                  by_cases c51 : 4 + x3_1.size ≤ 9223372036854775807
                                  · rw [if_pos c51] at H
                                    have c51b0 := eq_true c51
                                    have c51b1 : decide (4 + x3_1.size ≤ 9223372036854775807) = true := decide_eq_true c51
                                    try have c51b2 : (9223372036854775807 < 4 + x3_1.size) = False := eq_false (Nat.not_lt.2 c51)
                                    replace H := Option.bind_eq_some_iff.mp H
                                    obtain ⟨⟨t201, t202⟩, A520, H⟩ := H
                                    replace H : ((ip_Parse4.f k3 (⟨#[52, 50, 57, 52, 57, 54, 55, 50, 57, 54]⟩ : ByteArray)).bind fun bt203 => ((ip_Parse4.f k3 (⟨#[49, 46, 50, 46, 51, 46, 52, 46, 53]⟩ : ByteArray)).bind fun bt205 => ((sprlaw7_first.f k3).bind fun t207 => (if t207 = true then (if t193 = 0 then (if t195 = 0 then (if t197 = 0 then (if t200 = 0 then (if t192 = a0 then (if t194 = a0 then (if t196 = a0 then (if t199 = a0 then (if t202 = 1 then (if bt203.2 = 1 then (some (bt205.2 == 4)) else (some false)) else (some false)) else (some false)) else (some false)) else (some false)) else (some false)) else (some false)) else (some false)) else (some false)) else (some false)) else (some false))))) = some r := H
                                    have A52 := Aside0.mk A520
                                    clear A520
                                    replace H := Option.bind_eq_some_iff.mp H
                                    obtain ⟨⟨t203, t204⟩, A530, H⟩ := H
                                    replace H : ((ip_Parse4.f k3 (⟨#[49, 46, 50, 46, 51, 46, 52, 46, 53]⟩ : ByteArray)).bind fun bt205 => ((sprlaw7_first.f k3).bind fun t207 => (if t207 = true then (if t193 = 0 then (if t195 = 0 then (if t197 = 0 then (if t200 = 0 then (if t192 = a0 then (if t194 = a0 then (if t196 = a0 then (if t199 = a0 then (if t202 = 1 then (if t204 = 1 then (some (bt205.2 == 4)) else (some false)) else (some false)) else (some false)) else (some false)) else (some false)) else (some false)) else (some false)) else (some false)) else (some false)) else (some false)) else (some false)))) = some r := H
                                    have A53 := Aside0.mk A530
                                    clear A530
                                    replace H := Option.bind_eq_some_iff.mp H
                                    obtain ⟨⟨t205, t206⟩, A540, H⟩ := H
                                    replace H : ((sprlaw7_first.f k3).bind fun t207 => (if t207 = true then (if t193 = 0 then (if t195 = 0 then (if t197 = 0 then (if t200 = 0 then (if t192 = a0 then (if t194 = a0 then (if t196 = a0 then (if t199 = a0 then (if t202 = 1 then (if t204 = 1 then (some (t206 == 4)) else (some false)) else (some false)) else (some false)) else (some false)) else (some false)) else (some false)) else (some false)) else (some false)) else (some false)) else (some false)) else (some false))) = some r := H
                                    have A54 := Aside0.mk A540
                                    clear A540
                                    replace H := Option.bind_eq_some_iff.mp H
                                    obtain ⟨t207, A550, H⟩ := H
                                    replace H : (if t207 = true then (if t193 = 0 then (if t195 = 0 then (if t197 = 0 then (if t200 = 0 then (if t192 = a0 then (if t194 = a0 then (if t196 = a0 then (if t199 = a0 then (if t202 = 1 then (if t204 = 1 then (some (t206 == 4)) else (some false)) else (some false)) else (some false)) else (some false)) else (some false)) else (some false)) else (some false)) else (some false)) else (some false)) else (some false)) else (some false)) = some r := H
                                    have A55 := Aside0.mk A550
                                    clear A550
                                    by_cases c56 : t207 = true
                                    · subst c56
                                      have H1 : (if t193 = 0 then (if t195 = 0 then (if t197 = 0 then (if t200 = 0 then (if t192 = a0 then (if t194 = a0 then (if t196 = a0 then (if t199 = a0 then (if t202 = 1 then (if t204 = 1 then (some (t206 == 4)) else (some false)) else (some false)) else (some false)) else (some false)) else (some false)) else (some false)) else (some false)) else (some false)) else (some false)) else (some false)) = some r := by rw [if_pos rfl] at H; exact H
                                      clear H
                                      have H := H1
                                      clear H1
                                      by_cases c57 : t193 = 0
                                      · rw [if_pos c57] at H
                                        have c57b0 : (t193 == 0) = true := beq_iff_eq.mpr c57
                                        have c57b1 : (t193 != 0) = false := bne_eq_false_iff_eq.mpr c57
                                        clear c57
                                        by_cases c58 : t195 = 0
                                        · rw [if_pos c58] at H
                                          have c58b0 : (t195 == 0) = true := beq_iff_eq.mpr c58
                                          have c58b1 : (t195 != 0) = false := bne_eq_false_iff_eq.mpr c58
                                          clear c58
                                          by_cases c59 : t197 = 0
                                          · rw [if_pos c59] at H
                                            have c59b0 : (t197 == 0) = true := beq_iff_eq.mpr c59
                                            have c59b1 : (t197 != 0) = false := bne_eq_false_iff_eq.mpr c59
                                            clear c59
                                            by_cases c60 : t200 = 0
                                            · rw [if_pos c60] at H
                                              have c60b0 : (t200 == 0) = true := beq_iff_eq.mpr c60
                                              have c60b1 : (t200 != 0) = false := bne_eq_false_iff_eq.mpr c60
                                              clear c60
                                              by_cases c61 : t192 = a0
                                              · rw [if_pos c61] at H
                                                have c61b0 : (t192 == a0) = true := beq_iff_eq.mpr c61
                                                have c61b1 : (t192 != a0) = false := bne_eq_false_iff_eq.mpr c61
                                                clear c61
                                                by_cases c62 : t194 = a0
                                                · rw [if_pos c62] at H
                                                  have c62b0 : (t194 == a0) = true := beq_iff_eq.mpr c62
                                                  have c62b1 : (t194 != a0) = false := bne_eq_false_iff_eq.mpr c62
                                                  clear c62
                                                  by_cases c63 : t196 = a0
                                                  · rw [if_pos c63] at H
                                                    have c63b0 : (t196 == a0) = true := beq_iff_eq.mpr c63
                                                    have c63b1 : (t196 != a0) = false := bne_eq_false_iff_eq.mpr c63
                                                    clear c63
                                                    by_cases c64 : t199 = a0
                                                    · rw [if_pos c64] at H
                                                      have c64b0 : (t199 == a0) = true := beq_iff_eq.mpr c64
                                                      have c64b1 : (t199 != a0) = false := bne_eq_false_iff_eq.mpr c64
                                                      clear c64
                                                      by_cases c65 : t202 = 1
                                                      · rw [if_pos c65] at H
                                                        have c65b0 : (t202 == 1) = true := beq_iff_eq.mpr c65
                                                        have c65b1 : (t202 != 1) = false := bne_eq_false_iff_eq.mpr c65
                                                        clear c65
                                                        by_cases c66 : t204 = 1
                                                        · rw [if_pos c66] at H
                                                          have c66b0 : (t204 == 1) = true := beq_iff_eq.mpr c66
                                                          have c66b1 : (t204 != 1) = false := bne_eq_false_iff_eq.mpr c66
                                                          clear c66
                                                          obtain rfl := Option.some.inj H
                                                          go_wp2_with (first | ((with_reducible refine gate_callee (f := 13) rfl ?_); refine goesL_ (some 80) rfl rfl Tryd.func13 (by kernel_rfl) rfl #[.string x3_1] rfl (by (try simp only [List.map_toArray, List.map_cons, List.map_nil]); first | done | rfl | (simp only [List.length_drop, List.length_take]; rfl)) ?_; (with_reducible refine (ip_Parse4.calls k3 x3_1 t192 t193 _ A43.out).mono ?_); rintro e w67 ⟨rfl, hb⟩; refine ⟨_, rfl, ?_⟩; have n0_ := Aside0.mk (below_step (by repeat (first | (with_reducible first | exact HB.out | apply below_alloc | apply pw_below_drewN | apply below_drew1) | exact HB.out)) hb); clear HB; have HB := n0_; clear n0_; (try clear hb); (try clear hb2); (try clear hk); (try clear hi)) | ((with_reducible refine gate_callee (f := 13) rfl ?_); refine goesL_ (some 86) rfl rfl Tryd.func13 (by kernel_rfl) rfl #[.string ((⟨#[48, 120]⟩ : ByteArray) ++ x4_2)] rfl (by (try simp only [List.map_toArray, List.map_cons, List.map_nil]); first | done | rfl | (simp only [List.length_drop, List.length_take]; rfl)) ?_; (with_reducible refine (ip_Parse4.calls k3 ((⟨#[48, 120]⟩ : ByteArray) ++ x4_2) t194 t195 _ A45.out).mono ?_); rintro e w68 ⟨rfl, hb⟩; refine ⟨_, rfl, ?_⟩; have n0_ := Aside0.mk (below_step (by repeat (first | (with_reducible first | exact HB.out | apply below_alloc | apply pw_below_drewN | apply below_drew1) | exact HB.out)) hb); clear HB; have HB := n0_; clear n0_; (try clear hb); (try clear hb2); (try clear hk); (try clear hi)) | ((with_reducible refine gate_callee (f := 13) rfl ?_); refine goesL_ (some 92) rfl rfl Tryd.func13 (by kernel_rfl) rfl #[.string ((⟨#[48]⟩ : ByteArray) ++ x5_3)] rfl (by (try simp only [List.map_toArray, List.map_cons, List.map_nil]); first | done | rfl | (simp only [List.length_drop, List.length_take]; rfl)) ?_; (with_reducible refine (ip_Parse4.calls k3 ((⟨#[48]⟩ : ByteArray) ++ x5_3) t196 t197 _ A47.out).mono ?_); rintro e w69 ⟨rfl, hb⟩; refine ⟨_, rfl, ?_⟩; have n0_ := Aside0.mk (below_step (by repeat (first | (with_reducible first | exact HB.out | apply below_alloc | apply pw_below_drewN | apply below_drew1) | exact HB.out)) hb); clear HB; have HB := n0_; clear n0_; (try clear hb); (try clear hb2); (try clear hk); (try clear hi)) | ((with_reducible refine gate_callee (f := 18) rfl ?_); refine goesL_ (some 97) rfl rfl Tryd.func18 (by kernel_rfl) rfl #[.int .u32 a0] rfl (by (try simp only [List.map_toArray, List.map_cons, List.map_nil]); first | done | rfl | (simp only [List.length_drop, List.length_take]; rfl)) ?_; (with_reducible refine (ip_Print4.calls k3 a0 t198 _ A48.out (Own.ipW_below HT0.out (by repeat (first | (with_reducible first | exact HB.out | apply below_alloc | apply pw_below_drewN | apply below_drew1) | exact HB.out)))).mono ?_); rintro e w70 ⟨rfl, hb⟩; refine ⟨_, rfl, ?_⟩; have n0_ := Aside0.mk (below_step (by repeat (first | (with_reducible first | exact HB.out | apply below_alloc | apply pw_below_drewN | apply below_drew1) | exact HB.out)) hb); clear HB; have HB := n0_; clear n0_; (try clear hb); (try clear hb2); (try clear hk); (try clear hi)) | ((with_reducible refine gate_callee (f := 13) rfl ?_); refine goesL_ (some 99) rfl rfl Tryd.func13 (by kernel_rfl) rfl #[.string (t198 ++ (⟨#[46]⟩ : ByteArray))] rfl (by (try simp only [List.map_toArray, List.map_cons, List.map_nil]); first | done | rfl | (simp only [List.length_drop, List.length_take]; rfl)) ?_; (with_reducible refine (ip_Parse4.calls k3 (t198 ++ (⟨#[46]⟩ : ByteArray)) t199 t200 _ A50.out).mono ?_); rintro e w71 ⟨rfl, hb⟩; refine ⟨_, rfl, ?_⟩; have n0_ := Aside0.mk (below_step (by repeat (first | (with_reducible first | exact HB.out | apply below_alloc | apply pw_below_drewN | apply below_drew1) | exact HB.out)) hb); clear HB; have HB := n0_; clear n0_; (try clear hb); (try clear hb2); (try clear hk); (try clear hi)) | ((with_reducible refine gate_callee (f := 13) rfl ?_); refine goesL_ (some 105) rfl rfl Tryd.func13 (by kernel_rfl) rfl #[.string ((⟨#[50, 53, 54, 46]⟩ : ByteArray) ++ x3_1)] rfl (by (try simp only [List.map_toArray, List.map_cons, List.map_nil]); first | done | rfl | (simp only [List.length_drop, List.length_take]; rfl)) ?_; (with_reducible refine (ip_Parse4.calls k3 ((⟨#[50, 53, 54, 46]⟩ : ByteArray) ++ x3_1) t201 t202 _ A52.out).mono ?_); rintro e w72 ⟨rfl, hb⟩; refine ⟨_, rfl, ?_⟩; have n0_ := Aside0.mk (below_step (by repeat (first | (with_reducible first | exact HB.out | apply below_alloc | apply pw_below_drewN | apply below_drew1) | exact HB.out)) hb); clear HB; have HB := n0_; clear n0_; (try clear hb); (try clear hb2); (try clear hk); (try clear hi)) | ((with_reducible refine gate_callee (f := 13) rfl ?_); refine goesL_ (some 109) rfl rfl Tryd.func13 (by kernel_rfl) rfl #[.string (⟨#[52, 50, 57, 52, 57, 54, 55, 50, 57, 54]⟩ : ByteArray)] rfl (by (try simp only [List.map_toArray, List.map_cons, List.map_nil]); first | done | rfl | (simp only [List.length_drop, List.length_take]; rfl)) ?_; (with_reducible refine (ip_Parse4.calls k3 (⟨#[52, 50, 57, 52, 57, 54, 55, 50, 57, 54]⟩ : ByteArray) t203 t204 _ A53.out).mono ?_); rintro e w73 ⟨rfl, hb⟩; refine ⟨_, rfl, ?_⟩; have n0_ := Aside0.mk (below_step (by repeat (first | (with_reducible first | exact HB.out | apply below_alloc | apply pw_below_drewN | apply below_drew1) | exact HB.out)) hb); clear HB; have HB := n0_; clear n0_; (try clear hb); (try clear hb2); (try clear hk); (try clear hi)) | ((with_reducible refine gate_callee (f := 13) rfl ?_); refine goesL_ (some 113) rfl rfl Tryd.func13 (by kernel_rfl) rfl #[.string (⟨#[49, 46, 50, 46, 51, 46, 52, 46, 53]⟩ : ByteArray)] rfl (by (try simp only [List.map_toArray, List.map_cons, List.map_nil]); first | done | rfl | (simp only [List.length_drop, List.length_take]; rfl)) ?_; (with_reducible refine (ip_Parse4.calls k3 (⟨#[49, 46, 50, 46, 51, 46, 52, 46, 53]⟩ : ByteArray) t205 t206 _ A54.out).mono ?_); rintro e w74 ⟨rfl, hb⟩; refine ⟨_, rfl, ?_⟩; have n0_ := Aside0.mk (below_step (by repeat (first | (with_reducible first | exact HB.out | apply below_alloc | apply pw_below_drewN | apply below_drew1) | exact HB.out)) hb); clear HB; have HB := n0_; clear n0_; (try clear hb); (try clear hb2); (try clear hk); (try clear hi)) | ((with_reducible refine gate_callee (f := 9) rfl ?_); refine goesL_ (some 116) rfl rfl Tryd.func9 (by kernel_rfl) rfl #[] rfl (by (try simp only [List.map_toArray, List.map_cons, List.map_nil]); first | done | rfl | (simp only [List.length_drop, List.length_take]; rfl)) ?_; (with_reducible refine (sprlaw7_first.calls k3  true _ A55.out (Own.ipW_below HT0.out (by repeat (first | (with_reducible first | exact HB.out | apply below_alloc | apply pw_below_drewN | apply below_drew1) | exact HB.out)))).mono ?_); rintro e w75 ⟨rfl, hb⟩; refine ⟨_, rfl, ?_⟩; have n0_ := Aside0.mk (below_step (by repeat (first | (with_reducible first | exact HB.out | apply below_alloc | apply pw_below_drewN | apply below_drew1) | exact HB.out)) hb); clear HB; have HB := n0_; clear n0_; (try clear hb); (try clear hb2); (try clear hk); (try clear hi)))
                                                          go_ret
                                                          exact ⟨by first | rfl | (simp [errW_none, errW_some] <;> rfl) | (simp [*, errW_none, errW_some] <;> rfl), by repeat (first | (with_reducible first | exact HB.out | apply below_alloc | apply pw_below_drewN | apply below_drew1) | exact HB.out)⟩
                                                        · rw [if_neg c66] at H
                                                          have c66b0 : (t204 == 1) = false := beq_eq_false_iff_ne.mpr c66
                                                          have c66b1 : (t204 != 1) = true := bne_iff_ne.mpr c66
                                                          exact absurd ((Option.some.inj H).trans hT.out) (by decide)
                                                      · rw [if_neg c65] at H
                                                        have c65b0 : (t202 == 1) = false := beq_eq_false_iff_ne.mpr c65
                                                        have c65b1 : (t202 != 1) = true := bne_iff_ne.mpr c65
                                                        exact absurd ((Option.some.inj H).trans hT.out) (by decide)
                                                    · rw [if_neg c64] at H
                                                      have c64b0 : (t199 == a0) = false := beq_eq_false_iff_ne.mpr c64
                                                      have c64b1 : (t199 != a0) = true := bne_iff_ne.mpr c64
                                                      exact absurd ((Option.some.inj H).trans hT.out) (by decide)
                                                  · rw [if_neg c63] at H
                                                    have c63b0 : (t196 == a0) = false := beq_eq_false_iff_ne.mpr c63
                                                    have c63b1 : (t196 != a0) = true := bne_iff_ne.mpr c63
                                                    exact absurd ((Option.some.inj H).trans hT.out) (by decide)
                                                · rw [if_neg c62] at H
                                                  have c62b0 : (t194 == a0) = false := beq_eq_false_iff_ne.mpr c62
                                                  have c62b1 : (t194 != a0) = true := bne_iff_ne.mpr c62
                                                  exact absurd ((Option.some.inj H).trans hT.out) (by decide)
                                              · rw [if_neg c61] at H
                                                have c61b0 : (t192 == a0) = false := beq_eq_false_iff_ne.mpr c61
                                                have c61b1 : (t192 != a0) = true := bne_iff_ne.mpr c61
                                                exact absurd ((Option.some.inj H).trans hT.out) (by decide)
                                            · rw [if_neg c60] at H
                                              have c60b0 : (t200 == 0) = false := beq_eq_false_iff_ne.mpr c60
                                              have c60b1 : (t200 != 0) = true := bne_iff_ne.mpr c60
                                              exact absurd ((Option.some.inj H).trans hT.out) (by decide)
                                          · rw [if_neg c59] at H
                                            have c59b0 : (t197 == 0) = false := beq_eq_false_iff_ne.mpr c59
                                            have c59b1 : (t197 != 0) = true := bne_iff_ne.mpr c59
                                            exact absurd ((Option.some.inj H).trans hT.out) (by decide)
                                        · rw [if_neg c58] at H
                                          have c58b0 : (t195 == 0) = false := beq_eq_false_iff_ne.mpr c58
                                          have c58b1 : (t195 != 0) = true := bne_iff_ne.mpr c58
                                          exact absurd ((Option.some.inj H).trans hT.out) (by decide)
                                      · rw [if_neg c57] at H
                                        have c57b0 : (t193 == 0) = false := beq_eq_false_iff_ne.mpr c57
                                        have c57b1 : (t193 != 0) = true := bne_iff_ne.mpr c57
                                        exact absurd ((Option.some.inj H).trans hT.out) (by decide)
                                    · replace c56 := Bool.eq_false_iff.mpr c56
                                      subst c56
                                      have H1 : (some false) = some r := by rw [if_neg (show ¬ (false = true) by decide)] at H; exact H
                                      clear H
                                      have H := H1
                                      clear H1
                                      exact absurd ((Option.some.inj H).trans hT.out) (by decide)
                                  · rw [if_neg c51] at H
                                    exact absurd H (by simp)
                                · rw [if_neg c49] at H
                                  exact absurd H (by simp)
                              · rw [if_neg c46] at H
                                exact absurd H (by simp)
                            · rw [if_neg c44] at H
                              exact absurd H (by simp)
  · replace c3 := Bool.eq_false_iff.mpr c3
    subst c3
    have H1 : (some false) = some r := by rw [if_neg (show ¬ (false = true) by decide)] at H; exact H
    clear H
    have H := H1
    clear H1
    exact absurd ((Option.some.inj H).trans hT.out) (by decide)

/-- THE ONE PURE STATEMENT of sprlaw7_IpForms: yours. -/
def sprlaw7_IpForms.Pure : Prop := ∀ (a0 : Int), (Lit.int .u32 a0).wf = true → ∃ k, sprlaw7_IpForms.f k a0 = some true
theorem sprlaw7_IpForms.walk (P : sprlaw7_IpForms.Pure) (a0 : Int) (w : World) (hT0 : Own.ipW w) (w0 : (Lit.int .u32 a0).wf = true) :
    Calls Tryd.prog 7 #[.int .u32 a0] w fun e w' => e = .returned (.bool true) ∧ Below w.heap.size w w' := by
  obtain ⟨k, h⟩ := P a0 w0
  refine (sprlaw7_IpForms.calls k a0 true w h (Aside0.mk rfl) hT0).mono ?_
  rintro e w' ⟨rfl, hd⟩
  exact ⟨rfl, hd⟩

/-! ### ip_Ends: function 16 -/
def ip_Ends.f (k : Nat) (a0 : ByteArray) : Option (Bool) := (ip_parts.f a0).bind fun t208 => (if 0 ≤ (wrap64 ((t208.length : Int) - 1)) then (if (wrap64 ((t208.length : Int) - 1)) < (t208.length : Int) then (if (rdOf ByteArray.empty t208 (wrap64 ((t208.length : Int) - 1))).toList = ([] : List UInt8) then (some false) else ((ip_number.f k (rdOf ByteArray.empty t208 (wrap64 ((t208.length : Int) - 1))) 10).bind fun bt212 => (if bt212.2 = true then (some true) else ((ip_part.f k (rdOf ByteArray.empty t208 (wrap64 ((t208.length : Int) - 1)))).bind fun bt214 => (some bt214.2))))) else (none)) else (none))
theorem ip_Ends.mono : ∀ a0 k, LeO (ip_Ends.f k a0) (ip_Ends.f (k + 1) a0) := by
  intro a0 k
  unfold ip_Ends.f
  repeat' first
      | (with_reducible exact ip_number.mono _ _ _)
      | (with_reducible exact ip_part.mono _ _)
      | (with_reducible exact LeO.refl _)
      | (with_reducible exact LeO.none _)
      | (with_reducible refine LeO.ite ?_ ?_)
      | (with_reducible refine LeO.bind ?_ (fun _ => ?_))
      | exact ip_number.mono _ _ _
      | exact ip_part.mono _ _
      | exact LeO.none _
      | refine LeO.ite ?_ ?_
      | refine LeO.bind ?_ (fun _ => ?_)
set_option maxHeartbeats 2000000 in
set_option maxRecDepth 100000 in
theorem ip_Ends.calls (k : Nat) (a0 : ByteArray) (r : Bool) (w : World) (h : ip_Ends.f k a0 = some r) :
    Calls Tryd.prog 16 #[.string a0] w fun e w' => e = .returned (.bool r) ∧ Below w.heap.size w w' := by
  have HB := Aside0.mk (Below.refl w.heap.size w)
  have H : ((ip_parts.f a0).bind fun t208 => (if 0 ≤ (wrap64 ((t208.length : Int) - 1)) then (if (wrap64 ((t208.length : Int) - 1)) < (t208.length : Int) then (if (rdOf ByteArray.empty t208 (wrap64 ((t208.length : Int) - 1))).toList = ([] : List UInt8) then (some false) else ((ip_number.f k (rdOf ByteArray.empty t208 (wrap64 ((t208.length : Int) - 1))) 10).bind fun bt212 => (if bt212.2 = true then (some true) else ((ip_part.f k (rdOf ByteArray.empty t208 (wrap64 ((t208.length : Int) - 1)))).bind fun bt214 => (some bt214.2))))) else (none)) else (none))) = some r := h
  clear h
  replace H := Option.bind_eq_some_iff.mp H
  obtain ⟨t208, A20, H⟩ := H
  replace H : (if 0 ≤ (wrap64 ((t208.length : Int) - 1)) then (if (wrap64 ((t208.length : Int) - 1)) < (t208.length : Int) then (if (rdOf ByteArray.empty t208 (wrap64 ((t208.length : Int) - 1))).toList = ([] : List UInt8) then (some false) else ((ip_number.f k (rdOf ByteArray.empty t208 (wrap64 ((t208.length : Int) - 1))) 10).bind fun bt212 => (if bt212.2 = true then (some true) else ((ip_part.f k (rdOf ByteArray.empty t208 (wrap64 ((t208.length : Int) - 1)))).bind fun bt214 => (some bt214.2))))) else (none)) else (none)) = some r := H
  have A2 := Aside0.mk A20
  clear A20
  obtain ⟨ji3, hji3⟩ : ∃ j_ : Int, (wrap64 ((t208.length : Int) - 1)) = j_ := ⟨_, rfl⟩
  replace H : (if 0 ≤ (ji3) then (if (ji3) < (t208.length : Int) then (if (rdOf ByteArray.empty t208 (ji3)).toList = ([] : List UInt8) then (some false) else ((ip_number.f k (rdOf ByteArray.empty t208 (ji3)) 10).bind fun bt212 => (if bt212.2 = true then (some true) else ((ip_part.f k (rdOf ByteArray.empty t208 (ji3))).bind fun bt214 => (some bt214.2))))) else (none)) else (none)) = some r := by first | (rw [hji3] at H; exact H) | (simp only [hji3] at H ⊢; exact H)
  (try rw [hji3] at A2)
  have hji3w : (IntKind.i64.wrap ((t208.length : Int) - 1)) = ji3 := (i64_w _).trans hji3
  by_cases c4 : 0 ≤ (ji3)
  · rw [if_pos c4] at H
    have c4b0 : decide (0 ≤ (ji3)) = true := decide_eq_true c4
    clear c4
    by_cases c5 : (ji3) < (t208.length : Int)
    · rw [if_pos c5] at H
      have c5b0 : decide ((ji3) < (t208.length : Int)) = true := decide_eq_true c5
      clear c5
      by_cases c6 : (rdOf ByteArray.empty t208 (ji3)).toList = ([] : List UInt8)
      · rw [if_pos c6] at H
        have c6b0 : ((rdOf ByteArray.empty t208 (ji3)).toList == ([] : List UInt8)) = true := beq_iff_eq.mpr c6
        have c6b1 : ((rdOf ByteArray.empty t208 (ji3)).toList != ([] : List UInt8)) = false := bne_eq_false_iff_eq.mpr c6
        clear c6
        obtain rfl := Option.some.inj H
        (try (have e_c6b0 := c6b0; simp only [c4b0, c5b0] at e_c6b0; simp at e_c6b0))
        go_enter Tryd.func16, Tryd.ntmps16
        go_wp2_with (first | ((with_reducible refine gate_callee (f := 25) rfl ?_); refine goesL_ (some 10) rfl rfl Tryd.func25 (by kernel_rfl) rfl #[.string a0] rfl (by (try simp only [List.map_toArray, List.map_cons, List.map_nil]); first | done | rfl | (simp only [List.length_drop, List.length_take]; rfl)) ?_; (with_reducible refine (ip_parts.calls a0 t208 _ A2.out).mono ?_); rintro e w7 ⟨v209, rfl, ho0, hb⟩; refine ⟨_, rfl, ?_⟩; have n0_ := Aside0.mk (Kd.R_lower ho0 (below_size (by repeat (first | (with_reducible first | exact HB.out | apply below_alloc | apply pw_below_drewN | apply below_drew1) | exact HB.out)))); have n1_ := Aside0.mk (below_step (by repeat (first | (with_reducible first | exact HB.out | apply below_alloc | apply pw_below_drewN | apply below_drew1) | exact HB.out)) hb); clear HB; have HO210 := n0_; have HB := n1_; clear n0_ n1_; (try clear hb); (try clear hb2); (try clear hk); (try clear hi); (try clear ho0); obtain ⟨Ao8, co8, eo8⟩ := Kd.R_slice HO210.out; subst eo8; have p211 : 0 ≤ ((ji3) : Int) := of_decide_eq_true (by first | (with_reducible assumption) | assumption); have q211 : (ji3) < (t208.length : Int) := of_decide_eq_true (by first | (with_reducible assumption) | assumption); obtain ⟨ad211, e211, hx211_0⟩ := Kd.at_string (Kd.R_reads' HO210.out).2.2 (ji3) p211 q211; cases e211; replace p211 := eq_true p211; replace q211 := eq_true q211))
        go_ret
        exact ⟨by first | rfl | (simp [errW_none, errW_some] <;> rfl) | (simp only [← hji3]; first | rfl | (simp [errW_none, errW_some] <;> rfl)) | (simp [*, errW_none, errW_some] <;> rfl), by repeat (first | (with_reducible first | exact HB.out | apply below_alloc | apply pw_below_drewN | apply below_drew1) | exact HB.out)⟩
      · rw [if_neg c6] at H
        have c6b0 : ((rdOf ByteArray.empty t208 (ji3)).toList == ([] : List UInt8)) = false := beq_eq_false_iff_ne.mpr c6
        have c6b1 : ((rdOf ByteArray.empty t208 (ji3)).toList != ([] : List UInt8)) = true := bne_iff_ne.mpr c6
        replace H := Option.bind_eq_some_iff.mp H
        obtain ⟨⟨t212, t213⟩, A90, H⟩ := H
        replace H : (if t213 = true then (some true) else ((ip_part.f k (rdOf ByteArray.empty t208 (ji3))).bind fun bt214 => (some bt214.2))) = some r := H
        have A9 := Aside0.mk A90
        clear A90
        by_cases c10 : t213 = true
        · subst c10
          have H1 : (some true) = some r := by rw [if_pos rfl] at H; exact H
          clear H
          have H := H1
          clear H1
          obtain rfl := Option.some.inj H
          (try (have e_c6b0 := c6b0; simp only [c4b0, c5b0] at e_c6b0; simp at e_c6b0))
          go_enter Tryd.func16, Tryd.ntmps16
          go_wp2_with (first | ((with_reducible refine gate_callee (f := 25) rfl ?_); refine goesL_ (some 10) rfl rfl Tryd.func25 (by kernel_rfl) rfl #[.string a0] rfl (by (try simp only [List.map_toArray, List.map_cons, List.map_nil]); first | done | rfl | (simp only [List.length_drop, List.length_take]; rfl)) ?_; (with_reducible refine (ip_parts.calls a0 t208 _ A2.out).mono ?_); rintro e w11 ⟨v209, rfl, ho0, hb⟩; refine ⟨_, rfl, ?_⟩; have n0_ := Aside0.mk (Kd.R_lower ho0 (below_size (by repeat (first | (with_reducible first | exact HB.out | apply below_alloc | apply pw_below_drewN | apply below_drew1) | exact HB.out)))); have n1_ := Aside0.mk (below_step (by repeat (first | (with_reducible first | exact HB.out | apply below_alloc | apply pw_below_drewN | apply below_drew1) | exact HB.out)) hb); clear HB; have HO210 := n0_; have HB := n1_; clear n0_ n1_; (try clear hb); (try clear hb2); (try clear hk); (try clear hi); (try clear ho0); obtain ⟨Ao12, co12, eo12⟩ := Kd.R_slice HO210.out; subst eo12; have p211 : 0 ≤ ((ji3) : Int) := of_decide_eq_true (by first | (with_reducible assumption) | assumption); have q211 : (ji3) < (t208.length : Int) := of_decide_eq_true (by first | (with_reducible assumption) | assumption); obtain ⟨ad211, e211, hx211_0⟩ := Kd.at_string (Kd.R_reads' HO210.out).2.2 (ji3) p211 q211; cases e211; replace p211 := eq_true p211; replace q211 := eq_true q211) | ((with_reducible refine gate_callee (f := 30) rfl ?_); refine goesL_ (some 21) rfl rfl Tryd.func30 (by kernel_rfl) rfl #[.string (rdOf ByteArray.empty t208 (ji3)), .int .i64 10] rfl (by (try simp only [List.map_toArray, List.map_cons, List.map_nil]); first | done | (simp only [hji3]; rfl) | rfl | (simp only [List.length_drop, List.length_take]; rfl)) ?_; (with_reducible refine (ip_number.calls k (rdOf ByteArray.empty t208 (ji3)) 10 t212 true _ A9.out).mono ?_); rintro e w13 ⟨rfl, hb⟩; refine ⟨_, rfl, ?_⟩; have n0_ := Aside0.mk (Kd.R_below (by (with_reducible repeat (first | apply Kd.R_alloc | apply Kd.R_drewN | apply Kd.R_drew)); exact HO210.out) hb); have n1_ := Aside0.mk (below_step (by repeat (first | (with_reducible first | exact HB.out | apply below_alloc | apply pw_below_drewN | apply below_drew1) | exact HB.out)) hb); clear HO210; clear HB; have HO210 := n0_; have HB := n1_; clear n0_ n1_; (try clear hb); (try clear hb2); (try clear hk); (try clear hi)))
          go_ret
          exact ⟨by first | rfl | (simp [errW_none, errW_some] <;> rfl) | (simp only [← hji3]; first | rfl | (simp [errW_none, errW_some] <;> rfl)) | (simp [*, errW_none, errW_some] <;> rfl), by repeat (first | (with_reducible first | exact HB.out | apply below_alloc | apply pw_below_drewN | apply below_drew1) | exact HB.out)⟩
        · replace c10 := Bool.eq_false_iff.mpr c10
          subst c10
          have H1 : ((ip_part.f k (rdOf ByteArray.empty t208 (ji3))).bind fun bt214 => (some bt214.2)) = some r := by rw [if_neg (show ¬ (false = true) by decide)] at H; exact H
          clear H
          have H := H1
          clear H1
          replace H := Option.bind_eq_some_iff.mp H
          obtain ⟨⟨t214, t215⟩, A140, H⟩ := H
          replace H : (some t215) = some r := H
          have A14 := Aside0.mk A140
          clear A140
          obtain rfl := Option.some.inj H
          (try (have e_c6b0 := c6b0; simp only [c4b0, c5b0] at e_c6b0; simp at e_c6b0))
          go_enter Tryd.func16, Tryd.ntmps16
          go_wp2_with (first | ((with_reducible refine gate_callee (f := 25) rfl ?_); refine goesL_ (some 10) rfl rfl Tryd.func25 (by kernel_rfl) rfl #[.string a0] rfl (by (try simp only [List.map_toArray, List.map_cons, List.map_nil]); first | done | rfl | (simp only [List.length_drop, List.length_take]; rfl)) ?_; (with_reducible refine (ip_parts.calls a0 t208 _ A2.out).mono ?_); rintro e w15 ⟨v209, rfl, ho0, hb⟩; refine ⟨_, rfl, ?_⟩; have n0_ := Aside0.mk (Kd.R_lower ho0 (below_size (by repeat (first | (with_reducible first | exact HB.out | apply below_alloc | apply pw_below_drewN | apply below_drew1) | exact HB.out)))); have n1_ := Aside0.mk (below_step (by repeat (first | (with_reducible first | exact HB.out | apply below_alloc | apply pw_below_drewN | apply below_drew1) | exact HB.out)) hb); clear HB; have HO210 := n0_; have HB := n1_; clear n0_ n1_; (try clear hb); (try clear hb2); (try clear hk); (try clear hi); (try clear ho0); obtain ⟨Ao16, co16, eo16⟩ := Kd.R_slice HO210.out; subst eo16; have p211 : 0 ≤ ((ji3) : Int) := of_decide_eq_true (by first | (with_reducible assumption) | assumption); have q211 : (ji3) < (t208.length : Int) := of_decide_eq_true (by first | (with_reducible assumption) | assumption); obtain ⟨ad211, e211, hx211_0⟩ := Kd.at_string (Kd.R_reads' HO210.out).2.2 (ji3) p211 q211; cases e211; replace p211 := eq_true p211; replace q211 := eq_true q211) | ((with_reducible refine gate_callee (f := 30) rfl ?_); refine goesL_ (some 21) rfl rfl Tryd.func30 (by kernel_rfl) rfl #[.string (rdOf ByteArray.empty t208 (ji3)), .int .i64 10] rfl (by (try simp only [List.map_toArray, List.map_cons, List.map_nil]); first | done | (simp only [hji3]; rfl) | rfl | (simp only [List.length_drop, List.length_take]; rfl)) ?_; (with_reducible refine (ip_number.calls k (rdOf ByteArray.empty t208 (ji3)) 10 t212 false _ A9.out).mono ?_); rintro e w17 ⟨rfl, hb⟩; refine ⟨_, rfl, ?_⟩; have n0_ := Aside0.mk (Kd.R_below (by (with_reducible repeat (first | apply Kd.R_alloc | apply Kd.R_drewN | apply Kd.R_drew)); exact HO210.out) hb); have n1_ := Aside0.mk (below_step (by repeat (first | (with_reducible first | exact HB.out | apply below_alloc | apply pw_below_drewN | apply below_drew1) | exact HB.out)) hb); clear HO210; clear HB; have HO210 := n0_; have HB := n1_; clear n0_ n1_; (try clear hb); (try clear hb2); (try clear hk); (try clear hi)) | ((with_reducible refine gate_callee (f := 26) rfl ?_); refine goesL_ (some 27) rfl rfl Tryd.func26 (by kernel_rfl) rfl #[.string (rdOf ByteArray.empty t208 (ji3))] rfl (by (try simp only [List.map_toArray, List.map_cons, List.map_nil]); first | done | (simp only [hji3]; rfl) | rfl | (simp only [List.length_drop, List.length_take]; rfl)) ?_; (with_reducible refine (ip_part.calls k (rdOf ByteArray.empty t208 (ji3)) t214 t215 _ A14.out).mono ?_); rintro e w18 ⟨rfl, hb⟩; refine ⟨_, rfl, ?_⟩; have n0_ := Aside0.mk (Kd.R_below (by (with_reducible repeat (first | apply Kd.R_alloc | apply Kd.R_drewN | apply Kd.R_drew)); exact HO210.out) hb); have n1_ := Aside0.mk (below_step (by repeat (first | (with_reducible first | exact HB.out | apply below_alloc | apply pw_below_drewN | apply below_drew1) | exact HB.out)) hb); clear HO210; clear HB; have HO210 := n0_; have HB := n1_; clear n0_ n1_; (try clear hb); (try clear hb2); (try clear hk); (try clear hi)))
          go_ret
          exact ⟨by first | rfl | (simp [errW_none, errW_some] <;> rfl) | (simp only [← hji3]; first | rfl | (simp [errW_none, errW_some] <;> rfl)) | (simp [*, errW_none, errW_some] <;> rfl), by repeat (first | (with_reducible first | exact HB.out | apply below_alloc | apply pw_below_drewN | apply below_drew1) | exact HB.out)⟩
    · rw [if_neg c5] at H
      exact absurd H (by simp)
  · rw [if_neg c4] at H
    exact absurd H (by simp)

end Go.Proofs.YtldkhokpedfhdaaDoor.Q
