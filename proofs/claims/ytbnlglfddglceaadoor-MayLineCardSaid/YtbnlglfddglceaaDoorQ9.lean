-- Written by a program of this session's (wip/xprint.py), out of the seat's translation.
import Derived.Test.YtbnlglfddglceaaDoorQ0
import Derived.Test.YtbnlglfddglceaaDoorQ1
import Derived.Test.YtbnlglfddglceaaDoorQ6
import Derived.Test.YtbnlglfddglceaaDoorQ7
namespace Go.Proofs.YtbnlglfddglceaaDoor.Q
open Go.RowKit Go.Proofs.YtbnlglfddglceaaDoorW.PrintWords Go.Proofs.YtbnlglfddglceaaDoorW.PrintLast Go.Proofs.YtbnlglfddglceaaDoorW.PrintMore
attribute [local go_sem] max2_int min2_int max_two min_two max_three min_three max_four min_four   -- for this text's walks alone
set_option linter.unusedVariables false
set_option linter.unusedSimpArgs false

/-! ### sprlaw20_MayLine: function 4 -/
def sprlaw20_MayLine.j0 : Nat → Bool → Bool → ByteArray → ByteArray → ByteArray → List (S42) → Int → List (S42) → List Int → Option (Bool)
  | 0, _, _, _, _, _, _, _, _, _ => none
  | k + 1, x0, x19, x318000, x318001, x318002, x318003, x319000, x319001, x319002 => if x19 = true then ((sprlaw20_first.f k).bind fun t322 => (some t322)) else ((some (([] : List (S42)) : List (S42))).bind fun y326 => (if y326.length + x319001.length < 4398046511104 then ((some (y326 ++ x319001 : List (S42))).bind fun y329 => (if y329.length < 4398046511104 then ((some (([] : List (S42)) : List (S42))).bind fun y335 => (if y335.length + x319001.length < 4398046511104 then ((some (y335 ++ x319001 : List (S42))).bind fun y338 => (if y338.length < 4398046511104 then ((some (([] : List (S42)) : List (S42))).bind fun y344 => (if y344.length + x318003.length < 4398046511104 then ((some (y344 ++ x318003 : List (S42))).bind fun y347 => (if y347.length < 4398046511104 then ((some (y347 ++ [(⟨(⟨#[82, 97, 110, 103, 101]⟩ : ByteArray), (⟨#[98, 121, 116, 101, 115, 61, 48, 45, 49]⟩ : ByteArray)⟩ : S42)] : List (S42))).bind fun y350 => ((sprlaw20_first.f k).bind fun t353 => (if t353 = true then ((may_Store.f k x0 x318000 x318001 x318002 x318003 x319000 (y329 ++ [(⟨(⟨#[99, 97, 99, 104, 101, 45, 99, 111, 110, 116, 114, 111, 108]⟩ : ByteArray), (⟨#[110, 111, 45, 115, 116, 111, 114, 101]⟩ : ByteArray)⟩ : S42)]) x319002).bind fun t354 => (if t354 = 0 then (some false) else ((may_Store.f k true x318000 x318001 x318002 x318003 x319000 (y338 ++ [(⟨(⟨#[67, 65, 67, 72, 69, 45, 67, 79, 78, 84, 82, 79, 76]⟩ : ByteArray), (⟨#[112, 114, 105, 118, 97, 116, 101]⟩ : ByteArray)⟩ : S42)]) x319002).bind fun t355 => (if t355 = 0 then (some false) else ((may_Store.f k x0 x318000 x318001 x318002 y350 x319000 x319001 x319002).bind fun t356 => (if t356 = 1 then ((may_Plain.f k x318000 x318001 x318002 y350).bind fun t357 => (some (!t357))) else (some false))))))) else (some false)))) else (none))) else (none))) else (none))) else (none))) else (none))) else (none)))
def sprlaw20_MayLine.f (k : Nat) (a0 : Bool) (a1_0 : ByteArray) (a1_1 : ByteArray) (a1_2 : ByteArray) (l1_3 : List (S42)) (a2_0 : Int) (l2_1 : List (S42)) (l2_2 : List Int) : Option (Bool) := (sprlaw20_first.f k).bind fun t319 => (if t319 = true then ((sprlaw20_FewReq.f k a1_0 a1_1 a1_2 l1_3).bind fun t320 => (if t320 = true then ((sprlaw20_FewResp.f k a2_0 l2_1 l2_2).bind fun t321 => (sprlaw20_MayLine.j0 k a0 (!t321) a1_0 a1_1 a1_2 l1_3 a2_0 l2_1 l2_2)) else (sprlaw20_MayLine.j0 k a0 true a1_0 a1_1 a1_2 l1_3 a2_0 l2_1 l2_2))) else (some false))
theorem sprlaw20_MayLine.mono_l : ∀ k, (∀ y0 y1 y2 y3 y4 y5 y6 y7 y8, LeO (sprlaw20_MayLine.j0 k y0 y1 y2 y3 y4 y5 y6 y7 y8) (sprlaw20_MayLine.j0 (k + 1) y0 y1 y2 y3 y4 y5 y6 y7 y8))
  | 0 => fun _ _ _ _ _ _ _ _ _ r h => by simp [sprlaw20_MayLine.j0] at h
  | k + 1 => by
    have ih0 := sprlaw20_MayLine.mono_l k
    · intro y0 y1 y2 y3 y4 y5 y6 y7 y8
      unfold sprlaw20_MayLine.j0
      repeat' first
      | (with_reducible exact ih0 _ _ _ _ _ _ _ _ _)
      | (with_reducible exact may_Plain.mono _ _ _ _ _)
      | (with_reducible exact may_Store.mono _ _ _ _ _ _ _ _ _)
      | (with_reducible exact sprlaw20_FewReq.mono _ _ _ _ _)
      | (with_reducible exact sprlaw20_FewResp.mono _ _ _ _)
      | (with_reducible exact sprlaw20_first.mono _)
      | (with_reducible exact LeO.refl _)
      | (with_reducible exact LeO.none _)
      | (with_reducible refine LeO.ite ?_ ?_)
      | (with_reducible refine LeO.bind ?_ (fun _ => ?_))
      | exact ih0 _ _ _ _ _ _ _ _ _
      | exact may_Plain.mono _ _ _ _ _
      | exact may_Store.mono _ _ _ _ _ _ _ _ _
      | exact sprlaw20_FewReq.mono _ _ _ _ _
      | exact sprlaw20_FewResp.mono _ _ _ _
      | exact sprlaw20_first.mono _
      | exact LeO.none _
      | refine LeO.ite ?_ ?_
      | refine LeO.bind ?_ (fun _ => ?_)
theorem sprlaw20_MayLine.mono : ∀ a0 a1 a2 a3 a4 a5 a6 a7 k, LeO (sprlaw20_MayLine.f k a0 a1 a2 a3 a4 a5 a6 a7) (sprlaw20_MayLine.f (k + 1) a0 a1 a2 a3 a4 a5 a6 a7) := by
  intro a0 a1 a2 a3 a4 a5 a6 a7 k
  have ih0 := sprlaw20_MayLine.mono_l k
  unfold sprlaw20_MayLine.f
  repeat' first
      | (with_reducible exact ih0 _ _ _ _ _ _ _ _ _)
      | (with_reducible exact may_Plain.mono _ _ _ _ _)
      | (with_reducible exact may_Store.mono _ _ _ _ _ _ _ _ _)
      | (with_reducible exact sprlaw20_FewReq.mono _ _ _ _ _)
      | (with_reducible exact sprlaw20_FewResp.mono _ _ _ _)
      | (with_reducible exact sprlaw20_first.mono _)
      | (with_reducible exact LeO.refl _)
      | (with_reducible exact LeO.none _)
      | (with_reducible refine LeO.ite ?_ ?_)
      | (with_reducible refine LeO.bind ?_ (fun _ => ?_))
      | exact ih0 _ _ _ _ _ _ _ _ _
      | exact may_Plain.mono _ _ _ _ _
      | exact may_Store.mono _ _ _ _ _ _ _ _ _
      | exact sprlaw20_FewReq.mono _ _ _ _ _
      | exact sprlaw20_FewResp.mono _ _ _ _
      | exact sprlaw20_first.mono _
      | exact LeO.none _
      | refine LeO.ite ?_ ?_
      | refine LeO.bind ?_ (fun _ => ?_)
def sprlaw20_MayLine.T5 : Bool × List (List Nat × List Nat) := (true, [([], []), ([], []), ([], []), ([], []), ([], []), ([], []), ([3, 0, 0, 3, 4, 5], [0, 3]), ([4, 1, 6, 0, 1, 3, 4, 5, 6], [1, 4]), ([5, 2, 7, 0, 1, 2, 3, 4, 5, 6, 7], [2, 5])])
def sprlaw20_MayLine.B5 : List Nat := [0, 0, 0, 0, 0, 0, 57, 123, 255]
theorem sprlaw20_MayLine.tab5 : rtab .any (opsOf Tryd.f4 5) = sprlaw20_MayLine.T5 := by kernel_rfl
theorem sprlaw20_MayLine.bits5 : waitsOk sprlaw20_MayLine.T5.2 sprlaw20_MayLine.B5 = true := by kernel_rfl
set_option maxHeartbeats 8000000 in
set_option maxRecDepth 100000 in
theorem sprlaw20_MayLine.calls (k : Nat) (a0 : Bool) (a1_0 : ByteArray) (a1_1 : ByteArray) (a1_2 : ByteArray) (A1_3 : Option Addr) (c1_3 : Nat) (l1_3 : List (S42)) (a2_0 : Int) (A2_1 : Option Addr) (c2_1 : Nat) (l2_1 : List (S42)) (A2_2 : Option Addr) (c2_2 : Nat) (l2_2 : List Int) (r : Bool) (w : World) (hr1_3 : Kd.C k42 w A1_3 l1_3.length l1_3) (hc1_3 : l1_3.length ≤ c1_3) (hr2_1 : Kd.C k42 w A2_1 l2_1.length l2_1) (hc2_1 : l2_1.length ≤ c2_1) (hr2_2 : Kd.C (Kd.int .u8) w A2_2 l2_2.length l2_2) (hc2_2 : l2_2.length ≤ c2_2) (h : sprlaw20_MayLine.f k a0 a1_0 a1_1 a1_2 l1_3 a2_0 l2_1 l2_2 = some r) (hT : Aside0 (r = true)) :
    Calls Tryd.prog 4 #[.bool a0, .agg #[.string a1_0, .string a1_1, .string a1_2, .slice A1_3 l1_3.length c1_3], .agg #[.int .i64 a2_0, .slice A2_1 l2_1.length c2_1, .slice A2_2 l2_2.length c2_2]] w fun e w' => e = .returned (.bool r) ∧ Below w.heap.size w w' := by
  have hu24 := Tryd.underlying24
  have hu27 := Tryd.underlying27
  have hu42 := Tryd.underlying42
  have HR1_3 := Aside0.mk hr1_3
  have HC1_3 := Aside0.mk hc1_3
  clear hr1_3 hc1_3
  have HR2_1 := Aside0.mk hr2_1
  have HC2_1 := Aside0.mk hc2_1
  clear hr2_1 hc2_1
  have HR2_2 := Aside0.mk hr2_2
  have HC2_2 := Aside0.mk hc2_2
  clear hr2_2 hc2_2
  have HB := Aside0.mk (Below.refl w.heap.size w)
  have H : ((sprlaw20_first.f k).bind fun t319 => (if t319 = true then ((sprlaw20_FewReq.f k a1_0 a1_1 a1_2 l1_3).bind fun t320 => (if t320 = true then ((sprlaw20_FewResp.f k a2_0 l2_1 l2_2).bind fun t321 => (sprlaw20_MayLine.j0 k a0 (!t321) a1_0 a1_1 a1_2 l1_3 a2_0 l2_1 l2_2)) else (sprlaw20_MayLine.j0 k a0 true a1_0 a1_1 a1_2 l1_3 a2_0 l2_1 l2_2))) else (some false))) = some r := h
  clear h
  replace H := Option.bind_eq_some_iff.mp H
  obtain ⟨t319, A40, H⟩ := H
  replace H : (if t319 = true then ((sprlaw20_FewReq.f k a1_0 a1_1 a1_2 l1_3).bind fun t320 => (if t320 = true then ((sprlaw20_FewResp.f k a2_0 l2_1 l2_2).bind fun t321 => (sprlaw20_MayLine.j0 k a0 (!t321) a1_0 a1_1 a1_2 l1_3 a2_0 l2_1 l2_2)) else (sprlaw20_MayLine.j0 k a0 true a1_0 a1_1 a1_2 l1_3 a2_0 l2_1 l2_2))) else (some false)) = some r := H
  have A4 := Aside0.mk A40
  clear A40
  by_cases c5 : t319 = true
  · subst c5
    have H1 : ((sprlaw20_FewReq.f k a1_0 a1_1 a1_2 l1_3).bind fun t320 => (if t320 = true then ((sprlaw20_FewResp.f k a2_0 l2_1 l2_2).bind fun t321 => (sprlaw20_MayLine.j0 k a0 (!t321) a1_0 a1_1 a1_2 l1_3 a2_0 l2_1 l2_2)) else (sprlaw20_MayLine.j0 k a0 true a1_0 a1_1 a1_2 l1_3 a2_0 l2_1 l2_2))) = some r := by rw [if_pos rfl] at H; exact H
    clear H
    have H := H1
    clear H1
    have HC6 := Aside0.mk H
    clear H
    go_enter Tryd.func4, Tryd.ntmps4
    go_upto_region 3 with (first | ((with_reducible refine gate_dst (N := 4) rfl ?_); refine box_event ?hg (N := 4) ?hd (cs := #[.string a1_0, .string a1_1, .string a1_2, .slice A1_3 l1_3.length c1_3]) (t := 24) ?hr ?_; (case hd => rfl); (case hg => rfl); (case hr => first | (go_simp; done) | (go_simp; rfl)); intro gb317 hg w7 hbox hb; have n0_ := Aside0.mk (below_step (by repeat (first | (with_reducible first | exact HB.out | apply below_alloc | apply pw_below_drewN | apply below_drew1) | exact HB.out)) hb); have n1_ := Aside0.mk (hbox); have n2_ := Aside0.mk ((by rw [hg]; exact (below_size (by repeat (first | (with_reducible first | exact HB.out | apply below_alloc | apply pw_below_drewN | apply below_drew1) | exact HB.out))) : w.heap.size ≤ gb317)); have n3_ := Aside0.mk ((by rw [hg]; exact (below_size (by repeat (first | (with_reducible first | exact HB.out | apply below_alloc | apply pw_below_drewN | apply below_drew1) | exact HB.out))) : w.heap.size ≤ gb317)); clear HB; have HB := n0_; have BK317 := n1_; have GW317 := n2_; have GE317 := n3_; clear n0_ n1_ n2_ n3_; clear hb hbox hg) | ((with_reducible refine gate_dst (N := 5) rfl ?_); refine box_event ?hg (N := 5) ?hd (cs := #[.int .i64 a2_0, .slice A2_1 l2_1.length c2_1, .slice A2_2 l2_2.length c2_2]) (t := 27) ?hr ?_; (case hd => rfl); (case hg => rfl); (case hr => first | (go_simp; done) | (go_simp; rfl)); intro gb318 hg w8 hbox hb; have n0_ := Aside0.mk (blk_below (g := gb317) (o := .cells #[.string a1_0, .string a1_1, .string a1_2, .slice A1_3 l1_3.length c1_3] 24 (0, 0)) (by (with_reducible repeat (first | refine blk_drewN ?_ _ | refine blk_drew ?_ | refine blk_alloc ?_ _)); exact BK317.out) hb); have n1_ := Aside0.mk (below_step (by repeat (first | (with_reducible first | exact HB.out | apply below_alloc | apply pw_below_drewN | apply below_drew1 | refine below_set ?_ GE317.out) | exact HB.out)) hb); have n2_ := Aside0.mk (hbox); have n3_ := Aside0.mk ((by rw [hg]; exact (below_size (by repeat (first | (with_reducible first | exact HB.out | apply below_alloc | apply pw_below_drewN | apply below_drew1 | refine below_set ?_ GE317.out) | exact HB.out))) : w.heap.size ≤ gb318)); have n4_ := Aside0.mk ((by rw [hg]; exact (below_size (by repeat (first | (with_reducible first | exact HB.out | apply below_alloc | apply pw_below_drewN | apply below_drew1 | refine below_set ?_ GE317.out) | exact HB.out))) : w.heap.size ≤ gb318)); have n5_ := Aside0.mk ((by rw [hg]; exact Nat.ne_of_lt (blk_lt (g := gb317) (o := .cells #[.string a1_0, .string a1_1, .string a1_2, .slice A1_3 l1_3.length c1_3] 24 (0, 0)) (by (with_reducible repeat (first | refine blk_drewN ?_ _ | refine blk_drew ?_ | refine blk_alloc ?_ _)); exact BK317.out)) : gb317 ≠ gb318)); have n6_ := Aside0.mk ((by rw [hg]; exact Nat.ne_of_gt (blk_lt (g := gb317) (o := .cells #[.string a1_0, .string a1_1, .string a1_2, .slice A1_3 l1_3.length c1_3] 24 (0, 0)) (by (with_reducible repeat (first | refine blk_drewN ?_ _ | refine blk_drew ?_ | refine blk_alloc ?_ _)); exact BK317.out)) : gb318 ≠ gb317)); clear BK317; clear HB; have BK317 := n0_; have HB := n1_; have BK318 := n2_; have GW318 := n3_; have GE318 := n4_; have NB317_318 := n5_; have NB318_317 := n6_; clear n0_ n1_ n2_ n3_ n4_ n5_ n6_; clear hb hbox hg) | ((with_reducible refine gate_callee (f := 6) rfl ?_); refine goesL_ (some 10) rfl rfl Tryd.func6 (by kernel_rfl) rfl #[] rfl (by (try simp only [List.map_toArray, List.map_cons, List.map_nil]); first | done | rfl | (simp only [List.length_drop, List.length_take]; rfl)) ?_; (with_reducible refine (sprlaw20_first.calls k  true _ A4.out).mono ?_); rintro e w9 ⟨rfl, hb⟩; refine ⟨_, rfl, ?_⟩; have n0_ := Aside0.mk (blk_below (g := gb317) (o := .cells #[.string a1_0, .string a1_1, .string a1_2, .slice A1_3 l1_3.length c1_3] 24 (0, 0)) (by (with_reducible repeat (first | refine blk_drewN ?_ _ | refine blk_drew ?_ | refine blk_alloc ?_ _)); exact BK317.out) hb); have n1_ := Aside0.mk (blk_below (g := gb318) (o := .cells #[.int .i64 a2_0, .slice A2_1 l2_1.length c2_1, .slice A2_2 l2_2.length c2_2] 27 (0, 0)) (by (with_reducible repeat (first | refine blk_drewN ?_ _ | refine blk_drew ?_ | refine blk_alloc ?_ _)); exact BK318.out) hb); have n2_ := Aside0.mk (below_step (by repeat (first | (with_reducible first | exact HB.out | apply below_alloc | apply pw_below_drewN | apply below_drew1 | refine below_set ?_ GE317.out | refine below_set ?_ GE318.out) | exact HB.out)) hb); clear BK317; clear BK318; clear HB; have BK317 := n0_; have BK318 := n1_; have HB := n2_; clear n0_ n1_ n2_; (try clear hb); (try clear hb2); (try clear hk); (try clear hi)))
    (try simp only [Act.put, List.setIfInBounds_toArray, List.set_cons_zero, List.set_cons_succ])
    go_cut [19] (fun v19 wc => ∃ (kq : Nat) (x19_5 : Bool), v19 = .bool x19_5 ∧ Aside0 (sprlaw20_MayLine.j0 kq a0 x19_5 a1_0 a1_1 a1_2 l1_3 a2_0 l2_1 l2_2 = some r) ∧ Aside0 (kq ≤ k) ∧ Aside0 (wc.heap[gb317]? = some (.cells #[.string a1_0, .string a1_1, .string a1_2, (.slice A1_3 l1_3.length c1_3)] 24 (0, 0))) ∧ Aside0 (wc.heap[gb318]? = some (.cells #[.int .i64 a2_0, (.slice A2_1 l2_1.length c2_1), (.slice A2_2 l2_2.length c2_2)] 27 (0, 0))) ∧ Aside0 (Below w.heap.size w wc))
    case first =>
      have H := HC6.out
      clear HC6
      replace H := Option.bind_eq_some_iff.mp H
      obtain ⟨t320, A100, H⟩ := H
      replace H : (if t320 = true then ((sprlaw20_FewResp.f k a2_0 l2_1 l2_2).bind fun t321 => (sprlaw20_MayLine.j0 k a0 (!t321) a1_0 a1_1 a1_2 l1_3 a2_0 l2_1 l2_2)) else (sprlaw20_MayLine.j0 k a0 true a1_0 a1_1 a1_2 l1_3 a2_0 l2_1 l2_2)) = some r := H
      have A10 := Aside0.mk A100
      clear A100
      by_cases c11 : t320 = true
      · subst c11
        have H1 : ((sprlaw20_FewResp.f k a2_0 l2_1 l2_2).bind fun t321 => (sprlaw20_MayLine.j0 k a0 (!t321) a1_0 a1_1 a1_2 l1_3 a2_0 l2_1 l2_2)) = some r := by rw [if_pos rfl] at H; exact H
        clear H
        have H := H1
        clear H1
        replace H := Option.bind_eq_some_iff.mp H
        obtain ⟨t321, A120, H⟩ := H
        replace H : (sprlaw20_MayLine.j0 k a0 (!t321) a1_0 a1_1 a1_2 l1_3 a2_0 l2_1 l2_2) = some r := H
        have A12 := Aside0.mk A120
        clear A120
        have H' := Aside0.mk H
        clear H
        have hnb13 := NB317_318.out
        have hnc13 := NB318_317.out
        have hcz14_0 : w9.cell? ⟨gb317, 0, none⟩ = some (.string a1_0) := (blk_cell BK317.out 0).trans rfl
        have hcz14_1 : w9.cell? ⟨gb317, 1, none⟩ = some (.string a1_1) := (blk_cell BK317.out 1).trans rfl
        have hcz14_2 : w9.cell? ⟨gb317, 2, none⟩ = some (.string a1_2) := (blk_cell BK317.out 2).trans rfl
        have hcz14_3 : w9.cell? ⟨gb317, 3, none⟩ = some (.slice A1_3 l1_3.length c1_3) := (blk_cell BK317.out 3).trans rfl
        have hfz14_0 := blk_frozen BK317.out 0
        have hfz14_1 := blk_frozen BK317.out 1
        have hfz14_2 := blk_frozen BK317.out 2
        have hfz14_3 := blk_frozen BK317.out 3
        go_wp2_with (first | ((with_reducible refine gate_callee (f := 7) rfl ?_); refine goesL_ (some 13) rfl rfl Tryd.func7 (by kernel_rfl) rfl #[.agg #[.string a1_0, .string a1_1, .string a1_2, .slice A1_3 l1_3.length c1_3]] rfl (by (try simp only [List.map_toArray, List.map_cons, List.map_nil]); first | done | rfl | (simp only [List.length_drop, List.length_take]; rfl)) ?_; (with_reducible refine (sprlaw20_FewReq.calls k a1_0 a1_1 a1_2 _ _ l1_3 true _ ?side1 ?side2 A10.out).mono ?_); (case side1 => repeat (first | exact (Kd.C_below HR1_3.out HB.out) | (with_reducible refine Kd.C_alloc ?_ _) | (with_reducible refine Kd.C_drewN ?_ _) | (with_reducible refine Kd.C_drew ?_))); (case side2 => exact HC1_3.out); rintro e w15 ⟨rfl, hb⟩; refine ⟨_, rfl, ?_⟩; have n0_ := Aside0.mk (blk_below (g := gb317) (o := .cells #[.string a1_0, .string a1_1, .string a1_2, .slice A1_3 l1_3.length c1_3] 24 (0, 0)) (by (with_reducible repeat (first | refine blk_drewN ?_ _ | refine blk_drew ?_ | refine blk_alloc ?_ _)); exact BK317.out) hb); have n1_ := Aside0.mk (blk_below (g := gb318) (o := .cells #[.int .i64 a2_0, .slice A2_1 l2_1.length c2_1, .slice A2_2 l2_2.length c2_2] 27 (0, 0)) (by (with_reducible repeat (first | refine blk_drewN ?_ _ | refine blk_drew ?_ | refine blk_alloc ?_ _)); exact BK318.out) hb); have n2_ := Aside0.mk (below_step (by repeat (first | (with_reducible first | exact HB.out | apply below_alloc | apply pw_below_drewN | apply below_drew1 | refine below_set ?_ GE317.out | refine below_set ?_ GE318.out) | exact HB.out)) hb); clear BK317; clear BK318; clear HB; have BK317 := n0_; have BK318 := n1_; have HB := n2_; clear n0_ n1_ n2_; (try clear hb); (try clear hb2); (try clear hk); (try clear hi); have hcz16_0 : w15.cell? ⟨gb318, 0, none⟩ = some (.int .i64 a2_0) := (blk_cell BK318.out 0).trans rfl; have hcz16_1 : w15.cell? ⟨gb318, 1, none⟩ = some (.slice A2_1 l2_1.length c2_1) := (blk_cell BK318.out 1).trans rfl; have hcz16_2 : w15.cell? ⟨gb318, 2, none⟩ = some (.slice A2_2 l2_2.length c2_2) := (blk_cell BK318.out 2).trans rfl; have hfz16_0 := blk_frozen BK318.out 0; have hfz16_1 := blk_frozen BK318.out 1; have hfz16_2 := blk_frozen BK318.out 2) | (go_at_call 8; (with_reducible refine (sprlaw20_FewResp.calls k a2_0 _ _ l2_1 _ _ l2_2 t321 _ ?side1 ?side2 ?side3 ?side4 A12.out).mono ?_); (case side1 => repeat (first | exact (Kd.C_below HR2_1.out HB.out) | (with_reducible refine Kd.C_alloc ?_ _) | (with_reducible refine Kd.C_drewN ?_ _) | (with_reducible refine Kd.C_drew ?_))); (case side2 => exact HC2_1.out); (case side3 => repeat (first | exact (Kd.C_below HR2_2.out HB.out) | (with_reducible refine Kd.C_alloc ?_ _) | (with_reducible refine Kd.C_drewN ?_ _) | (with_reducible refine Kd.C_drew ?_))); (case side4 => exact HC2_2.out); rintro e w17 ⟨rfl, hb⟩; have n0_ := Aside0.mk (blk_below (g := gb317) (o := .cells #[.string a1_0, .string a1_1, .string a1_2, .slice A1_3 l1_3.length c1_3] 24 (0, 0)) (by (with_reducible repeat (first | refine blk_drewN ?_ _ | refine blk_drew ?_ | refine blk_alloc ?_ _)); exact BK317.out) hb); have n1_ := Aside0.mk (blk_below (g := gb318) (o := .cells #[.int .i64 a2_0, .slice A2_1 l2_1.length c2_1, .slice A2_2 l2_2.length c2_2] 27 (0, 0)) (by (with_reducible repeat (first | refine blk_drewN ?_ _ | refine blk_drew ?_ | refine blk_alloc ?_ _)); exact BK318.out) hb); have n2_ := Aside0.mk (below_step (by repeat (first | (with_reducible first | exact HB.out | apply below_alloc | apply pw_below_drewN | apply below_drew1 | refine below_set ?_ GE317.out | refine below_set ?_ GE318.out) | exact HB.out)) hb); clear BK317; clear BK318; clear HB; have BK317 := n0_; have BK318 := n1_; have HB := n2_; clear n0_ n1_ n2_; (try clear hb); (try clear hb2); (try clear hk); (try clear hi)))
        go_meet
        case rel => exact ⟨_, (!t321), (by first | rfl | (simp; done) | (simp [*]; done)), H', ⟨by first | omega | exact Nat.le_refl _⟩, ⟨by (with_reducible repeat (first | refine blk_drewN ?_ _ | refine blk_drew ?_ | refine blk_alloc ?_ _)); exact BK317.out⟩, ⟨by (with_reducible repeat (first | refine blk_drewN ?_ _ | refine blk_drew ?_ | refine blk_alloc ?_ _)); exact BK318.out⟩, ⟨by repeat (first | (with_reducible first | exact HB.out | apply below_alloc | apply pw_below_drewN | apply below_drew1 | refine below_set ?_ GE317.out | refine below_set ?_ GE318.out) | exact HB.out)⟩⟩
      · replace c11 := Bool.eq_false_iff.mpr c11
        subst c11
        have H1 : (sprlaw20_MayLine.j0 k a0 true a1_0 a1_1 a1_2 l1_3 a2_0 l2_1 l2_2) = some r := by rw [if_neg (show ¬ (false = true) by decide)] at H; exact H
        clear H
        have H := H1
        clear H1
        have H' := Aside0.mk H
        clear H
        have hnb18 := NB317_318.out
        have hnc18 := NB318_317.out
        have hcz19_0 : w9.cell? ⟨gb317, 0, none⟩ = some (.string a1_0) := (blk_cell BK317.out 0).trans rfl
        have hcz19_1 : w9.cell? ⟨gb317, 1, none⟩ = some (.string a1_1) := (blk_cell BK317.out 1).trans rfl
        have hcz19_2 : w9.cell? ⟨gb317, 2, none⟩ = some (.string a1_2) := (blk_cell BK317.out 2).trans rfl
        have hcz19_3 : w9.cell? ⟨gb317, 3, none⟩ = some (.slice A1_3 l1_3.length c1_3) := (blk_cell BK317.out 3).trans rfl
        have hfz19_0 := blk_frozen BK317.out 0
        have hfz19_1 := blk_frozen BK317.out 1
        have hfz19_2 := blk_frozen BK317.out 2
        have hfz19_3 := blk_frozen BK317.out 3
        go_wp2_with (first | ((with_reducible refine gate_callee (f := 7) rfl ?_); refine goesL_ (some 13) rfl rfl Tryd.func7 (by kernel_rfl) rfl #[.agg #[.string a1_0, .string a1_1, .string a1_2, .slice A1_3 l1_3.length c1_3]] rfl (by (try simp only [List.map_toArray, List.map_cons, List.map_nil]); first | done | rfl | (simp only [List.length_drop, List.length_take]; rfl)) ?_; (with_reducible refine (sprlaw20_FewReq.calls k a1_0 a1_1 a1_2 _ _ l1_3 false _ ?side1 ?side2 A10.out).mono ?_); (case side1 => repeat (first | exact (Kd.C_below HR1_3.out HB.out) | (with_reducible refine Kd.C_alloc ?_ _) | (with_reducible refine Kd.C_drewN ?_ _) | (with_reducible refine Kd.C_drew ?_))); (case side2 => exact HC1_3.out); rintro e w20 ⟨rfl, hb⟩; refine ⟨_, rfl, ?_⟩; have n0_ := Aside0.mk (blk_below (g := gb317) (o := .cells #[.string a1_0, .string a1_1, .string a1_2, .slice A1_3 l1_3.length c1_3] 24 (0, 0)) (by (with_reducible repeat (first | refine blk_drewN ?_ _ | refine blk_drew ?_ | refine blk_alloc ?_ _)); exact BK317.out) hb); have n1_ := Aside0.mk (blk_below (g := gb318) (o := .cells #[.int .i64 a2_0, .slice A2_1 l2_1.length c2_1, .slice A2_2 l2_2.length c2_2] 27 (0, 0)) (by (with_reducible repeat (first | refine blk_drewN ?_ _ | refine blk_drew ?_ | refine blk_alloc ?_ _)); exact BK318.out) hb); have n2_ := Aside0.mk (below_step (by repeat (first | (with_reducible first | exact HB.out | apply below_alloc | apply pw_below_drewN | apply below_drew1 | refine below_set ?_ GE317.out | refine below_set ?_ GE318.out) | exact HB.out)) hb); clear BK317; clear BK318; clear HB; have BK317 := n0_; have BK318 := n1_; have HB := n2_; clear n0_ n1_ n2_; (try clear hb); (try clear hb2); (try clear hk); (try clear hi)))
        go_meet
        case rel => exact ⟨_, (true), (by first | rfl | (simp; done) | (simp [*]; done)), H', ⟨by first | omega | exact Nat.le_refl _⟩, ⟨by (with_reducible repeat (first | refine blk_drewN ?_ _ | refine blk_drew ?_ | refine blk_alloc ?_ _)); exact BK317.out⟩, ⟨by (with_reducible repeat (first | refine blk_drewN ?_ _ | refine blk_drew ?_ | refine blk_alloc ?_ _)); exact BK318.out⟩, ⟨by repeat (first | (with_reducible first | exact HB.out | apply below_alloc | apply pw_below_drewN | apply below_drew1 | refine below_set ?_ GE317.out | refine below_set ?_ GE318.out) | exact HB.out)⟩⟩
    case rest =>
      clear HC6
      try clear c1
      try clear c2
      try clear p2
      try clear c4
      try clear c5
      try clear c6
      try clear c7
      try clear c11
      try clear c13
      try clear c18
      try clear hcz14_0
      try clear hcz14_1
      try clear hcz14_2
      try clear hcz14_3
      try clear hcz16_0
      try clear hcz16_1
      try clear hcz16_2
      try clear hcz19_0
      try clear hcz19_1
      try clear hcz19_2
      try clear hcz19_3
      try clear hfz14_0
      try clear hfz14_1
      try clear hfz14_2
      try clear hfz14_3
      try clear hfz16_0
      try clear hfz16_1
      try clear hfz16_2
      try clear hfz19_0
      try clear hfz19_1
      try clear hfz19_2
      try clear hfz19_3
      obtain ⟨kq, x19_5, rfl, HA, HJ5, BK317, BK318, HB⟩ := hcut
      cases kq with
      | zero => exact absurd HA.out (by simp [sprlaw20_MayLine.j0])
      | succ kj5 =>
        have H := HA.out
        clear HA
        simp only [sprlaw20_MayLine.j0] at H
        by_cases c21 : x19_5 = true
        · subst c21
          have H1 : ((sprlaw20_first.f kj5).bind fun t322 => (some t322)) = some r := by rw [if_pos rfl] at H; exact H
          clear H
          have H := H1
          clear H1
          replace H := Option.bind_eq_some_iff.mp H
          obtain ⟨t322, A220, H⟩ := H
          replace H : (some t322) = some r := H
          have A22 := Aside0.mk A220
          clear A220
          obtain rfl := Option.some.inj H
          go_wp2_with (first | ((with_reducible refine gate_callee (f := 6) rfl ?_); refine goesL_ (some 20) rfl rfl Tryd.func6 (by kernel_rfl) rfl #[] rfl (by (try simp only [List.map_toArray, List.map_cons, List.map_nil]); first | done | rfl | (simp only [List.length_drop, List.length_take]; rfl)) ?_; (with_reducible refine (sprlaw20_first.calls kj5  t322 _ A22.out).mono ?_); rintro e w23 ⟨rfl, hb⟩; refine ⟨_, rfl, ?_⟩; have n0_ := Aside0.mk (blk_below (g := gb317) (o := .cells #[.string a1_0, .string a1_1, .string a1_2, .slice A1_3 l1_3.length c1_3] 24 (0, 0)) (by (with_reducible repeat (first | refine blk_drewN ?_ _ | refine blk_drew ?_ | refine blk_alloc ?_ _)); exact BK317.out) hb); have n1_ := Aside0.mk (blk_below (g := gb318) (o := .cells #[.int .i64 a2_0, .slice A2_1 l2_1.length c2_1, .slice A2_2 l2_2.length c2_2] 27 (0, 0)) (by (with_reducible repeat (first | refine blk_drewN ?_ _ | refine blk_drew ?_ | refine blk_alloc ?_ _)); exact BK318.out) hb); have n2_ := Aside0.mk (below_step (by repeat (first | (with_reducible first | exact HB.out | apply below_alloc | apply pw_below_drewN | apply below_drew1 | refine below_set ?_ GE317.out | refine below_set ?_ GE318.out) | exact HB.out)) hb); clear BK317; clear BK318; clear HB; have BK317 := n0_; have BK318 := n1_; have HB := n2_; clear n0_ n1_ n2_; (try clear hb); (try clear hb2); (try clear hk); (try clear hi)))
          go_ret
          exact ⟨by first | rfl | (simp [errW_none, errW_some] <;> rfl) | (simp [*, errW_none, errW_some] <;> rfl), by repeat (first | (with_reducible first | exact HB.out | apply below_alloc | apply pw_below_drewN | apply below_drew1 | refine below_set ?_ GE317.out | refine below_set ?_ GE318.out) | exact HB.out)⟩
        · replace c21 := Bool.eq_false_iff.mpr c21
          subst c21
          have H1 : ((some (([] : List (S42)) : List (S42))).bind fun y326 => (if y326.length + l2_1.length < 4398046511104 then ((some (y326 ++ l2_1 : List (S42))).bind fun y329 => (if y329.length < 4398046511104 then ((some (([] : List (S42)) : List (S42))).bind fun y335 => (if y335.length + l2_1.length < 4398046511104 then ((some (y335 ++ l2_1 : List (S42))).bind fun y338 => (if y338.length < 4398046511104 then ((some (([] : List (S42)) : List (S42))).bind fun y344 => (if y344.length + l1_3.length < 4398046511104 then ((some (y344 ++ l1_3 : List (S42))).bind fun y347 => (if y347.length < 4398046511104 then ((some (y347 ++ [(⟨(⟨#[82, 97, 110, 103, 101]⟩ : ByteArray), (⟨#[98, 121, 116, 101, 115, 61, 48, 45, 49]⟩ : ByteArray)⟩ : S42)] : List (S42))).bind fun y350 => ((sprlaw20_first.f kj5).bind fun t353 => (if t353 = true then ((may_Store.f kj5 a0 a1_0 a1_1 a1_2 l1_3 a2_0 (y329 ++ [(⟨(⟨#[99, 97, 99, 104, 101, 45, 99, 111, 110, 116, 114, 111, 108]⟩ : ByteArray), (⟨#[110, 111, 45, 115, 116, 111, 114, 101]⟩ : ByteArray)⟩ : S42)]) l2_2).bind fun t354 => (if t354 = 0 then (some false) else ((may_Store.f kj5 true a1_0 a1_1 a1_2 l1_3 a2_0 (y338 ++ [(⟨(⟨#[67, 65, 67, 72, 69, 45, 67, 79, 78, 84, 82, 79, 76]⟩ : ByteArray), (⟨#[112, 114, 105, 118, 97, 116, 101]⟩ : ByteArray)⟩ : S42)]) l2_2).bind fun t355 => (if t355 = 0 then (some false) else ((may_Store.f kj5 a0 a1_0 a1_1 a1_2 y350 a2_0 l2_1 l2_2).bind fun t356 => (if t356 = 1 then ((may_Plain.f kj5 a1_0 a1_1 a1_2 y350).bind fun t357 => (some (!t357))) else (some false))))))) else (some false)))) else (none))) else (none))) else (none))) else (none))) else (none))) else (none))) = some r := by rw [if_neg (show ¬ (false = true) by decide)] at H; exact H
          clear H
          have H := H1
          clear H1
          obtain ⟨y326, hy326⟩ : ∃ y_ : List (S42), y_ = (([] : List (S42))) := ⟨_, rfl⟩
          replace H : (if y326.length + l2_1.length < 4398046511104 then ((some (y326 ++ l2_1 : List (S42))).bind fun y329 => (if y329.length < 4398046511104 then ((some (([] : List (S42)) : List (S42))).bind fun y335 => (if y335.length + l2_1.length < 4398046511104 then ((some (y335 ++ l2_1 : List (S42))).bind fun y338 => (if y338.length < 4398046511104 then ((some (([] : List (S42)) : List (S42))).bind fun y344 => (if y344.length + l1_3.length < 4398046511104 then ((some (y344 ++ l1_3 : List (S42))).bind fun y347 => (if y347.length < 4398046511104 then ((some (y347 ++ [(⟨(⟨#[82, 97, 110, 103, 101]⟩ : ByteArray), (⟨#[98, 121, 116, 101, 115, 61, 48, 45, 49]⟩ : ByteArray)⟩ : S42)] : List (S42))).bind fun y350 => ((sprlaw20_first.f kj5).bind fun t353 => (if t353 = true then ((may_Store.f kj5 a0 a1_0 a1_1 a1_2 l1_3 a2_0 (y329 ++ [(⟨(⟨#[99, 97, 99, 104, 101, 45, 99, 111, 110, 116, 114, 111, 108]⟩ : ByteArray), (⟨#[110, 111, 45, 115, 116, 111, 114, 101]⟩ : ByteArray)⟩ : S42)]) l2_2).bind fun t354 => (if t354 = 0 then (some false) else ((may_Store.f kj5 true a1_0 a1_1 a1_2 l1_3 a2_0 (y338 ++ [(⟨(⟨#[67, 65, 67, 72, 69, 45, 67, 79, 78, 84, 82, 79, 76]⟩ : ByteArray), (⟨#[112, 114, 105, 118, 97, 116, 101]⟩ : ByteArray)⟩ : S42)]) l2_2).bind fun t355 => (if t355 = 0 then (some false) else ((may_Store.f kj5 a0 a1_0 a1_1 a1_2 y350 a2_0 l2_1 l2_2).bind fun t356 => (if t356 = 1 then ((may_Plain.f kj5 a1_0 a1_1 a1_2 y350).bind fun t357 => (some (!t357))) else (some false))))))) else (some false)))) else (none))) else (none))) else (none))) else (none))) else (none))) else (none)) = some r := by first | (rw [hy326]; with_reducible exact H) | (have H2_ := (Option.bind_some _ _).symm.trans H; rw [hy326]; with_reducible exact H2_) | (have H2_ := (Option.bind_some _ _).symm.trans H; with_reducible exact H2_) | with_reducible exact H | (rw [hy326]; exact H) | exact H
          have Ny326 := Aside0.mk hy326
          clear hy326
          by_cases c24 : y326.length + l2_1.length < 4398046511104
          · rw [if_pos c24] at H
            have LMc24 := Aside0.mk c24
            clear c24
            obtain ⟨y329, hy329⟩ : ∃ y_ : List (S42), y_ = (y326 ++ l2_1) := ⟨_, rfl⟩
            replace H : (if y329.length < 4398046511104 then ((some (([] : List (S42)) : List (S42))).bind fun y335 => (if y335.length + l2_1.length < 4398046511104 then ((some (y335 ++ l2_1 : List (S42))).bind fun y338 => (if y338.length < 4398046511104 then ((some (([] : List (S42)) : List (S42))).bind fun y344 => (if y344.length + l1_3.length < 4398046511104 then ((some (y344 ++ l1_3 : List (S42))).bind fun y347 => (if y347.length < 4398046511104 then ((some (y347 ++ [(⟨(⟨#[82, 97, 110, 103, 101]⟩ : ByteArray), (⟨#[98, 121, 116, 101, 115, 61, 48, 45, 49]⟩ : ByteArray)⟩ : S42)] : List (S42))).bind fun y350 => ((sprlaw20_first.f kj5).bind fun t353 => (if t353 = true then ((may_Store.f kj5 a0 a1_0 a1_1 a1_2 l1_3 a2_0 (y329 ++ [(⟨(⟨#[99, 97, 99, 104, 101, 45, 99, 111, 110, 116, 114, 111, 108]⟩ : ByteArray), (⟨#[110, 111, 45, 115, 116, 111, 114, 101]⟩ : ByteArray)⟩ : S42)]) l2_2).bind fun t354 => (if t354 = 0 then (some false) else ((may_Store.f kj5 true a1_0 a1_1 a1_2 l1_3 a2_0 (y338 ++ [(⟨(⟨#[67, 65, 67, 72, 69, 45, 67, 79, 78, 84, 82, 79, 76]⟩ : ByteArray), (⟨#[112, 114, 105, 118, 97, 116, 101]⟩ : ByteArray)⟩ : S42)]) l2_2).bind fun t355 => (if t355 = 0 then (some false) else ((may_Store.f kj5 a0 a1_0 a1_1 a1_2 y350 a2_0 l2_1 l2_2).bind fun t356 => (if t356 = 1 then ((may_Plain.f kj5 a1_0 a1_1 a1_2 y350).bind fun t357 => (some (!t357))) else (some false))))))) else (some false)))) else (none))) else (none))) else (none))) else (none))) else (none)) = some r := by first | (rw [hy329]; with_reducible exact H) | (have H2_ := (Option.bind_some _ _).symm.trans H; rw [hy329]; with_reducible exact H2_) | (have H2_ := (Option.bind_some _ _).symm.trans H; with_reducible exact H2_) | with_reducible exact H | (rw [hy329]; exact H) | exact H
            have Ny329 := Aside0.mk hy329
            clear hy329
            by_cases c25 : y329.length < 4398046511104
            · rw [if_pos c25] at H
              have LMc25 := Aside0.mk c25
              clear c25
              obtain ⟨y332, hy332⟩ : ∃ y_ : List (S42), y_ = (y329 ++ [(⟨(⟨#[99, 97, 99, 104, 101, 45, 99, 111, 110, 116, 114, 111, 108]⟩ : ByteArray), (⟨#[110, 111, 45, 115, 116, 111, 114, 101]⟩ : ByteArray)⟩ : S42)]) := ⟨_, rfl⟩
              replace H : ((some (([] : List (S42)) : List (S42))).bind fun y335 => (if y335.length + l2_1.length < 4398046511104 then ((some (y335 ++ l2_1 : List (S42))).bind fun y338 => (if y338.length < 4398046511104 then ((some (([] : List (S42)) : List (S42))).bind fun y344 => (if y344.length + l1_3.length < 4398046511104 then ((some (y344 ++ l1_3 : List (S42))).bind fun y347 => (if y347.length < 4398046511104 then ((some (y347 ++ [(⟨(⟨#[82, 97, 110, 103, 101]⟩ : ByteArray), (⟨#[98, 121, 116, 101, 115, 61, 48, 45, 49]⟩ : ByteArray)⟩ : S42)] : List (S42))).bind fun y350 => ((sprlaw20_first.f kj5).bind fun t353 => (if t353 = true then ((may_Store.f kj5 a0 a1_0 a1_1 a1_2 l1_3 a2_0 y332 l2_2).bind fun t354 => (if t354 = 0 then (some false) else ((may_Store.f kj5 true a1_0 a1_1 a1_2 l1_3 a2_0 (y338 ++ [(⟨(⟨#[67, 65, 67, 72, 69, 45, 67, 79, 78, 84, 82, 79, 76]⟩ : ByteArray), (⟨#[112, 114, 105, 118, 97, 116, 101]⟩ : ByteArray)⟩ : S42)]) l2_2).bind fun t355 => (if t355 = 0 then (some false) else ((may_Store.f kj5 a0 a1_0 a1_1 a1_2 y350 a2_0 l2_1 l2_2).bind fun t356 => (if t356 = 1 then ((may_Plain.f kj5 a1_0 a1_1 a1_2 y350).bind fun t357 => (some (!t357))) else (some false))))))) else (some false)))) else (none))) else (none))) else (none))) else (none))) = some r := by first | (rw [hy332]; with_reducible exact H) | (have H2_ := (Option.bind_some _ _).symm.trans H; rw [hy332]; with_reducible exact H2_) | (have H2_ := (Option.bind_some _ _).symm.trans H; with_reducible exact H2_) | with_reducible exact H | (rw [hy332]; exact H) | exact H
              have Ny332 := Aside0.mk hy332
              clear hy332
              obtain ⟨y335, hy335⟩ : ∃ y_ : List (S42), y_ = (([] : List (S42))) := ⟨_, rfl⟩
              replace H : (if y335.length + l2_1.length < 4398046511104 then ((some (y335 ++ l2_1 : List (S42))).bind fun y338 => (if y338.length < 4398046511104 then ((some (([] : List (S42)) : List (S42))).bind fun y344 => (if y344.length + l1_3.length < 4398046511104 then ((some (y344 ++ l1_3 : List (S42))).bind fun y347 => (if y347.length < 4398046511104 then ((some (y347 ++ [(⟨(⟨#[82, 97, 110, 103, 101]⟩ : ByteArray), (⟨#[98, 121, 116, 101, 115, 61, 48, 45, 49]⟩ : ByteArray)⟩ : S42)] : List (S42))).bind fun y350 => ((sprlaw20_first.f kj5).bind fun t353 => (if t353 = true then ((may_Store.f kj5 a0 a1_0 a1_1 a1_2 l1_3 a2_0 y332 l2_2).bind fun t354 => (if t354 = 0 then (some false) else ((may_Store.f kj5 true a1_0 a1_1 a1_2 l1_3 a2_0 (y338 ++ [(⟨(⟨#[67, 65, 67, 72, 69, 45, 67, 79, 78, 84, 82, 79, 76]⟩ : ByteArray), (⟨#[112, 114, 105, 118, 97, 116, 101]⟩ : ByteArray)⟩ : S42)]) l2_2).bind fun t355 => (if t355 = 0 then (some false) else ((may_Store.f kj5 a0 a1_0 a1_1 a1_2 y350 a2_0 l2_1 l2_2).bind fun t356 => (if t356 = 1 then ((may_Plain.f kj5 a1_0 a1_1 a1_2 y350).bind fun t357 => (some (!t357))) else (some false))))))) else (some false)))) else (none))) else (none))) else (none))) else (none)) = some r := by first | (rw [hy335]; with_reducible exact H) | (have H2_ := (Option.bind_some _ _).symm.trans H; rw [hy335]; with_reducible exact H2_) | (have H2_ := (Option.bind_some _ _).symm.trans H; with_reducible exact H2_) | with_reducible exact H | (rw [hy335]; exact H) | exact H
              have Ny335 := Aside0.mk hy335
              clear hy335
              by_cases c26 : y335.length + l2_1.length < 4398046511104
              · rw [if_pos c26] at H
                have LMc26 := Aside0.mk c26
                clear c26
                obtain ⟨y338, hy338⟩ : ∃ y_ : List (S42), y_ = (y335 ++ l2_1) := ⟨_, rfl⟩
                replace H : (if y338.length < 4398046511104 then ((some (([] : List (S42)) : List (S42))).bind fun y344 => (if y344.length + l1_3.length < 4398046511104 then ((some (y344 ++ l1_3 : List (S42))).bind fun y347 => (if y347.length < 4398046511104 then ((some (y347 ++ [(⟨(⟨#[82, 97, 110, 103, 101]⟩ : ByteArray), (⟨#[98, 121, 116, 101, 115, 61, 48, 45, 49]⟩ : ByteArray)⟩ : S42)] : List (S42))).bind fun y350 => ((sprlaw20_first.f kj5).bind fun t353 => (if t353 = true then ((may_Store.f kj5 a0 a1_0 a1_1 a1_2 l1_3 a2_0 y332 l2_2).bind fun t354 => (if t354 = 0 then (some false) else ((may_Store.f kj5 true a1_0 a1_1 a1_2 l1_3 a2_0 (y338 ++ [(⟨(⟨#[67, 65, 67, 72, 69, 45, 67, 79, 78, 84, 82, 79, 76]⟩ : ByteArray), (⟨#[112, 114, 105, 118, 97, 116, 101]⟩ : ByteArray)⟩ : S42)]) l2_2).bind fun t355 => (if t355 = 0 then (some false) else ((may_Store.f kj5 a0 a1_0 a1_1 a1_2 y350 a2_0 l2_1 l2_2).bind fun t356 => (if t356 = 1 then ((may_Plain.f kj5 a1_0 a1_1 a1_2 y350).bind fun t357 => (some (!t357))) else (some false))))))) else (some false)))) else (none))) else (none))) else (none)) = some r := by first | (rw [hy338]; with_reducible exact H) | (have H2_ := (Option.bind_some _ _).symm.trans H; rw [hy338]; with_reducible exact H2_) | (have H2_ := (Option.bind_some _ _).symm.trans H; with_reducible exact H2_) | with_reducible exact H | (rw [hy338]; exact H) | exact H
                have Ny338 := Aside0.mk hy338
                clear hy338
                by_cases c27 : y338.length < 4398046511104
                · rw [if_pos c27] at H
                  have LMc27 := Aside0.mk c27
                  clear c27
                  obtain ⟨y341, hy341⟩ : ∃ y_ : List (S42), y_ = (y338 ++ [(⟨(⟨#[67, 65, 67, 72, 69, 45, 67, 79, 78, 84, 82, 79, 76]⟩ : ByteArray), (⟨#[112, 114, 105, 118, 97, 116, 101]⟩ : ByteArray)⟩ : S42)]) := ⟨_, rfl⟩
                  replace H : ((some (([] : List (S42)) : List (S42))).bind fun y344 => (if y344.length + l1_3.length < 4398046511104 then ((some (y344 ++ l1_3 : List (S42))).bind fun y347 => (if y347.length < 4398046511104 then ((some (y347 ++ [(⟨(⟨#[82, 97, 110, 103, 101]⟩ : ByteArray), (⟨#[98, 121, 116, 101, 115, 61, 48, 45, 49]⟩ : ByteArray)⟩ : S42)] : List (S42))).bind fun y350 => ((sprlaw20_first.f kj5).bind fun t353 => (if t353 = true then ((may_Store.f kj5 a0 a1_0 a1_1 a1_2 l1_3 a2_0 y332 l2_2).bind fun t354 => (if t354 = 0 then (some false) else ((may_Store.f kj5 true a1_0 a1_1 a1_2 l1_3 a2_0 y341 l2_2).bind fun t355 => (if t355 = 0 then (some false) else ((may_Store.f kj5 a0 a1_0 a1_1 a1_2 y350 a2_0 l2_1 l2_2).bind fun t356 => (if t356 = 1 then ((may_Plain.f kj5 a1_0 a1_1 a1_2 y350).bind fun t357 => (some (!t357))) else (some false))))))) else (some false)))) else (none))) else (none))) = some r := by first | (rw [hy341]; with_reducible exact H) | (have H2_ := (Option.bind_some _ _).symm.trans H; rw [hy341]; with_reducible exact H2_) | (have H2_ := (Option.bind_some _ _).symm.trans H; with_reducible exact H2_) | with_reducible exact H | (rw [hy341]; exact H) | exact H
                  have Ny341 := Aside0.mk hy341
                  clear hy341
                  obtain ⟨y344, hy344⟩ : ∃ y_ : List (S42), y_ = (([] : List (S42))) := ⟨_, rfl⟩
                  replace H : (if y344.length + l1_3.length < 4398046511104 then ((some (y344 ++ l1_3 : List (S42))).bind fun y347 => (if y347.length < 4398046511104 then ((some (y347 ++ [(⟨(⟨#[82, 97, 110, 103, 101]⟩ : ByteArray), (⟨#[98, 121, 116, 101, 115, 61, 48, 45, 49]⟩ : ByteArray)⟩ : S42)] : List (S42))).bind fun y350 => ((sprlaw20_first.f kj5).bind fun t353 => (if t353 = true then ((may_Store.f kj5 a0 a1_0 a1_1 a1_2 l1_3 a2_0 y332 l2_2).bind fun t354 => (if t354 = 0 then (some false) else ((may_Store.f kj5 true a1_0 a1_1 a1_2 l1_3 a2_0 y341 l2_2).bind fun t355 => (if t355 = 0 then (some false) else ((may_Store.f kj5 a0 a1_0 a1_1 a1_2 y350 a2_0 l2_1 l2_2).bind fun t356 => (if t356 = 1 then ((may_Plain.f kj5 a1_0 a1_1 a1_2 y350).bind fun t357 => (some (!t357))) else (some false))))))) else (some false)))) else (none))) else (none)) = some r := by first | (rw [hy344]; with_reducible exact H) | (have H2_ := (Option.bind_some _ _).symm.trans H; rw [hy344]; with_reducible exact H2_) | (have H2_ := (Option.bind_some _ _).symm.trans H; with_reducible exact H2_) | with_reducible exact H | (rw [hy344]; exact H) | exact H
                  have Ny344 := Aside0.mk hy344
                  clear hy344
                  by_cases c28 : y344.length + l1_3.length < 4398046511104
                  · rw [if_pos c28] at H
                    have LMc28 := Aside0.mk c28
                    clear c28
                    obtain ⟨y347, hy347⟩ : ∃ y_ : List (S42), y_ = (y344 ++ l1_3) := ⟨_, rfl⟩
                    replace H : (if y347.length < 4398046511104 then ((some (y347 ++ [(⟨(⟨#[82, 97, 110, 103, 101]⟩ : ByteArray), (⟨#[98, 121, 116, 101, 115, 61, 48, 45, 49]⟩ : ByteArray)⟩ : S42)] : List (S42))).bind fun y350 => ((sprlaw20_first.f kj5).bind fun t353 => (if t353 = true then ((may_Store.f kj5 a0 a1_0 a1_1 a1_2 l1_3 a2_0 y332 l2_2).bind fun t354 => (if t354 = 0 then (some false) else ((may_Store.f kj5 true a1_0 a1_1 a1_2 l1_3 a2_0 y341 l2_2).bind fun t355 => (if t355 = 0 then (some false) else ((may_Store.f kj5 a0 a1_0 a1_1 a1_2 y350 a2_0 l2_1 l2_2).bind fun t356 => (if t356 = 1 then ((may_Plain.f kj5 a1_0 a1_1 a1_2 y350).bind fun t357 => (some (!t357))) else (some false))))))) else (some false)))) else (none)) = some r := by first | (rw [hy347]; with_reducible exact H) | (have H2_ := (Option.bind_some _ _).symm.trans H; rw [hy347]; with_reducible exact H2_) | (have H2_ := (Option.bind_some _ _).symm.trans H; with_reducible exact H2_) | with_reducible exact H | (rw [hy347]; exact H) | exact H
                    have Ny347 := Aside0.mk hy347
                    clear hy347
                    by_cases c29 : y347.length < 4398046511104
                    · rw [if_pos c29] at H
                      have LMc29 := Aside0.mk c29
                      clear c29
                      obtain ⟨y350, hy350⟩ : ∃ y_ : List (S42), y_ = (y347 ++ [(⟨(⟨#[82, 97, 110, 103, 101]⟩ : ByteArray), (⟨#[98, 121, 116, 101, 115, 61, 48, 45, 49]⟩ : ByteArray)⟩ : S42)]) := ⟨_, rfl⟩
                      replace H : ((sprlaw20_first.f kj5).bind fun t353 => (if t353 = true then ((may_Store.f kj5 a0 a1_0 a1_1 a1_2 l1_3 a2_0 y332 l2_2).bind fun t354 => (if t354 = 0 then (some false) else ((may_Store.f kj5 true a1_0 a1_1 a1_2 l1_3 a2_0 y341 l2_2).bind fun t355 => (if t355 = 0 then (some false) else ((may_Store.f kj5 a0 a1_0 a1_1 a1_2 y350 a2_0 l2_1 l2_2).bind fun t356 => (if t356 = 1 then ((may_Plain.f kj5 a1_0 a1_1 a1_2 y350).bind fun t357 => (some (!t357))) else (some false))))))) else (some false))) = some r := by first | (rw [hy350]; with_reducible exact H) | (have H2_ := (Option.bind_some _ _).symm.trans H; rw [hy350]; with_reducible exact H2_) | (have H2_ := (Option.bind_some _ _).symm.trans H; with_reducible exact H2_) | with_reducible exact H | (rw [hy350]; exact H) | exact H
                      have Ny350 := Aside0.mk hy350
                      clear hy350
                      replace H := Option.bind_eq_some_iff.mp H
                      obtain ⟨t353, A300, H⟩ := H
                      replace H : (if t353 = true then ((may_Store.f kj5 a0 a1_0 a1_1 a1_2 l1_3 a2_0 y332 l2_2).bind fun t354 => (if t354 = 0 then (some false) else ((may_Store.f kj5 true a1_0 a1_1 a1_2 l1_3 a2_0 y341 l2_2).bind fun t355 => (if t355 = 0 then (some false) else ((may_Store.f kj5 a0 a1_0 a1_1 a1_2 y350 a2_0 l2_1 l2_2).bind fun t356 => (if t356 = 1 then ((may_Plain.f kj5 a1_0 a1_1 a1_2 y350).bind fun t357 => (some (!t357))) else (some false))))))) else (some false)) = some r := H
                      have A30 := Aside0.mk A300
                      clear A300
                      by_cases c31 : t353 = true
                      · subst c31
                        have H1 : ((may_Store.f kj5 a0 a1_0 a1_1 a1_2 l1_3 a2_0 y332 l2_2).bind fun t354 => (if t354 = 0 then (some false) else ((may_Store.f kj5 true a1_0 a1_1 a1_2 l1_3 a2_0 y341 l2_2).bind fun t355 => (if t355 = 0 then (some false) else ((may_Store.f kj5 a0 a1_0 a1_1 a1_2 y350 a2_0 l2_1 l2_2).bind fun t356 => (if t356 = 1 then ((may_Plain.f kj5 a1_0 a1_1 a1_2 y350).bind fun t357 => (some (!t357))) else (some false))))))) = some r := by rw [if_pos rfl] at H; exact H
                        clear H
                        have H := H1
                        clear H1
                        replace H := Option.bind_eq_some_iff.mp H
                        obtain ⟨t354, A320, H⟩ := H
                        replace H : (if t354 = 0 then (some false) else ((may_Store.f kj5 true a1_0 a1_1 a1_2 l1_3 a2_0 y341 l2_2).bind fun t355 => (if t355 = 0 then (some false) else ((may_Store.f kj5 a0 a1_0 a1_1 a1_2 y350 a2_0 l2_1 l2_2).bind fun t356 => (if t356 = 1 then ((may_Plain.f kj5 a1_0 a1_1 a1_2 y350).bind fun t357 => (some (!t357))) else (some false)))))) = some r := H
                        have A32 := Aside0.mk A320
                        clear A320
                        by_cases c33 : t354 = 0
                        · rw [if_pos c33] at H
                          have c33b0 : (t354 == 0) = true := beq_iff_eq.mpr c33
                          have c33b1 : (t354 != 0) = false := bne_eq_false_iff_eq.mpr c33
                          clear c33
                          exact absurd ((Option.some.inj H).trans hT.out) (by decide)
                        · rw [if_neg c33] at H
                          have c33b0 : (t354 == 0) = false := beq_eq_false_iff_ne.mpr c33
                          have c33b1 : (t354 != 0) = true := bne_iff_ne.mpr c33
                          replace H := Option.bind_eq_some_iff.mp H
                          obtain ⟨t355, A340, H⟩ := H
                          replace H : (if t355 = 0 then (some false) else ((may_Store.f kj5 a0 a1_0 a1_1 a1_2 y350 a2_0 l2_1 l2_2).bind fun t356 => (if t356 = 1 then ((may_Plain.f kj5 a1_0 a1_1 a1_2 y350).bind fun t357 => (some (!t357))) else (some false)))) = some r := H
                          have A34 := Aside0.mk A340
                          clear A340
                          by_cases c35 : t355 = 0
                          · rw [if_pos c35] at H
                            have c35b0 : (t355 == 0) = true := beq_iff_eq.mpr c35
                            have c35b1 : (t355 != 0) = false := bne_eq_false_iff_eq.mpr c35
                            clear c35
                            exact absurd ((Option.some.inj H).trans hT.out) (by decide)
                          · rw [if_neg c35] at H
                            have c35b0 : (t355 == 0) = false := beq_eq_false_iff_ne.mpr c35
                            have c35b1 : (t355 != 0) = true := bne_iff_ne.mpr c35
                            replace H := Option.bind_eq_some_iff.mp H
                            obtain ⟨t356, A360, H⟩ := H
                            replace H : (if t356 = 1 then ((may_Plain.f kj5 a1_0 a1_1 a1_2 y350).bind fun t357 => (some (!t357))) else (some false)) = some r := H
                            have A36 := Aside0.mk A360
                            clear A360
                            by_cases c37 : t356 = 1
                            · rw [if_pos c37] at H
                              have c37b0 : (t356 == 1) = true := beq_iff_eq.mpr c37
                              have c37b1 : (t356 != 1) = false := bne_eq_false_iff_eq.mpr c37
                              clear c37
                              replace H := Option.bind_eq_some_iff.mp H
                              obtain ⟨t357, A380, H⟩ := H
                              replace H : (some (!t357)) = some r := H
                              have A38 := Aside0.mk A380
                              clear A380
                              obtain rfl := Option.some.inj H
                              try go_wp2
                              have n0_ := Aside0.mk (blk_drew BK317.out)
                              have n1_ := Aside0.mk (blk_drew BK318.out)
                              have n2_ := Aside0.mk (below_drew1 HB.out)
                              clear BK317
                              clear BK318
                              clear HB
                              have BK317 := n0_
                              have BK318 := n1_
                              have HB := n2_
                              clear n0_ n1_ n2_
                              refine start_ (n := 9) (S := fun w' => w'.cell? ⟨gb318, 0, none⟩ = some (.int .i64 a2_0) ∧ w'.cell? ⟨gb318, 1, none⟩ = some (.slice A2_1 l2_1.length c2_1) ∧ w'.cell? ⟨gb318, 2, none⟩ = some (.slice A2_2 l2_2.length c2_2) ∧ w'.cell? ⟨gb317, 0, none⟩ = some (.string a1_0) ∧ w'.cell? ⟨gb317, 1, none⟩ = some (.string a1_1) ∧ w'.cell? ⟨gb317, 2, none⟩ = some (.string a1_2) ∧ w'.cell? ⟨gb317, 3, none⟩ = some (.slice A1_3 l1_3.length c1_3)) (ds := []) #[false, false, false, false, false, false, false, false, false] (by kernel_rfl) rfl rfl ⟨(blk_cell BK318.out 0).trans rfl, (blk_cell BK318.out 1).trans rfl, (blk_cell BK318.out 2).trans rfl, (blk_cell BK317.out 0).trans rfl, (blk_cell BK317.out 1).trans rfl, (blk_cell BK317.out 2).trans rfl, (blk_cell BK317.out 3).trans rfl⟩ (fun hHeld => ?_); refine with_tabW sprlaw20_MayLine.tab5 sprlaw20_MayLine.bits5 (fun HT_ HW_ => ?_)
                              generalize wc.drew = w39 at BK317 BK318 HB hHeld ⊢
                              refine take_ (i := 0) (N := some 21) (v := ?_) (a' := ?_) #[true, false, false, false, false, false, false, false, false] rfl rfl (take_ofW HT_.out HW_.out (by kernel_rfl)) (fun _ _ _ h => h) (Or.inl ⟨by rfl, ?_⟩) hHeld ?_ ?_
                              rotate_left
                              · rintro w' ⟨s0, s1, s2, s3, s4, s5, s6⟩
                                go_simp
                                with_reducible rfl
                              rotate_left
                              · simp only [Act.put, List.setIfInBounds_toArray, List.set_cons_zero, List.set_cons_succ, i64_w, i32_w]
                                rfl
                              refine take_ (i := 1) (N := some 22) (v := ?_) (a' := ?_) #[true, true, false, false, false, false, false, false, false] rfl rfl (take_ofW HT_.out HW_.out (by kernel_rfl)) (fun _ _ _ h => h) (Or.inl ⟨by rfl, ?_⟩) hHeld ?_ ?_
                              rotate_left
                              · rintro w' ⟨s0, s1, s2, s3, s4, s5, s6⟩
                                go_simp
                                with_reducible rfl
                              rotate_left
                              · simp only [Act.put, List.setIfInBounds_toArray, List.set_cons_zero, List.set_cons_succ, i64_w, i32_w]
                                rfl
                              refine take_ (i := 2) (N := some 23) (v := ?_) (a' := ?_) #[true, true, true, false, false, false, false, false, false] rfl rfl (take_ofW HT_.out HW_.out (by kernel_rfl)) (fun _ _ _ h => h) (Or.inl ⟨by rfl, ?_⟩) hHeld ?_ ?_
                              rotate_left
                              · rintro w' ⟨s0, s1, s2, s3, s4, s5, s6⟩
                                go_simp
                                with_reducible rfl
                              rotate_left
                              · simp only [Act.put, List.setIfInBounds_toArray, List.set_cons_zero, List.set_cons_succ, i64_w, i32_w]
                                rfl
                              refine join_ (σ := Nat × Nat × Nat) 3 #[true, true, true, true, true, true, false, false, false] (fun s_ => [(7, .pointer (some ⟨s_.1, 0, none⟩)), (8, .pointer (some ⟨s_.2.1, 0, none⟩)), (9, .pointer (some ⟨s_.2.2, 0, none⟩))]) (fun s_ w' => (w'.cell? ⟨gb318, 0, none⟩ = some (.int .i64 a2_0) ∧ w'.cell? ⟨gb318, 1, none⟩ = some (.slice A2_1 l2_1.length c2_1) ∧ w'.cell? ⟨gb318, 2, none⟩ = some (.slice A2_2 l2_2.length c2_2) ∧ w'.cell? ⟨gb317, 0, none⟩ = some (.string a1_0) ∧ w'.cell? ⟨gb317, 1, none⟩ = some (.string a1_1) ∧ w'.cell? ⟨gb317, 2, none⟩ = some (.string a1_2) ∧ w'.cell? ⟨gb317, 3, none⟩ = some (.slice A1_3 l1_3.length c1_3)) ∧ (w'.heap[gb317]? = some (.cells #[.string a1_0, .string a1_1, .string a1_2, .slice A1_3 l1_3.length c1_3] 24 (0, 0))) ∧ (w'.heap[gb318]? = some (.cells #[.int .i64 a2_0, .slice A2_1 l2_1.length c2_1, .slice A2_2 l2_2.length c2_2] 27 (0, 0))) ∧ (w'.heap[s_.1]? = some (.cells #[.int .i64 0, .slice none 0 0, .slice none 0 0] 27 (0, 0))) ∧ (w'.heap[s_.2.1]? = some (.cells #[.int .i64 0, .slice none 0 0, .slice none 0 0] 27 (0, 0))) ∧ (w'.heap[s_.2.2]? = some (.cells #[.string (⟨#[]⟩ : ByteArray), .string (⟨#[]⟩ : ByteArray), .string (⟨#[]⟩ : ByteArray), .slice none 0 0] 24 (0, 0))) ∧ (w.heap.size ≤ s_.1) ∧ (w.heap.size ≤ s_.1) ∧ (gb317 ≠ s_.1) ∧ (s_.1 ≠ gb317) ∧ (gb318 ≠ s_.1) ∧ (s_.1 ≠ gb318) ∧ (s_.2.1 ≠ s_.1) ∧ (s_.1 ≠ s_.2.1) ∧ (s_.2.2 ≠ s_.1) ∧ (s_.1 ≠ s_.2.2) ∧ (w.heap.size ≤ s_.2.1) ∧ (w.heap.size ≤ s_.2.1) ∧ (gb317 ≠ s_.2.1) ∧ (s_.2.1 ≠ gb317) ∧ (gb318 ≠ s_.2.1) ∧ (s_.2.1 ≠ gb318) ∧ (s_.2.2 ≠ s_.2.1) ∧ (s_.2.1 ≠ s_.2.2) ∧ (w.heap.size ≤ s_.2.2) ∧ (w.heap.size ≤ s_.2.2) ∧ (gb317 ≠ s_.2.2) ∧ (s_.2.2 ≠ gb317) ∧ (gb318 ≠ s_.2.2) ∧ (s_.2.2 ≠ gb318) ∧ (Below w.heap.size w w')) ?_ ?_
                              rotate_left
                              · intro hJ3_4_5
                                refine join_ (σ := Nat × Nat) 4 #[true, true, true, true, true, false, false, false, false] (fun s_ => [(7, .pointer (some ⟨s_.1, 0, none⟩)), (8, .pointer (some ⟨s_.2, 0, none⟩))]) (fun s_ w' => (w'.cell? ⟨gb318, 0, none⟩ = some (.int .i64 a2_0) ∧ w'.cell? ⟨gb318, 1, none⟩ = some (.slice A2_1 l2_1.length c2_1) ∧ w'.cell? ⟨gb318, 2, none⟩ = some (.slice A2_2 l2_2.length c2_2) ∧ w'.cell? ⟨gb317, 0, none⟩ = some (.string a1_0) ∧ w'.cell? ⟨gb317, 1, none⟩ = some (.string a1_1) ∧ w'.cell? ⟨gb317, 2, none⟩ = some (.string a1_2) ∧ w'.cell? ⟨gb317, 3, none⟩ = some (.slice A1_3 l1_3.length c1_3)) ∧ (w'.heap[gb317]? = some (.cells #[.string a1_0, .string a1_1, .string a1_2, .slice A1_3 l1_3.length c1_3] 24 (0, 0))) ∧ (w'.heap[gb318]? = some (.cells #[.int .i64 a2_0, .slice A2_1 l2_1.length c2_1, .slice A2_2 l2_2.length c2_2] 27 (0, 0))) ∧ (w'.heap[s_.1]? = some (.cells #[.int .i64 0, .slice none 0 0, .slice none 0 0] 27 (0, 0))) ∧ (w'.heap[s_.2]? = some (.cells #[.int .i64 0, .slice none 0 0, .slice none 0 0] 27 (0, 0))) ∧ (w.heap.size ≤ s_.1) ∧ (w.heap.size ≤ s_.1) ∧ (gb317 ≠ s_.1) ∧ (s_.1 ≠ gb317) ∧ (gb318 ≠ s_.1) ∧ (s_.1 ≠ gb318) ∧ (s_.2 ≠ s_.1) ∧ (s_.1 ≠ s_.2) ∧ (w.heap.size ≤ s_.2) ∧ (w.heap.size ≤ s_.2) ∧ (gb317 ≠ s_.2) ∧ (s_.2 ≠ gb317) ∧ (gb318 ≠ s_.2) ∧ (s_.2 ≠ gb318) ∧ (Below w.heap.size w w')) ?_ ?_
                                rotate_left
                                · intro hJ3_4
                                  refine join_ (σ := Nat × Nat) 4 #[true, true, true, true, false, true, false, false, false] (fun s_ => [(7, .pointer (some ⟨s_.1, 0, none⟩)), (9, .pointer (some ⟨s_.2, 0, none⟩))]) (fun s_ w' => (w'.cell? ⟨gb318, 0, none⟩ = some (.int .i64 a2_0) ∧ w'.cell? ⟨gb318, 1, none⟩ = some (.slice A2_1 l2_1.length c2_1) ∧ w'.cell? ⟨gb318, 2, none⟩ = some (.slice A2_2 l2_2.length c2_2) ∧ w'.cell? ⟨gb317, 0, none⟩ = some (.string a1_0) ∧ w'.cell? ⟨gb317, 1, none⟩ = some (.string a1_1) ∧ w'.cell? ⟨gb317, 2, none⟩ = some (.string a1_2) ∧ w'.cell? ⟨gb317, 3, none⟩ = some (.slice A1_3 l1_3.length c1_3)) ∧ (w'.heap[gb317]? = some (.cells #[.string a1_0, .string a1_1, .string a1_2, .slice A1_3 l1_3.length c1_3] 24 (0, 0))) ∧ (w'.heap[gb318]? = some (.cells #[.int .i64 a2_0, .slice A2_1 l2_1.length c2_1, .slice A2_2 l2_2.length c2_2] 27 (0, 0))) ∧ (w'.heap[s_.1]? = some (.cells #[.int .i64 0, .slice none 0 0, .slice none 0 0] 27 (0, 0))) ∧ (w'.heap[s_.2]? = some (.cells #[.string (⟨#[]⟩ : ByteArray), .string (⟨#[]⟩ : ByteArray), .string (⟨#[]⟩ : ByteArray), .slice none 0 0] 24 (0, 0))) ∧ (w.heap.size ≤ s_.1) ∧ (w.heap.size ≤ s_.1) ∧ (gb317 ≠ s_.1) ∧ (s_.1 ≠ gb317) ∧ (gb318 ≠ s_.1) ∧ (s_.1 ≠ gb318) ∧ (s_.2 ≠ s_.1) ∧ (s_.1 ≠ s_.2) ∧ (w.heap.size ≤ s_.2) ∧ (w.heap.size ≤ s_.2) ∧ (gb317 ≠ s_.2) ∧ (s_.2 ≠ gb317) ∧ (gb318 ≠ s_.2) ∧ (s_.2 ≠ gb318) ∧ (Below w.heap.size w w')) ?_ ?_
                                  rotate_left
                                  · intro hJ3_5
                                    refine join_ (σ := Nat × Nat) 4 #[true, true, true, false, true, true, false, false, false] (fun s_ => [(8, .pointer (some ⟨s_.1, 0, none⟩)), (9, .pointer (some ⟨s_.2, 0, none⟩))]) (fun s_ w' => (w'.cell? ⟨gb318, 0, none⟩ = some (.int .i64 a2_0) ∧ w'.cell? ⟨gb318, 1, none⟩ = some (.slice A2_1 l2_1.length c2_1) ∧ w'.cell? ⟨gb318, 2, none⟩ = some (.slice A2_2 l2_2.length c2_2) ∧ w'.cell? ⟨gb317, 0, none⟩ = some (.string a1_0) ∧ w'.cell? ⟨gb317, 1, none⟩ = some (.string a1_1) ∧ w'.cell? ⟨gb317, 2, none⟩ = some (.string a1_2) ∧ w'.cell? ⟨gb317, 3, none⟩ = some (.slice A1_3 l1_3.length c1_3)) ∧ (w'.heap[gb317]? = some (.cells #[.string a1_0, .string a1_1, .string a1_2, .slice A1_3 l1_3.length c1_3] 24 (0, 0))) ∧ (w'.heap[gb318]? = some (.cells #[.int .i64 a2_0, .slice A2_1 l2_1.length c2_1, .slice A2_2 l2_2.length c2_2] 27 (0, 0))) ∧ (w'.heap[s_.1]? = some (.cells #[.int .i64 0, .slice none 0 0, .slice none 0 0] 27 (0, 0))) ∧ (w'.heap[s_.2]? = some (.cells #[.string (⟨#[]⟩ : ByteArray), .string (⟨#[]⟩ : ByteArray), .string (⟨#[]⟩ : ByteArray), .slice none 0 0] 24 (0, 0))) ∧ (w.heap.size ≤ s_.1) ∧ (w.heap.size ≤ s_.1) ∧ (gb317 ≠ s_.1) ∧ (s_.1 ≠ gb317) ∧ (gb318 ≠ s_.1) ∧ (s_.1 ≠ gb318) ∧ (s_.2 ≠ s_.1) ∧ (s_.1 ≠ s_.2) ∧ (w.heap.size ≤ s_.2) ∧ (w.heap.size ≤ s_.2) ∧ (gb317 ≠ s_.2) ∧ (s_.2 ≠ gb317) ∧ (gb318 ≠ s_.2) ∧ (s_.2 ≠ gb318) ∧ (Below w.heap.size w w')) ?_ ?_
                                    rotate_left
                                    · intro hJ4_5
                                      refine join_ (σ := Nat) 5 #[true, true, true, true, false, false, false, false, false] (fun s_ => [(7, .pointer (some ⟨s_, 0, none⟩))]) (fun s_ w' => (w'.cell? ⟨gb318, 0, none⟩ = some (.int .i64 a2_0) ∧ w'.cell? ⟨gb318, 1, none⟩ = some (.slice A2_1 l2_1.length c2_1) ∧ w'.cell? ⟨gb318, 2, none⟩ = some (.slice A2_2 l2_2.length c2_2) ∧ w'.cell? ⟨gb317, 0, none⟩ = some (.string a1_0) ∧ w'.cell? ⟨gb317, 1, none⟩ = some (.string a1_1) ∧ w'.cell? ⟨gb317, 2, none⟩ = some (.string a1_2) ∧ w'.cell? ⟨gb317, 3, none⟩ = some (.slice A1_3 l1_3.length c1_3)) ∧ (w'.heap[gb317]? = some (.cells #[.string a1_0, .string a1_1, .string a1_2, .slice A1_3 l1_3.length c1_3] 24 (0, 0))) ∧ (w'.heap[gb318]? = some (.cells #[.int .i64 a2_0, .slice A2_1 l2_1.length c2_1, .slice A2_2 l2_2.length c2_2] 27 (0, 0))) ∧ (w'.heap[s_]? = some (.cells #[.int .i64 0, .slice none 0 0, .slice none 0 0] 27 (0, 0))) ∧ (w.heap.size ≤ s_) ∧ (w.heap.size ≤ s_) ∧ (gb317 ≠ s_) ∧ (s_ ≠ gb317) ∧ (gb318 ≠ s_) ∧ (s_ ≠ gb318) ∧ (Below w.heap.size w w')) ?_ ?_
                                      rotate_left
                                      · intro hJ3
                                        refine join_ (σ := Nat) 5 #[true, true, true, false, true, false, false, false, false] (fun s_ => [(8, .pointer (some ⟨s_, 0, none⟩))]) (fun s_ w' => (w'.cell? ⟨gb318, 0, none⟩ = some (.int .i64 a2_0) ∧ w'.cell? ⟨gb318, 1, none⟩ = some (.slice A2_1 l2_1.length c2_1) ∧ w'.cell? ⟨gb318, 2, none⟩ = some (.slice A2_2 l2_2.length c2_2) ∧ w'.cell? ⟨gb317, 0, none⟩ = some (.string a1_0) ∧ w'.cell? ⟨gb317, 1, none⟩ = some (.string a1_1) ∧ w'.cell? ⟨gb317, 2, none⟩ = some (.string a1_2) ∧ w'.cell? ⟨gb317, 3, none⟩ = some (.slice A1_3 l1_3.length c1_3)) ∧ (w'.heap[gb317]? = some (.cells #[.string a1_0, .string a1_1, .string a1_2, .slice A1_3 l1_3.length c1_3] 24 (0, 0))) ∧ (w'.heap[gb318]? = some (.cells #[.int .i64 a2_0, .slice A2_1 l2_1.length c2_1, .slice A2_2 l2_2.length c2_2] 27 (0, 0))) ∧ (w'.heap[s_]? = some (.cells #[.int .i64 0, .slice none 0 0, .slice none 0 0] 27 (0, 0))) ∧ (w.heap.size ≤ s_) ∧ (w.heap.size ≤ s_) ∧ (gb317 ≠ s_) ∧ (s_ ≠ gb317) ∧ (gb318 ≠ s_) ∧ (s_ ≠ gb318) ∧ (Below w.heap.size w w')) ?_ ?_
                                        rotate_left
                                        · intro hJ4
                                          refine join_ (σ := Nat) 5 #[true, true, true, false, false, true, false, false, false] (fun s_ => [(9, .pointer (some ⟨s_, 0, none⟩))]) (fun s_ w' => (w'.cell? ⟨gb318, 0, none⟩ = some (.int .i64 a2_0) ∧ w'.cell? ⟨gb318, 1, none⟩ = some (.slice A2_1 l2_1.length c2_1) ∧ w'.cell? ⟨gb318, 2, none⟩ = some (.slice A2_2 l2_2.length c2_2) ∧ w'.cell? ⟨gb317, 0, none⟩ = some (.string a1_0) ∧ w'.cell? ⟨gb317, 1, none⟩ = some (.string a1_1) ∧ w'.cell? ⟨gb317, 2, none⟩ = some (.string a1_2) ∧ w'.cell? ⟨gb317, 3, none⟩ = some (.slice A1_3 l1_3.length c1_3)) ∧ (w'.heap[gb317]? = some (.cells #[.string a1_0, .string a1_1, .string a1_2, .slice A1_3 l1_3.length c1_3] 24 (0, 0))) ∧ (w'.heap[gb318]? = some (.cells #[.int .i64 a2_0, .slice A2_1 l2_1.length c2_1, .slice A2_2 l2_2.length c2_2] 27 (0, 0))) ∧ (w'.heap[s_]? = some (.cells #[.string (⟨#[]⟩ : ByteArray), .string (⟨#[]⟩ : ByteArray), .string (⟨#[]⟩ : ByteArray), .slice none 0 0] 24 (0, 0))) ∧ (w.heap.size ≤ s_) ∧ (w.heap.size ≤ s_) ∧ (gb317 ≠ s_) ∧ (s_ ≠ gb317) ∧ (gb318 ≠ s_) ∧ (s_ ≠ gb318) ∧ (Below w.heap.size w w')) ?_ ?_
                                          rotate_left
                                          · intro hJ5
                                            refine three_ (i := 3) (j := 4) (k := 5) (Ni := some 7) (Nj := some 8) (Nk := some 9) #[true, true, true, true, false, false, false, false, false] #[true, true, true, false, true, false, false, false, false] #[true, true, true, false, false, true, false, false, false] rfl rfl rfl rfl rfl rfl (three_of HT_.out (by kernel_rfl)) (by decide) (by decide) (by decide) (fun K hK => ?_) (fun K hK => ?_) (fun K hK => ?_)
                                            · skip
                                              refine box_step ?hg (N := 7) ?hd (cs := #[.int .i64 0, .slice none 0 0, .slice none 0 0]) (t := 27) ?hr ?_; (case hd => rfl); (case hg => rfl); (case hr => first | (go_simp; done) | (go_simp; rfl))
                                              intro gb323 hg w40 hbox hb
                                              have n0_ := Aside0.mk (blk_below (g := gb317) (o := .cells #[.string a1_0, .string a1_1, .string a1_2, .slice A1_3 l1_3.length c1_3] 24 (0, 0)) (by (with_reducible repeat (first | refine blk_drewN ?_ _ | refine blk_drew ?_ | refine blk_alloc ?_ _)); exact BK317.out) hb)
                                              have n1_ := Aside0.mk (blk_below (g := gb318) (o := .cells #[.int .i64 a2_0, .slice A2_1 l2_1.length c2_1, .slice A2_2 l2_2.length c2_2] 27 (0, 0)) (by (with_reducible repeat (first | refine blk_drewN ?_ _ | refine blk_drew ?_ | refine blk_alloc ?_ _)); exact BK318.out) hb)
                                              have n2_ := Aside0.mk (below_step (by repeat (first | (with_reducible first | exact HB.out | apply below_alloc | apply pw_below_drewN | apply below_drew1 | refine below_set ?_ GE317.out | refine below_set ?_ GE318.out) | exact HB.out)) hb)
                                              have n3_ := Aside0.mk (hbox)
                                              have n4_ := Aside0.mk ((by rw [hg]; exact (below_size (by repeat (first | (with_reducible first | exact HB.out | apply below_alloc | apply pw_below_drewN | apply below_drew1 | refine below_set ?_ GE317.out | refine below_set ?_ GE318.out) | exact HB.out))) : w.heap.size ≤ gb323))
                                              have n5_ := Aside0.mk ((by rw [hg]; exact (below_size (by repeat (first | (with_reducible first | exact HB.out | apply below_alloc | apply pw_below_drewN | apply below_drew1 | refine below_set ?_ GE317.out | refine below_set ?_ GE318.out) | exact HB.out))) : w.heap.size ≤ gb323))
                                              have n6_ := Aside0.mk ((by rw [hg]; exact Nat.ne_of_lt (blk_lt (g := gb317) (o := .cells #[.string a1_0, .string a1_1, .string a1_2, .slice A1_3 l1_3.length c1_3] 24 (0, 0)) (by (with_reducible repeat (first | refine blk_drewN ?_ _ | refine blk_drew ?_ | refine blk_alloc ?_ _)); exact BK317.out)) : gb317 ≠ gb323))
                                              have n7_ := Aside0.mk ((by rw [hg]; exact Nat.ne_of_gt (blk_lt (g := gb317) (o := .cells #[.string a1_0, .string a1_1, .string a1_2, .slice A1_3 l1_3.length c1_3] 24 (0, 0)) (by (with_reducible repeat (first | refine blk_drewN ?_ _ | refine blk_drew ?_ | refine blk_alloc ?_ _)); exact BK317.out)) : gb323 ≠ gb317))
                                              have n8_ := Aside0.mk ((by rw [hg]; exact Nat.ne_of_lt (blk_lt (g := gb318) (o := .cells #[.int .i64 a2_0, .slice A2_1 l2_1.length c2_1, .slice A2_2 l2_2.length c2_2] 27 (0, 0)) (by (with_reducible repeat (first | refine blk_drewN ?_ _ | refine blk_drew ?_ | refine blk_alloc ?_ _)); exact BK318.out)) : gb318 ≠ gb323))
                                              have n9_ := Aside0.mk ((by rw [hg]; exact Nat.ne_of_gt (blk_lt (g := gb318) (o := .cells #[.int .i64 a2_0, .slice A2_1 l2_1.length c2_1, .slice A2_2 l2_2.length c2_2] 27 (0, 0)) (by (with_reducible repeat (first | refine blk_drewN ?_ _ | refine blk_drew ?_ | refine blk_alloc ?_ _)); exact BK318.out)) : gb323 ≠ gb318))
                                              clear BK317
                                              clear BK318
                                              clear HB
                                              have BK317 := n0_
                                              have BK318 := n1_
                                              have HB := n2_
                                              have BK323 := n3_
                                              have GW323 := n4_
                                              have GE323 := n5_
                                              have NB317_323 := n6_
                                              have NB323_317 := n7_
                                              have NB318_323 := n8_
                                              have NB323_318 := n9_
                                              clear n0_ n1_ n2_ n3_ n4_ n5_ n6_ n7_ n8_ n9_
                                              clear hb hbox hg
                                              refine hK.out _ _ ⟨(blk_cell BK318.out 0).trans rfl, (blk_cell BK318.out 1).trans rfl, (blk_cell BK318.out 2).trans rfl, (blk_cell BK317.out 0).trans rfl, (blk_cell BK317.out 1).trans rfl, (blk_cell BK317.out 2).trans rfl, (blk_cell BK317.out 3).trans rfl⟩ (fun hHeld => ?_)
                                              clear hK K
                                              refine norm_ (a' := ?_) ?_ ?_
                                              rotate_left
                                              · show Act.put _ (some 7) _ = _
                                                simp only [Act.put, List.setIfInBounds_toArray, List.set_cons_zero, List.set_cons_succ, i64_w, i32_w]
                                                rfl
                                              exact norm_ (by first | (simp only [putAll, Act.put, List.setIfInBounds_toArray, List.set_cons_zero, List.set_cons_succ]; done) | (simp only [putAll, Act.put, List.setIfInBounds_toArray, List.set_cons_zero, List.set_cons_succ]; rfl)) (hJ3 (gb323) _ ⟨hHeld, (by (with_reducible repeat (first | refine blk_drewN ?_ _ | refine blk_drew ?_ | refine blk_alloc ?_ _)); exact BK317.out), (by (with_reducible repeat (first | refine blk_drewN ?_ _ | refine blk_drew ?_ | refine blk_alloc ?_ _)); exact BK318.out), (by (with_reducible repeat (first | refine blk_drewN ?_ _ | refine blk_drew ?_ | refine blk_alloc ?_ _)); exact BK323.out), GW323.out, GE323.out, NB317_323.out, NB323_317.out, NB318_323.out, NB323_318.out, (by repeat (first | (with_reducible first | exact HB.out | apply below_alloc | apply pw_below_drewN | apply below_drew1 | refine below_set ?_ GE317.out | refine below_set ?_ GE318.out | refine below_set ?_ GE323.out) | exact HB.out))⟩)
                                            · skip
                                              refine box_step ?hg (N := 8) ?hd (cs := #[.int .i64 0, .slice none 0 0, .slice none 0 0]) (t := 27) ?hr ?_; (case hd => rfl); (case hg => rfl); (case hr => first | (go_simp; done) | (go_simp; rfl))
                                              intro gb324 hg w40 hbox hb
                                              have n0_ := Aside0.mk (blk_below (g := gb317) (o := .cells #[.string a1_0, .string a1_1, .string a1_2, .slice A1_3 l1_3.length c1_3] 24 (0, 0)) (by (with_reducible repeat (first | refine blk_drewN ?_ _ | refine blk_drew ?_ | refine blk_alloc ?_ _)); exact BK317.out) hb)
                                              have n1_ := Aside0.mk (blk_below (g := gb318) (o := .cells #[.int .i64 a2_0, .slice A2_1 l2_1.length c2_1, .slice A2_2 l2_2.length c2_2] 27 (0, 0)) (by (with_reducible repeat (first | refine blk_drewN ?_ _ | refine blk_drew ?_ | refine blk_alloc ?_ _)); exact BK318.out) hb)
                                              have n2_ := Aside0.mk (below_step (by repeat (first | (with_reducible first | exact HB.out | apply below_alloc | apply pw_below_drewN | apply below_drew1 | refine below_set ?_ GE317.out | refine below_set ?_ GE318.out) | exact HB.out)) hb)
                                              have n3_ := Aside0.mk (hbox)
                                              have n4_ := Aside0.mk ((by rw [hg]; exact (below_size (by repeat (first | (with_reducible first | exact HB.out | apply below_alloc | apply pw_below_drewN | apply below_drew1 | refine below_set ?_ GE317.out | refine below_set ?_ GE318.out) | exact HB.out))) : w.heap.size ≤ gb324))
                                              have n5_ := Aside0.mk ((by rw [hg]; exact (below_size (by repeat (first | (with_reducible first | exact HB.out | apply below_alloc | apply pw_below_drewN | apply below_drew1 | refine below_set ?_ GE317.out | refine below_set ?_ GE318.out) | exact HB.out))) : w.heap.size ≤ gb324))
                                              have n6_ := Aside0.mk ((by rw [hg]; exact Nat.ne_of_lt (blk_lt (g := gb317) (o := .cells #[.string a1_0, .string a1_1, .string a1_2, .slice A1_3 l1_3.length c1_3] 24 (0, 0)) (by (with_reducible repeat (first | refine blk_drewN ?_ _ | refine blk_drew ?_ | refine blk_alloc ?_ _)); exact BK317.out)) : gb317 ≠ gb324))
                                              have n7_ := Aside0.mk ((by rw [hg]; exact Nat.ne_of_gt (blk_lt (g := gb317) (o := .cells #[.string a1_0, .string a1_1, .string a1_2, .slice A1_3 l1_3.length c1_3] 24 (0, 0)) (by (with_reducible repeat (first | refine blk_drewN ?_ _ | refine blk_drew ?_ | refine blk_alloc ?_ _)); exact BK317.out)) : gb324 ≠ gb317))
                                              have n8_ := Aside0.mk ((by rw [hg]; exact Nat.ne_of_lt (blk_lt (g := gb318) (o := .cells #[.int .i64 a2_0, .slice A2_1 l2_1.length c2_1, .slice A2_2 l2_2.length c2_2] 27 (0, 0)) (by (with_reducible repeat (first | refine blk_drewN ?_ _ | refine blk_drew ?_ | refine blk_alloc ?_ _)); exact BK318.out)) : gb318 ≠ gb324))
                                              have n9_ := Aside0.mk ((by rw [hg]; exact Nat.ne_of_gt (blk_lt (g := gb318) (o := .cells #[.int .i64 a2_0, .slice A2_1 l2_1.length c2_1, .slice A2_2 l2_2.length c2_2] 27 (0, 0)) (by (with_reducible repeat (first | refine blk_drewN ?_ _ | refine blk_drew ?_ | refine blk_alloc ?_ _)); exact BK318.out)) : gb324 ≠ gb318))
                                              clear BK317
                                              clear BK318
                                              clear HB
                                              have BK317 := n0_
                                              have BK318 := n1_
                                              have HB := n2_
                                              have BK324 := n3_
                                              have GW324 := n4_
                                              have GE324 := n5_
                                              have NB317_324 := n6_
                                              have NB324_317 := n7_
                                              have NB318_324 := n8_
                                              have NB324_318 := n9_
                                              clear n0_ n1_ n2_ n3_ n4_ n5_ n6_ n7_ n8_ n9_
                                              clear hb hbox hg
                                              refine hK.out _ _ ⟨(blk_cell BK318.out 0).trans rfl, (blk_cell BK318.out 1).trans rfl, (blk_cell BK318.out 2).trans rfl, (blk_cell BK317.out 0).trans rfl, (blk_cell BK317.out 1).trans rfl, (blk_cell BK317.out 2).trans rfl, (blk_cell BK317.out 3).trans rfl⟩ (fun hHeld => ?_)
                                              clear hK K
                                              refine norm_ (a' := ?_) ?_ ?_
                                              rotate_left
                                              · show Act.put _ (some 8) _ = _
                                                simp only [Act.put, List.setIfInBounds_toArray, List.set_cons_zero, List.set_cons_succ, i64_w, i32_w]
                                                rfl
                                              exact norm_ (by first | (simp only [putAll, Act.put, List.setIfInBounds_toArray, List.set_cons_zero, List.set_cons_succ]; done) | (simp only [putAll, Act.put, List.setIfInBounds_toArray, List.set_cons_zero, List.set_cons_succ]; rfl)) (hJ4 (gb324) _ ⟨hHeld, (by (with_reducible repeat (first | refine blk_drewN ?_ _ | refine blk_drew ?_ | refine blk_alloc ?_ _)); exact BK317.out), (by (with_reducible repeat (first | refine blk_drewN ?_ _ | refine blk_drew ?_ | refine blk_alloc ?_ _)); exact BK318.out), (by (with_reducible repeat (first | refine blk_drewN ?_ _ | refine blk_drew ?_ | refine blk_alloc ?_ _)); exact BK324.out), GW324.out, GE324.out, NB317_324.out, NB324_317.out, NB318_324.out, NB324_318.out, (by repeat (first | (with_reducible first | exact HB.out | apply below_alloc | apply pw_below_drewN | apply below_drew1 | refine below_set ?_ GE317.out | refine below_set ?_ GE318.out | refine below_set ?_ GE324.out) | exact HB.out))⟩)
                                            · skip
                                              refine box_step ?hg (N := 9) ?hd (cs := #[.string (⟨#[]⟩ : ByteArray), .string (⟨#[]⟩ : ByteArray), .string (⟨#[]⟩ : ByteArray), .slice none 0 0]) (t := 24) ?hr ?_; (case hd => rfl); (case hg => rfl); (case hr => first | (go_simp; done) | (go_simp; rfl))
                                              intro gb325 hg w40 hbox hb
                                              have n0_ := Aside0.mk (blk_below (g := gb317) (o := .cells #[.string a1_0, .string a1_1, .string a1_2, .slice A1_3 l1_3.length c1_3] 24 (0, 0)) (by (with_reducible repeat (first | refine blk_drewN ?_ _ | refine blk_drew ?_ | refine blk_alloc ?_ _)); exact BK317.out) hb)
                                              have n1_ := Aside0.mk (blk_below (g := gb318) (o := .cells #[.int .i64 a2_0, .slice A2_1 l2_1.length c2_1, .slice A2_2 l2_2.length c2_2] 27 (0, 0)) (by (with_reducible repeat (first | refine blk_drewN ?_ _ | refine blk_drew ?_ | refine blk_alloc ?_ _)); exact BK318.out) hb)
                                              have n2_ := Aside0.mk (below_step (by repeat (first | (with_reducible first | exact HB.out | apply below_alloc | apply pw_below_drewN | apply below_drew1 | refine below_set ?_ GE317.out | refine below_set ?_ GE318.out) | exact HB.out)) hb)
                                              have n3_ := Aside0.mk (hbox)
                                              have n4_ := Aside0.mk ((by rw [hg]; exact (below_size (by repeat (first | (with_reducible first | exact HB.out | apply below_alloc | apply pw_below_drewN | apply below_drew1 | refine below_set ?_ GE317.out | refine below_set ?_ GE318.out) | exact HB.out))) : w.heap.size ≤ gb325))
                                              have n5_ := Aside0.mk ((by rw [hg]; exact (below_size (by repeat (first | (with_reducible first | exact HB.out | apply below_alloc | apply pw_below_drewN | apply below_drew1 | refine below_set ?_ GE317.out | refine below_set ?_ GE318.out) | exact HB.out))) : w.heap.size ≤ gb325))
                                              have n6_ := Aside0.mk ((by rw [hg]; exact Nat.ne_of_lt (blk_lt (g := gb317) (o := .cells #[.string a1_0, .string a1_1, .string a1_2, .slice A1_3 l1_3.length c1_3] 24 (0, 0)) (by (with_reducible repeat (first | refine blk_drewN ?_ _ | refine blk_drew ?_ | refine blk_alloc ?_ _)); exact BK317.out)) : gb317 ≠ gb325))
                                              have n7_ := Aside0.mk ((by rw [hg]; exact Nat.ne_of_gt (blk_lt (g := gb317) (o := .cells #[.string a1_0, .string a1_1, .string a1_2, .slice A1_3 l1_3.length c1_3] 24 (0, 0)) (by (with_reducible repeat (first | refine blk_drewN ?_ _ | refine blk_drew ?_ | refine blk_alloc ?_ _)); exact BK317.out)) : gb325 ≠ gb317))
                                              have n8_ := Aside0.mk ((by rw [hg]; exact Nat.ne_of_lt (blk_lt (g := gb318) (o := .cells #[.int .i64 a2_0, .slice A2_1 l2_1.length c2_1, .slice A2_2 l2_2.length c2_2] 27 (0, 0)) (by (with_reducible repeat (first | refine blk_drewN ?_ _ | refine blk_drew ?_ | refine blk_alloc ?_ _)); exact BK318.out)) : gb318 ≠ gb325))
                                              have n9_ := Aside0.mk ((by rw [hg]; exact Nat.ne_of_gt (blk_lt (g := gb318) (o := .cells #[.int .i64 a2_0, .slice A2_1 l2_1.length c2_1, .slice A2_2 l2_2.length c2_2] 27 (0, 0)) (by (with_reducible repeat (first | refine blk_drewN ?_ _ | refine blk_drew ?_ | refine blk_alloc ?_ _)); exact BK318.out)) : gb325 ≠ gb318))
                                              clear BK317
                                              clear BK318
                                              clear HB
                                              have BK317 := n0_
                                              have BK318 := n1_
                                              have HB := n2_
                                              have BK325 := n3_
                                              have GW325 := n4_
                                              have GE325 := n5_
                                              have NB317_325 := n6_
                                              have NB325_317 := n7_
                                              have NB318_325 := n8_
                                              have NB325_318 := n9_
                                              clear n0_ n1_ n2_ n3_ n4_ n5_ n6_ n7_ n8_ n9_
                                              clear hb hbox hg
                                              refine hK.out _ _ ⟨(blk_cell BK318.out 0).trans rfl, (blk_cell BK318.out 1).trans rfl, (blk_cell BK318.out 2).trans rfl, (blk_cell BK317.out 0).trans rfl, (blk_cell BK317.out 1).trans rfl, (blk_cell BK317.out 2).trans rfl, (blk_cell BK317.out 3).trans rfl⟩ (fun hHeld => ?_)
                                              clear hK K
                                              refine norm_ (a' := ?_) ?_ ?_
                                              rotate_left
                                              · show Act.put _ (some 9) _ = _
                                                simp only [Act.put, List.setIfInBounds_toArray, List.set_cons_zero, List.set_cons_succ, i64_w, i32_w]
                                                rfl
                                              exact norm_ (by first | (simp only [putAll, Act.put, List.setIfInBounds_toArray, List.set_cons_zero, List.set_cons_succ]; done) | (simp only [putAll, Act.put, List.setIfInBounds_toArray, List.set_cons_zero, List.set_cons_succ]; rfl)) (hJ5 (gb325) _ ⟨hHeld, (by (with_reducible repeat (first | refine blk_drewN ?_ _ | refine blk_drew ?_ | refine blk_alloc ?_ _)); exact BK317.out), (by (with_reducible repeat (first | refine blk_drewN ?_ _ | refine blk_drew ?_ | refine blk_alloc ?_ _)); exact BK318.out), (by (with_reducible repeat (first | refine blk_drewN ?_ _ | refine blk_drew ?_ | refine blk_alloc ?_ _)); exact BK325.out), GW325.out, GE325.out, NB317_325.out, NB325_317.out, NB318_325.out, NB325_318.out, (by repeat (first | (with_reducible first | exact HB.out | apply below_alloc | apply pw_below_drewN | apply below_drew1 | refine below_set ?_ GE317.out | refine below_set ?_ GE318.out | refine below_set ?_ GE325.out) | exact HB.out))⟩)
                                          · skip
                                            rintro gb325 w41 ⟨hS_, h0_, h1_, h2_, h3_, h4_, h5_, h6_, h7_, h8_, h9_⟩
                                            have n0_ : Aside0 (w41.heap[gb317]? = some (.cells #[.string a1_0, .string a1_1, .string a1_2, .slice A1_3 l1_3.length c1_3] 24 (0, 0))) := ⟨h0_⟩
                                            have n1_ : Aside0 (w41.heap[gb318]? = some (.cells #[.int .i64 a2_0, .slice A2_1 l2_1.length c2_1, .slice A2_2 l2_2.length c2_2] 27 (0, 0))) := ⟨h1_⟩
                                            have n2_ : Aside0 (w41.heap[gb325]? = some (.cells #[.string (⟨#[]⟩ : ByteArray), .string (⟨#[]⟩ : ByteArray), .string (⟨#[]⟩ : ByteArray), .slice none 0 0] 24 (0, 0))) := ⟨h2_⟩
                                            have n3_ : Aside0 (w.heap.size ≤ gb325) := ⟨h3_⟩
                                            have n4_ : Aside0 (w.heap.size ≤ gb325) := ⟨h4_⟩
                                            have n5_ : Aside0 (gb317 ≠ gb325) := ⟨h5_⟩
                                            have n6_ : Aside0 (gb325 ≠ gb317) := ⟨h6_⟩
                                            have n7_ : Aside0 (gb318 ≠ gb325) := ⟨h7_⟩
                                            have n8_ : Aside0 (gb325 ≠ gb318) := ⟨h8_⟩
                                            have n9_ : Aside0 (Below w.heap.size w w41) := ⟨h9_⟩
                                            clear BK317
                                            clear BK318
                                            clear HB
                                            clear h0_ h1_ h2_ h3_ h4_ h5_ h6_ h7_ h8_ h9_
                                            have BK317 := n0_
                                            have BK318 := n1_
                                            have BK325 := n2_
                                            have GW325 := n3_
                                            have GE325 := n4_
                                            have NB317_325 := n5_
                                            have NB325_317 := n6_
                                            have NB318_325 := n7_
                                            have NB325_318 := n8_
                                            have HB := n9_
                                            clear n0_ n1_ n2_ n3_ n4_ n5_ n6_ n7_ n8_ n9_
                                            have hHeld : w41.cell? ⟨gb318, 0, none⟩ = some (.int .i64 a2_0) ∧ w41.cell? ⟨gb318, 1, none⟩ = some (.slice A2_1 l2_1.length c2_1) ∧ w41.cell? ⟨gb318, 2, none⟩ = some (.slice A2_2 l2_2.length c2_2) ∧ w41.cell? ⟨gb317, 0, none⟩ = some (.string a1_0) ∧ w41.cell? ⟨gb317, 1, none⟩ = some (.string a1_1) ∧ w41.cell? ⟨gb317, 2, none⟩ = some (.string a1_2) ∧ w41.cell? ⟨gb317, 3, none⟩ = some (.slice A1_3 l1_3.length c1_3) := hS_
                                            refine norm_ (a' := ?_) ?_ ?_
                                            rotate_left
                                            · simp only [putAll, Act.put, List.setIfInBounds_toArray, List.set_cons_zero, List.set_cons_succ]
                                              rfl
                                            refine two_ (i := 3) (j := 4) (Ni := some 7) (Nj := some 8) #[true, true, true, true, false, true, false, false, false] #[true, true, true, false, true, true, false, false, false] rfl rfl rfl rfl (two_of HT_.out (by kernel_rfl)) (by decide) (by decide) (fun K hK => ?_) (fun K hK => ?_)
                                            · skip
                                              refine box_step ?hg (N := 7) ?hd (cs := #[.int .i64 0, .slice none 0 0, .slice none 0 0]) (t := 27) ?hr ?_; (case hd => rfl); (case hg => rfl); (case hr => first | (go_simp; done) | (go_simp; rfl))
                                              intro gb323 hg w42 hbox hb
                                              have n0_ := Aside0.mk (blk_below (g := gb317) (o := .cells #[.string a1_0, .string a1_1, .string a1_2, .slice A1_3 l1_3.length c1_3] 24 (0, 0)) (by (with_reducible repeat (first | refine blk_drewN ?_ _ | refine blk_drew ?_ | refine blk_alloc ?_ _)); exact BK317.out) hb)
                                              have n1_ := Aside0.mk (blk_below (g := gb318) (o := .cells #[.int .i64 a2_0, .slice A2_1 l2_1.length c2_1, .slice A2_2 l2_2.length c2_2] 27 (0, 0)) (by (with_reducible repeat (first | refine blk_drewN ?_ _ | refine blk_drew ?_ | refine blk_alloc ?_ _)); exact BK318.out) hb)
                                              have n2_ := Aside0.mk (blk_below (g := gb325) (o := .cells #[.string (⟨#[]⟩ : ByteArray), .string (⟨#[]⟩ : ByteArray), .string (⟨#[]⟩ : ByteArray), .slice none 0 0] 24 (0, 0)) (by (with_reducible repeat (first | refine blk_drewN ?_ _ | refine blk_drew ?_ | refine blk_alloc ?_ _)); exact BK325.out) hb)
                                              have n3_ := Aside0.mk (below_step (by repeat (first | (with_reducible first | exact HB.out | apply below_alloc | apply pw_below_drewN | apply below_drew1 | refine below_set ?_ GE317.out | refine below_set ?_ GE318.out | refine below_set ?_ GE325.out) | exact HB.out)) hb)
                                              have n4_ := Aside0.mk (hbox)
                                              have n5_ := Aside0.mk ((by rw [hg]; exact (below_size (by repeat (first | (with_reducible first | exact HB.out | apply below_alloc | apply pw_below_drewN | apply below_drew1 | refine below_set ?_ GE317.out | refine below_set ?_ GE318.out | refine below_set ?_ GE325.out) | exact HB.out))) : w.heap.size ≤ gb323))
                                              have n6_ := Aside0.mk ((by rw [hg]; exact (below_size (by repeat (first | (with_reducible first | exact HB.out | apply below_alloc | apply pw_below_drewN | apply below_drew1 | refine below_set ?_ GE317.out | refine below_set ?_ GE318.out | refine below_set ?_ GE325.out) | exact HB.out))) : w.heap.size ≤ gb323))
                                              have n7_ := Aside0.mk ((by rw [hg]; exact Nat.ne_of_lt (blk_lt (g := gb317) (o := .cells #[.string a1_0, .string a1_1, .string a1_2, .slice A1_3 l1_3.length c1_3] 24 (0, 0)) (by (with_reducible repeat (first | refine blk_drewN ?_ _ | refine blk_drew ?_ | refine blk_alloc ?_ _)); exact BK317.out)) : gb317 ≠ gb323))
                                              have n8_ := Aside0.mk ((by rw [hg]; exact Nat.ne_of_gt (blk_lt (g := gb317) (o := .cells #[.string a1_0, .string a1_1, .string a1_2, .slice A1_3 l1_3.length c1_3] 24 (0, 0)) (by (with_reducible repeat (first | refine blk_drewN ?_ _ | refine blk_drew ?_ | refine blk_alloc ?_ _)); exact BK317.out)) : gb323 ≠ gb317))
                                              have n9_ := Aside0.mk ((by rw [hg]; exact Nat.ne_of_lt (blk_lt (g := gb318) (o := .cells #[.int .i64 a2_0, .slice A2_1 l2_1.length c2_1, .slice A2_2 l2_2.length c2_2] 27 (0, 0)) (by (with_reducible repeat (first | refine blk_drewN ?_ _ | refine blk_drew ?_ | refine blk_alloc ?_ _)); exact BK318.out)) : gb318 ≠ gb323))
                                              have n10_ := Aside0.mk ((by rw [hg]; exact Nat.ne_of_gt (blk_lt (g := gb318) (o := .cells #[.int .i64 a2_0, .slice A2_1 l2_1.length c2_1, .slice A2_2 l2_2.length c2_2] 27 (0, 0)) (by (with_reducible repeat (first | refine blk_drewN ?_ _ | refine blk_drew ?_ | refine blk_alloc ?_ _)); exact BK318.out)) : gb323 ≠ gb318))
                                              have n11_ := Aside0.mk ((by rw [hg]; exact Nat.ne_of_lt (blk_lt (g := gb325) (o := .cells #[.string (⟨#[]⟩ : ByteArray), .string (⟨#[]⟩ : ByteArray), .string (⟨#[]⟩ : ByteArray), .slice none 0 0] 24 (0, 0)) (by (with_reducible repeat (first | refine blk_drewN ?_ _ | refine blk_drew ?_ | refine blk_alloc ?_ _)); exact BK325.out)) : gb325 ≠ gb323))
                                              have n12_ := Aside0.mk ((by rw [hg]; exact Nat.ne_of_gt (blk_lt (g := gb325) (o := .cells #[.string (⟨#[]⟩ : ByteArray), .string (⟨#[]⟩ : ByteArray), .string (⟨#[]⟩ : ByteArray), .slice none 0 0] 24 (0, 0)) (by (with_reducible repeat (first | refine blk_drewN ?_ _ | refine blk_drew ?_ | refine blk_alloc ?_ _)); exact BK325.out)) : gb323 ≠ gb325))
                                              clear BK317
                                              clear BK318
                                              clear BK325
                                              clear HB
                                              have BK317 := n0_
                                              have BK318 := n1_
                                              have BK325 := n2_
                                              have HB := n3_
                                              have BK323 := n4_
                                              have GW323 := n5_
                                              have GE323 := n6_
                                              have NB317_323 := n7_
                                              have NB323_317 := n8_
                                              have NB318_323 := n9_
                                              have NB323_318 := n10_
                                              have NB325_323 := n11_
                                              have NB323_325 := n12_
                                              clear n0_ n1_ n2_ n3_ n4_ n5_ n6_ n7_ n8_ n9_ n10_ n11_ n12_
                                              clear hb hbox hg
                                              refine hK.out _ _ ⟨(blk_cell BK318.out 0).trans rfl, (blk_cell BK318.out 1).trans rfl, (blk_cell BK318.out 2).trans rfl, (blk_cell BK317.out 0).trans rfl, (blk_cell BK317.out 1).trans rfl, (blk_cell BK317.out 2).trans rfl, (blk_cell BK317.out 3).trans rfl⟩ (fun hHeld => ?_)
                                              clear hK K
                                              refine norm_ (a' := ?_) ?_ ?_
                                              rotate_left
                                              · show Act.put _ (some 7) _ = _
                                                simp only [Act.put, List.setIfInBounds_toArray, List.set_cons_zero, List.set_cons_succ, i64_w, i32_w]
                                                rfl
                                              exact norm_ (by first | (simp only [putAll, Act.put, List.setIfInBounds_toArray, List.set_cons_zero, List.set_cons_succ]; done) | (simp only [putAll, Act.put, List.setIfInBounds_toArray, List.set_cons_zero, List.set_cons_succ]; rfl)) (hJ3_5 (gb323, gb325) _ ⟨hHeld, (by (with_reducible repeat (first | refine blk_drewN ?_ _ | refine blk_drew ?_ | refine blk_alloc ?_ _)); exact BK317.out), (by (with_reducible repeat (first | refine blk_drewN ?_ _ | refine blk_drew ?_ | refine blk_alloc ?_ _)); exact BK318.out), (by (with_reducible repeat (first | refine blk_drewN ?_ _ | refine blk_drew ?_ | refine blk_alloc ?_ _)); exact BK323.out), (by (with_reducible repeat (first | refine blk_drewN ?_ _ | refine blk_drew ?_ | refine blk_alloc ?_ _)); exact BK325.out), GW323.out, GE323.out, NB317_323.out, NB323_317.out, NB318_323.out, NB323_318.out, NB325_323.out, NB323_325.out, GW325.out, GE325.out, NB317_325.out, NB325_317.out, NB318_325.out, NB325_318.out, (by repeat (first | (with_reducible first | exact HB.out | apply below_alloc | apply pw_below_drewN | apply below_drew1 | refine below_set ?_ GE317.out | refine below_set ?_ GE318.out | refine below_set ?_ GE325.out | refine below_set ?_ GE323.out) | exact HB.out))⟩)
                                            · skip
                                              refine box_step ?hg (N := 8) ?hd (cs := #[.int .i64 0, .slice none 0 0, .slice none 0 0]) (t := 27) ?hr ?_; (case hd => rfl); (case hg => rfl); (case hr => first | (go_simp; done) | (go_simp; rfl))
                                              intro gb324 hg w42 hbox hb
                                              have n0_ := Aside0.mk (blk_below (g := gb317) (o := .cells #[.string a1_0, .string a1_1, .string a1_2, .slice A1_3 l1_3.length c1_3] 24 (0, 0)) (by (with_reducible repeat (first | refine blk_drewN ?_ _ | refine blk_drew ?_ | refine blk_alloc ?_ _)); exact BK317.out) hb)
                                              have n1_ := Aside0.mk (blk_below (g := gb318) (o := .cells #[.int .i64 a2_0, .slice A2_1 l2_1.length c2_1, .slice A2_2 l2_2.length c2_2] 27 (0, 0)) (by (with_reducible repeat (first | refine blk_drewN ?_ _ | refine blk_drew ?_ | refine blk_alloc ?_ _)); exact BK318.out) hb)
                                              have n2_ := Aside0.mk (blk_below (g := gb325) (o := .cells #[.string (⟨#[]⟩ : ByteArray), .string (⟨#[]⟩ : ByteArray), .string (⟨#[]⟩ : ByteArray), .slice none 0 0] 24 (0, 0)) (by (with_reducible repeat (first | refine blk_drewN ?_ _ | refine blk_drew ?_ | refine blk_alloc ?_ _)); exact BK325.out) hb)
                                              have n3_ := Aside0.mk (below_step (by repeat (first | (with_reducible first | exact HB.out | apply below_alloc | apply pw_below_drewN | apply below_drew1 | refine below_set ?_ GE317.out | refine below_set ?_ GE318.out | refine below_set ?_ GE325.out) | exact HB.out)) hb)
                                              have n4_ := Aside0.mk (hbox)
                                              have n5_ := Aside0.mk ((by rw [hg]; exact (below_size (by repeat (first | (with_reducible first | exact HB.out | apply below_alloc | apply pw_below_drewN | apply below_drew1 | refine below_set ?_ GE317.out | refine below_set ?_ GE318.out | refine below_set ?_ GE325.out) | exact HB.out))) : w.heap.size ≤ gb324))
                                              have n6_ := Aside0.mk ((by rw [hg]; exact (below_size (by repeat (first | (with_reducible first | exact HB.out | apply below_alloc | apply pw_below_drewN | apply below_drew1 | refine below_set ?_ GE317.out | refine below_set ?_ GE318.out | refine below_set ?_ GE325.out) | exact HB.out))) : w.heap.size ≤ gb324))
                                              have n7_ := Aside0.mk ((by rw [hg]; exact Nat.ne_of_lt (blk_lt (g := gb317) (o := .cells #[.string a1_0, .string a1_1, .string a1_2, .slice A1_3 l1_3.length c1_3] 24 (0, 0)) (by (with_reducible repeat (first | refine blk_drewN ?_ _ | refine blk_drew ?_ | refine blk_alloc ?_ _)); exact BK317.out)) : gb317 ≠ gb324))
                                              have n8_ := Aside0.mk ((by rw [hg]; exact Nat.ne_of_gt (blk_lt (g := gb317) (o := .cells #[.string a1_0, .string a1_1, .string a1_2, .slice A1_3 l1_3.length c1_3] 24 (0, 0)) (by (with_reducible repeat (first | refine blk_drewN ?_ _ | refine blk_drew ?_ | refine blk_alloc ?_ _)); exact BK317.out)) : gb324 ≠ gb317))
                                              have n9_ := Aside0.mk ((by rw [hg]; exact Nat.ne_of_lt (blk_lt (g := gb318) (o := .cells #[.int .i64 a2_0, .slice A2_1 l2_1.length c2_1, .slice A2_2 l2_2.length c2_2] 27 (0, 0)) (by (with_reducible repeat (first | refine blk_drewN ?_ _ | refine blk_drew ?_ | refine blk_alloc ?_ _)); exact BK318.out)) : gb318 ≠ gb324))
                                              have n10_ := Aside0.mk ((by rw [hg]; exact Nat.ne_of_gt (blk_lt (g := gb318) (o := .cells #[.int .i64 a2_0, .slice A2_1 l2_1.length c2_1, .slice A2_2 l2_2.length c2_2] 27 (0, 0)) (by (with_reducible repeat (first | refine blk_drewN ?_ _ | refine blk_drew ?_ | refine blk_alloc ?_ _)); exact BK318.out)) : gb324 ≠ gb318))
                                              have n11_ := Aside0.mk ((by rw [hg]; exact Nat.ne_of_lt (blk_lt (g := gb325) (o := .cells #[.string (⟨#[]⟩ : ByteArray), .string (⟨#[]⟩ : ByteArray), .string (⟨#[]⟩ : ByteArray), .slice none 0 0] 24 (0, 0)) (by (with_reducible repeat (first | refine blk_drewN ?_ _ | refine blk_drew ?_ | refine blk_alloc ?_ _)); exact BK325.out)) : gb325 ≠ gb324))
                                              have n12_ := Aside0.mk ((by rw [hg]; exact Nat.ne_of_gt (blk_lt (g := gb325) (o := .cells #[.string (⟨#[]⟩ : ByteArray), .string (⟨#[]⟩ : ByteArray), .string (⟨#[]⟩ : ByteArray), .slice none 0 0] 24 (0, 0)) (by (with_reducible repeat (first | refine blk_drewN ?_ _ | refine blk_drew ?_ | refine blk_alloc ?_ _)); exact BK325.out)) : gb324 ≠ gb325))
                                              clear BK317
                                              clear BK318
                                              clear BK325
                                              clear HB
                                              have BK317 := n0_
                                              have BK318 := n1_
                                              have BK325 := n2_
                                              have HB := n3_
                                              have BK324 := n4_
                                              have GW324 := n5_
                                              have GE324 := n6_
                                              have NB317_324 := n7_
                                              have NB324_317 := n8_
                                              have NB318_324 := n9_
                                              have NB324_318 := n10_
                                              have NB325_324 := n11_
                                              have NB324_325 := n12_
                                              clear n0_ n1_ n2_ n3_ n4_ n5_ n6_ n7_ n8_ n9_ n10_ n11_ n12_
                                              clear hb hbox hg
                                              refine hK.out _ _ ⟨(blk_cell BK318.out 0).trans rfl, (blk_cell BK318.out 1).trans rfl, (blk_cell BK318.out 2).trans rfl, (blk_cell BK317.out 0).trans rfl, (blk_cell BK317.out 1).trans rfl, (blk_cell BK317.out 2).trans rfl, (blk_cell BK317.out 3).trans rfl⟩ (fun hHeld => ?_)
                                              clear hK K
                                              refine norm_ (a' := ?_) ?_ ?_
                                              rotate_left
                                              · show Act.put _ (some 8) _ = _
                                                simp only [Act.put, List.setIfInBounds_toArray, List.set_cons_zero, List.set_cons_succ, i64_w, i32_w]
                                                rfl
                                              exact norm_ (by first | (simp only [putAll, Act.put, List.setIfInBounds_toArray, List.set_cons_zero, List.set_cons_succ]; done) | (simp only [putAll, Act.put, List.setIfInBounds_toArray, List.set_cons_zero, List.set_cons_succ]; rfl)) (hJ4_5 (gb324, gb325) _ ⟨hHeld, (by (with_reducible repeat (first | refine blk_drewN ?_ _ | refine blk_drew ?_ | refine blk_alloc ?_ _)); exact BK317.out), (by (with_reducible repeat (first | refine blk_drewN ?_ _ | refine blk_drew ?_ | refine blk_alloc ?_ _)); exact BK318.out), (by (with_reducible repeat (first | refine blk_drewN ?_ _ | refine blk_drew ?_ | refine blk_alloc ?_ _)); exact BK324.out), (by (with_reducible repeat (first | refine blk_drewN ?_ _ | refine blk_drew ?_ | refine blk_alloc ?_ _)); exact BK325.out), GW324.out, GE324.out, NB317_324.out, NB324_317.out, NB318_324.out, NB324_318.out, NB325_324.out, NB324_325.out, GW325.out, GE325.out, NB317_325.out, NB325_317.out, NB318_325.out, NB325_318.out, (by repeat (first | (with_reducible first | exact HB.out | apply below_alloc | apply pw_below_drewN | apply below_drew1 | refine below_set ?_ GE317.out | refine below_set ?_ GE318.out | refine below_set ?_ GE325.out | refine below_set ?_ GE324.out) | exact HB.out))⟩)
                                        · skip
                                          rintro gb324 w41 ⟨hS_, h0_, h1_, h2_, h3_, h4_, h5_, h6_, h7_, h8_, h9_⟩
                                          have n0_ : Aside0 (w41.heap[gb317]? = some (.cells #[.string a1_0, .string a1_1, .string a1_2, .slice A1_3 l1_3.length c1_3] 24 (0, 0))) := ⟨h0_⟩
                                          have n1_ : Aside0 (w41.heap[gb318]? = some (.cells #[.int .i64 a2_0, .slice A2_1 l2_1.length c2_1, .slice A2_2 l2_2.length c2_2] 27 (0, 0))) := ⟨h1_⟩
                                          have n2_ : Aside0 (w41.heap[gb324]? = some (.cells #[.int .i64 0, .slice none 0 0, .slice none 0 0] 27 (0, 0))) := ⟨h2_⟩
                                          have n3_ : Aside0 (w.heap.size ≤ gb324) := ⟨h3_⟩
                                          have n4_ : Aside0 (w.heap.size ≤ gb324) := ⟨h4_⟩
                                          have n5_ : Aside0 (gb317 ≠ gb324) := ⟨h5_⟩
                                          have n6_ : Aside0 (gb324 ≠ gb317) := ⟨h6_⟩
                                          have n7_ : Aside0 (gb318 ≠ gb324) := ⟨h7_⟩
                                          have n8_ : Aside0 (gb324 ≠ gb318) := ⟨h8_⟩
                                          have n9_ : Aside0 (Below w.heap.size w w41) := ⟨h9_⟩
                                          clear BK317
                                          clear BK318
                                          clear HB
                                          clear h0_ h1_ h2_ h3_ h4_ h5_ h6_ h7_ h8_ h9_
                                          have BK317 := n0_
                                          have BK318 := n1_
                                          have BK324 := n2_
                                          have GW324 := n3_
                                          have GE324 := n4_
                                          have NB317_324 := n5_
                                          have NB324_317 := n6_
                                          have NB318_324 := n7_
                                          have NB324_318 := n8_
                                          have HB := n9_
                                          clear n0_ n1_ n2_ n3_ n4_ n5_ n6_ n7_ n8_ n9_
                                          have hHeld : w41.cell? ⟨gb318, 0, none⟩ = some (.int .i64 a2_0) ∧ w41.cell? ⟨gb318, 1, none⟩ = some (.slice A2_1 l2_1.length c2_1) ∧ w41.cell? ⟨gb318, 2, none⟩ = some (.slice A2_2 l2_2.length c2_2) ∧ w41.cell? ⟨gb317, 0, none⟩ = some (.string a1_0) ∧ w41.cell? ⟨gb317, 1, none⟩ = some (.string a1_1) ∧ w41.cell? ⟨gb317, 2, none⟩ = some (.string a1_2) ∧ w41.cell? ⟨gb317, 3, none⟩ = some (.slice A1_3 l1_3.length c1_3) := hS_
                                          refine norm_ (a' := ?_) ?_ ?_
                                          rotate_left
                                          · simp only [putAll, Act.put, List.setIfInBounds_toArray, List.set_cons_zero, List.set_cons_succ]
                                            rfl
                                          refine two_ (i := 3) (j := 5) (Ni := some 7) (Nj := some 9) #[true, true, true, true, true, false, false, false, false] #[true, true, true, false, true, true, false, false, false] rfl rfl rfl rfl (two_of HT_.out (by kernel_rfl)) (by decide) (by decide) (fun K hK => ?_) (fun K hK => ?_)
                                          · skip
                                            refine box_step ?hg (N := 7) ?hd (cs := #[.int .i64 0, .slice none 0 0, .slice none 0 0]) (t := 27) ?hr ?_; (case hd => rfl); (case hg => rfl); (case hr => first | (go_simp; done) | (go_simp; rfl))
                                            intro gb323 hg w42 hbox hb
                                            have n0_ := Aside0.mk (blk_below (g := gb317) (o := .cells #[.string a1_0, .string a1_1, .string a1_2, .slice A1_3 l1_3.length c1_3] 24 (0, 0)) (by (with_reducible repeat (first | refine blk_drewN ?_ _ | refine blk_drew ?_ | refine blk_alloc ?_ _)); exact BK317.out) hb)
                                            have n1_ := Aside0.mk (blk_below (g := gb318) (o := .cells #[.int .i64 a2_0, .slice A2_1 l2_1.length c2_1, .slice A2_2 l2_2.length c2_2] 27 (0, 0)) (by (with_reducible repeat (first | refine blk_drewN ?_ _ | refine blk_drew ?_ | refine blk_alloc ?_ _)); exact BK318.out) hb)
                                            have n2_ := Aside0.mk (blk_below (g := gb324) (o := .cells #[.int .i64 0, .slice none 0 0, .slice none 0 0] 27 (0, 0)) (by (with_reducible repeat (first | refine blk_drewN ?_ _ | refine blk_drew ?_ | refine blk_alloc ?_ _)); exact BK324.out) hb)
                                            have n3_ := Aside0.mk (below_step (by repeat (first | (with_reducible first | exact HB.out | apply below_alloc | apply pw_below_drewN | apply below_drew1 | refine below_set ?_ GE317.out | refine below_set ?_ GE318.out | refine below_set ?_ GE324.out) | exact HB.out)) hb)
                                            have n4_ := Aside0.mk (hbox)
                                            have n5_ := Aside0.mk ((by rw [hg]; exact (below_size (by repeat (first | (with_reducible first | exact HB.out | apply below_alloc | apply pw_below_drewN | apply below_drew1 | refine below_set ?_ GE317.out | refine below_set ?_ GE318.out | refine below_set ?_ GE324.out) | exact HB.out))) : w.heap.size ≤ gb323))
                                            have n6_ := Aside0.mk ((by rw [hg]; exact (below_size (by repeat (first | (with_reducible first | exact HB.out | apply below_alloc | apply pw_below_drewN | apply below_drew1 | refine below_set ?_ GE317.out | refine below_set ?_ GE318.out | refine below_set ?_ GE324.out) | exact HB.out))) : w.heap.size ≤ gb323))
                                            have n7_ := Aside0.mk ((by rw [hg]; exact Nat.ne_of_lt (blk_lt (g := gb317) (o := .cells #[.string a1_0, .string a1_1, .string a1_2, .slice A1_3 l1_3.length c1_3] 24 (0, 0)) (by (with_reducible repeat (first | refine blk_drewN ?_ _ | refine blk_drew ?_ | refine blk_alloc ?_ _)); exact BK317.out)) : gb317 ≠ gb323))
                                            have n8_ := Aside0.mk ((by rw [hg]; exact Nat.ne_of_gt (blk_lt (g := gb317) (o := .cells #[.string a1_0, .string a1_1, .string a1_2, .slice A1_3 l1_3.length c1_3] 24 (0, 0)) (by (with_reducible repeat (first | refine blk_drewN ?_ _ | refine blk_drew ?_ | refine blk_alloc ?_ _)); exact BK317.out)) : gb323 ≠ gb317))
                                            have n9_ := Aside0.mk ((by rw [hg]; exact Nat.ne_of_lt (blk_lt (g := gb318) (o := .cells #[.int .i64 a2_0, .slice A2_1 l2_1.length c2_1, .slice A2_2 l2_2.length c2_2] 27 (0, 0)) (by (with_reducible repeat (first | refine blk_drewN ?_ _ | refine blk_drew ?_ | refine blk_alloc ?_ _)); exact BK318.out)) : gb318 ≠ gb323))
                                            have n10_ := Aside0.mk ((by rw [hg]; exact Nat.ne_of_gt (blk_lt (g := gb318) (o := .cells #[.int .i64 a2_0, .slice A2_1 l2_1.length c2_1, .slice A2_2 l2_2.length c2_2] 27 (0, 0)) (by (with_reducible repeat (first | refine blk_drewN ?_ _ | refine blk_drew ?_ | refine blk_alloc ?_ _)); exact BK318.out)) : gb323 ≠ gb318))
                                            have n11_ := Aside0.mk ((by rw [hg]; exact Nat.ne_of_lt (blk_lt (g := gb324) (o := .cells #[.int .i64 0, .slice none 0 0, .slice none 0 0] 27 (0, 0)) (by (with_reducible repeat (first | refine blk_drewN ?_ _ | refine blk_drew ?_ | refine blk_alloc ?_ _)); exact BK324.out)) : gb324 ≠ gb323))
                                            have n12_ := Aside0.mk ((by rw [hg]; exact Nat.ne_of_gt (blk_lt (g := gb324) (o := .cells #[.int .i64 0, .slice none 0 0, .slice none 0 0] 27 (0, 0)) (by (with_reducible repeat (first | refine blk_drewN ?_ _ | refine blk_drew ?_ | refine blk_alloc ?_ _)); exact BK324.out)) : gb323 ≠ gb324))
                                            clear BK317
                                            clear BK318
                                            clear BK324
                                            clear HB
                                            have BK317 := n0_
                                            have BK318 := n1_
                                            have BK324 := n2_
                                            have HB := n3_
                                            have BK323 := n4_
                                            have GW323 := n5_
                                            have GE323 := n6_
                                            have NB317_323 := n7_
                                            have NB323_317 := n8_
                                            have NB318_323 := n9_
                                            have NB323_318 := n10_
                                            have NB324_323 := n11_
                                            have NB323_324 := n12_
                                            clear n0_ n1_ n2_ n3_ n4_ n5_ n6_ n7_ n8_ n9_ n10_ n11_ n12_
                                            clear hb hbox hg
                                            refine hK.out _ _ ⟨(blk_cell BK318.out 0).trans rfl, (blk_cell BK318.out 1).trans rfl, (blk_cell BK318.out 2).trans rfl, (blk_cell BK317.out 0).trans rfl, (blk_cell BK317.out 1).trans rfl, (blk_cell BK317.out 2).trans rfl, (blk_cell BK317.out 3).trans rfl⟩ (fun hHeld => ?_)
                                            clear hK K
                                            refine norm_ (a' := ?_) ?_ ?_
                                            rotate_left
                                            · show Act.put _ (some 7) _ = _
                                              simp only [Act.put, List.setIfInBounds_toArray, List.set_cons_zero, List.set_cons_succ, i64_w, i32_w]
                                              rfl
                                            exact norm_ (by first | (simp only [putAll, Act.put, List.setIfInBounds_toArray, List.set_cons_zero, List.set_cons_succ]; done) | (simp only [putAll, Act.put, List.setIfInBounds_toArray, List.set_cons_zero, List.set_cons_succ]; rfl)) (hJ3_4 (gb323, gb324) _ ⟨hHeld, (by (with_reducible repeat (first | refine blk_drewN ?_ _ | refine blk_drew ?_ | refine blk_alloc ?_ _)); exact BK317.out), (by (with_reducible repeat (first | refine blk_drewN ?_ _ | refine blk_drew ?_ | refine blk_alloc ?_ _)); exact BK318.out), (by (with_reducible repeat (first | refine blk_drewN ?_ _ | refine blk_drew ?_ | refine blk_alloc ?_ _)); exact BK323.out), (by (with_reducible repeat (first | refine blk_drewN ?_ _ | refine blk_drew ?_ | refine blk_alloc ?_ _)); exact BK324.out), GW323.out, GE323.out, NB317_323.out, NB323_317.out, NB318_323.out, NB323_318.out, NB324_323.out, NB323_324.out, GW324.out, GE324.out, NB317_324.out, NB324_317.out, NB318_324.out, NB324_318.out, (by repeat (first | (with_reducible first | exact HB.out | apply below_alloc | apply pw_below_drewN | apply below_drew1 | refine below_set ?_ GE317.out | refine below_set ?_ GE318.out | refine below_set ?_ GE324.out | refine below_set ?_ GE323.out) | exact HB.out))⟩)
                                          · skip
                                            refine box_step ?hg (N := 9) ?hd (cs := #[.string (⟨#[]⟩ : ByteArray), .string (⟨#[]⟩ : ByteArray), .string (⟨#[]⟩ : ByteArray), .slice none 0 0]) (t := 24) ?hr ?_; (case hd => rfl); (case hg => rfl); (case hr => first | (go_simp; done) | (go_simp; rfl))
                                            intro gb325 hg w42 hbox hb
                                            have n0_ := Aside0.mk (blk_below (g := gb317) (o := .cells #[.string a1_0, .string a1_1, .string a1_2, .slice A1_3 l1_3.length c1_3] 24 (0, 0)) (by (with_reducible repeat (first | refine blk_drewN ?_ _ | refine blk_drew ?_ | refine blk_alloc ?_ _)); exact BK317.out) hb)
                                            have n1_ := Aside0.mk (blk_below (g := gb318) (o := .cells #[.int .i64 a2_0, .slice A2_1 l2_1.length c2_1, .slice A2_2 l2_2.length c2_2] 27 (0, 0)) (by (with_reducible repeat (first | refine blk_drewN ?_ _ | refine blk_drew ?_ | refine blk_alloc ?_ _)); exact BK318.out) hb)
                                            have n2_ := Aside0.mk (blk_below (g := gb324) (o := .cells #[.int .i64 0, .slice none 0 0, .slice none 0 0] 27 (0, 0)) (by (with_reducible repeat (first | refine blk_drewN ?_ _ | refine blk_drew ?_ | refine blk_alloc ?_ _)); exact BK324.out) hb)
                                            have n3_ := Aside0.mk (below_step (by repeat (first | (with_reducible first | exact HB.out | apply below_alloc | apply pw_below_drewN | apply below_drew1 | refine below_set ?_ GE317.out | refine below_set ?_ GE318.out | refine below_set ?_ GE324.out) | exact HB.out)) hb)
                                            have n4_ := Aside0.mk (hbox)
                                            have n5_ := Aside0.mk ((by rw [hg]; exact (below_size (by repeat (first | (with_reducible first | exact HB.out | apply below_alloc | apply pw_below_drewN | apply below_drew1 | refine below_set ?_ GE317.out | refine below_set ?_ GE318.out | refine below_set ?_ GE324.out) | exact HB.out))) : w.heap.size ≤ gb325))
                                            have n6_ := Aside0.mk ((by rw [hg]; exact (below_size (by repeat (first | (with_reducible first | exact HB.out | apply below_alloc | apply pw_below_drewN | apply below_drew1 | refine below_set ?_ GE317.out | refine below_set ?_ GE318.out | refine below_set ?_ GE324.out) | exact HB.out))) : w.heap.size ≤ gb325))
                                            have n7_ := Aside0.mk ((by rw [hg]; exact Nat.ne_of_lt (blk_lt (g := gb317) (o := .cells #[.string a1_0, .string a1_1, .string a1_2, .slice A1_3 l1_3.length c1_3] 24 (0, 0)) (by (with_reducible repeat (first | refine blk_drewN ?_ _ | refine blk_drew ?_ | refine blk_alloc ?_ _)); exact BK317.out)) : gb317 ≠ gb325))
                                            have n8_ := Aside0.mk ((by rw [hg]; exact Nat.ne_of_gt (blk_lt (g := gb317) (o := .cells #[.string a1_0, .string a1_1, .string a1_2, .slice A1_3 l1_3.length c1_3] 24 (0, 0)) (by (with_reducible repeat (first | refine blk_drewN ?_ _ | refine blk_drew ?_ | refine blk_alloc ?_ _)); exact BK317.out)) : gb325 ≠ gb317))
                                            have n9_ := Aside0.mk ((by rw [hg]; exact Nat.ne_of_lt (blk_lt (g := gb318) (o := .cells #[.int .i64 a2_0, .slice A2_1 l2_1.length c2_1, .slice A2_2 l2_2.length c2_2] 27 (0, 0)) (by (with_reducible repeat (first | refine blk_drewN ?_ _ | refine blk_drew ?_ | refine blk_alloc ?_ _)); exact BK318.out)) : gb318 ≠ gb325))
                                            have n10_ := Aside0.mk ((by rw [hg]; exact Nat.ne_of_gt (blk_lt (g := gb318) (o := .cells #[.int .i64 a2_0, .slice A2_1 l2_1.length c2_1, .slice A2_2 l2_2.length c2_2] 27 (0, 0)) (by (with_reducible repeat (first | refine blk_drewN ?_ _ | refine blk_drew ?_ | refine blk_alloc ?_ _)); exact BK318.out)) : gb325 ≠ gb318))
                                            have n11_ := Aside0.mk ((by rw [hg]; exact Nat.ne_of_lt (blk_lt (g := gb324) (o := .cells #[.int .i64 0, .slice none 0 0, .slice none 0 0] 27 (0, 0)) (by (with_reducible repeat (first | refine blk_drewN ?_ _ | refine blk_drew ?_ | refine blk_alloc ?_ _)); exact BK324.out)) : gb324 ≠ gb325))
                                            have n12_ := Aside0.mk ((by rw [hg]; exact Nat.ne_of_gt (blk_lt (g := gb324) (o := .cells #[.int .i64 0, .slice none 0 0, .slice none 0 0] 27 (0, 0)) (by (with_reducible repeat (first | refine blk_drewN ?_ _ | refine blk_drew ?_ | refine blk_alloc ?_ _)); exact BK324.out)) : gb325 ≠ gb324))
                                            clear BK317
                                            clear BK318
                                            clear BK324
                                            clear HB
                                            have BK317 := n0_
                                            have BK318 := n1_
                                            have BK324 := n2_
                                            have HB := n3_
                                            have BK325 := n4_
                                            have GW325 := n5_
                                            have GE325 := n6_
                                            have NB317_325 := n7_
                                            have NB325_317 := n8_
                                            have NB318_325 := n9_
                                            have NB325_318 := n10_
                                            have NB324_325 := n11_
                                            have NB325_324 := n12_
                                            clear n0_ n1_ n2_ n3_ n4_ n5_ n6_ n7_ n8_ n9_ n10_ n11_ n12_
                                            clear hb hbox hg
                                            refine hK.out _ _ ⟨(blk_cell BK318.out 0).trans rfl, (blk_cell BK318.out 1).trans rfl, (blk_cell BK318.out 2).trans rfl, (blk_cell BK317.out 0).trans rfl, (blk_cell BK317.out 1).trans rfl, (blk_cell BK317.out 2).trans rfl, (blk_cell BK317.out 3).trans rfl⟩ (fun hHeld => ?_)
                                            clear hK K
                                            refine norm_ (a' := ?_) ?_ ?_
                                            rotate_left
                                            · show Act.put _ (some 9) _ = _
                                              simp only [Act.put, List.setIfInBounds_toArray, List.set_cons_zero, List.set_cons_succ, i64_w, i32_w]
                                              rfl
                                            exact norm_ (by first | (simp only [putAll, Act.put, List.setIfInBounds_toArray, List.set_cons_zero, List.set_cons_succ]; done) | (simp only [putAll, Act.put, List.setIfInBounds_toArray, List.set_cons_zero, List.set_cons_succ]; rfl)) (hJ4_5 (gb324, gb325) _ ⟨hHeld, (by (with_reducible repeat (first | refine blk_drewN ?_ _ | refine blk_drew ?_ | refine blk_alloc ?_ _)); exact BK317.out), (by (with_reducible repeat (first | refine blk_drewN ?_ _ | refine blk_drew ?_ | refine blk_alloc ?_ _)); exact BK318.out), (by (with_reducible repeat (first | refine blk_drewN ?_ _ | refine blk_drew ?_ | refine blk_alloc ?_ _)); exact BK324.out), (by (with_reducible repeat (first | refine blk_drewN ?_ _ | refine blk_drew ?_ | refine blk_alloc ?_ _)); exact BK325.out), GW324.out, GE324.out, NB317_324.out, NB324_317.out, NB318_324.out, NB324_318.out, NB325_324.out, NB324_325.out, GW325.out, GE325.out, NB317_325.out, NB325_317.out, NB318_325.out, NB325_318.out, (by repeat (first | (with_reducible first | exact HB.out | apply below_alloc | apply pw_below_drewN | apply below_drew1 | refine below_set ?_ GE317.out | refine below_set ?_ GE318.out | refine below_set ?_ GE324.out | refine below_set ?_ GE325.out) | exact HB.out))⟩)
                                      · skip
                                        rintro gb323 w41 ⟨hS_, h0_, h1_, h2_, h3_, h4_, h5_, h6_, h7_, h8_, h9_⟩
                                        have n0_ : Aside0 (w41.heap[gb317]? = some (.cells #[.string a1_0, .string a1_1, .string a1_2, .slice A1_3 l1_3.length c1_3] 24 (0, 0))) := ⟨h0_⟩
                                        have n1_ : Aside0 (w41.heap[gb318]? = some (.cells #[.int .i64 a2_0, .slice A2_1 l2_1.length c2_1, .slice A2_2 l2_2.length c2_2] 27 (0, 0))) := ⟨h1_⟩
                                        have n2_ : Aside0 (w41.heap[gb323]? = some (.cells #[.int .i64 0, .slice none 0 0, .slice none 0 0] 27 (0, 0))) := ⟨h2_⟩
                                        have n3_ : Aside0 (w.heap.size ≤ gb323) := ⟨h3_⟩
                                        have n4_ : Aside0 (w.heap.size ≤ gb323) := ⟨h4_⟩
                                        have n5_ : Aside0 (gb317 ≠ gb323) := ⟨h5_⟩
                                        have n6_ : Aside0 (gb323 ≠ gb317) := ⟨h6_⟩
                                        have n7_ : Aside0 (gb318 ≠ gb323) := ⟨h7_⟩
                                        have n8_ : Aside0 (gb323 ≠ gb318) := ⟨h8_⟩
                                        have n9_ : Aside0 (Below w.heap.size w w41) := ⟨h9_⟩
                                        clear BK317
                                        clear BK318
                                        clear HB
                                        clear h0_ h1_ h2_ h3_ h4_ h5_ h6_ h7_ h8_ h9_
                                        have BK317 := n0_
                                        have BK318 := n1_
                                        have BK323 := n2_
                                        have GW323 := n3_
                                        have GE323 := n4_
                                        have NB317_323 := n5_
                                        have NB323_317 := n6_
                                        have NB318_323 := n7_
                                        have NB323_318 := n8_
                                        have HB := n9_
                                        clear n0_ n1_ n2_ n3_ n4_ n5_ n6_ n7_ n8_ n9_
                                        have hHeld : w41.cell? ⟨gb318, 0, none⟩ = some (.int .i64 a2_0) ∧ w41.cell? ⟨gb318, 1, none⟩ = some (.slice A2_1 l2_1.length c2_1) ∧ w41.cell? ⟨gb318, 2, none⟩ = some (.slice A2_2 l2_2.length c2_2) ∧ w41.cell? ⟨gb317, 0, none⟩ = some (.string a1_0) ∧ w41.cell? ⟨gb317, 1, none⟩ = some (.string a1_1) ∧ w41.cell? ⟨gb317, 2, none⟩ = some (.string a1_2) ∧ w41.cell? ⟨gb317, 3, none⟩ = some (.slice A1_3 l1_3.length c1_3) := hS_
                                        refine norm_ (a' := ?_) ?_ ?_
                                        rotate_left
                                        · simp only [putAll, Act.put, List.setIfInBounds_toArray, List.set_cons_zero, List.set_cons_succ]
                                          rfl
                                        refine two_ (i := 4) (j := 5) (Ni := some 8) (Nj := some 9) #[true, true, true, true, true, false, false, false, false] #[true, true, true, true, false, true, false, false, false] rfl rfl rfl rfl (two_of HT_.out (by kernel_rfl)) (by decide) (by decide) (fun K hK => ?_) (fun K hK => ?_)
                                        · skip
                                          refine box_step ?hg (N := 8) ?hd (cs := #[.int .i64 0, .slice none 0 0, .slice none 0 0]) (t := 27) ?hr ?_; (case hd => rfl); (case hg => rfl); (case hr => first | (go_simp; done) | (go_simp; rfl))
                                          intro gb324 hg w42 hbox hb
                                          have n0_ := Aside0.mk (blk_below (g := gb317) (o := .cells #[.string a1_0, .string a1_1, .string a1_2, .slice A1_3 l1_3.length c1_3] 24 (0, 0)) (by (with_reducible repeat (first | refine blk_drewN ?_ _ | refine blk_drew ?_ | refine blk_alloc ?_ _)); exact BK317.out) hb)
                                          have n1_ := Aside0.mk (blk_below (g := gb318) (o := .cells #[.int .i64 a2_0, .slice A2_1 l2_1.length c2_1, .slice A2_2 l2_2.length c2_2] 27 (0, 0)) (by (with_reducible repeat (first | refine blk_drewN ?_ _ | refine blk_drew ?_ | refine blk_alloc ?_ _)); exact BK318.out) hb)
                                          have n2_ := Aside0.mk (blk_below (g := gb323) (o := .cells #[.int .i64 0, .slice none 0 0, .slice none 0 0] 27 (0, 0)) (by (with_reducible repeat (first | refine blk_drewN ?_ _ | refine blk_drew ?_ | refine blk_alloc ?_ _)); exact BK323.out) hb)
                                          have n3_ := Aside0.mk (below_step (by repeat (first | (with_reducible first | exact HB.out | apply below_alloc | apply pw_below_drewN | apply below_drew1 | refine below_set ?_ GE317.out | refine below_set ?_ GE318.out | refine below_set ?_ GE323.out) | exact HB.out)) hb)
                                          have n4_ := Aside0.mk (hbox)
                                          have n5_ := Aside0.mk ((by rw [hg]; exact (below_size (by repeat (first | (with_reducible first | exact HB.out | apply below_alloc | apply pw_below_drewN | apply below_drew1 | refine below_set ?_ GE317.out | refine below_set ?_ GE318.out | refine below_set ?_ GE323.out) | exact HB.out))) : w.heap.size ≤ gb324))
                                          have n6_ := Aside0.mk ((by rw [hg]; exact (below_size (by repeat (first | (with_reducible first | exact HB.out | apply below_alloc | apply pw_below_drewN | apply below_drew1 | refine below_set ?_ GE317.out | refine below_set ?_ GE318.out | refine below_set ?_ GE323.out) | exact HB.out))) : w.heap.size ≤ gb324))
                                          have n7_ := Aside0.mk ((by rw [hg]; exact Nat.ne_of_lt (blk_lt (g := gb317) (o := .cells #[.string a1_0, .string a1_1, .string a1_2, .slice A1_3 l1_3.length c1_3] 24 (0, 0)) (by (with_reducible repeat (first | refine blk_drewN ?_ _ | refine blk_drew ?_ | refine blk_alloc ?_ _)); exact BK317.out)) : gb317 ≠ gb324))
                                          have n8_ := Aside0.mk ((by rw [hg]; exact Nat.ne_of_gt (blk_lt (g := gb317) (o := .cells #[.string a1_0, .string a1_1, .string a1_2, .slice A1_3 l1_3.length c1_3] 24 (0, 0)) (by (with_reducible repeat (first | refine blk_drewN ?_ _ | refine blk_drew ?_ | refine blk_alloc ?_ _)); exact BK317.out)) : gb324 ≠ gb317))
                                          have n9_ := Aside0.mk ((by rw [hg]; exact Nat.ne_of_lt (blk_lt (g := gb318) (o := .cells #[.int .i64 a2_0, .slice A2_1 l2_1.length c2_1, .slice A2_2 l2_2.length c2_2] 27 (0, 0)) (by (with_reducible repeat (first | refine blk_drewN ?_ _ | refine blk_drew ?_ | refine blk_alloc ?_ _)); exact BK318.out)) : gb318 ≠ gb324))
                                          have n10_ := Aside0.mk ((by rw [hg]; exact Nat.ne_of_gt (blk_lt (g := gb318) (o := .cells #[.int .i64 a2_0, .slice A2_1 l2_1.length c2_1, .slice A2_2 l2_2.length c2_2] 27 (0, 0)) (by (with_reducible repeat (first | refine blk_drewN ?_ _ | refine blk_drew ?_ | refine blk_alloc ?_ _)); exact BK318.out)) : gb324 ≠ gb318))
                                          have n11_ := Aside0.mk ((by rw [hg]; exact Nat.ne_of_lt (blk_lt (g := gb323) (o := .cells #[.int .i64 0, .slice none 0 0, .slice none 0 0] 27 (0, 0)) (by (with_reducible repeat (first | refine blk_drewN ?_ _ | refine blk_drew ?_ | refine blk_alloc ?_ _)); exact BK323.out)) : gb323 ≠ gb324))
                                          have n12_ := Aside0.mk ((by rw [hg]; exact Nat.ne_of_gt (blk_lt (g := gb323) (o := .cells #[.int .i64 0, .slice none 0 0, .slice none 0 0] 27 (0, 0)) (by (with_reducible repeat (first | refine blk_drewN ?_ _ | refine blk_drew ?_ | refine blk_alloc ?_ _)); exact BK323.out)) : gb324 ≠ gb323))
                                          clear BK317
                                          clear BK318
                                          clear BK323
                                          clear HB
                                          have BK317 := n0_
                                          have BK318 := n1_
                                          have BK323 := n2_
                                          have HB := n3_
                                          have BK324 := n4_
                                          have GW324 := n5_
                                          have GE324 := n6_
                                          have NB317_324 := n7_
                                          have NB324_317 := n8_
                                          have NB318_324 := n9_
                                          have NB324_318 := n10_
                                          have NB323_324 := n11_
                                          have NB324_323 := n12_
                                          clear n0_ n1_ n2_ n3_ n4_ n5_ n6_ n7_ n8_ n9_ n10_ n11_ n12_
                                          clear hb hbox hg
                                          refine hK.out _ _ ⟨(blk_cell BK318.out 0).trans rfl, (blk_cell BK318.out 1).trans rfl, (blk_cell BK318.out 2).trans rfl, (blk_cell BK317.out 0).trans rfl, (blk_cell BK317.out 1).trans rfl, (blk_cell BK317.out 2).trans rfl, (blk_cell BK317.out 3).trans rfl⟩ (fun hHeld => ?_)
                                          clear hK K
                                          refine norm_ (a' := ?_) ?_ ?_
                                          rotate_left
                                          · show Act.put _ (some 8) _ = _
                                            simp only [Act.put, List.setIfInBounds_toArray, List.set_cons_zero, List.set_cons_succ, i64_w, i32_w]
                                            rfl
                                          exact norm_ (by first | (simp only [putAll, Act.put, List.setIfInBounds_toArray, List.set_cons_zero, List.set_cons_succ]; done) | (simp only [putAll, Act.put, List.setIfInBounds_toArray, List.set_cons_zero, List.set_cons_succ]; rfl)) (hJ3_4 (gb323, gb324) _ ⟨hHeld, (by (with_reducible repeat (first | refine blk_drewN ?_ _ | refine blk_drew ?_ | refine blk_alloc ?_ _)); exact BK317.out), (by (with_reducible repeat (first | refine blk_drewN ?_ _ | refine blk_drew ?_ | refine blk_alloc ?_ _)); exact BK318.out), (by (with_reducible repeat (first | refine blk_drewN ?_ _ | refine blk_drew ?_ | refine blk_alloc ?_ _)); exact BK323.out), (by (with_reducible repeat (first | refine blk_drewN ?_ _ | refine blk_drew ?_ | refine blk_alloc ?_ _)); exact BK324.out), GW323.out, GE323.out, NB317_323.out, NB323_317.out, NB318_323.out, NB323_318.out, NB324_323.out, NB323_324.out, GW324.out, GE324.out, NB317_324.out, NB324_317.out, NB318_324.out, NB324_318.out, (by repeat (first | (with_reducible first | exact HB.out | apply below_alloc | apply pw_below_drewN | apply below_drew1 | refine below_set ?_ GE317.out | refine below_set ?_ GE318.out | refine below_set ?_ GE323.out | refine below_set ?_ GE324.out) | exact HB.out))⟩)
                                        · skip
                                          refine box_step ?hg (N := 9) ?hd (cs := #[.string (⟨#[]⟩ : ByteArray), .string (⟨#[]⟩ : ByteArray), .string (⟨#[]⟩ : ByteArray), .slice none 0 0]) (t := 24) ?hr ?_; (case hd => rfl); (case hg => rfl); (case hr => first | (go_simp; done) | (go_simp; rfl))
                                          intro gb325 hg w42 hbox hb
                                          have n0_ := Aside0.mk (blk_below (g := gb317) (o := .cells #[.string a1_0, .string a1_1, .string a1_2, .slice A1_3 l1_3.length c1_3] 24 (0, 0)) (by (with_reducible repeat (first | refine blk_drewN ?_ _ | refine blk_drew ?_ | refine blk_alloc ?_ _)); exact BK317.out) hb)
                                          have n1_ := Aside0.mk (blk_below (g := gb318) (o := .cells #[.int .i64 a2_0, .slice A2_1 l2_1.length c2_1, .slice A2_2 l2_2.length c2_2] 27 (0, 0)) (by (with_reducible repeat (first | refine blk_drewN ?_ _ | refine blk_drew ?_ | refine blk_alloc ?_ _)); exact BK318.out) hb)
                                          have n2_ := Aside0.mk (blk_below (g := gb323) (o := .cells #[.int .i64 0, .slice none 0 0, .slice none 0 0] 27 (0, 0)) (by (with_reducible repeat (first | refine blk_drewN ?_ _ | refine blk_drew ?_ | refine blk_alloc ?_ _)); exact BK323.out) hb)
                                          have n3_ := Aside0.mk (below_step (by repeat (first | (with_reducible first | exact HB.out | apply below_alloc | apply pw_below_drewN | apply below_drew1 | refine below_set ?_ GE317.out | refine below_set ?_ GE318.out | refine below_set ?_ GE323.out) | exact HB.out)) hb)
                                          have n4_ := Aside0.mk (hbox)
                                          have n5_ := Aside0.mk ((by rw [hg]; exact (below_size (by repeat (first | (with_reducible first | exact HB.out | apply below_alloc | apply pw_below_drewN | apply below_drew1 | refine below_set ?_ GE317.out | refine below_set ?_ GE318.out | refine below_set ?_ GE323.out) | exact HB.out))) : w.heap.size ≤ gb325))
                                          have n6_ := Aside0.mk ((by rw [hg]; exact (below_size (by repeat (first | (with_reducible first | exact HB.out | apply below_alloc | apply pw_below_drewN | apply below_drew1 | refine below_set ?_ GE317.out | refine below_set ?_ GE318.out | refine below_set ?_ GE323.out) | exact HB.out))) : w.heap.size ≤ gb325))
                                          have n7_ := Aside0.mk ((by rw [hg]; exact Nat.ne_of_lt (blk_lt (g := gb317) (o := .cells #[.string a1_0, .string a1_1, .string a1_2, .slice A1_3 l1_3.length c1_3] 24 (0, 0)) (by (with_reducible repeat (first | refine blk_drewN ?_ _ | refine blk_drew ?_ | refine blk_alloc ?_ _)); exact BK317.out)) : gb317 ≠ gb325))
                                          have n8_ := Aside0.mk ((by rw [hg]; exact Nat.ne_of_gt (blk_lt (g := gb317) (o := .cells #[.string a1_0, .string a1_1, .string a1_2, .slice A1_3 l1_3.length c1_3] 24 (0, 0)) (by (with_reducible repeat (first | refine blk_drewN ?_ _ | refine blk_drew ?_ | refine blk_alloc ?_ _)); exact BK317.out)) : gb325 ≠ gb317))
                                          have n9_ := Aside0.mk ((by rw [hg]; exact Nat.ne_of_lt (blk_lt (g := gb318) (o := .cells #[.int .i64 a2_0, .slice A2_1 l2_1.length c2_1, .slice A2_2 l2_2.length c2_2] 27 (0, 0)) (by (with_reducible repeat (first | refine blk_drewN ?_ _ | refine blk_drew ?_ | refine blk_alloc ?_ _)); exact BK318.out)) : gb318 ≠ gb325))
                                          have n10_ := Aside0.mk ((by rw [hg]; exact Nat.ne_of_gt (blk_lt (g := gb318) (o := .cells #[.int .i64 a2_0, .slice A2_1 l2_1.length c2_1, .slice A2_2 l2_2.length c2_2] 27 (0, 0)) (by (with_reducible repeat (first | refine blk_drewN ?_ _ | refine blk_drew ?_ | refine blk_alloc ?_ _)); exact BK318.out)) : gb325 ≠ gb318))
                                          have n11_ := Aside0.mk ((by rw [hg]; exact Nat.ne_of_lt (blk_lt (g := gb323) (o := .cells #[.int .i64 0, .slice none 0 0, .slice none 0 0] 27 (0, 0)) (by (with_reducible repeat (first | refine blk_drewN ?_ _ | refine blk_drew ?_ | refine blk_alloc ?_ _)); exact BK323.out)) : gb323 ≠ gb325))
                                          have n12_ := Aside0.mk ((by rw [hg]; exact Nat.ne_of_gt (blk_lt (g := gb323) (o := .cells #[.int .i64 0, .slice none 0 0, .slice none 0 0] 27 (0, 0)) (by (with_reducible repeat (first | refine blk_drewN ?_ _ | refine blk_drew ?_ | refine blk_alloc ?_ _)); exact BK323.out)) : gb325 ≠ gb323))
                                          clear BK317
                                          clear BK318
                                          clear BK323
                                          clear HB
                                          have BK317 := n0_
                                          have BK318 := n1_
                                          have BK323 := n2_
                                          have HB := n3_
                                          have BK325 := n4_
                                          have GW325 := n5_
                                          have GE325 := n6_
                                          have NB317_325 := n7_
                                          have NB325_317 := n8_
                                          have NB318_325 := n9_
                                          have NB325_318 := n10_
                                          have NB323_325 := n11_
                                          have NB325_323 := n12_
                                          clear n0_ n1_ n2_ n3_ n4_ n5_ n6_ n7_ n8_ n9_ n10_ n11_ n12_
                                          clear hb hbox hg
                                          refine hK.out _ _ ⟨(blk_cell BK318.out 0).trans rfl, (blk_cell BK318.out 1).trans rfl, (blk_cell BK318.out 2).trans rfl, (blk_cell BK317.out 0).trans rfl, (blk_cell BK317.out 1).trans rfl, (blk_cell BK317.out 2).trans rfl, (blk_cell BK317.out 3).trans rfl⟩ (fun hHeld => ?_)
                                          clear hK K
                                          refine norm_ (a' := ?_) ?_ ?_
                                          rotate_left
                                          · show Act.put _ (some 9) _ = _
                                            simp only [Act.put, List.setIfInBounds_toArray, List.set_cons_zero, List.set_cons_succ, i64_w, i32_w]
                                            rfl
                                          exact norm_ (by first | (simp only [putAll, Act.put, List.setIfInBounds_toArray, List.set_cons_zero, List.set_cons_succ]; done) | (simp only [putAll, Act.put, List.setIfInBounds_toArray, List.set_cons_zero, List.set_cons_succ]; rfl)) (hJ3_5 (gb323, gb325) _ ⟨hHeld, (by (with_reducible repeat (first | refine blk_drewN ?_ _ | refine blk_drew ?_ | refine blk_alloc ?_ _)); exact BK317.out), (by (with_reducible repeat (first | refine blk_drewN ?_ _ | refine blk_drew ?_ | refine blk_alloc ?_ _)); exact BK318.out), (by (with_reducible repeat (first | refine blk_drewN ?_ _ | refine blk_drew ?_ | refine blk_alloc ?_ _)); exact BK323.out), (by (with_reducible repeat (first | refine blk_drewN ?_ _ | refine blk_drew ?_ | refine blk_alloc ?_ _)); exact BK325.out), GW323.out, GE323.out, NB317_323.out, NB323_317.out, NB318_323.out, NB323_318.out, NB325_323.out, NB323_325.out, GW325.out, GE325.out, NB317_325.out, NB325_317.out, NB318_325.out, NB325_318.out, (by repeat (first | (with_reducible first | exact HB.out | apply below_alloc | apply pw_below_drewN | apply below_drew1 | refine below_set ?_ GE317.out | refine below_set ?_ GE318.out | refine below_set ?_ GE323.out | refine below_set ?_ GE325.out) | exact HB.out))⟩)
                                    · skip
                                      rintro ⟨gb324, gb325⟩ w42 ⟨hS_, h0_, h1_, h2_, h3_, h4_, h5_, h6_, h7_, h8_, h9_, h10_, h11_, h12_, h13_, h14_, h15_, h16_, h17_, h18_⟩
                                      have n0_ : Aside0 (w42.heap[gb317]? = some (.cells #[.string a1_0, .string a1_1, .string a1_2, .slice A1_3 l1_3.length c1_3] 24 (0, 0))) := ⟨h0_⟩
                                      have n1_ : Aside0 (w42.heap[gb318]? = some (.cells #[.int .i64 a2_0, .slice A2_1 l2_1.length c2_1, .slice A2_2 l2_2.length c2_2] 27 (0, 0))) := ⟨h1_⟩
                                      have n2_ : Aside0 (w42.heap[gb324]? = some (.cells #[.int .i64 0, .slice none 0 0, .slice none 0 0] 27 (0, 0))) := ⟨h2_⟩
                                      have n3_ : Aside0 (w42.heap[gb325]? = some (.cells #[.string (⟨#[]⟩ : ByteArray), .string (⟨#[]⟩ : ByteArray), .string (⟨#[]⟩ : ByteArray), .slice none 0 0] 24 (0, 0))) := ⟨h3_⟩
                                      have n4_ : Aside0 (w.heap.size ≤ gb324) := ⟨h4_⟩
                                      have n5_ : Aside0 (w.heap.size ≤ gb324) := ⟨h5_⟩
                                      have n6_ : Aside0 (gb317 ≠ gb324) := ⟨h6_⟩
                                      have n7_ : Aside0 (gb324 ≠ gb317) := ⟨h7_⟩
                                      have n8_ : Aside0 (gb318 ≠ gb324) := ⟨h8_⟩
                                      have n9_ : Aside0 (gb324 ≠ gb318) := ⟨h9_⟩
                                      have n10_ : Aside0 (gb325 ≠ gb324) := ⟨h10_⟩
                                      have n11_ : Aside0 (gb324 ≠ gb325) := ⟨h11_⟩
                                      have n12_ : Aside0 (w.heap.size ≤ gb325) := ⟨h12_⟩
                                      have n13_ : Aside0 (w.heap.size ≤ gb325) := ⟨h13_⟩
                                      have n14_ : Aside0 (gb317 ≠ gb325) := ⟨h14_⟩
                                      have n15_ : Aside0 (gb325 ≠ gb317) := ⟨h15_⟩
                                      have n16_ : Aside0 (gb318 ≠ gb325) := ⟨h16_⟩
                                      have n17_ : Aside0 (gb325 ≠ gb318) := ⟨h17_⟩
                                      have n18_ : Aside0 (Below w.heap.size w w42) := ⟨h18_⟩
                                      clear BK317
                                      clear BK318
                                      clear HB
                                      clear h0_ h1_ h2_ h3_ h4_ h5_ h6_ h7_ h8_ h9_ h10_ h11_ h12_ h13_ h14_ h15_ h16_ h17_ h18_
                                      have BK317 := n0_
                                      have BK318 := n1_
                                      have BK324 := n2_
                                      have BK325 := n3_
                                      have GW324 := n4_
                                      have GE324 := n5_
                                      have NB317_324 := n6_
                                      have NB324_317 := n7_
                                      have NB318_324 := n8_
                                      have NB324_318 := n9_
                                      have NB325_324 := n10_
                                      have NB324_325 := n11_
                                      have GW325 := n12_
                                      have GE325 := n13_
                                      have NB317_325 := n14_
                                      have NB325_317 := n15_
                                      have NB318_325 := n16_
                                      have NB325_318 := n17_
                                      have HB := n18_
                                      clear n0_ n1_ n2_ n3_ n4_ n5_ n6_ n7_ n8_ n9_ n10_ n11_ n12_ n13_ n14_ n15_ n16_ n17_ n18_
                                      have hHeld : w42.cell? ⟨gb318, 0, none⟩ = some (.int .i64 a2_0) ∧ w42.cell? ⟨gb318, 1, none⟩ = some (.slice A2_1 l2_1.length c2_1) ∧ w42.cell? ⟨gb318, 2, none⟩ = some (.slice A2_2 l2_2.length c2_2) ∧ w42.cell? ⟨gb317, 0, none⟩ = some (.string a1_0) ∧ w42.cell? ⟨gb317, 1, none⟩ = some (.string a1_1) ∧ w42.cell? ⟨gb317, 2, none⟩ = some (.string a1_2) ∧ w42.cell? ⟨gb317, 3, none⟩ = some (.slice A1_3 l1_3.length c1_3) := hS_
                                      refine norm_ (a' := ?_) ?_ ?_
                                      rotate_left
                                      · simp only [putAll, Act.put, List.setIfInBounds_toArray, List.set_cons_zero, List.set_cons_succ]
                                        rfl
                                      refine one_ (i := 3) (N := some 7) #[true, true, true, true, true, true, false, false, false] rfl rfl (one_of HT_.out (by kernel_rfl)) (by decide) (fun K hK => ?_)
                                      refine box_step ?hg (N := 7) ?hd (cs := #[.int .i64 0, .slice none 0 0, .slice none 0 0]) (t := 27) ?hr ?_; (case hd => rfl); (case hg => rfl); (case hr => first | (go_simp; done) | (go_simp; rfl))
                                      intro gb323 hg w43 hbox hb
                                      have n0_ := Aside0.mk (blk_below (g := gb317) (o := .cells #[.string a1_0, .string a1_1, .string a1_2, .slice A1_3 l1_3.length c1_3] 24 (0, 0)) (by (with_reducible repeat (first | refine blk_drewN ?_ _ | refine blk_drew ?_ | refine blk_alloc ?_ _)); exact BK317.out) hb)
                                      have n1_ := Aside0.mk (blk_below (g := gb318) (o := .cells #[.int .i64 a2_0, .slice A2_1 l2_1.length c2_1, .slice A2_2 l2_2.length c2_2] 27 (0, 0)) (by (with_reducible repeat (first | refine blk_drewN ?_ _ | refine blk_drew ?_ | refine blk_alloc ?_ _)); exact BK318.out) hb)
                                      have n2_ := Aside0.mk (blk_below (g := gb324) (o := .cells #[.int .i64 0, .slice none 0 0, .slice none 0 0] 27 (0, 0)) (by (with_reducible repeat (first | refine blk_drewN ?_ _ | refine blk_drew ?_ | refine blk_alloc ?_ _)); exact BK324.out) hb)
                                      have n3_ := Aside0.mk (blk_below (g := gb325) (o := .cells #[.string (⟨#[]⟩ : ByteArray), .string (⟨#[]⟩ : ByteArray), .string (⟨#[]⟩ : ByteArray), .slice none 0 0] 24 (0, 0)) (by (with_reducible repeat (first | refine blk_drewN ?_ _ | refine blk_drew ?_ | refine blk_alloc ?_ _)); exact BK325.out) hb)
                                      have n4_ := Aside0.mk (below_step (by repeat (first | (with_reducible first | exact HB.out | apply below_alloc | apply pw_below_drewN | apply below_drew1 | refine below_set ?_ GE317.out | refine below_set ?_ GE318.out | refine below_set ?_ GE324.out | refine below_set ?_ GE325.out) | exact HB.out)) hb)
                                      have n5_ := Aside0.mk (hbox)
                                      have n6_ := Aside0.mk ((by rw [hg]; exact (below_size (by repeat (first | (with_reducible first | exact HB.out | apply below_alloc | apply pw_below_drewN | apply below_drew1 | refine below_set ?_ GE317.out | refine below_set ?_ GE318.out | refine below_set ?_ GE324.out | refine below_set ?_ GE325.out) | exact HB.out))) : w.heap.size ≤ gb323))
                                      have n7_ := Aside0.mk ((by rw [hg]; exact (below_size (by repeat (first | (with_reducible first | exact HB.out | apply below_alloc | apply pw_below_drewN | apply below_drew1 | refine below_set ?_ GE317.out | refine below_set ?_ GE318.out | refine below_set ?_ GE324.out | refine below_set ?_ GE325.out) | exact HB.out))) : w.heap.size ≤ gb323))
                                      have n8_ := Aside0.mk ((by rw [hg]; exact Nat.ne_of_lt (blk_lt (g := gb317) (o := .cells #[.string a1_0, .string a1_1, .string a1_2, .slice A1_3 l1_3.length c1_3] 24 (0, 0)) (by (with_reducible repeat (first | refine blk_drewN ?_ _ | refine blk_drew ?_ | refine blk_alloc ?_ _)); exact BK317.out)) : gb317 ≠ gb323))
                                      have n9_ := Aside0.mk ((by rw [hg]; exact Nat.ne_of_gt (blk_lt (g := gb317) (o := .cells #[.string a1_0, .string a1_1, .string a1_2, .slice A1_3 l1_3.length c1_3] 24 (0, 0)) (by (with_reducible repeat (first | refine blk_drewN ?_ _ | refine blk_drew ?_ | refine blk_alloc ?_ _)); exact BK317.out)) : gb323 ≠ gb317))
                                      have n10_ := Aside0.mk ((by rw [hg]; exact Nat.ne_of_lt (blk_lt (g := gb318) (o := .cells #[.int .i64 a2_0, .slice A2_1 l2_1.length c2_1, .slice A2_2 l2_2.length c2_2] 27 (0, 0)) (by (with_reducible repeat (first | refine blk_drewN ?_ _ | refine blk_drew ?_ | refine blk_alloc ?_ _)); exact BK318.out)) : gb318 ≠ gb323))
                                      have n11_ := Aside0.mk ((by rw [hg]; exact Nat.ne_of_gt (blk_lt (g := gb318) (o := .cells #[.int .i64 a2_0, .slice A2_1 l2_1.length c2_1, .slice A2_2 l2_2.length c2_2] 27 (0, 0)) (by (with_reducible repeat (first | refine blk_drewN ?_ _ | refine blk_drew ?_ | refine blk_alloc ?_ _)); exact BK318.out)) : gb323 ≠ gb318))
                                      have n12_ := Aside0.mk ((by rw [hg]; exact Nat.ne_of_lt (blk_lt (g := gb324) (o := .cells #[.int .i64 0, .slice none 0 0, .slice none 0 0] 27 (0, 0)) (by (with_reducible repeat (first | refine blk_drewN ?_ _ | refine blk_drew ?_ | refine blk_alloc ?_ _)); exact BK324.out)) : gb324 ≠ gb323))
                                      have n13_ := Aside0.mk ((by rw [hg]; exact Nat.ne_of_gt (blk_lt (g := gb324) (o := .cells #[.int .i64 0, .slice none 0 0, .slice none 0 0] 27 (0, 0)) (by (with_reducible repeat (first | refine blk_drewN ?_ _ | refine blk_drew ?_ | refine blk_alloc ?_ _)); exact BK324.out)) : gb323 ≠ gb324))
                                      have n14_ := Aside0.mk ((by rw [hg]; exact Nat.ne_of_lt (blk_lt (g := gb325) (o := .cells #[.string (⟨#[]⟩ : ByteArray), .string (⟨#[]⟩ : ByteArray), .string (⟨#[]⟩ : ByteArray), .slice none 0 0] 24 (0, 0)) (by (with_reducible repeat (first | refine blk_drewN ?_ _ | refine blk_drew ?_ | refine blk_alloc ?_ _)); exact BK325.out)) : gb325 ≠ gb323))
                                      have n15_ := Aside0.mk ((by rw [hg]; exact Nat.ne_of_gt (blk_lt (g := gb325) (o := .cells #[.string (⟨#[]⟩ : ByteArray), .string (⟨#[]⟩ : ByteArray), .string (⟨#[]⟩ : ByteArray), .slice none 0 0] 24 (0, 0)) (by (with_reducible repeat (first | refine blk_drewN ?_ _ | refine blk_drew ?_ | refine blk_alloc ?_ _)); exact BK325.out)) : gb323 ≠ gb325))
                                      clear BK317
                                      clear BK318
                                      clear BK324
                                      clear BK325
                                      clear HB
                                      have BK317 := n0_
                                      have BK318 := n1_
                                      have BK324 := n2_
                                      have BK325 := n3_
                                      have HB := n4_
                                      have BK323 := n5_
                                      have GW323 := n6_
                                      have GE323 := n7_
                                      have NB317_323 := n8_
                                      have NB323_317 := n9_
                                      have NB318_323 := n10_
                                      have NB323_318 := n11_
                                      have NB324_323 := n12_
                                      have NB323_324 := n13_
                                      have NB325_323 := n14_
                                      have NB323_325 := n15_
                                      clear n0_ n1_ n2_ n3_ n4_ n5_ n6_ n7_ n8_ n9_ n10_ n11_ n12_ n13_ n14_ n15_
                                      clear hb hbox hg
                                      refine hK.out _ _ ⟨(blk_cell BK318.out 0).trans rfl, (blk_cell BK318.out 1).trans rfl, (blk_cell BK318.out 2).trans rfl, (blk_cell BK317.out 0).trans rfl, (blk_cell BK317.out 1).trans rfl, (blk_cell BK317.out 2).trans rfl, (blk_cell BK317.out 3).trans rfl⟩ (fun hHeld => ?_)
                                      clear hK K
                                      refine norm_ (a' := ?_) ?_ ?_
                                      rotate_left
                                      · show Act.put _ (some 7) _ = _
                                        simp only [Act.put, List.setIfInBounds_toArray, List.set_cons_zero, List.set_cons_succ, i64_w, i32_w]
                                        rfl
                                      exact norm_ (by first | (simp only [putAll, Act.put, List.setIfInBounds_toArray, List.set_cons_zero, List.set_cons_succ]; done) | (simp only [putAll, Act.put, List.setIfInBounds_toArray, List.set_cons_zero, List.set_cons_succ]; rfl)) (hJ3_4_5 (gb323, gb324, gb325) _ ⟨hHeld, (by (with_reducible repeat (first | refine blk_drewN ?_ _ | refine blk_drew ?_ | refine blk_alloc ?_ _)); exact BK317.out), (by (with_reducible repeat (first | refine blk_drewN ?_ _ | refine blk_drew ?_ | refine blk_alloc ?_ _)); exact BK318.out), (by (with_reducible repeat (first | refine blk_drewN ?_ _ | refine blk_drew ?_ | refine blk_alloc ?_ _)); exact BK323.out), (by (with_reducible repeat (first | refine blk_drewN ?_ _ | refine blk_drew ?_ | refine blk_alloc ?_ _)); exact BK324.out), (by (with_reducible repeat (first | refine blk_drewN ?_ _ | refine blk_drew ?_ | refine blk_alloc ?_ _)); exact BK325.out), GW323.out, GE323.out, NB317_323.out, NB323_317.out, NB318_323.out, NB323_318.out, NB324_323.out, NB323_324.out, NB325_323.out, NB323_325.out, GW324.out, GE324.out, NB317_324.out, NB324_317.out, NB318_324.out, NB324_318.out, NB325_324.out, NB324_325.out, GW325.out, GE325.out, NB317_325.out, NB325_317.out, NB318_325.out, NB325_318.out, (by repeat (first | (with_reducible first | exact HB.out | apply below_alloc | apply pw_below_drewN | apply below_drew1 | refine below_set ?_ GE317.out | refine below_set ?_ GE318.out | refine below_set ?_ GE324.out | refine below_set ?_ GE325.out | refine below_set ?_ GE323.out) | exact HB.out))⟩)
                                  · skip
                                    rintro ⟨gb323, gb325⟩ w42 ⟨hS_, h0_, h1_, h2_, h3_, h4_, h5_, h6_, h7_, h8_, h9_, h10_, h11_, h12_, h13_, h14_, h15_, h16_, h17_, h18_⟩
                                    have n0_ : Aside0 (w42.heap[gb317]? = some (.cells #[.string a1_0, .string a1_1, .string a1_2, .slice A1_3 l1_3.length c1_3] 24 (0, 0))) := ⟨h0_⟩
                                    have n1_ : Aside0 (w42.heap[gb318]? = some (.cells #[.int .i64 a2_0, .slice A2_1 l2_1.length c2_1, .slice A2_2 l2_2.length c2_2] 27 (0, 0))) := ⟨h1_⟩
                                    have n2_ : Aside0 (w42.heap[gb323]? = some (.cells #[.int .i64 0, .slice none 0 0, .slice none 0 0] 27 (0, 0))) := ⟨h2_⟩
                                    have n3_ : Aside0 (w42.heap[gb325]? = some (.cells #[.string (⟨#[]⟩ : ByteArray), .string (⟨#[]⟩ : ByteArray), .string (⟨#[]⟩ : ByteArray), .slice none 0 0] 24 (0, 0))) := ⟨h3_⟩
                                    have n4_ : Aside0 (w.heap.size ≤ gb323) := ⟨h4_⟩
                                    have n5_ : Aside0 (w.heap.size ≤ gb323) := ⟨h5_⟩
                                    have n6_ : Aside0 (gb317 ≠ gb323) := ⟨h6_⟩
                                    have n7_ : Aside0 (gb323 ≠ gb317) := ⟨h7_⟩
                                    have n8_ : Aside0 (gb318 ≠ gb323) := ⟨h8_⟩
                                    have n9_ : Aside0 (gb323 ≠ gb318) := ⟨h9_⟩
                                    have n10_ : Aside0 (gb325 ≠ gb323) := ⟨h10_⟩
                                    have n11_ : Aside0 (gb323 ≠ gb325) := ⟨h11_⟩
                                    have n12_ : Aside0 (w.heap.size ≤ gb325) := ⟨h12_⟩
                                    have n13_ : Aside0 (w.heap.size ≤ gb325) := ⟨h13_⟩
                                    have n14_ : Aside0 (gb317 ≠ gb325) := ⟨h14_⟩
                                    have n15_ : Aside0 (gb325 ≠ gb317) := ⟨h15_⟩
                                    have n16_ : Aside0 (gb318 ≠ gb325) := ⟨h16_⟩
                                    have n17_ : Aside0 (gb325 ≠ gb318) := ⟨h17_⟩
                                    have n18_ : Aside0 (Below w.heap.size w w42) := ⟨h18_⟩
                                    clear BK317
                                    clear BK318
                                    clear HB
                                    clear h0_ h1_ h2_ h3_ h4_ h5_ h6_ h7_ h8_ h9_ h10_ h11_ h12_ h13_ h14_ h15_ h16_ h17_ h18_
                                    have BK317 := n0_
                                    have BK318 := n1_
                                    have BK323 := n2_
                                    have BK325 := n3_
                                    have GW323 := n4_
                                    have GE323 := n5_
                                    have NB317_323 := n6_
                                    have NB323_317 := n7_
                                    have NB318_323 := n8_
                                    have NB323_318 := n9_
                                    have NB325_323 := n10_
                                    have NB323_325 := n11_
                                    have GW325 := n12_
                                    have GE325 := n13_
                                    have NB317_325 := n14_
                                    have NB325_317 := n15_
                                    have NB318_325 := n16_
                                    have NB325_318 := n17_
                                    have HB := n18_
                                    clear n0_ n1_ n2_ n3_ n4_ n5_ n6_ n7_ n8_ n9_ n10_ n11_ n12_ n13_ n14_ n15_ n16_ n17_ n18_
                                    have hHeld : w42.cell? ⟨gb318, 0, none⟩ = some (.int .i64 a2_0) ∧ w42.cell? ⟨gb318, 1, none⟩ = some (.slice A2_1 l2_1.length c2_1) ∧ w42.cell? ⟨gb318, 2, none⟩ = some (.slice A2_2 l2_2.length c2_2) ∧ w42.cell? ⟨gb317, 0, none⟩ = some (.string a1_0) ∧ w42.cell? ⟨gb317, 1, none⟩ = some (.string a1_1) ∧ w42.cell? ⟨gb317, 2, none⟩ = some (.string a1_2) ∧ w42.cell? ⟨gb317, 3, none⟩ = some (.slice A1_3 l1_3.length c1_3) := hS_
                                    refine norm_ (a' := ?_) ?_ ?_
                                    rotate_left
                                    · simp only [putAll, Act.put, List.setIfInBounds_toArray, List.set_cons_zero, List.set_cons_succ]
                                      rfl
                                    refine one_ (i := 4) (N := some 8) #[true, true, true, true, true, true, false, false, false] rfl rfl (one_of HT_.out (by kernel_rfl)) (by decide) (fun K hK => ?_)
                                    refine box_step ?hg (N := 8) ?hd (cs := #[.int .i64 0, .slice none 0 0, .slice none 0 0]) (t := 27) ?hr ?_; (case hd => rfl); (case hg => rfl); (case hr => first | (go_simp; done) | (go_simp; rfl))
                                    intro gb324 hg w43 hbox hb
                                    have n0_ := Aside0.mk (blk_below (g := gb317) (o := .cells #[.string a1_0, .string a1_1, .string a1_2, .slice A1_3 l1_3.length c1_3] 24 (0, 0)) (by (with_reducible repeat (first | refine blk_drewN ?_ _ | refine blk_drew ?_ | refine blk_alloc ?_ _)); exact BK317.out) hb)
                                    have n1_ := Aside0.mk (blk_below (g := gb318) (o := .cells #[.int .i64 a2_0, .slice A2_1 l2_1.length c2_1, .slice A2_2 l2_2.length c2_2] 27 (0, 0)) (by (with_reducible repeat (first | refine blk_drewN ?_ _ | refine blk_drew ?_ | refine blk_alloc ?_ _)); exact BK318.out) hb)
                                    have n2_ := Aside0.mk (blk_below (g := gb323) (o := .cells #[.int .i64 0, .slice none 0 0, .slice none 0 0] 27 (0, 0)) (by (with_reducible repeat (first | refine blk_drewN ?_ _ | refine blk_drew ?_ | refine blk_alloc ?_ _)); exact BK323.out) hb)
                                    have n3_ := Aside0.mk (blk_below (g := gb325) (o := .cells #[.string (⟨#[]⟩ : ByteArray), .string (⟨#[]⟩ : ByteArray), .string (⟨#[]⟩ : ByteArray), .slice none 0 0] 24 (0, 0)) (by (with_reducible repeat (first | refine blk_drewN ?_ _ | refine blk_drew ?_ | refine blk_alloc ?_ _)); exact BK325.out) hb)
                                    have n4_ := Aside0.mk (below_step (by repeat (first | (with_reducible first | exact HB.out | apply below_alloc | apply pw_below_drewN | apply below_drew1 | refine below_set ?_ GE317.out | refine below_set ?_ GE318.out | refine below_set ?_ GE323.out | refine below_set ?_ GE325.out) | exact HB.out)) hb)
                                    have n5_ := Aside0.mk (hbox)
                                    have n6_ := Aside0.mk ((by rw [hg]; exact (below_size (by repeat (first | (with_reducible first | exact HB.out | apply below_alloc | apply pw_below_drewN | apply below_drew1 | refine below_set ?_ GE317.out | refine below_set ?_ GE318.out | refine below_set ?_ GE323.out | refine below_set ?_ GE325.out) | exact HB.out))) : w.heap.size ≤ gb324))
                                    have n7_ := Aside0.mk ((by rw [hg]; exact (below_size (by repeat (first | (with_reducible first | exact HB.out | apply below_alloc | apply pw_below_drewN | apply below_drew1 | refine below_set ?_ GE317.out | refine below_set ?_ GE318.out | refine below_set ?_ GE323.out | refine below_set ?_ GE325.out) | exact HB.out))) : w.heap.size ≤ gb324))
                                    have n8_ := Aside0.mk ((by rw [hg]; exact Nat.ne_of_lt (blk_lt (g := gb317) (o := .cells #[.string a1_0, .string a1_1, .string a1_2, .slice A1_3 l1_3.length c1_3] 24 (0, 0)) (by (with_reducible repeat (first | refine blk_drewN ?_ _ | refine blk_drew ?_ | refine blk_alloc ?_ _)); exact BK317.out)) : gb317 ≠ gb324))
                                    have n9_ := Aside0.mk ((by rw [hg]; exact Nat.ne_of_gt (blk_lt (g := gb317) (o := .cells #[.string a1_0, .string a1_1, .string a1_2, .slice A1_3 l1_3.length c1_3] 24 (0, 0)) (by (with_reducible repeat (first | refine blk_drewN ?_ _ | refine blk_drew ?_ | refine blk_alloc ?_ _)); exact BK317.out)) : gb324 ≠ gb317))
                                    have n10_ := Aside0.mk ((by rw [hg]; exact Nat.ne_of_lt (blk_lt (g := gb318) (o := .cells #[.int .i64 a2_0, .slice A2_1 l2_1.length c2_1, .slice A2_2 l2_2.length c2_2] 27 (0, 0)) (by (with_reducible repeat (first | refine blk_drewN ?_ _ | refine blk_drew ?_ | refine blk_alloc ?_ _)); exact BK318.out)) : gb318 ≠ gb324))
                                    have n11_ := Aside0.mk ((by rw [hg]; exact Nat.ne_of_gt (blk_lt (g := gb318) (o := .cells #[.int .i64 a2_0, .slice A2_1 l2_1.length c2_1, .slice A2_2 l2_2.length c2_2] 27 (0, 0)) (by (with_reducible repeat (first | refine blk_drewN ?_ _ | refine blk_drew ?_ | refine blk_alloc ?_ _)); exact BK318.out)) : gb324 ≠ gb318))
                                    have n12_ := Aside0.mk ((by rw [hg]; exact Nat.ne_of_lt (blk_lt (g := gb323) (o := .cells #[.int .i64 0, .slice none 0 0, .slice none 0 0] 27 (0, 0)) (by (with_reducible repeat (first | refine blk_drewN ?_ _ | refine blk_drew ?_ | refine blk_alloc ?_ _)); exact BK323.out)) : gb323 ≠ gb324))
                                    have n13_ := Aside0.mk ((by rw [hg]; exact Nat.ne_of_gt (blk_lt (g := gb323) (o := .cells #[.int .i64 0, .slice none 0 0, .slice none 0 0] 27 (0, 0)) (by (with_reducible repeat (first | refine blk_drewN ?_ _ | refine blk_drew ?_ | refine blk_alloc ?_ _)); exact BK323.out)) : gb324 ≠ gb323))
                                    have n14_ := Aside0.mk ((by rw [hg]; exact Nat.ne_of_lt (blk_lt (g := gb325) (o := .cells #[.string (⟨#[]⟩ : ByteArray), .string (⟨#[]⟩ : ByteArray), .string (⟨#[]⟩ : ByteArray), .slice none 0 0] 24 (0, 0)) (by (with_reducible repeat (first | refine blk_drewN ?_ _ | refine blk_drew ?_ | refine blk_alloc ?_ _)); exact BK325.out)) : gb325 ≠ gb324))
                                    have n15_ := Aside0.mk ((by rw [hg]; exact Nat.ne_of_gt (blk_lt (g := gb325) (o := .cells #[.string (⟨#[]⟩ : ByteArray), .string (⟨#[]⟩ : ByteArray), .string (⟨#[]⟩ : ByteArray), .slice none 0 0] 24 (0, 0)) (by (with_reducible repeat (first | refine blk_drewN ?_ _ | refine blk_drew ?_ | refine blk_alloc ?_ _)); exact BK325.out)) : gb324 ≠ gb325))
                                    clear BK317
                                    clear BK318
                                    clear BK323
                                    clear BK325
                                    clear HB
                                    have BK317 := n0_
                                    have BK318 := n1_
                                    have BK323 := n2_
                                    have BK325 := n3_
                                    have HB := n4_
                                    have BK324 := n5_
                                    have GW324 := n6_
                                    have GE324 := n7_
                                    have NB317_324 := n8_
                                    have NB324_317 := n9_
                                    have NB318_324 := n10_
                                    have NB324_318 := n11_
                                    have NB323_324 := n12_
                                    have NB324_323 := n13_
                                    have NB325_324 := n14_
                                    have NB324_325 := n15_
                                    clear n0_ n1_ n2_ n3_ n4_ n5_ n6_ n7_ n8_ n9_ n10_ n11_ n12_ n13_ n14_ n15_
                                    clear hb hbox hg
                                    refine hK.out _ _ ⟨(blk_cell BK318.out 0).trans rfl, (blk_cell BK318.out 1).trans rfl, (blk_cell BK318.out 2).trans rfl, (blk_cell BK317.out 0).trans rfl, (blk_cell BK317.out 1).trans rfl, (blk_cell BK317.out 2).trans rfl, (blk_cell BK317.out 3).trans rfl⟩ (fun hHeld => ?_)
                                    clear hK K
                                    refine norm_ (a' := ?_) ?_ ?_
                                    rotate_left
                                    · show Act.put _ (some 8) _ = _
                                      simp only [Act.put, List.setIfInBounds_toArray, List.set_cons_zero, List.set_cons_succ, i64_w, i32_w]
                                      rfl
                                    exact norm_ (by first | (simp only [putAll, Act.put, List.setIfInBounds_toArray, List.set_cons_zero, List.set_cons_succ]; done) | (simp only [putAll, Act.put, List.setIfInBounds_toArray, List.set_cons_zero, List.set_cons_succ]; rfl)) (hJ3_4_5 (gb323, gb324, gb325) _ ⟨hHeld, (by (with_reducible repeat (first | refine blk_drewN ?_ _ | refine blk_drew ?_ | refine blk_alloc ?_ _)); exact BK317.out), (by (with_reducible repeat (first | refine blk_drewN ?_ _ | refine blk_drew ?_ | refine blk_alloc ?_ _)); exact BK318.out), (by (with_reducible repeat (first | refine blk_drewN ?_ _ | refine blk_drew ?_ | refine blk_alloc ?_ _)); exact BK323.out), (by (with_reducible repeat (first | refine blk_drewN ?_ _ | refine blk_drew ?_ | refine blk_alloc ?_ _)); exact BK324.out), (by (with_reducible repeat (first | refine blk_drewN ?_ _ | refine blk_drew ?_ | refine blk_alloc ?_ _)); exact BK325.out), GW323.out, GE323.out, NB317_323.out, NB323_317.out, NB318_323.out, NB323_318.out, NB324_323.out, NB323_324.out, NB325_323.out, NB323_325.out, GW324.out, GE324.out, NB317_324.out, NB324_317.out, NB318_324.out, NB324_318.out, NB325_324.out, NB324_325.out, GW325.out, GE325.out, NB317_325.out, NB325_317.out, NB318_325.out, NB325_318.out, (by repeat (first | (with_reducible first | exact HB.out | apply below_alloc | apply pw_below_drewN | apply below_drew1 | refine below_set ?_ GE317.out | refine below_set ?_ GE318.out | refine below_set ?_ GE323.out | refine below_set ?_ GE325.out | refine below_set ?_ GE324.out) | exact HB.out))⟩)
                                · skip
                                  rintro ⟨gb323, gb324⟩ w42 ⟨hS_, h0_, h1_, h2_, h3_, h4_, h5_, h6_, h7_, h8_, h9_, h10_, h11_, h12_, h13_, h14_, h15_, h16_, h17_, h18_⟩
                                  have n0_ : Aside0 (w42.heap[gb317]? = some (.cells #[.string a1_0, .string a1_1, .string a1_2, .slice A1_3 l1_3.length c1_3] 24 (0, 0))) := ⟨h0_⟩
                                  have n1_ : Aside0 (w42.heap[gb318]? = some (.cells #[.int .i64 a2_0, .slice A2_1 l2_1.length c2_1, .slice A2_2 l2_2.length c2_2] 27 (0, 0))) := ⟨h1_⟩
                                  have n2_ : Aside0 (w42.heap[gb323]? = some (.cells #[.int .i64 0, .slice none 0 0, .slice none 0 0] 27 (0, 0))) := ⟨h2_⟩
                                  have n3_ : Aside0 (w42.heap[gb324]? = some (.cells #[.int .i64 0, .slice none 0 0, .slice none 0 0] 27 (0, 0))) := ⟨h3_⟩
                                  have n4_ : Aside0 (w.heap.size ≤ gb323) := ⟨h4_⟩
                                  have n5_ : Aside0 (w.heap.size ≤ gb323) := ⟨h5_⟩
                                  have n6_ : Aside0 (gb317 ≠ gb323) := ⟨h6_⟩
                                  have n7_ : Aside0 (gb323 ≠ gb317) := ⟨h7_⟩
                                  have n8_ : Aside0 (gb318 ≠ gb323) := ⟨h8_⟩
                                  have n9_ : Aside0 (gb323 ≠ gb318) := ⟨h9_⟩
                                  have n10_ : Aside0 (gb324 ≠ gb323) := ⟨h10_⟩
                                  have n11_ : Aside0 (gb323 ≠ gb324) := ⟨h11_⟩
                                  have n12_ : Aside0 (w.heap.size ≤ gb324) := ⟨h12_⟩
                                  have n13_ : Aside0 (w.heap.size ≤ gb324) := ⟨h13_⟩
                                  have n14_ : Aside0 (gb317 ≠ gb324) := ⟨h14_⟩
                                  have n15_ : Aside0 (gb324 ≠ gb317) := ⟨h15_⟩
                                  have n16_ : Aside0 (gb318 ≠ gb324) := ⟨h16_⟩
                                  have n17_ : Aside0 (gb324 ≠ gb318) := ⟨h17_⟩
                                  have n18_ : Aside0 (Below w.heap.size w w42) := ⟨h18_⟩
                                  clear BK317
                                  clear BK318
                                  clear HB
                                  clear h0_ h1_ h2_ h3_ h4_ h5_ h6_ h7_ h8_ h9_ h10_ h11_ h12_ h13_ h14_ h15_ h16_ h17_ h18_
                                  have BK317 := n0_
                                  have BK318 := n1_
                                  have BK323 := n2_
                                  have BK324 := n3_
                                  have GW323 := n4_
                                  have GE323 := n5_
                                  have NB317_323 := n6_
                                  have NB323_317 := n7_
                                  have NB318_323 := n8_
                                  have NB323_318 := n9_
                                  have NB324_323 := n10_
                                  have NB323_324 := n11_
                                  have GW324 := n12_
                                  have GE324 := n13_
                                  have NB317_324 := n14_
                                  have NB324_317 := n15_
                                  have NB318_324 := n16_
                                  have NB324_318 := n17_
                                  have HB := n18_
                                  clear n0_ n1_ n2_ n3_ n4_ n5_ n6_ n7_ n8_ n9_ n10_ n11_ n12_ n13_ n14_ n15_ n16_ n17_ n18_
                                  have hHeld : w42.cell? ⟨gb318, 0, none⟩ = some (.int .i64 a2_0) ∧ w42.cell? ⟨gb318, 1, none⟩ = some (.slice A2_1 l2_1.length c2_1) ∧ w42.cell? ⟨gb318, 2, none⟩ = some (.slice A2_2 l2_2.length c2_2) ∧ w42.cell? ⟨gb317, 0, none⟩ = some (.string a1_0) ∧ w42.cell? ⟨gb317, 1, none⟩ = some (.string a1_1) ∧ w42.cell? ⟨gb317, 2, none⟩ = some (.string a1_2) ∧ w42.cell? ⟨gb317, 3, none⟩ = some (.slice A1_3 l1_3.length c1_3) := hS_
                                  refine norm_ (a' := ?_) ?_ ?_
                                  rotate_left
                                  · simp only [putAll, Act.put, List.setIfInBounds_toArray, List.set_cons_zero, List.set_cons_succ]
                                    rfl
                                  refine one_ (i := 5) (N := some 9) #[true, true, true, true, true, true, false, false, false] rfl rfl (one_of HT_.out (by kernel_rfl)) (by decide) (fun K hK => ?_)
                                  refine box_step ?hg (N := 9) ?hd (cs := #[.string (⟨#[]⟩ : ByteArray), .string (⟨#[]⟩ : ByteArray), .string (⟨#[]⟩ : ByteArray), .slice none 0 0]) (t := 24) ?hr ?_; (case hd => rfl); (case hg => rfl); (case hr => first | (go_simp; done) | (go_simp; rfl))
                                  intro gb325 hg w43 hbox hb
                                  have n0_ := Aside0.mk (blk_below (g := gb317) (o := .cells #[.string a1_0, .string a1_1, .string a1_2, .slice A1_3 l1_3.length c1_3] 24 (0, 0)) (by (with_reducible repeat (first | refine blk_drewN ?_ _ | refine blk_drew ?_ | refine blk_alloc ?_ _)); exact BK317.out) hb)
                                  have n1_ := Aside0.mk (blk_below (g := gb318) (o := .cells #[.int .i64 a2_0, .slice A2_1 l2_1.length c2_1, .slice A2_2 l2_2.length c2_2] 27 (0, 0)) (by (with_reducible repeat (first | refine blk_drewN ?_ _ | refine blk_drew ?_ | refine blk_alloc ?_ _)); exact BK318.out) hb)
                                  have n2_ := Aside0.mk (blk_below (g := gb323) (o := .cells #[.int .i64 0, .slice none 0 0, .slice none 0 0] 27 (0, 0)) (by (with_reducible repeat (first | refine blk_drewN ?_ _ | refine blk_drew ?_ | refine blk_alloc ?_ _)); exact BK323.out) hb)
                                  have n3_ := Aside0.mk (blk_below (g := gb324) (o := .cells #[.int .i64 0, .slice none 0 0, .slice none 0 0] 27 (0, 0)) (by (with_reducible repeat (first | refine blk_drewN ?_ _ | refine blk_drew ?_ | refine blk_alloc ?_ _)); exact BK324.out) hb)
                                  have n4_ := Aside0.mk (below_step (by repeat (first | (with_reducible first | exact HB.out | apply below_alloc | apply pw_below_drewN | apply below_drew1 | refine below_set ?_ GE317.out | refine below_set ?_ GE318.out | refine below_set ?_ GE323.out | refine below_set ?_ GE324.out) | exact HB.out)) hb)
                                  have n5_ := Aside0.mk (hbox)
                                  have n6_ := Aside0.mk ((by rw [hg]; exact (below_size (by repeat (first | (with_reducible first | exact HB.out | apply below_alloc | apply pw_below_drewN | apply below_drew1 | refine below_set ?_ GE317.out | refine below_set ?_ GE318.out | refine below_set ?_ GE323.out | refine below_set ?_ GE324.out) | exact HB.out))) : w.heap.size ≤ gb325))
                                  have n7_ := Aside0.mk ((by rw [hg]; exact (below_size (by repeat (first | (with_reducible first | exact HB.out | apply below_alloc | apply pw_below_drewN | apply below_drew1 | refine below_set ?_ GE317.out | refine below_set ?_ GE318.out | refine below_set ?_ GE323.out | refine below_set ?_ GE324.out) | exact HB.out))) : w.heap.size ≤ gb325))
                                  have n8_ := Aside0.mk ((by rw [hg]; exact Nat.ne_of_lt (blk_lt (g := gb317) (o := .cells #[.string a1_0, .string a1_1, .string a1_2, .slice A1_3 l1_3.length c1_3] 24 (0, 0)) (by (with_reducible repeat (first | refine blk_drewN ?_ _ | refine blk_drew ?_ | refine blk_alloc ?_ _)); exact BK317.out)) : gb317 ≠ gb325))
                                  have n9_ := Aside0.mk ((by rw [hg]; exact Nat.ne_of_gt (blk_lt (g := gb317) (o := .cells #[.string a1_0, .string a1_1, .string a1_2, .slice A1_3 l1_3.length c1_3] 24 (0, 0)) (by (with_reducible repeat (first | refine blk_drewN ?_ _ | refine blk_drew ?_ | refine blk_alloc ?_ _)); exact BK317.out)) : gb325 ≠ gb317))
                                  have n10_ := Aside0.mk ((by rw [hg]; exact Nat.ne_of_lt (blk_lt (g := gb318) (o := .cells #[.int .i64 a2_0, .slice A2_1 l2_1.length c2_1, .slice A2_2 l2_2.length c2_2] 27 (0, 0)) (by (with_reducible repeat (first | refine blk_drewN ?_ _ | refine blk_drew ?_ | refine blk_alloc ?_ _)); exact BK318.out)) : gb318 ≠ gb325))
                                  have n11_ := Aside0.mk ((by rw [hg]; exact Nat.ne_of_gt (blk_lt (g := gb318) (o := .cells #[.int .i64 a2_0, .slice A2_1 l2_1.length c2_1, .slice A2_2 l2_2.length c2_2] 27 (0, 0)) (by (with_reducible repeat (first | refine blk_drewN ?_ _ | refine blk_drew ?_ | refine blk_alloc ?_ _)); exact BK318.out)) : gb325 ≠ gb318))
                                  have n12_ := Aside0.mk ((by rw [hg]; exact Nat.ne_of_lt (blk_lt (g := gb323) (o := .cells #[.int .i64 0, .slice none 0 0, .slice none 0 0] 27 (0, 0)) (by (with_reducible repeat (first | refine blk_drewN ?_ _ | refine blk_drew ?_ | refine blk_alloc ?_ _)); exact BK323.out)) : gb323 ≠ gb325))
                                  have n13_ := Aside0.mk ((by rw [hg]; exact Nat.ne_of_gt (blk_lt (g := gb323) (o := .cells #[.int .i64 0, .slice none 0 0, .slice none 0 0] 27 (0, 0)) (by (with_reducible repeat (first | refine blk_drewN ?_ _ | refine blk_drew ?_ | refine blk_alloc ?_ _)); exact BK323.out)) : gb325 ≠ gb323))
                                  have n14_ := Aside0.mk ((by rw [hg]; exact Nat.ne_of_lt (blk_lt (g := gb324) (o := .cells #[.int .i64 0, .slice none 0 0, .slice none 0 0] 27 (0, 0)) (by (with_reducible repeat (first | refine blk_drewN ?_ _ | refine blk_drew ?_ | refine blk_alloc ?_ _)); exact BK324.out)) : gb324 ≠ gb325))
                                  have n15_ := Aside0.mk ((by rw [hg]; exact Nat.ne_of_gt (blk_lt (g := gb324) (o := .cells #[.int .i64 0, .slice none 0 0, .slice none 0 0] 27 (0, 0)) (by (with_reducible repeat (first | refine blk_drewN ?_ _ | refine blk_drew ?_ | refine blk_alloc ?_ _)); exact BK324.out)) : gb325 ≠ gb324))
                                  clear BK317
                                  clear BK318
                                  clear BK323
                                  clear BK324
                                  clear HB
                                  have BK317 := n0_
                                  have BK318 := n1_
                                  have BK323 := n2_
                                  have BK324 := n3_
                                  have HB := n4_
                                  have BK325 := n5_
                                  have GW325 := n6_
                                  have GE325 := n7_
                                  have NB317_325 := n8_
                                  have NB325_317 := n9_
                                  have NB318_325 := n10_
                                  have NB325_318 := n11_
                                  have NB323_325 := n12_
                                  have NB325_323 := n13_
                                  have NB324_325 := n14_
                                  have NB325_324 := n15_
                                  clear n0_ n1_ n2_ n3_ n4_ n5_ n6_ n7_ n8_ n9_ n10_ n11_ n12_ n13_ n14_ n15_
                                  clear hb hbox hg
                                  refine hK.out _ _ ⟨(blk_cell BK318.out 0).trans rfl, (blk_cell BK318.out 1).trans rfl, (blk_cell BK318.out 2).trans rfl, (blk_cell BK317.out 0).trans rfl, (blk_cell BK317.out 1).trans rfl, (blk_cell BK317.out 2).trans rfl, (blk_cell BK317.out 3).trans rfl⟩ (fun hHeld => ?_)
                                  clear hK K
                                  refine norm_ (a' := ?_) ?_ ?_
                                  rotate_left
                                  · show Act.put _ (some 9) _ = _
                                    simp only [Act.put, List.setIfInBounds_toArray, List.set_cons_zero, List.set_cons_succ, i64_w, i32_w]
                                    rfl
                                  exact norm_ (by first | (simp only [putAll, Act.put, List.setIfInBounds_toArray, List.set_cons_zero, List.set_cons_succ]; done) | (simp only [putAll, Act.put, List.setIfInBounds_toArray, List.set_cons_zero, List.set_cons_succ]; rfl)) (hJ3_4_5 (gb323, gb324, gb325) _ ⟨hHeld, (by (with_reducible repeat (first | refine blk_drewN ?_ _ | refine blk_drew ?_ | refine blk_alloc ?_ _)); exact BK317.out), (by (with_reducible repeat (first | refine blk_drewN ?_ _ | refine blk_drew ?_ | refine blk_alloc ?_ _)); exact BK318.out), (by (with_reducible repeat (first | refine blk_drewN ?_ _ | refine blk_drew ?_ | refine blk_alloc ?_ _)); exact BK323.out), (by (with_reducible repeat (first | refine blk_drewN ?_ _ | refine blk_drew ?_ | refine blk_alloc ?_ _)); exact BK324.out), (by (with_reducible repeat (first | refine blk_drewN ?_ _ | refine blk_drew ?_ | refine blk_alloc ?_ _)); exact BK325.out), GW323.out, GE323.out, NB317_323.out, NB323_317.out, NB318_323.out, NB323_318.out, NB324_323.out, NB323_324.out, NB325_323.out, NB323_325.out, GW324.out, GE324.out, NB317_324.out, NB324_317.out, NB318_324.out, NB324_318.out, NB325_324.out, NB324_325.out, GW325.out, GE325.out, NB317_325.out, NB325_317.out, NB318_325.out, NB325_318.out, (by repeat (first | (with_reducible first | exact HB.out | apply below_alloc | apply pw_below_drewN | apply below_drew1 | refine below_set ?_ GE317.out | refine below_set ?_ GE318.out | refine below_set ?_ GE323.out | refine below_set ?_ GE324.out | refine below_set ?_ GE325.out) | exact HB.out))⟩)
                              rintro ⟨gb323, gb324, gb325⟩ w43 ⟨hS_, h0_, h1_, h2_, h3_, h4_, h5_, h6_, h7_, h8_, h9_, h10_, h11_, h12_, h13_, h14_, h15_, h16_, h17_, h18_, h19_, h20_, h21_, h22_, h23_, h24_, h25_, h26_, h27_, h28_, h29_⟩
                              have n0_ : Aside0 (w43.heap[gb317]? = some (.cells #[.string a1_0, .string a1_1, .string a1_2, .slice A1_3 l1_3.length c1_3] 24 (0, 0))) := ⟨h0_⟩
                              have n1_ : Aside0 (w43.heap[gb318]? = some (.cells #[.int .i64 a2_0, .slice A2_1 l2_1.length c2_1, .slice A2_2 l2_2.length c2_2] 27 (0, 0))) := ⟨h1_⟩
                              have n2_ : Aside0 (w43.heap[gb323]? = some (.cells #[.int .i64 0, .slice none 0 0, .slice none 0 0] 27 (0, 0))) := ⟨h2_⟩
                              have n3_ : Aside0 (w43.heap[gb324]? = some (.cells #[.int .i64 0, .slice none 0 0, .slice none 0 0] 27 (0, 0))) := ⟨h3_⟩
                              have n4_ : Aside0 (w43.heap[gb325]? = some (.cells #[.string (⟨#[]⟩ : ByteArray), .string (⟨#[]⟩ : ByteArray), .string (⟨#[]⟩ : ByteArray), .slice none 0 0] 24 (0, 0))) := ⟨h4_⟩
                              have n5_ : Aside0 (w.heap.size ≤ gb323) := ⟨h5_⟩
                              have n6_ : Aside0 (w.heap.size ≤ gb323) := ⟨h6_⟩
                              have n7_ : Aside0 (gb317 ≠ gb323) := ⟨h7_⟩
                              have n8_ : Aside0 (gb323 ≠ gb317) := ⟨h8_⟩
                              have n9_ : Aside0 (gb318 ≠ gb323) := ⟨h9_⟩
                              have n10_ : Aside0 (gb323 ≠ gb318) := ⟨h10_⟩
                              have n11_ : Aside0 (gb324 ≠ gb323) := ⟨h11_⟩
                              have n12_ : Aside0 (gb323 ≠ gb324) := ⟨h12_⟩
                              have n13_ : Aside0 (gb325 ≠ gb323) := ⟨h13_⟩
                              have n14_ : Aside0 (gb323 ≠ gb325) := ⟨h14_⟩
                              have n15_ : Aside0 (w.heap.size ≤ gb324) := ⟨h15_⟩
                              have n16_ : Aside0 (w.heap.size ≤ gb324) := ⟨h16_⟩
                              have n17_ : Aside0 (gb317 ≠ gb324) := ⟨h17_⟩
                              have n18_ : Aside0 (gb324 ≠ gb317) := ⟨h18_⟩
                              have n19_ : Aside0 (gb318 ≠ gb324) := ⟨h19_⟩
                              have n20_ : Aside0 (gb324 ≠ gb318) := ⟨h20_⟩
                              have n21_ : Aside0 (gb325 ≠ gb324) := ⟨h21_⟩
                              have n22_ : Aside0 (gb324 ≠ gb325) := ⟨h22_⟩
                              have n23_ : Aside0 (w.heap.size ≤ gb325) := ⟨h23_⟩
                              have n24_ : Aside0 (w.heap.size ≤ gb325) := ⟨h24_⟩
                              have n25_ : Aside0 (gb317 ≠ gb325) := ⟨h25_⟩
                              have n26_ : Aside0 (gb325 ≠ gb317) := ⟨h26_⟩
                              have n27_ : Aside0 (gb318 ≠ gb325) := ⟨h27_⟩
                              have n28_ : Aside0 (gb325 ≠ gb318) := ⟨h28_⟩
                              have n29_ : Aside0 (Below w.heap.size w w43) := ⟨h29_⟩
                              clear BK317
                              clear BK318
                              clear HB
                              clear h0_ h1_ h2_ h3_ h4_ h5_ h6_ h7_ h8_ h9_ h10_ h11_ h12_ h13_ h14_ h15_ h16_ h17_ h18_ h19_ h20_ h21_ h22_ h23_ h24_ h25_ h26_ h27_ h28_ h29_
                              have BK317 := n0_
                              have BK318 := n1_
                              have BK323 := n2_
                              have BK324 := n3_
                              have BK325 := n4_
                              have GW323 := n5_
                              have GE323 := n6_
                              have NB317_323 := n7_
                              have NB323_317 := n8_
                              have NB318_323 := n9_
                              have NB323_318 := n10_
                              have NB324_323 := n11_
                              have NB323_324 := n12_
                              have NB325_323 := n13_
                              have NB323_325 := n14_
                              have GW324 := n15_
                              have GE324 := n16_
                              have NB317_324 := n17_
                              have NB324_317 := n18_
                              have NB318_324 := n19_
                              have NB324_318 := n20_
                              have NB325_324 := n21_
                              have NB324_325 := n22_
                              have GW325 := n23_
                              have GE325 := n24_
                              have NB317_325 := n25_
                              have NB325_317 := n26_
                              have NB318_325 := n27_
                              have NB325_318 := n28_
                              have HB := n29_
                              clear n0_ n1_ n2_ n3_ n4_ n5_ n6_ n7_ n8_ n9_ n10_ n11_ n12_ n13_ n14_ n15_ n16_ n17_ n18_ n19_ n20_ n21_ n22_ n23_ n24_ n25_ n26_ n27_ n28_ n29_
                              have hHeld : w43.cell? ⟨gb318, 0, none⟩ = some (.int .i64 a2_0) ∧ w43.cell? ⟨gb318, 1, none⟩ = some (.slice A2_1 l2_1.length c2_1) ∧ w43.cell? ⟨gb318, 2, none⟩ = some (.slice A2_2 l2_2.length c2_2) ∧ w43.cell? ⟨gb317, 0, none⟩ = some (.string a1_0) ∧ w43.cell? ⟨gb317, 1, none⟩ = some (.string a1_1) ∧ w43.cell? ⟨gb317, 2, none⟩ = some (.string a1_2) ∧ w43.cell? ⟨gb317, 3, none⟩ = some (.slice A1_3 l1_3.length c1_3) := hS_
                              refine norm_ (a' := ?_) ?_ ?_
                              rotate_left
                              · simp only [putAll, Act.put, List.setIfInBounds_toArray, List.set_cons_zero, List.set_cons_succ]
                                rfl
                              refine one_ (i := 6) (N := none) #[true, true, true, true, true, true, true, false, false] rfl rfl (one_of HT_.out (by kernel_rfl)) (by decide) (fun K hK => ?_)
                              have hs44 : w43.cell? ⟨gb323, 0, none⟩ = some (.int .i64 0) := (blk_cell BK323.out 0).trans rfl
                              have hfs44 := blk_frozen BK323.out 0
                              have hns44_0 := NB317_323.out
                              have hns44_1 := NB318_323.out
                              have hns44_3 := NB324_323.out
                              have hns44_4 := NB325_323.out
                              have hms44_0 := NB323_317.out
                              have hms44_1 := NB323_318.out
                              have hms44_3 := NB323_324.out
                              have hms44_4 := NB323_325.out
                              have hs45 : w43.cell? ⟨gb323, 1, none⟩ = some (.slice none 0 0) := (blk_cell BK323.out 1).trans rfl
                              have hfs45 := blk_frozen BK323.out 1
                              have hns45_0 := NB317_323.out
                              have hns45_1 := NB318_323.out
                              have hns45_3 := NB324_323.out
                              have hns45_4 := NB325_323.out
                              have hms45_0 := NB323_317.out
                              have hms45_1 := NB323_318.out
                              have hms45_3 := NB323_324.out
                              have hms45_4 := NB323_325.out
                              have hs46 : w43.cell? ⟨gb323, 2, none⟩ = some (.slice none 0 0) := (blk_cell BK323.out 2).trans rfl
                              have hfs46 := blk_frozen BK323.out 2
                              have hns46_0 := NB317_323.out
                              have hns46_1 := NB318_323.out
                              have hns46_3 := NB324_323.out
                              have hns46_4 := NB325_323.out
                              have hms46_0 := NB323_317.out
                              have hms46_1 := NB323_318.out
                              have hms46_3 := NB323_324.out
                              have hms46_4 := NB323_325.out
                              refine skip_ (w1 := ?_) (by rfl) rfl ?_ ?_
                              rotate_left
                              · go_simp
                                rfl
                              refine hK.out _ _ ⟨((cell_far (p := ⟨gb323, _, none⟩) NB318_323.out _).trans (((cell_far (p := ⟨gb323, _, none⟩) NB318_323.out _).trans (((cell_far (p := ⟨gb323, _, none⟩) NB318_323.out _).trans (hHeld.1)))))), ((cell_far (p := ⟨gb323, _, none⟩) NB318_323.out _).trans (((cell_far (p := ⟨gb323, _, none⟩) NB318_323.out _).trans (((cell_far (p := ⟨gb323, _, none⟩) NB318_323.out _).trans (hHeld.2.1)))))), ((cell_far (p := ⟨gb323, _, none⟩) NB318_323.out _).trans (((cell_far (p := ⟨gb323, _, none⟩) NB318_323.out _).trans (((cell_far (p := ⟨gb323, _, none⟩) NB318_323.out _).trans (hHeld.2.2.1)))))), ((cell_far (p := ⟨gb323, _, none⟩) NB317_323.out _).trans (((cell_far (p := ⟨gb323, _, none⟩) NB317_323.out _).trans (((cell_far (p := ⟨gb323, _, none⟩) NB317_323.out _).trans (hHeld.2.2.2.1)))))), ((cell_far (p := ⟨gb323, _, none⟩) NB317_323.out _).trans (((cell_far (p := ⟨gb323, _, none⟩) NB317_323.out _).trans (((cell_far (p := ⟨gb323, _, none⟩) NB317_323.out _).trans (hHeld.2.2.2.2.1)))))), ((cell_far (p := ⟨gb323, _, none⟩) NB317_323.out _).trans (((cell_far (p := ⟨gb323, _, none⟩) NB317_323.out _).trans (((cell_far (p := ⟨gb323, _, none⟩) NB317_323.out _).trans (hHeld.2.2.2.2.2.1)))))), ((cell_far (p := ⟨gb323, _, none⟩) NB317_323.out _).trans (((cell_far (p := ⟨gb323, _, none⟩) NB317_323.out _).trans (((cell_far (p := ⟨gb323, _, none⟩) NB317_323.out _).trans (hHeld.2.2.2.2.2.2))))))⟩ (fun hHeld => ?_)
                              clear hK K
                              refine one_ (i := 7) (N := none) #[true, true, true, true, true, true, true, true, false] rfl rfl (one_of HT_.out (by kernel_rfl)) (by decide) (fun K hK => ?_)
                              have hs47 : w43.cell? ⟨gb324, 0, none⟩ = some (.int .i64 0) := (blk_cell BK324.out 0).trans rfl
                              have hfs47 := blk_frozen BK324.out 0
                              have hns47_0 := NB317_324.out
                              have hns47_1 := NB318_324.out
                              have hns47_2 := NB323_324.out
                              have hns47_4 := NB325_324.out
                              have hms47_0 := NB324_317.out
                              have hms47_1 := NB324_318.out
                              have hms47_2 := NB324_323.out
                              have hms47_4 := NB324_325.out
                              have hs48 : w43.cell? ⟨gb324, 1, none⟩ = some (.slice none 0 0) := (blk_cell BK324.out 1).trans rfl
                              have hfs48 := blk_frozen BK324.out 1
                              have hns48_0 := NB317_324.out
                              have hns48_1 := NB318_324.out
                              have hns48_2 := NB323_324.out
                              have hns48_4 := NB325_324.out
                              have hms48_0 := NB324_317.out
                              have hms48_1 := NB324_318.out
                              have hms48_2 := NB324_323.out
                              have hms48_4 := NB324_325.out
                              have hs49 : w43.cell? ⟨gb324, 2, none⟩ = some (.slice none 0 0) := (blk_cell BK324.out 2).trans rfl
                              have hfs49 := blk_frozen BK324.out 2
                              have hns49_0 := NB317_324.out
                              have hns49_1 := NB318_324.out
                              have hns49_2 := NB323_324.out
                              have hns49_4 := NB325_324.out
                              have hms49_0 := NB324_317.out
                              have hms49_1 := NB324_318.out
                              have hms49_2 := NB324_323.out
                              have hms49_4 := NB324_325.out
                              refine skip_ (w1 := ?_) (by rfl) rfl ?_ ?_
                              rotate_left
                              · go_simp
                                rfl
                              refine hK.out _ _ ⟨((cell_far (p := ⟨gb324, _, none⟩) NB318_324.out _).trans (((cell_far (p := ⟨gb324, _, none⟩) NB318_324.out _).trans (((cell_far (p := ⟨gb324, _, none⟩) NB318_324.out _).trans (hHeld.1)))))), ((cell_far (p := ⟨gb324, _, none⟩) NB318_324.out _).trans (((cell_far (p := ⟨gb324, _, none⟩) NB318_324.out _).trans (((cell_far (p := ⟨gb324, _, none⟩) NB318_324.out _).trans (hHeld.2.1)))))), ((cell_far (p := ⟨gb324, _, none⟩) NB318_324.out _).trans (((cell_far (p := ⟨gb324, _, none⟩) NB318_324.out _).trans (((cell_far (p := ⟨gb324, _, none⟩) NB318_324.out _).trans (hHeld.2.2.1)))))), ((cell_far (p := ⟨gb324, _, none⟩) NB317_324.out _).trans (((cell_far (p := ⟨gb324, _, none⟩) NB317_324.out _).trans (((cell_far (p := ⟨gb324, _, none⟩) NB317_324.out _).trans (hHeld.2.2.2.1)))))), ((cell_far (p := ⟨gb324, _, none⟩) NB317_324.out _).trans (((cell_far (p := ⟨gb324, _, none⟩) NB317_324.out _).trans (((cell_far (p := ⟨gb324, _, none⟩) NB317_324.out _).trans (hHeld.2.2.2.2.1)))))), ((cell_far (p := ⟨gb324, _, none⟩) NB317_324.out _).trans (((cell_far (p := ⟨gb324, _, none⟩) NB317_324.out _).trans (((cell_far (p := ⟨gb324, _, none⟩) NB317_324.out _).trans (hHeld.2.2.2.2.2.1)))))), ((cell_far (p := ⟨gb324, _, none⟩) NB317_324.out _).trans (((cell_far (p := ⟨gb324, _, none⟩) NB317_324.out _).trans (((cell_far (p := ⟨gb324, _, none⟩) NB317_324.out _).trans (hHeld.2.2.2.2.2.2))))))⟩ (fun hHeld => ?_)
                              clear hK K
                              refine one_ (i := 8) (N := none) #[true, true, true, true, true, true, true, true, true] rfl rfl (one_of HT_.out (by kernel_rfl)) (by decide) (fun K hK => ?_)
                              have hs50 : w43.cell? ⟨gb325, 0, none⟩ = some (.string (⟨#[]⟩ : ByteArray)) := (blk_cell BK325.out 0).trans rfl
                              have hfs50 := blk_frozen BK325.out 0
                              have hns50_0 := NB317_325.out
                              have hns50_1 := NB318_325.out
                              have hns50_2 := NB323_325.out
                              have hns50_3 := NB324_325.out
                              have hms50_0 := NB325_317.out
                              have hms50_1 := NB325_318.out
                              have hms50_2 := NB325_323.out
                              have hms50_3 := NB325_324.out
                              have hs51 : w43.cell? ⟨gb325, 1, none⟩ = some (.string (⟨#[]⟩ : ByteArray)) := (blk_cell BK325.out 1).trans rfl
                              have hfs51 := blk_frozen BK325.out 1
                              have hns51_0 := NB317_325.out
                              have hns51_1 := NB318_325.out
                              have hns51_2 := NB323_325.out
                              have hns51_3 := NB324_325.out
                              have hms51_0 := NB325_317.out
                              have hms51_1 := NB325_318.out
                              have hms51_2 := NB325_323.out
                              have hms51_3 := NB325_324.out
                              have hs52 : w43.cell? ⟨gb325, 2, none⟩ = some (.string (⟨#[]⟩ : ByteArray)) := (blk_cell BK325.out 2).trans rfl
                              have hfs52 := blk_frozen BK325.out 2
                              have hns52_0 := NB317_325.out
                              have hns52_1 := NB318_325.out
                              have hns52_2 := NB323_325.out
                              have hns52_3 := NB324_325.out
                              have hms52_0 := NB325_317.out
                              have hms52_1 := NB325_318.out
                              have hms52_2 := NB325_323.out
                              have hms52_3 := NB325_324.out
                              have hs53 : w43.cell? ⟨gb325, 3, none⟩ = some (.slice none 0 0) := (blk_cell BK325.out 3).trans rfl
                              have hfs53 := blk_frozen BK325.out 3
                              have hns53_0 := NB317_325.out
                              have hns53_1 := NB318_325.out
                              have hns53_2 := NB323_325.out
                              have hns53_3 := NB324_325.out
                              have hms53_0 := NB325_317.out
                              have hms53_1 := NB325_318.out
                              have hms53_2 := NB325_323.out
                              have hms53_3 := NB325_324.out
                              refine skip_ (w1 := ?_) (by rfl) rfl ?_ ?_
                              rotate_left
                              · go_simp
                                rfl
                              refine hK.out _ _ ⟨((cell_far (p := ⟨gb325, _, none⟩) NB318_325.out _).trans (((cell_far (p := ⟨gb325, _, none⟩) NB318_325.out _).trans (((cell_far (p := ⟨gb325, _, none⟩) NB318_325.out _).trans (((cell_far (p := ⟨gb325, _, none⟩) NB318_325.out _).trans (hHeld.1)))))))), ((cell_far (p := ⟨gb325, _, none⟩) NB318_325.out _).trans (((cell_far (p := ⟨gb325, _, none⟩) NB318_325.out _).trans (((cell_far (p := ⟨gb325, _, none⟩) NB318_325.out _).trans (((cell_far (p := ⟨gb325, _, none⟩) NB318_325.out _).trans (hHeld.2.1)))))))), ((cell_far (p := ⟨gb325, _, none⟩) NB318_325.out _).trans (((cell_far (p := ⟨gb325, _, none⟩) NB318_325.out _).trans (((cell_far (p := ⟨gb325, _, none⟩) NB318_325.out _).trans (((cell_far (p := ⟨gb325, _, none⟩) NB318_325.out _).trans (hHeld.2.2.1)))))))), ((cell_far (p := ⟨gb325, _, none⟩) NB317_325.out _).trans (((cell_far (p := ⟨gb325, _, none⟩) NB317_325.out _).trans (((cell_far (p := ⟨gb325, _, none⟩) NB317_325.out _).trans (((cell_far (p := ⟨gb325, _, none⟩) NB317_325.out _).trans (hHeld.2.2.2.1)))))))), ((cell_far (p := ⟨gb325, _, none⟩) NB317_325.out _).trans (((cell_far (p := ⟨gb325, _, none⟩) NB317_325.out _).trans (((cell_far (p := ⟨gb325, _, none⟩) NB317_325.out _).trans (((cell_far (p := ⟨gb325, _, none⟩) NB317_325.out _).trans (hHeld.2.2.2.2.1)))))))), ((cell_far (p := ⟨gb325, _, none⟩) NB317_325.out _).trans (((cell_far (p := ⟨gb325, _, none⟩) NB317_325.out _).trans (((cell_far (p := ⟨gb325, _, none⟩) NB317_325.out _).trans (((cell_far (p := ⟨gb325, _, none⟩) NB317_325.out _).trans (hHeld.2.2.2.2.2.1)))))))), ((cell_far (p := ⟨gb325, _, none⟩) NB317_325.out _).trans (((cell_far (p := ⟨gb325, _, none⟩) NB317_325.out _).trans (((cell_far (p := ⟨gb325, _, none⟩) NB317_325.out _).trans (((cell_far (p := ⟨gb325, _, none⟩) NB317_325.out _).trans (hHeld.2.2.2.2.2.2))))))))⟩ (fun hHeld => ?_)
                              clear hK K
                              refine done_ (done_of HT_.out (by kernel_rfl)) ?_
                              try go_wp2_with (first | ((with_reducible refine gate_dst (N := 24) rfl ?_); refine Kd.R_lit k42 _ 42 ?hg (N := 24) ?hd (xs := ([] : List (S42))) (inner := []) (ok := fun _ => True) (okp := fun _ => True) ?hr ?hp (fun _ hk => hk) trivial (Below.refl _ _) (Nat.le_refl _) (by simp) ?_; (case hd => rfl); (case hg => rfl); (case hr => first | (go_simp; done) | (go_simp; rfl)); (case hp => exact (Reps.none _ _)); intro v327 w54 ho55 hb hg_ hnew_; clear hg_ hnew_; (first | rw [← Ny326.out] at ho55 | (simp only [Int.reduceToNat] at ho55; rw [← Ny326.out] at ho55)); have n0_ := Aside0.mk (Kd.R_lower ho55 (below_size (by repeat (first | (with_reducible first | exact HB.out | apply below_alloc | apply pw_below_drewN | apply below_drew1 | refine below_set ?_ GE317.out | refine below_set ?_ GE318.out | refine below_set ?_ GE323.out | refine below_set ?_ GE324.out | refine below_set ?_ GE325.out) | exact HB.out)))); have n1_ := Aside0.mk (blk_below (g := gb317) (o := .cells #[.string a1_0, .string a1_1, .string a1_2, .slice A1_3 l1_3.length c1_3] 24 (0, 0)) (by (with_reducible repeat (first | refine blk_drewN ?_ _ | refine blk_drew ?_ | refine blk_alloc ?_ _)); refine blk_far ?_ NB317_325.out _; (with_reducible repeat (first | refine blk_drewN ?_ _ | refine blk_drew ?_ | refine blk_alloc ?_ _)); refine blk_far ?_ NB317_325.out _; (with_reducible repeat (first | refine blk_drewN ?_ _ | refine blk_drew ?_ | refine blk_alloc ?_ _)); refine blk_far ?_ NB317_325.out _; (with_reducible repeat (first | refine blk_drewN ?_ _ | refine blk_drew ?_ | refine blk_alloc ?_ _)); refine blk_far ?_ NB317_325.out _; (with_reducible repeat (first | refine blk_drewN ?_ _ | refine blk_drew ?_ | refine blk_alloc ?_ _)); refine blk_far ?_ NB317_324.out _; (with_reducible repeat (first | refine blk_drewN ?_ _ | refine blk_drew ?_ | refine blk_alloc ?_ _)); refine blk_far ?_ NB317_324.out _; (with_reducible repeat (first | refine blk_drewN ?_ _ | refine blk_drew ?_ | refine blk_alloc ?_ _)); refine blk_far ?_ NB317_324.out _; (with_reducible repeat (first | refine blk_drewN ?_ _ | refine blk_drew ?_ | refine blk_alloc ?_ _)); refine blk_far ?_ NB317_323.out _; (with_reducible repeat (first | refine blk_drewN ?_ _ | refine blk_drew ?_ | refine blk_alloc ?_ _)); refine blk_far ?_ NB317_323.out _; (with_reducible repeat (first | refine blk_drewN ?_ _ | refine blk_drew ?_ | refine blk_alloc ?_ _)); refine blk_far ?_ NB317_323.out _; (with_reducible repeat (first | refine blk_drewN ?_ _ | refine blk_drew ?_ | refine blk_alloc ?_ _)); exact BK317.out) hb); have n2_ := Aside0.mk (blk_below (g := gb318) (o := .cells #[.int .i64 a2_0, .slice A2_1 l2_1.length c2_1, .slice A2_2 l2_2.length c2_2] 27 (0, 0)) (by (with_reducible repeat (first | refine blk_drewN ?_ _ | refine blk_drew ?_ | refine blk_alloc ?_ _)); refine blk_far ?_ NB318_325.out _; (with_reducible repeat (first | refine blk_drewN ?_ _ | refine blk_drew ?_ | refine blk_alloc ?_ _)); refine blk_far ?_ NB318_325.out _; (with_reducible repeat (first | refine blk_drewN ?_ _ | refine blk_drew ?_ | refine blk_alloc ?_ _)); refine blk_far ?_ NB318_325.out _; (with_reducible repeat (first | refine blk_drewN ?_ _ | refine blk_drew ?_ | refine blk_alloc ?_ _)); refine blk_far ?_ NB318_325.out _; (with_reducible repeat (first | refine blk_drewN ?_ _ | refine blk_drew ?_ | refine blk_alloc ?_ _)); refine blk_far ?_ NB318_324.out _; (with_reducible repeat (first | refine blk_drewN ?_ _ | refine blk_drew ?_ | refine blk_alloc ?_ _)); refine blk_far ?_ NB318_324.out _; (with_reducible repeat (first | refine blk_drewN ?_ _ | refine blk_drew ?_ | refine blk_alloc ?_ _)); refine blk_far ?_ NB318_324.out _; (with_reducible repeat (first | refine blk_drewN ?_ _ | refine blk_drew ?_ | refine blk_alloc ?_ _)); refine blk_far ?_ NB318_323.out _; (with_reducible repeat (first | refine blk_drewN ?_ _ | refine blk_drew ?_ | refine blk_alloc ?_ _)); refine blk_far ?_ NB318_323.out _; (with_reducible repeat (first | refine blk_drewN ?_ _ | refine blk_drew ?_ | refine blk_alloc ?_ _)); refine blk_far ?_ NB318_323.out _; (with_reducible repeat (first | refine blk_drewN ?_ _ | refine blk_drew ?_ | refine blk_alloc ?_ _)); exact BK318.out) hb); have n3_ := Aside0.mk (blk_below (g := gb323) (o := .cells #[.int .i64 a2_0, .slice A2_1 l2_1.length c2_1, .slice A2_2 l2_2.length c2_2] 27 (0, 0)) (by (with_reducible repeat (first | refine blk_drewN ?_ _ | refine blk_drew ?_ | refine blk_alloc ?_ _)); refine blk_far ?_ NB323_325.out _; (with_reducible repeat (first | refine blk_drewN ?_ _ | refine blk_drew ?_ | refine blk_alloc ?_ _)); refine blk_far ?_ NB323_325.out _; (with_reducible repeat (first | refine blk_drewN ?_ _ | refine blk_drew ?_ | refine blk_alloc ?_ _)); refine blk_far ?_ NB323_325.out _; (with_reducible repeat (first | refine blk_drewN ?_ _ | refine blk_drew ?_ | refine blk_alloc ?_ _)); refine blk_far ?_ NB323_325.out _; (with_reducible repeat (first | refine blk_drewN ?_ _ | refine blk_drew ?_ | refine blk_alloc ?_ _)); refine blk_far ?_ NB323_324.out _; (with_reducible repeat (first | refine blk_drewN ?_ _ | refine blk_drew ?_ | refine blk_alloc ?_ _)); refine blk_far ?_ NB323_324.out _; (with_reducible repeat (first | refine blk_drewN ?_ _ | refine blk_drew ?_ | refine blk_alloc ?_ _)); refine blk_far ?_ NB323_324.out _; (with_reducible repeat (first | refine blk_drewN ?_ _ | refine blk_drew ?_ | refine blk_alloc ?_ _)); refine blk_put (cs := #[.int .i64 a2_0, .slice A2_1 l2_1.length c2_1, .slice none 0 0]) ?_ 2 _ rfl; (with_reducible repeat (first | refine blk_drewN ?_ _ | refine blk_drew ?_ | refine blk_alloc ?_ _)); refine blk_put (cs := #[.int .i64 a2_0, .slice none 0 0, .slice none 0 0]) ?_ 1 _ rfl; (with_reducible repeat (first | refine blk_drewN ?_ _ | refine blk_drew ?_ | refine blk_alloc ?_ _)); refine blk_put (cs := #[.int .i64 0, .slice none 0 0, .slice none 0 0]) ?_ 0 _ rfl; (with_reducible repeat (first | refine blk_drewN ?_ _ | refine blk_drew ?_ | refine blk_alloc ?_ _)); exact BK323.out) hb); have n4_ := Aside0.mk (blk_below (g := gb324) (o := .cells #[.int .i64 a2_0, .slice A2_1 l2_1.length c2_1, .slice A2_2 l2_2.length c2_2] 27 (0, 0)) (by (with_reducible repeat (first | refine blk_drewN ?_ _ | refine blk_drew ?_ | refine blk_alloc ?_ _)); refine blk_far ?_ NB324_325.out _; (with_reducible repeat (first | refine blk_drewN ?_ _ | refine blk_drew ?_ | refine blk_alloc ?_ _)); refine blk_far ?_ NB324_325.out _; (with_reducible repeat (first | refine blk_drewN ?_ _ | refine blk_drew ?_ | refine blk_alloc ?_ _)); refine blk_far ?_ NB324_325.out _; (with_reducible repeat (first | refine blk_drewN ?_ _ | refine blk_drew ?_ | refine blk_alloc ?_ _)); refine blk_far ?_ NB324_325.out _; (with_reducible repeat (first | refine blk_drewN ?_ _ | refine blk_drew ?_ | refine blk_alloc ?_ _)); refine blk_put (cs := #[.int .i64 a2_0, .slice A2_1 l2_1.length c2_1, .slice none 0 0]) ?_ 2 _ rfl; (with_reducible repeat (first | refine blk_drewN ?_ _ | refine blk_drew ?_ | refine blk_alloc ?_ _)); refine blk_put (cs := #[.int .i64 a2_0, .slice none 0 0, .slice none 0 0]) ?_ 1 _ rfl; (with_reducible repeat (first | refine blk_drewN ?_ _ | refine blk_drew ?_ | refine blk_alloc ?_ _)); refine blk_put (cs := #[.int .i64 0, .slice none 0 0, .slice none 0 0]) ?_ 0 _ rfl; (with_reducible repeat (first | refine blk_drewN ?_ _ | refine blk_drew ?_ | refine blk_alloc ?_ _)); refine blk_far ?_ NB324_323.out _; (with_reducible repeat (first | refine blk_drewN ?_ _ | refine blk_drew ?_ | refine blk_alloc ?_ _)); refine blk_far ?_ NB324_323.out _; (with_reducible repeat (first | refine blk_drewN ?_ _ | refine blk_drew ?_ | refine blk_alloc ?_ _)); refine blk_far ?_ NB324_323.out _; (with_reducible repeat (first | refine blk_drewN ?_ _ | refine blk_drew ?_ | refine blk_alloc ?_ _)); exact BK324.out) hb); have n5_ := Aside0.mk (blk_below (g := gb325) (o := .cells #[.string a1_0, .string a1_1, .string a1_2, .slice A1_3 l1_3.length c1_3] 24 (0, 0)) (by (with_reducible repeat (first | refine blk_drewN ?_ _ | refine blk_drew ?_ | refine blk_alloc ?_ _)); refine blk_put (cs := #[.string a1_0, .string a1_1, .string a1_2, .slice none 0 0]) ?_ 3 _ rfl; (with_reducible repeat (first | refine blk_drewN ?_ _ | refine blk_drew ?_ | refine blk_alloc ?_ _)); refine blk_put (cs := #[.string a1_0, .string a1_1, .string (⟨#[]⟩ : ByteArray), .slice none 0 0]) ?_ 2 _ rfl; (with_reducible repeat (first | refine blk_drewN ?_ _ | refine blk_drew ?_ | refine blk_alloc ?_ _)); refine blk_put (cs := #[.string a1_0, .string (⟨#[]⟩ : ByteArray), .string (⟨#[]⟩ : ByteArray), .slice none 0 0]) ?_ 1 _ rfl; (with_reducible repeat (first | refine blk_drewN ?_ _ | refine blk_drew ?_ | refine blk_alloc ?_ _)); refine blk_put (cs := #[.string (⟨#[]⟩ : ByteArray), .string (⟨#[]⟩ : ByteArray), .string (⟨#[]⟩ : ByteArray), .slice none 0 0]) ?_ 0 _ rfl; (with_reducible repeat (first | refine blk_drewN ?_ _ | refine blk_drew ?_ | refine blk_alloc ?_ _)); refine blk_far ?_ NB325_324.out _; (with_reducible repeat (first | refine blk_drewN ?_ _ | refine blk_drew ?_ | refine blk_alloc ?_ _)); refine blk_far ?_ NB325_324.out _; (with_reducible repeat (first | refine blk_drewN ?_ _ | refine blk_drew ?_ | refine blk_alloc ?_ _)); refine blk_far ?_ NB325_324.out _; (with_reducible repeat (first | refine blk_drewN ?_ _ | refine blk_drew ?_ | refine blk_alloc ?_ _)); refine blk_far ?_ NB325_323.out _; (with_reducible repeat (first | refine blk_drewN ?_ _ | refine blk_drew ?_ | refine blk_alloc ?_ _)); refine blk_far ?_ NB325_323.out _; (with_reducible repeat (first | refine blk_drewN ?_ _ | refine blk_drew ?_ | refine blk_alloc ?_ _)); refine blk_far ?_ NB325_323.out _; (with_reducible repeat (first | refine blk_drewN ?_ _ | refine blk_drew ?_ | refine blk_alloc ?_ _)); exact BK325.out) hb); have n6_ := Aside0.mk (below_step (by repeat (first | (with_reducible first | exact HB.out | apply below_alloc | apply pw_below_drewN | apply below_drew1 | refine below_set ?_ GE317.out | refine below_set ?_ GE318.out | refine below_set ?_ GE323.out | refine below_set ?_ GE324.out | refine below_set ?_ GE325.out) | exact HB.out)) hb); clear BK317; clear BK318; clear BK323; clear BK324; clear BK325; clear HB; have HO328 := n0_; have BK317 := n1_; have BK318 := n2_; have BK323 := n3_; have BK324 := n4_; have BK325 := n5_; have HB := n6_; clear n0_ n1_ n2_ n3_ n4_ n5_ n6_; clear hb ho55; have hnb56 := NB318_317.out; have hnc56 := NB317_318.out; have hnb57 := NB318_323.out; have hnc57 := NB323_318.out; have hnb58 := NB318_324.out; have hnc58 := NB324_318.out; have hnb59 := NB318_325.out; have hnc59 := NB325_318.out; have hcz60_0 : w54.cell? ⟨gb318, 0, none⟩ = some (.int .i64 a2_0) := (blk_cell BK318.out 0).trans rfl; have hcz60_1 : w54.cell? ⟨gb318, 1, none⟩ = some (.slice A2_1 l2_1.length c2_1) := (blk_cell BK318.out 1).trans rfl; have hcz60_2 : w54.cell? ⟨gb318, 2, none⟩ = some (.slice A2_2 l2_2.length c2_2) := (blk_cell BK318.out 2).trans rfl; have hfz60_0 := blk_frozen BK318.out 0; have hfz60_1 := blk_frozen BK318.out 1; have hfz60_2 := blk_frozen BK318.out 2) | ((with_reducible refine gate_builtin (b := .append) (xs := #[.tmp 24, .tmp 26]) rfl ?_); at_builtin; refine Kd.R_append_rows k42 (w0 := w) w.heap.size rfl (.tmp 24) (.tmp 26) 22 42 (.agg #[(.string ⟨#[]⟩), (.string ⟨#[]⟩)]) 32 rfl Tryd.underlying22 info42 rfl (by decide) (by omega) v327 y326 l2_1 _ _ _ (fun _ => True) (fun _ => False) rfl rfl ?aO ?aR (fun _ _ h => h) (fun _ h => h.elim) ?aF ?aB ?aS ?aL ?_; (case aR => repeat (first | exact (Kd.C_below HR2_1.out HB.out) | (with_reducible refine Kd.C_alloc ?_ _) | (with_reducible refine Kd.C_drewN ?_ _) | (with_reducible refine Kd.C_drew ?_))); (case aB => exact (by repeat (first | (with_reducible first | exact HB.out | apply below_alloc | apply pw_below_drewN | apply below_drew1 | refine below_set ?_ GE317.out | refine below_set ?_ GE318.out | refine below_set ?_ GE323.out | refine below_set ?_ GE324.out | refine below_set ?_ GE325.out) | exact HB.out))); (case aF => exact (fun _ _ => trivial)); (case aO => exact (by (with_reducible repeat (first | apply Kd.R_alloc | apply Kd.R_drewN | apply Kd.R_drew)); exact HO328.out)); (case aS => exact (below_size (by repeat (first | (with_reducible first | exact HB.out | apply below_alloc | apply pw_below_drewN | apply below_drew1 | refine below_set ?_ GE317.out | refine below_set ?_ GE318.out | refine below_set ?_ GE323.out | refine below_set ?_ GE324.out | refine below_set ?_ GE325.out) | exact HB.out)))); (case aL => have := LMc24.out; omega); intro v330 w61 ho hb hg hat; rw [← Ny329.out] at ho; have n0_ := Aside0.mk (blk_grown (g := gb317) (o := .cells #[.string a1_0, .string a1_1, .string a1_2, .slice A1_3 l1_3.length c1_3] 24 (0, 0)) (by (with_reducible repeat (first | refine blk_drewN ?_ _ | refine blk_drew ?_ | refine blk_alloc ?_ _)); exact BK317.out) hg (Kd.R_ne HO328.out BK317.out (by decide))); have n1_ := Aside0.mk (blk_grown (g := gb318) (o := .cells #[.int .i64 a2_0, .slice A2_1 l2_1.length c2_1, .slice A2_2 l2_2.length c2_2] 27 (0, 0)) (by (with_reducible repeat (first | refine blk_drewN ?_ _ | refine blk_drew ?_ | refine blk_alloc ?_ _)); exact BK318.out) hg (Kd.R_ne HO328.out BK318.out (by decide))); have n2_ := Aside0.mk (blk_grown (g := gb323) (o := .cells #[.int .i64 a2_0, .slice A2_1 l2_1.length c2_1, .slice A2_2 l2_2.length c2_2] 27 (0, 0)) (by (with_reducible repeat (first | refine blk_drewN ?_ _ | refine blk_drew ?_ | refine blk_alloc ?_ _)); exact BK323.out) hg (Kd.R_ne HO328.out BK323.out (by decide))); have n3_ := Aside0.mk (blk_grown (g := gb324) (o := .cells #[.int .i64 a2_0, .slice A2_1 l2_1.length c2_1, .slice A2_2 l2_2.length c2_2] 27 (0, 0)) (by (with_reducible repeat (first | refine blk_drewN ?_ _ | refine blk_drew ?_ | refine blk_alloc ?_ _)); exact BK324.out) hg (Kd.R_ne HO328.out BK324.out (by decide))); have n4_ := Aside0.mk (blk_grown (g := gb325) (o := .cells #[.string a1_0, .string a1_1, .string a1_2, .slice A1_3 l1_3.length c1_3] 24 (0, 0)) (by (with_reducible repeat (first | refine blk_drewN ?_ _ | refine blk_drew ?_ | refine blk_alloc ?_ _)); exact BK325.out) hg (Kd.R_ne HO328.out BK325.out (by decide))); have n5_ := Aside0.mk (hb); have n6_ := Aside0.mk (ho); clear BK317; clear BK318; clear BK323; clear BK324; clear BK325; clear HB; clear HO328; have BK317 := n0_; have BK318 := n1_; have BK323 := n2_; have BK324 := n3_; have BK325 := n4_; have HB := n5_; have HO331 := n6_; clear n0_ n1_ n2_ n3_ n4_ n5_ n6_; clear ho hb hg hat) | ((with_reducible refine gate_builtin (b := .append) (xs := #[.tmp 27, .tmp 29]) rfl ?_); at_builtin; refine Kd.R_append k42 (w0 := w) w.heap.size rfl (.tmp 27) (.tmp 29) 22 42 (.agg #[(.string ⟨#[]⟩), (.string ⟨#[]⟩)]) 32 rfl Tryd.underlying22 info42 rfl (by decide) (by omega) v330 y329 (⟨(⟨#[99, 97, 99, 104, 101, 45, 99, 111, 110, 116, 114, 111, 108]⟩ : ByteArray), (⟨#[110, 111, 45, 115, 116, 111, 114, 101]⟩ : ByteArray)⟩ : S42) [.string (⟨#[99, 97, 99, 104, 101, 45, 99, 111, 110, 116, 114, 111, 108]⟩ : ByteArray), .string (⟨#[110, 111, 45, 115, 116, 111, 114, 101]⟩ : ByteArray)] (fun _ => True) (fun _ => False) rfl rfl ?aP (fun _ hk => hk.elim) ?aF ?aO ?aB ?aS ?aL ?_; (case aP => exact k42_mkM _ _ _ (⟨(⟨#[99, 97, 99, 104, 101, 45, 99, 111, 110, 116, 114, 111, 108]⟩ : ByteArray), (⟨#[110, 111, 45, 115, 116, 111, 114, 101]⟩ : ByteArray)⟩ : S42)); (case aB => exact (by repeat (first | (with_reducible first | exact HB.out | apply below_alloc | apply pw_below_drewN | apply below_drew1 | refine below_set ?_ GE317.out | refine below_set ?_ GE318.out | refine below_set ?_ GE323.out | refine below_set ?_ GE324.out | refine below_set ?_ GE325.out) | exact HB.out))); (case aF => exact (fun _ _ => trivial)); (case aO => exact (by (with_reducible repeat (first | apply Kd.R_alloc | apply Kd.R_drewN | apply Kd.R_drew)); exact HO331.out)); (case aS => exact (below_size (by repeat (first | (with_reducible first | exact HB.out | apply below_alloc | apply pw_below_drewN | apply below_drew1 | refine below_set ?_ GE317.out | refine below_set ?_ GE318.out | refine below_set ?_ GE323.out | refine below_set ?_ GE324.out | refine below_set ?_ GE325.out) | exact HB.out)))); (case aL => have := LMc25.out; omega); intro v333 w62 ho hb hg hat; rw [← Ny332.out] at ho; have n0_ := Aside0.mk (blk_grown (g := gb317) (o := .cells #[.string a1_0, .string a1_1, .string a1_2, .slice A1_3 l1_3.length c1_3] 24 (0, 0)) (by (with_reducible repeat (first | refine blk_drewN ?_ _ | refine blk_drew ?_ | refine blk_alloc ?_ _)); exact BK317.out) hg (Kd.R_ne HO331.out BK317.out (by decide))); have n1_ := Aside0.mk (blk_grown (g := gb318) (o := .cells #[.int .i64 a2_0, .slice A2_1 l2_1.length c2_1, .slice A2_2 l2_2.length c2_2] 27 (0, 0)) (by (with_reducible repeat (first | refine blk_drewN ?_ _ | refine blk_drew ?_ | refine blk_alloc ?_ _)); exact BK318.out) hg (Kd.R_ne HO331.out BK318.out (by decide))); have n2_ := Aside0.mk (blk_grown (g := gb323) (o := .cells #[.int .i64 a2_0, .slice A2_1 l2_1.length c2_1, .slice A2_2 l2_2.length c2_2] 27 (0, 0)) (by (with_reducible repeat (first | refine blk_drewN ?_ _ | refine blk_drew ?_ | refine blk_alloc ?_ _)); exact BK323.out) hg (Kd.R_ne HO331.out BK323.out (by decide))); have n3_ := Aside0.mk (blk_grown (g := gb324) (o := .cells #[.int .i64 a2_0, .slice A2_1 l2_1.length c2_1, .slice A2_2 l2_2.length c2_2] 27 (0, 0)) (by (with_reducible repeat (first | refine blk_drewN ?_ _ | refine blk_drew ?_ | refine blk_alloc ?_ _)); exact BK324.out) hg (Kd.R_ne HO331.out BK324.out (by decide))); have n4_ := Aside0.mk (blk_grown (g := gb325) (o := .cells #[.string a1_0, .string a1_1, .string a1_2, .slice A1_3 l1_3.length c1_3] 24 (0, 0)) (by (with_reducible repeat (first | refine blk_drewN ?_ _ | refine blk_drew ?_ | refine blk_alloc ?_ _)); exact BK325.out) hg (Kd.R_ne HO331.out BK325.out (by decide))); have n5_ := Aside0.mk (hb); have n6_ := Aside0.mk (ho); clear BK317; clear BK318; clear BK323; clear BK324; clear BK325; clear HB; clear HO331; have BK317 := n0_; have BK318 := n1_; have BK323 := n2_; have BK324 := n3_; have BK325 := n4_; have HB := n5_; have HO334 := n6_; clear n0_ n1_ n2_ n3_ n4_ n5_ n6_; clear ho hb hg hat; obtain ⟨Ao63, co63, eo63⟩ := Kd.R_slice HO334.out; subst eo63; have hnb64 := NB323_317.out; have hnc64 := NB317_323.out; have hnb65 := NB323_324.out; have hnc65 := NB324_323.out; have hnb66 := NB323_325.out; have hnc66 := NB325_323.out; have hcz67_0 : w62.cell? ⟨gb323, 0, none⟩ = some (.int .i64 a2_0) := (blk_cell BK323.out 0).trans rfl; have hcz67_1 : w62.cell? ⟨gb323, 1, none⟩ = some (.slice A2_1 l2_1.length c2_1) := (blk_cell BK323.out 1).trans rfl; have hcz67_2 : w62.cell? ⟨gb323, 2, none⟩ = some (.slice A2_2 l2_2.length c2_2) := (blk_cell BK323.out 2).trans rfl; have hfz67_0 := blk_frozen BK323.out 0; have hfz67_1 := blk_frozen BK323.out 1; have hfz67_2 := blk_frozen BK323.out 2) | ((with_reducible refine gate_dst (N := 32) rfl ?_); refine Kd.R_lit k42 _ 42 ?hg (N := 32) ?hd (xs := ([] : List (S42))) (inner := []) (ok := fun _ => True) (okp := fun _ => True) ?hr ?hp (fun _ hk => hk) trivial (Below.refl _ _) (Nat.le_refl _) (by simp) ?_; (case hd => rfl); (case hg => rfl); (case hr => first | (go_simp; done) | (go_simp; rfl)); (case hp => exact (Reps.none _ _)); intro v336 w68 ho69 hb hg_ hnew_; clear hg_ hnew_; (first | rw [← Ny335.out] at ho69 | (simp only [Int.reduceToNat] at ho69; rw [← Ny335.out] at ho69)); have n0_ := Aside0.mk (Kd.R_elder' (by (with_reducible repeat (first | apply Kd.R_alloc | apply Kd.R_drewN | apply Kd.R_drew)); exact (Kd.R_mono (Kd.R_far (p := ⟨gb323, 1, none⟩) (Kd.R_types HO334.out BK323.out (by decide)) (fun _ hk => hk.2) (.slice Ao63 y332.length co63)) (fun _ h_ => h_.1))) (Kd.R_base ho69) hb); have n1_ := Aside0.mk (Kd.R_lower (Kd.R_new' ho69 (Kd.R_lt (by (with_reducible repeat (first | apply Kd.R_alloc | apply Kd.R_drewN | apply Kd.R_drew)); exact (Kd.R_mono (Kd.R_far (p := ⟨gb323, 1, none⟩) (Kd.R_types HO334.out BK323.out (by decide)) (fun _ hk => hk.2) (.slice Ao63 y332.length co63)) (fun _ h_ => h_.1))))) (below_size (by repeat (first | (with_reducible first | exact HB.out | apply below_alloc | apply pw_below_drewN | apply below_drew1 | refine below_set ?_ GE317.out | refine below_set ?_ GE318.out | refine below_set ?_ GE323.out | refine below_set ?_ GE324.out | refine below_set ?_ GE325.out) | exact HB.out)))); have n2_ := Aside0.mk (blk_below (g := gb317) (o := .cells #[.string a1_0, .string a1_1, .string a1_2, .slice A1_3 l1_3.length c1_3] 24 (0, 0)) (by (with_reducible repeat (first | refine blk_drewN ?_ _ | refine blk_drew ?_ | refine blk_alloc ?_ _)); refine blk_far ?_ NB317_323.out _; (with_reducible repeat (first | refine blk_drewN ?_ _ | refine blk_drew ?_ | refine blk_alloc ?_ _)); exact BK317.out) hb); have n3_ := Aside0.mk (blk_below (g := gb318) (o := .cells #[.int .i64 a2_0, .slice A2_1 l2_1.length c2_1, .slice A2_2 l2_2.length c2_2] 27 (0, 0)) (by (with_reducible repeat (first | refine blk_drewN ?_ _ | refine blk_drew ?_ | refine blk_alloc ?_ _)); refine blk_far ?_ NB318_323.out _; (with_reducible repeat (first | refine blk_drewN ?_ _ | refine blk_drew ?_ | refine blk_alloc ?_ _)); exact BK318.out) hb); have n4_ := Aside0.mk (blk_below (g := gb323) (o := .cells #[.int .i64 a2_0, .slice Ao63 y332.length co63, .slice A2_2 l2_2.length c2_2] 27 (0, 0)) (by (with_reducible repeat (first | refine blk_drewN ?_ _ | refine blk_drew ?_ | refine blk_alloc ?_ _)); refine blk_put (cs := #[.int .i64 a2_0, .slice A2_1 l2_1.length c2_1, .slice A2_2 l2_2.length c2_2]) ?_ 1 _ rfl; (with_reducible repeat (first | refine blk_drewN ?_ _ | refine blk_drew ?_ | refine blk_alloc ?_ _)); exact BK323.out) hb); have n5_ := Aside0.mk (blk_below (g := gb324) (o := .cells #[.int .i64 a2_0, .slice A2_1 l2_1.length c2_1, .slice A2_2 l2_2.length c2_2] 27 (0, 0)) (by (with_reducible repeat (first | refine blk_drewN ?_ _ | refine blk_drew ?_ | refine blk_alloc ?_ _)); refine blk_far ?_ NB324_323.out _; (with_reducible repeat (first | refine blk_drewN ?_ _ | refine blk_drew ?_ | refine blk_alloc ?_ _)); exact BK324.out) hb); have n6_ := Aside0.mk (blk_below (g := gb325) (o := .cells #[.string a1_0, .string a1_1, .string a1_2, .slice A1_3 l1_3.length c1_3] 24 (0, 0)) (by (with_reducible repeat (first | refine blk_drewN ?_ _ | refine blk_drew ?_ | refine blk_alloc ?_ _)); refine blk_far ?_ NB325_323.out _; (with_reducible repeat (first | refine blk_drewN ?_ _ | refine blk_drew ?_ | refine blk_alloc ?_ _)); exact BK325.out) hb); have n7_ := Aside0.mk (below_step (by repeat (first | (with_reducible first | exact HB.out | apply below_alloc | apply pw_below_drewN | apply below_drew1 | refine below_set ?_ GE317.out | refine below_set ?_ GE318.out | refine below_set ?_ GE323.out | refine below_set ?_ GE324.out | refine below_set ?_ GE325.out) | exact HB.out)) hb); clear HO334; clear BK317; clear BK318; clear BK323; clear BK324; clear BK325; clear HB; have HO334 := n0_; have HO337 := n1_; have BK317 := n2_; have BK318 := n3_; have BK323 := n4_; have BK324 := n5_; have BK325 := n6_; have HB := n7_; clear n0_ n1_ n2_ n3_ n4_ n5_ n6_ n7_; clear hb ho69; have hcz70_0 : w68.cell? ⟨gb318, 0, none⟩ = some (.int .i64 a2_0) := (blk_cell BK318.out 0).trans rfl; have hcz70_1 : w68.cell? ⟨gb318, 1, none⟩ = some (.slice A2_1 l2_1.length c2_1) := (blk_cell BK318.out 1).trans rfl; have hcz70_2 : w68.cell? ⟨gb318, 2, none⟩ = some (.slice A2_2 l2_2.length c2_2) := (blk_cell BK318.out 2).trans rfl; have hfz70_0 := blk_frozen BK318.out 0; have hfz70_1 := blk_frozen BK318.out 1; have hfz70_2 := blk_frozen BK318.out 2) | ((with_reducible refine gate_builtin (b := .append) (xs := #[.tmp 32, .tmp 34]) rfl ?_); at_builtin; refine Kd.R_append_rows k42 (w0 := w) w.heap.size rfl (.tmp 32) (.tmp 34) 22 42 (.agg #[(.string ⟨#[]⟩), (.string ⟨#[]⟩)]) 32 rfl Tryd.underlying22 info42 rfl (by decide) (by omega) v336 y335 l2_1 _ _ _ (fun k_ => some k_ ≠ (.slice Ao63 y332.length co63 : Value).ownBlock) (fun _ => False) rfl rfl ?aO ?aR (fun _ _ h => h) (fun _ h => h.elim) ?aF ?aB ?aS ?aL ?_; (case aR => repeat (first | exact (Kd.C_below HR2_1.out HB.out) | (with_reducible refine Kd.C_alloc ?_ _) | (with_reducible refine Kd.C_drewN ?_ _) | (with_reducible refine Kd.C_drew ?_))); (case aB => exact (by repeat (first | (with_reducible first | exact HB.out | apply below_alloc | apply pw_below_drewN | apply below_drew1 | refine below_set ?_ GE317.out | refine below_set ?_ GE318.out | refine below_set ?_ GE323.out | refine below_set ?_ GE324.out | refine below_set ?_ GE325.out) | exact HB.out))); (case aF => exact (fun k_ hk => Kd.fresh' (Kd.R_lt (by (with_reducible repeat (first | apply Kd.R_alloc | apply Kd.R_drewN | apply Kd.R_drew)); exact HO334.out)) k_ hk)); (case aO => exact (by (with_reducible repeat (first | apply Kd.R_alloc | apply Kd.R_drewN | apply Kd.R_drew)); exact Kd.R_mono HO337.out (fun _ hk => hk.2))); (case aS => exact (below_size (by repeat (first | (with_reducible first | exact HB.out | apply below_alloc | apply pw_below_drewN | apply below_drew1 | refine below_set ?_ GE317.out | refine below_set ?_ GE318.out | refine below_set ?_ GE323.out | refine below_set ?_ GE324.out | refine below_set ?_ GE325.out) | exact HB.out)))); (case aL => have := LMc26.out; omega); intro v339 w71 ho hb hg hat; rw [← Ny338.out] at ho; have n0_ := Aside0.mk (blk_grown (g := gb317) (o := .cells #[.string a1_0, .string a1_1, .string a1_2, .slice A1_3 l1_3.length c1_3] 24 (0, 0)) (by (with_reducible repeat (first | refine blk_drewN ?_ _ | refine blk_drew ?_ | refine blk_alloc ?_ _)); exact BK317.out) hg (Kd.R_ne HO337.out BK317.out (by decide))); have n1_ := Aside0.mk (blk_grown (g := gb318) (o := .cells #[.int .i64 a2_0, .slice A2_1 l2_1.length c2_1, .slice A2_2 l2_2.length c2_2] 27 (0, 0)) (by (with_reducible repeat (first | refine blk_drewN ?_ _ | refine blk_drew ?_ | refine blk_alloc ?_ _)); exact BK318.out) hg (Kd.R_ne HO337.out BK318.out (by decide))); have n2_ := Aside0.mk (blk_grown (g := gb323) (o := .cells #[.int .i64 a2_0, .slice Ao63 y332.length co63, .slice A2_2 l2_2.length c2_2] 27 (0, 0)) (by (with_reducible repeat (first | refine blk_drewN ?_ _ | refine blk_drew ?_ | refine blk_alloc ?_ _)); exact BK323.out) hg (Kd.R_ne HO337.out BK323.out (by decide))); have n3_ := Aside0.mk (blk_grown (g := gb324) (o := .cells #[.int .i64 a2_0, .slice A2_1 l2_1.length c2_1, .slice A2_2 l2_2.length c2_2] 27 (0, 0)) (by (with_reducible repeat (first | refine blk_drewN ?_ _ | refine blk_drew ?_ | refine blk_alloc ?_ _)); exact BK324.out) hg (Kd.R_ne HO337.out BK324.out (by decide))); have n4_ := Aside0.mk (blk_grown (g := gb325) (o := .cells #[.string a1_0, .string a1_1, .string a1_2, .slice A1_3 l1_3.length c1_3] 24 (0, 0)) (by (with_reducible repeat (first | refine blk_drewN ?_ _ | refine blk_drew ?_ | refine blk_alloc ?_ _)); exact BK325.out) hg (Kd.R_ne HO337.out BK325.out (by decide))); have n5_ := Aside0.mk (Kd.R_after (ok := (fun _ => True)) (by (with_reducible repeat (first | apply Kd.R_alloc | apply Kd.R_drewN | apply Kd.R_drew)); exact HO334.out) hg hat); have n6_ := Aside0.mk (hb); have n7_ := Aside0.mk (ho); clear BK317; clear BK318; clear BK323; clear BK324; clear BK325; clear HO334; clear HB; clear HO337; have BK317 := n0_; have BK318 := n1_; have BK323 := n2_; have BK324 := n3_; have BK325 := n4_; have HO334 := n5_; have HB := n6_; have HO340 := n7_; clear n0_ n1_ n2_ n3_ n4_ n5_ n6_ n7_; clear ho hb hg hat) | ((with_reducible refine gate_builtin (b := .append) (xs := #[.tmp 35, .tmp 37]) rfl ?_); at_builtin; refine Kd.R_append k42 (w0 := w) w.heap.size rfl (.tmp 35) (.tmp 37) 22 42 (.agg #[(.string ⟨#[]⟩), (.string ⟨#[]⟩)]) 32 rfl Tryd.underlying22 info42 rfl (by decide) (by omega) v339 y338 (⟨(⟨#[67, 65, 67, 72, 69, 45, 67, 79, 78, 84, 82, 79, 76]⟩ : ByteArray), (⟨#[112, 114, 105, 118, 97, 116, 101]⟩ : ByteArray)⟩ : S42) [.string (⟨#[67, 65, 67, 72, 69, 45, 67, 79, 78, 84, 82, 79, 76]⟩ : ByteArray), .string (⟨#[112, 114, 105, 118, 97, 116, 101]⟩ : ByteArray)] (fun k_ => some k_ ≠ (.slice Ao63 y332.length co63 : Value).ownBlock) (fun _ => False) rfl rfl ?aP (fun _ hk => hk.elim) ?aF ?aO ?aB ?aS ?aL ?_; (case aP => exact k42_mkM _ _ _ (⟨(⟨#[67, 65, 67, 72, 69, 45, 67, 79, 78, 84, 82, 79, 76]⟩ : ByteArray), (⟨#[112, 114, 105, 118, 97, 116, 101]⟩ : ByteArray)⟩ : S42)); (case aB => exact (by repeat (first | (with_reducible first | exact HB.out | apply below_alloc | apply pw_below_drewN | apply below_drew1 | refine below_set ?_ GE317.out | refine below_set ?_ GE318.out | refine below_set ?_ GE323.out | refine below_set ?_ GE324.out | refine below_set ?_ GE325.out) | exact HB.out))); (case aF => exact (fun k_ hk => Kd.fresh' (Kd.R_lt (by (with_reducible repeat (first | apply Kd.R_alloc | apply Kd.R_drewN | apply Kd.R_drew)); exact HO334.out)) k_ hk)); (case aO => exact (by (with_reducible repeat (first | apply Kd.R_alloc | apply Kd.R_drewN | apply Kd.R_drew)); exact HO340.out)); (case aS => exact (below_size (by repeat (first | (with_reducible first | exact HB.out | apply below_alloc | apply pw_below_drewN | apply below_drew1 | refine below_set ?_ GE317.out | refine below_set ?_ GE318.out | refine below_set ?_ GE323.out | refine below_set ?_ GE324.out | refine below_set ?_ GE325.out) | exact HB.out)))); (case aL => have := LMc27.out; omega); intro v342 w72 ho hb hg hat; rw [← Ny341.out] at ho; have n0_ := Aside0.mk (blk_grown (g := gb317) (o := .cells #[.string a1_0, .string a1_1, .string a1_2, .slice A1_3 l1_3.length c1_3] 24 (0, 0)) (by (with_reducible repeat (first | refine blk_drewN ?_ _ | refine blk_drew ?_ | refine blk_alloc ?_ _)); exact BK317.out) hg (Kd.R_ne HO340.out BK317.out (by decide))); have n1_ := Aside0.mk (blk_grown (g := gb318) (o := .cells #[.int .i64 a2_0, .slice A2_1 l2_1.length c2_1, .slice A2_2 l2_2.length c2_2] 27 (0, 0)) (by (with_reducible repeat (first | refine blk_drewN ?_ _ | refine blk_drew ?_ | refine blk_alloc ?_ _)); exact BK318.out) hg (Kd.R_ne HO340.out BK318.out (by decide))); have n2_ := Aside0.mk (blk_grown (g := gb323) (o := .cells #[.int .i64 a2_0, .slice Ao63 y332.length co63, .slice A2_2 l2_2.length c2_2] 27 (0, 0)) (by (with_reducible repeat (first | refine blk_drewN ?_ _ | refine blk_drew ?_ | refine blk_alloc ?_ _)); exact BK323.out) hg (Kd.R_ne HO340.out BK323.out (by decide))); have n3_ := Aside0.mk (blk_grown (g := gb324) (o := .cells #[.int .i64 a2_0, .slice A2_1 l2_1.length c2_1, .slice A2_2 l2_2.length c2_2] 27 (0, 0)) (by (with_reducible repeat (first | refine blk_drewN ?_ _ | refine blk_drew ?_ | refine blk_alloc ?_ _)); exact BK324.out) hg (Kd.R_ne HO340.out BK324.out (by decide))); have n4_ := Aside0.mk (blk_grown (g := gb325) (o := .cells #[.string a1_0, .string a1_1, .string a1_2, .slice A1_3 l1_3.length c1_3] 24 (0, 0)) (by (with_reducible repeat (first | refine blk_drewN ?_ _ | refine blk_drew ?_ | refine blk_alloc ?_ _)); exact BK325.out) hg (Kd.R_ne HO340.out BK325.out (by decide))); have n5_ := Aside0.mk (Kd.R_after (ok := (fun _ => True)) (by (with_reducible repeat (first | apply Kd.R_alloc | apply Kd.R_drewN | apply Kd.R_drew)); exact HO334.out) hg hat); have n6_ := Aside0.mk (hb); have n7_ := Aside0.mk (ho); clear BK317; clear BK318; clear BK323; clear BK324; clear BK325; clear HO334; clear HB; clear HO340; have BK317 := n0_; have BK318 := n1_; have BK323 := n2_; have BK324 := n3_; have BK325 := n4_; have HO334 := n5_; have HB := n6_; have HO343 := n7_; clear n0_ n1_ n2_ n3_ n4_ n5_ n6_ n7_; clear ho hb hg hat; obtain ⟨Ao73, co73, eo73⟩ := Kd.R_slice HO343.out; subst eo73; have hnb74 := NB324_317.out; have hnc74 := NB317_324.out; have hnb75 := NB324_325.out; have hnc75 := NB325_324.out; have hcz76_0 : w72.cell? ⟨gb324, 0, none⟩ = some (.int .i64 a2_0) := (blk_cell BK324.out 0).trans rfl; have hcz76_1 : w72.cell? ⟨gb324, 1, none⟩ = some (.slice A2_1 l2_1.length c2_1) := (blk_cell BK324.out 1).trans rfl; have hcz76_2 : w72.cell? ⟨gb324, 2, none⟩ = some (.slice A2_2 l2_2.length c2_2) := (blk_cell BK324.out 2).trans rfl; have hfz76_0 := blk_frozen BK324.out 0; have hfz76_1 := blk_frozen BK324.out 1; have hfz76_2 := blk_frozen BK324.out 2) | ((with_reducible refine gate_dst (N := 40) rfl ?_); refine Kd.R_lit k42 _ 42 ?hg (N := 40) ?hd (xs := ([] : List (S42))) (inner := []) (ok := fun _ => True) (okp := fun _ => True) ?hr ?hp (fun _ hk => hk) trivial (Below.refl _ _) (Nat.le_refl _) (by simp) ?_; (case hd => rfl); (case hg => rfl); (case hr => first | (go_simp; done) | (go_simp; rfl)); (case hp => exact (Reps.none _ _)); intro v345 w77 ho78 hb hg_ hnew_; clear hg_ hnew_; (first | rw [← Ny344.out] at ho78 | (simp only [Int.reduceToNat] at ho78; rw [← Ny344.out] at ho78)); have n0_ := Aside0.mk (Kd.R_elder' (by (with_reducible repeat (first | apply Kd.R_alloc | apply Kd.R_drewN | apply Kd.R_drew)); exact (Kd.R_mono (Kd.R_far (p := ⟨gb324, 1, none⟩) (Kd.R_types HO334.out BK324.out (by decide)) (fun _ hk => hk.2) (.slice Ao73 y341.length co73)) (fun _ h_ => h_.1))) (Kd.R_base ho78) hb); have n1_ := Aside0.mk (Kd.R_elder' (by (with_reducible repeat (first | apply Kd.R_alloc | apply Kd.R_drewN | apply Kd.R_drew)); exact (Kd.R_mono (Kd.R_far (p := ⟨gb324, 1, none⟩) (Kd.R_types HO343.out BK324.out (by decide)) (fun _ hk => hk.2) (.slice Ao73 y341.length co73)) (fun _ h_ => h_.1))) (Kd.R_base ho78) hb); have n2_ := Aside0.mk (Kd.R_lower (Kd.R_new' (Kd.R_new' ho78 (Kd.R_lt (by (with_reducible repeat (first | apply Kd.R_alloc | apply Kd.R_drewN | apply Kd.R_drew)); exact (Kd.R_mono (Kd.R_far (p := ⟨gb324, 1, none⟩) (Kd.R_types HO334.out BK324.out (by decide)) (fun _ hk => hk.2) (.slice Ao73 y341.length co73)) (fun _ h_ => h_.1))))) (Kd.R_lt (by (with_reducible repeat (first | apply Kd.R_alloc | apply Kd.R_drewN | apply Kd.R_drew)); exact (Kd.R_mono (Kd.R_far (p := ⟨gb324, 1, none⟩) (Kd.R_types HO343.out BK324.out (by decide)) (fun _ hk => hk.2) (.slice Ao73 y341.length co73)) (fun _ h_ => h_.1))))) (below_size (by repeat (first | (with_reducible first | exact HB.out | apply below_alloc | apply pw_below_drewN | apply below_drew1 | refine below_set ?_ GE317.out | refine below_set ?_ GE318.out | refine below_set ?_ GE323.out | refine below_set ?_ GE324.out | refine below_set ?_ GE325.out) | exact HB.out)))); have n3_ := Aside0.mk (blk_below (g := gb317) (o := .cells #[.string a1_0, .string a1_1, .string a1_2, .slice A1_3 l1_3.length c1_3] 24 (0, 0)) (by (with_reducible repeat (first | refine blk_drewN ?_ _ | refine blk_drew ?_ | refine blk_alloc ?_ _)); refine blk_far ?_ NB317_324.out _; (with_reducible repeat (first | refine blk_drewN ?_ _ | refine blk_drew ?_ | refine blk_alloc ?_ _)); exact BK317.out) hb); have n4_ := Aside0.mk (blk_below (g := gb318) (o := .cells #[.int .i64 a2_0, .slice A2_1 l2_1.length c2_1, .slice A2_2 l2_2.length c2_2] 27 (0, 0)) (by (with_reducible repeat (first | refine blk_drewN ?_ _ | refine blk_drew ?_ | refine blk_alloc ?_ _)); refine blk_far ?_ NB318_324.out _; (with_reducible repeat (first | refine blk_drewN ?_ _ | refine blk_drew ?_ | refine blk_alloc ?_ _)); exact BK318.out) hb); have n5_ := Aside0.mk (blk_below (g := gb323) (o := .cells #[.int .i64 a2_0, .slice Ao63 y332.length co63, .slice A2_2 l2_2.length c2_2] 27 (0, 0)) (by (with_reducible repeat (first | refine blk_drewN ?_ _ | refine blk_drew ?_ | refine blk_alloc ?_ _)); refine blk_far ?_ NB323_324.out _; (with_reducible repeat (first | refine blk_drewN ?_ _ | refine blk_drew ?_ | refine blk_alloc ?_ _)); exact BK323.out) hb); have n6_ := Aside0.mk (blk_below (g := gb324) (o := .cells #[.int .i64 a2_0, .slice Ao73 y341.length co73, .slice A2_2 l2_2.length c2_2] 27 (0, 0)) (by (with_reducible repeat (first | refine blk_drewN ?_ _ | refine blk_drew ?_ | refine blk_alloc ?_ _)); refine blk_put (cs := #[.int .i64 a2_0, .slice A2_1 l2_1.length c2_1, .slice A2_2 l2_2.length c2_2]) ?_ 1 _ rfl; (with_reducible repeat (first | refine blk_drewN ?_ _ | refine blk_drew ?_ | refine blk_alloc ?_ _)); exact BK324.out) hb); have n7_ := Aside0.mk (blk_below (g := gb325) (o := .cells #[.string a1_0, .string a1_1, .string a1_2, .slice A1_3 l1_3.length c1_3] 24 (0, 0)) (by (with_reducible repeat (first | refine blk_drewN ?_ _ | refine blk_drew ?_ | refine blk_alloc ?_ _)); refine blk_far ?_ NB325_324.out _; (with_reducible repeat (first | refine blk_drewN ?_ _ | refine blk_drew ?_ | refine blk_alloc ?_ _)); exact BK325.out) hb); have n8_ := Aside0.mk (below_step (by repeat (first | (with_reducible first | exact HB.out | apply below_alloc | apply pw_below_drewN | apply below_drew1 | refine below_set ?_ GE317.out | refine below_set ?_ GE318.out | refine below_set ?_ GE323.out | refine below_set ?_ GE324.out | refine below_set ?_ GE325.out) | exact HB.out)) hb); clear HO334; clear HO343; clear BK317; clear BK318; clear BK323; clear BK324; clear BK325; clear HB; have HO334 := n0_; have HO343 := n1_; have HO346 := n2_; have BK317 := n3_; have BK318 := n4_; have BK323 := n5_; have BK324 := n6_; have BK325 := n7_; have HB := n8_; clear n0_ n1_ n2_ n3_ n4_ n5_ n6_ n7_ n8_; clear hb ho78; have hnb79 := NB317_325.out; have hnc79 := NB325_317.out; have hcz80_0 : w77.cell? ⟨gb317, 0, none⟩ = some (.string a1_0) := (blk_cell BK317.out 0).trans rfl; have hcz80_1 : w77.cell? ⟨gb317, 1, none⟩ = some (.string a1_1) := (blk_cell BK317.out 1).trans rfl; have hcz80_2 : w77.cell? ⟨gb317, 2, none⟩ = some (.string a1_2) := (blk_cell BK317.out 2).trans rfl; have hcz80_3 : w77.cell? ⟨gb317, 3, none⟩ = some (.slice A1_3 l1_3.length c1_3) := (blk_cell BK317.out 3).trans rfl; have hfz80_0 := blk_frozen BK317.out 0; have hfz80_1 := blk_frozen BK317.out 1; have hfz80_2 := blk_frozen BK317.out 2; have hfz80_3 := blk_frozen BK317.out 3) | ((with_reducible refine gate_builtin (b := .append) (xs := #[.tmp 40, .tmp 42]) rfl ?_); at_builtin; refine Kd.R_append_rows k42 (w0 := w) w.heap.size rfl (.tmp 40) (.tmp 42) 22 42 (.agg #[(.string ⟨#[]⟩), (.string ⟨#[]⟩)]) 32 rfl Tryd.underlying22 info42 rfl (by decide) (by omega) v345 y344 l1_3 _ _ _ (fun k_ => some k_ ≠ (.slice Ao63 y332.length co63 : Value).ownBlock ∧ some k_ ≠ (.slice Ao73 y341.length co73 : Value).ownBlock) (fun _ => False) rfl rfl ?aO ?aR (fun _ _ h => h) (fun _ h => h.elim) ?aF ?aB ?aS ?aL ?_; (case aR => repeat (first | exact (Kd.C_below HR1_3.out HB.out) | (with_reducible refine Kd.C_alloc ?_ _) | (with_reducible refine Kd.C_drewN ?_ _) | (with_reducible refine Kd.C_drew ?_))); (case aB => exact (by repeat (first | (with_reducible first | exact HB.out | apply below_alloc | apply pw_below_drewN | apply below_drew1 | refine below_set ?_ GE317.out | refine below_set ?_ GE318.out | refine below_set ?_ GE323.out | refine below_set ?_ GE324.out | refine below_set ?_ GE325.out) | exact HB.out))); (case aF => exact (fun k_ hk => ⟨Kd.fresh' (Kd.R_lt (by (with_reducible repeat (first | apply Kd.R_alloc | apply Kd.R_drewN | apply Kd.R_drew)); exact HO334.out)) k_ hk, Kd.fresh' (Kd.R_lt (by (with_reducible repeat (first | apply Kd.R_alloc | apply Kd.R_drewN | apply Kd.R_drew)); exact HO343.out)) k_ hk⟩)); (case aO => exact (by (with_reducible repeat (first | apply Kd.R_alloc | apply Kd.R_drewN | apply Kd.R_drew)); exact Kd.R_mono HO346.out (fun _ hk => ⟨hk.1.2, hk.2⟩))); (case aS => exact (below_size (by repeat (first | (with_reducible first | exact HB.out | apply below_alloc | apply pw_below_drewN | apply below_drew1 | refine below_set ?_ GE317.out | refine below_set ?_ GE318.out | refine below_set ?_ GE323.out | refine below_set ?_ GE324.out | refine below_set ?_ GE325.out) | exact HB.out)))); (case aL => have := LMc28.out; omega); intro v348 w81 ho hb hg hat; rw [← Ny347.out] at ho; have n0_ := Aside0.mk (blk_grown (g := gb317) (o := .cells #[.string a1_0, .string a1_1, .string a1_2, .slice A1_3 l1_3.length c1_3] 24 (0, 0)) (by (with_reducible repeat (first | refine blk_drewN ?_ _ | refine blk_drew ?_ | refine blk_alloc ?_ _)); exact BK317.out) hg (Kd.R_ne HO346.out BK317.out (by decide))); have n1_ := Aside0.mk (blk_grown (g := gb318) (o := .cells #[.int .i64 a2_0, .slice A2_1 l2_1.length c2_1, .slice A2_2 l2_2.length c2_2] 27 (0, 0)) (by (with_reducible repeat (first | refine blk_drewN ?_ _ | refine blk_drew ?_ | refine blk_alloc ?_ _)); exact BK318.out) hg (Kd.R_ne HO346.out BK318.out (by decide))); have n2_ := Aside0.mk (blk_grown (g := gb323) (o := .cells #[.int .i64 a2_0, .slice Ao63 y332.length co63, .slice A2_2 l2_2.length c2_2] 27 (0, 0)) (by (with_reducible repeat (first | refine blk_drewN ?_ _ | refine blk_drew ?_ | refine blk_alloc ?_ _)); exact BK323.out) hg (Kd.R_ne HO346.out BK323.out (by decide))); have n3_ := Aside0.mk (blk_grown (g := gb324) (o := .cells #[.int .i64 a2_0, .slice Ao73 y341.length co73, .slice A2_2 l2_2.length c2_2] 27 (0, 0)) (by (with_reducible repeat (first | refine blk_drewN ?_ _ | refine blk_drew ?_ | refine blk_alloc ?_ _)); exact BK324.out) hg (Kd.R_ne HO346.out BK324.out (by decide))); have n4_ := Aside0.mk (blk_grown (g := gb325) (o := .cells #[.string a1_0, .string a1_1, .string a1_2, .slice A1_3 l1_3.length c1_3] 24 (0, 0)) (by (with_reducible repeat (first | refine blk_drewN ?_ _ | refine blk_drew ?_ | refine blk_alloc ?_ _)); exact BK325.out) hg (Kd.R_ne HO346.out BK325.out (by decide))); have n5_ := Aside0.mk (Kd.R_after (ok := (fun k_ => some k_ ≠ (.slice Ao73 y341.length co73 : Value).ownBlock)) (by (with_reducible repeat (first | apply Kd.R_alloc | apply Kd.R_drewN | apply Kd.R_drew)); exact Kd.R_mono HO334.out (fun _ hk => ⟨hk.1.2, hk.2⟩)) hg hat); have n6_ := Aside0.mk (Kd.R_after (ok := (fun k_ => some k_ ≠ (.slice Ao63 y332.length co63 : Value).ownBlock)) (by (with_reducible repeat (first | apply Kd.R_alloc | apply Kd.R_drewN | apply Kd.R_drew)); exact HO343.out) hg hat); have n7_ := Aside0.mk (hb); have n8_ := Aside0.mk (ho); clear BK317; clear BK318; clear BK323; clear BK324; clear BK325; clear HO334; clear HO343; clear HB; clear HO346; have BK317 := n0_; have BK318 := n1_; have BK323 := n2_; have BK324 := n3_; have BK325 := n4_; have HO334 := n5_; have HO343 := n6_; have HB := n7_; have HO349 := n8_; clear n0_ n1_ n2_ n3_ n4_ n5_ n6_ n7_ n8_; clear ho hb hg hat) | ((with_reducible refine gate_builtin (b := .append) (xs := #[.tmp 43, .tmp 45]) rfl ?_); at_builtin; refine Kd.R_append k42 (w0 := w) w.heap.size rfl (.tmp 43) (.tmp 45) 22 42 (.agg #[(.string ⟨#[]⟩), (.string ⟨#[]⟩)]) 32 rfl Tryd.underlying22 info42 rfl (by decide) (by omega) v348 y347 (⟨(⟨#[82, 97, 110, 103, 101]⟩ : ByteArray), (⟨#[98, 121, 116, 101, 115, 61, 48, 45, 49]⟩ : ByteArray)⟩ : S42) [.string (⟨#[82, 97, 110, 103, 101]⟩ : ByteArray), .string (⟨#[98, 121, 116, 101, 115, 61, 48, 45, 49]⟩ : ByteArray)] (fun k_ => some k_ ≠ (.slice Ao63 y332.length co63 : Value).ownBlock ∧ some k_ ≠ (.slice Ao73 y341.length co73 : Value).ownBlock) (fun _ => False) rfl rfl ?aP (fun _ hk => hk.elim) ?aF ?aO ?aB ?aS ?aL ?_; (case aP => exact k42_mkM _ _ _ (⟨(⟨#[82, 97, 110, 103, 101]⟩ : ByteArray), (⟨#[98, 121, 116, 101, 115, 61, 48, 45, 49]⟩ : ByteArray)⟩ : S42)); (case aB => exact (by repeat (first | (with_reducible first | exact HB.out | apply below_alloc | apply pw_below_drewN | apply below_drew1 | refine below_set ?_ GE317.out | refine below_set ?_ GE318.out | refine below_set ?_ GE323.out | refine below_set ?_ GE324.out | refine below_set ?_ GE325.out) | exact HB.out))); (case aF => exact (fun k_ hk => ⟨Kd.fresh' (Kd.R_lt (by (with_reducible repeat (first | apply Kd.R_alloc | apply Kd.R_drewN | apply Kd.R_drew)); exact HO334.out)) k_ hk, Kd.fresh' (Kd.R_lt (by (with_reducible repeat (first | apply Kd.R_alloc | apply Kd.R_drewN | apply Kd.R_drew)); exact HO343.out)) k_ hk⟩)); (case aO => exact (by (with_reducible repeat (first | apply Kd.R_alloc | apply Kd.R_drewN | apply Kd.R_drew)); exact HO349.out)); (case aS => exact (below_size (by repeat (first | (with_reducible first | exact HB.out | apply below_alloc | apply pw_below_drewN | apply below_drew1 | refine below_set ?_ GE317.out | refine below_set ?_ GE318.out | refine below_set ?_ GE323.out | refine below_set ?_ GE324.out | refine below_set ?_ GE325.out) | exact HB.out)))); (case aL => have := LMc29.out; omega); intro v351 w82 ho hb hg hat; rw [← Ny350.out] at ho; have n0_ := Aside0.mk (blk_grown (g := gb317) (o := .cells #[.string a1_0, .string a1_1, .string a1_2, .slice A1_3 l1_3.length c1_3] 24 (0, 0)) (by (with_reducible repeat (first | refine blk_drewN ?_ _ | refine blk_drew ?_ | refine blk_alloc ?_ _)); exact BK317.out) hg (Kd.R_ne HO349.out BK317.out (by decide))); have n1_ := Aside0.mk (blk_grown (g := gb318) (o := .cells #[.int .i64 a2_0, .slice A2_1 l2_1.length c2_1, .slice A2_2 l2_2.length c2_2] 27 (0, 0)) (by (with_reducible repeat (first | refine blk_drewN ?_ _ | refine blk_drew ?_ | refine blk_alloc ?_ _)); exact BK318.out) hg (Kd.R_ne HO349.out BK318.out (by decide))); have n2_ := Aside0.mk (blk_grown (g := gb323) (o := .cells #[.int .i64 a2_0, .slice Ao63 y332.length co63, .slice A2_2 l2_2.length c2_2] 27 (0, 0)) (by (with_reducible repeat (first | refine blk_drewN ?_ _ | refine blk_drew ?_ | refine blk_alloc ?_ _)); exact BK323.out) hg (Kd.R_ne HO349.out BK323.out (by decide))); have n3_ := Aside0.mk (blk_grown (g := gb324) (o := .cells #[.int .i64 a2_0, .slice Ao73 y341.length co73, .slice A2_2 l2_2.length c2_2] 27 (0, 0)) (by (with_reducible repeat (first | refine blk_drewN ?_ _ | refine blk_drew ?_ | refine blk_alloc ?_ _)); exact BK324.out) hg (Kd.R_ne HO349.out BK324.out (by decide))); have n4_ := Aside0.mk (blk_grown (g := gb325) (o := .cells #[.string a1_0, .string a1_1, .string a1_2, .slice A1_3 l1_3.length c1_3] 24 (0, 0)) (by (with_reducible repeat (first | refine blk_drewN ?_ _ | refine blk_drew ?_ | refine blk_alloc ?_ _)); exact BK325.out) hg (Kd.R_ne HO349.out BK325.out (by decide))); have n5_ := Aside0.mk (Kd.R_after (ok := (fun k_ => some k_ ≠ (.slice Ao73 y341.length co73 : Value).ownBlock)) (by (with_reducible repeat (first | apply Kd.R_alloc | apply Kd.R_drewN | apply Kd.R_drew)); exact HO334.out) hg hat); have n6_ := Aside0.mk (Kd.R_after (ok := (fun k_ => some k_ ≠ (.slice Ao63 y332.length co63 : Value).ownBlock)) (by (with_reducible repeat (first | apply Kd.R_alloc | apply Kd.R_drewN | apply Kd.R_drew)); exact HO343.out) hg hat); have n7_ := Aside0.mk (hb); have n8_ := Aside0.mk (ho); clear BK317; clear BK318; clear BK323; clear BK324; clear BK325; clear HO334; clear HO343; clear HB; clear HO349; have BK317 := n0_; have BK318 := n1_; have BK323 := n2_; have BK324 := n3_; have BK325 := n4_; have HO334 := n5_; have HO343 := n6_; have HB := n7_; have HO352 := n8_; clear n0_ n1_ n2_ n3_ n4_ n5_ n6_ n7_ n8_; clear ho hb hg hat; obtain ⟨Ao83, co83, eo83⟩ := Kd.R_slice HO352.out; subst eo83; have hcz84_0 : w82.cell? ⟨gb325, 0, none⟩ = some (.string a1_0) := (blk_cell BK325.out 0).trans rfl; have hcz84_1 : w82.cell? ⟨gb325, 1, none⟩ = some (.string a1_1) := (blk_cell BK325.out 1).trans rfl; have hcz84_2 : w82.cell? ⟨gb325, 2, none⟩ = some (.string a1_2) := (blk_cell BK325.out 2).trans rfl; have hcz84_3 : w82.cell? ⟨gb325, 3, none⟩ = some (.slice A1_3 l1_3.length c1_3) := (blk_cell BK325.out 3).trans rfl; have hfz84_0 := blk_frozen BK325.out 0; have hfz84_1 := blk_frozen BK325.out 1; have hfz84_2 := blk_frozen BK325.out 2; have hfz84_3 := blk_frozen BK325.out 3) | ((with_reducible refine gate_callee (f := 6) rfl ?_); refine goesL_ (some 48) rfl rfl Tryd.func6 (by kernel_rfl) rfl #[] rfl (by (try simp only [List.map_toArray, List.map_cons, List.map_nil]); first | done | rfl | (simp only [List.length_drop, List.length_take]; rfl)) ?_; (with_reducible refine (sprlaw20_first.calls kj5  true _ A30.out).mono ?_); rintro e w85 ⟨rfl, hb⟩; refine ⟨_, rfl, ?_⟩; have n0_ := Aside0.mk (Kd.R_below (by (with_reducible repeat (first | apply Kd.R_alloc | apply Kd.R_drewN | apply Kd.R_drew)); exact (Kd.R_mono (Kd.R_far (p := ⟨gb325, 3, none⟩) (Kd.R_types HO334.out BK325.out (by decide)) (fun _ hk => hk.2) (.slice Ao83 y350.length co83)) (fun _ h_ => h_.1))) hb); have n1_ := Aside0.mk (Kd.R_below (by (with_reducible repeat (first | apply Kd.R_alloc | apply Kd.R_drewN | apply Kd.R_drew)); exact (Kd.R_mono (Kd.R_far (p := ⟨gb325, 3, none⟩) (Kd.R_types HO343.out BK325.out (by decide)) (fun _ hk => hk.2) (.slice Ao83 y350.length co83)) (fun _ h_ => h_.1))) hb); have n2_ := Aside0.mk (Kd.R_below (by (with_reducible repeat (first | apply Kd.R_alloc | apply Kd.R_drewN | apply Kd.R_drew)); exact (Kd.R_mono (Kd.R_far (p := ⟨gb325, 3, none⟩) (Kd.R_types HO352.out BK325.out (by decide)) (fun _ hk => hk.2) (.slice Ao83 y350.length co83)) (fun _ h_ => h_.1))) hb); have n3_ := Aside0.mk (blk_below (g := gb317) (o := .cells #[.string a1_0, .string a1_1, .string a1_2, .slice A1_3 l1_3.length c1_3] 24 (0, 0)) (by (with_reducible repeat (first | refine blk_drewN ?_ _ | refine blk_drew ?_ | refine blk_alloc ?_ _)); refine blk_far ?_ NB317_325.out _; (with_reducible repeat (first | refine blk_drewN ?_ _ | refine blk_drew ?_ | refine blk_alloc ?_ _)); exact BK317.out) hb); have n4_ := Aside0.mk (blk_below (g := gb318) (o := .cells #[.int .i64 a2_0, .slice A2_1 l2_1.length c2_1, .slice A2_2 l2_2.length c2_2] 27 (0, 0)) (by (with_reducible repeat (first | refine blk_drewN ?_ _ | refine blk_drew ?_ | refine blk_alloc ?_ _)); refine blk_far ?_ NB318_325.out _; (with_reducible repeat (first | refine blk_drewN ?_ _ | refine blk_drew ?_ | refine blk_alloc ?_ _)); exact BK318.out) hb); have n5_ := Aside0.mk (blk_below (g := gb323) (o := .cells #[.int .i64 a2_0, .slice Ao63 y332.length co63, .slice A2_2 l2_2.length c2_2] 27 (0, 0)) (by (with_reducible repeat (first | refine blk_drewN ?_ _ | refine blk_drew ?_ | refine blk_alloc ?_ _)); refine blk_far ?_ NB323_325.out _; (with_reducible repeat (first | refine blk_drewN ?_ _ | refine blk_drew ?_ | refine blk_alloc ?_ _)); exact BK323.out) hb); have n6_ := Aside0.mk (blk_below (g := gb324) (o := .cells #[.int .i64 a2_0, .slice Ao73 y341.length co73, .slice A2_2 l2_2.length c2_2] 27 (0, 0)) (by (with_reducible repeat (first | refine blk_drewN ?_ _ | refine blk_drew ?_ | refine blk_alloc ?_ _)); refine blk_far ?_ NB324_325.out _; (with_reducible repeat (first | refine blk_drewN ?_ _ | refine blk_drew ?_ | refine blk_alloc ?_ _)); exact BK324.out) hb); have n7_ := Aside0.mk (blk_below (g := gb325) (o := .cells #[.string a1_0, .string a1_1, .string a1_2, .slice Ao83 y350.length co83] 24 (0, 0)) (by (with_reducible repeat (first | refine blk_drewN ?_ _ | refine blk_drew ?_ | refine blk_alloc ?_ _)); refine blk_put (cs := #[.string a1_0, .string a1_1, .string a1_2, .slice A1_3 l1_3.length c1_3]) ?_ 3 _ rfl; (with_reducible repeat (first | refine blk_drewN ?_ _ | refine blk_drew ?_ | refine blk_alloc ?_ _)); exact BK325.out) hb); have n8_ := Aside0.mk (below_step (by repeat (first | (with_reducible first | exact HB.out | apply below_alloc | apply pw_below_drewN | apply below_drew1 | refine below_set ?_ GE317.out | refine below_set ?_ GE318.out | refine below_set ?_ GE323.out | refine below_set ?_ GE324.out | refine below_set ?_ GE325.out) | exact HB.out)) hb); clear HO334; clear HO343; clear HO352; clear BK317; clear BK318; clear BK323; clear BK324; clear BK325; clear HB; have HO334 := n0_; have HO343 := n1_; have HO352 := n2_; have BK317 := n3_; have BK318 := n4_; have BK323 := n5_; have BK324 := n6_; have BK325 := n7_; have HB := n8_; clear n0_ n1_ n2_ n3_ n4_ n5_ n6_ n7_ n8_; (try clear hb); (try clear hb2); (try clear hk); (try clear hi); have hcz86_0 : w85.cell? ⟨gb317, 0, none⟩ = some (.string a1_0) := (blk_cell BK317.out 0).trans rfl; have hcz86_1 : w85.cell? ⟨gb317, 1, none⟩ = some (.string a1_1) := (blk_cell BK317.out 1).trans rfl; have hcz86_2 : w85.cell? ⟨gb317, 2, none⟩ = some (.string a1_2) := (blk_cell BK317.out 2).trans rfl; have hcz86_3 : w85.cell? ⟨gb317, 3, none⟩ = some (.slice A1_3 l1_3.length c1_3) := (blk_cell BK317.out 3).trans rfl; have hfz86_0 := blk_frozen BK317.out 0; have hfz86_1 := blk_frozen BK317.out 1; have hfz86_2 := blk_frozen BK317.out 2; have hfz86_3 := blk_frozen BK317.out 3; have hcz87_0 : w85.cell? ⟨gb323, 0, none⟩ = some (.int .i64 a2_0) := (blk_cell BK323.out 0).trans rfl; have hcz87_1 : w85.cell? ⟨gb323, 1, none⟩ = some (.slice Ao63 y332.length co63) := (blk_cell BK323.out 1).trans rfl; have hcz87_2 : w85.cell? ⟨gb323, 2, none⟩ = some (.slice A2_2 l2_2.length c2_2) := (blk_cell BK323.out 2).trans rfl; have hfz87_0 := blk_frozen BK323.out 0; have hfz87_1 := blk_frozen BK323.out 1; have hfz87_2 := blk_frozen BK323.out 2) | (go_at_call 9; (with_reducible refine (may_Store.calls kj5 a0 a1_0 a1_1 a1_2 _ _ l1_3 a2_0 _ _ y332 _ _ l2_2 t354 _ ?side1 ?side2 ?side3 ?side4 ?side5 ?side6 A32.out).mono ?_); (case side1 => repeat (first | exact (Kd.C_below HR1_3.out HB.out) | (with_reducible refine Kd.C_alloc ?_ _) | (with_reducible refine Kd.C_drewN ?_ _) | (with_reducible refine Kd.C_drew ?_))); (case side2 => exact HC1_3.out); (case side3 => repeat (first | exact (Kd.R_reads' HO334.out).2.2 | (with_reducible refine Kd.C_alloc ?_ _) | (with_reducible refine Kd.C_drewN ?_ _) | (with_reducible refine Kd.C_drew ?_))); (case side4 => exact (Kd.R_reads' HO334.out).2.1); (case side5 => repeat (first | exact (Kd.C_below HR2_2.out HB.out) | (with_reducible refine Kd.C_alloc ?_ _) | (with_reducible refine Kd.C_drewN ?_ _) | (with_reducible refine Kd.C_drew ?_))); (case side6 => exact HC2_2.out); rintro e w88 ⟨rfl, hb⟩; have n0_ := Aside0.mk (Kd.R_below (by (with_reducible repeat (first | apply Kd.R_alloc | apply Kd.R_drewN | apply Kd.R_drew)); exact HO334.out) hb); have n1_ := Aside0.mk (Kd.R_below (by (with_reducible repeat (first | apply Kd.R_alloc | apply Kd.R_drewN | apply Kd.R_drew)); exact HO343.out) hb); have n2_ := Aside0.mk (Kd.R_below (by (with_reducible repeat (first | apply Kd.R_alloc | apply Kd.R_drewN | apply Kd.R_drew)); exact HO352.out) hb); have n3_ := Aside0.mk (blk_below (g := gb317) (o := .cells #[.string a1_0, .string a1_1, .string a1_2, .slice A1_3 l1_3.length c1_3] 24 (0, 0)) (by (with_reducible repeat (first | refine blk_drewN ?_ _ | refine blk_drew ?_ | refine blk_alloc ?_ _)); exact BK317.out) hb); have n4_ := Aside0.mk (blk_below (g := gb318) (o := .cells #[.int .i64 a2_0, .slice A2_1 l2_1.length c2_1, .slice A2_2 l2_2.length c2_2] 27 (0, 0)) (by (with_reducible repeat (first | refine blk_drewN ?_ _ | refine blk_drew ?_ | refine blk_alloc ?_ _)); exact BK318.out) hb); have n5_ := Aside0.mk (blk_below (g := gb323) (o := .cells #[.int .i64 a2_0, .slice Ao63 y332.length co63, .slice A2_2 l2_2.length c2_2] 27 (0, 0)) (by (with_reducible repeat (first | refine blk_drewN ?_ _ | refine blk_drew ?_ | refine blk_alloc ?_ _)); exact BK323.out) hb); have n6_ := Aside0.mk (blk_below (g := gb324) (o := .cells #[.int .i64 a2_0, .slice Ao73 y341.length co73, .slice A2_2 l2_2.length c2_2] 27 (0, 0)) (by (with_reducible repeat (first | refine blk_drewN ?_ _ | refine blk_drew ?_ | refine blk_alloc ?_ _)); exact BK324.out) hb); have n7_ := Aside0.mk (blk_below (g := gb325) (o := .cells #[.string a1_0, .string a1_1, .string a1_2, .slice Ao83 y350.length co83] 24 (0, 0)) (by (with_reducible repeat (first | refine blk_drewN ?_ _ | refine blk_drew ?_ | refine blk_alloc ?_ _)); exact BK325.out) hb); have n8_ := Aside0.mk (below_step (by repeat (first | (with_reducible first | exact HB.out | apply below_alloc | apply pw_below_drewN | apply below_drew1 | refine below_set ?_ GE317.out | refine below_set ?_ GE318.out | refine below_set ?_ GE323.out | refine below_set ?_ GE324.out | refine below_set ?_ GE325.out) | exact HB.out)) hb); clear HO334; clear HO343; clear HO352; clear BK317; clear BK318; clear BK323; clear BK324; clear BK325; clear HB; have HO334 := n0_; have HO343 := n1_; have HO352 := n2_; have BK317 := n3_; have BK318 := n4_; have BK323 := n5_; have BK324 := n6_; have BK325 := n7_; have HB := n8_; clear n0_ n1_ n2_ n3_ n4_ n5_ n6_ n7_ n8_; (try clear hb); (try clear hb2); (try clear hk); (try clear hi); have hcz89_0 : w88.cell? ⟨gb317, 0, none⟩ = some (.string a1_0) := (blk_cell BK317.out 0).trans rfl; have hcz89_1 : w88.cell? ⟨gb317, 1, none⟩ = some (.string a1_1) := (blk_cell BK317.out 1).trans rfl; have hcz89_2 : w88.cell? ⟨gb317, 2, none⟩ = some (.string a1_2) := (blk_cell BK317.out 2).trans rfl; have hcz89_3 : w88.cell? ⟨gb317, 3, none⟩ = some (.slice A1_3 l1_3.length c1_3) := (blk_cell BK317.out 3).trans rfl; have hfz89_0 := blk_frozen BK317.out 0; have hfz89_1 := blk_frozen BK317.out 1; have hfz89_2 := blk_frozen BK317.out 2; have hfz89_3 := blk_frozen BK317.out 3; have hcz90_0 : w88.cell? ⟨gb324, 0, none⟩ = some (.int .i64 a2_0) := (blk_cell BK324.out 0).trans rfl; have hcz90_1 : w88.cell? ⟨gb324, 1, none⟩ = some (.slice Ao73 y341.length co73) := (blk_cell BK324.out 1).trans rfl; have hcz90_2 : w88.cell? ⟨gb324, 2, none⟩ = some (.slice A2_2 l2_2.length c2_2) := (blk_cell BK324.out 2).trans rfl; have hfz90_0 := blk_frozen BK324.out 0; have hfz90_1 := blk_frozen BK324.out 1; have hfz90_2 := blk_frozen BK324.out 2) | (go_at_call 9; (with_reducible refine (may_Store.calls kj5 true a1_0 a1_1 a1_2 _ _ l1_3 a2_0 _ _ y341 _ _ l2_2 t355 _ ?side1 ?side2 ?side3 ?side4 ?side5 ?side6 A34.out).mono ?_); (case side1 => repeat (first | exact (Kd.C_below HR1_3.out HB.out) | (with_reducible refine Kd.C_alloc ?_ _) | (with_reducible refine Kd.C_drewN ?_ _) | (with_reducible refine Kd.C_drew ?_))); (case side2 => exact HC1_3.out); (case side3 => repeat (first | exact (Kd.R_reads' HO343.out).2.2 | (with_reducible refine Kd.C_alloc ?_ _) | (with_reducible refine Kd.C_drewN ?_ _) | (with_reducible refine Kd.C_drew ?_))); (case side4 => exact (Kd.R_reads' HO343.out).2.1); (case side5 => repeat (first | exact (Kd.C_below HR2_2.out HB.out) | (with_reducible refine Kd.C_alloc ?_ _) | (with_reducible refine Kd.C_drewN ?_ _) | (with_reducible refine Kd.C_drew ?_))); (case side6 => exact HC2_2.out); rintro e w91 ⟨rfl, hb⟩; have n0_ := Aside0.mk (Kd.R_below (by (with_reducible repeat (first | apply Kd.R_alloc | apply Kd.R_drewN | apply Kd.R_drew)); exact HO334.out) hb); have n1_ := Aside0.mk (Kd.R_below (by (with_reducible repeat (first | apply Kd.R_alloc | apply Kd.R_drewN | apply Kd.R_drew)); exact HO343.out) hb); have n2_ := Aside0.mk (Kd.R_below (by (with_reducible repeat (first | apply Kd.R_alloc | apply Kd.R_drewN | apply Kd.R_drew)); exact HO352.out) hb); have n3_ := Aside0.mk (blk_below (g := gb317) (o := .cells #[.string a1_0, .string a1_1, .string a1_2, .slice A1_3 l1_3.length c1_3] 24 (0, 0)) (by (with_reducible repeat (first | refine blk_drewN ?_ _ | refine blk_drew ?_ | refine blk_alloc ?_ _)); exact BK317.out) hb); have n4_ := Aside0.mk (blk_below (g := gb318) (o := .cells #[.int .i64 a2_0, .slice A2_1 l2_1.length c2_1, .slice A2_2 l2_2.length c2_2] 27 (0, 0)) (by (with_reducible repeat (first | refine blk_drewN ?_ _ | refine blk_drew ?_ | refine blk_alloc ?_ _)); exact BK318.out) hb); have n5_ := Aside0.mk (blk_below (g := gb323) (o := .cells #[.int .i64 a2_0, .slice Ao63 y332.length co63, .slice A2_2 l2_2.length c2_2] 27 (0, 0)) (by (with_reducible repeat (first | refine blk_drewN ?_ _ | refine blk_drew ?_ | refine blk_alloc ?_ _)); exact BK323.out) hb); have n6_ := Aside0.mk (blk_below (g := gb324) (o := .cells #[.int .i64 a2_0, .slice Ao73 y341.length co73, .slice A2_2 l2_2.length c2_2] 27 (0, 0)) (by (with_reducible repeat (first | refine blk_drewN ?_ _ | refine blk_drew ?_ | refine blk_alloc ?_ _)); exact BK324.out) hb); have n7_ := Aside0.mk (blk_below (g := gb325) (o := .cells #[.string a1_0, .string a1_1, .string a1_2, .slice Ao83 y350.length co83] 24 (0, 0)) (by (with_reducible repeat (first | refine blk_drewN ?_ _ | refine blk_drew ?_ | refine blk_alloc ?_ _)); exact BK325.out) hb); have n8_ := Aside0.mk (below_step (by repeat (first | (with_reducible first | exact HB.out | apply below_alloc | apply pw_below_drewN | apply below_drew1 | refine below_set ?_ GE317.out | refine below_set ?_ GE318.out | refine below_set ?_ GE323.out | refine below_set ?_ GE324.out | refine below_set ?_ GE325.out) | exact HB.out)) hb); clear HO334; clear HO343; clear HO352; clear BK317; clear BK318; clear BK323; clear BK324; clear BK325; clear HB; have HO334 := n0_; have HO343 := n1_; have HO352 := n2_; have BK317 := n3_; have BK318 := n4_; have BK323 := n5_; have BK324 := n6_; have BK325 := n7_; have HB := n8_; clear n0_ n1_ n2_ n3_ n4_ n5_ n6_ n7_ n8_; (try clear hb); (try clear hb2); (try clear hk); (try clear hi); have hcz92_0 : w91.cell? ⟨gb325, 0, none⟩ = some (.string a1_0) := (blk_cell BK325.out 0).trans rfl; have hcz92_1 : w91.cell? ⟨gb325, 1, none⟩ = some (.string a1_1) := (blk_cell BK325.out 1).trans rfl; have hcz92_2 : w91.cell? ⟨gb325, 2, none⟩ = some (.string a1_2) := (blk_cell BK325.out 2).trans rfl; have hcz92_3 : w91.cell? ⟨gb325, 3, none⟩ = some (.slice Ao83 y350.length co83) := (blk_cell BK325.out 3).trans rfl; have hfz92_0 := blk_frozen BK325.out 0; have hfz92_1 := blk_frozen BK325.out 1; have hfz92_2 := blk_frozen BK325.out 2; have hfz92_3 := blk_frozen BK325.out 3; have hcz93_0 : w91.cell? ⟨gb318, 0, none⟩ = some (.int .i64 a2_0) := (blk_cell BK318.out 0).trans rfl; have hcz93_1 : w91.cell? ⟨gb318, 1, none⟩ = some (.slice A2_1 l2_1.length c2_1) := (blk_cell BK318.out 1).trans rfl; have hcz93_2 : w91.cell? ⟨gb318, 2, none⟩ = some (.slice A2_2 l2_2.length c2_2) := (blk_cell BK318.out 2).trans rfl; have hfz93_0 := blk_frozen BK318.out 0; have hfz93_1 := blk_frozen BK318.out 1; have hfz93_2 := blk_frozen BK318.out 2) | (go_at_call 9; (with_reducible refine (may_Store.calls kj5 a0 a1_0 a1_1 a1_2 _ _ y350 a2_0 _ _ l2_1 _ _ l2_2 t356 _ ?side1 ?side2 ?side3 ?side4 ?side5 ?side6 A36.out).mono ?_); (case side1 => repeat (first | exact (Kd.R_reads' HO352.out).2.2 | (with_reducible refine Kd.C_alloc ?_ _) | (with_reducible refine Kd.C_drewN ?_ _) | (with_reducible refine Kd.C_drew ?_))); (case side2 => exact (Kd.R_reads' HO352.out).2.1); (case side3 => repeat (first | exact (Kd.C_below HR2_1.out HB.out) | (with_reducible refine Kd.C_alloc ?_ _) | (with_reducible refine Kd.C_drewN ?_ _) | (with_reducible refine Kd.C_drew ?_))); (case side4 => exact HC2_1.out); (case side5 => repeat (first | exact (Kd.C_below HR2_2.out HB.out) | (with_reducible refine Kd.C_alloc ?_ _) | (with_reducible refine Kd.C_drewN ?_ _) | (with_reducible refine Kd.C_drew ?_))); (case side6 => exact HC2_2.out); rintro e w94 ⟨rfl, hb⟩; have n0_ := Aside0.mk (Kd.R_below (by (with_reducible repeat (first | apply Kd.R_alloc | apply Kd.R_drewN | apply Kd.R_drew)); exact HO334.out) hb); have n1_ := Aside0.mk (Kd.R_below (by (with_reducible repeat (first | apply Kd.R_alloc | apply Kd.R_drewN | apply Kd.R_drew)); exact HO343.out) hb); have n2_ := Aside0.mk (Kd.R_below (by (with_reducible repeat (first | apply Kd.R_alloc | apply Kd.R_drewN | apply Kd.R_drew)); exact HO352.out) hb); have n3_ := Aside0.mk (blk_below (g := gb317) (o := .cells #[.string a1_0, .string a1_1, .string a1_2, .slice A1_3 l1_3.length c1_3] 24 (0, 0)) (by (with_reducible repeat (first | refine blk_drewN ?_ _ | refine blk_drew ?_ | refine blk_alloc ?_ _)); exact BK317.out) hb); have n4_ := Aside0.mk (blk_below (g := gb318) (o := .cells #[.int .i64 a2_0, .slice A2_1 l2_1.length c2_1, .slice A2_2 l2_2.length c2_2] 27 (0, 0)) (by (with_reducible repeat (first | refine blk_drewN ?_ _ | refine blk_drew ?_ | refine blk_alloc ?_ _)); exact BK318.out) hb); have n5_ := Aside0.mk (blk_below (g := gb323) (o := .cells #[.int .i64 a2_0, .slice Ao63 y332.length co63, .slice A2_2 l2_2.length c2_2] 27 (0, 0)) (by (with_reducible repeat (first | refine blk_drewN ?_ _ | refine blk_drew ?_ | refine blk_alloc ?_ _)); exact BK323.out) hb); have n6_ := Aside0.mk (blk_below (g := gb324) (o := .cells #[.int .i64 a2_0, .slice Ao73 y341.length co73, .slice A2_2 l2_2.length c2_2] 27 (0, 0)) (by (with_reducible repeat (first | refine blk_drewN ?_ _ | refine blk_drew ?_ | refine blk_alloc ?_ _)); exact BK324.out) hb); have n7_ := Aside0.mk (blk_below (g := gb325) (o := .cells #[.string a1_0, .string a1_1, .string a1_2, .slice Ao83 y350.length co83] 24 (0, 0)) (by (with_reducible repeat (first | refine blk_drewN ?_ _ | refine blk_drew ?_ | refine blk_alloc ?_ _)); exact BK325.out) hb); have n8_ := Aside0.mk (below_step (by repeat (first | (with_reducible first | exact HB.out | apply below_alloc | apply pw_below_drewN | apply below_drew1 | refine below_set ?_ GE317.out | refine below_set ?_ GE318.out | refine below_set ?_ GE323.out | refine below_set ?_ GE324.out | refine below_set ?_ GE325.out) | exact HB.out)) hb); clear HO334; clear HO343; clear HO352; clear BK317; clear BK318; clear BK323; clear BK324; clear BK325; clear HB; have HO334 := n0_; have HO343 := n1_; have HO352 := n2_; have BK317 := n3_; have BK318 := n4_; have BK323 := n5_; have BK324 := n6_; have BK325 := n7_; have HB := n8_; clear n0_ n1_ n2_ n3_ n4_ n5_ n6_ n7_ n8_; (try clear hb); (try clear hb2); (try clear hk); (try clear hi); have hcz95_0 : w94.cell? ⟨gb325, 0, none⟩ = some (.string a1_0) := (blk_cell BK325.out 0).trans rfl; have hcz95_1 : w94.cell? ⟨gb325, 1, none⟩ = some (.string a1_1) := (blk_cell BK325.out 1).trans rfl; have hcz95_2 : w94.cell? ⟨gb325, 2, none⟩ = some (.string a1_2) := (blk_cell BK325.out 2).trans rfl; have hcz95_3 : w94.cell? ⟨gb325, 3, none⟩ = some (.slice Ao83 y350.length co83) := (blk_cell BK325.out 3).trans rfl; have hfz95_0 := blk_frozen BK325.out 0; have hfz95_1 := blk_frozen BK325.out 1; have hfz95_2 := blk_frozen BK325.out 2; have hfz95_3 := blk_frozen BK325.out 3) | (go_at_call 13; (with_reducible refine (may_Plain.calls kj5 a1_0 a1_1 a1_2 _ _ y350 t357 _ ?side1 ?side2 A38.out).mono ?_); (case side1 => repeat (first | exact (Kd.R_reads' HO352.out).2.2 | (with_reducible refine Kd.C_alloc ?_ _) | (with_reducible refine Kd.C_drewN ?_ _) | (with_reducible refine Kd.C_drew ?_))); (case side2 => exact (Kd.R_reads' HO352.out).2.1); rintro e w96 ⟨rfl, hb⟩; have n0_ := Aside0.mk (Kd.R_below (by (with_reducible repeat (first | apply Kd.R_alloc | apply Kd.R_drewN | apply Kd.R_drew)); exact HO334.out) hb); have n1_ := Aside0.mk (Kd.R_below (by (with_reducible repeat (first | apply Kd.R_alloc | apply Kd.R_drewN | apply Kd.R_drew)); exact HO343.out) hb); have n2_ := Aside0.mk (Kd.R_below (by (with_reducible repeat (first | apply Kd.R_alloc | apply Kd.R_drewN | apply Kd.R_drew)); exact HO352.out) hb); have n3_ := Aside0.mk (blk_below (g := gb317) (o := .cells #[.string a1_0, .string a1_1, .string a1_2, .slice A1_3 l1_3.length c1_3] 24 (0, 0)) (by (with_reducible repeat (first | refine blk_drewN ?_ _ | refine blk_drew ?_ | refine blk_alloc ?_ _)); exact BK317.out) hb); have n4_ := Aside0.mk (blk_below (g := gb318) (o := .cells #[.int .i64 a2_0, .slice A2_1 l2_1.length c2_1, .slice A2_2 l2_2.length c2_2] 27 (0, 0)) (by (with_reducible repeat (first | refine blk_drewN ?_ _ | refine blk_drew ?_ | refine blk_alloc ?_ _)); exact BK318.out) hb); have n5_ := Aside0.mk (blk_below (g := gb323) (o := .cells #[.int .i64 a2_0, .slice Ao63 y332.length co63, .slice A2_2 l2_2.length c2_2] 27 (0, 0)) (by (with_reducible repeat (first | refine blk_drewN ?_ _ | refine blk_drew ?_ | refine blk_alloc ?_ _)); exact BK323.out) hb); have n6_ := Aside0.mk (blk_below (g := gb324) (o := .cells #[.int .i64 a2_0, .slice Ao73 y341.length co73, .slice A2_2 l2_2.length c2_2] 27 (0, 0)) (by (with_reducible repeat (first | refine blk_drewN ?_ _ | refine blk_drew ?_ | refine blk_alloc ?_ _)); exact BK324.out) hb); have n7_ := Aside0.mk (blk_below (g := gb325) (o := .cells #[.string a1_0, .string a1_1, .string a1_2, .slice Ao83 y350.length co83] 24 (0, 0)) (by (with_reducible repeat (first | refine blk_drewN ?_ _ | refine blk_drew ?_ | refine blk_alloc ?_ _)); exact BK325.out) hb); have n8_ := Aside0.mk (below_step (by repeat (first | (with_reducible first | exact HB.out | apply below_alloc | apply pw_below_drewN | apply below_drew1 | refine below_set ?_ GE317.out | refine below_set ?_ GE318.out | refine below_set ?_ GE323.out | refine below_set ?_ GE324.out | refine below_set ?_ GE325.out) | exact HB.out)) hb); clear HO334; clear HO343; clear HO352; clear BK317; clear BK318; clear BK323; clear BK324; clear BK325; clear HB; have HO334 := n0_; have HO343 := n1_; have HO352 := n2_; have BK317 := n3_; have BK318 := n4_; have BK323 := n5_; have BK324 := n6_; have BK325 := n7_; have HB := n8_; clear n0_ n1_ n2_ n3_ n4_ n5_ n6_ n7_ n8_; (try clear hb); (try clear hb2); (try clear hk); (try clear hi)))
                              go_ret
                              exact ⟨by first | rfl | (simp [errW_none, errW_some] <;> rfl) | (simp [*, errW_none, errW_some] <;> rfl), by repeat (first | (with_reducible first | exact HB.out | apply below_alloc | apply pw_below_drewN | apply below_drew1 | refine below_set ?_ GE317.out | refine below_set ?_ GE318.out | refine below_set ?_ GE323.out | refine below_set ?_ GE324.out | refine below_set ?_ GE325.out) | exact HB.out)⟩
                            · rw [if_neg c37] at H
                              have c37b0 : (t356 == 1) = false := beq_eq_false_iff_ne.mpr c37
                              have c37b1 : (t356 != 1) = true := bne_iff_ne.mpr c37
                              exact absurd ((Option.some.inj H).trans hT.out) (by decide)
                      · replace c31 := Bool.eq_false_iff.mpr c31
                        subst c31
                        have H1 : (some false) = some r := by rw [if_neg (show ¬ (false = true) by decide)] at H; exact H
                        clear H
                        have H := H1
                        clear H1
                        exact absurd ((Option.some.inj H).trans hT.out) (by decide)
                    · rw [if_neg c29] at H
                      exact absurd H (by simp)
                  · rw [if_neg c28] at H
                    exact absurd H (by simp)
                · rw [if_neg c27] at H
                  exact absurd H (by simp)
              · rw [if_neg c26] at H
                exact absurd H (by simp)
            · rw [if_neg c25] at H
              exact absurd H (by simp)
          · rw [if_neg c24] at H
            exact absurd H (by simp)
  · replace c5 := Bool.eq_false_iff.mpr c5
    subst c5
    have H1 : (some false) = some r := by rw [if_neg (show ¬ (false = true) by decide)] at H; exact H
    clear H
    have H := H1
    clear H1
    exact absurd ((Option.some.inj H).trans hT.out) (by decide)

end Go.Proofs.YtbnlglfddglceaaDoor.Q
