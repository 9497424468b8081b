-- Written by a program of this session's (wip/xprint.py), out of the seat's translation.
import Derived.Test.YtfjeagglminhoaaGreatDoorQ0
import Derived.Test.YtfjeagglminhoaaGreatDoorQ10
import Derived.Test.YtfjeagglminhoaaGreatDoorQ11
import Derived.Test.YtfjeagglminhoaaGreatDoorSh
namespace Go.Proofs.YtfjeagglminhoaaGreatDoor.Q
open Go.RowKit Go.Proofs.YtfjeagglminhoaaGreatDoorW.PrintWords Go.Proofs.YtfjeagglminhoaaGreatDoorW.PrintLast Go.Proofs.YtfjeagglminhoaaGreatDoorW.PrintMore
open Go.Proofs.YtfjeagglminhoaaGreatDoor.Own (Y Z sA sB sC)
open Go.Proofs.YtfjeagglminhoaaGreatDoor.Sh
attribute [local go_sem] max2_int min2_int max_two min_two max_three min_three max_four min_four   -- for this text's walks alone
set_option linter.unusedVariables false
set_option linter.unusedSimpArgs false
/-! ### use_Ask: function 6 -/
mutual
def use_Ask.l0 : Nat → List (S33) → List (S33) → List ByteArray → List (List (S33)) → Int → Int → Option ((List (S33)))
 | 0, _, _, _, _, _, _ => none
 | k + 1, x2, x7, x8, x23, x24, x25 => if x25 < x24 then (if 0 ≤ x25 then (if x25 < (x23.length : Int) then ((use_Marks.f k (rd_L2 x23 x25)).bind fun bt319 => ((etag_Print.f k bt319.1 bt319.2.1).bind fun bt325 => (if bt319.2.2.1 = true then (if bt325.2 = true then ((slices_Contains_string_string.f k x8 bt325.1).bind fun t327 => (if t327 = true then (use_Ask.l0 k x2 x7 x8 x23 x24 (wrap64 (x25 + 1))) else (if x8.length < 8796093022208 then (use_Ask.l0 k x2 x7 (x8 ++ [bt325.1]) x23 x24 (wrap64 (x25 + 1))) else (none)))) else (use_Ask.l0 k x2 x7 x8 x23 x24 (wrap64 (x25 + 1)))) else (use_Ask.l0 k x2 x7 x8 x23 x24 (wrap64 (x25 + 1)))))) else (none)) else (none)) else (if (x8.length : Int) > 0 then ((strings_Join.f x8 (⟨#[44, 32]⟩ : ByteArray)).bind fun t331 => ((use_lay.f k x7 (⟨#[73, 102, 45, 78, 111, 110, 101, 45, 77, 97, 116, 99, 104]⟩ : ByteArray) t331).bind fun t332 => (use_Ask.j1 k x2 t332))) else (use_Ask.j1 k x2 x7))
def use_Ask.j1 : Nat → List (S33) → List (S33) → Option ((List (S33)))
 | 0, _, _ => none
 | k + 1, x2, x7 => (use_Marks.f k x2).bind fun bt335 => (if bt335.2.2.2.2 = true then ((use_lay.f k x7 (⟨#[73, 102, 45, 77, 111, 100, 105, 102, 105, 101, 100, 45, 83, 105, 110, 99, 101]⟩ : ByteArray) bt335.2.2.2.1).bind fun t341 => (some t341)) else (some x7))
end
def use_Ask.f (k : Nat) (l0 : List (S33)) (l1 : List (List (S33))) (l2 : List (S33)) : Option ((List (S33))) := (slices_CloneL.f l0).bind fun t315 => (use_Ask.l0 k l2 t315 ([] : List ByteArray) l1 (l1.length : Int) 0)
theorem use_Ask.mono_l : ∀ k, (∀ y0 y1 y2 y3 y4 y5, LeO (use_Ask.l0 k y0 y1 y2 y3 y4 y5) (use_Ask.l0 (k + 1) y0 y1 y2 y3 y4 y5)) ∧ (∀ y0 y1, LeO (use_Ask.j1 k y0 y1) (use_Ask.j1 (k + 1) y0 y1))
 | 0 => ⟨fun _ _ _ _ _ _ r h => by simp [use_Ask.l0] at h, fun _ _ r h => by simp [use_Ask.j1] at h⟩
 | k + 1 => by
  obtain ⟨ih0, ih1⟩ := use_Ask.mono_l k;refine ⟨?_, ?_⟩
  ·intro y0 y1 y2 y3 y4 y5
   unfold use_Ask.l0
   repeat' first
   | (with_reducible exact ih0 _ _ _ _ _ _)
   | (with_reducible exact ih1 _ _)
   | (with_reducible exact etag_Print.mono _ _ _)
   | (with_reducible exact slices_Contains_string_string.mono _ _ _)
   | (with_reducible exact use_Marks.mono _ _)
   | (with_reducible exact use_lay.mono _ _ _ _)
   | (with_reducible exact LeO.refl _)
   | (with_reducible exact LeO.none _)
   | (with_reducible refine LeO.ite ?_ ?_)
   | (with_reducible refine LeO.bind ?_ (fun _ => ?_))
   | exact ih0 _ _ _ _ _ _
   | exact ih1 _ _
   | exact etag_Print.mono _ _ _
   | exact slices_Contains_string_string.mono _ _ _
   | exact use_Marks.mono _ _
   | exact use_lay.mono _ _ _ _
   | exact LeO.none _
   | refine LeO.ite ?_ ?_
   | refine LeO.bind ?_ (fun _ => ?_)
  ·intro y0 y1
   unfold use_Ask.j1
   repeat' first
   | (with_reducible exact ih0 _ _ _ _ _ _)
   | (with_reducible exact ih1 _ _)
   | (with_reducible exact etag_Print.mono _ _ _)
   | (with_reducible exact slices_Contains_string_string.mono _ _ _)
   | (with_reducible exact use_Marks.mono _ _)
   | (with_reducible exact use_lay.mono _ _ _ _)
   | (with_reducible exact LeO.refl _)
   | (with_reducible exact LeO.none _)
   | (with_reducible refine LeO.ite ?_ ?_)
   | (with_reducible refine LeO.bind ?_ (fun _ => ?_))
   | exact ih0 _ _ _ _ _ _
   | exact ih1 _ _
   | exact etag_Print.mono _ _ _
   | exact slices_Contains_string_string.mono _ _ _
   | exact use_Marks.mono _ _
   | exact use_lay.mono _ _ _ _
   | exact LeO.none _
   | refine LeO.ite ?_ ?_
   | refine LeO.bind ?_ (fun _ => ?_)
theorem use_Ask.mono : ∀ a0 a1 a2 k, LeO (use_Ask.f k a0 a1 a2) (use_Ask.f (k + 1) a0 a1 a2) := by
 intro a0 a1 a2 k;obtain ⟨ih0, ih1⟩ := use_Ask.mono_l k
 unfold use_Ask.f
 repeat' first
   | (with_reducible exact ih0 _ _ _ _ _ _)
   | (with_reducible exact ih1 _ _)
   | (with_reducible exact etag_Print.mono _ _ _)
   | (with_reducible exact slices_Contains_string_string.mono _ _ _)
   | (with_reducible exact use_Marks.mono _ _)
   | (with_reducible exact use_lay.mono _ _ _ _)
   | (with_reducible exact LeO.refl _)
   | (with_reducible exact LeO.none _)
   | (with_reducible refine LeO.ite ?_ ?_)
   | (with_reducible refine LeO.bind ?_ (fun _ => ?_))
   | exact ih0 _ _ _ _ _ _
   | exact ih1 _ _
   | exact etag_Print.mono _ _ _
   | exact slices_Contains_string_string.mono _ _ _
   | exact use_Marks.mono _ _
   | exact use_lay.mono _ _ _ _
   | exact LeO.none _
   | refine LeO.ite ?_ ?_
   | refine LeO.bind ?_ (fun _ => ?_)
set_option maxHeartbeats 2000000 in
set_option maxRecDepth 100000 in
theorem use_Ask.calls (k : Nat) (A0 : Option Addr) (c0 : Nat) (l0 : List (S33)) (A1 : Option Addr) (c1 : Nat) (l1 : List (List (S33))) (A2 : Option Addr) (c2 : Nat) (l2 : List (S33)) (r : List (S33)) (w : World) (hr0 : Kd.C k33 w A0 l0.length l0) (hc0 : l0.length ≤ c0) (hr1 : Kd.C (Kd.slice 33 k33) w A1 l1.length l1) (hc1 : l1.length ≤ c1) (hr2 : Kd.C k33 w A2 l2.length l2) (hc2 : l2.length ≤ c2) (h : use_Ask.f k l0 l1 l2 = some r) :
  Calls Tryz.prog 6 #[.slice A0 l0.length c0, .slice A1 l1.length c1, .slice A2 l2.length c2] w fun e w' => ∃ v0_ : Value, e = .returned (v0_) ∧ Kd.R k33 33 w' w.heap.size (fun _ => True) v0_ r ∧ Below w.heap.size w w' := by
 have hu29 := Tryz.underlying29;have HR0 := Aside0.mk hr0;have HC0 := Aside0.mk hc0;clear hr0 hc0;have HR1 := Aside0.mk hr1;have HC1 := Aside0.mk hc1;clear hr1 hc1;have HR2 := Aside0.mk hr2;have HC2 := Aside0.mk hc2;clear hr2 hc2;have HB := Aside0.mk (Below.refl w.heap.size w);have H : ((slices_CloneL.f l0).bind fun t315 => (use_Ask.l0 k l2 t315 ([] : List ByteArray) l1 (l1.length : Int) 0)) = some r := h;clear h;replace H := Option.bind_eq_some_iff.mp H;obtain ⟨t315, A40, H⟩ := H;replace H : (use_Ask.l0 k l2 t315 ([] : List ByteArray) l1 (l1.length : Int) 0) = some r := H;have A4 := Aside0.mk A40;clear A40;have H' := Aside0.mk H;clear H;go_enter Tryz.func6, Tryz.ntmps6;go_wp2_with (first | ((with_reducible refine gate_callee (f:=12) rfl ?_); refine goesL_ (some 22) rfl rfl Tryz.func12 (by kernel_rfl) rfl #[.slice A0 l0.length c0] rfl (by (try simp only [List.map_toArray, List.map_cons, List.map_nil]); first | done | rfl | (simp only [List.length_drop, List.length_take]; rfl)) ?_; (with_reducible refine (slices_CloneL.calls _ _ l0 t315 _ ?side1 ?side2 A4.out).mono ?_); (case side1 => repeat (first | exact HR0.out | (with_reducible refine Kd.C_alloc ?_ _) | (with_reducible refine Kd.C_drewN ?_ _) | (with_reducible refine Kd.C_drew ?_))); (case side2 => exact HC0.out); rintro e w5 ⟨v316, rfl, ho0, hb⟩; refine ⟨_, rfl, ?_⟩; have n0_ := Aside0.mk (Kd.R_lower ho0 (below_size (hA HB.out))); have n1_ := Aside0.mk (below_step (hA HB.out) hb); clear HB; have HO317 := n0_; have HB := n1_; clear n0_ n1_; (try clear hb); (try clear hb2); (try clear hk); (try clear hi); (try clear ho0)));go_loopg [8, 25] k (fun kq v8 v25 w' => ∃ (x8_1 : List ByteArray) (x25_1 : Int), v25 = .int .i64 x25_1 ∧ Aside0 (use_Ask.l0 kq l2 t315 x8_1 l1 (l1.length : Int) x25_1 = some r) ∧ Aside0 (kq ≤ k) ∧ Aside0 (Kd.R k33 33 w' w.heap.size (fun _ => True) v316 t315) ∧ Aside0 (Kd.R Kd.string 9 w' w.heap.size (fun _ => True) v8 x8_1) ∧ Aside0 (Below w.heap.size w w'))
 case atStart => exact ⟨(([] : List ByteArray)), (0), (by first | rfl | (simp; done) | (simp [*]; done)), H', ⟨Nat.le_refl _⟩, ⟨rA HO317.out⟩, ⟨by first | exact Kd.R_nil _ _ _ _ _ | exact Kd.N_nil _ _ _ _ _ | exact Kd.V_nil _ _ _ _ _ | exact Kd.Q_nil _ _ _ _ _ | exact Kd.S_nil _ _ _ _ _⟩, ⟨hA HB.out⟩⟩
 case round =>
  clear H';(try clear c1);(try clear c2);(try clear p2);obtain ⟨x8_1, x25_1, rfl, HA, HK1, HO_7, HO_8, HB⟩ := hrel
  cases gk with
  | zero => exact absurd HA.out (by simp [use_Ask.l0])
  | succ k1 =>
   have H := HA.out;clear HA;simp only [use_Ask.l0] at H
   by_cases c6 : x25_1 < (l1.length : Int)
   ·rw [if_pos c6] at H
    have c6b0 : decide (x25_1 < (l1.length : Int)) = true := decide_eq_true c6;clear c6
    by_cases c7 : 0 ≤ x25_1
    ·rw [if_pos c7] at H
     have c7b0 : decide (0 ≤ x25_1) = true := decide_eq_true c7;clear c7
     by_cases c8 : x25_1 < (l1.length : Int)
     ·rw [if_pos c8] at H
      have c8b0 : decide (x25_1 < (l1.length : Int)) = true := decide_eq_true c8;clear c8;replace H := Option.bind_eq_some_iff.mp H;obtain ⟨⟨t319, t320, t321, t322, t323⟩, A90, H⟩ := H;replace H : ((etag_Print.f k1 t319 t320).bind fun bt325 => (if t321 = true then (if bt325.2 = true then ((slices_Contains_string_string.f k1 x8_1 bt325.1).bind fun t327 => (if t327 = true then (use_Ask.l0 k1 l2 t315 x8_1 l1 (l1.length : Int) (wrap64 (x25_1 + 1))) else (if x8_1.length < 8796093022208 then (use_Ask.l0 k1 l2 t315 (x8_1 ++ [bt325.1]) l1 (l1.length : Int) (wrap64 (x25_1 + 1))) else (none)))) else (use_Ask.l0 k1 l2 t315 x8_1 l1 (l1.length : Int) (wrap64 (x25_1 + 1)))) else (use_Ask.l0 k1 l2 t315 x8_1 l1 (l1.length : Int) (wrap64 (x25_1 + 1))))) = some r := H;have A9 := Aside0.mk A90;clear A90;replace H := Option.bind_eq_some_iff.mp H;obtain ⟨⟨t325, t326⟩, A100, H⟩ := H;replace H : (if t321 = true then (if t326 = true then ((slices_Contains_string_string.f k1 x8_1 t325).bind fun t327 => (if t327 = true then (use_Ask.l0 k1 l2 t315 x8_1 l1 (l1.length : Int) (wrap64 (x25_1 + 1))) else (if x8_1.length < 8796093022208 then (use_Ask.l0 k1 l2 t315 (x8_1 ++ [t325]) l1 (l1.length : Int) (wrap64 (x25_1 + 1))) else (none)))) else (use_Ask.l0 k1 l2 t315 x8_1 l1 (l1.length : Int) (wrap64 (x25_1 + 1)))) else (use_Ask.l0 k1 l2 t315 x8_1 l1 (l1.length : Int) (wrap64 (x25_1 + 1)))) = some r := H;have A10 := Aside0.mk A100;clear A100
      by_cases c11 : t321 = true
      ·subst c11
       (have H1 : (if t326 = true then ((slices_Contains_string_string.f k1 x8_1 t325).bind fun t327 => (if t327 = true then (use_Ask.l0 k1 l2 t315 x8_1 l1 (l1.length : Int) (wrap64 (x25_1 + 1))) else (if x8_1.length < 8796093022208 then (use_Ask.l0 k1 l2 t315 (x8_1 ++ [t325]) l1 (l1.length : Int) (wrap64 (x25_1 + 1))) else (none)))) else (use_Ask.l0 k1 l2 t315 x8_1 l1 (l1.length : Int) (wrap64 (x25_1 + 1)))) = some r := by rw [if_pos rfl] at H; exact H);clear H;have H := H1;clear H1
       by_cases c12 : t326 = true
       ·subst c12
        (have H1 : ((slices_Contains_string_string.f k1 x8_1 t325).bind fun t327 => (if t327 = true then (use_Ask.l0 k1 l2 t315 x8_1 l1 (l1.length : Int) (wrap64 (x25_1 + 1))) else (if x8_1.length < 8796093022208 then (use_Ask.l0 k1 l2 t315 (x8_1 ++ [t325]) l1 (l1.length : Int) (wrap64 (x25_1 + 1))) else (none)))) = some r := by rw [if_pos rfl] at H; exact H);clear H;have H := H1;clear H1;replace H := Option.bind_eq_some_iff.mp H;obtain ⟨t327, A130, H⟩ := H;replace H : (if t327 = true then (use_Ask.l0 k1 l2 t315 x8_1 l1 (l1.length : Int) (wrap64 (x25_1 + 1))) else (if x8_1.length < 8796093022208 then (use_Ask.l0 k1 l2 t315 (x8_1 ++ [t325]) l1 (l1.length : Int) (wrap64 (x25_1 + 1))) else (none))) = some r := H;have A13 := Aside0.mk A130;clear A130
        by_cases c14 : t327 = true
        ·subst c14
         (have H1 : (use_Ask.l0 k1 l2 t315 x8_1 l1 (l1.length : Int) (wrap64 (x25_1 + 1))) = some r := by rw [if_pos rfl] at H; exact H);clear H;have H := H1;clear H1;have H' := Aside0.mk H;clear H;have p318 : 0 ≤ (x25_1 : Int) := of_decide_eq_true (by first | (with_reducible assumption) | assumption);have q318 : x25_1 < (l1.length : Int) := of_decide_eq_true (by first | (with_reducible assumption) | assumption);obtain ⟨ad318, A318_0, c318_0, e318, hx318_0, hl318_0, hi318_0⟩ := at_L2 HR1.out x25_1 p318 q318
         cases e318
         replace hx318_0 := (HB.out.cell (World.block_lt_of_cell? w _ hx318_0)).trans hx318_0;have HR318_0 := Aside0.mk hi318_0;have HC318_0 := Aside0.mk hl318_0;clear hi318_0 hl318_0;replace p318 := eq_true p318;replace q318 := eq_true q318;go_wp2_with (first | ((with_reducible refine gate_callee (f:=8) rfl ?_); refine goesL_ (some 31) rfl rfl Tryz.func8 (by kernel_rfl) rfl #[.slice A318_0 (rd_L2 l1 x25_1).length c318_0] rfl (by (try simp only [List.map_toArray, List.map_cons, List.map_nil]); first | done | rfl | (simp only [List.length_drop, List.length_take]; rfl)) ?_; (with_reducible refine (use_Marks.calls k1 _ _ (rd_L2 l1 x25_1) t319 t320 true t322 t323 _ ?side1 ?side2 A9.out).mono ?_); (case side1 => exact cA (Kd.C_below HR318_0.out HB.out)); (case side2 => exact HC318_0.out); rintro e w15 ⟨rfl, hb⟩; refine ⟨_, rfl, ?_⟩; have n0_ := Aside0.mk (Kd.R_below (rA HO_7.out) hb); have n1_ := Aside0.mk (Kd.R_below (rA HO_8.out) hb); have n2_ := Aside0.mk (below_step (hA HB.out) hb); clear HO_7; clear HO_8; clear HB; have HO_7 := n0_; have HO_8 := n1_; have HB := n2_; clear n0_ n1_ n2_; (try clear hb); (try clear hb2); (try clear hk); (try clear hi)) | ((with_reducible refine gate_dst (N:=11) rfl ?_); refine box_event ?hg (N:=11) ?hd (cs := #[.bool false, .string (⟨#[]⟩ : ByteArray)]) (t:=29) ?hr ?_; (case hd => rfl); (case hg => rfl); (case hr => first | (go_simp; done) | (go_simp; rfl)); intro gb324 hg w16 hbox hb; have n0_ := Aside0.mk (Kd.R_below (rA HO_7.out) hb); have n1_ := Aside0.mk (Kd.R_below (rA HO_8.out) hb); have n2_ := Aside0.mk (below_step (hA HB.out) hb); have n3_ := Aside0.mk (hbox); have n4_ := Aside0.mk ((by rw [hg]; exact (below_size (hA HB.out)) : w.heap.size ≤ gb324)); have n5_ := Aside0.mk ((by rw [hg]; exact (below_size (hA HB.out)) : w.heap.size ≤ gb324)); clear HO_7; clear HO_8; clear HB; have HO_7 := n0_; have HO_8 := n1_; have HB := n2_; have BK324 := n3_; have GW324 := n4_; have GE324 := n5_; clear n0_ n1_ n2_ n3_ n4_ n5_; clear hb hbox hg; have hcz17_0 := bC BK324.out 0 rfl; have hcz17_1 := bC BK324.out 1 rfl; have hfz17_0 := blk_frozen BK324.out 0; have hfz17_1 := blk_frozen BK324.out 1) | ((with_reducible refine gate_callee (f:=9) rfl ?_); refine goesL_ (some 38) rfl rfl Tryz.func9 (by kernel_rfl) rfl #[.agg #[.bool t319, .string t320]] rfl (by (try simp only [List.map_toArray, List.map_cons, List.map_nil]); first | done | rfl | (simp only [List.length_drop, List.length_take]; rfl)) ?_; (with_reducible refine (etag_Print.calls k1 t319 t320 t325 true _ A10.out).mono ?_); rintro e w18 ⟨rfl, hb⟩; refine ⟨_, rfl, ?_⟩; have n0_ := Aside0.mk (Kd.R_below (by (with_reducible repeat (first | apply Kd.R_alloc | apply Kd.R_drewN | apply Kd.R_drew)); exact (Kd.R_mono (Kd.R_far (p:=⟨gb324, 1, none⟩) (Kd.R_far (p:=⟨gb324, 0, none⟩) (Kd.R_types HO_7.out BK324.out (by decide)) (fun _ hk => hk.2) (.bool t319)) (fun _ hk => hk.2) (.string t320)) (fun _ h_ => h_.1))) hb); have n1_ := Aside0.mk (Kd.R_below (by (with_reducible repeat (first | apply Kd.R_alloc | apply Kd.R_drewN | apply Kd.R_drew)); exact (Kd.R_mono (Kd.R_far (p:=⟨gb324, 1, none⟩) (Kd.R_far (p:=⟨gb324, 0, none⟩) (Kd.R_types HO_8.out BK324.out (by decide)) (fun _ hk => hk.2) (.bool t319)) (fun _ hk => hk.2) (.string t320)) (fun _ h_ => h_.1))) hb); have n2_ := Aside0.mk (blk_below (g:=gb324) (o:=.cells #[.bool t319, .string t320] 29 (0, 0)) (by (with_reducible repeat (first | refine blk_drewN ?_ _ | refine blk_drew ?_ | refine blk_alloc ?_ _)); refine blk_put (cs := #[.bool t319, .string (⟨#[]⟩ : ByteArray)]) ?_ 1 _ rfl; (with_reducible repeat (first | refine blk_drewN ?_ _ | refine blk_drew ?_ | refine blk_alloc ?_ _)); refine blk_put (cs := #[.bool false, .string (⟨#[]⟩ : ByteArray)]) ?_ 0 _ rfl; (with_reducible repeat (first | refine blk_drewN ?_ _ | refine blk_drew ?_ | refine blk_alloc ?_ _)); exact BK324.out) hb); have n3_ := Aside0.mk (below_step (hA1 HB.out GE324.out) hb); clear HO_7; clear HO_8; clear BK324; clear HB; have HO_7 := n0_; have HO_8 := n1_; have BK324 := n2_; have HB := n3_; clear n0_ n1_ n2_ n3_; (try clear hb); (try clear hb2); (try clear hk); (try clear hi); obtain ⟨Ao19, co19, eo19⟩ := Kd.R_slice HO_8.out; subst eo19) | (go_at_call 13; (with_reducible refine (slices_Contains_string_string.calls k1 _ _ x8_1 t325 true _ ?side1 ?side2 A13.out).mono ?_); (case side1 => repeat (first | exact (Kd.R_reads' HO_8.out).2.2 | (with_reducible refine Kd.C_alloc ?_ _) | (with_reducible refine Kd.C_drewN ?_ _) | (with_reducible refine Kd.C_drew ?_))); (case side2 => exact (Kd.R_reads' HO_8.out).2.1); rintro e w' ⟨rfl, ⟨nd, rfl⟩⟩));go_roundg k1
         case measure => have := HK1.out; omega
         case rel => exact ⟨(x8_1), (wrap64 (x25_1 + 1)), (by first | rfl | (simp; done) | (simp [*]; done)), H', ⟨by have := HK1.out; omega⟩, ⟨rA HO_7.out⟩, ⟨rA HO_8.out⟩, ⟨hA1 HB.out GE324.out⟩⟩
        ·replace c14 := Bool.eq_false_iff.mpr c14
         subst c14;(have H1 : (if x8_1.length < 8796093022208 then (use_Ask.l0 k1 l2 t315 (x8_1 ++ [t325]) l1 (l1.length : Int) (wrap64 (x25_1 + 1))) else (none)) = some r := by rw [if_neg (show ¬ (false = true) by decide)] at H; exact H);clear H;have H := H1;clear H1
         by_cases c20 : x8_1.length < 8796093022208
         ·rw [if_pos c20] at H
          have LMc20 := Aside0.mk c20;clear c20;obtain ⟨y328, hy328⟩ : ∃ y_ : List ByteArray, y_ = (x8_1 ++ [t325]) := ⟨_, rfl⟩;(replace H : (use_Ask.l0 k1 l2 t315 y328 l1 (l1.length : Int) (wrap64 (x25_1 + 1))) = some r := by first | (rw [hy328]; with_reducible exact H) | (have H2_ := (Option.bind_some _ _).symm.trans H; rw [hy328]; with_reducible exact H2_) | (have H2_ := (Option.bind_some _ _).symm.trans H; with_reducible exact H2_) | with_reducible exact H | (rw [hy328]; exact H) | exact H);have Ny328 := Aside0.mk hy328;clear hy328;have H' := Aside0.mk H;clear H;have p318 : 0 ≤ (x25_1 : Int) := of_decide_eq_true (by first | (with_reducible assumption) | assumption);have q318 : x25_1 < (l1.length : Int) := of_decide_eq_true (by first | (with_reducible assumption) | assumption);obtain ⟨ad318, A318_0, c318_0, e318, hx318_0, hl318_0, hi318_0⟩ := at_L2 HR1.out x25_1 p318 q318
          cases e318
          replace hx318_0 := (HB.out.cell (World.block_lt_of_cell? w _ hx318_0)).trans hx318_0;have HR318_0 := Aside0.mk hi318_0;have HC318_0 := Aside0.mk hl318_0;clear hi318_0 hl318_0;replace p318 := eq_true p318;replace q318 := eq_true q318;go_wp2_with (first | ((with_reducible refine gate_callee (f:=8) rfl ?_); refine goesL_ (some 31) rfl rfl Tryz.func8 (by kernel_rfl) rfl #[.slice A318_0 (rd_L2 l1 x25_1).length c318_0] rfl (by (try simp only [List.map_toArray, List.map_cons, List.map_nil]); first | done | rfl | (simp only [List.length_drop, List.length_take]; rfl)) ?_; (with_reducible refine (use_Marks.calls k1 _ _ (rd_L2 l1 x25_1) t319 t320 true t322 t323 _ ?side1 ?side2 A9.out).mono ?_); (case side1 => exact cA (Kd.C_below HR318_0.out HB.out)); (case side2 => exact HC318_0.out); rintro e w21 ⟨rfl, hb⟩; refine ⟨_, rfl, ?_⟩; have n0_ := Aside0.mk (Kd.R_below (rA HO_7.out) hb); have n1_ := Aside0.mk (Kd.R_below (rA HO_8.out) hb); have n2_ := Aside0.mk (below_step (hA HB.out) hb); clear HO_7; clear HO_8; clear HB; have HO_7 := n0_; have HO_8 := n1_; have HB := n2_; clear n0_ n1_ n2_; (try clear hb); (try clear hb2); (try clear hk); (try clear hi)) | ((with_reducible refine gate_dst (N:=11) rfl ?_); refine box_event ?hg (N:=11) ?hd (cs := #[.bool false, .string (⟨#[]⟩ : ByteArray)]) (t:=29) ?hr ?_; (case hd => rfl); (case hg => rfl); (case hr => first | (go_simp; done) | (go_simp; rfl)); intro gb324 hg w22 hbox hb; have n0_ := Aside0.mk (Kd.R_below (rA HO_7.out) hb); have n1_ := Aside0.mk (Kd.R_below (rA HO_8.out) hb); have n2_ := Aside0.mk (below_step (hA HB.out) hb); have n3_ := Aside0.mk (hbox); have n4_ := Aside0.mk ((by rw [hg]; exact (below_size (hA HB.out)) : w.heap.size ≤ gb324)); have n5_ := Aside0.mk ((by rw [hg]; exact (below_size (hA HB.out)) : w.heap.size ≤ gb324)); clear HO_7; clear HO_8; clear HB; have HO_7 := n0_; have HO_8 := n1_; have HB := n2_; have BK324 := n3_; have GW324 := n4_; have GE324 := n5_; clear n0_ n1_ n2_ n3_ n4_ n5_; clear hb hbox hg; have hcz23_0 := bC BK324.out 0 rfl; have hcz23_1 := bC BK324.out 1 rfl; have hfz23_0 := blk_frozen BK324.out 0; have hfz23_1 := blk_frozen BK324.out 1) | ((with_reducible refine gate_callee (f:=9) rfl ?_); refine goesL_ (some 38) rfl rfl Tryz.func9 (by kernel_rfl) rfl #[.agg #[.bool t319, .string t320]] rfl (by (try simp only [List.map_toArray, List.map_cons, List.map_nil]); first | done | rfl | (simp only [List.length_drop, List.length_take]; rfl)) ?_; (with_reducible refine (etag_Print.calls k1 t319 t320 t325 true _ A10.out).mono ?_); rintro e w24 ⟨rfl, hb⟩; refine ⟨_, rfl, ?_⟩; have n0_ := Aside0.mk (Kd.R_below (by (with_reducible repeat (first | apply Kd.R_alloc | apply Kd.R_drewN | apply Kd.R_drew)); exact (Kd.R_mono (Kd.R_far (p:=⟨gb324, 1, none⟩) (Kd.R_far (p:=⟨gb324, 0, none⟩) (Kd.R_types HO_7.out BK324.out (by decide)) (fun _ hk => hk.2) (.bool t319)) (fun _ hk => hk.2) (.string t320)) (fun _ h_ => h_.1))) hb); have n1_ := Aside0.mk (Kd.R_below (by (with_reducible repeat (first | apply Kd.R_alloc | apply Kd.R_drewN | apply Kd.R_drew)); exact (Kd.R_mono (Kd.R_far (p:=⟨gb324, 1, none⟩) (Kd.R_far (p:=⟨gb324, 0, none⟩) (Kd.R_types HO_8.out BK324.out (by decide)) (fun _ hk => hk.2) (.bool t319)) (fun _ hk => hk.2) (.string t320)) (fun _ h_ => h_.1))) hb); have n2_ := Aside0.mk (blk_below (g:=gb324) (o:=.cells #[.bool t319, .string t320] 29 (0, 0)) (by (with_reducible repeat (first | refine blk_drewN ?_ _ | refine blk_drew ?_ | refine blk_alloc ?_ _)); refine blk_put (cs := #[.bool t319, .string (⟨#[]⟩ : ByteArray)]) ?_ 1 _ rfl; (with_reducible repeat (first | refine blk_drewN ?_ _ | refine blk_drew ?_ | refine blk_alloc ?_ _)); refine blk_put (cs := #[.bool false, .string (⟨#[]⟩ : ByteArray)]) ?_ 0 _ rfl; (with_reducible repeat (first | refine blk_drewN ?_ _ | refine blk_drew ?_ | refine blk_alloc ?_ _)); exact BK324.out) hb); have n3_ := Aside0.mk (below_step (hA1 HB.out GE324.out) hb); clear HO_7; clear HO_8; clear BK324; clear HB; have HO_7 := n0_; have HO_8 := n1_; have BK324 := n2_; have HB := n3_; clear n0_ n1_ n2_ n3_; (try clear hb); (try clear hb2); (try clear hk); (try clear hi); obtain ⟨Ao25, co25, eo25⟩ := Kd.R_slice HO_8.out; subst eo25) | (go_at_call 13; (with_reducible refine (slices_Contains_string_string.calls k1 _ _ x8_1 t325 false _ ?side1 ?side2 A13.out).mono ?_); (case side1 => repeat (first | exact (Kd.R_reads' HO_8.out).2.2 | (with_reducible refine Kd.C_alloc ?_ _) | (with_reducible refine Kd.C_drewN ?_ _) | (with_reducible refine Kd.C_drew ?_))); (case side2 => exact (Kd.R_reads' HO_8.out).2.1); rintro e w' ⟨rfl, ⟨nd, rfl⟩⟩) | ((with_reducible refine gate_builtin (b:=.append) (xs := #[.tmp 51, .tmp 53]) rfl ?_); at_builtin; refine Kd.R_append Kd.string (w0 := w) w.heap.size rfl (.tmp 51) (.tmp 53) 40 9 (.string ⟨#[]⟩) 16 rfl Tryz.underlying40 info9 rfl (by decide) (by omega) (.slice Ao25 x8_1.length co25) x8_1 t325 [.string t325] (fun _ => True) (fun _ => False) rfl rfl ?aP (fun _ hk => hk.elim) ?aF ?aO ?aB ?aS ?aL ?_; (case aP => exact rfl); (case aB => exact (hA1 HB.out GE324.out)); (case aF => exact (fun _ _ => trivial)); (case aO => exact (rA HO_8.out)); (case aS => exact (below_size (hA1 HB.out GE324.out))); (case aL => have := LMc20.out; omega); intro v329 w26 ho hb hg hat; rw [← Ny328.out] at ho; have n0_ := Aside0.mk (Kd.R_over' (rA HO_7.out) (Kd.R_typed (rA HO_8.out)) (by decide) hg); have n1_ := Aside0.mk (blk_grown (g:=gb324) (o:=.cells #[.bool t319, .string t320] 29 (0, 0)) (bA BK324.out) hg (Kd.R_ne HO_8.out BK324.out (by decide))); have n2_ := Aside0.mk (hb); have n3_ := Aside0.mk (ho); clear HO_7; clear BK324; clear HB; clear HO_8; have HO_7 := n0_; have BK324 := n1_; have HB := n2_; have HO330 := n3_; clear n0_ n1_ n2_ n3_; clear ho hb hg hat));go_roundg k1
          case measure => have := HK1.out; omega
          case rel => exact ⟨(y328), (wrap64 (x25_1 + 1)), (by first | rfl | (simp; done) | (simp [*]; done)), H', ⟨by have := HK1.out; omega⟩, ⟨rA HO_7.out⟩, ⟨rA HO330.out⟩, ⟨hA1 HB.out GE324.out⟩⟩
         ·rw [if_neg c20] at H;exact absurd H (by simp)
       ·replace c12 := Bool.eq_false_iff.mpr c12
        subst c12;(have H1 : (use_Ask.l0 k1 l2 t315 x8_1 l1 (l1.length : Int) (wrap64 (x25_1 + 1))) = some r := by rw [if_neg (show ¬ (false = true) by decide)] at H; exact H);clear H;have H := H1;clear H1;have H' := Aside0.mk H;clear H;have p318 : 0 ≤ (x25_1 : Int) := of_decide_eq_true (by first | (with_reducible assumption) | assumption);have q318 : x25_1 < (l1.length : Int) := of_decide_eq_true (by first | (with_reducible assumption) | assumption);obtain ⟨ad318, A318_0, c318_0, e318, hx318_0, hl318_0, hi318_0⟩ := at_L2 HR1.out x25_1 p318 q318
        cases e318
        replace hx318_0 := (HB.out.cell (World.block_lt_of_cell? w _ hx318_0)).trans hx318_0;have HR318_0 := Aside0.mk hi318_0;have HC318_0 := Aside0.mk hl318_0;clear hi318_0 hl318_0;replace p318 := eq_true p318;replace q318 := eq_true q318;go_wp2_with (first | ((with_reducible refine gate_callee (f:=8) rfl ?_); refine goesL_ (some 31) rfl rfl Tryz.func8 (by kernel_rfl) rfl #[.slice A318_0 (rd_L2 l1 x25_1).length c318_0] rfl (by (try simp only [List.map_toArray, List.map_cons, List.map_nil]); first | done | rfl | (simp only [List.length_drop, List.length_take]; rfl)) ?_; (with_reducible refine (use_Marks.calls k1 _ _ (rd_L2 l1 x25_1) t319 t320 true t322 t323 _ ?side1 ?side2 A9.out).mono ?_); (case side1 => exact cA (Kd.C_below HR318_0.out HB.out)); (case side2 => exact HC318_0.out); rintro e w27 ⟨rfl, hb⟩; refine ⟨_, rfl, ?_⟩; have n0_ := Aside0.mk (Kd.R_below (rA HO_7.out) hb); have n1_ := Aside0.mk (Kd.R_below (rA HO_8.out) hb); have n2_ := Aside0.mk (below_step (hA HB.out) hb); clear HO_7; clear HO_8; clear HB; have HO_7 := n0_; have HO_8 := n1_; have HB := n2_; clear n0_ n1_ n2_; (try clear hb); (try clear hb2); (try clear hk); (try clear hi)) | ((with_reducible refine gate_dst (N:=11) rfl ?_); refine box_event ?hg (N:=11) ?hd (cs := #[.bool false, .string (⟨#[]⟩ : ByteArray)]) (t:=29) ?hr ?_; (case hd => rfl); (case hg => rfl); (case hr => first | (go_simp; done) | (go_simp; rfl)); intro gb324 hg w28 hbox hb; have n0_ := Aside0.mk (Kd.R_below (rA HO_7.out) hb); have n1_ := Aside0.mk (Kd.R_below (rA HO_8.out) hb); have n2_ := Aside0.mk (below_step (hA HB.out) hb); have n3_ := Aside0.mk (hbox); have n4_ := Aside0.mk ((by rw [hg]; exact (below_size (hA HB.out)) : w.heap.size ≤ gb324)); have n5_ := Aside0.mk ((by rw [hg]; exact (below_size (hA HB.out)) : w.heap.size ≤ gb324)); clear HO_7; clear HO_8; clear HB; have HO_7 := n0_; have HO_8 := n1_; have HB := n2_; have BK324 := n3_; have GW324 := n4_; have GE324 := n5_; clear n0_ n1_ n2_ n3_ n4_ n5_; clear hb hbox hg; have hcz29_0 := bC BK324.out 0 rfl; have hcz29_1 := bC BK324.out 1 rfl; have hfz29_0 := blk_frozen BK324.out 0; have hfz29_1 := blk_frozen BK324.out 1) | ((with_reducible refine gate_callee (f:=9) rfl ?_); refine goesL_ (some 38) rfl rfl Tryz.func9 (by kernel_rfl) rfl #[.agg #[.bool t319, .string t320]] rfl (by (try simp only [List.map_toArray, List.map_cons, List.map_nil]); first | done | rfl | (simp only [List.length_drop, List.length_take]; rfl)) ?_; (with_reducible refine (etag_Print.calls k1 t319 t320 t325 false _ A10.out).mono ?_); rintro e w30 ⟨rfl, hb⟩; refine ⟨_, rfl, ?_⟩; have n0_ := Aside0.mk (Kd.R_below (by (with_reducible repeat (first | apply Kd.R_alloc | apply Kd.R_drewN | apply Kd.R_drew)); exact (Kd.R_mono (Kd.R_far (p:=⟨gb324, 1, none⟩) (Kd.R_far (p:=⟨gb324, 0, none⟩) (Kd.R_types HO_7.out BK324.out (by decide)) (fun _ hk => hk.2) (.bool t319)) (fun _ hk => hk.2) (.string t320)) (fun _ h_ => h_.1))) hb); have n1_ := Aside0.mk (Kd.R_below (by (with_reducible repeat (first | apply Kd.R_alloc | apply Kd.R_drewN | apply Kd.R_drew)); exact (Kd.R_mono (Kd.R_far (p:=⟨gb324, 1, none⟩) (Kd.R_far (p:=⟨gb324, 0, none⟩) (Kd.R_types HO_8.out BK324.out (by decide)) (fun _ hk => hk.2) (.bool t319)) (fun _ hk => hk.2) (.string t320)) (fun _ h_ => h_.1))) hb); have n2_ := Aside0.mk (blk_below (g:=gb324) (o:=.cells #[.bool t319, .string t320] 29 (0, 0)) (by (with_reducible repeat (first | refine blk_drewN ?_ _ | refine blk_drew ?_ | refine blk_alloc ?_ _)); refine blk_put (cs := #[.bool t319, .string (⟨#[]⟩ : ByteArray)]) ?_ 1 _ rfl; (with_reducible repeat (first | refine blk_drewN ?_ _ | refine blk_drew ?_ | refine blk_alloc ?_ _)); refine blk_put (cs := #[.bool false, .string (⟨#[]⟩ : ByteArray)]) ?_ 0 _ rfl; (with_reducible repeat (first | refine blk_drewN ?_ _ | refine blk_drew ?_ | refine blk_alloc ?_ _)); exact BK324.out) hb); have n3_ := Aside0.mk (below_step (hA1 HB.out GE324.out) hb); clear HO_7; clear HO_8; clear BK324; clear HB; have HO_7 := n0_; have HO_8 := n1_; have BK324 := n2_; have HB := n3_; clear n0_ n1_ n2_ n3_; (try clear hb); (try clear hb2); (try clear hk); (try clear hi)));go_roundg k1
        case measure => have := HK1.out; omega
        case rel => exact ⟨(x8_1), (wrap64 (x25_1 + 1)), (by first | rfl | (simp; done) | (simp [*]; done)), H', ⟨by have := HK1.out; omega⟩, ⟨rA HO_7.out⟩, ⟨rA HO_8.out⟩, ⟨hA1 HB.out GE324.out⟩⟩
      ·replace c11 := Bool.eq_false_iff.mpr c11
       subst c11;(have H1 : (use_Ask.l0 k1 l2 t315 x8_1 l1 (l1.length : Int) (wrap64 (x25_1 + 1))) = some r := by rw [if_neg (show ¬ (false = true) by decide)] at H; exact H);clear H;have H := H1;clear H1;have H' := Aside0.mk H;clear H;have p318 : 0 ≤ (x25_1 : Int) := of_decide_eq_true (by first | (with_reducible assumption) | assumption);have q318 : x25_1 < (l1.length : Int) := of_decide_eq_true (by first | (with_reducible assumption) | assumption);obtain ⟨ad318, A318_0, c318_0, e318, hx318_0, hl318_0, hi318_0⟩ := at_L2 HR1.out x25_1 p318 q318
       cases e318
       replace hx318_0 := (HB.out.cell (World.block_lt_of_cell? w _ hx318_0)).trans hx318_0;have HR318_0 := Aside0.mk hi318_0;have HC318_0 := Aside0.mk hl318_0;clear hi318_0 hl318_0;replace p318 := eq_true p318;replace q318 := eq_true q318;go_wp2_with (first | ((with_reducible refine gate_callee (f:=8) rfl ?_); refine goesL_ (some 31) rfl rfl Tryz.func8 (by kernel_rfl) rfl #[.slice A318_0 (rd_L2 l1 x25_1).length c318_0] rfl (by (try simp only [List.map_toArray, List.map_cons, List.map_nil]); first | done | rfl | (simp only [List.length_drop, List.length_take]; rfl)) ?_; (with_reducible refine (use_Marks.calls k1 _ _ (rd_L2 l1 x25_1) t319 t320 false t322 t323 _ ?side1 ?side2 A9.out).mono ?_); (case side1 => exact cA (Kd.C_below HR318_0.out HB.out)); (case side2 => exact HC318_0.out); rintro e w31 ⟨rfl, hb⟩; refine ⟨_, rfl, ?_⟩; have n0_ := Aside0.mk (Kd.R_below (rA HO_7.out) hb); have n1_ := Aside0.mk (Kd.R_below (rA HO_8.out) hb); have n2_ := Aside0.mk (below_step (hA HB.out) hb); clear HO_7; clear HO_8; clear HB; have HO_7 := n0_; have HO_8 := n1_; have HB := n2_; clear n0_ n1_ n2_; (try clear hb); (try clear hb2); (try clear hk); (try clear hi)) | ((with_reducible refine gate_dst (N:=11) rfl ?_); refine box_event ?hg (N:=11) ?hd (cs := #[.bool false, .string (⟨#[]⟩ : ByteArray)]) (t:=29) ?hr ?_; (case hd => rfl); (case hg => rfl); (case hr => first | (go_simp; done) | (go_simp; rfl)); intro gb324 hg w32 hbox hb; have n0_ := Aside0.mk (Kd.R_below (rA HO_7.out) hb); have n1_ := Aside0.mk (Kd.R_below (rA HO_8.out) hb); have n2_ := Aside0.mk (below_step (hA HB.out) hb); have n3_ := Aside0.mk (hbox); have n4_ := Aside0.mk ((by rw [hg]; exact (below_size (hA HB.out)) : w.heap.size ≤ gb324)); have n5_ := Aside0.mk ((by rw [hg]; exact (below_size (hA HB.out)) : w.heap.size ≤ gb324)); clear HO_7; clear HO_8; clear HB; have HO_7 := n0_; have HO_8 := n1_; have HB := n2_; have BK324 := n3_; have GW324 := n4_; have GE324 := n5_; clear n0_ n1_ n2_ n3_ n4_ n5_; clear hb hbox hg; have hcz33_0 := bC BK324.out 0 rfl; have hcz33_1 := bC BK324.out 1 rfl; have hfz33_0 := blk_frozen BK324.out 0; have hfz33_1 := blk_frozen BK324.out 1) | ((with_reducible refine gate_callee (f:=9) rfl ?_); refine goesL_ (some 38) rfl rfl Tryz.func9 (by kernel_rfl) rfl #[.agg #[.bool t319, .string t320]] rfl (by (try simp only [List.map_toArray, List.map_cons, List.map_nil]); first | done | rfl | (simp only [List.length_drop, List.length_take]; rfl)) ?_; (with_reducible refine (etag_Print.calls k1 t319 t320 t325 t326 _ A10.out).mono ?_); rintro e w34 ⟨rfl, hb⟩; refine ⟨_, rfl, ?_⟩; have n0_ := Aside0.mk (Kd.R_below (by (with_reducible repeat (first | apply Kd.R_alloc | apply Kd.R_drewN | apply Kd.R_drew)); exact (Kd.R_mono (Kd.R_far (p:=⟨gb324, 1, none⟩) (Kd.R_far (p:=⟨gb324, 0, none⟩) (Kd.R_types HO_7.out BK324.out (by decide)) (fun _ hk => hk.2) (.bool t319)) (fun _ hk => hk.2) (.string t320)) (fun _ h_ => h_.1))) hb); have n1_ := Aside0.mk (Kd.R_below (by (with_reducible repeat (first | apply Kd.R_alloc | apply Kd.R_drewN | apply Kd.R_drew)); exact (Kd.R_mono (Kd.R_far (p:=⟨gb324, 1, none⟩) (Kd.R_far (p:=⟨gb324, 0, none⟩) (Kd.R_types HO_8.out BK324.out (by decide)) (fun _ hk => hk.2) (.bool t319)) (fun _ hk => hk.2) (.string t320)) (fun _ h_ => h_.1))) hb); have n2_ := Aside0.mk (blk_below (g:=gb324) (o:=.cells #[.bool t319, .string t320] 29 (0, 0)) (by (with_reducible repeat (first | refine blk_drewN ?_ _ | refine blk_drew ?_ | refine blk_alloc ?_ _)); refine blk_put (cs := #[.bool t319, .string (⟨#[]⟩ : ByteArray)]) ?_ 1 _ rfl; (with_reducible repeat (first | refine blk_drewN ?_ _ | refine blk_drew ?_ | refine blk_alloc ?_ _)); refine blk_put (cs := #[.bool false, .string (⟨#[]⟩ : ByteArray)]) ?_ 0 _ rfl; (with_reducible repeat (first | refine blk_drewN ?_ _ | refine blk_drew ?_ | refine blk_alloc ?_ _)); exact BK324.out) hb); have n3_ := Aside0.mk (below_step (hA1 HB.out GE324.out) hb); clear HO_7; clear HO_8; clear BK324; clear HB; have HO_7 := n0_; have HO_8 := n1_; have BK324 := n2_; have HB := n3_; clear n0_ n1_ n2_ n3_; (try clear hb); (try clear hb2); (try clear hk); (try clear hi)));go_roundg k1
       case measure => have := HK1.out; omega
       case rel => exact ⟨(x8_1), (wrap64 (x25_1 + 1)), (by first | rfl | (simp; done) | (simp [*]; done)), H', ⟨by have := HK1.out; omega⟩, ⟨rA HO_7.out⟩, ⟨rA HO_8.out⟩, ⟨hA1 HB.out GE324.out⟩⟩
     ·rw [if_neg c8] at H;exact absurd H (by simp)
    ·rw [if_neg c7] at H;exact absurd H (by simp)
   ·rw [if_neg c6] at H
    have c6b0 : decide (x25_1 < (l1.length : Int)) = false := decide_eq_false c6;clear c6;have HC35 := Aside0.mk H;clear H;obtain ⟨Ao36, co36, eo36⟩ := Kd.R_slice HO_8.out;subst eo36;go_upto_if 58 with (fail);go_cut [7] (fun v7 wc => ∃ (kq : Nat) (x7_34 : List (S33)), Aside0 (use_Ask.j1 kq l2 x7_34 = some r) ∧ Aside0 (kq ≤ k1) ∧ Aside0 (Kd.R k33 33 wc w.heap.size (fun _ => True) v7 x7_34) ∧ Aside0 (Below w.heap.size w wc))
    case first =>
     have H := HC35.out;clear HC35
     by_cases c37 : (x8_1.length : Int) > 0
     ·rw [if_pos c37] at H
      have c37b0 : decide (0 < (x8_1.length : Int)) = true := decide_eq_true c37;have c37b1 : decide (0 < x8_1.length) = true := decide_eq_true (by omega);clear c37
      (first | rw [c37b0] | rw [c37b1] | (simp only [i64_w, i32_w]; rw [c37b0]) | skip)
      replace H := Option.bind_eq_some_iff.mp H;obtain ⟨t331, A380, H⟩ := H;replace H : ((use_lay.f k1 t315 (⟨#[73, 102, 45, 78, 111, 110, 101, 45, 77, 97, 116, 99, 104]⟩ : ByteArray) t331).bind fun t332 => (use_Ask.j1 k1 l2 t332)) = some r := H;have A38 := Aside0.mk A380;clear A380;replace H := Option.bind_eq_some_iff.mp H;obtain ⟨t332, A390, H⟩ := H;replace H : (use_Ask.j1 k1 l2 t332) = some r := H;have A39 := Aside0.mk A390;clear A390;have H' := Aside0.mk H;clear H;go_wp2_with (first | ((with_reducible refine gate_callee (f:=15) rfl ?_); refine goesL_ (some 61) rfl rfl Tryz.func15 (by kernel_rfl) rfl #[.slice Ao36 x8_1.length co36, .string (⟨#[44, 32]⟩ : ByteArray)] rfl (by (try simp only [List.map_toArray, List.map_cons, List.map_nil]); first | done | rfl | (simp only [List.length_drop, List.length_take]; rfl)) ?_; (with_reducible refine (strings_Join.calls _ _ x8_1 (⟨#[44, 32]⟩ : ByteArray) t331 _ ?side1 ?side2 A38.out).mono ?_); (case side1 => repeat (first | exact (Kd.R_reads' HO_8.out).2.2 | (with_reducible refine Kd.C_alloc ?_ _) | (with_reducible refine Kd.C_drewN ?_ _) | (with_reducible refine Kd.C_drew ?_))); (case side2 => exact (Kd.R_reads' HO_8.out).2.1); rintro e w40 ⟨rfl, hb⟩; refine ⟨_, rfl, ?_⟩; have n0_ := Aside0.mk (Kd.R_below (rA HO_7.out) hb); have n1_ := Aside0.mk (Kd.R_below (rA HO_8.out) hb); have n2_ := Aside0.mk (below_step (hA HB.out) hb); clear HO_7; clear HO_8; clear HB; have HO_7 := n0_; have HO_8 := n1_; have HB := n2_; clear n0_ n1_ n2_; (try clear hb); (try clear hb2); (try clear hk); (try clear hi); obtain ⟨Ao41, co41, eo41⟩ := Kd.R_slice HO_7.out; subst eo41) | ((with_reducible refine gate_callee (f:=14) rfl ?_); refine goesL_ (some 62) rfl rfl Tryz.func14 (by kernel_rfl) rfl #[.slice Ao41 t315.length co41, .string (⟨#[73, 102, 45, 78, 111, 110, 101, 45, 77, 97, 116, 99, 104]⟩ : ByteArray), .string t331] rfl (by (try simp only [List.map_toArray, List.map_cons, List.map_nil]); first | done | rfl | (simp only [List.length_drop, List.length_take]; rfl)) ?_; (with_reducible refine (use_lay.calls k1 (fun k_ => some k_ = (.slice Ao41 t315.length co41 : Value).ownBlock) (.slice Ao41 t315.length co41) t315 (⟨#[73, 102, 45, 78, 111, 110, 101, 45, 77, 97, 116, 99, 104]⟩ : ByteArray) t331 t332 w _ ?side1 ?side2 A39.out).mono ?_); (case side1 => repeat (first | (with_reducible first | exact HB.out | apply below_alloc | apply pw_below_drewN | apply below_drew1) | exact HB.out)); (case side2 => exact Kd.R_tight rfl HO_7.out); rintro e w42 ⟨v333, rfl, ho0, hb, hkp⟩; refine ⟨_, rfl, ?_⟩; have n0_ := Aside0.mk (Kd.R_mono (ok' := fun k_ => True) (Kd.R_keptB ((Kd.R_apart' HO_8.out (Kd.R_typed HO_7.out) (by decide))) hkp (fun k_ hk_ hs_ => (hk_.2) hs_)) (fun k_ hk_ => trivial)); have n1_ := Aside0.mk (Kd.R_mono (ok' := fun k_ => True) ho0 (fun k_ hk_ => trivial)); have n2_ := Aside0.mk (hb); clear HO_8; clear HB; clear HO_7; have HO_8 := n0_; have HO334 := n1_; have HB := n2_; clear n0_ n1_ n2_; (try clear hb); (try clear hkp); (try clear ho0)));go_meet
      case rel => exact ⟨_, (t332), H', ⟨by have := HK1.out; first | omega | exact Nat.le_refl _⟩, ⟨rA HO334.out⟩, ⟨hA HB.out⟩⟩
     ·rw [if_neg c37] at H
      have c37b0 : decide (0 < (x8_1.length : Int)) = false := decide_eq_false c37;have c37b1 : decide (0 < x8_1.length) = false := decide_eq_false (by omega);clear c37
      (first | rw [c37b0] | rw [c37b1] | (simp only [i64_w, i32_w]; rw [c37b0]) | skip)
      have H' := Aside0.mk H;clear H;go_wp2;go_meet
      case rel => exact ⟨_, (t315), H', ⟨by have := HK1.out; first | omega | exact Nat.le_refl _⟩, ⟨rA HO_7.out⟩, ⟨hA HB.out⟩⟩
    case rest =>
     clear HC35;(try clear c1);(try clear c2);(try clear p2);(try clear c3);(try clear p3);(try clear q3);(try clear hx3);(try clear c6);(try clear c6b0);(try clear p6);(try clear c7);(try clear c7b0);(try clear c8);(try clear c8b0);(try clear c9);(try clear c11);(try clear c12);(try clear c14);(try clear c15);(try clear c20);(try clear c31);(try clear p31);(try clear q31);(try clear hx31);(try clear c37);(try clear c37b0);(try clear c37b1);(try clear hcz17_0);(try clear hcz17_1);(try clear hcz23_0);(try clear hcz23_1);(try clear hcz29_0);(try clear hcz29_1);(try clear hcz33_0);(try clear hcz33_1);(try clear hfz17_0);(try clear hfz17_1);(try clear hfz23_0);(try clear hfz23_1);(try clear hfz29_0);(try clear hfz29_1);(try clear hfz33_0);(try clear hfz33_1);(try clear hx318_0);(try clear p2);(try clear p318);(try clear q318);obtain ⟨kq, x7_34, HA, HJ34, HO_7, HB⟩ := hcut
     cases kq with
     | zero => exact absurd HA.out (by simp [use_Ask.j1])
     | succ kj34 =>
      have H := HA.out;clear HA;simp only [use_Ask.j1] at H;replace H := Option.bind_eq_some_iff.mp H;obtain ⟨⟨t335, t336, t337, t338, t339⟩, A430, H⟩ := H;replace H : (if t339 = true then ((use_lay.f kj34 x7_34 (⟨#[73, 102, 45, 77, 111, 100, 105, 102, 105, 101, 100, 45, 83, 105, 110, 99, 101]⟩ : ByteArray) t338).bind fun t341 => (some t341)) else (some x7_34)) = some r := H;have A43 := Aside0.mk A430;clear A430
      by_cases c44 : t339 = true
      ·subst c44;(have H1 : ((use_lay.f kj34 x7_34 (⟨#[73, 102, 45, 77, 111, 100, 105, 102, 105, 101, 100, 45, 83, 105, 110, 99, 101]⟩ : ByteArray) t338).bind fun t341 => (some t341)) = some r := by rw [if_pos rfl] at H; exact H);clear H;have H := H1;clear H1;replace H := Option.bind_eq_some_iff.mp H;obtain ⟨t341, A450, H⟩ := H;replace H : (some t341) = some r := H;have A45 := Aside0.mk A450;clear A450;obtain rfl := Option.some.inj H;go_wp2_with (first | ((with_reducible refine gate_callee (f:=8) rfl ?_); refine goesL_ (some 65) rfl rfl Tryz.func8 (by kernel_rfl) rfl #[.slice A2 l2.length c2] rfl (by (try simp only [List.map_toArray, List.map_cons, List.map_nil]); first | done | rfl | (simp only [List.length_drop, List.length_take]; rfl)) ?_; (with_reducible refine (use_Marks.calls kj34 _ _ l2 t335 t336 t337 t338 true _ ?side1 ?side2 A43.out).mono ?_); (case side1 => exact cA (Kd.C_below HR2.out HB.out)); (case side2 => exact HC2.out); rintro e w46 ⟨rfl, hb⟩; refine ⟨_, rfl, ?_⟩; have n0_ := Aside0.mk (Kd.R_below (rA HO_7.out) hb); have n1_ := Aside0.mk (below_step (hA HB.out) hb); clear HO_7; clear HB; have HO_7 := n0_; have HB := n1_; clear n0_ n1_; (try clear hb); (try clear hb2); (try clear hk); (try clear hi)) | ((with_reducible refine gate_dst (N:=17) rfl ?_); refine box_event ?hg (N:=17) ?hd (cs := #[.bool false, .string (⟨#[]⟩ : ByteArray)]) (t:=29) ?hr ?_; (case hd => rfl); (case hg => rfl); (case hr => first | (go_simp; done) | (go_simp; rfl)); intro gb340 hg w47 hbox hb; have n0_ := Aside0.mk (Kd.R_below (rA HO_7.out) hb); have n1_ := Aside0.mk (below_step (hA HB.out) hb); have n2_ := Aside0.mk (hbox); have n3_ := Aside0.mk ((by rw [hg]; exact (below_size (hA HB.out)) : w.heap.size ≤ gb340)); have n4_ := Aside0.mk ((by rw [hg]; exact (below_size (hA HB.out)) : w.heap.size ≤ gb340)); clear HO_7; clear HB; have HO_7 := n0_; have HB := n1_; have BK340 := n2_; have GW340 := n3_; have GE340 := n4_; clear n0_ n1_ n2_ n3_ n4_; clear hb hbox hg; have hcz48_0 := bC BK340.out 0 rfl; have hcz48_1 := bC BK340.out 1 rfl; have hfz48_0 := blk_frozen BK340.out 0; have hfz48_1 := blk_frozen BK340.out 1) | ((with_reducible refine gate_store (t:=29) (p:=17) rfl ?_); refine store_event (t:=29) (p:=17) (v:=?vo_w49) (w1 := ((w47.setCell ⟨gb340, 0, none⟩ (.bool t335)).setCell ⟨gb340, 1, none⟩ (.string t336))) ?hg ?ho ?hn ?hr ?_; (case ho => rfl); (case hg => rfl); (case hn => rfl); (case hr => first | (go_simp; done) | (go_simp; rfl)); intro w49 hw; have n0_ : Aside0 (Kd.R k33 33 w49 w.heap.size (fun _ => True) u7 x7_34) := ⟨(by rw [hw]; exact (by (with_reducible repeat (first | apply Kd.R_alloc | apply Kd.R_drewN | apply Kd.R_drew)); exact Kd.R_mono (Kd.R_far (p:=⟨gb340, 1, none⟩) (Kd.R_far (p:=⟨gb340, 0, none⟩) (Kd.R_types HO_7.out BK340.out (by decide)) (fun _ hk => hk.2) (.bool t335)) (fun _ hk => hk.2) (.string t336)) (fun _ hk => trivial)))⟩; have n1_ : Aside0 (w49.heap[gb340]? = some (.cells #[.bool t335, .string t336] 29 (0, 0))) := ⟨(by rw [hw]; exact (by (with_reducible repeat (first | refine blk_drewN ?_ _ | refine blk_drew ?_ | refine blk_alloc ?_ _)); refine blk_put (cs := #[.bool t335, .string (⟨#[]⟩ : ByteArray)]) ?_ 1 _ rfl; (with_reducible repeat (first | refine blk_drewN ?_ _ | refine blk_drew ?_ | refine blk_alloc ?_ _)); refine blk_put (cs := #[.bool false, .string (⟨#[]⟩ : ByteArray)]) ?_ 0 _ rfl; (with_reducible repeat (first | refine blk_drewN ?_ _ | refine blk_drew ?_ | refine blk_alloc ?_ _)); exact BK340.out))⟩; have n2_ : Aside0 (Below w.heap.size w w49) := ⟨(by rw [hw]; exact (hA1 HB.out GE340.out))⟩; clear hw; clear HO_7; clear BK340; clear HB; have HO_7 := n0_; have BK340 := n1_; have HB := n2_; clear n0_ n1_ n2_; obtain ⟨Ao50, co50, eo50⟩ := Kd.R_slice HO_7.out; subst eo50) | ((with_reducible refine gate_callee (f:=14) rfl ?_); refine goesL_ (some 73) rfl rfl Tryz.func14 (by kernel_rfl) rfl #[.slice Ao50 x7_34.length co50, .string (⟨#[73, 102, 45, 77, 111, 100, 105, 102, 105, 101, 100, 45, 83, 105, 110, 99, 101]⟩ : ByteArray), .string t338] rfl (by (try simp only [List.map_toArray, List.map_cons, List.map_nil]); first | done | rfl | (simp only [List.length_drop, List.length_take]; rfl)) ?_; (with_reducible refine (use_lay.calls kj34 (fun k_ => some k_ = (.slice Ao50 x7_34.length co50 : Value).ownBlock) (.slice Ao50 x7_34.length co50) x7_34 (⟨#[73, 102, 45, 77, 111, 100, 105, 102, 105, 101, 100, 45, 83, 105, 110, 99, 101]⟩ : ByteArray) t338 t341 w _ ?side1 ?side2 A45.out).mono ?_); (case side1 => repeat (first | (with_reducible first | exact HB.out | apply below_alloc | apply pw_below_drewN | apply below_drew1 | refine below_set ?_ GE340.out) | exact HB.out)); (case side2 => exact Kd.R_tight rfl HO_7.out); rintro e w51 ⟨v342, rfl, ho0, hb, hkp⟩; refine ⟨_, rfl, ?_⟩; have n0_ := Aside0.mk (blk_kept (bA BK340.out) hkp (fun hs_ => (fun e_ => (Kd.R_ne HO_7.out BK340.out (by decide)) e_) hs_)); have n1_ := Aside0.mk (Kd.R_mono (ok' := fun k_ => True) ho0 (fun k_ hk_ => trivial)); have n2_ := Aside0.mk (hb); clear BK340; clear HB; clear HO_7; have BK340 := n0_; have HO343 := n1_; have HB := n2_; clear n0_ n1_ n2_; (try clear hb); (try clear hkp); (try clear ho0)));go_ret;exact ⟨_, by first | rfl | (simp [errW_none, errW_some] <;> rfl) | (simp [*, errW_none, errW_some] <;> rfl), by (with_reducible repeat (first | apply Kd.R_alloc | apply Kd.R_drewN | apply Kd.R_drew)); exact HO343.out, by repeat (first | (with_reducible first | exact HB.out | apply below_alloc | apply pw_below_drewN | apply below_drew1 | refine below_set ?_ GE340.out) | exact HB.out)⟩
      ·replace c44 := Bool.eq_false_iff.mpr c44;subst c44;(have H1 : (some x7_34) = some r := by rw [if_neg (show ¬ (false = true) by decide)] at H; exact H);clear H;have H := H1;clear H1;obtain rfl := Option.some.inj H;go_wp2_with (first | ((with_reducible refine gate_callee (f:=8) rfl ?_); refine goesL_ (some 65) rfl rfl Tryz.func8 (by kernel_rfl) rfl #[.slice A2 l2.length c2] rfl (by (try simp only [List.map_toArray, List.map_cons, List.map_nil]); first | done | rfl | (simp only [List.length_drop, List.length_take]; rfl)) ?_; (with_reducible refine (use_Marks.calls kj34 _ _ l2 t335 t336 t337 t338 false _ ?side1 ?side2 A43.out).mono ?_); (case side1 => exact cA (Kd.C_below HR2.out HB.out)); (case side2 => exact HC2.out); rintro e w52 ⟨rfl, hb⟩; refine ⟨_, rfl, ?_⟩; have n0_ := Aside0.mk (Kd.R_below (rA HO_7.out) hb); have n1_ := Aside0.mk (below_step (hA HB.out) hb); clear HO_7; clear HB; have HO_7 := n0_; have HB := n1_; clear n0_ n1_; (try clear hb); (try clear hb2); (try clear hk); (try clear hi)) | ((with_reducible refine gate_dst (N:=17) rfl ?_); refine box_event ?hg (N:=17) ?hd (cs := #[.bool false, .string (⟨#[]⟩ : ByteArray)]) (t:=29) ?hr ?_; (case hd => rfl); (case hg => rfl); (case hr => first | (go_simp; done) | (go_simp; rfl)); intro gb340 hg w53 hbox hb; have n0_ := Aside0.mk (Kd.R_below (rA HO_7.out) hb); have n1_ := Aside0.mk (below_step (hA HB.out) hb); have n2_ := Aside0.mk (hbox); have n3_ := Aside0.mk ((by rw [hg]; exact (below_size (hA HB.out)) : w.heap.size ≤ gb340)); have n4_ := Aside0.mk ((by rw [hg]; exact (below_size (hA HB.out)) : w.heap.size ≤ gb340)); clear HO_7; clear HB; have HO_7 := n0_; have HB := n1_; have BK340 := n2_; have GW340 := n3_; have GE340 := n4_; clear n0_ n1_ n2_ n3_ n4_; clear hb hbox hg; have hcz54_0 := bC BK340.out 0 rfl; have hcz54_1 := bC BK340.out 1 rfl; have hfz54_0 := blk_frozen BK340.out 0; have hfz54_1 := blk_frozen BK340.out 1));go_ret;exact ⟨_, by first | rfl | (simp [errW_none, errW_some] <;> rfl) | (simp [*, errW_none, errW_some] <;> rfl), by (with_reducible repeat (first | apply Kd.R_alloc | apply Kd.R_drewN | apply Kd.R_drew)); exact Kd.R_mono (Kd.R_far (p:=⟨gb340, 1, none⟩) (Kd.R_far (p:=⟨gb340, 0, none⟩) (Kd.R_types HO_7.out BK340.out (by decide)) (fun _ hk => hk.2) (.bool t335)) (fun _ hk => hk.2) (.string t336)) (fun _ hk => trivial), by repeat (first | (with_reducible first | exact HB.out | apply below_alloc | apply pw_below_drewN | apply below_drew1 | refine below_set ?_ GE340.out) | exact HB.out)⟩
/-! ### sprref_Fields: function 7 -/
def sprref_Fields.l0 : Nat → List (S33) → List (S33) → Int → Option (Bool)
 | 0, _, _, _ => none
 | k + 1, x0, x1, x5 => if x5 < (x0.length : Int) then (if 0 ≤ x5 then (if x5 < (x1.length : Int) then (if ((rd_T33 x0 x5).f0).toList = ((rd_T33 x1 x5).f0).toList then (if ((rd_T33 x0 x5).f1).toList = ((rd_T33 x1 x5).f1).toList then (sprref_Fields.l0 k x0 x1 (wrap64 (x5 + 1))) else (some false)) else (some false)) else (none)) else (none)) else (some true)
def sprref_Fields.f (k : Nat) (l0 : List (S33)) (l1 : List (S33)) : Option (Bool) := if (l0.length : Int) = (l1.length : Int) then (sprref_Fields.l0 k l0 l1 0) else (some false)
theorem sprref_Fields.mono_l : ∀ k, (∀ y0 y1 y2, LeO (sprref_Fields.l0 k y0 y1 y2) (sprref_Fields.l0 (k + 1) y0 y1 y2))
 | 0 => fun _ _ _ r h => by simp [sprref_Fields.l0] at h
 | k + 1 => by
  have ih0 := sprref_Fields.mono_l k
  ·intro y0 y1 y2
   unfold sprref_Fields.l0
   repeat' first
   | (with_reducible exact ih0 _ _ _)
   | (with_reducible exact LeO.refl _)
   | (with_reducible exact LeO.none _)
   | (with_reducible refine LeO.ite ?_ ?_)
   | (with_reducible refine LeO.bind ?_ (fun _ => ?_))
   | exact ih0 _ _ _
   | exact LeO.none _
   | refine LeO.ite ?_ ?_
   | refine LeO.bind ?_ (fun _ => ?_)
theorem sprref_Fields.mono : ∀ a0 a1 k, LeO (sprref_Fields.f k a0 a1) (sprref_Fields.f (k + 1) a0 a1) := by
 intro a0 a1 k;have ih0 := sprref_Fields.mono_l k
 unfold sprref_Fields.f
 repeat' first
   | (with_reducible exact ih0 _ _ _)
   | (with_reducible exact LeO.refl _)
   | (with_reducible exact LeO.none _)
   | (with_reducible refine LeO.ite ?_ ?_)
   | (with_reducible refine LeO.bind ?_ (fun _ => ?_))
   | exact ih0 _ _ _
   | exact LeO.none _
   | refine LeO.ite ?_ ?_
   | refine LeO.bind ?_ (fun _ => ?_)
set_option maxHeartbeats 2000000 in
set_option maxRecDepth 100000 in
theorem sprref_Fields.calls (k : Nat) (A0 : Option Addr) (c0 : Nat) (l0 : List (S33)) (A1 : Option Addr) (c1 : Nat) (l1 : List (S33)) (r : Bool) (w : World) (hr0 : Kd.C k33 w A0 l0.length l0) (hc0 : l0.length ≤ c0) (hr1 : Kd.C k33 w A1 l1.length l1) (hc1 : l1.length ≤ c1) (h : sprref_Fields.f k l0 l1 = some r) :
  Calls Tryz.prog 7 #[.slice A0 l0.length c0, .slice A1 l1.length c1] w fun e w' => e = .returned (.bool r) ∧ Drawn0 w w' := by
 have HR0 := Aside0.mk hr0;have HC0 := Aside0.mk hc0;clear hr0 hc0;have HR1 := Aside0.mk hr1;have HC1 := Aside0.mk hc1;clear hr1 hc1;have H : (if (l0.length : Int) = (l1.length : Int) then (sprref_Fields.l0 k l0 l1 0) else (some false)) = some r := h;clear h
 by_cases c3 : (l0.length : Int) = (l1.length : Int)
 ·rw [if_pos c3] at H
  have c3b0 : ((l0.length : Int) == (l1.length : Int)) = true := beq_iff_eq.mpr c3;have c3b1 : ((l0.length : Int) != (l1.length : Int)) = false := bne_eq_false_iff_eq.mpr c3;(have c3b2 : (l0.length == l1.length) = true := by first | simpa using c3 | (simp at c3 ⊢; omega));clear c3;have H' := Aside0.mk H;clear H;go_enter Tryz.func7, Tryz.ntmps7;go_wp2
  repeat (go_quiet (fail); try go_wp2)
  go_loopg [5] k (fun kq v5 w' => ∃ (x5_1 : Int), v5 = .int .i64 x5_1 ∧ Aside0 (sprref_Fields.l0 kq l0 l1 x5_1 = some r) ∧ Aside0 (kq ≤ k) ∧ Drawn0 w w')
  case atStart => exact ⟨(0), (by first | rfl | (simp; done) | (simp [*]; done)), H', ⟨Nat.le_refl _⟩, by repeat (first | exact Drawn0.refl _ | apply Drawn0.step)⟩
  case round =>
   clear H';(try clear c1);(try clear p2);(try clear c3);(try clear c3b0);(try clear c3b1);(try clear c3b2);obtain ⟨x5_1, rfl, HA, HK1, ⟨m1, rfl⟩⟩ := hrel
   cases gk with
   | zero => exact absurd HA.out (by simp [sprref_Fields.l0])
   | succ k1 =>
    have H := HA.out;clear HA;simp only [sprref_Fields.l0] at H
    by_cases c4 : x5_1 < (l0.length : Int)
    ·rw [if_pos c4] at H
     have c4b0 : decide (x5_1 < (l0.length : Int)) = true := decide_eq_true c4;clear c4
     by_cases c5 : 0 ≤ x5_1
     ·rw [if_pos c5] at H
      have c5b0 : decide (0 ≤ x5_1) = true := decide_eq_true c5;clear c5
      by_cases c6 : x5_1 < (l1.length : Int)
      ·rw [if_pos c6] at H
       have c6b0 : decide (x5_1 < (l1.length : Int)) = true := decide_eq_true c6;clear c6
       by_cases c7 : ((rd_T33 l0 x5_1).f0).toList = ((rd_T33 l1 x5_1).f0).toList
       ·rw [if_pos c7] at H
        have c7b0 : (((rd_T33 l0 x5_1).f0).toList == ((rd_T33 l1 x5_1).f0).toList) = true := beq_iff_eq.mpr c7;have c7b1 : (((rd_T33 l0 x5_1).f0).toList != ((rd_T33 l1 x5_1).f0).toList) = false := bne_eq_false_iff_eq.mpr c7;clear c7
        by_cases c8 : ((rd_T33 l0 x5_1).f1).toList = ((rd_T33 l1 x5_1).f1).toList
        ·rw [if_pos c8] at H
         have c8b0 : (((rd_T33 l0 x5_1).f1).toList == ((rd_T33 l1 x5_1).f1).toList) = true := beq_iff_eq.mpr c8;have c8b1 : (((rd_T33 l0 x5_1).f1).toList != ((rd_T33 l1 x5_1).f1).toList) = false := bne_eq_false_iff_eq.mpr c8;clear c8;have H' := Aside0.mk H;clear H;have p344 : 0 ≤ (x5_1 : Int) := of_decide_eq_true (by first | (with_reducible assumption) | assumption);have q344 : x5_1 < (l0.length : Int) := of_decide_eq_true (by first | (with_reducible assumption) | assumption);obtain ⟨ad344, e344, hx344_0, hx344_1⟩ := at_T33 HR0.out x5_1 p344 q344
         cases e344
         replace p344 := eq_true p344;replace q344 := eq_true q344;have p345 : 0 ≤ (x5_1 : Int) := of_decide_eq_true (by first | (with_reducible assumption) | assumption);have q345 : x5_1 < (l1.length : Int) := of_decide_eq_true (by first | (with_reducible assumption) | assumption);obtain ⟨ad345, e345, hx345_0, hx345_1⟩ := at_T33 HR1.out x5_1 p345 q345
         cases e345
         replace p345 := eq_true p345;replace q345 := eq_true q345;have p346 : 0 ≤ (x5_1 : Int) := of_decide_eq_true (by first | (with_reducible assumption) | assumption);have q346 : x5_1 < (l0.length : Int) := of_decide_eq_true (by first | (with_reducible assumption) | assumption);obtain ⟨ad346, e346, hx346_0, hx346_1⟩ := at_T33 HR0.out x5_1 p346 q346;obtain rfl : ad344 = ad346 := (by injection e346);replace p346 := eq_true p346;replace q346 := eq_true q346;have p347 : 0 ≤ (x5_1 : Int) := of_decide_eq_true (by first | (with_reducible assumption) | assumption);have q347 : x5_1 < (l1.length : Int) := of_decide_eq_true (by first | (with_reducible assumption) | assumption);obtain ⟨ad347, e347, hx347_0, hx347_1⟩ := at_T33 HR1.out x5_1 p347 q347;obtain rfl : ad345 = ad347 := (by injection e347);replace p347 := eq_true p347;replace q347 := eq_true q347;go_wp2
         repeat (go_quiet (fail); try go_wp2)
         go_roundg k1
         case measure => have := HK1.out; omega
         case rel => exact ⟨(wrap64 (x5_1 + 1)), (by first | rfl | (simp; done) | (simp [*]; done)), H', ⟨by have := HK1.out; omega⟩, by repeat (first | exact Drawn0.refl _ | apply Drawn0.step)⟩
        ·rw [if_neg c8] at H
         have c8b0 : (((rd_T33 l0 x5_1).f1).toList == ((rd_T33 l1 x5_1).f1).toList) = false := beq_eq_false_iff_ne.mpr c8;have c8b1 : (((rd_T33 l0 x5_1).f1).toList != ((rd_T33 l1 x5_1).f1).toList) = true := bne_iff_ne.mpr c8;obtain rfl := Option.some.inj H;have p344 : 0 ≤ (x5_1 : Int) := of_decide_eq_true (by first | (with_reducible assumption) | assumption);have q344 : x5_1 < (l0.length : Int) := of_decide_eq_true (by first | (with_reducible assumption) | assumption);obtain ⟨ad344, e344, hx344_0, hx344_1⟩ := at_T33 HR0.out x5_1 p344 q344
         cases e344
         replace p344 := eq_true p344;replace q344 := eq_true q344;have p345 : 0 ≤ (x5_1 : Int) := of_decide_eq_true (by first | (with_reducible assumption) | assumption);have q345 : x5_1 < (l1.length : Int) := of_decide_eq_true (by first | (with_reducible assumption) | assumption);obtain ⟨ad345, e345, hx345_0, hx345_1⟩ := at_T33 HR1.out x5_1 p345 q345
         cases e345
         replace p345 := eq_true p345;replace q345 := eq_true q345;have p346 : 0 ≤ (x5_1 : Int) := of_decide_eq_true (by first | (with_reducible assumption) | assumption);have q346 : x5_1 < (l0.length : Int) := of_decide_eq_true (by first | (with_reducible assumption) | assumption);obtain ⟨ad346, e346, hx346_0, hx346_1⟩ := at_T33 HR0.out x5_1 p346 q346;obtain rfl : ad344 = ad346 := (by injection e346);replace p346 := eq_true p346;replace q346 := eq_true q346;have p347 : 0 ≤ (x5_1 : Int) := of_decide_eq_true (by first | (with_reducible assumption) | assumption);have q347 : x5_1 < (l1.length : Int) := of_decide_eq_true (by first | (with_reducible assumption) | assumption);obtain ⟨ad347, e347, hx347_0, hx347_1⟩ := at_T33 HR1.out x5_1 p347 q347;obtain rfl : ad345 = ad347 := (by injection e347);replace p347 := eq_true p347;replace q347 := eq_true q347;go_wp2
         repeat (go_quiet (fail); try go_wp2)
         go_ret;exact ⟨by first | rfl | (simp; done) | (simp [*]; done), by repeat (first | exact Drawn0.refl _ | apply Drawn0.step)⟩
       ·rw [if_neg c7] at H
        have c7b0 : (((rd_T33 l0 x5_1).f0).toList == ((rd_T33 l1 x5_1).f0).toList) = false := beq_eq_false_iff_ne.mpr c7;have c7b1 : (((rd_T33 l0 x5_1).f0).toList != ((rd_T33 l1 x5_1).f0).toList) = true := bne_iff_ne.mpr c7;obtain rfl := Option.some.inj H;have p344 : 0 ≤ (x5_1 : Int) := of_decide_eq_true (by first | (with_reducible assumption) | assumption);have q344 : x5_1 < (l0.length : Int) := of_decide_eq_true (by first | (with_reducible assumption) | assumption);obtain ⟨ad344, e344, hx344_0, hx344_1⟩ := at_T33 HR0.out x5_1 p344 q344
        cases e344
        replace p344 := eq_true p344;replace q344 := eq_true q344;have p345 : 0 ≤ (x5_1 : Int) := of_decide_eq_true (by first | (with_reducible assumption) | assumption);have q345 : x5_1 < (l1.length : Int) := of_decide_eq_true (by first | (with_reducible assumption) | assumption);obtain ⟨ad345, e345, hx345_0, hx345_1⟩ := at_T33 HR1.out x5_1 p345 q345
        cases e345
        replace p345 := eq_true p345;replace q345 := eq_true q345;go_wp2
        repeat (go_quiet (fail); try go_wp2)
        go_ret;exact ⟨by first | rfl | (simp; done) | (simp [*]; done), by repeat (first | exact Drawn0.refl _ | apply Drawn0.step)⟩
      ·rw [if_neg c6] at H;exact absurd H (by simp)
     ·rw [if_neg c5] at H;exact absurd H (by simp)
    ·rw [if_neg c4] at H
     have c4b0 : decide (x5_1 < (l0.length : Int)) = false := decide_eq_false c4;clear c4;obtain rfl := Option.some.inj H;go_wp2
     repeat (go_quiet (fail); try go_wp2)
     go_ret;exact ⟨by first | rfl | (simp; done) | (simp [*]; done), by repeat (first | exact Drawn0.refl _ | apply Drawn0.step)⟩
 ·rw [if_neg c3] at H
  have c3b0 : ((l0.length : Int) == (l1.length : Int)) = false := beq_eq_false_iff_ne.mpr c3;have c3b1 : ((l0.length : Int) != (l1.length : Int)) = true := bne_iff_ne.mpr c3;(have c3b2 : (l0.length == l1.length) = false := by first | simpa using c3 | (simp at c3 ⊢; omega));obtain rfl := Option.some.inj H;go_enter Tryz.func7, Tryz.ntmps7;go_wp2
  repeat (go_quiet (fail); try go_wp2)
  go_ret;exact ⟨by first | rfl | (simp; done) | (simp [*]; done), by repeat (first | exact Drawn0.refl _ | apply Drawn0.step)⟩
/-! ### sprlaw21_within: function 10 -/
def sprlaw21_within.l0 : Nat → ByteArray → ByteArray → Int → Option (Bool)
 | 0, _, _, _ => none
 | k + 1, x0, x1, x5 => if (wrap64 (x5 + (x1.size : Int))) ≤ (x0.size : Int) then (if 0 ≤ x5 then (if x5 ≤ (wrap64 (x5 + (x1.size : Int))) then (if (x0.extract (x5 : Int).toNat ((wrap64 (x5 + (x1.size : Int))) : Int).toNat).toList = x1.toList then (some true) else (sprlaw21_within.l0 k x0 x1 (wrap64 (x5 + 1)))) else (none)) else (none)) else (some false)
def sprlaw21_within.f (k : Nat) (a0 : ByteArray) (a1 : ByteArray) : Option (Bool) := sprlaw21_within.l0 k a0 a1 0
theorem sprlaw21_within.mono_l : ∀ k, (∀ y0 y1 y2, LeO (sprlaw21_within.l0 k y0 y1 y2) (sprlaw21_within.l0 (k + 1) y0 y1 y2))
 | 0 => fun _ _ _ r h => by simp [sprlaw21_within.l0] at h
 | k + 1 => by
  have ih0 := sprlaw21_within.mono_l k
  ·intro y0 y1 y2
   unfold sprlaw21_within.l0
   repeat' first
   | (with_reducible exact ih0 _ _ _)
   | (with_reducible exact LeO.refl _)
   | (with_reducible exact LeO.none _)
   | (with_reducible refine LeO.ite ?_ ?_)
   | (with_reducible refine LeO.bind ?_ (fun _ => ?_))
   | exact ih0 _ _ _
   | exact LeO.none _
   | refine LeO.ite ?_ ?_
   | refine LeO.bind ?_ (fun _ => ?_)
theorem sprlaw21_within.mono : ∀ a0 a1 k, LeO (sprlaw21_within.f k a0 a1) (sprlaw21_within.f (k + 1) a0 a1) := by
 intro a0 a1 k;have ih0 := sprlaw21_within.mono_l k
 unfold sprlaw21_within.f
 repeat' first
   | (with_reducible exact ih0 _ _ _)
   | (with_reducible exact LeO.refl _)
   | (with_reducible exact LeO.none _)
   | (with_reducible refine LeO.ite ?_ ?_)
   | (with_reducible refine LeO.bind ?_ (fun _ => ?_))
   | exact ih0 _ _ _
   | exact LeO.none _
   | refine LeO.ite ?_ ?_
   | refine LeO.bind ?_ (fun _ => ?_)
set_option maxHeartbeats 2000000 in
set_option maxRecDepth 100000 in
theorem sprlaw21_within.calls (k : Nat) (a0 : ByteArray) (a1 : ByteArray) (r : Bool) (w : World) (h : sprlaw21_within.f k a0 a1 = some r) :
  Calls Tryz.prog 10 #[.string a0, .string a1] w fun e w' => e = .returned (.bool r) ∧ Drawn0 w w' := by
 have H : (sprlaw21_within.l0 k a0 a1 0) = some r := h;clear h;have H' := Aside0.mk H;clear H;go_enter Tryz.func10, Tryz.ntmps10;go_wp2;go_loopg [5] k (fun kq v5 w' => ∃ (x5_1 : Int), v5 = .int .i64 x5_1 ∧ Aside0 (sprlaw21_within.l0 kq a0 a1 x5_1 = some r) ∧ Aside0 (kq ≤ k) ∧ Drawn0 w w')
 case atStart => exact ⟨(0), (by first | rfl | (simp; done) | (simp [*]; done)), H', ⟨Nat.le_refl _⟩, by repeat (first | exact Drawn0.refl _ | apply Drawn0.step)⟩
 case round =>
  clear H';(try clear c1);(try clear p2);obtain ⟨x5_1, rfl, HA, HK1, ⟨m1, rfl⟩⟩ := hrel
  cases gk with
  | zero => exact absurd HA.out (by simp [sprlaw21_within.l0])
  | succ k1 =>
   have H := HA.out;clear HA;simp only [sprlaw21_within.l0] at H
   by_cases c3 : (wrap64 (x5_1 + (a1.size : Int))) ≤ (a0.size : Int)
   ·rw [if_pos c3] at H
    have c3b0 : decide ((wrap64 (x5_1 + (a1.size : Int))) ≤ (a0.size : Int)) = true := decide_eq_true c3;clear c3
    by_cases c4 : 0 ≤ x5_1
    ·rw [if_pos c4] at H
     have c4b0 := eq_true c4;have c4b1 : decide (0 ≤ x5_1) = true := decide_eq_true c4;clear c4
     by_cases c5 : x5_1 ≤ (wrap64 (x5_1 + (a1.size : Int)))
     ·rw [if_pos c5] at H
      have c5b0 := eq_true c5;have c5b1 : decide (x5_1 ≤ (wrap64 (x5_1 + (a1.size : Int)))) = true := decide_eq_true c5;have c6b0 := eq_true (of_decide_eq_true (by first | (with_reducible assumption) | assumption) : (wrap64 (x5_1 + (a1.size : Int))) ≤ (a0.size : Int))
      by_cases c7 : (a0.extract (x5_1 : Int).toNat ((wrap64 (x5_1 + (a1.size : Int))) : Int).toNat).toList = a1.toList
      ·rw [if_pos c7] at H;have c7b0 : ((a0.extract (x5_1 : Int).toNat ((wrap64 (x5_1 + (a1.size : Int))) : Int).toNat).toList == a1.toList) = true := beq_iff_eq.mpr c7;have c7b1 : ((a0.extract (x5_1 : Int).toNat ((wrap64 (x5_1 + (a1.size : Int))) : Int).toNat).toList != a1.toList) = false := bne_eq_false_iff_eq.mpr c7;clear c7;obtain rfl := Option.some.inj H;go_wp2;go_ret;exact ⟨by first | rfl | (simp; done) | (simp [*]; done), by repeat (first | exact Drawn0.refl _ | apply Drawn0.step)⟩
      ·rw [if_neg c7] at H
       have c7b0 : ((a0.extract (x5_1 : Int).toNat ((wrap64 (x5_1 + (a1.size : Int))) : Int).toNat).toList == a1.toList) = false := beq_eq_false_iff_ne.mpr c7;have c7b1 : ((a0.extract (x5_1 : Int).toNat ((wrap64 (x5_1 + (a1.size : Int))) : Int).toNat).toList != a1.toList) = true := bne_iff_ne.mpr c7;have H' := Aside0.mk H;clear H;go_wp2;go_roundg k1
       case measure => have := HK1.out; omega
       case rel => exact ⟨(wrap64 (x5_1 + 1)), (by first | rfl | (simp; done) | (simp [*]; done)), H', ⟨by have := HK1.out; omega⟩, by repeat (first | exact Drawn0.refl _ | apply Drawn0.step)⟩
     ·rw [if_neg c5] at H;exact absurd H (by simp)
    ·rw [if_neg c4] at H;exact absurd H (by simp)
   ·rw [if_neg c3] at H;have c3b0 : decide ((wrap64 (x5_1 + (a1.size : Int))) ≤ (a0.size : Int)) = false := decide_eq_false c3;clear c3;obtain rfl := Option.some.inj H;go_wp2;go_ret;exact ⟨by first | rfl | (simp; done) | (simp [*]; done), by repeat (first | exact Drawn0.refl _ | apply Drawn0.step)⟩
end Go.Proofs.YtfjeagglminhoaaGreatDoor.Q
