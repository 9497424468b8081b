-- Written by a program of this session's (wip/xprint.py), out of the seat's translation.
import Derived.Test.YtkaegbamkdgjjaaDoorG0
import Derived.Test.YtkaegbamkdgjjaaDoorG10
namespace Go.Proofs.YtkaegbamkdgjjaaDoor.G
open Go.RowKit Go.Proofs.YtkaegbamkdgjjaaDoorW.PrintWords Go.Proofs.YtkaegbamkdgjjaaDoorW.PrintLast Go.Proofs.YtkaegbamkdgjjaaDoorW.PrintMore
attribute [local go_sem] max2_int min2_int max_two min_two max_three min_three max_four min_four   -- for this text's walks alone
set_option linter.unusedVariables false
set_option linter.unusedSimpArgs false

/-! ### sprref7_PrintForm: function 14 -/
def sprref7_PrintForm.body (rec : ByteArray → Option ByteArray) (pa pb : Option ByteArray) (s : ByteArray) : Option ByteArray :=
  pa.bind fun a => (if a.size + 1 ≤ 9223372036854775807 then (pb.bind fun b => (if (a ++ (⟨#[61]⟩ : ByteArray)).size + b.size ≤ 9223372036854775807 then (if s.size + ((a ++ (⟨#[61]⟩ : ByteArray)) ++ b).size ≤ 9223372036854775807 then rec (s ++ ((a ++ (⟨#[61]⟩ : ByteArray)) ++ b)) else none) else none)) else none)
def sprref7_PrintForm.l0 : Nat → ByteArray → List S33 → Int → Option ByteArray
  | 0, _, _, _ => none
  | k + 1, s, l, i => if i < (l.length : Int) then (if 0 ≤ i then (if (rd_T33 l i).f0.size ≤ 9223372036854775807 ∧ (rd_T33 l i).f1.size ≤ 9223372036854775807 then (if i > 0 then (if s.size + 1 ≤ 9223372036854775807 then (sprref7_PrintForm.body (fun x => sprref7_PrintForm.l0 k x l (wrap64 (i + 1))) (sprref1_Percent.f k 8 (bytesOf (rd_T33 l i).f0)) (sprref1_Percent.f k 8 (bytesOf (rd_T33 l i).f1)) (s ++ (⟨#[38]⟩ : ByteArray))) else none) else (sprref7_PrintForm.body (fun x => sprref7_PrintForm.l0 k x l (wrap64 (i + 1))) (sprref1_Percent.f k 8 (bytesOf (rd_T33 l i).f0)) (sprref1_Percent.f k 8 (bytesOf (rd_T33 l i).f1)) s)) else (none)) else (none)) else (some s)
def sprref7_PrintForm.f (k : Nat) (l : List S33) : Option ByteArray := sprref7_PrintForm.l0 k ⟨#[]⟩ l 0
theorem sprref7_PrintForm.mono_l : ∀ k, (∀ y0 y1 y2, LeO (sprref7_PrintForm.l0 k y0 y1 y2) (sprref7_PrintForm.l0 (k + 1) y0 y1 y2))
  | 0 => fun _ _ _ r h => by simp [sprref7_PrintForm.l0] at h
  | k + 1 => by
    have ih0 := sprref7_PrintForm.mono_l k
    intro y0 y1 y2
    unfold sprref7_PrintForm.l0 sprref7_PrintForm.body
    repeat' first
      | (with_reducible exact ih0 _ _ _)
      | (with_reducible exact sprref1_Percent.mono _ _ _)
      | (with_reducible exact LeO.refl _)
      | (with_reducible exact LeO.none _)
      | (with_reducible refine LeO.ite ?_ ?_)
      | (with_reducible refine LeO.bind ?_ (fun _ => ?_))
      | exact ih0 _ _ _
      | exact sprref1_Percent.mono _ _ _
      | exact LeO.none _
      | refine LeO.ite ?_ ?_
      | refine LeO.bind ?_ (fun _ => ?_)
theorem sprref7_PrintForm.mono : ∀ a0 k, LeO (sprref7_PrintForm.f k a0) (sprref7_PrintForm.f (k + 1) a0) := fun _ k => sprref7_PrintForm.mono_l k _ _ _
section
variable {P : Program} {ops : Array Oper}
theorem cf_bytes {e : Operand → Value} {o : Oper} {x : Operand} (w : World) (s : ByteArray) (ho : o.op = .convert 9 43 x) (hx : e x = .string s) : (execOp e o).run Tryd.prog w = .ok (.value (.slice (some ⟨w.heap.size, 0, none⟩) (bytesOf s).length (grownCap w s.size 0 5))) (Lib.bytesWorld w 5 s) := by
  have hconv := Lib.run_convert_string_bytes (P := Tryd.prog) w 9 43 5 s Tryd.underlying9 Tryd.underlying43 Tryd.underlying5
  unfold execOp
  rw [bytesOf_length]
  simp only [ho, hx, Sem.run_bind, Sem.run_pure, Result.andThen_ok, hconv]
theorem cf_reads (w : World) (s : ByteArray) (hs : s.size ≤ 9223372036854775807) : Kd.C (Kd.int .u8) (Lib.bytesWorld w 5 s) (some ⟨w.heap.size, 0, none⟩) (bytesOf s).length (bytesOf s) := by
  rw [bytesOf_length]
  exact Kd.C_of_reads (enc := Value.int .u8) (d := (0 : Int)) (h1 := fun _ => rfl) (bytes_reads w 5 s hs)
end
set_option maxHeartbeats 4000000 in
set_option maxRecDepth 100000 in
theorem sprref7_PrintForm.calls (k : Nat) (A0 : Option Addr) (c0 : Nat) (l0 : List S33) (r : ByteArray) (w : World) (hr0 : Kd.C k33 w A0 l0.length l0) (hc0 : l0.length ≤ c0) (h : sprref7_PrintForm.f k l0 = some r) :
    Calls Tryd.prog 14 #[.slice A0 l0.length c0] w fun e w' => e = .returned (.string r) ∧ Below w.heap.size w w' := by
  have HR0 := Aside0.mk hr0
  have HC0 := Aside0.mk hc0
  clear hr0 hc0
  have HB := Aside0.mk (Below.refl w.heap.size w)
  have H' := Aside0.mk (show sprref7_PrintForm.l0 k ⟨#[]⟩ l0 0 = some r from h)
  clear h
  go_enter Tryd.func14, Tryd.ntmps14
  go_wp2
  go_loopg [3, 4] k (fun kq v3 v4 w' => ∃ (s : ByteArray) (x4 : Int), v3 = .string s ∧ v4 = .int .i64 x4 ∧ Aside0 (sprref7_PrintForm.l0 kq s l0 x4 = some r) ∧ Aside0 (kq ≤ k) ∧ Aside0 (Below w.heap.size w w'))
  case atStart => exact ⟨⟨#[]⟩, 0, rfl, rfl, H', ⟨Nat.le_refl _⟩, ⟨by repeat (first | (with_reducible first | exact HB.out | apply below_alloc | apply pw_below_drewN | apply below_drew1) | exact HB.out)⟩⟩
  case round =>
    clear H' HB
    obtain ⟨s, i, rfl, rfl, HA, HK1, HB⟩ := hrel
    cases gk with
    | zero => exact absurd HA.out (by simp [sprref7_PrintForm.l0])
    | succ k1 =>
      have H := HA.out
      clear HA
      simp only [sprref7_PrintForm.l0] at H
      by_cases c2 : i < (l0.length : Int)
      · rw [if_pos c2] at H
        have c2b0 : decide (i < (l0.length : Int)) = true := decide_eq_true c2
        by_cases c3 : 0 ≤ i
        · rw [if_pos c3] at H
          obtain ⟨ad, e225, hx0, hx1⟩ := at_T33 HR0.out i c3 c2
          cases e225
          replace hx0 := (HB.out.cell (World.block_lt_of_cell? w _ hx0)).trans hx0
          replace hx1 := (HB.out.cell (World.block_lt_of_cell? w _ hx1)).trans hx1
          generalize (rd_T33 l0 i).f0 = nm at H hx0
          generalize (rd_T33 l0 i).f1 = vl at H hx1
          by_cases c4 : nm.size ≤ 9223372036854775807 ∧ vl.size ≤ 9223372036854775807
          · rw [if_pos c4] at H
            have C4 := Aside0.mk c4
            have HX0 := Aside0.mk hx0
            have HX1 := Aside0.mk hx1
            have p225 := eq_true c3
            have q225 := eq_true c2
            clear c4 hx0 hx1 c2 c3
            by_cases c8 : i > 0
            · rw [if_pos c8] at H
              have c8b : decide (0 < i) = true := decide_eq_true c8
              by_cases c9 : s.size + 1 ≤ 9223372036854775807
              · rw [if_pos c9] at H
                have c9b : (9223372036854775807 < s.size + 1) = False := eq_false (Nat.not_lt.2 c9)
                have e38 : (s ++ (⟨#[38]⟩ : ByteArray)).size = s.size + 1 := by rw [ByteArray.size_append]; rfl
                have E38 := Aside0.mk e38
                clear c9 e38
                unfold sprref7_PrintForm.body at H
                obtain ⟨a, hA0, H⟩ := Option.bind_eq_some_iff.mp H
                by_cases c5 : a.size + 1 ≤ 9223372036854775807
                · rw [if_pos c5] at H
                  obtain ⟨b, hB0, H⟩ := Option.bind_eq_some_iff.mp H
                  by_cases c6 : (a ++ (⟨#[61]⟩ : ByteArray)).size + b.size ≤ 9223372036854775807
                  · rw [if_pos c6] at H
                    by_cases c7 : (s ++ (⟨#[38]⟩ : ByteArray)).size + ((a ++ (⟨#[61]⟩ : ByteArray)) ++ b).size ≤ 9223372036854775807
                    · rw [if_pos c7] at H
                      have A1 := Aside0.mk hA0
                      have A2 := Aside0.mk hB0
                      have H' := Aside0.mk H
                      have e61 : (⟨#[61]⟩ : ByteArray).size = 1 := rfl
                      have c5b : (9223372036854775807 < a.size + 1) = False := eq_false (Nat.not_lt.2 c5)
                      have c6b : (9223372036854775807 < a.size + 1 + b.size) = False := eq_false (by rw [ByteArray.size_append] at c6; omega)
                      have c7b : (9223372036854775807 < (s.size + 1) + (a.size + 1 + b.size)) = False := eq_false (by simp only [ByteArray.size_append] at c7; have e38 : (⟨#[38]⟩ : ByteArray).size = 1 := rfl; omega)
                      clear hA0 hB0 H c5 c6 c7 e61
                      go_wp2_with fail
                      have n0_ := Aside0.mk (below_drew1 HB.out); have n1_ := Aside0.mk ((World.cell?_drew _ _).trans HX0.out); have n2_ := Aside0.mk ((World.cell?_drew _ _).trans HX1.out); clear HB HX0 HX1; have HB := n0_; have HX0 := n1_; have HX1 := n2_; clear n0_ n1_ n2_
                      refine start_ (n := 19) (S := fun w' => w'.cell? (ad.add (i.toNat * 2)) = some (.string nm) ∧ w'.cell? ⟨(ad.add (i.toNat * 2)).block, (ad.add (i.toNat * 2)).off + 1, none⟩ = some (.string vl)) (ds := []) #[false, false, false, false, false, false, false, false, false, false, false, false, false, false, false, false, false, false, false] (by kernel_rfl) rfl rfl ⟨HX0.out, HX1.out⟩ (fun hHeld => ?_)
                      generalize World.drew _ = wd at HB HX0 HX1 hHeld ⊢
                      refine pure_ (i := 0) (N := some 15) (v := ?_) (a' := ?_) #[true, false, false, false, false, false, false, false, false, false, false, false, false, false, false, false, false, false, false] rfl rfl (by kernel_rfl) (fun _ _ _ h => h) (Or.inl ⟨by rfl, ?_⟩) ?_ ?_
                      rotate_left
                      · intro w'
                        go_simp
                        with_reducible rfl
                      rotate_left
                      · simp only [Act.put, List.setIfInBounds_toArray, List.set_cons_zero, List.set_cons_succ, i64_w, i32_w]
                        rfl
                      refine pure_ (i := 1) (N := some 16) (v := ?_) (a' := ?_) #[true, true, false, false, false, false, false, false, false, false, false, false, false, false, false, false, false, false, false] rfl rfl (by kernel_rfl) (fun _ _ _ h => h) (Or.inl ⟨by rfl, ?_⟩) ?_ ?_
                      rotate_left
                      · intro w'
                        go_simp
                        with_reducible rfl
                      rotate_left
                      · simp only [Act.put, List.setIfInBounds_toArray, List.set_cons_zero, List.set_cons_succ, i64_w, i32_w]
                        rfl
                      refine pure_ (i := 2) (N := some 17) (v := ?_) (a' := ?_) #[true, true, true, false, false, false, false, false, false, false, false, false, false, false, false, false, false, false, false] rfl rfl (by kernel_rfl) (fun _ _ _ h => h) (Or.inl ⟨by rfl, ?_⟩) ?_ ?_
                      rotate_left
                      · intro w'
                        go_simp
                        with_reducible rfl
                      rotate_left
                      · simp only [Act.put, List.setIfInBounds_toArray, List.set_cons_zero, List.set_cons_succ, i64_w, i32_w]
                        rfl
                      refine pure_ (i := 3) (N := some 18) (v := ?_) (a' := ?_) #[true, true, true, true, false, false, false, false, false, false, false, false, false, false, false, false, false, false, false] rfl rfl (by kernel_rfl) (fun _ _ _ h => h) (Or.inl ⟨by rfl, ?_⟩) ?_ ?_
                      rotate_left
                      · intro w'
                        go_simp
                        with_reducible rfl
                      rotate_left
                      · simp only [Act.put, List.setIfInBounds_toArray, List.set_cons_zero, List.set_cons_succ, i64_w, i32_w]
                        rfl
                      refine pure_ (i := 4) (N := some 19) (v := ?_) (a' := ?_) #[true, true, true, true, true, false, false, false, false, false, false, false, false, false, false, false, false, false, false] rfl rfl (by kernel_rfl) (fun _ _ _ h => h) (Or.inl ⟨by rfl, ?_⟩) ?_ ?_
                      rotate_left
                      · intro w'
                        go_simp
                        with_reducible rfl
                      rotate_left
                      · simp only [Act.put, List.setIfInBounds_toArray, List.set_cons_zero, List.set_cons_succ, i64_w, i32_w]
                        rfl
                      refine pure_ (i := 9) (N := some 24) (v := ?_) (a' := ?_) #[true, true, true, true, true, false, false, false, false, true, false, false, false, false, false, false, false, false, false] rfl rfl (by kernel_rfl) (fun _ _ _ h => h) (Or.inl ⟨by rfl, ?_⟩) ?_ ?_
                      rotate_left
                      · intro w'
                        go_simp
                        with_reducible rfl
                      rotate_left
                      · simp only [Act.put, List.setIfInBounds_toArray, List.set_cons_zero, List.set_cons_succ, i64_w, i32_w]
                        rfl
                      refine pure_ (i := 10) (N := some 25) (v := ?_) (a' := ?_) #[true, true, true, true, true, false, false, false, false, true, true, false, false, false, false, false, false, false, false] rfl rfl (by kernel_rfl) (fun _ _ _ h => h) (Or.inl ⟨by rfl, ?_⟩) ?_ ?_
                      rotate_left
                      · intro w'
                        go_simp
                        with_reducible rfl
                      rotate_left
                      · simp only [Act.put, List.setIfInBounds_toArray, List.set_cons_zero, List.set_cons_succ, i64_w, i32_w]
                        rfl
                      refine pure_ (i := 11) (N := some 26) (v := ?_) (a' := ?_) #[true, true, true, true, true, false, false, false, false, true, true, true, false, false, false, false, false, false, false] rfl rfl (by kernel_rfl) (fun _ _ _ h => h) (Or.inl ⟨by rfl, ?_⟩) ?_ ?_
                      rotate_left
                      · intro w'
                        go_simp
                        with_reducible rfl
                      rotate_left
                      · simp only [Act.put, List.setIfInBounds_toArray, List.set_cons_zero, List.set_cons_succ, i64_w, i32_w]
                        rfl
                      refine pure_ (i := 12) (N := some 27) (v := ?_) (a' := ?_) #[true, true, true, true, true, false, false, false, false, true, true, true, true, false, false, false, false, false, false] rfl rfl (by kernel_rfl) (fun _ _ _ h => h) (Or.inl ⟨by rfl, ?_⟩) ?_ ?_
                      rotate_left
                      · intro w'
                        go_simp
                        with_reducible rfl
                      rotate_left
                      · simp only [Act.put, List.setIfInBounds_toArray, List.set_cons_zero, List.set_cons_succ, i64_w, i32_w]
                        rfl
                      refine take_ (i := 5) (N := some 20) (v := ?_) (a' := ?_) #[true, true, true, true, true, true, false, false, false, true, true, true, true, false, false, false, false, false, false] rfl rfl (by kernel_rfl) (fun _ _ _ h => h) (Or.inl ⟨by rfl, ?_⟩) hHeld ?_ ?_
                      rotate_left
                      · rintro w' ⟨s0, s1⟩
                        go_simp
                        with_reducible rfl
                      rotate_left
                      · simp only [Act.put, List.setIfInBounds_toArray, List.set_cons_zero, List.set_cons_succ, i64_w, i32_w]
                        rfl
                      refine take_ (i := 13) (N := some 28) (v := ?_) (a' := ?_) #[true, true, true, true, true, true, false, false, false, true, true, true, true, true, false, false, false, false, false] rfl rfl (by kernel_rfl) (fun _ _ _ h => h) (Or.inl ⟨by rfl, ?_⟩) hHeld ?_ ?_
                      rotate_left
                      · rintro w' ⟨s0, s1⟩
                        go_simp
                        with_reducible rfl
                      rotate_left
                      · simp only [Act.put, List.setIfInBounds_toArray, List.set_cons_zero, List.set_cons_succ, i64_w, i32_w]
                        rfl
                      refine two_ (i := 6) (j := 14) (Ni := some 21) (Nj := some 29) #[true, true, true, true, true, true, true, false, false, true, true, true, true, true, false, false, false, false, false] #[true, true, true, true, true, true, false, false, false, true, true, true, true, true, true, false, false, false, false] rfl rfl rfl rfl (by kernel_rfl) (by decide) (by decide) (fun K hK => ?_) (fun K hK => ?_)
                      · refine value_ (by rfl) rfl (cf_bytes wd nm rfl rfl) ?_
                        obtain ⟨wc1, hwc1⟩ : ∃ w_, w_ = Lib.bytesWorld wd 5 nm := ⟨_, rfl⟩
                        rw [← hwc1]
                        have HC1 := Aside0.mk (show Kd.C (Kd.int .u8) wc1 (some ⟨wd.heap.size, 0, none⟩) (bytesOf nm).length (bytesOf nm) by rw [hwc1]; exact cf_reads wd nm C4.out.1)
                        have hcb : Below wd.heap.size wd wc1 := by rw [hwc1]; exact Own.below_bytesWorld _ _ _
                        have n0_ := Aside0.mk (below_step HB.out hcb); have n1_ := Aside0.mk ((hcb.cell (World.block_lt_of_cell? wd _ HX0.out)).trans HX0.out); have n2_ := Aside0.mk ((hcb.cell (World.block_lt_of_cell? wd _ HX1.out)).trans HX1.out); clear HB HX0 HX1 ; have HB := n0_; have HX0 := n1_; have HX1 := n2_; clear n0_ n1_ n2_  hHeld
                        clear hcb
                        refine hK.out _ _ ⟨HX0.out, HX1.out⟩ (fun hHeld => ?_)
                        clear hK K
                        simp only [Act.put, List.setIfInBounds_toArray, List.set_cons_zero, List.set_cons_succ]
                        refine two_ (i := 7) (j := 14) (Ni := some 22) (Nj := some 29) #[true, true, true, true, true, true, true, true, false, true, true, true, true, true, false, false, false, false, false] #[true, true, true, true, true, true, true, false, false, true, true, true, true, true, true, false, false, false, false] rfl rfl rfl rfl (by kernel_rfl) (by decide) (by decide) (fun K hK => ?_) (fun K hK => ?_)
                        · refine goes_ Tryd.func26 (by kernel_rfl) rfl #[.int .i64 8, .slice (some ⟨wd.heap.size, 0, none⟩) (bytesOf nm).length (grownCap wd nm.size 0 5)] (by rfl) rfl rfl (by first | rfl | (simp only [List.map_toArray, List.map_cons, List.map_nil]; rfl)) ?_
                          with_reducible refine (sprref1_Percent.calls k1 8 (some ⟨wd.heap.size, 0, none⟩) (grownCap wd nm.size 0 5) (bytesOf nm) a _ HC1.out (by rw [bytesOf_length]; exact grownCap_ge _ _ _ _) A1.out).mono ?_
                          rintro e wf2 ⟨rfl, hb⟩
                          refine ⟨_, rfl, ?_⟩
                          have n0_ := Aside0.mk (below_step HB.out hb); have n1_ := Aside0.mk ((hb.cell (World.block_lt_of_cell? wc1 _ HX0.out)).trans HX0.out); have n2_ := Aside0.mk ((hb.cell (World.block_lt_of_cell? wc1 _ HX1.out)).trans HX1.out); have m0_ := Aside0.mk (Kd.C_below HC1.out hb); clear HB HX0 HX1 HC1; have HB := n0_; have HX0 := n1_; have HX1 := n2_; have HC1 := m0_; clear n0_ n1_ n2_ m0_ hHeld
                          clear hb
                          refine hK.out _ _ ⟨HX0.out, HX1.out⟩ (fun hHeld => ?_)
                          clear hK K
                          simp only [Act.put, List.setIfInBounds_toArray, List.set_cons_zero, List.set_cons_succ]
                          clear HC1
                          refine pure_ (i := 8) (N := some 23) (v := ?_) (a' := ?_) #[true, true, true, true, true, true, true, true, true, true, true, true, true, true, false, false, false, false, false] rfl rfl (by kernel_rfl) (fun _ _ _ h => h) (Or.inl ⟨by rfl, ?_⟩) ?_ ?_
                          rotate_left
                          · intro w'
                            go_simp
                            with_reducible rfl
                          rotate_left
                          · simp only [Act.put, List.setIfInBounds_toArray, List.set_cons_zero, List.set_cons_succ, i64_w, i32_w]
                            rfl
                          refine one_ (i := 14) (N := some 29) #[true, true, true, true, true, true, true, true, true, true, true, true, true, true, true, false, false, false, false] rfl rfl (by kernel_rfl) (by decide) (fun K hK => ?_)
                          refine value_ (by rfl) rfl (cf_bytes wf2 vl rfl rfl) ?_
                          obtain ⟨wc3, hwc3⟩ : ∃ w_, w_ = Lib.bytesWorld wf2 5 vl := ⟨_, rfl⟩
                          rw [← hwc3]
                          have HC2 := Aside0.mk (show Kd.C (Kd.int .u8) wc3 (some ⟨wf2.heap.size, 0, none⟩) (bytesOf vl).length (bytesOf vl) by rw [hwc3]; exact cf_reads wf2 vl C4.out.2)
                          have hcb : Below wf2.heap.size wf2 wc3 := by rw [hwc3]; exact Own.below_bytesWorld _ _ _
                          have n0_ := Aside0.mk (below_step HB.out hcb); have n1_ := Aside0.mk ((hcb.cell (World.block_lt_of_cell? wf2 _ HX0.out)).trans HX0.out); have n2_ := Aside0.mk ((hcb.cell (World.block_lt_of_cell? wf2 _ HX1.out)).trans HX1.out); clear HB HX0 HX1 ; have HB := n0_; have HX0 := n1_; have HX1 := n2_; clear n0_ n1_ n2_  hHeld
                          clear hcb
                          refine hK.out _ _ ⟨HX0.out, HX1.out⟩ (fun hHeld => ?_)
                          clear hK K
                          simp only [Act.put, List.setIfInBounds_toArray, List.set_cons_zero, List.set_cons_succ]
                          refine one_ (i := 15) (N := some 30) #[true, true, true, true, true, true, true, true, true, true, true, true, true, true, true, true, false, false, false] rfl rfl (by kernel_rfl) (by decide) (fun K hK => ?_)
                          refine goes_ Tryd.func26 (by kernel_rfl) rfl #[.int .i64 8, .slice (some ⟨wf2.heap.size, 0, none⟩) (bytesOf vl).length (grownCap wf2 vl.size 0 5)] (by rfl) rfl rfl (by first | rfl | (simp only [List.map_toArray, List.map_cons, List.map_nil]; rfl)) ?_
                          with_reducible refine (sprref1_Percent.calls k1 8 (some ⟨wf2.heap.size, 0, none⟩) (grownCap wf2 vl.size 0 5) (bytesOf vl) b _ HC2.out (by rw [bytesOf_length]; exact grownCap_ge _ _ _ _) A2.out).mono ?_
                          rintro e wf4 ⟨rfl, hb⟩
                          refine ⟨_, rfl, ?_⟩
                          have n0_ := Aside0.mk (below_step HB.out hb); have n1_ := Aside0.mk ((hb.cell (World.block_lt_of_cell? wc3 _ HX0.out)).trans HX0.out); have n2_ := Aside0.mk ((hb.cell (World.block_lt_of_cell? wc3 _ HX1.out)).trans HX1.out); clear HB HX0 HX1 ; have HB := n0_; have HX0 := n1_; have HX1 := n2_; clear n0_ n1_ n2_  hHeld
                          clear hb
                          refine hK.out _ _ ⟨HX0.out, HX1.out⟩ (fun hHeld => ?_)
                          clear hK K
                          simp only [Act.put, List.setIfInBounds_toArray, List.set_cons_zero, List.set_cons_succ]
                          refine pure_ (i := 16) (N := some 31) (v := ?_) (a' := ?_) #[true, true, true, true, true, true, true, true, true, true, true, true, true, true, true, true, true, false, false] rfl rfl (by kernel_rfl) (fun _ _ _ h => h) (Or.inl ⟨by rfl, ?_⟩) ?_ ?_
                          rotate_left
                          · intro w'
                            go_simp
                            with_reducible rfl
                          rotate_left
                          · simp only [Act.put, List.setIfInBounds_toArray, List.set_cons_zero, List.set_cons_succ, i64_w, i32_w]
                            rfl
                          refine pure_ (i := 17) (N := some 32) (v := ?_) (a' := ?_) #[true, true, true, true, true, true, true, true, true, true, true, true, true, true, true, true, true, true, false] rfl rfl (by kernel_rfl) (fun _ _ _ h => h) (Or.inl ⟨by rfl, ?_⟩) ?_ ?_
                          rotate_left
                          · intro w'
                            go_simp
                            with_reducible rfl
                          rotate_left
                          · simp only [Act.put, List.setIfInBounds_toArray, List.set_cons_zero, List.set_cons_succ, i64_w, i32_w]
                            rfl
                          refine pure_ (i := 18) (N := some 3) (v := ?_) (a' := ?_) #[true, true, true, true, true, true, true, true, true, true, true, true, true, true, true, true, true, true, true] rfl rfl (by kernel_rfl) (fun _ _ _ h => h) (Or.inl ⟨by rfl, ?_⟩) ?_ ?_
                          rotate_left
                          · intro w'
                            go_simp
                            with_reducible rfl
                          rotate_left
                          · simp only [Act.put, List.setIfInBounds_toArray, List.set_cons_zero, List.set_cons_succ, i64_w, i32_w]
                            rfl
                          refine done_ (by kernel_rfl) ?_
                          clear hHeld
                          go_wp2
                          go_roundg k1
                          case measure => have := HK1.out; omega
                          case rel => exact ⟨s ++ (⟨#[38]⟩ : ByteArray) ++ ((a ++ (⟨#[61]⟩ : ByteArray)) ++ b), wrap64 (i + 1), (by first | rfl | (simp; done) | (simp [*]; done)), (by first | rfl | (simp; done) | (simp [*]; done)), H', ⟨by have := HK1.out; omega⟩, ⟨by repeat (first | (with_reducible first | exact HB.out | apply below_alloc | apply pw_below_drewN | apply below_drew1) | exact HB.out)⟩⟩
                        · refine value_ (by rfl) rfl (cf_bytes wc1 vl rfl rfl) ?_
                          obtain ⟨wc5, hwc5⟩ : ∃ w_, w_ = Lib.bytesWorld wc1 5 vl := ⟨_, rfl⟩
                          rw [← hwc5]
                          have HC2 := Aside0.mk (show Kd.C (Kd.int .u8) wc5 (some ⟨wc1.heap.size, 0, none⟩) (bytesOf vl).length (bytesOf vl) by rw [hwc5]; exact cf_reads wc1 vl C4.out.2)
                          have hcb : Below wc1.heap.size wc1 wc5 := by rw [hwc5]; exact Own.below_bytesWorld _ _ _
                          have n0_ := Aside0.mk (below_step HB.out hcb); have n1_ := Aside0.mk ((hcb.cell (World.block_lt_of_cell? wc1 _ HX0.out)).trans HX0.out); have n2_ := Aside0.mk ((hcb.cell (World.block_lt_of_cell? wc1 _ HX1.out)).trans HX1.out); have m0_ := Aside0.mk (Kd.C_below HC1.out hcb); clear HB HX0 HX1 HC1; have HB := n0_; have HX0 := n1_; have HX1 := n2_; have HC1 := m0_; clear n0_ n1_ n2_ m0_ hHeld
                          clear hcb
                          refine hK.out _ _ ⟨HX0.out, HX1.out⟩ (fun hHeld => ?_)
                          clear hK K
                          simp only [Act.put, List.setIfInBounds_toArray, List.set_cons_zero, List.set_cons_succ]
                          refine one_ (i := 7) (N := some 22) #[true, true, true, true, true, true, true, true, false, true, true, true, true, true, true, false, false, false, false] rfl rfl (by kernel_rfl) (by decide) (fun K hK => ?_)
                          refine goes_ Tryd.func26 (by kernel_rfl) rfl #[.int .i64 8, .slice (some ⟨wd.heap.size, 0, none⟩) (bytesOf nm).length (grownCap wd nm.size 0 5)] (by rfl) rfl rfl (by first | rfl | (simp only [List.map_toArray, List.map_cons, List.map_nil]; rfl)) ?_
                          with_reducible refine (sprref1_Percent.calls k1 8 (some ⟨wd.heap.size, 0, none⟩) (grownCap wd nm.size 0 5) (bytesOf nm) a _ HC1.out (by rw [bytesOf_length]; exact grownCap_ge _ _ _ _) A1.out).mono ?_
                          rintro e wf6 ⟨rfl, hb⟩
                          refine ⟨_, rfl, ?_⟩
                          have n0_ := Aside0.mk (below_step HB.out hb); have n1_ := Aside0.mk ((hb.cell (World.block_lt_of_cell? wc5 _ HX0.out)).trans HX0.out); have n2_ := Aside0.mk ((hb.cell (World.block_lt_of_cell? wc5 _ HX1.out)).trans HX1.out); have m0_ := Aside0.mk (Kd.C_below HC1.out hb); have m1_ := Aside0.mk (Kd.C_below HC2.out hb); clear HB HX0 HX1 HC1 HC2; have HB := n0_; have HX0 := n1_; have HX1 := n2_; have HC1 := m0_; have HC2 := m1_; clear n0_ n1_ n2_ m0_ m1_ hHeld
                          clear hb
                          refine hK.out _ _ ⟨HX0.out, HX1.out⟩ (fun hHeld => ?_)
                          clear hK K
                          simp only [Act.put, List.setIfInBounds_toArray, List.set_cons_zero, List.set_cons_succ]
                          clear HC1
                          refine pure_ (i := 8) (N := some 23) (v := ?_) (a' := ?_) #[true, true, true, true, true, true, true, true, true, true, true, true, true, true, true, false, false, false, false] rfl rfl (by kernel_rfl) (fun _ _ _ h => h) (Or.inl ⟨by rfl, ?_⟩) ?_ ?_
                          rotate_left
                          · intro w'
                            go_simp
                            with_reducible rfl
                          rotate_left
                          · simp only [Act.put, List.setIfInBounds_toArray, List.set_cons_zero, List.set_cons_succ, i64_w, i32_w]
                            rfl
                          refine one_ (i := 15) (N := some 30) #[true, true, true, true, true, true, true, true, true, true, true, true, true, true, true, true, false, false, false] rfl rfl (by kernel_rfl) (by decide) (fun K hK => ?_)
                          refine goes_ Tryd.func26 (by kernel_rfl) rfl #[.int .i64 8, .slice (some ⟨wc1.heap.size, 0, none⟩) (bytesOf vl).length (grownCap wc1 vl.size 0 5)] (by rfl) rfl rfl (by first | rfl | (simp only [List.map_toArray, List.map_cons, List.map_nil]; rfl)) ?_
                          with_reducible refine (sprref1_Percent.calls k1 8 (some ⟨wc1.heap.size, 0, none⟩) (grownCap wc1 vl.size 0 5) (bytesOf vl) b _ HC2.out (by rw [bytesOf_length]; exact grownCap_ge _ _ _ _) A2.out).mono ?_
                          rintro e wf7 ⟨rfl, hb⟩
                          refine ⟨_, rfl, ?_⟩
                          have n0_ := Aside0.mk (below_step HB.out hb); have n1_ := Aside0.mk ((hb.cell (World.block_lt_of_cell? wf6 _ HX0.out)).trans HX0.out); have n2_ := Aside0.mk ((hb.cell (World.block_lt_of_cell? wf6 _ HX1.out)).trans HX1.out); clear HB HX0 HX1 ; have HB := n0_; have HX0 := n1_; have HX1 := n2_; clear n0_ n1_ n2_  hHeld
                          clear hb
                          refine hK.out _ _ ⟨HX0.out, HX1.out⟩ (fun hHeld => ?_)
                          clear hK K
                          simp only [Act.put, List.setIfInBounds_toArray, List.set_cons_zero, List.set_cons_succ]
                          refine pure_ (i := 16) (N := some 31) (v := ?_) (a' := ?_) #[true, true, true, true, true, true, true, true, true, true, true, true, true, true, true, true, true, false, false] rfl rfl (by kernel_rfl) (fun _ _ _ h => h) (Or.inl ⟨by rfl, ?_⟩) ?_ ?_
                          rotate_left
                          · intro w'
                            go_simp
                            with_reducible rfl
                          rotate_left
                          · simp only [Act.put, List.setIfInBounds_toArray, List.set_cons_zero, List.set_cons_succ, i64_w, i32_w]
                            rfl
                          refine pure_ (i := 17) (N := some 32) (v := ?_) (a' := ?_) #[true, true, true, true, true, true, true, true, true, true, true, true, true, true, true, true, true, true, false] rfl rfl (by kernel_rfl) (fun _ _ _ h => h) (Or.inl ⟨by rfl, ?_⟩) ?_ ?_
                          rotate_left
                          · intro w'
                            go_simp
                            with_reducible rfl
                          rotate_left
                          · simp only [Act.put, List.setIfInBounds_toArray, List.set_cons_zero, List.set_cons_succ, i64_w, i32_w]
                            rfl
                          refine pure_ (i := 18) (N := some 3) (v := ?_) (a' := ?_) #[true, true, true, true, true, true, true, true, true, true, true, true, true, true, true, true, true, true, true] rfl rfl (by kernel_rfl) (fun _ _ _ h => h) (Or.inl ⟨by rfl, ?_⟩) ?_ ?_
                          rotate_left
                          · intro w'
                            go_simp
                            with_reducible rfl
                          rotate_left
                          · simp only [Act.put, List.setIfInBounds_toArray, List.set_cons_zero, List.set_cons_succ, i64_w, i32_w]
                            rfl
                          refine done_ (by kernel_rfl) ?_
                          clear hHeld
                          go_wp2
                          go_roundg k1
                          case measure => have := HK1.out; omega
                          case rel => exact ⟨s ++ (⟨#[38]⟩ : ByteArray) ++ ((a ++ (⟨#[61]⟩ : ByteArray)) ++ b), wrap64 (i + 1), (by first | rfl | (simp; done) | (simp [*]; done)), (by first | rfl | (simp; done) | (simp [*]; done)), H', ⟨by have := HK1.out; omega⟩, ⟨by repeat (first | (with_reducible first | exact HB.out | apply below_alloc | apply pw_below_drewN | apply below_drew1) | exact HB.out)⟩⟩
                      · refine value_ (by rfl) rfl (cf_bytes wd vl rfl rfl) ?_
                        obtain ⟨wc8, hwc8⟩ : ∃ w_, w_ = Lib.bytesWorld wd 5 vl := ⟨_, rfl⟩
                        rw [← hwc8]
                        have HC2 := Aside0.mk (show Kd.C (Kd.int .u8) wc8 (some ⟨wd.heap.size, 0, none⟩) (bytesOf vl).length (bytesOf vl) by rw [hwc8]; exact cf_reads wd vl C4.out.2)
                        have hcb : Below wd.heap.size wd wc8 := by rw [hwc8]; exact Own.below_bytesWorld _ _ _
                        have n0_ := Aside0.mk (below_step HB.out hcb); have n1_ := Aside0.mk ((hcb.cell (World.block_lt_of_cell? wd _ HX0.out)).trans HX0.out); have n2_ := Aside0.mk ((hcb.cell (World.block_lt_of_cell? wd _ HX1.out)).trans HX1.out); clear HB HX0 HX1 ; have HB := n0_; have HX0 := n1_; have HX1 := n2_; clear n0_ n1_ n2_  hHeld
                        clear hcb
                        refine hK.out _ _ ⟨HX0.out, HX1.out⟩ (fun hHeld => ?_)
                        clear hK K
                        simp only [Act.put, List.setIfInBounds_toArray, List.set_cons_zero, List.set_cons_succ]
                        refine one_ (i := 6) (N := some 21) #[true, true, true, true, true, true, true, false, false, true, true, true, true, true, true, false, false, false, false] rfl rfl (by kernel_rfl) (by decide) (fun K hK => ?_)
                        refine value_ (by rfl) rfl (cf_bytes wc8 nm rfl rfl) ?_
                        obtain ⟨wc9, hwc9⟩ : ∃ w_, w_ = Lib.bytesWorld wc8 5 nm := ⟨_, rfl⟩
                        rw [← hwc9]
                        have HC1 := Aside0.mk (show Kd.C (Kd.int .u8) wc9 (some ⟨wc8.heap.size, 0, none⟩) (bytesOf nm).length (bytesOf nm) by rw [hwc9]; exact cf_reads wc8 nm C4.out.1)
                        have hcb : Below wc8.heap.size wc8 wc9 := by rw [hwc9]; exact Own.below_bytesWorld _ _ _
                        have n0_ := Aside0.mk (below_step HB.out hcb); have n1_ := Aside0.mk ((hcb.cell (World.block_lt_of_cell? wc8 _ HX0.out)).trans HX0.out); have n2_ := Aside0.mk ((hcb.cell (World.block_lt_of_cell? wc8 _ HX1.out)).trans HX1.out); have m0_ := Aside0.mk (Kd.C_below HC2.out hcb); clear HB HX0 HX1 HC2; have HB := n0_; have HX0 := n1_; have HX1 := n2_; have HC2 := m0_; clear n0_ n1_ n2_ m0_ hHeld
                        clear hcb
                        refine hK.out _ _ ⟨HX0.out, HX1.out⟩ (fun hHeld => ?_)
                        clear hK K
                        simp only [Act.put, List.setIfInBounds_toArray, List.set_cons_zero, List.set_cons_succ]
                        refine one_ (i := 7) (N := some 22) #[true, true, true, true, true, true, true, true, false, true, true, true, true, true, true, false, false, false, false] rfl rfl (by kernel_rfl) (by decide) (fun K hK => ?_)
                        refine goes_ Tryd.func26 (by kernel_rfl) rfl #[.int .i64 8, .slice (some ⟨wc8.heap.size, 0, none⟩) (bytesOf nm).length (grownCap wc8 nm.size 0 5)] (by rfl) rfl rfl (by first | rfl | (simp only [List.map_toArray, List.map_cons, List.map_nil]; rfl)) ?_
                        with_reducible refine (sprref1_Percent.calls k1 8 (some ⟨wc8.heap.size, 0, none⟩) (grownCap wc8 nm.size 0 5) (bytesOf nm) a _ HC1.out (by rw [bytesOf_length]; exact grownCap_ge _ _ _ _) A1.out).mono ?_
                        rintro e wf10 ⟨rfl, hb⟩
                        refine ⟨_, rfl, ?_⟩
                        have n0_ := Aside0.mk (below_step HB.out hb); have n1_ := Aside0.mk ((hb.cell (World.block_lt_of_cell? wc9 _ HX0.out)).trans HX0.out); have n2_ := Aside0.mk ((hb.cell (World.block_lt_of_cell? wc9 _ HX1.out)).trans HX1.out); have m0_ := Aside0.mk (Kd.C_below HC1.out hb); have m1_ := Aside0.mk (Kd.C_below HC2.out hb); clear HB HX0 HX1 HC1 HC2; have HB := n0_; have HX0 := n1_; have HX1 := n2_; have HC1 := m0_; have HC2 := m1_; clear n0_ n1_ n2_ m0_ m1_ hHeld
                        clear hb
                        refine hK.out _ _ ⟨HX0.out, HX1.out⟩ (fun hHeld => ?_)
                        clear hK K
                        simp only [Act.put, List.setIfInBounds_toArray, List.set_cons_zero, List.set_cons_succ]
                        clear HC1
                        refine pure_ (i := 8) (N := some 23) (v := ?_) (a' := ?_) #[true, true, true, true, true, true, true, true, true, true, true, true, true, true, true, false, false, false, false] rfl rfl (by kernel_rfl) (fun _ _ _ h => h) (Or.inl ⟨by rfl, ?_⟩) ?_ ?_
                        rotate_left
                        · intro w'
                          go_simp
                          with_reducible rfl
                        rotate_left
                        · simp only [Act.put, List.setIfInBounds_toArray, List.set_cons_zero, List.set_cons_succ, i64_w, i32_w]
                          rfl
                        refine one_ (i := 15) (N := some 30) #[true, true, true, true, true, true, true, true, true, true, true, true, true, true, true, true, false, false, false] rfl rfl (by kernel_rfl) (by decide) (fun K hK => ?_)
                        refine goes_ Tryd.func26 (by kernel_rfl) rfl #[.int .i64 8, .slice (some ⟨wd.heap.size, 0, none⟩) (bytesOf vl).length (grownCap wd vl.size 0 5)] (by rfl) rfl rfl (by first | rfl | (simp only [List.map_toArray, List.map_cons, List.map_nil]; rfl)) ?_
                        with_reducible refine (sprref1_Percent.calls k1 8 (some ⟨wd.heap.size, 0, none⟩) (grownCap wd vl.size 0 5) (bytesOf vl) b _ HC2.out (by rw [bytesOf_length]; exact grownCap_ge _ _ _ _) A2.out).mono ?_
                        rintro e wf11 ⟨rfl, hb⟩
                        refine ⟨_, rfl, ?_⟩
                        have n0_ := Aside0.mk (below_step HB.out hb); have n1_ := Aside0.mk ((hb.cell (World.block_lt_of_cell? wf10 _ HX0.out)).trans HX0.out); have n2_ := Aside0.mk ((hb.cell (World.block_lt_of_cell? wf10 _ HX1.out)).trans HX1.out); clear HB HX0 HX1 ; have HB := n0_; have HX0 := n1_; have HX1 := n2_; clear n0_ n1_ n2_  hHeld
                        clear hb
                        refine hK.out _ _ ⟨HX0.out, HX1.out⟩ (fun hHeld => ?_)
                        clear hK K
                        simp only [Act.put, List.setIfInBounds_toArray, List.set_cons_zero, List.set_cons_succ]
                        refine pure_ (i := 16) (N := some 31) (v := ?_) (a' := ?_) #[true, true, true, true, true, true, true, true, true, true, true, true, true, true, true, true, true, false, false] rfl rfl (by kernel_rfl) (fun _ _ _ h => h) (Or.inl ⟨by rfl, ?_⟩) ?_ ?_
                        rotate_left
                        · intro w'
                          go_simp
                          with_reducible rfl
                        rotate_left
                        · simp only [Act.put, List.setIfInBounds_toArray, List.set_cons_zero, List.set_cons_succ, i64_w, i32_w]
                          rfl
                        refine pure_ (i := 17) (N := some 32) (v := ?_) (a' := ?_) #[true, true, true, true, true, true, true, true, true, true, true, true, true, true, true, true, true, true, false] rfl rfl (by kernel_rfl) (fun _ _ _ h => h) (Or.inl ⟨by rfl, ?_⟩) ?_ ?_
                        rotate_left
                        · intro w'
                          go_simp
                          with_reducible rfl
                        rotate_left
                        · simp only [Act.put, List.setIfInBounds_toArray, List.set_cons_zero, List.set_cons_succ, i64_w, i32_w]
                          rfl
                        refine pure_ (i := 18) (N := some 3) (v := ?_) (a' := ?_) #[true, true, true, true, true, true, true, true, true, true, true, true, true, true, true, true, true, true, true] rfl rfl (by kernel_rfl) (fun _ _ _ h => h) (Or.inl ⟨by rfl, ?_⟩) ?_ ?_
                        rotate_left
                        · intro w'
                          go_simp
                          with_reducible rfl
                        rotate_left
                        · simp only [Act.put, List.setIfInBounds_toArray, List.set_cons_zero, List.set_cons_succ, i64_w, i32_w]
                          rfl
                        refine done_ (by kernel_rfl) ?_
                        clear hHeld
                        go_wp2
                        go_roundg k1
                        case measure => have := HK1.out; omega
                        case rel => exact ⟨s ++ (⟨#[38]⟩ : ByteArray) ++ ((a ++ (⟨#[61]⟩ : ByteArray)) ++ b), wrap64 (i + 1), (by first | rfl | (simp; done) | (simp [*]; done)), (by first | rfl | (simp; done) | (simp [*]; done)), H', ⟨by have := HK1.out; omega⟩, ⟨by repeat (first | (with_reducible first | exact HB.out | apply below_alloc | apply pw_below_drewN | apply below_drew1) | exact HB.out)⟩⟩
                    · rw [if_neg c7] at H
                      exact absurd H (by simp)
                  · rw [if_neg c6] at H
                    exact absurd H (by simp)
                · rw [if_neg c5] at H
                  exact absurd H (by simp)
              · rw [if_neg c9] at H
                exact absurd H (by simp)
            · rw [if_neg c8] at H
              have c8b : decide (0 < i) = false := decide_eq_false c8
              unfold sprref7_PrintForm.body at H
              obtain ⟨a, hA0, H⟩ := Option.bind_eq_some_iff.mp H
              by_cases c5 : a.size + 1 ≤ 9223372036854775807
              · rw [if_pos c5] at H
                obtain ⟨b, hB0, H⟩ := Option.bind_eq_some_iff.mp H
                by_cases c6 : (a ++ (⟨#[61]⟩ : ByteArray)).size + b.size ≤ 9223372036854775807
                · rw [if_pos c6] at H
                  by_cases c7 : (s).size + ((a ++ (⟨#[61]⟩ : ByteArray)) ++ b).size ≤ 9223372036854775807
                  · rw [if_pos c7] at H
                    have A1 := Aside0.mk hA0
                    have A2 := Aside0.mk hB0
                    have H' := Aside0.mk H
                    have e61 : (⟨#[61]⟩ : ByteArray).size = 1 := rfl
                    have c5b : (9223372036854775807 < a.size + 1) = False := eq_false (Nat.not_lt.2 c5)
                    have c6b : (9223372036854775807 < a.size + 1 + b.size) = False := eq_false (by rw [ByteArray.size_append] at c6; omega)
                    have c7b : (9223372036854775807 < s.size + (a.size + 1 + b.size)) = False := eq_false (by simp only [ByteArray.size_append] at c7; have e38 : (⟨#[38]⟩ : ByteArray).size = 1 := rfl; omega)
                    clear hA0 hB0 H c5 c6 c7 e61
                    go_wp2_with fail
                    have n0_ := Aside0.mk (below_drew1 HB.out); have n1_ := Aside0.mk ((World.cell?_drew _ _).trans HX0.out); have n2_ := Aside0.mk ((World.cell?_drew _ _).trans HX1.out); clear HB HX0 HX1; have HB := n0_; have HX0 := n1_; have HX1 := n2_; clear n0_ n1_ n2_
                    refine start_ (n := 19) (S := fun w' => w'.cell? (ad.add (i.toNat * 2)) = some (.string nm) ∧ w'.cell? ⟨(ad.add (i.toNat * 2)).block, (ad.add (i.toNat * 2)).off + 1, none⟩ = some (.string vl)) (ds := []) #[false, false, false, false, false, false, false, false, false, false, false, false, false, false, false, false, false, false, false] (by kernel_rfl) rfl rfl ⟨HX0.out, HX1.out⟩ (fun hHeld => ?_)
                    generalize World.drew _ = wd at HB HX0 HX1 hHeld ⊢
                    refine pure_ (i := 0) (N := some 15) (v := ?_) (a' := ?_) #[true, false, false, false, false, false, false, false, false, false, false, false, false, false, false, false, false, false, false] rfl rfl (by kernel_rfl) (fun _ _ _ h => h) (Or.inl ⟨by rfl, ?_⟩) ?_ ?_
                    rotate_left
                    · intro w'
                      go_simp
                      with_reducible rfl
                    rotate_left
                    · simp only [Act.put, List.setIfInBounds_toArray, List.set_cons_zero, List.set_cons_succ, i64_w, i32_w]
                      rfl
                    refine pure_ (i := 1) (N := some 16) (v := ?_) (a' := ?_) #[true, true, false, false, false, false, false, false, false, false, false, false, false, false, false, false, false, false, false] rfl rfl (by kernel_rfl) (fun _ _ _ h => h) (Or.inl ⟨by rfl, ?_⟩) ?_ ?_
                    rotate_left
                    · intro w'
                      go_simp
                      with_reducible rfl
                    rotate_left
                    · simp only [Act.put, List.setIfInBounds_toArray, List.set_cons_zero, List.set_cons_succ, i64_w, i32_w]
                      rfl
                    refine pure_ (i := 2) (N := some 17) (v := ?_) (a' := ?_) #[true, true, true, false, false, false, false, false, false, false, false, false, false, false, false, false, false, false, false] rfl rfl (by kernel_rfl) (fun _ _ _ h => h) (Or.inl ⟨by rfl, ?_⟩) ?_ ?_
                    rotate_left
                    · intro w'
                      go_simp
                      with_reducible rfl
                    rotate_left
                    · simp only [Act.put, List.setIfInBounds_toArray, List.set_cons_zero, List.set_cons_succ, i64_w, i32_w]
                      rfl
                    refine pure_ (i := 3) (N := some 18) (v := ?_) (a' := ?_) #[true, true, true, true, false, false, false, false, false, false, false, false, false, false, false, false, false, false, false] rfl rfl (by kernel_rfl) (fun _ _ _ h => h) (Or.inl ⟨by rfl, ?_⟩) ?_ ?_
                    rotate_left
                    · intro w'
                      go_simp
                      with_reducible rfl
                    rotate_left
                    · simp only [Act.put, List.setIfInBounds_toArray, List.set_cons_zero, List.set_cons_succ, i64_w, i32_w]
                      rfl
                    refine pure_ (i := 4) (N := some 19) (v := ?_) (a' := ?_) #[true, true, true, true, true, false, false, false, false, false, false, false, false, false, false, false, false, false, false] rfl rfl (by kernel_rfl) (fun _ _ _ h => h) (Or.inl ⟨by rfl, ?_⟩) ?_ ?_
                    rotate_left
                    · intro w'
                      go_simp
                      with_reducible rfl
                    rotate_left
                    · simp only [Act.put, List.setIfInBounds_toArray, List.set_cons_zero, List.set_cons_succ, i64_w, i32_w]
                      rfl
                    refine pure_ (i := 9) (N := some 24) (v := ?_) (a' := ?_) #[true, true, true, true, true, false, false, false, false, true, false, false, false, false, false, false, false, false, false] rfl rfl (by kernel_rfl) (fun _ _ _ h => h) (Or.inl ⟨by rfl, ?_⟩) ?_ ?_
                    rotate_left
                    · intro w'
                      go_simp
                      with_reducible rfl
                    rotate_left
                    · simp only [Act.put, List.setIfInBounds_toArray, List.set_cons_zero, List.set_cons_succ, i64_w, i32_w]
                      rfl
                    refine pure_ (i := 10) (N := some 25) (v := ?_) (a' := ?_) #[true, true, true, true, true, false, false, false, false, true, true, false, false, false, false, false, false, false, false] rfl rfl (by kernel_rfl) (fun _ _ _ h => h) (Or.inl ⟨by rfl, ?_⟩) ?_ ?_
                    rotate_left
                    · intro w'
                      go_simp
                      with_reducible rfl
                    rotate_left
                    · simp only [Act.put, List.setIfInBounds_toArray, List.set_cons_zero, List.set_cons_succ, i64_w, i32_w]
                      rfl
                    refine pure_ (i := 11) (N := some 26) (v := ?_) (a' := ?_) #[true, true, true, true, true, false, false, false, false, true, true, true, false, false, false, false, false, false, false] rfl rfl (by kernel_rfl) (fun _ _ _ h => h) (Or.inl ⟨by rfl, ?_⟩) ?_ ?_
                    rotate_left
                    · intro w'
                      go_simp
                      with_reducible rfl
                    rotate_left
                    · simp only [Act.put, List.setIfInBounds_toArray, List.set_cons_zero, List.set_cons_succ, i64_w, i32_w]
                      rfl
                    refine pure_ (i := 12) (N := some 27) (v := ?_) (a' := ?_) #[true, true, true, true, true, false, false, false, false, true, true, true, true, false, false, false, false, false, false] rfl rfl (by kernel_rfl) (fun _ _ _ h => h) (Or.inl ⟨by rfl, ?_⟩) ?_ ?_
                    rotate_left
                    · intro w'
                      go_simp
                      with_reducible rfl
                    rotate_left
                    · simp only [Act.put, List.setIfInBounds_toArray, List.set_cons_zero, List.set_cons_succ, i64_w, i32_w]
                      rfl
                    refine take_ (i := 5) (N := some 20) (v := ?_) (a' := ?_) #[true, true, true, true, true, true, false, false, false, true, true, true, true, false, false, false, false, false, false] rfl rfl (by kernel_rfl) (fun _ _ _ h => h) (Or.inl ⟨by rfl, ?_⟩) hHeld ?_ ?_
                    rotate_left
                    · rintro w' ⟨s0, s1⟩
                      go_simp
                      with_reducible rfl
                    rotate_left
                    · simp only [Act.put, List.setIfInBounds_toArray, List.set_cons_zero, List.set_cons_succ, i64_w, i32_w]
                      rfl
                    refine take_ (i := 13) (N := some 28) (v := ?_) (a' := ?_) #[true, true, true, true, true, true, false, false, false, true, true, true, true, true, false, false, false, false, false] rfl rfl (by kernel_rfl) (fun _ _ _ h => h) (Or.inl ⟨by rfl, ?_⟩) hHeld ?_ ?_
                    rotate_left
                    · rintro w' ⟨s0, s1⟩
                      go_simp
                      with_reducible rfl
                    rotate_left
                    · simp only [Act.put, List.setIfInBounds_toArray, List.set_cons_zero, List.set_cons_succ, i64_w, i32_w]
                      rfl
                    refine two_ (i := 6) (j := 14) (Ni := some 21) (Nj := some 29) #[true, true, true, true, true, true, true, false, false, true, true, true, true, true, false, false, false, false, false] #[true, true, true, true, true, true, false, false, false, true, true, true, true, true, true, false, false, false, false] rfl rfl rfl rfl (by kernel_rfl) (by decide) (by decide) (fun K hK => ?_) (fun K hK => ?_)
                    · refine value_ (by rfl) rfl (cf_bytes wd nm rfl rfl) ?_
                      obtain ⟨wc1, hwc1⟩ : ∃ w_, w_ = Lib.bytesWorld wd 5 nm := ⟨_, rfl⟩
                      rw [← hwc1]
                      have HC1 := Aside0.mk (show Kd.C (Kd.int .u8) wc1 (some ⟨wd.heap.size, 0, none⟩) (bytesOf nm).length (bytesOf nm) by rw [hwc1]; exact cf_reads wd nm C4.out.1)
                      have hcb : Below wd.heap.size wd wc1 := by rw [hwc1]; exact Own.below_bytesWorld _ _ _
                      have n0_ := Aside0.mk (below_step HB.out hcb); have n1_ := Aside0.mk ((hcb.cell (World.block_lt_of_cell? wd _ HX0.out)).trans HX0.out); have n2_ := Aside0.mk ((hcb.cell (World.block_lt_of_cell? wd _ HX1.out)).trans HX1.out); clear HB HX0 HX1 ; have HB := n0_; have HX0 := n1_; have HX1 := n2_; clear n0_ n1_ n2_  hHeld
                      clear hcb
                      refine hK.out _ _ ⟨HX0.out, HX1.out⟩ (fun hHeld => ?_)
                      clear hK K
                      simp only [Act.put, List.setIfInBounds_toArray, List.set_cons_zero, List.set_cons_succ]
                      refine two_ (i := 7) (j := 14) (Ni := some 22) (Nj := some 29) #[true, true, true, true, true, true, true, true, false, true, true, true, true, true, false, false, false, false, false] #[true, true, true, true, true, true, true, false, false, true, true, true, true, true, true, false, false, false, false] rfl rfl rfl rfl (by kernel_rfl) (by decide) (by decide) (fun K hK => ?_) (fun K hK => ?_)
                      · refine goes_ Tryd.func26 (by kernel_rfl) rfl #[.int .i64 8, .slice (some ⟨wd.heap.size, 0, none⟩) (bytesOf nm).length (grownCap wd nm.size 0 5)] (by rfl) rfl rfl (by first | rfl | (simp only [List.map_toArray, List.map_cons, List.map_nil]; rfl)) ?_
                        with_reducible refine (sprref1_Percent.calls k1 8 (some ⟨wd.heap.size, 0, none⟩) (grownCap wd nm.size 0 5) (bytesOf nm) a _ HC1.out (by rw [bytesOf_length]; exact grownCap_ge _ _ _ _) A1.out).mono ?_
                        rintro e wf2 ⟨rfl, hb⟩
                        refine ⟨_, rfl, ?_⟩
                        have n0_ := Aside0.mk (below_step HB.out hb); have n1_ := Aside0.mk ((hb.cell (World.block_lt_of_cell? wc1 _ HX0.out)).trans HX0.out); have n2_ := Aside0.mk ((hb.cell (World.block_lt_of_cell? wc1 _ HX1.out)).trans HX1.out); have m0_ := Aside0.mk (Kd.C_below HC1.out hb); clear HB HX0 HX1 HC1; have HB := n0_; have HX0 := n1_; have HX1 := n2_; have HC1 := m0_; clear n0_ n1_ n2_ m0_ hHeld
                        clear hb
                        refine hK.out _ _ ⟨HX0.out, HX1.out⟩ (fun hHeld => ?_)
                        clear hK K
                        simp only [Act.put, List.setIfInBounds_toArray, List.set_cons_zero, List.set_cons_succ]
                        clear HC1
                        refine pure_ (i := 8) (N := some 23) (v := ?_) (a' := ?_) #[true, true, true, true, true, true, true, true, true, true, true, true, true, true, false, false, false, false, false] rfl rfl (by kernel_rfl) (fun _ _ _ h => h) (Or.inl ⟨by rfl, ?_⟩) ?_ ?_
                        rotate_left
                        · intro w'
                          go_simp
                          with_reducible rfl
                        rotate_left
                        · simp only [Act.put, List.setIfInBounds_toArray, List.set_cons_zero, List.set_cons_succ, i64_w, i32_w]
                          rfl
                        refine one_ (i := 14) (N := some 29) #[true, true, true, true, true, true, true, true, true, true, true, true, true, true, true, false, false, false, false] rfl rfl (by kernel_rfl) (by decide) (fun K hK => ?_)
                        refine value_ (by rfl) rfl (cf_bytes wf2 vl rfl rfl) ?_
                        obtain ⟨wc3, hwc3⟩ : ∃ w_, w_ = Lib.bytesWorld wf2 5 vl := ⟨_, rfl⟩
                        rw [← hwc3]
                        have HC2 := Aside0.mk (show Kd.C (Kd.int .u8) wc3 (some ⟨wf2.heap.size, 0, none⟩) (bytesOf vl).length (bytesOf vl) by rw [hwc3]; exact cf_reads wf2 vl C4.out.2)
                        have hcb : Below wf2.heap.size wf2 wc3 := by rw [hwc3]; exact Own.below_bytesWorld _ _ _
                        have n0_ := Aside0.mk (below_step HB.out hcb); have n1_ := Aside0.mk ((hcb.cell (World.block_lt_of_cell? wf2 _ HX0.out)).trans HX0.out); have n2_ := Aside0.mk ((hcb.cell (World.block_lt_of_cell? wf2 _ HX1.out)).trans HX1.out); clear HB HX0 HX1 ; have HB := n0_; have HX0 := n1_; have HX1 := n2_; clear n0_ n1_ n2_  hHeld
                        clear hcb
                        refine hK.out _ _ ⟨HX0.out, HX1.out⟩ (fun hHeld => ?_)
                        clear hK K
                        simp only [Act.put, List.setIfInBounds_toArray, List.set_cons_zero, List.set_cons_succ]
                        refine one_ (i := 15) (N := some 30) #[true, true, true, true, true, true, true, true, true, true, true, true, true, true, true, true, false, false, false] rfl rfl (by kernel_rfl) (by decide) (fun K hK => ?_)
                        refine goes_ Tryd.func26 (by kernel_rfl) rfl #[.int .i64 8, .slice (some ⟨wf2.heap.size, 0, none⟩) (bytesOf vl).length (grownCap wf2 vl.size 0 5)] (by rfl) rfl rfl (by first | rfl | (simp only [List.map_toArray, List.map_cons, List.map_nil]; rfl)) ?_
                        with_reducible refine (sprref1_Percent.calls k1 8 (some ⟨wf2.heap.size, 0, none⟩) (grownCap wf2 vl.size 0 5) (bytesOf vl) b _ HC2.out (by rw [bytesOf_length]; exact grownCap_ge _ _ _ _) A2.out).mono ?_
                        rintro e wf4 ⟨rfl, hb⟩
                        refine ⟨_, rfl, ?_⟩
                        have n0_ := Aside0.mk (below_step HB.out hb); have n1_ := Aside0.mk ((hb.cell (World.block_lt_of_cell? wc3 _ HX0.out)).trans HX0.out); have n2_ := Aside0.mk ((hb.cell (World.block_lt_of_cell? wc3 _ HX1.out)).trans HX1.out); clear HB HX0 HX1 ; have HB := n0_; have HX0 := n1_; have HX1 := n2_; clear n0_ n1_ n2_  hHeld
                        clear hb
                        refine hK.out _ _ ⟨HX0.out, HX1.out⟩ (fun hHeld => ?_)
                        clear hK K
                        simp only [Act.put, List.setIfInBounds_toArray, List.set_cons_zero, List.set_cons_succ]
                        refine pure_ (i := 16) (N := some 31) (v := ?_) (a' := ?_) #[true, true, true, true, true, true, true, true, true, true, true, true, true, true, true, true, true, false, false] rfl rfl (by kernel_rfl) (fun _ _ _ h => h) (Or.inl ⟨by rfl, ?_⟩) ?_ ?_
                        rotate_left
                        · intro w'
                          go_simp
                          with_reducible rfl
                        rotate_left
                        · simp only [Act.put, List.setIfInBounds_toArray, List.set_cons_zero, List.set_cons_succ, i64_w, i32_w]
                          rfl
                        refine pure_ (i := 17) (N := some 32) (v := ?_) (a' := ?_) #[true, true, true, true, true, true, true, true, true, true, true, true, true, true, true, true, true, true, false] rfl rfl (by kernel_rfl) (fun _ _ _ h => h) (Or.inl ⟨by rfl, ?_⟩) ?_ ?_
                        rotate_left
                        · intro w'
                          go_simp
                          with_reducible rfl
                        rotate_left
                        · simp only [Act.put, List.setIfInBounds_toArray, List.set_cons_zero, List.set_cons_succ, i64_w, i32_w]
                          rfl
                        refine pure_ (i := 18) (N := some 3) (v := ?_) (a' := ?_) #[true, true, true, true, true, true, true, true, true, true, true, true, true, true, true, true, true, true, true] rfl rfl (by kernel_rfl) (fun _ _ _ h => h) (Or.inl ⟨by rfl, ?_⟩) ?_ ?_
                        rotate_left
                        · intro w'
                          go_simp
                          with_reducible rfl
                        rotate_left
                        · simp only [Act.put, List.setIfInBounds_toArray, List.set_cons_zero, List.set_cons_succ, i64_w, i32_w]
                          rfl
                        refine done_ (by kernel_rfl) ?_
                        clear hHeld
                        go_wp2
                        go_roundg k1
                        case measure => have := HK1.out; omega
                        case rel => exact ⟨s ++ ((a ++ (⟨#[61]⟩ : ByteArray)) ++ b), wrap64 (i + 1), (by first | rfl | (simp; done) | (simp [*]; done)), (by first | rfl | (simp; done) | (simp [*]; done)), H', ⟨by have := HK1.out; omega⟩, ⟨by repeat (first | (with_reducible first | exact HB.out | apply below_alloc | apply pw_below_drewN | apply below_drew1) | exact HB.out)⟩⟩
                      · refine value_ (by rfl) rfl (cf_bytes wc1 vl rfl rfl) ?_
                        obtain ⟨wc5, hwc5⟩ : ∃ w_, w_ = Lib.bytesWorld wc1 5 vl := ⟨_, rfl⟩
                        rw [← hwc5]
                        have HC2 := Aside0.mk (show Kd.C (Kd.int .u8) wc5 (some ⟨wc1.heap.size, 0, none⟩) (bytesOf vl).length (bytesOf vl) by rw [hwc5]; exact cf_reads wc1 vl C4.out.2)
                        have hcb : Below wc1.heap.size wc1 wc5 := by rw [hwc5]; exact Own.below_bytesWorld _ _ _
                        have n0_ := Aside0.mk (below_step HB.out hcb); have n1_ := Aside0.mk ((hcb.cell (World.block_lt_of_cell? wc1 _ HX0.out)).trans HX0.out); have n2_ := Aside0.mk ((hcb.cell (World.block_lt_of_cell? wc1 _ HX1.out)).trans HX1.out); have m0_ := Aside0.mk (Kd.C_below HC1.out hcb); clear HB HX0 HX1 HC1; have HB := n0_; have HX0 := n1_; have HX1 := n2_; have HC1 := m0_; clear n0_ n1_ n2_ m0_ hHeld
                        clear hcb
                        refine hK.out _ _ ⟨HX0.out, HX1.out⟩ (fun hHeld => ?_)
                        clear hK K
                        simp only [Act.put, List.setIfInBounds_toArray, List.set_cons_zero, List.set_cons_succ]
                        refine one_ (i := 7) (N := some 22) #[true, true, true, true, true, true, true, true, false, true, true, true, true, true, true, false, false, false, false] rfl rfl (by kernel_rfl) (by decide) (fun K hK => ?_)
                        refine goes_ Tryd.func26 (by kernel_rfl) rfl #[.int .i64 8, .slice (some ⟨wd.heap.size, 0, none⟩) (bytesOf nm).length (grownCap wd nm.size 0 5)] (by rfl) rfl rfl (by first | rfl | (simp only [List.map_toArray, List.map_cons, List.map_nil]; rfl)) ?_
                        with_reducible refine (sprref1_Percent.calls k1 8 (some ⟨wd.heap.size, 0, none⟩) (grownCap wd nm.size 0 5) (bytesOf nm) a _ HC1.out (by rw [bytesOf_length]; exact grownCap_ge _ _ _ _) A1.out).mono ?_
                        rintro e wf6 ⟨rfl, hb⟩
                        refine ⟨_, rfl, ?_⟩
                        have n0_ := Aside0.mk (below_step HB.out hb); have n1_ := Aside0.mk ((hb.cell (World.block_lt_of_cell? wc5 _ HX0.out)).trans HX0.out); have n2_ := Aside0.mk ((hb.cell (World.block_lt_of_cell? wc5 _ HX1.out)).trans HX1.out); have m0_ := Aside0.mk (Kd.C_below HC1.out hb); have m1_ := Aside0.mk (Kd.C_below HC2.out hb); clear HB HX0 HX1 HC1 HC2; have HB := n0_; have HX0 := n1_; have HX1 := n2_; have HC1 := m0_; have HC2 := m1_; clear n0_ n1_ n2_ m0_ m1_ hHeld
                        clear hb
                        refine hK.out _ _ ⟨HX0.out, HX1.out⟩ (fun hHeld => ?_)
                        clear hK K
                        simp only [Act.put, List.setIfInBounds_toArray, List.set_cons_zero, List.set_cons_succ]
                        clear HC1
                        refine pure_ (i := 8) (N := some 23) (v := ?_) (a' := ?_) #[true, true, true, true, true, true, true, true, true, true, true, true, true, true, true, false, false, false, false] rfl rfl (by kernel_rfl) (fun _ _ _ h => h) (Or.inl ⟨by rfl, ?_⟩) ?_ ?_
                        rotate_left
                        · intro w'
                          go_simp
                          with_reducible rfl
                        rotate_left
                        · simp only [Act.put, List.setIfInBounds_toArray, List.set_cons_zero, List.set_cons_succ, i64_w, i32_w]
                          rfl
                        refine one_ (i := 15) (N := some 30) #[true, true, true, true, true, true, true, true, true, true, true, true, true, true, true, true, false, false, false] rfl rfl (by kernel_rfl) (by decide) (fun K hK => ?_)
                        refine goes_ Tryd.func26 (by kernel_rfl) rfl #[.int .i64 8, .slice (some ⟨wc1.heap.size, 0, none⟩) (bytesOf vl).length (grownCap wc1 vl.size 0 5)] (by rfl) rfl rfl (by first | rfl | (simp only [List.map_toArray, List.map_cons, List.map_nil]; rfl)) ?_
                        with_reducible refine (sprref1_Percent.calls k1 8 (some ⟨wc1.heap.size, 0, none⟩) (grownCap wc1 vl.size 0 5) (bytesOf vl) b _ HC2.out (by rw [bytesOf_length]; exact grownCap_ge _ _ _ _) A2.out).mono ?_
                        rintro e wf7 ⟨rfl, hb⟩
                        refine ⟨_, rfl, ?_⟩
                        have n0_ := Aside0.mk (below_step HB.out hb); have n1_ := Aside0.mk ((hb.cell (World.block_lt_of_cell? wf6 _ HX0.out)).trans HX0.out); have n2_ := Aside0.mk ((hb.cell (World.block_lt_of_cell? wf6 _ HX1.out)).trans HX1.out); clear HB HX0 HX1 ; have HB := n0_; have HX0 := n1_; have HX1 := n2_; clear n0_ n1_ n2_  hHeld
                        clear hb
                        refine hK.out _ _ ⟨HX0.out, HX1.out⟩ (fun hHeld => ?_)
                        clear hK K
                        simp only [Act.put, List.setIfInBounds_toArray, List.set_cons_zero, List.set_cons_succ]
                        refine pure_ (i := 16) (N := some 31) (v := ?_) (a' := ?_) #[true, true, true, true, true, true, true, true, true, true, true, true, true, true, true, true, true, false, false] rfl rfl (by kernel_rfl) (fun _ _ _ h => h) (Or.inl ⟨by rfl, ?_⟩) ?_ ?_
                        rotate_left
                        · intro w'
                          go_simp
                          with_reducible rfl
                        rotate_left
                        · simp only [Act.put, List.setIfInBounds_toArray, List.set_cons_zero, List.set_cons_succ, i64_w, i32_w]
                          rfl
                        refine pure_ (i := 17) (N := some 32) (v := ?_) (a' := ?_) #[true, true, true, true, true, true, true, true, true, true, true, true, true, true, true, true, true, true, false] rfl rfl (by kernel_rfl) (fun _ _ _ h => h) (Or.inl ⟨by rfl, ?_⟩) ?_ ?_
                        rotate_left
                        · intro w'
                          go_simp
                          with_reducible rfl
                        rotate_left
                        · simp only [Act.put, List.setIfInBounds_toArray, List.set_cons_zero, List.set_cons_succ, i64_w, i32_w]
                          rfl
                        refine pure_ (i := 18) (N := some 3) (v := ?_) (a' := ?_) #[true, true, true, true, true, true, true, true, true, true, true, true, true, true, true, true, true, true, true] rfl rfl (by kernel_rfl) (fun _ _ _ h => h) (Or.inl ⟨by rfl, ?_⟩) ?_ ?_
                        rotate_left
                        · intro w'
                          go_simp
                          with_reducible rfl
                        rotate_left
                        · simp only [Act.put, List.setIfInBounds_toArray, List.set_cons_zero, List.set_cons_succ, i64_w, i32_w]
                          rfl
                        refine done_ (by kernel_rfl) ?_
                        clear hHeld
                        go_wp2
                        go_roundg k1
                        case measure => have := HK1.out; omega
                        case rel => exact ⟨s ++ ((a ++ (⟨#[61]⟩ : ByteArray)) ++ b), wrap64 (i + 1), (by first | rfl | (simp; done) | (simp [*]; done)), (by first | rfl | (simp; done) | (simp [*]; done)), H', ⟨by have := HK1.out; omega⟩, ⟨by repeat (first | (with_reducible first | exact HB.out | apply below_alloc | apply pw_below_drewN | apply below_drew1) | exact HB.out)⟩⟩
                    · refine value_ (by rfl) rfl (cf_bytes wd vl rfl rfl) ?_
                      obtain ⟨wc8, hwc8⟩ : ∃ w_, w_ = Lib.bytesWorld wd 5 vl := ⟨_, rfl⟩
                      rw [← hwc8]
                      have HC2 := Aside0.mk (show Kd.C (Kd.int .u8) wc8 (some ⟨wd.heap.size, 0, none⟩) (bytesOf vl).length (bytesOf vl) by rw [hwc8]; exact cf_reads wd vl C4.out.2)
                      have hcb : Below wd.heap.size wd wc8 := by rw [hwc8]; exact Own.below_bytesWorld _ _ _
                      have n0_ := Aside0.mk (below_step HB.out hcb); have n1_ := Aside0.mk ((hcb.cell (World.block_lt_of_cell? wd _ HX0.out)).trans HX0.out); have n2_ := Aside0.mk ((hcb.cell (World.block_lt_of_cell? wd _ HX1.out)).trans HX1.out); clear HB HX0 HX1 ; have HB := n0_; have HX0 := n1_; have HX1 := n2_; clear n0_ n1_ n2_  hHeld
                      clear hcb
                      refine hK.out _ _ ⟨HX0.out, HX1.out⟩ (fun hHeld => ?_)
                      clear hK K
                      simp only [Act.put, List.setIfInBounds_toArray, List.set_cons_zero, List.set_cons_succ]
                      refine one_ (i := 6) (N := some 21) #[true, true, true, true, true, true, true, false, false, true, true, true, true, true, true, false, false, false, false] rfl rfl (by kernel_rfl) (by decide) (fun K hK => ?_)
                      refine value_ (by rfl) rfl (cf_bytes wc8 nm rfl rfl) ?_
                      obtain ⟨wc9, hwc9⟩ : ∃ w_, w_ = Lib.bytesWorld wc8 5 nm := ⟨_, rfl⟩
                      rw [← hwc9]
                      have HC1 := Aside0.mk (show Kd.C (Kd.int .u8) wc9 (some ⟨wc8.heap.size, 0, none⟩) (bytesOf nm).length (bytesOf nm) by rw [hwc9]; exact cf_reads wc8 nm C4.out.1)
                      have hcb : Below wc8.heap.size wc8 wc9 := by rw [hwc9]; exact Own.below_bytesWorld _ _ _
                      have n0_ := Aside0.mk (below_step HB.out hcb); have n1_ := Aside0.mk ((hcb.cell (World.block_lt_of_cell? wc8 _ HX0.out)).trans HX0.out); have n2_ := Aside0.mk ((hcb.cell (World.block_lt_of_cell? wc8 _ HX1.out)).trans HX1.out); have m0_ := Aside0.mk (Kd.C_below HC2.out hcb); clear HB HX0 HX1 HC2; have HB := n0_; have HX0 := n1_; have HX1 := n2_; have HC2 := m0_; clear n0_ n1_ n2_ m0_ hHeld
                      clear hcb
                      refine hK.out _ _ ⟨HX0.out, HX1.out⟩ (fun hHeld => ?_)
                      clear hK K
                      simp only [Act.put, List.setIfInBounds_toArray, List.set_cons_zero, List.set_cons_succ]
                      refine one_ (i := 7) (N := some 22) #[true, true, true, true, true, true, true, true, false, true, true, true, true, true, true, false, false, false, false] rfl rfl (by kernel_rfl) (by decide) (fun K hK => ?_)
                      refine goes_ Tryd.func26 (by kernel_rfl) rfl #[.int .i64 8, .slice (some ⟨wc8.heap.size, 0, none⟩) (bytesOf nm).length (grownCap wc8 nm.size 0 5)] (by rfl) rfl rfl (by first | rfl | (simp only [List.map_toArray, List.map_cons, List.map_nil]; rfl)) ?_
                      with_reducible refine (sprref1_Percent.calls k1 8 (some ⟨wc8.heap.size, 0, none⟩) (grownCap wc8 nm.size 0 5) (bytesOf nm) a _ HC1.out (by rw [bytesOf_length]; exact grownCap_ge _ _ _ _) A1.out).mono ?_
                      rintro e wf10 ⟨rfl, hb⟩
                      refine ⟨_, rfl, ?_⟩
                      have n0_ := Aside0.mk (below_step HB.out hb); have n1_ := Aside0.mk ((hb.cell (World.block_lt_of_cell? wc9 _ HX0.out)).trans HX0.out); have n2_ := Aside0.mk ((hb.cell (World.block_lt_of_cell? wc9 _ HX1.out)).trans HX1.out); have m0_ := Aside0.mk (Kd.C_below HC1.out hb); have m1_ := Aside0.mk (Kd.C_below HC2.out hb); clear HB HX0 HX1 HC1 HC2; have HB := n0_; have HX0 := n1_; have HX1 := n2_; have HC1 := m0_; have HC2 := m1_; clear n0_ n1_ n2_ m0_ m1_ hHeld
                      clear hb
                      refine hK.out _ _ ⟨HX0.out, HX1.out⟩ (fun hHeld => ?_)
                      clear hK K
                      simp only [Act.put, List.setIfInBounds_toArray, List.set_cons_zero, List.set_cons_succ]
                      clear HC1
                      refine pure_ (i := 8) (N := some 23) (v := ?_) (a' := ?_) #[true, true, true, true, true, true, true, true, true, true, true, true, true, true, true, false, false, false, false] rfl rfl (by kernel_rfl) (fun _ _ _ h => h) (Or.inl ⟨by rfl, ?_⟩) ?_ ?_
                      rotate_left
                      · intro w'
                        go_simp
                        with_reducible rfl
                      rotate_left
                      · simp only [Act.put, List.setIfInBounds_toArray, List.set_cons_zero, List.set_cons_succ, i64_w, i32_w]
                        rfl
                      refine one_ (i := 15) (N := some 30) #[true, true, true, true, true, true, true, true, true, true, true, true, true, true, true, true, false, false, false] rfl rfl (by kernel_rfl) (by decide) (fun K hK => ?_)
                      refine goes_ Tryd.func26 (by kernel_rfl) rfl #[.int .i64 8, .slice (some ⟨wd.heap.size, 0, none⟩) (bytesOf vl).length (grownCap wd vl.size 0 5)] (by rfl) rfl rfl (by first | rfl | (simp only [List.map_toArray, List.map_cons, List.map_nil]; rfl)) ?_
                      with_reducible refine (sprref1_Percent.calls k1 8 (some ⟨wd.heap.size, 0, none⟩) (grownCap wd vl.size 0 5) (bytesOf vl) b _ HC2.out (by rw [bytesOf_length]; exact grownCap_ge _ _ _ _) A2.out).mono ?_
                      rintro e wf11 ⟨rfl, hb⟩
                      refine ⟨_, rfl, ?_⟩
                      have n0_ := Aside0.mk (below_step HB.out hb); have n1_ := Aside0.mk ((hb.cell (World.block_lt_of_cell? wf10 _ HX0.out)).trans HX0.out); have n2_ := Aside0.mk ((hb.cell (World.block_lt_of_cell? wf10 _ HX1.out)).trans HX1.out); clear HB HX0 HX1 ; have HB := n0_; have HX0 := n1_; have HX1 := n2_; clear n0_ n1_ n2_  hHeld
                      clear hb
                      refine hK.out _ _ ⟨HX0.out, HX1.out⟩ (fun hHeld => ?_)
                      clear hK K
                      simp only [Act.put, List.setIfInBounds_toArray, List.set_cons_zero, List.set_cons_succ]
                      refine pure_ (i := 16) (N := some 31) (v := ?_) (a' := ?_) #[true, true, true, true, true, true, true, true, true, true, true, true, true, true, true, true, true, false, false] rfl rfl (by kernel_rfl) (fun _ _ _ h => h) (Or.inl ⟨by rfl, ?_⟩) ?_ ?_
                      rotate_left
                      · intro w'
                        go_simp
                        with_reducible rfl
                      rotate_left
                      · simp only [Act.put, List.setIfInBounds_toArray, List.set_cons_zero, List.set_cons_succ, i64_w, i32_w]
                        rfl
                      refine pure_ (i := 17) (N := some 32) (v := ?_) (a' := ?_) #[true, true, true, true, true, true, true, true, true, true, true, true, true, true, true, true, true, true, false] rfl rfl (by kernel_rfl) (fun _ _ _ h => h) (Or.inl ⟨by rfl, ?_⟩) ?_ ?_
                      rotate_left
                      · intro w'
                        go_simp
                        with_reducible rfl
                      rotate_left
                      · simp only [Act.put, List.setIfInBounds_toArray, List.set_cons_zero, List.set_cons_succ, i64_w, i32_w]
                        rfl
                      refine pure_ (i := 18) (N := some 3) (v := ?_) (a' := ?_) #[true, true, true, true, true, true, true, true, true, true, true, true, true, true, true, true, true, true, true] rfl rfl (by kernel_rfl) (fun _ _ _ h => h) (Or.inl ⟨by rfl, ?_⟩) ?_ ?_
                      rotate_left
                      · intro w'
                        go_simp
                        with_reducible rfl
                      rotate_left
                      · simp only [Act.put, List.setIfInBounds_toArray, List.set_cons_zero, List.set_cons_succ, i64_w, i32_w]
                        rfl
                      refine done_ (by kernel_rfl) ?_
                      clear hHeld
                      go_wp2
                      go_roundg k1
                      case measure => have := HK1.out; omega
                      case rel => exact ⟨s ++ ((a ++ (⟨#[61]⟩ : ByteArray)) ++ b), wrap64 (i + 1), (by first | rfl | (simp; done) | (simp [*]; done)), (by first | rfl | (simp; done) | (simp [*]; done)), H', ⟨by have := HK1.out; omega⟩, ⟨by repeat (first | (with_reducible first | exact HB.out | apply below_alloc | apply pw_below_drewN | apply below_drew1) | exact HB.out)⟩⟩
                  · rw [if_neg c7] at H
                    exact absurd H (by simp)
                · rw [if_neg c6] at H
                  exact absurd H (by simp)
              · rw [if_neg c5] at H
                exact absurd H (by simp)
          · rw [if_neg c4] at H
            exact absurd H (by simp)
        · rw [if_neg c3] at H
          exact absurd H (by simp)
      · rw [if_neg c2] at H
        have c2b0 : decide (i < (l0.length : Int)) = false := decide_eq_false c2
        obtain rfl := Option.some.inj H
        clear H c2
        go_wp2
        go_ret
        exact ⟨rfl, by repeat (first | (with_reducible first | exact HB.out | apply below_alloc | apply pw_below_drewN | apply below_drew1) | exact HB.out)⟩


end Go.Proofs.YtkaegbamkdgjjaaDoor.G
