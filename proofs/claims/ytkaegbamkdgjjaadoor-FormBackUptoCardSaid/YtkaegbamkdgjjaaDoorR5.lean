-- Written by a program of this session's (wip/xprint.py), out of the seat's translation.
import Derived.Test.YtkaegbamkdgjjaaDoorR0
import Derived.Test.YtkaegbamkdgjjaaDoorR4
namespace Go.Proofs.YtkaegbamkdgjjaaDoor.R
open Go.RowKit Go.Proofs.YtkaegbamkdgjjaaDoorW.PrintWords Go.Proofs.YtkaegbamkdgjjaaDoorW.PrintLast Go.Proofs.YtkaegbamkdgjjaaDoorW.PrintMore
attribute [local go_sem] max2_int min2_int max_two min_two max_three min_three max_four min_four   -- for this text's walks alone
set_option linter.unusedVariables false
set_option linter.unusedSimpArgs false

/-! ### query_Print: function 11 -/
def query_Print.l0 : Nat → List ByteArray → List S33 → Int → Int → Option ByteArray
  | 0, _, _, _, _ => none
  | k + 1, out, l, n, i => if i < n then (if 0 ≤ i then (if i < (l.length : Int) then (if (rd_T33 l i).f0.size ≤ 9223372036854775807 ∧ (rd_T33 l i).f1.size ≤ 9223372036854775807 then ((pct_Encode.f k 8 (bytesOf (rd_T33 l i).f0)).bind fun a => (if a.size + 1 ≤ 9223372036854775807 then ((pct_Encode.f k 8 (bytesOf (rd_T33 l i).f1)).bind fun b => (if (a ++ (⟨#[61]⟩ : ByteArray)).size + b.size ≤ 9223372036854775807 then (if out.length < 4398046511104 then (query_Print.l0 k (out ++ [(a ++ (⟨#[61]⟩ : ByteArray)) ++ b]) l n (wrap64 (i + 1))) else (none)) else (none))) else (none))) else (none)) else (none)) else (none)) else (strings_Join.f out (⟨#[38]⟩ : ByteArray))
def query_Print.f (k : Nat) (l : List S33) : Option ByteArray := query_Print.l0 k [] l (l.length : Int) 0
theorem query_Print.mono_l : ∀ k, (∀ y0 y1 y2 y3, LeO (query_Print.l0 k y0 y1 y2 y3) (query_Print.l0 (k + 1) y0 y1 y2 y3))
  | 0 => fun _ _ _ _ r h => by simp [query_Print.l0] at h
  | k + 1 => by
    have ih0 := query_Print.mono_l k
    intro y0 y1 y2 y3
    unfold query_Print.l0
    repeat' first
      | (with_reducible exact ih0 _ _ _ _)
      | (with_reducible exact pct_Encode.mono _ _ _)
      | (with_reducible exact LeO.refl _)
      | (with_reducible exact LeO.none _)
      | (with_reducible refine LeO.ite ?_ ?_)
      | (with_reducible refine LeO.bind ?_ (fun _ => ?_))
      | exact ih0 _ _ _ _
      | exact pct_Encode.mono _ _ _
      | exact LeO.none _
      | refine LeO.ite ?_ ?_
      | refine LeO.bind ?_ (fun _ => ?_)
theorem query_Print.mono : ∀ a0 k, LeO (query_Print.f k a0) (query_Print.f (k + 1) a0) := fun _ k => query_Print.mono_l k _ _ _ _
section
variable {P : Program} {ops : Array Oper}
theorem cp_bytes {e : Operand → Value} {o : Oper} {x : Operand} (w : World) (s : ByteArray) (ho : o.op = .convert 9 43 x) (hx : e x = .string s) : (execOp e o).run Tryd.prog w = .ok (.value (.slice (some ⟨w.heap.size, 0, none⟩) (bytesOf s).length (grownCap w s.size 0 5))) (Lib.bytesWorld w 5 s) := by
  have hconv := Lib.run_convert_string_bytes (P := Tryd.prog) w 9 43 5 s Tryd.underlying9 Tryd.underlying43 Tryd.underlying5
  unfold execOp
  rw [bytesOf_length]
  simp only [ho, hx, Sem.run_bind, Sem.run_pure, Result.andThen_ok, hconv]
theorem cp_reads (w : World) (s : ByteArray) (hs : s.size ≤ 9223372036854775807) : Kd.C (Kd.int .u8) (Lib.bytesWorld w 5 s) (some ⟨w.heap.size, 0, none⟩) (bytesOf s).length (bytesOf s) := by
  rw [bytesOf_length]
  exact Kd.C_of_reads (enc := Value.int .u8) (d := (0 : Int)) (h1 := fun _ => rfl) (bytes_reads w 5 s hs)
end
set_option maxHeartbeats 4000000 in
set_option maxRecDepth 100000 in
theorem query_Print.calls (k : Nat) (A0 : Option Addr) (c0 : Nat) (l0 : List S33) (r : ByteArray) (w : World) (hr0 : Kd.C k33 w A0 l0.length l0) (hc0 : l0.length ≤ c0) (h : query_Print.f k l0 = some r) :
    Calls Tryd.prog 11 #[.slice A0 l0.length c0] w fun e w' => e = .returned (.string r) ∧ Below w.heap.size w w' := by
  have HR0 := Aside0.mk hr0
  have HC0 := Aside0.mk hc0
  clear hr0 hc0
  have HB := Aside0.mk (Below.refl w.heap.size w)
  have H' := Aside0.mk (show query_Print.l0 k [] l0 (l0.length : Int) 0 = some r from h)
  clear h
  go_enter Tryd.func11, Tryd.ntmps11
  go_wp2
  go_loopg [3, 8] k (fun kq v3 v8 w' => ∃ (out : List ByteArray) (x8 : Int), v8 = .int .i64 x8 ∧ Aside0 (query_Print.l0 kq out l0 (l0.length : Int) x8 = some r) ∧ Aside0 (kq ≤ k) ∧ Aside0 (Kd.R Kd.string 9 w' w.heap.size (fun _ => True) v3 out) ∧ Aside0 (Below w.heap.size w w'))
  case atStart => exact ⟨[], 0, rfl, H', ⟨Nat.le_refl _⟩, ⟨Kd.R_nil _ _ _ _ _⟩, ⟨by repeat (first | (with_reducible first | exact HB.out | apply below_alloc | apply pw_below_drewN | apply below_drew1) | exact HB.out)⟩⟩
  case round =>
    clear H' HB
    obtain ⟨out, i, rfl, HA, HK1, HO, HB⟩ := hrel
    cases gk with
    | zero => exact absurd HA.out (by simp [query_Print.l0])
    | succ k1 =>
      have H := HA.out
      clear HA
      simp only [query_Print.l0] at H
      by_cases c2 : i < (l0.length : Int)
      · rw [if_pos c2] at H
        have c2b0 : decide (i < (l0.length : Int)) = true := decide_eq_true c2
        by_cases c3 : 0 ≤ i
        · rw [if_pos c3, if_pos c2] at H
          obtain ⟨ad, e225, hx0, hx1⟩ := at_T33 HR0.out i c3 c2
          cases e225
          replace hx0 := (HB.out.cell (World.block_lt_of_cell? w _ hx0)).trans hx0
          replace hx1 := (HB.out.cell (World.block_lt_of_cell? w _ hx1)).trans hx1
          generalize (rd_T33 l0 i).f0 = nm at H hx0
          generalize (rd_T33 l0 i).f1 = vl at H hx1
          by_cases c4 : nm.size ≤ 9223372036854775807 ∧ vl.size ≤ 9223372036854775807
          · rw [if_pos c4] at H
            obtain ⟨a, hA0, H⟩ := Option.bind_eq_some_iff.mp H
            by_cases c5 : a.size + 1 ≤ 9223372036854775807
            · rw [if_pos c5] at H
              obtain ⟨b, hB0, H⟩ := Option.bind_eq_some_iff.mp H
              by_cases c6 : (a ++ (⟨#[61]⟩ : ByteArray)).size + b.size ≤ 9223372036854775807
              · rw [if_pos c6] at H
                by_cases c7 : out.length < 4398046511104
                · rw [if_pos c7] at H
                  have A1 := Aside0.mk hA0
                  have A2 := Aside0.mk hB0
                  have H' := Aside0.mk H
                  have C4 := Aside0.mk c4
                  have C5 := Aside0.mk c5
                  have C6 := Aside0.mk c6
                  have C7 := Aside0.mk c7
                  clear hA0 hB0 H c4 c5 c6 c7
                  have p225 := eq_true c3
                  have q225 := eq_true c2
                  clear c2 c3
                  have hu33 := Tryd.underlying33
                  obtain ⟨Ao, co, eo⟩ := Kd.R_slice HO.out
                  subst eo
                  go_wp2_with fail
                  obtain ⟨w0, hw0⟩ : ∃ w_, w_ = wr.alloc (.cells #[.string nm, .string vl] 33) := ⟨_, rfl⟩
                  rw [← hw0]
                  obtain ⟨g, hg⟩ : ∃ g_, g_ = wr.heap.size := ⟨_, rfl⟩
                  rw [← hg]
                  have n0_ := Aside0.mk (show Below w.heap.size w w0.drew by rw [hw0]; exact below_drew1 (below_alloc HB.out _))
                  have n1_ := Aside0.mk (show w0.drew.cell? ⟨g, 0, none⟩ = some (.string nm) by rw [World.cell?_drew, hw0, hg]; exact (blk_cell (blk_new _ _) 0).trans rfl)
                  have n2_ := Aside0.mk (show w0.drew.cell? ⟨g, 1, none⟩ = some (.string vl) by rw [World.cell?_drew, hw0, hg]; exact (blk_cell (blk_new _ _) 1).trans rfl)
                  have n3_ := Aside0.mk (show Kd.R Kd.string 9 w0.drew w.heap.size (fun _ => True) (.slice Ao out.length co) out by rw [hw0]; exact Kd.R_drew (Kd.R_alloc HO.out _))
                  clear HB HO hx0 hx1 hw0 hg
                  have HB := n0_; have HX0 := n1_; have HX1 := n2_; have HO := n3_; clear n0_ n1_ n2_ n3_
                  have c5b : (9223372036854775807 < a.size + 1) = False := eq_false (Nat.not_lt.2 C5.out)
                  have c6b : (9223372036854775807 < a.size + 1 + b.size) = False := eq_false (by have := C6.out; rw [ByteArray.size_append] at this; have e0 : (⟨#[61]⟩ : ByteArray).size = 1 := rfl; omega)
                  refine start_ (n := 14) (S := fun w' => w'.cell? ⟨g, 0, none⟩ = some (.string nm) ∧ w'.cell? ⟨g, 1, none⟩ = some (.string vl)) (ds := [11, 12]) #[false, false, false, false, false, false, false, false, false, false, false, false, false, false] (by kernel_rfl) rfl rfl ⟨HX0.out, HX1.out⟩ (fun hHeld => ?_)
                  generalize World.drew _ = wd at HB HX0 HX1 HO hHeld ⊢
                  refine pure_ (i := 0) (N := some 12) (v := ?_) (a' := ?_) #[true, false, false, false, false, false, false, false, false, false, false, false, false, false] rfl rfl (by kernel_rfl) (fun _ _ _ h => h) (Or.inl ⟨by rfl, ?_⟩) ?_ ?_
                  rotate_left
                  · intro w'
                    go_simp
                    with_reducible rfl
                  rotate_left
                  · simp only [Act.put, List.setIfInBounds_toArray, List.set_cons_zero, List.set_cons_succ, i64_w, i32_w]
                    rfl
                  refine pure_ (i := 1) (N := some 13) (v := ?_) (a' := ?_) #[true, true, false, false, false, false, false, false, false, false, false, false, false, false] rfl rfl (by kernel_rfl) (fun _ _ _ h => h) (Or.inl ⟨by rfl, ?_⟩) ?_ ?_
                  rotate_left
                  · intro w'
                    go_simp
                    with_reducible rfl
                  rotate_left
                  · simp only [Act.put, List.setIfInBounds_toArray, List.set_cons_zero, List.set_cons_succ, i64_w, i32_w]
                    rfl
                  refine pure_ (i := 6) (N := some 18) (v := ?_) (a' := ?_) #[true, true, false, false, false, false, true, false, false, false, false, false, false, false] rfl rfl (by kernel_rfl) (fun _ _ _ h => h) (Or.inl ⟨by rfl, ?_⟩) ?_ ?_
                  rotate_left
                  · intro w'
                    go_simp
                    with_reducible rfl
                  rotate_left
                  · simp only [Act.put, List.setIfInBounds_toArray, List.set_cons_zero, List.set_cons_succ, i64_w, i32_w]
                    rfl
                  refine take_ (i := 2) (N := some 14) (v := ?_) (a' := ?_) #[true, true, true, false, false, false, true, false, false, false, false, false, false, false] rfl rfl (by kernel_rfl) (fun _ _ _ h => h) (Or.inl ⟨by rfl, ?_⟩) hHeld ?_ ?_
                  rotate_left
                  · rintro w' ⟨s0, s1⟩
                    go_simp
                    with_reducible rfl
                  rotate_left
                  · simp only [Act.put, List.setIfInBounds_toArray, List.set_cons_zero, List.set_cons_succ, i64_w, i32_w]
                    rfl
                  refine take_ (i := 7) (N := some 19) (v := ?_) (a' := ?_) #[true, true, true, false, false, false, true, true, false, false, false, false, false, false] rfl rfl (by kernel_rfl) (fun _ _ _ h => h) (Or.inl ⟨by rfl, ?_⟩) hHeld ?_ ?_
                  rotate_left
                  · rintro w' ⟨s0, s1⟩
                    go_simp
                    with_reducible rfl
                  rotate_left
                  · simp only [Act.put, List.setIfInBounds_toArray, List.set_cons_zero, List.set_cons_succ, i64_w, i32_w]
                    rfl
                  refine two_ (i := 3) (j := 8) (Ni := some 15) (Nj := some 20) #[true, true, true, true, false, false, true, true, false, false, false, false, false, false] #[true, true, true, false, false, false, true, true, true, false, false, false, false, false] rfl rfl rfl rfl (by kernel_rfl) (by decide) (by decide) (fun K hK => ?_) (fun K hK => ?_)
                  · refine value_ (by rfl) rfl (cp_bytes wd nm rfl rfl) ?_
                    obtain ⟨wc1, hwc1⟩ : ∃ w_, w_ = Lib.bytesWorld wd 5 nm := ⟨_, rfl⟩
                    rw [← hwc1]
                    have HC1 := Aside0.mk (show Kd.C (Kd.int .u8) wc1 (some ⟨wd.heap.size, 0, none⟩) (bytesOf nm).length (bytesOf nm) by rw [hwc1]; exact cp_reads wd nm C4.out.1)
                    have hcb : Below wd.heap.size wd wc1 := by rw [hwc1]; exact Own.below_bytesWorld _ _ _
                    have n0_ := Aside0.mk (below_step HB.out hcb); have n1_ := Aside0.mk ((hcb.cell (World.block_lt_of_cell? wd _ HX0.out)).trans HX0.out); have n2_ := Aside0.mk ((hcb.cell (World.block_lt_of_cell? wd _ HX1.out)).trans HX1.out); have n3_ := Aside0.mk (Kd.R_below HO.out hcb); clear HB HX0 HX1 HO ; have HB := n0_; have HX0 := n1_; have HX1 := n2_; have HO := n3_; clear n0_ n1_ n2_ n3_  hHeld
                    clear hcb
                    refine hK.out _ _ ⟨HX0.out, HX1.out⟩ (fun hHeld => ?_)
                    clear hK K
                    simp only [Act.put, List.setIfInBounds_toArray, List.set_cons_zero, List.set_cons_succ]
                    refine two_ (i := 4) (j := 8) (Ni := some 16) (Nj := some 20) #[true, true, true, true, true, false, true, true, false, false, false, false, false, false] #[true, true, true, true, false, false, true, true, true, false, false, false, false, false] rfl rfl rfl rfl (by kernel_rfl) (by decide) (by decide) (fun K hK => ?_) (fun K hK => ?_)
                    · refine goes_ Tryd.func21 (by kernel_rfl) rfl #[.int .i64 8, .slice (some ⟨wd.heap.size, 0, none⟩) (bytesOf nm).length (grownCap wd nm.size 0 5)] (by rfl) rfl rfl (by first | rfl | (simp only [List.map_toArray, List.map_cons, List.map_nil]; rfl)) ?_
                      with_reducible refine (pct_Encode.calls k1 8 (some ⟨wd.heap.size, 0, none⟩) (grownCap wd nm.size 0 5) (bytesOf nm) a _ HC1.out (by rw [bytesOf_length]; exact grownCap_ge _ _ _ _) A1.out).mono ?_
                      rintro e wf2 ⟨rfl, hb⟩
                      refine ⟨_, rfl, ?_⟩
                      have n0_ := Aside0.mk (below_step HB.out hb); have n1_ := Aside0.mk ((hb.cell (World.block_lt_of_cell? wc1 _ HX0.out)).trans HX0.out); have n2_ := Aside0.mk ((hb.cell (World.block_lt_of_cell? wc1 _ HX1.out)).trans HX1.out); have n3_ := Aside0.mk (Kd.R_below HO.out hb); have m0_ := Aside0.mk (Kd.C_below HC1.out hb); clear HB HX0 HX1 HO HC1; have HB := n0_; have HX0 := n1_; have HX1 := n2_; have HO := n3_; have HC1 := m0_; clear n0_ n1_ n2_ n3_ m0_ hHeld
                      clear hb
                      refine hK.out _ _ ⟨HX0.out, HX1.out⟩ (fun hHeld => ?_)
                      clear hK K
                      simp only [Act.put, List.setIfInBounds_toArray, List.set_cons_zero, List.set_cons_succ]
                      clear HC1
                      refine pure_ (i := 5) (N := some 17) (v := ?_) (a' := ?_) #[true, true, true, true, true, true, true, true, false, false, false, false, false, false] rfl rfl (by kernel_rfl) (fun _ _ _ h => h) (Or.inl ⟨by rfl, ?_⟩) ?_ ?_
                      rotate_left
                      · intro w'
                        go_simp
                        with_reducible rfl
                      rotate_left
                      · simp only [Act.put, List.setIfInBounds_toArray, List.set_cons_zero, List.set_cons_succ, i64_w, i32_w]
                        rfl
                      refine one_ (i := 8) (N := some 20) #[true, true, true, true, true, true, true, true, true, false, false, false, false, false] rfl rfl (by kernel_rfl) (by decide) (fun K hK => ?_)
                      refine value_ (by rfl) rfl (cp_bytes wf2 vl rfl rfl) ?_
                      obtain ⟨wc3, hwc3⟩ : ∃ w_, w_ = Lib.bytesWorld wf2 5 vl := ⟨_, rfl⟩
                      rw [← hwc3]
                      have HC2 := Aside0.mk (show Kd.C (Kd.int .u8) wc3 (some ⟨wf2.heap.size, 0, none⟩) (bytesOf vl).length (bytesOf vl) by rw [hwc3]; exact cp_reads wf2 vl C4.out.2)
                      have hcb : Below wf2.heap.size wf2 wc3 := by rw [hwc3]; exact Own.below_bytesWorld _ _ _
                      have n0_ := Aside0.mk (below_step HB.out hcb); have n1_ := Aside0.mk ((hcb.cell (World.block_lt_of_cell? wf2 _ HX0.out)).trans HX0.out); have n2_ := Aside0.mk ((hcb.cell (World.block_lt_of_cell? wf2 _ HX1.out)).trans HX1.out); have n3_ := Aside0.mk (Kd.R_below HO.out hcb); clear HB HX0 HX1 HO ; have HB := n0_; have HX0 := n1_; have HX1 := n2_; have HO := n3_; clear n0_ n1_ n2_ n3_  hHeld
                      clear hcb
                      refine hK.out _ _ ⟨HX0.out, HX1.out⟩ (fun hHeld => ?_)
                      clear hK K
                      simp only [Act.put, List.setIfInBounds_toArray, List.set_cons_zero, List.set_cons_succ]
                      refine one_ (i := 9) (N := some 21) #[true, true, true, true, true, true, true, true, true, true, false, false, false, false] rfl rfl (by kernel_rfl) (by decide) (fun K hK => ?_)
                      refine goes_ Tryd.func21 (by kernel_rfl) rfl #[.int .i64 8, .slice (some ⟨wf2.heap.size, 0, none⟩) (bytesOf vl).length (grownCap wf2 vl.size 0 5)] (by rfl) rfl rfl (by first | rfl | (simp only [List.map_toArray, List.map_cons, List.map_nil]; rfl)) ?_
                      with_reducible refine (pct_Encode.calls k1 8 (some ⟨wf2.heap.size, 0, none⟩) (grownCap wf2 vl.size 0 5) (bytesOf vl) b _ HC2.out (by rw [bytesOf_length]; exact grownCap_ge _ _ _ _) A2.out).mono ?_
                      rintro e wf4 ⟨rfl, hb⟩
                      refine ⟨_, rfl, ?_⟩
                      have n0_ := Aside0.mk (below_step HB.out hb); have n1_ := Aside0.mk ((hb.cell (World.block_lt_of_cell? wc3 _ HX0.out)).trans HX0.out); have n2_ := Aside0.mk ((hb.cell (World.block_lt_of_cell? wc3 _ HX1.out)).trans HX1.out); have n3_ := Aside0.mk (Kd.R_below HO.out hb); clear HB HX0 HX1 HO ; have HB := n0_; have HX0 := n1_; have HX1 := n2_; have HO := n3_; clear n0_ n1_ n2_ n3_  hHeld
                      clear hb
                      refine hK.out _ _ ⟨HX0.out, HX1.out⟩ (fun hHeld => ?_)
                      clear hK K
                      simp only [Act.put, List.setIfInBounds_toArray, List.set_cons_zero, List.set_cons_succ]
                      refine pure_ (i := 10) (N := some 22) (v := ?_) (a' := ?_) #[true, true, true, true, true, true, true, true, true, true, true, false, false, false] rfl rfl (by kernel_rfl) (fun _ _ _ h => h) (Or.inl ⟨by rfl, ?_⟩) ?_ ?_
                      rotate_left
                      · intro w'
                        go_simp
                        with_reducible rfl
                      rotate_left
                      · simp only [Act.put, List.setIfInBounds_toArray, List.set_cons_zero, List.set_cons_succ, i64_w, i32_w]
                        rfl
                      clear hHeld HX0 HX1
                      refine last_ (i := 11) (N := some 23) #[true, true, true, true, true, true, true, true, true, true, true, true, false, false] rfl rfl (by kernel_rfl) (by decide) (fun K hK => ?_)
                      refine Kd.R_lit_step Kd.string _ 9 ?hg (N := 23) ?hd (xs := ([((a ++ (⟨#[61]⟩ : ByteArray)) ++ b)] : List ByteArray)) (inner := [.string ((a ++ (⟨#[61]⟩ : ByteArray)) ++ b)]) (ok := fun _ => True) (okp := fun _ => True) ?hr ?hp (fun _ hk => hk) trivial (Below.refl _ _) (Nat.le_refl _) (by simp) ?_; (case hd => rfl); (case hg => rfl); (case hr => first | (go_simp; done) | (go_simp; rfl)); (case hp => exact (Reps.one (show Kd.M Kd.string _ _ _ ((a ++ (⟨#[61]⟩ : ByteArray)) ++ b) [.string ((a ++ (⟨#[61]⟩ : ByteArray)) ++ b)] from rfl) (Reps.none _ _)))
                      intro v22 w22 ho23 hb hg_ hnew_
                      clear hg_ hnew_
                      have n0_ := Aside0.mk (Kd.R_elder' HO.out (Kd.R_base ho23) hb); have n1_ := Aside0.mk (Kd.R_lower (Kd.R_new' ho23 (Kd.R_lt HO.out)) (below_size HB.out)); have n2_ := Aside0.mk (below_step HB.out hb); clear HO HB; have HO := n0_; have HY := n1_; have HB := n2_; clear n0_ n1_ n2_ hb ho23
                      obtain ⟨Ay, cy, ey⟩ := Kd.R_slice HY.out
                      subst ey
                      refine hK.out _ _ ?_
                      clear hK K
                      refine norm_ (a' := ?_) ?_ ?_
                      rotate_left
                      · show Act.put _ (some 23) _ = _
                        simp only [Act.put, List.setIfInBounds_toArray, List.set_cons_zero, List.set_cons_succ, i64_w, i32_w]
                        rfl
                      refine last_ (i := 12) (N := some 24) #[true, true, true, true, true, true, true, true, true, true, true, true, true, false] rfl rfl (by kernel_rfl) (by decide) (fun K hK => ?_)
                      refine Kd.R_append_rows_step Kd.string (w0 := w) w.heap.size (by rfl) (.tmp 12) (.tmp 23) 36 9 (.string ⟨#[]⟩) 16 rfl Tryd.underlying36 info9 rfl (by decide) (by omega) (.slice Ao out.length co) out ([((a ++ (⟨#[61]⟩ : ByteArray)) ++ b)] : List ByteArray) _ _ _ (fun k_ => some k_ ≠ (.slice Ay ([((a ++ (⟨#[61]⟩ : ByteArray)) ++ b)] : List ByteArray).length cy : Value).ownBlock) (fun _ => False) rfl rfl ?aO ?aR (fun _ _ h => h) (fun _ h => h.elim) ?aF ?aB ?aS ?aL ?_
                      (case aR => exact (Kd.R_reads' HY.out).2.2)
                      (case aB => exact HB.out)
                      (case aF => exact (fun k_ hk => Kd.fresh' (Kd.R_lt HY.out) k_ hk))
                      (case aO => exact Kd.R_mono HO.out (fun _ hk => hk.2))
                      (case aS => exact (below_size HB.out))
                      (case aL => have := C7.out; simp only [List.length_cons, List.length_nil]; omega)
                      intro v24 w24 ho hb hg hat
                      have n0_ := Aside0.mk (Kd.R_mono ho (fun _ _ => trivial)); have n1_ := Aside0.mk hb; clear HO HB HY ho hb hg hat; have HO := n0_; have HB := n1_; clear n0_ n1_
                      refine hK.out _ _ ?_
                      clear hK K
                      refine norm_ (a' := ?_) ?_ ?_
                      rotate_left
                      · show Act.put _ (some 24) _ = _
                        simp only [Act.put, List.setIfInBounds_toArray, List.set_cons_zero, List.set_cons_succ, i64_w, i32_w]
                        rfl
                      refine pure_ (i := 13) (N := some 3) (v := ?_) (a' := ?_) #[true, true, true, true, true, true, true, true, true, true, true, true, true, true] rfl rfl (by kernel_rfl) (fun _ _ _ h => h) (Or.inl ⟨by rfl, ?_⟩) ?_ ?_
                      rotate_left
                      · intro w'
                        go_simp
                        with_reducible rfl
                      rotate_left
                      · simp only [Act.put, List.setIfInBounds_toArray, List.set_cons_zero, List.set_cons_succ, i64_w, i32_w]
                        rfl
                      refine done_ (by kernel_rfl) ?_
                      go_wp2
                      go_roundg k1
                      case measure => have := HK1.out; omega
                      case rel => exact ⟨out ++ [((a ++ (⟨#[61]⟩ : ByteArray)) ++ b)], wrap64 (i + 1), (by first | rfl | (simp; done) | (simp [*]; done)), H', ⟨by have := HK1.out; omega⟩, ⟨by (with_reducible repeat (first | apply Kd.R_alloc | apply Kd.R_drewN | apply Kd.R_drew)); exact HO.out⟩, ⟨by repeat (first | (with_reducible first | exact HB.out | apply below_alloc | apply pw_below_drewN | apply below_drew1) | exact HB.out)⟩⟩
                    · refine value_ (by rfl) rfl (cp_bytes wc1 vl rfl rfl) ?_
                      obtain ⟨wc5, hwc5⟩ : ∃ w_, w_ = Lib.bytesWorld wc1 5 vl := ⟨_, rfl⟩
                      rw [← hwc5]
                      have HC2 := Aside0.mk (show Kd.C (Kd.int .u8) wc5 (some ⟨wc1.heap.size, 0, none⟩) (bytesOf vl).length (bytesOf vl) by rw [hwc5]; exact cp_reads wc1 vl C4.out.2)
                      have hcb : Below wc1.heap.size wc1 wc5 := by rw [hwc5]; exact Own.below_bytesWorld _ _ _
                      have n0_ := Aside0.mk (below_step HB.out hcb); have n1_ := Aside0.mk ((hcb.cell (World.block_lt_of_cell? wc1 _ HX0.out)).trans HX0.out); have n2_ := Aside0.mk ((hcb.cell (World.block_lt_of_cell? wc1 _ HX1.out)).trans HX1.out); have n3_ := Aside0.mk (Kd.R_below HO.out hcb); have m0_ := Aside0.mk (Kd.C_below HC1.out hcb); clear HB HX0 HX1 HO HC1; have HB := n0_; have HX0 := n1_; have HX1 := n2_; have HO := n3_; have HC1 := m0_; clear n0_ n1_ n2_ n3_ m0_ hHeld
                      clear hcb
                      refine hK.out _ _ ⟨HX0.out, HX1.out⟩ (fun hHeld => ?_)
                      clear hK K
                      simp only [Act.put, List.setIfInBounds_toArray, List.set_cons_zero, List.set_cons_succ]
                      refine one_ (i := 4) (N := some 16) #[true, true, true, true, true, false, true, true, true, false, false, false, false, false] rfl rfl (by kernel_rfl) (by decide) (fun K hK => ?_)
                      refine goes_ Tryd.func21 (by kernel_rfl) rfl #[.int .i64 8, .slice (some ⟨wd.heap.size, 0, none⟩) (bytesOf nm).length (grownCap wd nm.size 0 5)] (by rfl) rfl rfl (by first | rfl | (simp only [List.map_toArray, List.map_cons, List.map_nil]; rfl)) ?_
                      with_reducible refine (pct_Encode.calls k1 8 (some ⟨wd.heap.size, 0, none⟩) (grownCap wd nm.size 0 5) (bytesOf nm) a _ HC1.out (by rw [bytesOf_length]; exact grownCap_ge _ _ _ _) A1.out).mono ?_
                      rintro e wf6 ⟨rfl, hb⟩
                      refine ⟨_, rfl, ?_⟩
                      have n0_ := Aside0.mk (below_step HB.out hb); have n1_ := Aside0.mk ((hb.cell (World.block_lt_of_cell? wc5 _ HX0.out)).trans HX0.out); have n2_ := Aside0.mk ((hb.cell (World.block_lt_of_cell? wc5 _ HX1.out)).trans HX1.out); have n3_ := Aside0.mk (Kd.R_below HO.out hb); have m0_ := Aside0.mk (Kd.C_below HC1.out hb); have m1_ := Aside0.mk (Kd.C_below HC2.out hb); clear HB HX0 HX1 HO HC1 HC2; have HB := n0_; have HX0 := n1_; have HX1 := n2_; have HO := n3_; have HC1 := m0_; have HC2 := m1_; clear n0_ n1_ n2_ n3_ m0_ m1_ hHeld
                      clear hb
                      refine hK.out _ _ ⟨HX0.out, HX1.out⟩ (fun hHeld => ?_)
                      clear hK K
                      simp only [Act.put, List.setIfInBounds_toArray, List.set_cons_zero, List.set_cons_succ]
                      clear HC1
                      refine pure_ (i := 5) (N := some 17) (v := ?_) (a' := ?_) #[true, true, true, true, true, true, true, true, true, false, false, false, false, false] rfl rfl (by kernel_rfl) (fun _ _ _ h => h) (Or.inl ⟨by rfl, ?_⟩) ?_ ?_
                      rotate_left
                      · intro w'
                        go_simp
                        with_reducible rfl
                      rotate_left
                      · simp only [Act.put, List.setIfInBounds_toArray, List.set_cons_zero, List.set_cons_succ, i64_w, i32_w]
                        rfl
                      refine one_ (i := 9) (N := some 21) #[true, true, true, true, true, true, true, true, true, true, false, false, false, false] rfl rfl (by kernel_rfl) (by decide) (fun K hK => ?_)
                      refine goes_ Tryd.func21 (by kernel_rfl) rfl #[.int .i64 8, .slice (some ⟨wc1.heap.size, 0, none⟩) (bytesOf vl).length (grownCap wc1 vl.size 0 5)] (by rfl) rfl rfl (by first | rfl | (simp only [List.map_toArray, List.map_cons, List.map_nil]; rfl)) ?_
                      with_reducible refine (pct_Encode.calls k1 8 (some ⟨wc1.heap.size, 0, none⟩) (grownCap wc1 vl.size 0 5) (bytesOf vl) b _ HC2.out (by rw [bytesOf_length]; exact grownCap_ge _ _ _ _) A2.out).mono ?_
                      rintro e wf7 ⟨rfl, hb⟩
                      refine ⟨_, rfl, ?_⟩
                      have n0_ := Aside0.mk (below_step HB.out hb); have n1_ := Aside0.mk ((hb.cell (World.block_lt_of_cell? wf6 _ HX0.out)).trans HX0.out); have n2_ := Aside0.mk ((hb.cell (World.block_lt_of_cell? wf6 _ HX1.out)).trans HX1.out); have n3_ := Aside0.mk (Kd.R_below HO.out hb); clear HB HX0 HX1 HO ; have HB := n0_; have HX0 := n1_; have HX1 := n2_; have HO := n3_; clear n0_ n1_ n2_ n3_  hHeld
                      clear hb
                      refine hK.out _ _ ⟨HX0.out, HX1.out⟩ (fun hHeld => ?_)
                      clear hK K
                      simp only [Act.put, List.setIfInBounds_toArray, List.set_cons_zero, List.set_cons_succ]
                      refine pure_ (i := 10) (N := some 22) (v := ?_) (a' := ?_) #[true, true, true, true, true, true, true, true, true, true, true, false, false, false] rfl rfl (by kernel_rfl) (fun _ _ _ h => h) (Or.inl ⟨by rfl, ?_⟩) ?_ ?_
                      rotate_left
                      · intro w'
                        go_simp
                        with_reducible rfl
                      rotate_left
                      · simp only [Act.put, List.setIfInBounds_toArray, List.set_cons_zero, List.set_cons_succ, i64_w, i32_w]
                        rfl
                      clear hHeld HX0 HX1
                      refine last_ (i := 11) (N := some 23) #[true, true, true, true, true, true, true, true, true, true, true, true, false, false] rfl rfl (by kernel_rfl) (by decide) (fun K hK => ?_)
                      refine Kd.R_lit_step Kd.string _ 9 ?hg (N := 23) ?hd (xs := ([((a ++ (⟨#[61]⟩ : ByteArray)) ++ b)] : List ByteArray)) (inner := [.string ((a ++ (⟨#[61]⟩ : ByteArray)) ++ b)]) (ok := fun _ => True) (okp := fun _ => True) ?hr ?hp (fun _ hk => hk) trivial (Below.refl _ _) (Nat.le_refl _) (by simp) ?_; (case hd => rfl); (case hg => rfl); (case hr => first | (go_simp; done) | (go_simp; rfl)); (case hp => exact (Reps.one (show Kd.M Kd.string _ _ _ ((a ++ (⟨#[61]⟩ : ByteArray)) ++ b) [.string ((a ++ (⟨#[61]⟩ : ByteArray)) ++ b)] from rfl) (Reps.none _ _)))
                      intro v22 w22 ho23 hb hg_ hnew_
                      clear hg_ hnew_
                      have n0_ := Aside0.mk (Kd.R_elder' HO.out (Kd.R_base ho23) hb); have n1_ := Aside0.mk (Kd.R_lower (Kd.R_new' ho23 (Kd.R_lt HO.out)) (below_size HB.out)); have n2_ := Aside0.mk (below_step HB.out hb); clear HO HB; have HO := n0_; have HY := n1_; have HB := n2_; clear n0_ n1_ n2_ hb ho23
                      obtain ⟨Ay, cy, ey⟩ := Kd.R_slice HY.out
                      subst ey
                      refine hK.out _ _ ?_
                      clear hK K
                      refine norm_ (a' := ?_) ?_ ?_
                      rotate_left
                      · show Act.put _ (some 23) _ = _
                        simp only [Act.put, List.setIfInBounds_toArray, List.set_cons_zero, List.set_cons_succ, i64_w, i32_w]
                        rfl
                      refine last_ (i := 12) (N := some 24) #[true, true, true, true, true, true, true, true, true, true, true, true, true, false] rfl rfl (by kernel_rfl) (by decide) (fun K hK => ?_)
                      refine Kd.R_append_rows_step Kd.string (w0 := w) w.heap.size (by rfl) (.tmp 12) (.tmp 23) 36 9 (.string ⟨#[]⟩) 16 rfl Tryd.underlying36 info9 rfl (by decide) (by omega) (.slice Ao out.length co) out ([((a ++ (⟨#[61]⟩ : ByteArray)) ++ b)] : List ByteArray) _ _ _ (fun k_ => some k_ ≠ (.slice Ay ([((a ++ (⟨#[61]⟩ : ByteArray)) ++ b)] : List ByteArray).length cy : Value).ownBlock) (fun _ => False) rfl rfl ?aO ?aR (fun _ _ h => h) (fun _ h => h.elim) ?aF ?aB ?aS ?aL ?_
                      (case aR => exact (Kd.R_reads' HY.out).2.2)
                      (case aB => exact HB.out)
                      (case aF => exact (fun k_ hk => Kd.fresh' (Kd.R_lt HY.out) k_ hk))
                      (case aO => exact Kd.R_mono HO.out (fun _ hk => hk.2))
                      (case aS => exact (below_size HB.out))
                      (case aL => have := C7.out; simp only [List.length_cons, List.length_nil]; omega)
                      intro v24 w24 ho hb hg hat
                      have n0_ := Aside0.mk (Kd.R_mono ho (fun _ _ => trivial)); have n1_ := Aside0.mk hb; clear HO HB HY ho hb hg hat; have HO := n0_; have HB := n1_; clear n0_ n1_
                      refine hK.out _ _ ?_
                      clear hK K
                      refine norm_ (a' := ?_) ?_ ?_
                      rotate_left
                      · show Act.put _ (some 24) _ = _
                        simp only [Act.put, List.setIfInBounds_toArray, List.set_cons_zero, List.set_cons_succ, i64_w, i32_w]
                        rfl
                      refine pure_ (i := 13) (N := some 3) (v := ?_) (a' := ?_) #[true, true, true, true, true, true, true, true, true, true, true, true, true, true] rfl rfl (by kernel_rfl) (fun _ _ _ h => h) (Or.inl ⟨by rfl, ?_⟩) ?_ ?_
                      rotate_left
                      · intro w'
                        go_simp
                        with_reducible rfl
                      rotate_left
                      · simp only [Act.put, List.setIfInBounds_toArray, List.set_cons_zero, List.set_cons_succ, i64_w, i32_w]
                        rfl
                      refine done_ (by kernel_rfl) ?_
                      go_wp2
                      go_roundg k1
                      case measure => have := HK1.out; omega
                      case rel => exact ⟨out ++ [((a ++ (⟨#[61]⟩ : ByteArray)) ++ b)], wrap64 (i + 1), (by first | rfl | (simp; done) | (simp [*]; done)), H', ⟨by have := HK1.out; omega⟩, ⟨by (with_reducible repeat (first | apply Kd.R_alloc | apply Kd.R_drewN | apply Kd.R_drew)); exact HO.out⟩, ⟨by repeat (first | (with_reducible first | exact HB.out | apply below_alloc | apply pw_below_drewN | apply below_drew1) | exact HB.out)⟩⟩
                  · refine value_ (by rfl) rfl (cp_bytes wd vl rfl rfl) ?_
                    obtain ⟨wc8, hwc8⟩ : ∃ w_, w_ = Lib.bytesWorld wd 5 vl := ⟨_, rfl⟩
                    rw [← hwc8]
                    have HC2 := Aside0.mk (show Kd.C (Kd.int .u8) wc8 (some ⟨wd.heap.size, 0, none⟩) (bytesOf vl).length (bytesOf vl) by rw [hwc8]; exact cp_reads wd vl C4.out.2)
                    have hcb : Below wd.heap.size wd wc8 := by rw [hwc8]; exact Own.below_bytesWorld _ _ _
                    have n0_ := Aside0.mk (below_step HB.out hcb); have n1_ := Aside0.mk ((hcb.cell (World.block_lt_of_cell? wd _ HX0.out)).trans HX0.out); have n2_ := Aside0.mk ((hcb.cell (World.block_lt_of_cell? wd _ HX1.out)).trans HX1.out); have n3_ := Aside0.mk (Kd.R_below HO.out hcb); clear HB HX0 HX1 HO ; have HB := n0_; have HX0 := n1_; have HX1 := n2_; have HO := n3_; clear n0_ n1_ n2_ n3_  hHeld
                    clear hcb
                    refine hK.out _ _ ⟨HX0.out, HX1.out⟩ (fun hHeld => ?_)
                    clear hK K
                    simp only [Act.put, List.setIfInBounds_toArray, List.set_cons_zero, List.set_cons_succ]
                    refine one_ (i := 3) (N := some 15) #[true, true, true, true, false, false, true, true, true, false, false, false, false, false] rfl rfl (by kernel_rfl) (by decide) (fun K hK => ?_)
                    refine value_ (by rfl) rfl (cp_bytes wc8 nm rfl rfl) ?_
                    obtain ⟨wc9, hwc9⟩ : ∃ w_, w_ = Lib.bytesWorld wc8 5 nm := ⟨_, rfl⟩
                    rw [← hwc9]
                    have HC1 := Aside0.mk (show Kd.C (Kd.int .u8) wc9 (some ⟨wc8.heap.size, 0, none⟩) (bytesOf nm).length (bytesOf nm) by rw [hwc9]; exact cp_reads wc8 nm C4.out.1)
                    have hcb : Below wc8.heap.size wc8 wc9 := by rw [hwc9]; exact Own.below_bytesWorld _ _ _
                    have n0_ := Aside0.mk (below_step HB.out hcb); have n1_ := Aside0.mk ((hcb.cell (World.block_lt_of_cell? wc8 _ HX0.out)).trans HX0.out); have n2_ := Aside0.mk ((hcb.cell (World.block_lt_of_cell? wc8 _ HX1.out)).trans HX1.out); have n3_ := Aside0.mk (Kd.R_below HO.out hcb); have m0_ := Aside0.mk (Kd.C_below HC2.out hcb); clear HB HX0 HX1 HO HC2; have HB := n0_; have HX0 := n1_; have HX1 := n2_; have HO := n3_; have HC2 := m0_; clear n0_ n1_ n2_ n3_ m0_ hHeld
                    clear hcb
                    refine hK.out _ _ ⟨HX0.out, HX1.out⟩ (fun hHeld => ?_)
                    clear hK K
                    simp only [Act.put, List.setIfInBounds_toArray, List.set_cons_zero, List.set_cons_succ]
                    refine one_ (i := 4) (N := some 16) #[true, true, true, true, true, false, true, true, true, false, false, false, false, false] rfl rfl (by kernel_rfl) (by decide) (fun K hK => ?_)
                    refine goes_ Tryd.func21 (by kernel_rfl) rfl #[.int .i64 8, .slice (some ⟨wc8.heap.size, 0, none⟩) (bytesOf nm).length (grownCap wc8 nm.size 0 5)] (by rfl) rfl rfl (by first | rfl | (simp only [List.map_toArray, List.map_cons, List.map_nil]; rfl)) ?_
                    with_reducible refine (pct_Encode.calls k1 8 (some ⟨wc8.heap.size, 0, none⟩) (grownCap wc8 nm.size 0 5) (bytesOf nm) a _ HC1.out (by rw [bytesOf_length]; exact grownCap_ge _ _ _ _) A1.out).mono ?_
                    rintro e wf10 ⟨rfl, hb⟩
                    refine ⟨_, rfl, ?_⟩
                    have n0_ := Aside0.mk (below_step HB.out hb); have n1_ := Aside0.mk ((hb.cell (World.block_lt_of_cell? wc9 _ HX0.out)).trans HX0.out); have n2_ := Aside0.mk ((hb.cell (World.block_lt_of_cell? wc9 _ HX1.out)).trans HX1.out); have n3_ := Aside0.mk (Kd.R_below HO.out hb); have m0_ := Aside0.mk (Kd.C_below HC1.out hb); have m1_ := Aside0.mk (Kd.C_below HC2.out hb); clear HB HX0 HX1 HO HC1 HC2; have HB := n0_; have HX0 := n1_; have HX1 := n2_; have HO := n3_; have HC1 := m0_; have HC2 := m1_; clear n0_ n1_ n2_ n3_ m0_ m1_ hHeld
                    clear hb
                    refine hK.out _ _ ⟨HX0.out, HX1.out⟩ (fun hHeld => ?_)
                    clear hK K
                    simp only [Act.put, List.setIfInBounds_toArray, List.set_cons_zero, List.set_cons_succ]
                    clear HC1
                    refine pure_ (i := 5) (N := some 17) (v := ?_) (a' := ?_) #[true, true, true, true, true, true, true, true, true, false, false, false, false, false] rfl rfl (by kernel_rfl) (fun _ _ _ h => h) (Or.inl ⟨by rfl, ?_⟩) ?_ ?_
                    rotate_left
                    · intro w'
                      go_simp
                      with_reducible rfl
                    rotate_left
                    · simp only [Act.put, List.setIfInBounds_toArray, List.set_cons_zero, List.set_cons_succ, i64_w, i32_w]
                      rfl
                    refine one_ (i := 9) (N := some 21) #[true, true, true, true, true, true, true, true, true, true, false, false, false, false] rfl rfl (by kernel_rfl) (by decide) (fun K hK => ?_)
                    refine goes_ Tryd.func21 (by kernel_rfl) rfl #[.int .i64 8, .slice (some ⟨wd.heap.size, 0, none⟩) (bytesOf vl).length (grownCap wd vl.size 0 5)] (by rfl) rfl rfl (by first | rfl | (simp only [List.map_toArray, List.map_cons, List.map_nil]; rfl)) ?_
                    with_reducible refine (pct_Encode.calls k1 8 (some ⟨wd.heap.size, 0, none⟩) (grownCap wd vl.size 0 5) (bytesOf vl) b _ HC2.out (by rw [bytesOf_length]; exact grownCap_ge _ _ _ _) A2.out).mono ?_
                    rintro e wf11 ⟨rfl, hb⟩
                    refine ⟨_, rfl, ?_⟩
                    have n0_ := Aside0.mk (below_step HB.out hb); have n1_ := Aside0.mk ((hb.cell (World.block_lt_of_cell? wf10 _ HX0.out)).trans HX0.out); have n2_ := Aside0.mk ((hb.cell (World.block_lt_of_cell? wf10 _ HX1.out)).trans HX1.out); have n3_ := Aside0.mk (Kd.R_below HO.out hb); clear HB HX0 HX1 HO ; have HB := n0_; have HX0 := n1_; have HX1 := n2_; have HO := n3_; clear n0_ n1_ n2_ n3_  hHeld
                    clear hb
                    refine hK.out _ _ ⟨HX0.out, HX1.out⟩ (fun hHeld => ?_)
                    clear hK K
                    simp only [Act.put, List.setIfInBounds_toArray, List.set_cons_zero, List.set_cons_succ]
                    refine pure_ (i := 10) (N := some 22) (v := ?_) (a' := ?_) #[true, true, true, true, true, true, true, true, true, true, true, false, false, false] rfl rfl (by kernel_rfl) (fun _ _ _ h => h) (Or.inl ⟨by rfl, ?_⟩) ?_ ?_
                    rotate_left
                    · intro w'
                      go_simp
                      with_reducible rfl
                    rotate_left
                    · simp only [Act.put, List.setIfInBounds_toArray, List.set_cons_zero, List.set_cons_succ, i64_w, i32_w]
                      rfl
                    clear hHeld HX0 HX1
                    refine last_ (i := 11) (N := some 23) #[true, true, true, true, true, true, true, true, true, true, true, true, false, false] rfl rfl (by kernel_rfl) (by decide) (fun K hK => ?_)
                    refine Kd.R_lit_step Kd.string _ 9 ?hg (N := 23) ?hd (xs := ([((a ++ (⟨#[61]⟩ : ByteArray)) ++ b)] : List ByteArray)) (inner := [.string ((a ++ (⟨#[61]⟩ : ByteArray)) ++ b)]) (ok := fun _ => True) (okp := fun _ => True) ?hr ?hp (fun _ hk => hk) trivial (Below.refl _ _) (Nat.le_refl _) (by simp) ?_; (case hd => rfl); (case hg => rfl); (case hr => first | (go_simp; done) | (go_simp; rfl)); (case hp => exact (Reps.one (show Kd.M Kd.string _ _ _ ((a ++ (⟨#[61]⟩ : ByteArray)) ++ b) [.string ((a ++ (⟨#[61]⟩ : ByteArray)) ++ b)] from rfl) (Reps.none _ _)))
                    intro v22 w22 ho23 hb hg_ hnew_
                    clear hg_ hnew_
                    have n0_ := Aside0.mk (Kd.R_elder' HO.out (Kd.R_base ho23) hb); have n1_ := Aside0.mk (Kd.R_lower (Kd.R_new' ho23 (Kd.R_lt HO.out)) (below_size HB.out)); have n2_ := Aside0.mk (below_step HB.out hb); clear HO HB; have HO := n0_; have HY := n1_; have HB := n2_; clear n0_ n1_ n2_ hb ho23
                    obtain ⟨Ay, cy, ey⟩ := Kd.R_slice HY.out
                    subst ey
                    refine hK.out _ _ ?_
                    clear hK K
                    refine norm_ (a' := ?_) ?_ ?_
                    rotate_left
                    · show Act.put _ (some 23) _ = _
                      simp only [Act.put, List.setIfInBounds_toArray, List.set_cons_zero, List.set_cons_succ, i64_w, i32_w]
                      rfl
                    refine last_ (i := 12) (N := some 24) #[true, true, true, true, true, true, true, true, true, true, true, true, true, false] rfl rfl (by kernel_rfl) (by decide) (fun K hK => ?_)
                    refine Kd.R_append_rows_step Kd.string (w0 := w) w.heap.size (by rfl) (.tmp 12) (.tmp 23) 36 9 (.string ⟨#[]⟩) 16 rfl Tryd.underlying36 info9 rfl (by decide) (by omega) (.slice Ao out.length co) out ([((a ++ (⟨#[61]⟩ : ByteArray)) ++ b)] : List ByteArray) _ _ _ (fun k_ => some k_ ≠ (.slice Ay ([((a ++ (⟨#[61]⟩ : ByteArray)) ++ b)] : List ByteArray).length cy : Value).ownBlock) (fun _ => False) rfl rfl ?aO ?aR (fun _ _ h => h) (fun _ h => h.elim) ?aF ?aB ?aS ?aL ?_
                    (case aR => exact (Kd.R_reads' HY.out).2.2)
                    (case aB => exact HB.out)
                    (case aF => exact (fun k_ hk => Kd.fresh' (Kd.R_lt HY.out) k_ hk))
                    (case aO => exact Kd.R_mono HO.out (fun _ hk => hk.2))
                    (case aS => exact (below_size HB.out))
                    (case aL => have := C7.out; simp only [List.length_cons, List.length_nil]; omega)
                    intro v24 w24 ho hb hg hat
                    have n0_ := Aside0.mk (Kd.R_mono ho (fun _ _ => trivial)); have n1_ := Aside0.mk hb; clear HO HB HY ho hb hg hat; have HO := n0_; have HB := n1_; clear n0_ n1_
                    refine hK.out _ _ ?_
                    clear hK K
                    refine norm_ (a' := ?_) ?_ ?_
                    rotate_left
                    · show Act.put _ (some 24) _ = _
                      simp only [Act.put, List.setIfInBounds_toArray, List.set_cons_zero, List.set_cons_succ, i64_w, i32_w]
                      rfl
                    refine pure_ (i := 13) (N := some 3) (v := ?_) (a' := ?_) #[true, true, true, true, true, true, true, true, true, true, true, true, true, true] rfl rfl (by kernel_rfl) (fun _ _ _ h => h) (Or.inl ⟨by rfl, ?_⟩) ?_ ?_
                    rotate_left
                    · intro w'
                      go_simp
                      with_reducible rfl
                    rotate_left
                    · simp only [Act.put, List.setIfInBounds_toArray, List.set_cons_zero, List.set_cons_succ, i64_w, i32_w]
                      rfl
                    refine done_ (by kernel_rfl) ?_
                    go_wp2
                    go_roundg k1
                    case measure => have := HK1.out; omega
                    case rel => exact ⟨out ++ [((a ++ (⟨#[61]⟩ : ByteArray)) ++ b)], wrap64 (i + 1), (by first | rfl | (simp; done) | (simp [*]; done)), H', ⟨by have := HK1.out; omega⟩, ⟨by (with_reducible repeat (first | apply Kd.R_alloc | apply Kd.R_drewN | apply Kd.R_drew)); exact HO.out⟩, ⟨by repeat (first | (with_reducible first | exact HB.out | apply below_alloc | apply pw_below_drewN | apply below_drew1) | exact HB.out)⟩⟩
                · rw [if_neg c7] at H
                  exact absurd H (by simp)
              · rw [if_neg c6] at H
                exact absurd H (by simp)
            · rw [if_neg c5] at H
              exact absurd H (by simp)
          · rw [if_neg c4] at H
            exact absurd H (by simp)
        · rw [if_neg c3] at H
          exact absurd H (by simp)
      · rw [if_neg c2] at H
        have c2b0 : decide (i < (l0.length : Int)) = false := decide_eq_false c2
        have HJ := Aside0.mk H
        clear H c2
        obtain ⟨Ao, co, eo⟩ := Kd.R_slice HO.out
        subst eo
        go_wp2_with (first | ((with_reducible refine gate_callee (f := 22) rfl ?_); refine goesL_ (some 27) rfl rfl Tryd.func22 (by kernel_rfl) rfl #[.slice Ao out.length co, .string (⟨#[38]⟩ : ByteArray)] rfl (by first | rfl | (simp only [List.map_toArray, List.map_cons, List.map_nil]; rfl)) ?_; (with_reducible refine (strings_Join.calls Ao co out (⟨#[38]⟩ : ByteArray) r _ (Kd.R_reads' HO.out).2.2 (Kd.R_reads' HO.out).2.1 HJ.out).mono ?_); rintro e wj ⟨rfl, hb⟩; refine ⟨_, rfl, ?_⟩; have n0_ := Aside0.mk (below_step HB.out hb); clear HB hb; have HB := n0_; clear n0_))
        go_ret
        exact ⟨rfl, by repeat (first | (with_reducible first | exact HB.out | apply below_alloc | apply pw_below_drewN | apply below_drew1) | exact HB.out)⟩


end Go.Proofs.YtkaegbamkdgjjaaDoor.R
