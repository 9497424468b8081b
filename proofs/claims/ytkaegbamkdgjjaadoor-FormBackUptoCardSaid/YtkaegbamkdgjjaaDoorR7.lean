-- Written by a program of this session's (wip/xprint.py), out of the seat's translation.
import Derived.Test.YtkaegbamkdgjjaaDoorR0
import Derived.Test.YtkaegbamkdgjjaaDoorR6
namespace Go.Proofs.YtkaegbamkdgjjaaDoor.R
open Go.RowKit Go.Proofs.YtkaegbamkdgjjaaDoorW.PrintWords Go.Proofs.YtkaegbamkdgjjaaDoorW.PrintLast Go.Proofs.YtkaegbamkdgjjaaDoorW.PrintMore
attribute [local go_sem] max2_int min2_int max_two min_two max_three min_three max_four min_four   -- for this text's walks alone
set_option linter.unusedVariables false
set_option linter.unusedSimpArgs false

/-! ### sprlaw10_utf: function 12 -/
def sprlaw10_utf.l0 : Nat → List S33 → Int → Option Bool
  | 0, _, _ => none
  | k + 1, l, i => if i < (l.length : Int) then (if 0 ≤ i then (if (rd_T33 l i).f0.size + (rd_T33 l i).f1.size ≤ 9223372036854775807 then ((sprref1_Decode.f k (bytesOf ((rd_T33 l i).f0 ++ (rd_T33 l i).f1))).bind fun a => ((sprref1_Decode.f k (bytesOf (rd_T33 l i).f0)).bind fun b => (if a.2.2 = 0 then (if b.2.2 = 0 then (sprlaw10_utf.l0 k l (wrap64 (i + 1))) else (some false)) else (some false)))) else (none)) else (none)) else (some true)
def sprlaw10_utf.f (k : Nat) (l : List S33) : Option Bool := sprlaw10_utf.l0 k l 0
theorem sprlaw10_utf.mono_l : ∀ k, (∀ y0 y1, LeO (sprlaw10_utf.l0 k y0 y1) (sprlaw10_utf.l0 (k + 1) y0 y1))
  | 0 => fun _ _ r h => by simp [sprlaw10_utf.l0] at h
  | k + 1 => by
    have ih0 := sprlaw10_utf.mono_l k
    intro y0 y1
    unfold sprlaw10_utf.l0
    repeat' first
      | (with_reducible exact ih0 _ _)
      | (with_reducible exact sprref1_Decode.mono _ _)
      | (with_reducible exact LeO.refl _)
      | (with_reducible exact LeO.none _)
      | (with_reducible refine LeO.ite ?_ ?_)
      | (with_reducible refine LeO.bind ?_ (fun _ => ?_))
      | exact ih0 _ _
      | exact sprref1_Decode.mono _ _
      | exact LeO.none _
      | refine LeO.ite ?_ ?_
      | refine LeO.bind ?_ (fun _ => ?_)
theorem sprlaw10_utf.mono : ∀ a0 k, LeO (sprlaw10_utf.f k a0) (sprlaw10_utf.f (k + 1) a0) := fun _ k => sprlaw10_utf.mono_l k _ _
section
variable {P : Program} {ops : Array Oper}
theorem cv_bytes {e : Operand → Value} {o : Oper} {x : Operand} (w : World) (s : ByteArray) (ho : o.op = .convert 9 43 x) (hx : e x = .string s) : (execOp e o).run Tryd.prog w = .ok (.value (.slice (some ⟨w.heap.size, 0, none⟩) (bytesOf s).length (grownCap w s.size 0 5))) (Lib.bytesWorld w 5 s) := by
  have hconv := Lib.run_convert_string_bytes (P := Tryd.prog) w 9 43 5 s Tryd.underlying9 Tryd.underlying43 Tryd.underlying5
  unfold execOp
  rw [bytesOf_length]
  simp only [ho, hx, Sem.run_bind, Sem.run_pure, Result.andThen_ok, hconv]
theorem cv_reads (w : World) (s : ByteArray) (hs : s.size ≤ 9223372036854775807) : Kd.C (Kd.int .u8) (Lib.bytesWorld w 5 s) (some ⟨w.heap.size, 0, none⟩) (bytesOf s).length (bytesOf s) := by
  rw [bytesOf_length]
  exact Kd.C_of_reads (enc := Value.int .u8) (d := (0 : Int)) (h1 := fun _ => rfl) (bytes_reads w 5 s hs)
end
set_option maxHeartbeats 4000000 in
set_option maxRecDepth 100000 in
theorem sprlaw10_utf.calls (k : Nat) (A0 : Option Addr) (c0 : Nat) (l0 : List S33) (r : Bool) (w : World) (hr0 : Kd.C k33 w A0 l0.length l0) (hc0 : l0.length ≤ c0) (h : sprlaw10_utf.f k l0 = some r) :
    Calls Tryd.prog 12 #[.slice A0 l0.length c0] w fun e w' => e = .returned (.bool r) ∧ Below w.heap.size w w' := by
  have HR0 := Aside0.mk hr0
  have HC0 := Aside0.mk hc0
  clear hr0 hc0
  have HB := Aside0.mk (Below.refl w.heap.size w)
  have H' := Aside0.mk (show sprlaw10_utf.l0 k l0 0 = some r from h)
  clear h
  go_enter Tryd.func12, Tryd.ntmps12
  go_wp2
  go_loopg [3] k (fun kq v3 w' => ∃ (x3 : Int), v3 = .int .i64 x3 ∧ Aside0 (sprlaw10_utf.l0 kq l0 x3 = some r) ∧ Aside0 (kq ≤ k) ∧ Aside0 (Below w.heap.size w w'))
  case atStart => exact ⟨0, rfl, H', ⟨Nat.le_refl _⟩, ⟨by repeat (first | (with_reducible first | exact HB.out | apply below_alloc | apply pw_below_drewN | apply below_drew1) | exact HB.out)⟩⟩
  case round =>
    clear H' HB
    obtain ⟨i, rfl, HA, HK1, HB⟩ := hrel
    cases gk with
    | zero => exact absurd HA.out (by simp [sprlaw10_utf.l0])
    | succ k1 =>
      have H := HA.out
      clear HA
      simp only [sprlaw10_utf.l0] at H
      by_cases c2 : i < (l0.length : Int)
      · rw [if_pos c2] at H
        have c2b0 : decide (i < (l0.length : Int)) = true := decide_eq_true c2
        by_cases c3 : 0 ≤ i
        · rw [if_pos c3] at H
          obtain ⟨ad, e225, hx0, hx1⟩ := at_T33 HR0.out i c3 c2
          cases e225
          replace hx0 := (HB.out.cell (World.block_lt_of_cell? w _ hx0)).trans hx0
          replace hx1 := (HB.out.cell (World.block_lt_of_cell? w _ hx1)).trans hx1
          generalize (rd_T33 l0 i).f0 = nm at H hx0
          generalize (rd_T33 l0 i).f1 = vl at H hx1
          by_cases c4 : nm.size + vl.size ≤ 9223372036854775807
          · rw [if_pos c4] at H
            obtain ⟨⟨a1, a2, a3⟩, hA0, H⟩ := Option.bind_eq_some_iff.mp H
            obtain ⟨⟨b1, b2, b3⟩, hB0, H⟩ := Option.bind_eq_some_iff.mp H
            replace H : (if a3 = 0 then (if b3 = 0 then (sprlaw10_utf.l0 k1 l0 (wrap64 (i + 1))) else (some false)) else (some false)) = some r := H
            have A1 := Aside0.mk hA0
            have A2 := Aside0.mk hB0
            have H' := Aside0.mk H
            have C4 := Aside0.mk c4
            have HX0 := Aside0.mk hx0
            have HX1 := Aside0.mk hx1
            clear hA0 hB0 H c4 hx0 hx1
            have p225 := eq_true c3
            have q225 := eq_true c2
            clear c2 c3
            by_cases d1 : a3 = 0
            · subst d1
              by_cases d2 : b3 = 0
              · subst d2
                have H := H'.out
                clear H'
                rw [if_pos rfl, if_pos rfl] at H
                have H' := Aside0.mk H
                clear H
                go_wp2_with fail
                have c4b : (9223372036854775807 < nm.size + vl.size) = False := eq_false (Nat.not_lt.2 C4.out)
                have hsz : (nm ++ vl).size ≤ 9223372036854775807 := by rw [ByteArray.size_append]; exact C4.out
                have n0_ := Aside0.mk (below_drew1 HB.out); have n1_ := Aside0.mk ((World.cell?_drew _ _).trans HX0.out); have n2_ := Aside0.mk ((World.cell?_drew _ _).trans HX1.out); clear HB HX0 HX1; have HB := n0_; have HX0 := n1_; have HX1 := n2_; clear n0_ n1_ n2_
                refine start_ (n := 20) (S := fun w' => w'.cell? (ad.add (i.toNat * 2)) = some (.string nm) ∧ w'.cell? ⟨(ad.add (i.toNat * 2)).block, (ad.add (i.toNat * 2)).off + 1, none⟩ = some (.string vl)) (ds := []) #[false, false, false, false, false, false, false, false, false, false, false, false, false, false, false, false, false, false, false, false] (by kernel_rfl) rfl rfl ⟨HX0.out, HX1.out⟩ (fun hHeld => ?_)
                generalize World.drew _ = wd4 at HB HX0 HX1 hHeld ⊢
                refine pure_ (i := 0) (N := some 17) (v := ?_) (a' := ?_) #[true, false, false, false, false, false, false, false, false, false, false, false, false, false, false, false, false, false, false, false] rfl rfl (by kernel_rfl) (fun _ _ _ h => h) (Or.inl ⟨by rfl, ?_⟩) ?_ ?_
                rotate_left
                · intro w'
                  go_simp
                  with_reducible rfl
                rotate_left
                · simp only [Act.put, List.setIfInBounds_toArray, List.set_cons_zero, List.set_cons_succ, i64_w, i32_w]
                  rfl
                refine pure_ (i := 1) (N := some 18) (v := ?_) (a' := ?_) #[true, true, false, false, false, false, false, false, false, false, false, false, false, false, false, false, false, false, false, false] rfl rfl (by kernel_rfl) (fun _ _ _ h => h) (Or.inl ⟨by rfl, ?_⟩) ?_ ?_
                rotate_left
                · intro w'
                  go_simp
                  with_reducible rfl
                rotate_left
                · simp only [Act.put, List.setIfInBounds_toArray, List.set_cons_zero, List.set_cons_succ, i64_w, i32_w]
                  rfl
                refine pure_ (i := 2) (N := some 19) (v := ?_) (a' := ?_) #[true, true, true, false, false, false, false, false, false, false, false, false, false, false, false, false, false, false, false, false] rfl rfl (by kernel_rfl) (fun _ _ _ h => h) (Or.inl ⟨by rfl, ?_⟩) ?_ ?_
                rotate_left
                · intro w'
                  go_simp
                  with_reducible rfl
                rotate_left
                · simp only [Act.put, List.setIfInBounds_toArray, List.set_cons_zero, List.set_cons_succ, i64_w, i32_w]
                  rfl
                refine pure_ (i := 3) (N := some 20) (v := ?_) (a' := ?_) #[true, true, true, true, false, false, false, false, false, false, false, false, false, false, false, false, false, false, false, false] rfl rfl (by kernel_rfl) (fun _ _ _ h => h) (Or.inl ⟨by rfl, ?_⟩) ?_ ?_
                rotate_left
                · intro w'
                  go_simp
                  with_reducible rfl
                rotate_left
                · simp only [Act.put, List.setIfInBounds_toArray, List.set_cons_zero, List.set_cons_succ, i64_w, i32_w]
                  rfl
                refine pure_ (i := 5) (N := some 22) (v := ?_) (a' := ?_) #[true, true, true, true, false, true, false, false, false, false, false, false, false, false, false, false, false, false, false, false] rfl rfl (by kernel_rfl) (fun _ _ _ h => h) (Or.inl ⟨by rfl, ?_⟩) ?_ ?_
                rotate_left
                · intro w'
                  go_simp
                  with_reducible rfl
                rotate_left
                · simp only [Act.put, List.setIfInBounds_toArray, List.set_cons_zero, List.set_cons_succ, i64_w, i32_w]
                  rfl
                refine pure_ (i := 6) (N := some 23) (v := ?_) (a' := ?_) #[true, true, true, true, false, true, true, false, false, false, false, false, false, false, false, false, false, false, false, false] rfl rfl (by kernel_rfl) (fun _ _ _ h => h) (Or.inl ⟨by rfl, ?_⟩) ?_ ?_
                rotate_left
                · intro w'
                  go_simp
                  with_reducible rfl
                rotate_left
                · simp only [Act.put, List.setIfInBounds_toArray, List.set_cons_zero, List.set_cons_succ, i64_w, i32_w]
                  rfl
                refine pure_ (i := 7) (N := some 24) (v := ?_) (a' := ?_) #[true, true, true, true, false, true, true, true, false, false, false, false, false, false, false, false, false, false, false, false] rfl rfl (by kernel_rfl) (fun _ _ _ h => h) (Or.inl ⟨by rfl, ?_⟩) ?_ ?_
                rotate_left
                · intro w'
                  go_simp
                  with_reducible rfl
                rotate_left
                · simp only [Act.put, List.setIfInBounds_toArray, List.set_cons_zero, List.set_cons_succ, i64_w, i32_w]
                  rfl
                refine pure_ (i := 8) (N := some 25) (v := ?_) (a' := ?_) #[true, true, true, true, false, true, true, true, true, false, false, false, false, false, false, false, false, false, false, false] rfl rfl (by kernel_rfl) (fun _ _ _ h => h) (Or.inl ⟨by rfl, ?_⟩) ?_ ?_
                rotate_left
                · intro w'
                  go_simp
                  with_reducible rfl
                rotate_left
                · simp only [Act.put, List.setIfInBounds_toArray, List.set_cons_zero, List.set_cons_succ, i64_w, i32_w]
                  rfl
                refine take_ (i := 4) (N := some 21) (v := ?_) (a' := ?_) #[true, true, true, true, true, true, true, true, true, false, false, false, false, false, false, false, false, false, false, false] rfl rfl (by kernel_rfl) (fun _ _ _ h => h) (Or.inl ⟨by rfl, ?_⟩) hHeld ?_ ?_
                rotate_left
                · rintro w' ⟨s0, s1⟩
                  go_simp
                  with_reducible rfl
                rotate_left
                · simp only [Act.put, List.setIfInBounds_toArray, List.set_cons_zero, List.set_cons_succ, i64_w, i32_w]
                  rfl
                refine take_ (i := 9) (N := some 26) (v := ?_) (a' := ?_) #[true, true, true, true, true, true, true, true, true, true, false, false, false, false, false, false, false, false, false, false] rfl rfl (by kernel_rfl) (fun _ _ _ h => h) (Or.inl ⟨by rfl, ?_⟩) hHeld ?_ ?_
                rotate_left
                · rintro w' ⟨s0, s1⟩
                  go_simp
                  with_reducible rfl
                rotate_left
                · simp only [Act.put, List.setIfInBounds_toArray, List.set_cons_zero, List.set_cons_succ, i64_w, i32_w]
                  rfl
                refine pure_ (i := 10) (N := some 27) (v := ?_) (a' := ?_) #[true, true, true, true, true, true, true, true, true, true, true, false, false, false, false, false, false, false, false, false] rfl rfl (by kernel_rfl) (fun _ _ _ h => h) (Or.inl ⟨by rfl, ?_⟩) ?_ ?_
                rotate_left
                · intro w'
                  go_simp
                  with_reducible rfl
                rotate_left
                · simp only [Act.put, List.setIfInBounds_toArray, List.set_cons_zero, List.set_cons_succ, i64_w, i32_w]
                  rfl
                refine one_ (i := 11) (N := some 28) #[true, true, true, true, true, true, true, true, true, true, true, true, false, false, false, false, false, false, false, false] rfl rfl (by kernel_rfl) (by decide) (fun K hK => ?_)
                refine value_ (by rfl) rfl (cv_bytes wd4 (nm ++ vl) rfl rfl) ?_
                obtain ⟨wc4, hwc4⟩ : ∃ w_, w_ = Lib.bytesWorld wd4 5 (nm ++ vl) := ⟨_, rfl⟩
                rw [← hwc4]
                have hrdwc4 : Kd.C (Kd.int .u8) wc4 (some ⟨wd4.heap.size, 0, none⟩) (bytesOf (nm ++ vl)).length (bytesOf (nm ++ vl)) := by rw [hwc4]; exact cv_reads wd4 (nm ++ vl) (by omega)
                have hcbwc4 : Below wd4.heap.size wd4 wc4 := by rw [hwc4]; exact Own.below_bytesWorld _ _ _
                have n0_ := Aside0.mk (HB.out.trans (hcbwc4.mono HB.out.size)); have n1_ := Aside0.mk ((hcbwc4.cell (World.block_lt_of_cell? wd4 _ HX0.out)).trans HX0.out); have n2_ := Aside0.mk ((hcbwc4.cell (World.block_lt_of_cell? wd4 _ HX1.out)).trans HX1.out); clear HB HX0 HX1; have HB := n0_; have HX0 := n1_; have HX1 := n2_; clear n0_ n1_ n2_ hHeld
                refine hK.out _ _ ⟨HX0.out, HX1.out⟩ (fun hHeld => ?_)
                clear hK K
                simp only [Act.put, List.setIfInBounds_toArray, List.set_cons_zero, List.set_cons_succ]
                refine one_ (i := 12) (N := some 29) #[true, true, true, true, true, true, true, true, true, true, true, true, true, false, false, false, false, false, false, false] rfl rfl (by kernel_rfl) (by decide) (fun K hK => ?_)
                refine goes_ Tryd.func23 (by kernel_rfl) rfl #[.slice (some ⟨wd4.heap.size, 0, none⟩) (bytesOf (nm ++ vl)).length (grownCap wd4 ((nm ++ vl)).size 0 5)] (by rfl) rfl rfl (by first | rfl | (simp only [List.map_toArray, List.map_cons, List.map_nil]; rfl)) ?_
                with_reducible refine (sprref1_Decode.calls k1 (some ⟨wd4.heap.size, 0, none⟩) (grownCap wd4 ((nm ++ vl)).size 0 5) (bytesOf (nm ++ vl)) a1 a2 0 _ hrdwc4 (by rw [bytesOf_length]; exact grownCap_ge _ _ _ _) A1.out).mono ?_
                rintro e wf4 ⟨v4, rfl, -, hb⟩
                refine ⟨_, rfl, ?_⟩
                have n0_ := Aside0.mk (HB.out.trans (hb.mono HB.out.size)); have n1_ := Aside0.mk ((hb.cell (World.block_lt_of_cell? wc4 _ HX0.out)).trans HX0.out); have n2_ := Aside0.mk ((hb.cell (World.block_lt_of_cell? wc4 _ HX1.out)).trans HX1.out); clear HB HX0 HX1; have HB := n0_; have HX0 := n1_; have HX1 := n2_; clear n0_ n1_ n2_ hHeld
                refine hK.out _ _ ⟨HX0.out, HX1.out⟩ (fun hHeld => ?_)
                clear hK K
                simp only [Act.put, List.setIfInBounds_toArray, List.set_cons_zero, List.set_cons_succ]
                refine pure_ (i := 13) (N := some 16) (v := ?_) (a' := ?_) #[true, true, true, true, true, true, true, true, true, true, true, true, true, true, false, false, false, false, false, false] rfl rfl (by kernel_rfl) (fun _ _ _ h => h) (Or.inl ⟨by rfl, ?_⟩) ?_ ?_
                rotate_left
                · intro w'
                  go_simp
                  with_reducible rfl
                rotate_left
                · simp only [Act.put, List.setIfInBounds_toArray, List.set_cons_zero, List.set_cons_succ, i64_w, i32_w]
                  rfl
                refine pure_ (i := 14) (N := some 30) (v := ?_) (a' := ?_) #[true, true, true, true, true, true, true, true, true, true, true, true, true, true, true, false, false, false, false, false] rfl rfl (by kernel_rfl) (fun _ _ _ h => h) (Or.inl ⟨by rfl, ?_⟩) ?_ ?_
                rotate_left
                · intro w'
                  go_simp
                  with_reducible rfl
                rotate_left
                · simp only [Act.put, List.setIfInBounds_toArray, List.set_cons_zero, List.set_cons_succ, i64_w, i32_w]
                  rfl
                refine pure_ (i := 15) (N := some 31) (v := ?_) (a' := ?_) #[true, true, true, true, true, true, true, true, true, true, true, true, true, true, true, true, false, false, false, false] rfl rfl (by kernel_rfl) (fun _ _ _ h => h) (Or.inl ⟨by rfl, ?_⟩) ?_ ?_
                rotate_left
                · intro w'
                  go_simp
                  with_reducible rfl
                rotate_left
                · simp only [Act.put, List.setIfInBounds_toArray, List.set_cons_zero, List.set_cons_succ, i64_w, i32_w]
                  rfl
                refine pure_ (i := 16) (N := some 32) (v := ?_) (a' := ?_) #[true, true, true, true, true, true, true, true, true, true, true, true, true, true, true, true, true, false, false, false] rfl rfl (by kernel_rfl) (fun _ _ _ h => h) (Or.inl ⟨by rfl, ?_⟩) ?_ ?_
                rotate_left
                · intro w'
                  go_simp
                  with_reducible rfl
                rotate_left
                · simp only [Act.put, List.setIfInBounds_toArray, List.set_cons_zero, List.set_cons_succ, i64_w, i32_w]
                  rfl
                refine pure_ (i := 17) (N := some 4) (v := ?_) (a' := ?_) #[true, true, true, true, true, true, true, true, true, true, true, true, true, true, true, true, true, true, false, false] rfl rfl (by kernel_rfl) (fun _ _ _ h => h) (Or.inl ⟨by rfl, ?_⟩) ?_ ?_
                rotate_left
                · intro w'
                  go_simp
                  with_reducible rfl
                rotate_left
                · simp only [Act.put, List.setIfInBounds_toArray, List.set_cons_zero, List.set_cons_succ, i64_w, i32_w]
                  rfl
                refine pure_ (i := 18) (N := some 5) (v := ?_) (a' := ?_) #[true, true, true, true, true, true, true, true, true, true, true, true, true, true, true, true, true, true, true, false] rfl rfl (by kernel_rfl) (fun _ _ _ h => h) (Or.inl ⟨by rfl, ?_⟩) ?_ ?_
                rotate_left
                · intro w'
                  go_simp
                  with_reducible rfl
                rotate_left
                · simp only [Act.put, List.setIfInBounds_toArray, List.set_cons_zero, List.set_cons_succ, i64_w, i32_w]
                  rfl
                refine pure_ (i := 19) (N := some 6) (v := ?_) (a' := ?_) #[true, true, true, true, true, true, true, true, true, true, true, true, true, true, true, true, true, true, true, true] rfl rfl (by kernel_rfl) (fun _ _ _ h => h) (Or.inl ⟨by rfl, ?_⟩) ?_ ?_
                rotate_left
                · intro w'
                  go_simp
                  with_reducible rfl
                rotate_left
                · simp only [Act.put, List.setIfInBounds_toArray, List.set_cons_zero, List.set_cons_succ, i64_w, i32_w]
                  rfl
                refine done_ (by kernel_rfl) ?_
                clear hHeld
                have hx0 := HX0.out
                have hsz5 : nm.size ≤ 9223372036854775807 := by have := C4.out; omega
                have hcv : ∀ w' : World, (convert 9 43 (.string nm)).run Tryd.prog w' = .ok (.slice (some ⟨w'.heap.size, 0, none⟩) (bytesOf nm).length (grownCap w' nm.size 0 5)) (Lib.bytesWorld w' 5 nm) := fun w' => by
                  rw [bytesOf_length]
                  exact Lib.run_convert_string_bytes (P := Tryd.prog) w' 9 43 5 nm Tryd.underlying9 Tryd.underlying43 Tryd.underlying5
                have HSZ := Aside0.mk hsz5
                clear hsz5 hcbwc4 hrdwc4 hb hsz c4b C4
                go_wp2_with (first | ((with_reducible refine gate_callee (f := 23) rfl ?_); refine goesL_ (some 40) rfl rfl Tryd.func23 (by kernel_rfl) rfl #[.slice (some ⟨wf4.heap.size, 0, none⟩) (bytesOf nm).length (grownCap wf4 nm.size 0 5)] rfl (by first | rfl | (simp only [List.map_toArray, List.map_cons, List.map_nil]; rfl)) ?_; (with_reducible refine (sprref1_Decode.calls k1 (some ⟨wf4.heap.size, 0, none⟩) (grownCap wf4 nm.size 0 5) (bytesOf nm) b1 b2 0 _ (cv_reads wf4 nm HSZ.out) (by rw [bytesOf_length]; exact grownCap_ge _ _ _ _) A2.out).mono ?_); rintro e wg5 ⟨v5, rfl, -, hb⟩; refine ⟨_, rfl, ?_⟩; have n0_ := Aside0.mk (below_step (below_step HB.out (Own.below_bytesWorld wf4 5 nm)) hb); clear HB hb hx0 HX0 HX1 hcv HSZ; have HB := n0_; clear n0_))
                go_roundg k1
                case measure => have := HK1.out; omega
                case rel => exact ⟨wrap64 (i + 1), (by first | rfl | (simp; done) | (simp [*]; done)), H', ⟨by have := HK1.out; omega⟩, ⟨by repeat (first | (with_reducible first | exact HB.out | apply below_alloc | apply pw_below_drewN | apply below_drew1) | exact HB.out)⟩⟩
              · have H := H'.out
                rw [if_pos rfl, if_neg d2] at H
                obtain rfl := Option.some.inj H
                have d2b : (b3 == 0) = false := beq_eq_false_iff_ne.2 d2
                have d2c : (b3 != 0) = true := bne_iff_ne.2 d2
                clear H H' d2
                go_wp2_with fail
                have c4b : (9223372036854775807 < nm.size + vl.size) = False := eq_false (Nat.not_lt.2 C4.out)
                have hsz : (nm ++ vl).size ≤ 9223372036854775807 := by rw [ByteArray.size_append]; exact C4.out
                have n0_ := Aside0.mk (below_drew1 HB.out); have n1_ := Aside0.mk ((World.cell?_drew _ _).trans HX0.out); have n2_ := Aside0.mk ((World.cell?_drew _ _).trans HX1.out); clear HB HX0 HX1; have HB := n0_; have HX0 := n1_; have HX1 := n2_; clear n0_ n1_ n2_
                refine start_ (n := 20) (S := fun w' => w'.cell? (ad.add (i.toNat * 2)) = some (.string nm) ∧ w'.cell? ⟨(ad.add (i.toNat * 2)).block, (ad.add (i.toNat * 2)).off + 1, none⟩ = some (.string vl)) (ds := []) #[false, false, false, false, false, false, false, false, false, false, false, false, false, false, false, false, false, false, false, false] (by kernel_rfl) rfl rfl ⟨HX0.out, HX1.out⟩ (fun hHeld => ?_)
                generalize World.drew _ = wd4 at HB HX0 HX1 hHeld ⊢
                refine pure_ (i := 0) (N := some 17) (v := ?_) (a' := ?_) #[true, false, false, false, false, false, false, false, false, false, false, false, false, false, false, false, false, false, false, false] rfl rfl (by kernel_rfl) (fun _ _ _ h => h) (Or.inl ⟨by rfl, ?_⟩) ?_ ?_
                rotate_left
                · intro w'
                  go_simp
                  with_reducible rfl
                rotate_left
                · simp only [Act.put, List.setIfInBounds_toArray, List.set_cons_zero, List.set_cons_succ, i64_w, i32_w]
                  rfl
                refine pure_ (i := 1) (N := some 18) (v := ?_) (a' := ?_) #[true, true, false, false, false, false, false, false, false, false, false, false, false, false, false, false, false, false, false, false] rfl rfl (by kernel_rfl) (fun _ _ _ h => h) (Or.inl ⟨by rfl, ?_⟩) ?_ ?_
                rotate_left
                · intro w'
                  go_simp
                  with_reducible rfl
                rotate_left
                · simp only [Act.put, List.setIfInBounds_toArray, List.set_cons_zero, List.set_cons_succ, i64_w, i32_w]
                  rfl
                refine pure_ (i := 2) (N := some 19) (v := ?_) (a' := ?_) #[true, true, true, false, false, false, false, false, false, false, false, false, false, false, false, false, false, false, false, false] rfl rfl (by kernel_rfl) (fun _ _ _ h => h) (Or.inl ⟨by rfl, ?_⟩) ?_ ?_
                rotate_left
                · intro w'
                  go_simp
                  with_reducible rfl
                rotate_left
                · simp only [Act.put, List.setIfInBounds_toArray, List.set_cons_zero, List.set_cons_succ, i64_w, i32_w]
                  rfl
                refine pure_ (i := 3) (N := some 20) (v := ?_) (a' := ?_) #[true, true, true, true, false, false, false, false, false, false, false, false, false, false, false, false, false, false, false, false] rfl rfl (by kernel_rfl) (fun _ _ _ h => h) (Or.inl ⟨by rfl, ?_⟩) ?_ ?_
                rotate_left
                · intro w'
                  go_simp
                  with_reducible rfl
                rotate_left
                · simp only [Act.put, List.setIfInBounds_toArray, List.set_cons_zero, List.set_cons_succ, i64_w, i32_w]
                  rfl
                refine pure_ (i := 5) (N := some 22) (v := ?_) (a' := ?_) #[true, true, true, true, false, true, false, false, false, false, false, false, false, false, false, false, false, false, false, false] rfl rfl (by kernel_rfl) (fun _ _ _ h => h) (Or.inl ⟨by rfl, ?_⟩) ?_ ?_
                rotate_left
                · intro w'
                  go_simp
                  with_reducible rfl
                rotate_left
                · simp only [Act.put, List.setIfInBounds_toArray, List.set_cons_zero, List.set_cons_succ, i64_w, i32_w]
                  rfl
                refine pure_ (i := 6) (N := some 23) (v := ?_) (a' := ?_) #[true, true, true, true, false, true, true, false, false, false, false, false, false, false, false, false, false, false, false, false] rfl rfl (by kernel_rfl) (fun _ _ _ h => h) (Or.inl ⟨by rfl, ?_⟩) ?_ ?_
                rotate_left
                · intro w'
                  go_simp
                  with_reducible rfl
                rotate_left
                · simp only [Act.put, List.setIfInBounds_toArray, List.set_cons_zero, List.set_cons_succ, i64_w, i32_w]
                  rfl
                refine pure_ (i := 7) (N := some 24) (v := ?_) (a' := ?_) #[true, true, true, true, false, true, true, true, false, false, false, false, false, false, false, false, false, false, false, false] rfl rfl (by kernel_rfl) (fun _ _ _ h => h) (Or.inl ⟨by rfl, ?_⟩) ?_ ?_
                rotate_left
                · intro w'
                  go_simp
                  with_reducible rfl
                rotate_left
                · simp only [Act.put, List.setIfInBounds_toArray, List.set_cons_zero, List.set_cons_succ, i64_w, i32_w]
                  rfl
                refine pure_ (i := 8) (N := some 25) (v := ?_) (a' := ?_) #[true, true, true, true, false, true, true, true, true, false, false, false, false, false, false, false, false, false, false, false] rfl rfl (by kernel_rfl) (fun _ _ _ h => h) (Or.inl ⟨by rfl, ?_⟩) ?_ ?_
                rotate_left
                · intro w'
                  go_simp
                  with_reducible rfl
                rotate_left
                · simp only [Act.put, List.setIfInBounds_toArray, List.set_cons_zero, List.set_cons_succ, i64_w, i32_w]
                  rfl
                refine take_ (i := 4) (N := some 21) (v := ?_) (a' := ?_) #[true, true, true, true, true, true, true, true, true, false, false, false, false, false, false, false, false, false, false, false] rfl rfl (by kernel_rfl) (fun _ _ _ h => h) (Or.inl ⟨by rfl, ?_⟩) hHeld ?_ ?_
                rotate_left
                · rintro w' ⟨s0, s1⟩
                  go_simp
                  with_reducible rfl
                rotate_left
                · simp only [Act.put, List.setIfInBounds_toArray, List.set_cons_zero, List.set_cons_succ, i64_w, i32_w]
                  rfl
                refine take_ (i := 9) (N := some 26) (v := ?_) (a' := ?_) #[true, true, true, true, true, true, true, true, true, true, false, false, false, false, false, false, false, false, false, false] rfl rfl (by kernel_rfl) (fun _ _ _ h => h) (Or.inl ⟨by rfl, ?_⟩) hHeld ?_ ?_
                rotate_left
                · rintro w' ⟨s0, s1⟩
                  go_simp
                  with_reducible rfl
                rotate_left
                · simp only [Act.put, List.setIfInBounds_toArray, List.set_cons_zero, List.set_cons_succ, i64_w, i32_w]
                  rfl
                refine pure_ (i := 10) (N := some 27) (v := ?_) (a' := ?_) #[true, true, true, true, true, true, true, true, true, true, true, false, false, false, false, false, false, false, false, false] rfl rfl (by kernel_rfl) (fun _ _ _ h => h) (Or.inl ⟨by rfl, ?_⟩) ?_ ?_
                rotate_left
                · intro w'
                  go_simp
                  with_reducible rfl
                rotate_left
                · simp only [Act.put, List.setIfInBounds_toArray, List.set_cons_zero, List.set_cons_succ, i64_w, i32_w]
                  rfl
                refine one_ (i := 11) (N := some 28) #[true, true, true, true, true, true, true, true, true, true, true, true, false, false, false, false, false, false, false, false] rfl rfl (by kernel_rfl) (by decide) (fun K hK => ?_)
                refine value_ (by rfl) rfl (cv_bytes wd4 (nm ++ vl) rfl rfl) ?_
                obtain ⟨wc4, hwc4⟩ : ∃ w_, w_ = Lib.bytesWorld wd4 5 (nm ++ vl) := ⟨_, rfl⟩
                rw [← hwc4]
                have hrdwc4 : Kd.C (Kd.int .u8) wc4 (some ⟨wd4.heap.size, 0, none⟩) (bytesOf (nm ++ vl)).length (bytesOf (nm ++ vl)) := by rw [hwc4]; exact cv_reads wd4 (nm ++ vl) (by omega)
                have hcbwc4 : Below wd4.heap.size wd4 wc4 := by rw [hwc4]; exact Own.below_bytesWorld _ _ _
                have n0_ := Aside0.mk (HB.out.trans (hcbwc4.mono HB.out.size)); have n1_ := Aside0.mk ((hcbwc4.cell (World.block_lt_of_cell? wd4 _ HX0.out)).trans HX0.out); have n2_ := Aside0.mk ((hcbwc4.cell (World.block_lt_of_cell? wd4 _ HX1.out)).trans HX1.out); clear HB HX0 HX1; have HB := n0_; have HX0 := n1_; have HX1 := n2_; clear n0_ n1_ n2_ hHeld
                refine hK.out _ _ ⟨HX0.out, HX1.out⟩ (fun hHeld => ?_)
                clear hK K
                simp only [Act.put, List.setIfInBounds_toArray, List.set_cons_zero, List.set_cons_succ]
                refine one_ (i := 12) (N := some 29) #[true, true, true, true, true, true, true, true, true, true, true, true, true, false, false, false, false, false, false, false] rfl rfl (by kernel_rfl) (by decide) (fun K hK => ?_)
                refine goes_ Tryd.func23 (by kernel_rfl) rfl #[.slice (some ⟨wd4.heap.size, 0, none⟩) (bytesOf (nm ++ vl)).length (grownCap wd4 ((nm ++ vl)).size 0 5)] (by rfl) rfl rfl (by first | rfl | (simp only [List.map_toArray, List.map_cons, List.map_nil]; rfl)) ?_
                with_reducible refine (sprref1_Decode.calls k1 (some ⟨wd4.heap.size, 0, none⟩) (grownCap wd4 ((nm ++ vl)).size 0 5) (bytesOf (nm ++ vl)) a1 a2 0 _ hrdwc4 (by rw [bytesOf_length]; exact grownCap_ge _ _ _ _) A1.out).mono ?_
                rintro e wf4 ⟨v4, rfl, -, hb⟩
                refine ⟨_, rfl, ?_⟩
                have n0_ := Aside0.mk (HB.out.trans (hb.mono HB.out.size)); have n1_ := Aside0.mk ((hb.cell (World.block_lt_of_cell? wc4 _ HX0.out)).trans HX0.out); have n2_ := Aside0.mk ((hb.cell (World.block_lt_of_cell? wc4 _ HX1.out)).trans HX1.out); clear HB HX0 HX1; have HB := n0_; have HX0 := n1_; have HX1 := n2_; clear n0_ n1_ n2_ hHeld
                refine hK.out _ _ ⟨HX0.out, HX1.out⟩ (fun hHeld => ?_)
                clear hK K
                simp only [Act.put, List.setIfInBounds_toArray, List.set_cons_zero, List.set_cons_succ]
                refine pure_ (i := 13) (N := some 16) (v := ?_) (a' := ?_) #[true, true, true, true, true, true, true, true, true, true, true, true, true, true, false, false, false, false, false, false] rfl rfl (by kernel_rfl) (fun _ _ _ h => h) (Or.inl ⟨by rfl, ?_⟩) ?_ ?_
                rotate_left
                · intro w'
                  go_simp
                  with_reducible rfl
                rotate_left
                · simp only [Act.put, List.setIfInBounds_toArray, List.set_cons_zero, List.set_cons_succ, i64_w, i32_w]
                  rfl
                refine pure_ (i := 14) (N := some 30) (v := ?_) (a' := ?_) #[true, true, true, true, true, true, true, true, true, true, true, true, true, true, true, false, false, false, false, false] rfl rfl (by kernel_rfl) (fun _ _ _ h => h) (Or.inl ⟨by rfl, ?_⟩) ?_ ?_
                rotate_left
                · intro w'
                  go_simp
                  with_reducible rfl
                rotate_left
                · simp only [Act.put, List.setIfInBounds_toArray, List.set_cons_zero, List.set_cons_succ, i64_w, i32_w]
                  rfl
                refine pure_ (i := 15) (N := some 31) (v := ?_) (a' := ?_) #[true, true, true, true, true, true, true, true, true, true, true, true, true, true, true, true, false, false, false, false] rfl rfl (by kernel_rfl) (fun _ _ _ h => h) (Or.inl ⟨by rfl, ?_⟩) ?_ ?_
                rotate_left
                · intro w'
                  go_simp
                  with_reducible rfl
                rotate_left
                · simp only [Act.put, List.setIfInBounds_toArray, List.set_cons_zero, List.set_cons_succ, i64_w, i32_w]
                  rfl
                refine pure_ (i := 16) (N := some 32) (v := ?_) (a' := ?_) #[true, true, true, true, true, true, true, true, true, true, true, true, true, true, true, true, true, false, false, false] rfl rfl (by kernel_rfl) (fun _ _ _ h => h) (Or.inl ⟨by rfl, ?_⟩) ?_ ?_
                rotate_left
                · intro w'
                  go_simp
                  with_reducible rfl
                rotate_left
                · simp only [Act.put, List.setIfInBounds_toArray, List.set_cons_zero, List.set_cons_succ, i64_w, i32_w]
                  rfl
                refine pure_ (i := 17) (N := some 4) (v := ?_) (a' := ?_) #[true, true, true, true, true, true, true, true, true, true, true, true, true, true, true, true, true, true, false, false] rfl rfl (by kernel_rfl) (fun _ _ _ h => h) (Or.inl ⟨by rfl, ?_⟩) ?_ ?_
                rotate_left
                · intro w'
                  go_simp
                  with_reducible rfl
                rotate_left
                · simp only [Act.put, List.setIfInBounds_toArray, List.set_cons_zero, List.set_cons_succ, i64_w, i32_w]
                  rfl
                refine pure_ (i := 18) (N := some 5) (v := ?_) (a' := ?_) #[true, true, true, true, true, true, true, true, true, true, true, true, true, true, true, true, true, true, true, false] rfl rfl (by kernel_rfl) (fun _ _ _ h => h) (Or.inl ⟨by rfl, ?_⟩) ?_ ?_
                rotate_left
                · intro w'
                  go_simp
                  with_reducible rfl
                rotate_left
                · simp only [Act.put, List.setIfInBounds_toArray, List.set_cons_zero, List.set_cons_succ, i64_w, i32_w]
                  rfl
                refine pure_ (i := 19) (N := some 6) (v := ?_) (a' := ?_) #[true, true, true, true, true, true, true, true, true, true, true, true, true, true, true, true, true, true, true, true] rfl rfl (by kernel_rfl) (fun _ _ _ h => h) (Or.inl ⟨by rfl, ?_⟩) ?_ ?_
                rotate_left
                · intro w'
                  go_simp
                  with_reducible rfl
                rotate_left
                · simp only [Act.put, List.setIfInBounds_toArray, List.set_cons_zero, List.set_cons_succ, i64_w, i32_w]
                  rfl
                refine done_ (by kernel_rfl) ?_
                clear hHeld
                have hx0 := HX0.out
                have hsz5 : nm.size ≤ 9223372036854775807 := by have := C4.out; omega
                have hcv : ∀ w' : World, (convert 9 43 (.string nm)).run Tryd.prog w' = .ok (.slice (some ⟨w'.heap.size, 0, none⟩) (bytesOf nm).length (grownCap w' nm.size 0 5)) (Lib.bytesWorld w' 5 nm) := fun w' => by
                  rw [bytesOf_length]
                  exact Lib.run_convert_string_bytes (P := Tryd.prog) w' 9 43 5 nm Tryd.underlying9 Tryd.underlying43 Tryd.underlying5
                have HSZ := Aside0.mk hsz5
                clear hsz5 hcbwc4 hrdwc4 hb hsz c4b C4
                go_wp2_with (first | ((with_reducible refine gate_callee (f := 23) rfl ?_); refine goesL_ (some 40) rfl rfl Tryd.func23 (by kernel_rfl) rfl #[.slice (some ⟨wf4.heap.size, 0, none⟩) (bytesOf nm).length (grownCap wf4 nm.size 0 5)] rfl (by first | rfl | (simp only [List.map_toArray, List.map_cons, List.map_nil]; rfl)) ?_; (with_reducible refine (sprref1_Decode.calls k1 (some ⟨wf4.heap.size, 0, none⟩) (grownCap wf4 nm.size 0 5) (bytesOf nm) b1 b2 b3 _ (cv_reads wf4 nm HSZ.out) (by rw [bytesOf_length]; exact grownCap_ge _ _ _ _) A2.out).mono ?_); rintro e wg5 ⟨v5, rfl, -, hb⟩; refine ⟨_, rfl, ?_⟩; have n0_ := Aside0.mk (below_step (below_step HB.out (Own.below_bytesWorld wf4 5 nm)) hb); clear HB hb hx0 HX0 HX1 hcv HSZ; have HB := n0_; clear n0_))
                go_ret
                exact ⟨rfl, by repeat (first | (with_reducible first | exact HB.out | apply below_alloc | apply pw_below_drewN | apply below_drew1) | exact HB.out)⟩
            · have H := H'.out
              rw [if_neg d1] at H
              obtain rfl := Option.some.inj H
              have d1b : (a3 == 0) = false := beq_eq_false_iff_ne.2 d1
              have d1c : (a3 != 0) = true := bne_iff_ne.2 d1
              clear H H' d1
              go_wp2_with fail
              have c4b : (9223372036854775807 < nm.size + vl.size) = False := eq_false (Nat.not_lt.2 C4.out)
              have hsz : (nm ++ vl).size ≤ 9223372036854775807 := by rw [ByteArray.size_append]; exact C4.out
              have n0_ := Aside0.mk (below_drew1 HB.out); have n1_ := Aside0.mk ((World.cell?_drew _ _).trans HX0.out); have n2_ := Aside0.mk ((World.cell?_drew _ _).trans HX1.out); clear HB HX0 HX1; have HB := n0_; have HX0 := n1_; have HX1 := n2_; clear n0_ n1_ n2_
              refine start_ (n := 20) (S := fun w' => w'.cell? (ad.add (i.toNat * 2)) = some (.string nm) ∧ w'.cell? ⟨(ad.add (i.toNat * 2)).block, (ad.add (i.toNat * 2)).off + 1, none⟩ = some (.string vl)) (ds := []) #[false, false, false, false, false, false, false, false, false, false, false, false, false, false, false, false, false, false, false, false] (by kernel_rfl) rfl rfl ⟨HX0.out, HX1.out⟩ (fun hHeld => ?_)
              generalize World.drew _ = wd4 at HB HX0 HX1 hHeld ⊢
              refine pure_ (i := 0) (N := some 17) (v := ?_) (a' := ?_) #[true, false, false, false, false, false, false, false, false, false, false, false, false, false, false, false, false, false, false, false] rfl rfl (by kernel_rfl) (fun _ _ _ h => h) (Or.inl ⟨by rfl, ?_⟩) ?_ ?_
              rotate_left
              · intro w'
                go_simp
                with_reducible rfl
              rotate_left
              · simp only [Act.put, List.setIfInBounds_toArray, List.set_cons_zero, List.set_cons_succ, i64_w, i32_w]
                rfl
              refine pure_ (i := 1) (N := some 18) (v := ?_) (a' := ?_) #[true, true, false, false, false, false, false, false, false, false, false, false, false, false, false, false, false, false, false, false] rfl rfl (by kernel_rfl) (fun _ _ _ h => h) (Or.inl ⟨by rfl, ?_⟩) ?_ ?_
              rotate_left
              · intro w'
                go_simp
                with_reducible rfl
              rotate_left
              · simp only [Act.put, List.setIfInBounds_toArray, List.set_cons_zero, List.set_cons_succ, i64_w, i32_w]
                rfl
              refine pure_ (i := 2) (N := some 19) (v := ?_) (a' := ?_) #[true, true, true, false, false, false, false, false, false, false, false, false, false, false, false, false, false, false, false, false] rfl rfl (by kernel_rfl) (fun _ _ _ h => h) (Or.inl ⟨by rfl, ?_⟩) ?_ ?_
              rotate_left
              · intro w'
                go_simp
                with_reducible rfl
              rotate_left
              · simp only [Act.put, List.setIfInBounds_toArray, List.set_cons_zero, List.set_cons_succ, i64_w, i32_w]
                rfl
              refine pure_ (i := 3) (N := some 20) (v := ?_) (a' := ?_) #[true, true, true, true, false, false, false, false, false, false, false, false, false, false, false, false, false, false, false, false] rfl rfl (by kernel_rfl) (fun _ _ _ h => h) (Or.inl ⟨by rfl, ?_⟩) ?_ ?_
              rotate_left
              · intro w'
                go_simp
                with_reducible rfl
              rotate_left
              · simp only [Act.put, List.setIfInBounds_toArray, List.set_cons_zero, List.set_cons_succ, i64_w, i32_w]
                rfl
              refine pure_ (i := 5) (N := some 22) (v := ?_) (a' := ?_) #[true, true, true, true, false, true, false, false, false, false, false, false, false, false, false, false, false, false, false, false] rfl rfl (by kernel_rfl) (fun _ _ _ h => h) (Or.inl ⟨by rfl, ?_⟩) ?_ ?_
              rotate_left
              · intro w'
                go_simp
                with_reducible rfl
              rotate_left
              · simp only [Act.put, List.setIfInBounds_toArray, List.set_cons_zero, List.set_cons_succ, i64_w, i32_w]
                rfl
              refine pure_ (i := 6) (N := some 23) (v := ?_) (a' := ?_) #[true, true, true, true, false, true, true, false, false, false, false, false, false, false, false, false, false, false, false, false] rfl rfl (by kernel_rfl) (fun _ _ _ h => h) (Or.inl ⟨by rfl, ?_⟩) ?_ ?_
              rotate_left
              · intro w'
                go_simp
                with_reducible rfl
              rotate_left
              · simp only [Act.put, List.setIfInBounds_toArray, List.set_cons_zero, List.set_cons_succ, i64_w, i32_w]
                rfl
              refine pure_ (i := 7) (N := some 24) (v := ?_) (a' := ?_) #[true, true, true, true, false, true, true, true, false, false, false, false, false, false, false, false, false, false, false, false] rfl rfl (by kernel_rfl) (fun _ _ _ h => h) (Or.inl ⟨by rfl, ?_⟩) ?_ ?_
              rotate_left
              · intro w'
                go_simp
                with_reducible rfl
              rotate_left
              · simp only [Act.put, List.setIfInBounds_toArray, List.set_cons_zero, List.set_cons_succ, i64_w, i32_w]
                rfl
              refine pure_ (i := 8) (N := some 25) (v := ?_) (a' := ?_) #[true, true, true, true, false, true, true, true, true, false, false, false, false, false, false, false, false, false, false, false] rfl rfl (by kernel_rfl) (fun _ _ _ h => h) (Or.inl ⟨by rfl, ?_⟩) ?_ ?_
              rotate_left
              · intro w'
                go_simp
                with_reducible rfl
              rotate_left
              · simp only [Act.put, List.setIfInBounds_toArray, List.set_cons_zero, List.set_cons_succ, i64_w, i32_w]
                rfl
              refine take_ (i := 4) (N := some 21) (v := ?_) (a' := ?_) #[true, true, true, true, true, true, true, true, true, false, false, false, false, false, false, false, false, false, false, false] rfl rfl (by kernel_rfl) (fun _ _ _ h => h) (Or.inl ⟨by rfl, ?_⟩) hHeld ?_ ?_
              rotate_left
              · rintro w' ⟨s0, s1⟩
                go_simp
                with_reducible rfl
              rotate_left
              · simp only [Act.put, List.setIfInBounds_toArray, List.set_cons_zero, List.set_cons_succ, i64_w, i32_w]
                rfl
              refine take_ (i := 9) (N := some 26) (v := ?_) (a' := ?_) #[true, true, true, true, true, true, true, true, true, true, false, false, false, false, false, false, false, false, false, false] rfl rfl (by kernel_rfl) (fun _ _ _ h => h) (Or.inl ⟨by rfl, ?_⟩) hHeld ?_ ?_
              rotate_left
              · rintro w' ⟨s0, s1⟩
                go_simp
                with_reducible rfl
              rotate_left
              · simp only [Act.put, List.setIfInBounds_toArray, List.set_cons_zero, List.set_cons_succ, i64_w, i32_w]
                rfl
              refine pure_ (i := 10) (N := some 27) (v := ?_) (a' := ?_) #[true, true, true, true, true, true, true, true, true, true, true, false, false, false, false, false, false, false, false, false] rfl rfl (by kernel_rfl) (fun _ _ _ h => h) (Or.inl ⟨by rfl, ?_⟩) ?_ ?_
              rotate_left
              · intro w'
                go_simp
                with_reducible rfl
              rotate_left
              · simp only [Act.put, List.setIfInBounds_toArray, List.set_cons_zero, List.set_cons_succ, i64_w, i32_w]
                rfl
              refine one_ (i := 11) (N := some 28) #[true, true, true, true, true, true, true, true, true, true, true, true, false, false, false, false, false, false, false, false] rfl rfl (by kernel_rfl) (by decide) (fun K hK => ?_)
              refine value_ (by rfl) rfl (cv_bytes wd4 (nm ++ vl) rfl rfl) ?_
              obtain ⟨wc4, hwc4⟩ : ∃ w_, w_ = Lib.bytesWorld wd4 5 (nm ++ vl) := ⟨_, rfl⟩
              rw [← hwc4]
              have hrdwc4 : Kd.C (Kd.int .u8) wc4 (some ⟨wd4.heap.size, 0, none⟩) (bytesOf (nm ++ vl)).length (bytesOf (nm ++ vl)) := by rw [hwc4]; exact cv_reads wd4 (nm ++ vl) (by omega)
              have hcbwc4 : Below wd4.heap.size wd4 wc4 := by rw [hwc4]; exact Own.below_bytesWorld _ _ _
              have n0_ := Aside0.mk (HB.out.trans (hcbwc4.mono HB.out.size)); have n1_ := Aside0.mk ((hcbwc4.cell (World.block_lt_of_cell? wd4 _ HX0.out)).trans HX0.out); have n2_ := Aside0.mk ((hcbwc4.cell (World.block_lt_of_cell? wd4 _ HX1.out)).trans HX1.out); clear HB HX0 HX1; have HB := n0_; have HX0 := n1_; have HX1 := n2_; clear n0_ n1_ n2_ hHeld
              refine hK.out _ _ ⟨HX0.out, HX1.out⟩ (fun hHeld => ?_)
              clear hK K
              simp only [Act.put, List.setIfInBounds_toArray, List.set_cons_zero, List.set_cons_succ]
              refine one_ (i := 12) (N := some 29) #[true, true, true, true, true, true, true, true, true, true, true, true, true, false, false, false, false, false, false, false] rfl rfl (by kernel_rfl) (by decide) (fun K hK => ?_)
              refine goes_ Tryd.func23 (by kernel_rfl) rfl #[.slice (some ⟨wd4.heap.size, 0, none⟩) (bytesOf (nm ++ vl)).length (grownCap wd4 ((nm ++ vl)).size 0 5)] (by rfl) rfl rfl (by first | rfl | (simp only [List.map_toArray, List.map_cons, List.map_nil]; rfl)) ?_
              with_reducible refine (sprref1_Decode.calls k1 (some ⟨wd4.heap.size, 0, none⟩) (grownCap wd4 ((nm ++ vl)).size 0 5) (bytesOf (nm ++ vl)) a1 a2 a3 _ hrdwc4 (by rw [bytesOf_length]; exact grownCap_ge _ _ _ _) A1.out).mono ?_
              rintro e wf4 ⟨v4, rfl, -, hb⟩
              refine ⟨_, rfl, ?_⟩
              have n0_ := Aside0.mk (HB.out.trans (hb.mono HB.out.size)); have n1_ := Aside0.mk ((hb.cell (World.block_lt_of_cell? wc4 _ HX0.out)).trans HX0.out); have n2_ := Aside0.mk ((hb.cell (World.block_lt_of_cell? wc4 _ HX1.out)).trans HX1.out); clear HB HX0 HX1; have HB := n0_; have HX0 := n1_; have HX1 := n2_; clear n0_ n1_ n2_ hHeld
              refine hK.out _ _ ⟨HX0.out, HX1.out⟩ (fun hHeld => ?_)
              clear hK K
              simp only [Act.put, List.setIfInBounds_toArray, List.set_cons_zero, List.set_cons_succ]
              refine pure_ (i := 13) (N := some 16) (v := ?_) (a' := ?_) #[true, true, true, true, true, true, true, true, true, true, true, true, true, true, false, false, false, false, false, false] rfl rfl (by kernel_rfl) (fun _ _ _ h => h) (Or.inl ⟨by rfl, ?_⟩) ?_ ?_
              rotate_left
              · intro w'
                go_simp
                with_reducible rfl
              rotate_left
              · simp only [Act.put, List.setIfInBounds_toArray, List.set_cons_zero, List.set_cons_succ, i64_w, i32_w]
                rfl
              refine pure_ (i := 14) (N := some 30) (v := ?_) (a' := ?_) #[true, true, true, true, true, true, true, true, true, true, true, true, true, true, true, false, false, false, false, false] rfl rfl (by kernel_rfl) (fun _ _ _ h => h) (Or.inl ⟨by rfl, ?_⟩) ?_ ?_
              rotate_left
              · intro w'
                go_simp
                with_reducible rfl
              rotate_left
              · simp only [Act.put, List.setIfInBounds_toArray, List.set_cons_zero, List.set_cons_succ, i64_w, i32_w]
                rfl
              refine pure_ (i := 15) (N := some 31) (v := ?_) (a' := ?_) #[true, true, true, true, true, true, true, true, true, true, true, true, true, true, true, true, false, false, false, false] rfl rfl (by kernel_rfl) (fun _ _ _ h => h) (Or.inl ⟨by rfl, ?_⟩) ?_ ?_
              rotate_left
              · intro w'
                go_simp
                with_reducible rfl
              rotate_left
              · simp only [Act.put, List.setIfInBounds_toArray, List.set_cons_zero, List.set_cons_succ, i64_w, i32_w]
                rfl
              refine pure_ (i := 16) (N := some 32) (v := ?_) (a' := ?_) #[true, true, true, true, true, true, true, true, true, true, true, true, true, true, true, true, true, false, false, false] rfl rfl (by kernel_rfl) (fun _ _ _ h => h) (Or.inl ⟨by rfl, ?_⟩) ?_ ?_
              rotate_left
              · intro w'
                go_simp
                with_reducible rfl
              rotate_left
              · simp only [Act.put, List.setIfInBounds_toArray, List.set_cons_zero, List.set_cons_succ, i64_w, i32_w]
                rfl
              refine pure_ (i := 17) (N := some 4) (v := ?_) (a' := ?_) #[true, true, true, true, true, true, true, true, true, true, true, true, true, true, true, true, true, true, false, false] rfl rfl (by kernel_rfl) (fun _ _ _ h => h) (Or.inl ⟨by rfl, ?_⟩) ?_ ?_
              rotate_left
              · intro w'
                go_simp
                with_reducible rfl
              rotate_left
              · simp only [Act.put, List.setIfInBounds_toArray, List.set_cons_zero, List.set_cons_succ, i64_w, i32_w]
                rfl
              refine pure_ (i := 18) (N := some 5) (v := ?_) (a' := ?_) #[true, true, true, true, true, true, true, true, true, true, true, true, true, true, true, true, true, true, true, false] rfl rfl (by kernel_rfl) (fun _ _ _ h => h) (Or.inl ⟨by rfl, ?_⟩) ?_ ?_
              rotate_left
              · intro w'
                go_simp
                with_reducible rfl
              rotate_left
              · simp only [Act.put, List.setIfInBounds_toArray, List.set_cons_zero, List.set_cons_succ, i64_w, i32_w]
                rfl
              refine pure_ (i := 19) (N := some 6) (v := ?_) (a' := ?_) #[true, true, true, true, true, true, true, true, true, true, true, true, true, true, true, true, true, true, true, true] rfl rfl (by kernel_rfl) (fun _ _ _ h => h) (Or.inl ⟨by rfl, ?_⟩) ?_ ?_
              rotate_left
              · intro w'
                go_simp
                with_reducible rfl
              rotate_left
              · simp only [Act.put, List.setIfInBounds_toArray, List.set_cons_zero, List.set_cons_succ, i64_w, i32_w]
                rfl
              refine done_ (by kernel_rfl) ?_
              clear hHeld
              have hx0 := HX0.out
              have hsz5 : nm.size ≤ 9223372036854775807 := by have := C4.out; omega
              have hcv : ∀ w' : World, (convert 9 43 (.string nm)).run Tryd.prog w' = .ok (.slice (some ⟨w'.heap.size, 0, none⟩) (bytesOf nm).length (grownCap w' nm.size 0 5)) (Lib.bytesWorld w' 5 nm) := fun w' => by
                rw [bytesOf_length]
                exact Lib.run_convert_string_bytes (P := Tryd.prog) w' 9 43 5 nm Tryd.underlying9 Tryd.underlying43 Tryd.underlying5
              have HSZ := Aside0.mk hsz5
              clear hsz5 hcbwc4 hrdwc4 hb hsz c4b C4
              go_wp2_with (first | ((with_reducible refine gate_callee (f := 23) rfl ?_); refine goesL_ (some 40) rfl rfl Tryd.func23 (by kernel_rfl) rfl #[.slice (some ⟨wf4.heap.size, 0, none⟩) (bytesOf nm).length (grownCap wf4 nm.size 0 5)] rfl (by first | rfl | (simp only [List.map_toArray, List.map_cons, List.map_nil]; rfl)) ?_; (with_reducible refine (sprref1_Decode.calls k1 (some ⟨wf4.heap.size, 0, none⟩) (grownCap wf4 nm.size 0 5) (bytesOf nm) b1 b2 b3 _ (cv_reads wf4 nm HSZ.out) (by rw [bytesOf_length]; exact grownCap_ge _ _ _ _) A2.out).mono ?_); rintro e wg5 ⟨v5, rfl, -, hb⟩; refine ⟨_, rfl, ?_⟩; have n0_ := Aside0.mk (below_step (below_step HB.out (Own.below_bytesWorld wf4 5 nm)) hb); clear HB hb hx0 HX0 HX1 hcv HSZ; have HB := n0_; clear n0_))
              go_ret
              exact ⟨rfl, by repeat (first | (with_reducible first | exact HB.out | apply below_alloc | apply pw_below_drewN | apply below_drew1) | exact HB.out)⟩
          · rw [if_neg c4] at H
            exact absurd H (by simp)
        · rw [if_neg c3] at H
          exact absurd H (by simp)
      · rw [if_neg c2] at H
        have c2b0 : decide (i < (l0.length : Int)) = false := decide_eq_false c2
        obtain rfl := Option.some.inj H
        clear H c2
        go_wp2
        go_ret
        exact ⟨rfl, by repeat (first | (with_reducible first | exact HB.out | apply below_alloc | apply pw_below_drewN | apply below_drew1) | exact HB.out)⟩


end Go.Proofs.YtkaegbamkdgjjaaDoor.R
