-- Written by a program of this session's (wip/xprint.py), out of the seat's translation.
import Derived.Test.YtnkmhgfhdgledaaDoorR0
import Derived.Test.YtnkmhgfhdgledaaDoorR7
import Derived.Test.YtnkmhgfhdgledaaDoorR8
namespace Go.Proofs.YtnkmhgfhdgledaaDoor.R
open Go.RowKit Go.Proofs.YtnkmhgfhdgledaaDoorW.PrintWords Go.Proofs.YtnkmhgfhdgledaaDoorW.PrintLast Go.Proofs.YtnkmhgfhdgledaaDoorW.PrintMore
attribute [local go_sem] max2_int min2_int max_two min_two max_three min_three max_four min_four   -- for this text's walks alone
set_option linter.unusedVariables false
set_option linter.unusedSimpArgs false

/-! ### sprref14_Print: function 13 -/
def sprref14_Print.j0 : Nat → Int → Int → Int → Int → Int → Option (ByteArray × Int)
  | 0, _, _, _, _, _ => none
  | k + 1, x4, x5, x6, x7, x8 => (sprref14_days.f).bind fun t303 => (if 0 ≤ (Int.tmod (wrap64 ((Int.tmod x8 7) + 7)) 7) then (if (Int.tmod (wrap64 ((Int.tmod x8 7) + 7)) 7) < (t303.length : Int) then (if (rdOf ByteArray.empty t303 (Int.tmod (wrap64 ((Int.tmod x8 7) + 7)) 7)).size + 2 ≤ 9223372036854775807 then ((sprref14_two.f x6).bind fun t307 => (if ((rdOf ByteArray.empty t303 (Int.tmod (wrap64 ((Int.tmod x8 7) + 7)) 7)) ++ (⟨#[44, 32]⟩ : ByteArray)).size + t307.size ≤ 9223372036854775807 then (if (((rdOf ByteArray.empty t303 (Int.tmod (wrap64 ((Int.tmod x8 7) + 7)) 7)) ++ (⟨#[44, 32]⟩ : ByteArray)) ++ t307).size + 1 ≤ 9223372036854775807 then ((sprref14_months.f).bind fun t308 => (if 0 ≤ (wrap64 (x5 - 1)) then (if (wrap64 (x5 - 1)) < (t308.length : Int) then (if ((((rdOf ByteArray.empty t303 (Int.tmod (wrap64 ((Int.tmod x8 7) + 7)) 7)) ++ (⟨#[44, 32]⟩ : ByteArray)) ++ t307) ++ (⟨#[32]⟩ : ByteArray)).size + (rdOf ByteArray.empty t308 (wrap64 (x5 - 1))).size ≤ 9223372036854775807 then (if (((((rdOf ByteArray.empty t303 (Int.tmod (wrap64 ((Int.tmod x8 7) + 7)) 7)) ++ (⟨#[44, 32]⟩ : ByteArray)) ++ t307) ++ (⟨#[32]⟩ : ByteArray)) ++ (rdOf ByteArray.empty t308 (wrap64 (x5 - 1)))).size + 1 ≤ 9223372036854775807 then ((sprref14_two.f (wrap64 (Int.tdiv x4 100))).bind fun t312 => (if ((((((rdOf ByteArray.empty t303 (Int.tmod (wrap64 ((Int.tmod x8 7) + 7)) 7)) ++ (⟨#[44, 32]⟩ : ByteArray)) ++ t307) ++ (⟨#[32]⟩ : ByteArray)) ++ (rdOf ByteArray.empty t308 (wrap64 (x5 - 1)))) ++ (⟨#[32]⟩ : ByteArray)).size + t312.size ≤ 9223372036854775807 then ((sprref14_two.f x4).bind fun t313 => (if (((((((rdOf ByteArray.empty t303 (Int.tmod (wrap64 ((Int.tmod x8 7) + 7)) 7)) ++ (⟨#[44, 32]⟩ : ByteArray)) ++ t307) ++ (⟨#[32]⟩ : ByteArray)) ++ (rdOf ByteArray.empty t308 (wrap64 (x5 - 1)))) ++ (⟨#[32]⟩ : ByteArray)) ++ t312).size + t313.size ≤ 9223372036854775807 then (if ((((((((rdOf ByteArray.empty t303 (Int.tmod (wrap64 ((Int.tmod x8 7) + 7)) 7)) ++ (⟨#[44, 32]⟩ : ByteArray)) ++ t307) ++ (⟨#[32]⟩ : ByteArray)) ++ (rdOf ByteArray.empty t308 (wrap64 (x5 - 1)))) ++ (⟨#[32]⟩ : ByteArray)) ++ t312) ++ t313).size + 1 ≤ 9223372036854775807 then ((sprref14_two.f (wrap64 (Int.tdiv x7 3600))).bind fun t314 => (if (((((((((rdOf ByteArray.empty t303 (Int.tmod (wrap64 ((Int.tmod x8 7) + 7)) 7)) ++ (⟨#[44, 32]⟩ : ByteArray)) ++ t307) ++ (⟨#[32]⟩ : ByteArray)) ++ (rdOf ByteArray.empty t308 (wrap64 (x5 - 1)))) ++ (⟨#[32]⟩ : ByteArray)) ++ t312) ++ t313) ++ (⟨#[32]⟩ : ByteArray)).size + t314.size ≤ 9223372036854775807 then (if ((((((((((rdOf ByteArray.empty t303 (Int.tmod (wrap64 ((Int.tmod x8 7) + 7)) 7)) ++ (⟨#[44, 32]⟩ : ByteArray)) ++ t307) ++ (⟨#[32]⟩ : ByteArray)) ++ (rdOf ByteArray.empty t308 (wrap64 (x5 - 1)))) ++ (⟨#[32]⟩ : ByteArray)) ++ t312) ++ t313) ++ (⟨#[32]⟩ : ByteArray)) ++ t314).size + 1 ≤ 9223372036854775807 then ((sprref14_two.f (Int.tmod (wrap64 (Int.tdiv x7 60)) 60)).bind fun t315 => (if (((((((((((rdOf ByteArray.empty t303 (Int.tmod (wrap64 ((Int.tmod x8 7) + 7)) 7)) ++ (⟨#[44, 32]⟩ : ByteArray)) ++ t307) ++ (⟨#[32]⟩ : ByteArray)) ++ (rdOf ByteArray.empty t308 (wrap64 (x5 - 1)))) ++ (⟨#[32]⟩ : ByteArray)) ++ t312) ++ t313) ++ (⟨#[32]⟩ : ByteArray)) ++ t314) ++ (⟨#[58]⟩ : ByteArray)).size + t315.size ≤ 9223372036854775807 then (if ((((((((((((rdOf ByteArray.empty t303 (Int.tmod (wrap64 ((Int.tmod x8 7) + 7)) 7)) ++ (⟨#[44, 32]⟩ : ByteArray)) ++ t307) ++ (⟨#[32]⟩ : ByteArray)) ++ (rdOf ByteArray.empty t308 (wrap64 (x5 - 1)))) ++ (⟨#[32]⟩ : ByteArray)) ++ t312) ++ t313) ++ (⟨#[32]⟩ : ByteArray)) ++ t314) ++ (⟨#[58]⟩ : ByteArray)) ++ t315).size + 1 ≤ 9223372036854775807 then ((sprref14_two.f (Int.tmod x7 60)).bind fun t316 => (if (((((((((((((rdOf ByteArray.empty t303 (Int.tmod (wrap64 ((Int.tmod x8 7) + 7)) 7)) ++ (⟨#[44, 32]⟩ : ByteArray)) ++ t307) ++ (⟨#[32]⟩ : ByteArray)) ++ (rdOf ByteArray.empty t308 (wrap64 (x5 - 1)))) ++ (⟨#[32]⟩ : ByteArray)) ++ t312) ++ t313) ++ (⟨#[32]⟩ : ByteArray)) ++ t314) ++ (⟨#[58]⟩ : ByteArray)) ++ t315) ++ (⟨#[58]⟩ : ByteArray)).size + t316.size ≤ 9223372036854775807 then (if ((((((((((((((rdOf ByteArray.empty t303 (Int.tmod (wrap64 ((Int.tmod x8 7) + 7)) 7)) ++ (⟨#[44, 32]⟩ : ByteArray)) ++ t307) ++ (⟨#[32]⟩ : ByteArray)) ++ (rdOf ByteArray.empty t308 (wrap64 (x5 - 1)))) ++ (⟨#[32]⟩ : ByteArray)) ++ t312) ++ t313) ++ (⟨#[32]⟩ : ByteArray)) ++ t314) ++ (⟨#[58]⟩ : ByteArray)) ++ t315) ++ (⟨#[58]⟩ : ByteArray)) ++ t316).size + 4 ≤ 9223372036854775807 then (some (((((((((((((((rdOf ByteArray.empty t303 (Int.tmod (wrap64 ((Int.tmod x8 7) + 7)) 7)) ++ (⟨#[44, 32]⟩ : ByteArray)) ++ t307) ++ (⟨#[32]⟩ : ByteArray)) ++ (rdOf ByteArray.empty t308 (wrap64 (x5 - 1)))) ++ (⟨#[32]⟩ : ByteArray)) ++ t312) ++ t313) ++ (⟨#[32]⟩ : ByteArray)) ++ t314) ++ (⟨#[58]⟩ : ByteArray)) ++ t315) ++ (⟨#[58]⟩ : ByteArray)) ++ t316) ++ (⟨#[32, 71, 77, 84]⟩ : ByteArray), 0)) else (none)) else (none))) else (none)) else (none))) else (none)) else (none))) else (none)) else (none))) else (none))) else (none)) else (none)) else (none)) else (none))) else (none)) else (none))) else (none)) else (none)) else (none))
def sprref14_Print.f (k : Nat) (a0 : Int) : Option (ByteArray × Int) := (sprref14_in.f a0).bind fun t298 => (if t298 = true then ((sprref14_split.f k a0).bind fun bt299 => (if (Int.tmod a0 86400) < 0 then (sprref14_Print.j0 k bt299.1 bt299.2.1 bt299.2.2.1 bt299.2.2.2 (wrap64 ((wrap64 (Int.tdiv a0 86400)) - 1))) else (sprref14_Print.j0 k bt299.1 bt299.2.1 bt299.2.2.1 bt299.2.2.2 (wrap64 (Int.tdiv a0 86400))))) else (some ((⟨#[]⟩ : ByteArray), 1)))
theorem sprref14_Print.mono_l : ∀ k, (∀ y0 y1 y2 y3 y4, LeO (sprref14_Print.j0 k y0 y1 y2 y3 y4) (sprref14_Print.j0 (k + 1) y0 y1 y2 y3 y4))
  | 0 => fun _ _ _ _ _ r h => by simp [sprref14_Print.j0] at h
  | k + 1 => by
    have ih0 := sprref14_Print.mono_l k
    · intro y0 y1 y2 y3 y4
      unfold sprref14_Print.j0
      repeat' first
      | (with_reducible exact ih0 _ _ _ _ _)
      | (with_reducible exact sprref14_split.mono _ _)
      | (with_reducible exact LeO.refl _)
      | (with_reducible exact LeO.none _)
      | (with_reducible refine LeO.ite ?_ ?_)
      | (with_reducible refine LeO.bind ?_ (fun _ => ?_))
      | exact ih0 _ _ _ _ _
      | exact sprref14_split.mono _ _
      | exact LeO.none _
      | refine LeO.ite ?_ ?_
      | refine LeO.bind ?_ (fun _ => ?_)
theorem sprref14_Print.mono : ∀ a0 k, LeO (sprref14_Print.f k a0) (sprref14_Print.f (k + 1) a0) := by
  intro a0 k
  have ih0 := sprref14_Print.mono_l k
  unfold sprref14_Print.f
  repeat' first
      | (with_reducible exact ih0 _ _ _ _ _)
      | (with_reducible exact sprref14_split.mono _ _)
      | (with_reducible exact LeO.refl _)
      | (with_reducible exact LeO.none _)
      | (with_reducible refine LeO.ite ?_ ?_)
      | (with_reducible refine LeO.bind ?_ (fun _ => ?_))
      | exact ih0 _ _ _ _ _
      | exact sprref14_split.mono _ _
      | exact LeO.none _
      | refine LeO.ite ?_ ?_
      | refine LeO.bind ?_ (fun _ => ?_)
def sprref14_Print.T7 : Bool × List (List Nat × List Nat) := (true, [([], []), ([], []), ([1], [1]), ([2], [2]), ([3], [3]), ([0, 4], [0, 4]), ([5], [5]), ([6], [6]), ([], []), ([8, 0], [8]), ([7, 9], [7, 9]), ([10], [10]), ([9], []), ([], []), ([13], [13]), ([12, 14], [12, 14]), ([15], [15]), ([11, 16], [11, 16]), ([17], [17]), ([], []), ([19], [19]), ([20, 12], [20]), ([18, 21], [18, 21]), ([], []), ([23, 21], [23]), ([22, 24], [22, 24]), ([25], [25]), ([], []), ([27], [27]), ([28, 24], [28]), ([26, 29], [26, 29]), ([30], [30]), ([], []), ([32], [32]), ([33], [33]), ([34, 29], [34]), ([31, 35], [31, 35]), ([36], [36]), ([], []), ([38], [38]), ([39, 35], [39]), ([37, 40], [37, 40]), ([41], [41]), ([42, 40, 0, 1, 2, 3, 4, 5, 6, 7, 8, 9, 10, 11, 12, 13, 14, 15, 16, 17, 18, 19, 20, 21, 22, 23, 24, 25, 26, 27, 28, 29, 30, 31, 32, 33, 34, 35, 36, 37, 38, 39, 40, 41, 42], [42]), ([43, 0, 1, 2, 3, 4, 5, 6, 7, 8, 9, 10, 11, 12, 13, 14, 15, 16, 17, 18, 19, 20, 21, 22, 23, 24, 25, 26, 27, 28, 29, 30, 31, 32, 33, 34, 35, 36, 37, 38, 39, 40, 41, 42, 43], [])])
def sprref14_Print.B7 : List Nat := [0, 0, 2, 6, 14, 31, 63, 127, 0, 257, 1023, 2047, 769, 0, 8192, 29441, 62209, 131071, 262143, 0, 524288, 1577729, 4194303, 0, 12063489, 33554431, 67108863, 0, 134217728, 431493889, 1073741823, 2147483647, 0, 4294967296, 12884901888, 31033135873, 68719476735, 137438953471, 0, 274877906944, 890026595073, 2199023255551, 4398046511103, 8796093022207, 17592186044415]
theorem sprref14_Print.tab7 : rtab .any (opsOf Tryd.f13 7) = sprref14_Print.T7 := by kernel_rfl
theorem sprref14_Print.bits7 : waitsOk sprref14_Print.T7.2 sprref14_Print.B7 = true := by kernel_rfl
set_option maxHeartbeats 2000000 in
set_option maxRecDepth 100000 in
theorem sprref14_Print.calls (k : Nat) (a0 : Int) (r1 : ByteArray) (r2 : Int) (w : World) (h : sprref14_Print.f k a0 = some (r1, r2)) :
    Calls Tryd.prog 13 #[.int .i64 a0] w fun e w' => e = .returned (.tuple #[.string r1, .int .i64 r2]) ∧ Below w.heap.size w w' := by
  have HB := Aside0.mk (Below.refl w.heap.size w)
  have H : ((sprref14_in.f a0).bind fun t298 => (if t298 = true then ((sprref14_split.f k a0).bind fun bt299 => (if (Int.tmod a0 86400) < 0 then (sprref14_Print.j0 k bt299.1 bt299.2.1 bt299.2.2.1 bt299.2.2.2 (wrap64 ((wrap64 (Int.tdiv a0 86400)) - 1))) else (sprref14_Print.j0 k bt299.1 bt299.2.1 bt299.2.2.1 bt299.2.2.2 (wrap64 (Int.tdiv a0 86400))))) else (some ((⟨#[]⟩ : ByteArray), 1)))) = some (r1, r2) := h
  clear h
  replace H := Option.bind_eq_some_iff.mp H
  obtain ⟨t298, A20, H⟩ := H
  replace H : (if t298 = true then ((sprref14_split.f k a0).bind fun bt299 => (if (Int.tmod a0 86400) < 0 then (sprref14_Print.j0 k bt299.1 bt299.2.1 bt299.2.2.1 bt299.2.2.2 (wrap64 ((wrap64 (Int.tdiv a0 86400)) - 1))) else (sprref14_Print.j0 k bt299.1 bt299.2.1 bt299.2.2.1 bt299.2.2.2 (wrap64 (Int.tdiv a0 86400))))) else (some ((⟨#[]⟩ : ByteArray), 1))) = some (r1, r2) := H
  have A2 := Aside0.mk A20
  clear A20
  by_cases c3 : t298 = true
  · subst c3
    have H1 : ((sprref14_split.f k a0).bind fun bt299 => (if (Int.tmod a0 86400) < 0 then (sprref14_Print.j0 k bt299.1 bt299.2.1 bt299.2.2.1 bt299.2.2.2 (wrap64 ((wrap64 (Int.tdiv a0 86400)) - 1))) else (sprref14_Print.j0 k bt299.1 bt299.2.1 bt299.2.2.1 bt299.2.2.2 (wrap64 (Int.tdiv a0 86400))))) = some (r1, r2) := by rw [if_pos rfl] at H; exact H
    clear H
    have H := H1
    clear H1
    replace H := Option.bind_eq_some_iff.mp H
    obtain ⟨⟨t299, t300, t301, t302⟩, A40, H⟩ := H
    replace H : (if (Int.tmod a0 86400) < 0 then (sprref14_Print.j0 k t299 t300 t301 t302 (wrap64 ((wrap64 (Int.tdiv a0 86400)) - 1))) else (sprref14_Print.j0 k t299 t300 t301 t302 (wrap64 (Int.tdiv a0 86400)))) = some (r1, r2) := H
    have A4 := Aside0.mk A40
    clear A40
    have HC5 := Aside0.mk H
    clear H
    go_enter Tryd.func13, Tryd.ntmps13
    go_upto_if 23 with (first | ((with_reducible refine gate_callee (f := 28) rfl ?_); refine goesL_ (some 10) rfl rfl Tryd.func28 (by kernel_rfl) rfl #[.int .i64 a0] rfl (by (try simp only [List.map_toArray, List.map_cons, List.map_nil]); first | done | rfl | (simp only [List.length_drop, List.length_take]; rfl)) ?_; (with_reducible refine (sprref14_in.calls a0 true _ A2.out).mono ?_); rintro e w' ⟨rfl, ⟨nd, rfl⟩⟩; refine ⟨_, rfl, ?_⟩) | ((with_reducible refine gate_callee (f := 29) rfl ?_); refine goesL_ (some 14) rfl rfl Tryd.func29 (by kernel_rfl) rfl #[.int .i64 a0] rfl (by (try simp only [List.map_toArray, List.map_cons, List.map_nil]); first | done | rfl | (simp only [List.length_drop, List.length_take]; rfl)) ?_; (with_reducible refine (sprref14_split.calls k a0 t299 t300 t301 t302 _ A4.out).mono ?_); rintro e w' ⟨rfl, ⟨nd, rfl⟩⟩; refine ⟨_, rfl, ?_⟩))
    (try simp only [Act.put, List.setIfInBounds_toArray, List.set_cons_zero, List.set_cons_succ])
    go_cut [8] (fun v8 wc => ∃ (kq : Nat) (x8_4 : Int), v8 = .int .i64 x8_4 ∧ Aside0 (sprref14_Print.j0 kq t299 t300 t301 t302 x8_4 = some (r1, r2)) ∧ Aside0 (kq ≤ k) ∧ Aside0 (Below w.heap.size w wc))
    case first =>
      have H := HC5.out
      clear HC5
      by_cases c6 : (Int.tmod a0 86400) < 0
      · rw [if_pos c6] at H
        have c6b0 : decide ((Int.tmod a0 86400) < 0) = true := decide_eq_true c6
        clear c6
        (first | rw [c6b0] | (simp only [i64_w, i32_w]; rw [c6b0]) | skip)
        have H' := Aside0.mk H
        clear H
        go_wp2
        go_meet
        case rel => exact ⟨_, (wrap64 ((wrap64 (Int.tdiv a0 86400)) - 1)), (by first | rfl | (simp; done) | (simp [*]; done)), H', ⟨by first | omega | exact Nat.le_refl _⟩, ⟨by repeat (first | (with_reducible first | exact HB.out | apply below_alloc | apply pw_below_drewN | apply below_drew1) | exact HB.out)⟩⟩
      · rw [if_neg c6] at H
        have c6b0 : decide ((Int.tmod a0 86400) < 0) = false := decide_eq_false c6
        clear c6
        (first | rw [c6b0] | (simp only [i64_w, i32_w]; rw [c6b0]) | skip)
        have H' := Aside0.mk H
        clear H
        go_wp2
        go_meet
        case rel => exact ⟨_, (wrap64 (Int.tdiv a0 86400)), (by first | rfl | (simp; done) | (simp [*]; done)), H', ⟨by first | omega | exact Nat.le_refl _⟩, ⟨by repeat (first | (with_reducible first | exact HB.out | apply below_alloc | apply pw_below_drewN | apply below_drew1) | exact HB.out)⟩⟩
    case rest =>
      clear HC5
      try clear c1
      try clear c2
      try clear p2
      try clear c3
      try clear c6
      try clear c6b0
      try clear p6
      obtain ⟨kq, x8_4, rfl, HA, HJ4, HB⟩ := hcut
      cases kq with
      | zero => exact absurd HA.out (by simp [sprref14_Print.j0])
      | succ kj4 =>
        have H := HA.out
        clear HA
        simp only [sprref14_Print.j0] at H
        replace H := Option.bind_eq_some_iff.mp H
        obtain ⟨t303, A70, H⟩ := H
        replace H : (if 0 ≤ (Int.tmod (wrap64 ((Int.tmod x8_4 7) + 7)) 7) then (if (Int.tmod (wrap64 ((Int.tmod x8_4 7) + 7)) 7) < (t303.length : Int) then (if (rdOf ByteArray.empty t303 (Int.tmod (wrap64 ((Int.tmod x8_4 7) + 7)) 7)).size + 2 ≤ 9223372036854775807 then ((sprref14_two.f t301).bind fun t307 => (if ((rdOf ByteArray.empty t303 (Int.tmod (wrap64 ((Int.tmod x8_4 7) + 7)) 7)) ++ (⟨#[44, 32]⟩ : ByteArray)).size + t307.size ≤ 9223372036854775807 then (if (((rdOf ByteArray.empty t303 (Int.tmod (wrap64 ((Int.tmod x8_4 7) + 7)) 7)) ++ (⟨#[44, 32]⟩ : ByteArray)) ++ t307).size + 1 ≤ 9223372036854775807 then ((sprref14_months.f).bind fun t308 => (if 0 ≤ (wrap64 (t300 - 1)) then (if (wrap64 (t300 - 1)) < (t308.length : Int) then (if ((((rdOf ByteArray.empty t303 (Int.tmod (wrap64 ((Int.tmod x8_4 7) + 7)) 7)) ++ (⟨#[44, 32]⟩ : ByteArray)) ++ t307) ++ (⟨#[32]⟩ : ByteArray)).size + (rdOf ByteArray.empty t308 (wrap64 (t300 - 1))).size ≤ 9223372036854775807 then (if (((((rdOf ByteArray.empty t303 (Int.tmod (wrap64 ((Int.tmod x8_4 7) + 7)) 7)) ++ (⟨#[44, 32]⟩ : ByteArray)) ++ t307) ++ (⟨#[32]⟩ : ByteArray)) ++ (rdOf ByteArray.empty t308 (wrap64 (t300 - 1)))).size + 1 ≤ 9223372036854775807 then ((sprref14_two.f (wrap64 (Int.tdiv t299 100))).bind fun t312 => (if ((((((rdOf ByteArray.empty t303 (Int.tmod (wrap64 ((Int.tmod x8_4 7) + 7)) 7)) ++ (⟨#[44, 32]⟩ : ByteArray)) ++ t307) ++ (⟨#[32]⟩ : ByteArray)) ++ (rdOf ByteArray.empty t308 (wrap64 (t300 - 1)))) ++ (⟨#[32]⟩ : ByteArray)).size + t312.size ≤ 9223372036854775807 then ((sprref14_two.f t299).bind fun t313 => (if (((((((rdOf ByteArray.empty t303 (Int.tmod (wrap64 ((Int.tmod x8_4 7) + 7)) 7)) ++ (⟨#[44, 32]⟩ : ByteArray)) ++ t307) ++ (⟨#[32]⟩ : ByteArray)) ++ (rdOf ByteArray.empty t308 (wrap64 (t300 - 1)))) ++ (⟨#[32]⟩ : ByteArray)) ++ t312).size + t313.size ≤ 9223372036854775807 then (if ((((((((rdOf ByteArray.empty t303 (Int.tmod (wrap64 ((Int.tmod x8_4 7) + 7)) 7)) ++ (⟨#[44, 32]⟩ : ByteArray)) ++ t307) ++ (⟨#[32]⟩ : ByteArray)) ++ (rdOf ByteArray.empty t308 (wrap64 (t300 - 1)))) ++ (⟨#[32]⟩ : ByteArray)) ++ t312) ++ t313).size + 1 ≤ 9223372036854775807 then ((sprref14_two.f (wrap64 (Int.tdiv t302 3600))).bind fun t314 => (if (((((((((rdOf ByteArray.empty t303 (Int.tmod (wrap64 ((Int.tmod x8_4 7) + 7)) 7)) ++ (⟨#[44, 32]⟩ : ByteArray)) ++ t307) ++ (⟨#[32]⟩ : ByteArray)) ++ (rdOf ByteArray.empty t308 (wrap64 (t300 - 1)))) ++ (⟨#[32]⟩ : ByteArray)) ++ t312) ++ t313) ++ (⟨#[32]⟩ : ByteArray)).size + t314.size ≤ 9223372036854775807 then (if ((((((((((rdOf ByteArray.empty t303 (Int.tmod (wrap64 ((Int.tmod x8_4 7) + 7)) 7)) ++ (⟨#[44, 32]⟩ : ByteArray)) ++ t307) ++ (⟨#[32]⟩ : ByteArray)) ++ (rdOf ByteArray.empty t308 (wrap64 (t300 - 1)))) ++ (⟨#[32]⟩ : ByteArray)) ++ t312) ++ t313) ++ (⟨#[32]⟩ : ByteArray)) ++ t314).size + 1 ≤ 9223372036854775807 then ((sprref14_two.f (Int.tmod (wrap64 (Int.tdiv t302 60)) 60)).bind fun t315 => (if (((((((((((rdOf ByteArray.empty t303 (Int.tmod (wrap64 ((Int.tmod x8_4 7) + 7)) 7)) ++ (⟨#[44, 32]⟩ : ByteArray)) ++ t307) ++ (⟨#[32]⟩ : ByteArray)) ++ (rdOf ByteArray.empty t308 (wrap64 (t300 - 1)))) ++ (⟨#[32]⟩ : ByteArray)) ++ t312) ++ t313) ++ (⟨#[32]⟩ : ByteArray)) ++ t314) ++ (⟨#[58]⟩ : ByteArray)).size + t315.size ≤ 9223372036854775807 then (if ((((((((((((rdOf ByteArray.empty t303 (Int.tmod (wrap64 ((Int.tmod x8_4 7) + 7)) 7)) ++ (⟨#[44, 32]⟩ : ByteArray)) ++ t307) ++ (⟨#[32]⟩ : ByteArray)) ++ (rdOf ByteArray.empty t308 (wrap64 (t300 - 1)))) ++ (⟨#[32]⟩ : ByteArray)) ++ t312) ++ t313) ++ (⟨#[32]⟩ : ByteArray)) ++ t314) ++ (⟨#[58]⟩ : ByteArray)) ++ t315).size + 1 ≤ 9223372036854775807 then ((sprref14_two.f (Int.tmod t302 60)).bind fun t316 => (if (((((((((((((rdOf ByteArray.empty t303 (Int.tmod (wrap64 ((Int.tmod x8_4 7) + 7)) 7)) ++ (⟨#[44, 32]⟩ : ByteArray)) ++ t307) ++ (⟨#[32]⟩ : ByteArray)) ++ (rdOf ByteArray.empty t308 (wrap64 (t300 - 1)))) ++ (⟨#[32]⟩ : ByteArray)) ++ t312) ++ t313) ++ (⟨#[32]⟩ : ByteArray)) ++ t314) ++ (⟨#[58]⟩ : ByteArray)) ++ t315) ++ (⟨#[58]⟩ : ByteArray)).size + t316.size ≤ 9223372036854775807 then (if ((((((((((((((rdOf ByteArray.empty t303 (Int.tmod (wrap64 ((Int.tmod x8_4 7) + 7)) 7)) ++ (⟨#[44, 32]⟩ : ByteArray)) ++ t307) ++ (⟨#[32]⟩ : ByteArray)) ++ (rdOf ByteArray.empty t308 (wrap64 (t300 - 1)))) ++ (⟨#[32]⟩ : ByteArray)) ++ t312) ++ t313) ++ (⟨#[32]⟩ : ByteArray)) ++ t314) ++ (⟨#[58]⟩ : ByteArray)) ++ t315) ++ (⟨#[58]⟩ : ByteArray)) ++ t316).size + 4 ≤ 9223372036854775807 then (some (((((((((((((((rdOf ByteArray.empty t303 (Int.tmod (wrap64 ((Int.tmod x8_4 7) + 7)) 7)) ++ (⟨#[44, 32]⟩ : ByteArray)) ++ t307) ++ (⟨#[32]⟩ : ByteArray)) ++ (rdOf ByteArray.empty t308 (wrap64 (t300 - 1)))) ++ (⟨#[32]⟩ : ByteArray)) ++ t312) ++ t313) ++ (⟨#[32]⟩ : ByteArray)) ++ t314) ++ (⟨#[58]⟩ : ByteArray)) ++ t315) ++ (⟨#[58]⟩ : ByteArray)) ++ t316) ++ (⟨#[32, 71, 77, 84]⟩ : ByteArray), 0)) else (none)) else (none))) else (none)) else (none))) else (none)) else (none))) else (none)) else (none))) else (none))) else (none)) else (none)) else (none)) else (none))) else (none)) else (none))) else (none)) else (none)) else (none)) = some (r1, r2) := H
        have A7 := Aside0.mk A70
        clear A70
        obtain ⟨ji8, hji8⟩ : ∃ j_ : Int, (Int.tmod (wrap64 ((Int.tmod x8_4 7) + 7)) 7) = j_ := ⟨_, rfl⟩
        replace H : (if 0 ≤ (ji8) then (if (ji8) < (t303.length : Int) then (if (rdOf ByteArray.empty t303 (ji8)).size + 2 ≤ 9223372036854775807 then ((sprref14_two.f t301).bind fun t307 => (if ((rdOf ByteArray.empty t303 (ji8)) ++ (⟨#[44, 32]⟩ : ByteArray)).size + t307.size ≤ 9223372036854775807 then (if (((rdOf ByteArray.empty t303 (ji8)) ++ (⟨#[44, 32]⟩ : ByteArray)) ++ t307).size + 1 ≤ 9223372036854775807 then ((sprref14_months.f).bind fun t308 => (if 0 ≤ (wrap64 (t300 - 1)) then (if (wrap64 (t300 - 1)) < (t308.length : Int) then (if ((((rdOf ByteArray.empty t303 (ji8)) ++ (⟨#[44, 32]⟩ : ByteArray)) ++ t307) ++ (⟨#[32]⟩ : ByteArray)).size + (rdOf ByteArray.empty t308 (wrap64 (t300 - 1))).size ≤ 9223372036854775807 then (if (((((rdOf ByteArray.empty t303 (ji8)) ++ (⟨#[44, 32]⟩ : ByteArray)) ++ t307) ++ (⟨#[32]⟩ : ByteArray)) ++ (rdOf ByteArray.empty t308 (wrap64 (t300 - 1)))).size + 1 ≤ 9223372036854775807 then ((sprref14_two.f (wrap64 (Int.tdiv t299 100))).bind fun t312 => (if ((((((rdOf ByteArray.empty t303 (ji8)) ++ (⟨#[44, 32]⟩ : ByteArray)) ++ t307) ++ (⟨#[32]⟩ : ByteArray)) ++ (rdOf ByteArray.empty t308 (wrap64 (t300 - 1)))) ++ (⟨#[32]⟩ : ByteArray)).size + t312.size ≤ 9223372036854775807 then ((sprref14_two.f t299).bind fun t313 => (if (((((((rdOf ByteArray.empty t303 (ji8)) ++ (⟨#[44, 32]⟩ : ByteArray)) ++ t307) ++ (⟨#[32]⟩ : ByteArray)) ++ (rdOf ByteArray.empty t308 (wrap64 (t300 - 1)))) ++ (⟨#[32]⟩ : ByteArray)) ++ t312).size + t313.size ≤ 9223372036854775807 then (if ((((((((rdOf ByteArray.empty t303 (ji8)) ++ (⟨#[44, 32]⟩ : ByteArray)) ++ t307) ++ (⟨#[32]⟩ : ByteArray)) ++ (rdOf ByteArray.empty t308 (wrap64 (t300 - 1)))) ++ (⟨#[32]⟩ : ByteArray)) ++ t312) ++ t313).size + 1 ≤ 9223372036854775807 then ((sprref14_two.f (wrap64 (Int.tdiv t302 3600))).bind fun t314 => (if (((((((((rdOf ByteArray.empty t303 (ji8)) ++ (⟨#[44, 32]⟩ : ByteArray)) ++ t307) ++ (⟨#[32]⟩ : ByteArray)) ++ (rdOf ByteArray.empty t308 (wrap64 (t300 - 1)))) ++ (⟨#[32]⟩ : ByteArray)) ++ t312) ++ t313) ++ (⟨#[32]⟩ : ByteArray)).size + t314.size ≤ 9223372036854775807 then (if ((((((((((rdOf ByteArray.empty t303 (ji8)) ++ (⟨#[44, 32]⟩ : ByteArray)) ++ t307) ++ (⟨#[32]⟩ : ByteArray)) ++ (rdOf ByteArray.empty t308 (wrap64 (t300 - 1)))) ++ (⟨#[32]⟩ : ByteArray)) ++ t312) ++ t313) ++ (⟨#[32]⟩ : ByteArray)) ++ t314).size + 1 ≤ 9223372036854775807 then ((sprref14_two.f (Int.tmod (wrap64 (Int.tdiv t302 60)) 60)).bind fun t315 => (if (((((((((((rdOf ByteArray.empty t303 (ji8)) ++ (⟨#[44, 32]⟩ : ByteArray)) ++ t307) ++ (⟨#[32]⟩ : ByteArray)) ++ (rdOf ByteArray.empty t308 (wrap64 (t300 - 1)))) ++ (⟨#[32]⟩ : ByteArray)) ++ t312) ++ t313) ++ (⟨#[32]⟩ : ByteArray)) ++ t314) ++ (⟨#[58]⟩ : ByteArray)).size + t315.size ≤ 9223372036854775807 then (if ((((((((((((rdOf ByteArray.empty t303 (ji8)) ++ (⟨#[44, 32]⟩ : ByteArray)) ++ t307) ++ (⟨#[32]⟩ : ByteArray)) ++ (rdOf ByteArray.empty t308 (wrap64 (t300 - 1)))) ++ (⟨#[32]⟩ : ByteArray)) ++ t312) ++ t313) ++ (⟨#[32]⟩ : ByteArray)) ++ t314) ++ (⟨#[58]⟩ : ByteArray)) ++ t315).size + 1 ≤ 9223372036854775807 then ((sprref14_two.f (Int.tmod t302 60)).bind fun t316 => (if (((((((((((((rdOf ByteArray.empty t303 (ji8)) ++ (⟨#[44, 32]⟩ : ByteArray)) ++ t307) ++ (⟨#[32]⟩ : ByteArray)) ++ (rdOf ByteArray.empty t308 (wrap64 (t300 - 1)))) ++ (⟨#[32]⟩ : ByteArray)) ++ t312) ++ t313) ++ (⟨#[32]⟩ : ByteArray)) ++ t314) ++ (⟨#[58]⟩ : ByteArray)) ++ t315) ++ (⟨#[58]⟩ : ByteArray)).size + t316.size ≤ 9223372036854775807 then (if ((((((((((((((rdOf ByteArray.empty t303 (ji8)) ++ (⟨#[44, 32]⟩ : ByteArray)) ++ t307) ++ (⟨#[32]⟩ : ByteArray)) ++ (rdOf ByteArray.empty t308 (wrap64 (t300 - 1)))) ++ (⟨#[32]⟩ : ByteArray)) ++ t312) ++ t313) ++ (⟨#[32]⟩ : ByteArray)) ++ t314) ++ (⟨#[58]⟩ : ByteArray)) ++ t315) ++ (⟨#[58]⟩ : ByteArray)) ++ t316).size + 4 ≤ 9223372036854775807 then (some (((((((((((((((rdOf ByteArray.empty t303 (ji8)) ++ (⟨#[44, 32]⟩ : ByteArray)) ++ t307) ++ (⟨#[32]⟩ : ByteArray)) ++ (rdOf ByteArray.empty t308 (wrap64 (t300 - 1)))) ++ (⟨#[32]⟩ : ByteArray)) ++ t312) ++ t313) ++ (⟨#[32]⟩ : ByteArray)) ++ t314) ++ (⟨#[58]⟩ : ByteArray)) ++ t315) ++ (⟨#[58]⟩ : ByteArray)) ++ t316) ++ (⟨#[32, 71, 77, 84]⟩ : ByteArray), 0)) else (none)) else (none))) else (none)) else (none))) else (none)) else (none))) else (none)) else (none))) else (none))) else (none)) else (none)) else (none)) else (none))) else (none)) else (none))) else (none)) else (none)) else (none)) = some (r1, r2) := by first | (rw [hji8] at H; exact H) | (simp only [hji8] at H ⊢; exact H)
        (try rw [hji8] at A7)
        by_cases c9 : 0 ≤ (ji8)
        · rw [if_pos c9] at H
          have c9b0 : decide (0 ≤ (ji8)) = true := decide_eq_true c9
          clear c9
          by_cases c10 : (ji8) < (t303.length : Int)
          · rw [if_pos c10] at H
            have c10b0 : decide ((ji8) < (t303.length : Int)) = true := decide_eq_true c10
            clear c10
            by_cases c11 : (rdOf ByteArray.empty t303 (ji8)).size + 2 ≤ 9223372036854775807
            · rw [if_pos c11] at H
              have c11b0 := eq_true c11
              have c11b1 : decide ((rdOf ByteArray.empty t303 (ji8)).size + 2 ≤ 9223372036854775807) = true := decide_eq_true c11
              try have c11b2 : (9223372036854775807 < (rdOf ByteArray.empty t303 (ji8)).size + 2) = False := eq_false (Nat.not_lt.2 c11)
              replace H := Option.bind_eq_some_iff.mp H
              obtain ⟨t307, A120, H⟩ := H
              replace H : (if ((rdOf ByteArray.empty t303 (ji8)) ++ (⟨#[44, 32]⟩ : ByteArray)).size + t307.size ≤ 9223372036854775807 then (if (((rdOf ByteArray.empty t303 (ji8)) ++ (⟨#[44, 32]⟩ : ByteArray)) ++ t307).size + 1 ≤ 9223372036854775807 then ((sprref14_months.f).bind fun t308 => (if 0 ≤ (wrap64 (t300 - 1)) then (if (wrap64 (t300 - 1)) < (t308.length : Int) then (if ((((rdOf ByteArray.empty t303 (ji8)) ++ (⟨#[44, 32]⟩ : ByteArray)) ++ t307) ++ (⟨#[32]⟩ : ByteArray)).size + (rdOf ByteArray.empty t308 (wrap64 (t300 - 1))).size ≤ 9223372036854775807 then (if (((((rdOf ByteArray.empty t303 (ji8)) ++ (⟨#[44, 32]⟩ : ByteArray)) ++ t307) ++ (⟨#[32]⟩ : ByteArray)) ++ (rdOf ByteArray.empty t308 (wrap64 (t300 - 1)))).size + 1 ≤ 9223372036854775807 then ((sprref14_two.f (wrap64 (Int.tdiv t299 100))).bind fun t312 => (if ((((((rdOf ByteArray.empty t303 (ji8)) ++ (⟨#[44, 32]⟩ : ByteArray)) ++ t307) ++ (⟨#[32]⟩ : ByteArray)) ++ (rdOf ByteArray.empty t308 (wrap64 (t300 - 1)))) ++ (⟨#[32]⟩ : ByteArray)).size + t312.size ≤ 9223372036854775807 then ((sprref14_two.f t299).bind fun t313 => (if (((((((rdOf ByteArray.empty t303 (ji8)) ++ (⟨#[44, 32]⟩ : ByteArray)) ++ t307) ++ (⟨#[32]⟩ : ByteArray)) ++ (rdOf ByteArray.empty t308 (wrap64 (t300 - 1)))) ++ (⟨#[32]⟩ : ByteArray)) ++ t312).size + t313.size ≤ 9223372036854775807 then (if ((((((((rdOf ByteArray.empty t303 (ji8)) ++ (⟨#[44, 32]⟩ : ByteArray)) ++ t307) ++ (⟨#[32]⟩ : ByteArray)) ++ (rdOf ByteArray.empty t308 (wrap64 (t300 - 1)))) ++ (⟨#[32]⟩ : ByteArray)) ++ t312) ++ t313).size + 1 ≤ 9223372036854775807 then ((sprref14_two.f (wrap64 (Int.tdiv t302 3600))).bind fun t314 => (if (((((((((rdOf ByteArray.empty t303 (ji8)) ++ (⟨#[44, 32]⟩ : ByteArray)) ++ t307) ++ (⟨#[32]⟩ : ByteArray)) ++ (rdOf ByteArray.empty t308 (wrap64 (t300 - 1)))) ++ (⟨#[32]⟩ : ByteArray)) ++ t312) ++ t313) ++ (⟨#[32]⟩ : ByteArray)).size + t314.size ≤ 9223372036854775807 then (if ((((((((((rdOf ByteArray.empty t303 (ji8)) ++ (⟨#[44, 32]⟩ : ByteArray)) ++ t307) ++ (⟨#[32]⟩ : ByteArray)) ++ (rdOf ByteArray.empty t308 (wrap64 (t300 - 1)))) ++ (⟨#[32]⟩ : ByteArray)) ++ t312) ++ t313) ++ (⟨#[32]⟩ : ByteArray)) ++ t314).size + 1 ≤ 9223372036854775807 then ((sprref14_two.f (Int.tmod (wrap64 (Int.tdiv t302 60)) 60)).bind fun t315 => (if (((((((((((rdOf ByteArray.empty t303 (ji8)) ++ (⟨#[44, 32]⟩ : ByteArray)) ++ t307) ++ (⟨#[32]⟩ : ByteArray)) ++ (rdOf ByteArray.empty t308 (wrap64 (t300 - 1)))) ++ (⟨#[32]⟩ : ByteArray)) ++ t312) ++ t313) ++ (⟨#[32]⟩ : ByteArray)) ++ t314) ++ (⟨#[58]⟩ : ByteArray)).size + t315.size ≤ 9223372036854775807 then (if ((((((((((((rdOf ByteArray.empty t303 (ji8)) ++ (⟨#[44, 32]⟩ : ByteArray)) ++ t307) ++ (⟨#[32]⟩ : ByteArray)) ++ (rdOf ByteArray.empty t308 (wrap64 (t300 - 1)))) ++ (⟨#[32]⟩ : ByteArray)) ++ t312) ++ t313) ++ (⟨#[32]⟩ : ByteArray)) ++ t314) ++ (⟨#[58]⟩ : ByteArray)) ++ t315).size + 1 ≤ 9223372036854775807 then ((sprref14_two.f (Int.tmod t302 60)).bind fun t316 => (if (((((((((((((rdOf ByteArray.empty t303 (ji8)) ++ (⟨#[44, 32]⟩ : ByteArray)) ++ t307) ++ (⟨#[32]⟩ : ByteArray)) ++ (rdOf ByteArray.empty t308 (wrap64 (t300 - 1)))) ++ (⟨#[32]⟩ : ByteArray)) ++ t312) ++ t313) ++ (⟨#[32]⟩ : ByteArray)) ++ t314) ++ (⟨#[58]⟩ : ByteArray)) ++ t315) ++ (⟨#[58]⟩ : ByteArray)).size + t316.size ≤ 9223372036854775807 then (if ((((((((((((((rdOf ByteArray.empty t303 (ji8)) ++ (⟨#[44, 32]⟩ : ByteArray)) ++ t307) ++ (⟨#[32]⟩ : ByteArray)) ++ (rdOf ByteArray.empty t308 (wrap64 (t300 - 1)))) ++ (⟨#[32]⟩ : ByteArray)) ++ t312) ++ t313) ++ (⟨#[32]⟩ : ByteArray)) ++ t314) ++ (⟨#[58]⟩ : ByteArray)) ++ t315) ++ (⟨#[58]⟩ : ByteArray)) ++ t316).size + 4 ≤ 9223372036854775807 then (some (((((((((((((((rdOf ByteArray.empty t303 (ji8)) ++ (⟨#[44, 32]⟩ : ByteArray)) ++ t307) ++ (⟨#[32]⟩ : ByteArray)) ++ (rdOf ByteArray.empty t308 (wrap64 (t300 - 1)))) ++ (⟨#[32]⟩ : ByteArray)) ++ t312) ++ t313) ++ (⟨#[32]⟩ : ByteArray)) ++ t314) ++ (⟨#[58]⟩ : ByteArray)) ++ t315) ++ (⟨#[58]⟩ : ByteArray)) ++ t316) ++ (⟨#[32, 71, 77, 84]⟩ : ByteArray), 0)) else (none)) else (none))) else (none)) else (none))) else (none)) else (none))) else (none)) else (none))) else (none))) else (none)) else (none)) else (none)) else (none))) else (none)) else (none)) = some (r1, r2) := H
              have A12 := Aside0.mk A120
              clear A120
              by_cases c13 : ((rdOf ByteArray.empty t303 (ji8)) ++ (⟨#[44, 32]⟩ : ByteArray)).size + t307.size ≤ 9223372036854775807
              · rw [if_pos c13] at H
                have c13b0 := eq_true c13
                have c13b1 : decide (((rdOf ByteArray.empty t303 (ji8)) ++ (⟨#[44, 32]⟩ : ByteArray)).size + t307.size ≤ 9223372036854775807) = true := decide_eq_true c13
                try have c13b2 : (9223372036854775807 < ((rdOf ByteArray.empty t303 (ji8)) ++ (⟨#[44, 32]⟩ : ByteArray)).size + t307.size) = False := eq_false (Nat.not_lt.2 c13)
                (try (have c13y : (9223372036854775807 < (rdOf ByteArray.empty t303 (ji8)).size + 2 + t307.size) = False := eq_false (by have zz := c13; simp only [ByteArray.size_append, ByteArray.size_extract, Nat.sub_zero] at zz; have e0 : (⟨#[44, 32]⟩ : ByteArray).size = 2 := rfl; omega)))
                (try (have c13s := c13; simp [go_sem] at c13s)); (try (have c13z := eq_false (Nat.not_lt.2 c13s)))
                by_cases c14 : (((rdOf ByteArray.empty t303 (ji8)) ++ (⟨#[44, 32]⟩ : ByteArray)) ++ t307).size + 1 ≤ 9223372036854775807
                · rw [if_pos c14] at H
                  have c14b0 := eq_true c14
                  have c14b1 : decide ((((rdOf ByteArray.empty t303 (ji8)) ++ (⟨#[44, 32]⟩ : ByteArray)) ++ t307).size + 1 ≤ 9223372036854775807) = true := decide_eq_true c14
                  try have c14b2 : (9223372036854775807 < (((rdOf ByteArray.empty t303 (ji8)) ++ (⟨#[44, 32]⟩ : ByteArray)) ++ t307).size + 1) = False := eq_false (Nat.not_lt.2 c14)
                  (try (have c14y : (9223372036854775807 < (rdOf ByteArray.empty t303 (ji8)).size + 2 + t307.size + 1) = False := eq_false (by have zz := c14; simp only [ByteArray.size_append, ByteArray.size_extract, Nat.sub_zero] at zz; have e0 : (⟨#[44, 32]⟩ : ByteArray).size = 2 := rfl; omega)))
                  (try (have c14s := c14; simp [go_sem] at c14s)); (try (have c14z := eq_false (Nat.not_lt.2 c14s)))
                  replace H := Option.bind_eq_some_iff.mp H
                  obtain ⟨t308, A150, H⟩ := H
                  replace H : (if 0 ≤ (wrap64 (t300 - 1)) then (if (wrap64 (t300 - 1)) < (t308.length : Int) then (if ((((rdOf ByteArray.empty t303 (ji8)) ++ (⟨#[44, 32]⟩ : ByteArray)) ++ t307) ++ (⟨#[32]⟩ : ByteArray)).size + (rdOf ByteArray.empty t308 (wrap64 (t300 - 1))).size ≤ 9223372036854775807 then (if (((((rdOf ByteArray.empty t303 (ji8)) ++ (⟨#[44, 32]⟩ : ByteArray)) ++ t307) ++ (⟨#[32]⟩ : ByteArray)) ++ (rdOf ByteArray.empty t308 (wrap64 (t300 - 1)))).size + 1 ≤ 9223372036854775807 then ((sprref14_two.f (wrap64 (Int.tdiv t299 100))).bind fun t312 => (if ((((((rdOf ByteArray.empty t303 (ji8)) ++ (⟨#[44, 32]⟩ : ByteArray)) ++ t307) ++ (⟨#[32]⟩ : ByteArray)) ++ (rdOf ByteArray.empty t308 (wrap64 (t300 - 1)))) ++ (⟨#[32]⟩ : ByteArray)).size + t312.size ≤ 9223372036854775807 then ((sprref14_two.f t299).bind fun t313 => (if (((((((rdOf ByteArray.empty t303 (ji8)) ++ (⟨#[44, 32]⟩ : ByteArray)) ++ t307) ++ (⟨#[32]⟩ : ByteArray)) ++ (rdOf ByteArray.empty t308 (wrap64 (t300 - 1)))) ++ (⟨#[32]⟩ : ByteArray)) ++ t312).size + t313.size ≤ 9223372036854775807 then (if ((((((((rdOf ByteArray.empty t303 (ji8)) ++ (⟨#[44, 32]⟩ : ByteArray)) ++ t307) ++ (⟨#[32]⟩ : ByteArray)) ++ (rdOf ByteArray.empty t308 (wrap64 (t300 - 1)))) ++ (⟨#[32]⟩ : ByteArray)) ++ t312) ++ t313).size + 1 ≤ 9223372036854775807 then ((sprref14_two.f (wrap64 (Int.tdiv t302 3600))).bind fun t314 => (if (((((((((rdOf ByteArray.empty t303 (ji8)) ++ (⟨#[44, 32]⟩ : ByteArray)) ++ t307) ++ (⟨#[32]⟩ : ByteArray)) ++ (rdOf ByteArray.empty t308 (wrap64 (t300 - 1)))) ++ (⟨#[32]⟩ : ByteArray)) ++ t312) ++ t313) ++ (⟨#[32]⟩ : ByteArray)).size + t314.size ≤ 9223372036854775807 then (if ((((((((((rdOf ByteArray.empty t303 (ji8)) ++ (⟨#[44, 32]⟩ : ByteArray)) ++ t307) ++ (⟨#[32]⟩ : ByteArray)) ++ (rdOf ByteArray.empty t308 (wrap64 (t300 - 1)))) ++ (⟨#[32]⟩ : ByteArray)) ++ t312) ++ t313) ++ (⟨#[32]⟩ : ByteArray)) ++ t314).size + 1 ≤ 9223372036854775807 then ((sprref14_two.f (Int.tmod (wrap64 (Int.tdiv t302 60)) 60)).bind fun t315 => (if (((((((((((rdOf ByteArray.empty t303 (ji8)) ++ (⟨#[44, 32]⟩ : ByteArray)) ++ t307) ++ (⟨#[32]⟩ : ByteArray)) ++ (rdOf ByteArray.empty t308 (wrap64 (t300 - 1)))) ++ (⟨#[32]⟩ : ByteArray)) ++ t312) ++ t313) ++ (⟨#[32]⟩ : ByteArray)) ++ t314) ++ (⟨#[58]⟩ : ByteArray)).size + t315.size ≤ 9223372036854775807 then (if ((((((((((((rdOf ByteArray.empty t303 (ji8)) ++ (⟨#[44, 32]⟩ : ByteArray)) ++ t307) ++ (⟨#[32]⟩ : ByteArray)) ++ (rdOf ByteArray.empty t308 (wrap64 (t300 - 1)))) ++ (⟨#[32]⟩ : ByteArray)) ++ t312) ++ t313) ++ (⟨#[32]⟩ : ByteArray)) ++ t314) ++ (⟨#[58]⟩ : ByteArray)) ++ t315).size + 1 ≤ 9223372036854775807 then ((sprref14_two.f (Int.tmod t302 60)).bind fun t316 => (if (((((((((((((rdOf ByteArray.empty t303 (ji8)) ++ (⟨#[44, 32]⟩ : ByteArray)) ++ t307) ++ (⟨#[32]⟩ : ByteArray)) ++ (rdOf ByteArray.empty t308 (wrap64 (t300 - 1)))) ++ (⟨#[32]⟩ : ByteArray)) ++ t312) ++ t313) ++ (⟨#[32]⟩ : ByteArray)) ++ t314) ++ (⟨#[58]⟩ : ByteArray)) ++ t315) ++ (⟨#[58]⟩ : ByteArray)).size + t316.size ≤ 9223372036854775807 then (if ((((((((((((((rdOf ByteArray.empty t303 (ji8)) ++ (⟨#[44, 32]⟩ : ByteArray)) ++ t307) ++ (⟨#[32]⟩ : ByteArray)) ++ (rdOf ByteArray.empty t308 (wrap64 (t300 - 1)))) ++ (⟨#[32]⟩ : ByteArray)) ++ t312) ++ t313) ++ (⟨#[32]⟩ : ByteArray)) ++ t314) ++ (⟨#[58]⟩ : ByteArray)) ++ t315) ++ (⟨#[58]⟩ : ByteArray)) ++ t316).size + 4 ≤ 9223372036854775807 then (some (((((((((((((((rdOf ByteArray.empty t303 (ji8)) ++ (⟨#[44, 32]⟩ : ByteArray)) ++ t307) ++ (⟨#[32]⟩ : ByteArray)) ++ (rdOf ByteArray.empty t308 (wrap64 (t300 - 1)))) ++ (⟨#[32]⟩ : ByteArray)) ++ t312) ++ t313) ++ (⟨#[32]⟩ : ByteArray)) ++ t314) ++ (⟨#[58]⟩ : ByteArray)) ++ t315) ++ (⟨#[58]⟩ : ByteArray)) ++ t316) ++ (⟨#[32, 71, 77, 84]⟩ : ByteArray), 0)) else (none)) else (none))) else (none)) else (none))) else (none)) else (none))) else (none)) else (none))) else (none))) else (none)) else (none)) else (none)) else (none)) = some (r1, r2) := H
                  have A15 := Aside0.mk A150
                  clear A150
                  obtain ⟨ji16, hji16⟩ : ∃ j_ : Int, (wrap64 (t300 - 1)) = j_ := ⟨_, rfl⟩
                  replace H : (if 0 ≤ (ji16) then (if (ji16) < (t308.length : Int) then (if ((((rdOf ByteArray.empty t303 (ji8)) ++ (⟨#[44, 32]⟩ : ByteArray)) ++ t307) ++ (⟨#[32]⟩ : ByteArray)).size + (rdOf ByteArray.empty t308 (ji16)).size ≤ 9223372036854775807 then (if (((((rdOf ByteArray.empty t303 (ji8)) ++ (⟨#[44, 32]⟩ : ByteArray)) ++ t307) ++ (⟨#[32]⟩ : ByteArray)) ++ (rdOf ByteArray.empty t308 (ji16))).size + 1 ≤ 9223372036854775807 then ((sprref14_two.f (wrap64 (Int.tdiv t299 100))).bind fun t312 => (if ((((((rdOf ByteArray.empty t303 (ji8)) ++ (⟨#[44, 32]⟩ : ByteArray)) ++ t307) ++ (⟨#[32]⟩ : ByteArray)) ++ (rdOf ByteArray.empty t308 (ji16))) ++ (⟨#[32]⟩ : ByteArray)).size + t312.size ≤ 9223372036854775807 then ((sprref14_two.f t299).bind fun t313 => (if (((((((rdOf ByteArray.empty t303 (ji8)) ++ (⟨#[44, 32]⟩ : ByteArray)) ++ t307) ++ (⟨#[32]⟩ : ByteArray)) ++ (rdOf ByteArray.empty t308 (ji16))) ++ (⟨#[32]⟩ : ByteArray)) ++ t312).size + t313.size ≤ 9223372036854775807 then (if ((((((((rdOf ByteArray.empty t303 (ji8)) ++ (⟨#[44, 32]⟩ : ByteArray)) ++ t307) ++ (⟨#[32]⟩ : ByteArray)) ++ (rdOf ByteArray.empty t308 (ji16))) ++ (⟨#[32]⟩ : ByteArray)) ++ t312) ++ t313).size + 1 ≤ 9223372036854775807 then ((sprref14_two.f (wrap64 (Int.tdiv t302 3600))).bind fun t314 => (if (((((((((rdOf ByteArray.empty t303 (ji8)) ++ (⟨#[44, 32]⟩ : ByteArray)) ++ t307) ++ (⟨#[32]⟩ : ByteArray)) ++ (rdOf ByteArray.empty t308 (ji16))) ++ (⟨#[32]⟩ : ByteArray)) ++ t312) ++ t313) ++ (⟨#[32]⟩ : ByteArray)).size + t314.size ≤ 9223372036854775807 then (if ((((((((((rdOf ByteArray.empty t303 (ji8)) ++ (⟨#[44, 32]⟩ : ByteArray)) ++ t307) ++ (⟨#[32]⟩ : ByteArray)) ++ (rdOf ByteArray.empty t308 (ji16))) ++ (⟨#[32]⟩ : ByteArray)) ++ t312) ++ t313) ++ (⟨#[32]⟩ : ByteArray)) ++ t314).size + 1 ≤ 9223372036854775807 then ((sprref14_two.f (Int.tmod (wrap64 (Int.tdiv t302 60)) 60)).bind fun t315 => (if (((((((((((rdOf ByteArray.empty t303 (ji8)) ++ (⟨#[44, 32]⟩ : ByteArray)) ++ t307) ++ (⟨#[32]⟩ : ByteArray)) ++ (rdOf ByteArray.empty t308 (ji16))) ++ (⟨#[32]⟩ : ByteArray)) ++ t312) ++ t313) ++ (⟨#[32]⟩ : ByteArray)) ++ t314) ++ (⟨#[58]⟩ : ByteArray)).size + t315.size ≤ 9223372036854775807 then (if ((((((((((((rdOf ByteArray.empty t303 (ji8)) ++ (⟨#[44, 32]⟩ : ByteArray)) ++ t307) ++ (⟨#[32]⟩ : ByteArray)) ++ (rdOf ByteArray.empty t308 (ji16))) ++ (⟨#[32]⟩ : ByteArray)) ++ t312) ++ t313) ++ (⟨#[32]⟩ : ByteArray)) ++ t314) ++ (⟨#[58]⟩ : ByteArray)) ++ t315).size + 1 ≤ 9223372036854775807 then ((sprref14_two.f (Int.tmod t302 60)).bind fun t316 => (if (((((((((((((rdOf ByteArray.empty t303 (ji8)) ++ (⟨#[44, 32]⟩ : ByteArray)) ++ t307) ++ (⟨#[32]⟩ : ByteArray)) ++ (rdOf ByteArray.empty t308 (ji16))) ++ (⟨#[32]⟩ : ByteArray)) ++ t312) ++ t313) ++ (⟨#[32]⟩ : ByteArray)) ++ t314) ++ (⟨#[58]⟩ : ByteArray)) ++ t315) ++ (⟨#[58]⟩ : ByteArray)).size + t316.size ≤ 9223372036854775807 then (if ((((((((((((((rdOf ByteArray.empty t303 (ji8)) ++ (⟨#[44, 32]⟩ : ByteArray)) ++ t307) ++ (⟨#[32]⟩ : ByteArray)) ++ (rdOf ByteArray.empty t308 (ji16))) ++ (⟨#[32]⟩ : ByteArray)) ++ t312) ++ t313) ++ (⟨#[32]⟩ : ByteArray)) ++ t314) ++ (⟨#[58]⟩ : ByteArray)) ++ t315) ++ (⟨#[58]⟩ : ByteArray)) ++ t316).size + 4 ≤ 9223372036854775807 then (some (((((((((((((((rdOf ByteArray.empty t303 (ji8)) ++ (⟨#[44, 32]⟩ : ByteArray)) ++ t307) ++ (⟨#[32]⟩ : ByteArray)) ++ (rdOf ByteArray.empty t308 (ji16))) ++ (⟨#[32]⟩ : ByteArray)) ++ t312) ++ t313) ++ (⟨#[32]⟩ : ByteArray)) ++ t314) ++ (⟨#[58]⟩ : ByteArray)) ++ t315) ++ (⟨#[58]⟩ : ByteArray)) ++ t316) ++ (⟨#[32, 71, 77, 84]⟩ : ByteArray), 0)) else (none)) else (none))) else (none)) else (none))) else (none)) else (none))) else (none)) else (none))) else (none))) else (none)) else (none)) else (none)) else (none)) = some (r1, r2) := by first | (rw [hji16] at H; exact H) | (simp only [hji16] at H ⊢; exact H)
                  (try rw [hji16] at A7)
                  (try rw [hji16] at A12)
                  (try rw [hji16] at A15)
                  have hji16w : (IntKind.i64.wrap (t300 - 1)) = ji16 := (i64_w _).trans hji16
                  by_cases c17 : 0 ≤ (ji16)
                  · rw [if_pos c17] at H
                    have c17b0 : decide (0 ≤ (ji16)) = true := decide_eq_true c17
                    clear c17
                    by_cases c18 : (ji16) < (t308.length : Int)
                    · rw [if_pos c18] at H
                      have c18b0 : decide ((ji16) < (t308.length : Int)) = true := decide_eq_true c18
                      clear c18
                      by_cases c19 : ((((rdOf ByteArray.empty t303 (ji8)) ++ (⟨#[44, 32]⟩ : ByteArray)) ++ t307) ++ (⟨#[32]⟩ : ByteArray)).size + (rdOf ByteArray.empty t308 (ji16)).size ≤ 9223372036854775807
                      · rw [if_pos c19] at H
                        have c19b0 := eq_true c19
                        have c19b1 : decide (((((rdOf ByteArray.empty t303 (ji8)) ++ (⟨#[44, 32]⟩ : ByteArray)) ++ t307) ++ (⟨#[32]⟩ : ByteArray)).size + (rdOf ByteArray.empty t308 (ji16)).size ≤ 9223372036854775807) = true := decide_eq_true c19
                        try have c19b2 : (9223372036854775807 < ((((rdOf ByteArray.empty t303 (ji8)) ++ (⟨#[44, 32]⟩ : ByteArray)) ++ t307) ++ (⟨#[32]⟩ : ByteArray)).size + (rdOf ByteArray.empty t308 (ji16)).size) = False := eq_false (Nat.not_lt.2 c19)
                        (try (have c19y : (9223372036854775807 < (rdOf ByteArray.empty t303 (ji8)).size + 2 + t307.size + 1 + (rdOf ByteArray.empty t308 (ji16)).size) = False := eq_false (by have zz := c19; simp only [ByteArray.size_append, ByteArray.size_extract, Nat.sub_zero] at zz; have e0 : (⟨#[44, 32]⟩ : ByteArray).size = 2 := rfl; have e1 : (⟨#[32]⟩ : ByteArray).size = 1 := rfl; omega)))
                        (try (have c19s := c19; simp [go_sem] at c19s)); (try (have c19z := eq_false (Nat.not_lt.2 c19s)))
                        by_cases c20 : (((((rdOf ByteArray.empty t303 (ji8)) ++ (⟨#[44, 32]⟩ : ByteArray)) ++ t307) ++ (⟨#[32]⟩ : ByteArray)) ++ (rdOf ByteArray.empty t308 (ji16))).size + 1 ≤ 9223372036854775807
                        · rw [if_pos c20] at H
                          have c20b0 := eq_true c20
                          have c20b1 : decide ((((((rdOf ByteArray.empty t303 (ji8)) ++ (⟨#[44, 32]⟩ : ByteArray)) ++ t307) ++ (⟨#[32]⟩ : ByteArray)) ++ (rdOf ByteArray.empty t308 (ji16))).size + 1 ≤ 9223372036854775807) = true := decide_eq_true c20
                          try have c20b2 : (9223372036854775807 < (((((rdOf ByteArray.empty t303 (ji8)) ++ (⟨#[44, 32]⟩ : ByteArray)) ++ t307) ++ (⟨#[32]⟩ : ByteArray)) ++ (rdOf ByteArray.empty t308 (ji16))).size + 1) = False := eq_false (Nat.not_lt.2 c20)
                          (try (have c20y : (9223372036854775807 < (rdOf ByteArray.empty t303 (ji8)).size + 2 + t307.size + 1 + (rdOf ByteArray.empty t308 (ji16)).size + 1) = False := eq_false (by have zz := c20; simp only [ByteArray.size_append, ByteArray.size_extract, Nat.sub_zero] at zz; have e0 : (⟨#[44, 32]⟩ : ByteArray).size = 2 := rfl; have e1 : (⟨#[32]⟩ : ByteArray).size = 1 := rfl; omega)))
                          (try (have c20s := c20; simp [go_sem] at c20s)); (try (have c20z := eq_false (Nat.not_lt.2 c20s)))
                          replace H := Option.bind_eq_some_iff.mp H
                          obtain ⟨t312, A210, H⟩ := H
                          replace H : (if ((((((rdOf ByteArray.empty t303 (ji8)) ++ (⟨#[44, 32]⟩ : ByteArray)) ++ t307) ++ (⟨#[32]⟩ : ByteArray)) ++ (rdOf ByteArray.empty t308 (ji16))) ++ (⟨#[32]⟩ : ByteArray)).size + t312.size ≤ 9223372036854775807 then ((sprref14_two.f t299).bind fun t313 => (if (((((((rdOf ByteArray.empty t303 (ji8)) ++ (⟨#[44, 32]⟩ : ByteArray)) ++ t307) ++ (⟨#[32]⟩ : ByteArray)) ++ (rdOf ByteArray.empty t308 (ji16))) ++ (⟨#[32]⟩ : ByteArray)) ++ t312).size + t313.size ≤ 9223372036854775807 then (if ((((((((rdOf ByteArray.empty t303 (ji8)) ++ (⟨#[44, 32]⟩ : ByteArray)) ++ t307) ++ (⟨#[32]⟩ : ByteArray)) ++ (rdOf ByteArray.empty t308 (ji16))) ++ (⟨#[32]⟩ : ByteArray)) ++ t312) ++ t313).size + 1 ≤ 9223372036854775807 then ((sprref14_two.f (wrap64 (Int.tdiv t302 3600))).bind fun t314 => (if (((((((((rdOf ByteArray.empty t303 (ji8)) ++ (⟨#[44, 32]⟩ : ByteArray)) ++ t307) ++ (⟨#[32]⟩ : ByteArray)) ++ (rdOf ByteArray.empty t308 (ji16))) ++ (⟨#[32]⟩ : ByteArray)) ++ t312) ++ t313) ++ (⟨#[32]⟩ : ByteArray)).size + t314.size ≤ 9223372036854775807 then (if ((((((((((rdOf ByteArray.empty t303 (ji8)) ++ (⟨#[44, 32]⟩ : ByteArray)) ++ t307) ++ (⟨#[32]⟩ : ByteArray)) ++ (rdOf ByteArray.empty t308 (ji16))) ++ (⟨#[32]⟩ : ByteArray)) ++ t312) ++ t313) ++ (⟨#[32]⟩ : ByteArray)) ++ t314).size + 1 ≤ 9223372036854775807 then ((sprref14_two.f (Int.tmod (wrap64 (Int.tdiv t302 60)) 60)).bind fun t315 => (if (((((((((((rdOf ByteArray.empty t303 (ji8)) ++ (⟨#[44, 32]⟩ : ByteArray)) ++ t307) ++ (⟨#[32]⟩ : ByteArray)) ++ (rdOf ByteArray.empty t308 (ji16))) ++ (⟨#[32]⟩ : ByteArray)) ++ t312) ++ t313) ++ (⟨#[32]⟩ : ByteArray)) ++ t314) ++ (⟨#[58]⟩ : ByteArray)).size + t315.size ≤ 9223372036854775807 then (if ((((((((((((rdOf ByteArray.empty t303 (ji8)) ++ (⟨#[44, 32]⟩ : ByteArray)) ++ t307) ++ (⟨#[32]⟩ : ByteArray)) ++ (rdOf ByteArray.empty t308 (ji16))) ++ (⟨#[32]⟩ : ByteArray)) ++ t312) ++ t313) ++ (⟨#[32]⟩ : ByteArray)) ++ t314) ++ (⟨#[58]⟩ : ByteArray)) ++ t315).size + 1 ≤ 9223372036854775807 then ((sprref14_two.f (Int.tmod t302 60)).bind fun t316 => (if (((((((((((((rdOf ByteArray.empty t303 (ji8)) ++ (⟨#[44, 32]⟩ : ByteArray)) ++ t307) ++ (⟨#[32]⟩ : ByteArray)) ++ (rdOf ByteArray.empty t308 (ji16))) ++ (⟨#[32]⟩ : ByteArray)) ++ t312) ++ t313) ++ (⟨#[32]⟩ : ByteArray)) ++ t314) ++ (⟨#[58]⟩ : ByteArray)) ++ t315) ++ (⟨#[58]⟩ : ByteArray)).size + t316.size ≤ 9223372036854775807 then (if ((((((((((((((rdOf ByteArray.empty t303 (ji8)) ++ (⟨#[44, 32]⟩ : ByteArray)) ++ t307) ++ (⟨#[32]⟩ : ByteArray)) ++ (rdOf ByteArray.empty t308 (ji16))) ++ (⟨#[32]⟩ : ByteArray)) ++ t312) ++ t313) ++ (⟨#[32]⟩ : ByteArray)) ++ t314) ++ (⟨#[58]⟩ : ByteArray)) ++ t315) ++ (⟨#[58]⟩ : ByteArray)) ++ t316).size + 4 ≤ 9223372036854775807 then (some (((((((((((((((rdOf ByteArray.empty t303 (ji8)) ++ (⟨#[44, 32]⟩ : ByteArray)) ++ t307) ++ (⟨#[32]⟩ : ByteArray)) ++ (rdOf ByteArray.empty t308 (ji16))) ++ (⟨#[32]⟩ : ByteArray)) ++ t312) ++ t313) ++ (⟨#[32]⟩ : ByteArray)) ++ t314) ++ (⟨#[58]⟩ : ByteArray)) ++ t315) ++ (⟨#[58]⟩ : ByteArray)) ++ t316) ++ (⟨#[32, 71, 77, 84]⟩ : ByteArray), 0)) else (none)) else (none))) else (none)) else (none))) else (none)) else (none))) else (none)) else (none))) else (none)) = some (r1, r2) := H
                          have A21 := Aside0.mk A210
                          clear A210
                          by_cases c22 : ((((((rdOf ByteArray.empty t303 (ji8)) ++ (⟨#[44, 32]⟩ : ByteArray)) ++ t307) ++ (⟨#[32]⟩ : ByteArray)) ++ (rdOf ByteArray.empty t308 (ji16))) ++ (⟨#[32]⟩ : ByteArray)).size + t312.size ≤ 9223372036854775807
                          · rw [if_pos c22] at H
                            have c22b0 := eq_true c22
                            have c22b1 : decide (((((((rdOf ByteArray.empty t303 (ji8)) ++ (⟨#[44, 32]⟩ : ByteArray)) ++ t307) ++ (⟨#[32]⟩ : ByteArray)) ++ (rdOf ByteArray.empty t308 (ji16))) ++ (⟨#[32]⟩ : ByteArray)).size + t312.size ≤ 9223372036854775807) = true := decide_eq_true c22
                            try have c22b2 : (9223372036854775807 < ((((((rdOf ByteArray.empty t303 (ji8)) ++ (⟨#[44, 32]⟩ : ByteArray)) ++ t307) ++ (⟨#[32]⟩ : ByteArray)) ++ (rdOf ByteArray.empty t308 (ji16))) ++ (⟨#[32]⟩ : ByteArray)).size + t312.size) = False := eq_false (Nat.not_lt.2 c22)
                            (try (have c22y : (9223372036854775807 < (rdOf ByteArray.empty t303 (ji8)).size + 2 + t307.size + 1 + (rdOf ByteArray.empty t308 (ji16)).size + 1 + t312.size) = False := eq_false (by have zz := c22; simp only [ByteArray.size_append, ByteArray.size_extract, Nat.sub_zero] at zz; have e0 : (⟨#[44, 32]⟩ : ByteArray).size = 2 := rfl; have e1 : (⟨#[32]⟩ : ByteArray).size = 1 := rfl; omega)))
                            (try (have c22s := c22; simp [go_sem] at c22s)); (try (have c22z := eq_false (Nat.not_lt.2 c22s)))
                            replace H := Option.bind_eq_some_iff.mp H
                            obtain ⟨t313, A230, H⟩ := H
                            replace H : (if (((((((rdOf ByteArray.empty t303 (ji8)) ++ (⟨#[44, 32]⟩ : ByteArray)) ++ t307) ++ (⟨#[32]⟩ : ByteArray)) ++ (rdOf ByteArray.empty t308 (ji16))) ++ (⟨#[32]⟩ : ByteArray)) ++ t312).size + t313.size ≤ 9223372036854775807 then (if ((((((((rdOf ByteArray.empty t303 (ji8)) ++ (⟨#[44, 32]⟩ : ByteArray)) ++ t307) ++ (⟨#[32]⟩ : ByteArray)) ++ (rdOf ByteArray.empty t308 (ji16))) ++ (⟨#[32]⟩ : ByteArray)) ++ t312) ++ t313).size + 1 ≤ 9223372036854775807 then ((sprref14_two.f (wrap64 (Int.tdiv t302 3600))).bind fun t314 => (if (((((((((rdOf ByteArray.empty t303 (ji8)) ++ (⟨#[44, 32]⟩ : ByteArray)) ++ t307) ++ (⟨#[32]⟩ : ByteArray)) ++ (rdOf ByteArray.empty t308 (ji16))) ++ (⟨#[32]⟩ : ByteArray)) ++ t312) ++ t313) ++ (⟨#[32]⟩ : ByteArray)).size + t314.size ≤ 9223372036854775807 then (if ((((((((((rdOf ByteArray.empty t303 (ji8)) ++ (⟨#[44, 32]⟩ : ByteArray)) ++ t307) ++ (⟨#[32]⟩ : ByteArray)) ++ (rdOf ByteArray.empty t308 (ji16))) ++ (⟨#[32]⟩ : ByteArray)) ++ t312) ++ t313) ++ (⟨#[32]⟩ : ByteArray)) ++ t314).size + 1 ≤ 9223372036854775807 then ((sprref14_two.f (Int.tmod (wrap64 (Int.tdiv t302 60)) 60)).bind fun t315 => (if (((((((((((rdOf ByteArray.empty t303 (ji8)) ++ (⟨#[44, 32]⟩ : ByteArray)) ++ t307) ++ (⟨#[32]⟩ : ByteArray)) ++ (rdOf ByteArray.empty t308 (ji16))) ++ (⟨#[32]⟩ : ByteArray)) ++ t312) ++ t313) ++ (⟨#[32]⟩ : ByteArray)) ++ t314) ++ (⟨#[58]⟩ : ByteArray)).size + t315.size ≤ 9223372036854775807 then (if ((((((((((((rdOf ByteArray.empty t303 (ji8)) ++ (⟨#[44, 32]⟩ : ByteArray)) ++ t307) ++ (⟨#[32]⟩ : ByteArray)) ++ (rdOf ByteArray.empty t308 (ji16))) ++ (⟨#[32]⟩ : ByteArray)) ++ t312) ++ t313) ++ (⟨#[32]⟩ : ByteArray)) ++ t314) ++ (⟨#[58]⟩ : ByteArray)) ++ t315).size + 1 ≤ 9223372036854775807 then ((sprref14_two.f (Int.tmod t302 60)).bind fun t316 => (if (((((((((((((rdOf ByteArray.empty t303 (ji8)) ++ (⟨#[44, 32]⟩ : ByteArray)) ++ t307) ++ (⟨#[32]⟩ : ByteArray)) ++ (rdOf ByteArray.empty t308 (ji16))) ++ (⟨#[32]⟩ : ByteArray)) ++ t312) ++ t313) ++ (⟨#[32]⟩ : ByteArray)) ++ t314) ++ (⟨#[58]⟩ : ByteArray)) ++ t315) ++ (⟨#[58]⟩ : ByteArray)).size + t316.size ≤ 9223372036854775807 then (if ((((((((((((((rdOf ByteArray.empty t303 (ji8)) ++ (⟨#[44, 32]⟩ : ByteArray)) ++ t307) ++ (⟨#[32]⟩ : ByteArray)) ++ (rdOf ByteArray.empty t308 (ji16))) ++ (⟨#[32]⟩ : ByteArray)) ++ t312) ++ t313) ++ (⟨#[32]⟩ : ByteArray)) ++ t314) ++ (⟨#[58]⟩ : ByteArray)) ++ t315) ++ (⟨#[58]⟩ : ByteArray)) ++ t316).size + 4 ≤ 9223372036854775807 then (some (((((((((((((((rdOf ByteArray.empty t303 (ji8)) ++ (⟨#[44, 32]⟩ : ByteArray)) ++ t307) ++ (⟨#[32]⟩ : ByteArray)) ++ (rdOf ByteArray.empty t308 (ji16))) ++ (⟨#[32]⟩ : ByteArray)) ++ t312) ++ t313) ++ (⟨#[32]⟩ : ByteArray)) ++ t314) ++ (⟨#[58]⟩ : ByteArray)) ++ t315) ++ (⟨#[58]⟩ : ByteArray)) ++ t316) ++ (⟨#[32, 71, 77, 84]⟩ : ByteArray), 0)) else (none)) else (none))) else (none)) else (none))) else (none)) else (none))) else (none)) else (none)) = some (r1, r2) := H
                            have A23 := Aside0.mk A230
                            clear A230
                            by_cases c24 : (((((((rdOf ByteArray.empty t303 (ji8)) ++ (⟨#[44, 32]⟩ : ByteArray)) ++ t307) ++ (⟨#[32]⟩ : ByteArray)) ++ (rdOf ByteArray.empty t308 (ji16))) ++ (⟨#[32]⟩ : ByteArray)) ++ t312).size + t313.size ≤ 9223372036854775807
                            · rw [if_pos c24] at H
                              have c24b0 := eq_true c24
                              have c24b1 : decide ((((((((rdOf ByteArray.empty t303 (ji8)) ++ (⟨#[44, 32]⟩ : ByteArray)) ++ t307) ++ (⟨#[32]⟩ : ByteArray)) ++ (rdOf ByteArray.empty t308 (ji16))) ++ (⟨#[32]⟩ : ByteArray)) ++ t312).size + t313.size ≤ 9223372036854775807) = true := decide_eq_true c24
                              try have c24b2 : (9223372036854775807 < (((((((rdOf ByteArray.empty t303 (ji8)) ++ (⟨#[44, 32]⟩ : ByteArray)) ++ t307) ++ (⟨#[32]⟩ : ByteArray)) ++ (rdOf ByteArray.empty t308 (ji16))) ++ (⟨#[32]⟩ : ByteArray)) ++ t312).size + t313.size) = False := eq_false (Nat.not_lt.2 c24)
                              (try (have c24y : (9223372036854775807 < (rdOf ByteArray.empty t303 (ji8)).size + 2 + t307.size + 1 + (rdOf ByteArray.empty t308 (ji16)).size + 1 + t312.size + t313.size) = False := eq_false (by have zz := c24; simp only [ByteArray.size_append, ByteArray.size_extract, Nat.sub_zero] at zz; have e0 : (⟨#[44, 32]⟩ : ByteArray).size = 2 := rfl; have e1 : (⟨#[32]⟩ : ByteArray).size = 1 := rfl; omega)))
                              (try (have c24s := c24; simp [go_sem] at c24s)); (try (have c24z := eq_false (Nat.not_lt.2 c24s)))
                              by_cases c25 : ((((((((rdOf ByteArray.empty t303 (ji8)) ++ (⟨#[44, 32]⟩ : ByteArray)) ++ t307) ++ (⟨#[32]⟩ : ByteArray)) ++ (rdOf ByteArray.empty t308 (ji16))) ++ (⟨#[32]⟩ : ByteArray)) ++ t312) ++ t313).size + 1 ≤ 9223372036854775807
                              · rw [if_pos c25] at H
                                have c25b0 := eq_true c25
                                have c25b1 : decide (((((((((rdOf ByteArray.empty t303 (ji8)) ++ (⟨#[44, 32]⟩ : ByteArray)) ++ t307) ++ (⟨#[32]⟩ : ByteArray)) ++ (rdOf ByteArray.empty t308 (ji16))) ++ (⟨#[32]⟩ : ByteArray)) ++ t312) ++ t313).size + 1 ≤ 9223372036854775807) = true := decide_eq_true c25
                                try have c25b2 : (9223372036854775807 < ((((((((rdOf ByteArray.empty t303 (ji8)) ++ (⟨#[44, 32]⟩ : ByteArray)) ++ t307) ++ (⟨#[32]⟩ : ByteArray)) ++ (rdOf ByteArray.empty t308 (ji16))) ++ (⟨#[32]⟩ : ByteArray)) ++ t312) ++ t313).size + 1) = False := eq_false (Nat.not_lt.2 c25)
                                (try (have c25y : (9223372036854775807 < (rdOf ByteArray.empty t303 (ji8)).size + 2 + t307.size + 1 + (rdOf ByteArray.empty t308 (ji16)).size + 1 + t312.size + t313.size + 1) = False := eq_false (by have zz := c25; simp only [ByteArray.size_append, ByteArray.size_extract, Nat.sub_zero] at zz; have e0 : (⟨#[44, 32]⟩ : ByteArray).size = 2 := rfl; have e1 : (⟨#[32]⟩ : ByteArray).size = 1 := rfl; omega)))
                                (try (have c25s := c25; simp [go_sem] at c25s)); (try (have c25z := eq_false (Nat.not_lt.2 c25s)))
                                replace H := Option.bind_eq_some_iff.mp H
                                obtain ⟨t314, A260, H⟩ := H
                                replace H : (if (((((((((rdOf ByteArray.empty t303 (ji8)) ++ (⟨#[44, 32]⟩ : ByteArray)) ++ t307) ++ (⟨#[32]⟩ : ByteArray)) ++ (rdOf ByteArray.empty t308 (ji16))) ++ (⟨#[32]⟩ : ByteArray)) ++ t312) ++ t313) ++ (⟨#[32]⟩ : ByteArray)).size + t314.size ≤ 9223372036854775807 then (if ((((((((((rdOf ByteArray.empty t303 (ji8)) ++ (⟨#[44, 32]⟩ : ByteArray)) ++ t307) ++ (⟨#[32]⟩ : ByteArray)) ++ (rdOf ByteArray.empty t308 (ji16))) ++ (⟨#[32]⟩ : ByteArray)) ++ t312) ++ t313) ++ (⟨#[32]⟩ : ByteArray)) ++ t314).size + 1 ≤ 9223372036854775807 then ((sprref14_two.f (Int.tmod (wrap64 (Int.tdiv t302 60)) 60)).bind fun t315 => (if (((((((((((rdOf ByteArray.empty t303 (ji8)) ++ (⟨#[44, 32]⟩ : ByteArray)) ++ t307) ++ (⟨#[32]⟩ : ByteArray)) ++ (rdOf ByteArray.empty t308 (ji16))) ++ (⟨#[32]⟩ : ByteArray)) ++ t312) ++ t313) ++ (⟨#[32]⟩ : ByteArray)) ++ t314) ++ (⟨#[58]⟩ : ByteArray)).size + t315.size ≤ 9223372036854775807 then (if ((((((((((((rdOf ByteArray.empty t303 (ji8)) ++ (⟨#[44, 32]⟩ : ByteArray)) ++ t307) ++ (⟨#[32]⟩ : ByteArray)) ++ (rdOf ByteArray.empty t308 (ji16))) ++ (⟨#[32]⟩ : ByteArray)) ++ t312) ++ t313) ++ (⟨#[32]⟩ : ByteArray)) ++ t314) ++ (⟨#[58]⟩ : ByteArray)) ++ t315).size + 1 ≤ 9223372036854775807 then ((sprref14_two.f (Int.tmod t302 60)).bind fun t316 => (if (((((((((((((rdOf ByteArray.empty t303 (ji8)) ++ (⟨#[44, 32]⟩ : ByteArray)) ++ t307) ++ (⟨#[32]⟩ : ByteArray)) ++ (rdOf ByteArray.empty t308 (ji16))) ++ (⟨#[32]⟩ : ByteArray)) ++ t312) ++ t313) ++ (⟨#[32]⟩ : ByteArray)) ++ t314) ++ (⟨#[58]⟩ : ByteArray)) ++ t315) ++ (⟨#[58]⟩ : ByteArray)).size + t316.size ≤ 9223372036854775807 then (if ((((((((((((((rdOf ByteArray.empty t303 (ji8)) ++ (⟨#[44, 32]⟩ : ByteArray)) ++ t307) ++ (⟨#[32]⟩ : ByteArray)) ++ (rdOf ByteArray.empty t308 (ji16))) ++ (⟨#[32]⟩ : ByteArray)) ++ t312) ++ t313) ++ (⟨#[32]⟩ : ByteArray)) ++ t314) ++ (⟨#[58]⟩ : ByteArray)) ++ t315) ++ (⟨#[58]⟩ : ByteArray)) ++ t316).size + 4 ≤ 9223372036854775807 then (some (((((((((((((((rdOf ByteArray.empty t303 (ji8)) ++ (⟨#[44, 32]⟩ : ByteArray)) ++ t307) ++ (⟨#[32]⟩ : ByteArray)) ++ (rdOf ByteArray.empty t308 (ji16))) ++ (⟨#[32]⟩ : ByteArray)) ++ t312) ++ t313) ++ (⟨#[32]⟩ : ByteArray)) ++ t314) ++ (⟨#[58]⟩ : ByteArray)) ++ t315) ++ (⟨#[58]⟩ : ByteArray)) ++ t316) ++ (⟨#[32, 71, 77, 84]⟩ : ByteArray), 0)) else (none)) else (none))) else (none)) else (none))) else (none)) else (none)) = some (r1, r2) := H
                                have A26 := Aside0.mk A260
                                clear A260
                                by_cases c27 : (((((((((rdOf ByteArray.empty t303 (ji8)) ++ (⟨#[44, 32]⟩ : ByteArray)) ++ t307) ++ (⟨#[32]⟩ : ByteArray)) ++ (rdOf ByteArray.empty t308 (ji16))) ++ (⟨#[32]⟩ : ByteArray)) ++ t312) ++ t313) ++ (⟨#[32]⟩ : ByteArray)).size + t314.size ≤ 9223372036854775807
                                · rw [if_pos c27] at H
                                  have c27b0 := eq_true c27
                                  have c27b1 : decide ((((((((((rdOf ByteArray.empty t303 (ji8)) ++ (⟨#[44, 32]⟩ : ByteArray)) ++ t307) ++ (⟨#[32]⟩ : ByteArray)) ++ (rdOf ByteArray.empty t308 (ji16))) ++ (⟨#[32]⟩ : ByteArray)) ++ t312) ++ t313) ++ (⟨#[32]⟩ : ByteArray)).size + t314.size ≤ 9223372036854775807) = true := decide_eq_true c27
                                  try have c27b2 : (9223372036854775807 < (((((((((rdOf ByteArray.empty t303 (ji8)) ++ (⟨#[44, 32]⟩ : ByteArray)) ++ t307) ++ (⟨#[32]⟩ : ByteArray)) ++ (rdOf ByteArray.empty t308 (ji16))) ++ (⟨#[32]⟩ : ByteArray)) ++ t312) ++ t313) ++ (⟨#[32]⟩ : ByteArray)).size + t314.size) = False := eq_false (Nat.not_lt.2 c27)
                                  (try (have c27y : (9223372036854775807 < (rdOf ByteArray.empty t303 (ji8)).size + 2 + t307.size + 1 + (rdOf ByteArray.empty t308 (ji16)).size + 1 + t312.size + t313.size + 1 + t314.size) = False := eq_false (by have zz := c27; simp only [ByteArray.size_append, ByteArray.size_extract, Nat.sub_zero] at zz; have e0 : (⟨#[44, 32]⟩ : ByteArray).size = 2 := rfl; have e1 : (⟨#[32]⟩ : ByteArray).size = 1 := rfl; omega)))
                                  (try (have c27s := c27; simp [go_sem] at c27s)); (try (have c27z := eq_false (Nat.not_lt.2 c27s)))
                                  by_cases c28 : ((((((((((rdOf ByteArray.empty t303 (ji8)) ++ (⟨#[44, 32]⟩ : ByteArray)) ++ t307) ++ (⟨#[32]⟩ : ByteArray)) ++ (rdOf ByteArray.empty t308 (ji16))) ++ (⟨#[32]⟩ : ByteArray)) ++ t312) ++ t313) ++ (⟨#[32]⟩ : ByteArray)) ++ t314).size + 1 ≤ 9223372036854775807
                                  · rw [if_pos c28] at H
                                    have c28b0 := eq_true c28
                                    have c28b1 : decide (((((((((((rdOf ByteArray.empty t303 (ji8)) ++ (⟨#[44, 32]⟩ : ByteArray)) ++ t307) ++ (⟨#[32]⟩ : ByteArray)) ++ (rdOf ByteArray.empty t308 (ji16))) ++ (⟨#[32]⟩ : ByteArray)) ++ t312) ++ t313) ++ (⟨#[32]⟩ : ByteArray)) ++ t314).size + 1 ≤ 9223372036854775807) = true := decide_eq_true c28
                                    try have c28b2 : (9223372036854775807 < ((((((((((rdOf ByteArray.empty t303 (ji8)) ++ (⟨#[44, 32]⟩ : ByteArray)) ++ t307) ++ (⟨#[32]⟩ : ByteArray)) ++ (rdOf ByteArray.empty t308 (ji16))) ++ (⟨#[32]⟩ : ByteArray)) ++ t312) ++ t313) ++ (⟨#[32]⟩ : ByteArray)) ++ t314).size + 1) = False := eq_false (Nat.not_lt.2 c28)
                                    (try (have c28y : (9223372036854775807 < (rdOf ByteArray.empty t303 (ji8)).size + 2 + t307.size + 1 + (rdOf ByteArray.empty t308 (ji16)).size + 1 + t312.size + t313.size + 1 + t314.size + 1) = False := eq_false (by have zz := c28; simp only [ByteArray.size_append, ByteArray.size_extract, Nat.sub_zero] at zz; have e0 : (⟨#[44, 32]⟩ : ByteArray).size = 2 := rfl; have e1 : (⟨#[32]⟩ : ByteArray).size = 1 := rfl; omega)))
                                    (try (have c28s := c28; simp [go_sem] at c28s)); (try (have c28z := eq_false (Nat.not_lt.2 c28s)))
                                    replace H := Option.bind_eq_some_iff.mp H
                                    obtain ⟨t315, A290, H⟩ := H
                                    replace H : (if (((((((((((rdOf ByteArray.empty t303 (ji8)) ++ (⟨#[44, 32]⟩ : ByteArray)) ++ t307) ++ (⟨#[32]⟩ : ByteArray)) ++ (rdOf ByteArray.empty t308 (ji16))) ++ (⟨#[32]⟩ : ByteArray)) ++ t312) ++ t313) ++ (⟨#[32]⟩ : ByteArray)) ++ t314) ++ (⟨#[58]⟩ : ByteArray)).size + t315.size ≤ 9223372036854775807 then (if ((((((((((((rdOf ByteArray.empty t303 (ji8)) ++ (⟨#[44, 32]⟩ : ByteArray)) ++ t307) ++ (⟨#[32]⟩ : ByteArray)) ++ (rdOf ByteArray.empty t308 (ji16))) ++ (⟨#[32]⟩ : ByteArray)) ++ t312) ++ t313) ++ (⟨#[32]⟩ : ByteArray)) ++ t314) ++ (⟨#[58]⟩ : ByteArray)) ++ t315).size + 1 ≤ 9223372036854775807 then ((sprref14_two.f (Int.tmod t302 60)).bind fun t316 => (if (((((((((((((rdOf ByteArray.empty t303 (ji8)) ++ (⟨#[44, 32]⟩ : ByteArray)) ++ t307) ++ (⟨#[32]⟩ : ByteArray)) ++ (rdOf ByteArray.empty t308 (ji16))) ++ (⟨#[32]⟩ : ByteArray)) ++ t312) ++ t313) ++ (⟨#[32]⟩ : ByteArray)) ++ t314) ++ (⟨#[58]⟩ : ByteArray)) ++ t315) ++ (⟨#[58]⟩ : ByteArray)).size + t316.size ≤ 9223372036854775807 then (if ((((((((((((((rdOf ByteArray.empty t303 (ji8)) ++ (⟨#[44, 32]⟩ : ByteArray)) ++ t307) ++ (⟨#[32]⟩ : ByteArray)) ++ (rdOf ByteArray.empty t308 (ji16))) ++ (⟨#[32]⟩ : ByteArray)) ++ t312) ++ t313) ++ (⟨#[32]⟩ : ByteArray)) ++ t314) ++ (⟨#[58]⟩ : ByteArray)) ++ t315) ++ (⟨#[58]⟩ : ByteArray)) ++ t316).size + 4 ≤ 9223372036854775807 then (some (((((((((((((((rdOf ByteArray.empty t303 (ji8)) ++ (⟨#[44, 32]⟩ : ByteArray)) ++ t307) ++ (⟨#[32]⟩ : ByteArray)) ++ (rdOf ByteArray.empty t308 (ji16))) ++ (⟨#[32]⟩ : ByteArray)) ++ t312) ++ t313) ++ (⟨#[32]⟩ : ByteArray)) ++ t314) ++ (⟨#[58]⟩ : ByteArray)) ++ t315) ++ (⟨#[58]⟩ : ByteArray)) ++ t316) ++ (⟨#[32, 71, 77, 84]⟩ : ByteArray), 0)) else (none)) else (none))) else (none)) else (none)) = some (r1, r2) := H
                                    have A29 := Aside0.mk A290
                                    clear A290
                                    by_cases c30 : (((((((((((rdOf ByteArray.empty t303 (ji8)) ++ (⟨#[44, 32]⟩ : ByteArray)) ++ t307) ++ (⟨#[32]⟩ : ByteArray)) ++ (rdOf ByteArray.empty t308 (ji16))) ++ (⟨#[32]⟩ : ByteArray)) ++ t312) ++ t313) ++ (⟨#[32]⟩ : ByteArray)) ++ t314) ++ (⟨#[58]⟩ : ByteArray)).size + t315.size ≤ 9223372036854775807
                                    · rw [if_pos c30] at H
                                      have c30b0 := eq_true c30
                                      have c30b1 : decide ((((((((((((rdOf ByteArray.empty t303 (ji8)) ++ (⟨#[44, 32]⟩ : ByteArray)) ++ t307) ++ (⟨#[32]⟩ : ByteArray)) ++ (rdOf ByteArray.empty t308 (ji16))) ++ (⟨#[32]⟩ : ByteArray)) ++ t312) ++ t313) ++ (⟨#[32]⟩ : ByteArray)) ++ t314) ++ (⟨#[58]⟩ : ByteArray)).size + t315.size ≤ 9223372036854775807) = true := decide_eq_true c30
                                      try have c30b2 : (9223372036854775807 < (((((((((((rdOf ByteArray.empty t303 (ji8)) ++ (⟨#[44, 32]⟩ : ByteArray)) ++ t307) ++ (⟨#[32]⟩ : ByteArray)) ++ (rdOf ByteArray.empty t308 (ji16))) ++ (⟨#[32]⟩ : ByteArray)) ++ t312) ++ t313) ++ (⟨#[32]⟩ : ByteArray)) ++ t314) ++ (⟨#[58]⟩ : ByteArray)).size + t315.size) = False := eq_false (Nat.not_lt.2 c30)
                                      (try (have c30y : (9223372036854775807 < (rdOf ByteArray.empty t303 (ji8)).size + 2 + t307.size + 1 + (rdOf ByteArray.empty t308 (ji16)).size + 1 + t312.size + t313.size + 1 + t314.size + 1 + t315.size) = False := eq_false (by have zz := c30; simp only [ByteArray.size_append, ByteArray.size_extract, Nat.sub_zero] at zz; have e0 : (⟨#[44, 32]⟩ : ByteArray).size = 2 := rfl; have e1 : (⟨#[32]⟩ : ByteArray).size = 1 := rfl; have e2 : (⟨#[58]⟩ : ByteArray).size = 1 := rfl; omega)))
                                      (try (have c30s := c30; simp [go_sem] at c30s)); (try (have c30z := eq_false (Nat.not_lt.2 c30s)))
                                      by_cases c31 : ((((((((((((rdOf ByteArray.empty t303 (ji8)) ++ (⟨#[44, 32]⟩ : ByteArray)) ++ t307) ++ (⟨#[32]⟩ : ByteArray)) ++ (rdOf ByteArray.empty t308 (ji16))) ++ (⟨#[32]⟩ : ByteArray)) ++ t312) ++ t313) ++ (⟨#[32]⟩ : ByteArray)) ++ t314) ++ (⟨#[58]⟩ : ByteArray)) ++ t315).size + 1 ≤ 9223372036854775807
                                      · rw [if_pos c31] at H
                                        have c31b0 := eq_true c31
                                        have c31b1 : decide (((((((((((((rdOf ByteArray.empty t303 (ji8)) ++ (⟨#[44, 32]⟩ : ByteArray)) ++ t307) ++ (⟨#[32]⟩ : ByteArray)) ++ (rdOf ByteArray.empty t308 (ji16))) ++ (⟨#[32]⟩ : ByteArray)) ++ t312) ++ t313) ++ (⟨#[32]⟩ : ByteArray)) ++ t314) ++ (⟨#[58]⟩ : ByteArray)) ++ t315).size + 1 ≤ 9223372036854775807) = true := decide_eq_true c31
                                        try have c31b2 : (9223372036854775807 < ((((((((((((rdOf ByteArray.empty t303 (ji8)) ++ (⟨#[44, 32]⟩ : ByteArray)) ++ t307) ++ (⟨#[32]⟩ : ByteArray)) ++ (rdOf ByteArray.empty t308 (ji16))) ++ (⟨#[32]⟩ : ByteArray)) ++ t312) ++ t313) ++ (⟨#[32]⟩ : ByteArray)) ++ t314) ++ (⟨#[58]⟩ : ByteArray)) ++ t315).size + 1) = False := eq_false (Nat.not_lt.2 c31)
                                        (try (have c31y : (9223372036854775807 < (rdOf ByteArray.empty t303 (ji8)).size + 2 + t307.size + 1 + (rdOf ByteArray.empty t308 (ji16)).size + 1 + t312.size + t313.size + 1 + t314.size + 1 + t315.size + 1) = False := eq_false (by have zz := c31; simp only [ByteArray.size_append, ByteArray.size_extract, Nat.sub_zero] at zz; have e0 : (⟨#[44, 32]⟩ : ByteArray).size = 2 := rfl; have e1 : (⟨#[32]⟩ : ByteArray).size = 1 := rfl; have e2 : (⟨#[58]⟩ : ByteArray).size = 1 := rfl; omega)))
                                        (try (have c31s := c31; simp [go_sem] at c31s)); (try (have c31z := eq_false (Nat.not_lt.2 c31s)))
                                        replace H := Option.bind_eq_some_iff.mp H
                                        obtain ⟨t316, A320, H⟩ := H
                                        replace H : (if (((((((((((((rdOf ByteArray.empty t303 (ji8)) ++ (⟨#[44, 32]⟩ : ByteArray)) ++ t307) ++ (⟨#[32]⟩ : ByteArray)) ++ (rdOf ByteArray.empty t308 (ji16))) ++ (⟨#[32]⟩ : ByteArray)) ++ t312) ++ t313) ++ (⟨#[32]⟩ : ByteArray)) ++ t314) ++ (⟨#[58]⟩ : ByteArray)) ++ t315) ++ (⟨#[58]⟩ : ByteArray)).size + t316.size ≤ 9223372036854775807 then (if ((((((((((((((rdOf ByteArray.empty t303 (ji8)) ++ (⟨#[44, 32]⟩ : ByteArray)) ++ t307) ++ (⟨#[32]⟩ : ByteArray)) ++ (rdOf ByteArray.empty t308 (ji16))) ++ (⟨#[32]⟩ : ByteArray)) ++ t312) ++ t313) ++ (⟨#[32]⟩ : ByteArray)) ++ t314) ++ (⟨#[58]⟩ : ByteArray)) ++ t315) ++ (⟨#[58]⟩ : ByteArray)) ++ t316).size + 4 ≤ 9223372036854775807 then (some (((((((((((((((rdOf ByteArray.empty t303 (ji8)) ++ (⟨#[44, 32]⟩ : ByteArray)) ++ t307) ++ (⟨#[32]⟩ : ByteArray)) ++ (rdOf ByteArray.empty t308 (ji16))) ++ (⟨#[32]⟩ : ByteArray)) ++ t312) ++ t313) ++ (⟨#[32]⟩ : ByteArray)) ++ t314) ++ (⟨#[58]⟩ : ByteArray)) ++ t315) ++ (⟨#[58]⟩ : ByteArray)) ++ t316) ++ (⟨#[32, 71, 77, 84]⟩ : ByteArray), 0)) else (none)) else (none)) = some (r1, r2) := H
                                        have A32 := Aside0.mk A320
                                        clear A320
                                        by_cases c33 : (((((((((((((rdOf ByteArray.empty t303 (ji8)) ++ (⟨#[44, 32]⟩ : ByteArray)) ++ t307) ++ (⟨#[32]⟩ : ByteArray)) ++ (rdOf ByteArray.empty t308 (ji16))) ++ (⟨#[32]⟩ : ByteArray)) ++ t312) ++ t313) ++ (⟨#[32]⟩ : ByteArray)) ++ t314) ++ (⟨#[58]⟩ : ByteArray)) ++ t315) ++ (⟨#[58]⟩ : ByteArray)).size + t316.size ≤ 9223372036854775807
                                        · rw [if_pos c33] at H
                                          have c33b0 := eq_true c33
                                          have c33b1 : decide ((((((((((((((rdOf ByteArray.empty t303 (ji8)) ++ (⟨#[44, 32]⟩ : ByteArray)) ++ t307) ++ (⟨#[32]⟩ : ByteArray)) ++ (rdOf ByteArray.empty t308 (ji16))) ++ (⟨#[32]⟩ : ByteArray)) ++ t312) ++ t313) ++ (⟨#[32]⟩ : ByteArray)) ++ t314) ++ (⟨#[58]⟩ : ByteArray)) ++ t315) ++ (⟨#[58]⟩ : ByteArray)).size + t316.size ≤ 9223372036854775807) = true := decide_eq_true c33
                                          try have c33b2 : (9223372036854775807 < (((((((((((((rdOf ByteArray.empty t303 (ji8)) ++ (⟨#[44, 32]⟩ : ByteArray)) ++ t307) ++ (⟨#[32]⟩ : ByteArray)) ++ (rdOf ByteArray.empty t308 (ji16))) ++ (⟨#[32]⟩ : ByteArray)) ++ t312) ++ t313) ++ (⟨#[32]⟩ : ByteArray)) ++ t314) ++ (⟨#[58]⟩ : ByteArray)) ++ t315) ++ (⟨#[58]⟩ : ByteArray)).size + t316.size) = False := eq_false (Nat.not_lt.2 c33)
                                          (try (have c33y : (9223372036854775807 < (rdOf ByteArray.empty t303 (ji8)).size + 2 + t307.size + 1 + (rdOf ByteArray.empty t308 (ji16)).size + 1 + t312.size + t313.size + 1 + t314.size + 1 + t315.size + 1 + t316.size) = False := eq_false (by have zz := c33; simp only [ByteArray.size_append, ByteArray.size_extract, Nat.sub_zero] at zz; have e0 : (⟨#[44, 32]⟩ : ByteArray).size = 2 := rfl; have e1 : (⟨#[32]⟩ : ByteArray).size = 1 := rfl; have e2 : (⟨#[58]⟩ : ByteArray).size = 1 := rfl; omega)))
                                          (try (have c33s := c33; simp [go_sem] at c33s)); (try (have c33z := eq_false (Nat.not_lt.2 c33s)))
                                          by_cases c34 : ((((((((((((((rdOf ByteArray.empty t303 (ji8)) ++ (⟨#[44, 32]⟩ : ByteArray)) ++ t307) ++ (⟨#[32]⟩ : ByteArray)) ++ (rdOf ByteArray.empty t308 (ji16))) ++ (⟨#[32]⟩ : ByteArray)) ++ t312) ++ t313) ++ (⟨#[32]⟩ : ByteArray)) ++ t314) ++ (⟨#[58]⟩ : ByteArray)) ++ t315) ++ (⟨#[58]⟩ : ByteArray)) ++ t316).size + 4 ≤ 9223372036854775807
                                          · rw [if_pos c34] at H
                                            have c34b0 := eq_true c34
                                            have c34b1 : decide (((((((((((((((rdOf ByteArray.empty t303 (ji8)) ++ (⟨#[44, 32]⟩ : ByteArray)) ++ t307) ++ (⟨#[32]⟩ : ByteArray)) ++ (rdOf ByteArray.empty t308 (ji16))) ++ (⟨#[32]⟩ : ByteArray)) ++ t312) ++ t313) ++ (⟨#[32]⟩ : ByteArray)) ++ t314) ++ (⟨#[58]⟩ : ByteArray)) ++ t315) ++ (⟨#[58]⟩ : ByteArray)) ++ t316).size + 4 ≤ 9223372036854775807) = true := decide_eq_true c34
                                            try have c34b2 : (9223372036854775807 < ((((((((((((((rdOf ByteArray.empty t303 (ji8)) ++ (⟨#[44, 32]⟩ : ByteArray)) ++ t307) ++ (⟨#[32]⟩ : ByteArray)) ++ (rdOf ByteArray.empty t308 (ji16))) ++ (⟨#[32]⟩ : ByteArray)) ++ t312) ++ t313) ++ (⟨#[32]⟩ : ByteArray)) ++ t314) ++ (⟨#[58]⟩ : ByteArray)) ++ t315) ++ (⟨#[58]⟩ : ByteArray)) ++ t316).size + 4) = False := eq_false (Nat.not_lt.2 c34)
                                            (try (have c34y : (9223372036854775807 < (rdOf ByteArray.empty t303 (ji8)).size + 2 + t307.size + 1 + (rdOf ByteArray.empty t308 (ji16)).size + 1 + t312.size + t313.size + 1 + t314.size + 1 + t315.size + 1 + t316.size + 4) = False := eq_false (by have zz := c34; simp only [ByteArray.size_append, ByteArray.size_extract, Nat.sub_zero] at zz; have e0 : (⟨#[44, 32]⟩ : ByteArray).size = 2 := rfl; have e1 : (⟨#[32]⟩ : ByteArray).size = 1 := rfl; have e2 : (⟨#[58]⟩ : ByteArray).size = 1 := rfl; omega)))
                                            (try (have c34s := c34; simp [go_sem] at c34s)); (try (have c34z := eq_false (Nat.not_lt.2 c34s)))
                                            simp only [Option.some.injEq, Prod.mk.injEq] at H
                                            obtain ⟨rfl, rfl⟩ := H
                                            try go_wp2
                                            have n0_ := Aside0.mk (below_drew1 HB.out)
                                            clear HB
                                            have HB := n0_
                                            clear n0_
                                            refine start_ (n := 45) (S := fun w' => True) (ds := []) #[false, false, false, false, false, false, false, false, false, false, false, false, false, false, false, false, false, false, false, false, false, false, false, false, false, false, false, false, false, false, false, false, false, false, false, false, false, false, false, false, false, false, false, false, false] (by kernel_rfl) rfl rfl trivial (fun hHeld => ?_); refine with_tabW sprref14_Print.tab7 sprref14_Print.bits7 (fun HT_ HW_ => ?_)
                                            generalize wc.drew = w35 at HB hHeld ⊢
                                            refine pure_ (i := 1) (N := some 27) (v := ?_) (a' := ?_) #[false, true, false, false, false, false, false, false, false, false, false, false, false, false, false, false, false, false, false, false, false, false, false, false, false, false, false, false, false, false, false, false, false, false, false, false, false, false, false, false, false, false, false, false, false] rfl rfl (any_of HT_.out (by kernel_rfl)) (fun _ _ _ h => h) (Or.inl ⟨by rfl, ?_⟩) ?_ ?_
                                            rotate_left
                                            · intro w'
                                              go_simp
                                              with_reducible rfl
                                            rotate_left
                                            · simp only [Act.put, List.setIfInBounds_toArray, List.set_cons_zero, List.set_cons_succ, i64_w, i32_w]
                                              rfl
                                            refine pure_ (i := 2) (N := some 28) (v := ?_) (a' := ?_) #[false, true, true, false, false, false, false, false, false, false, false, false, false, false, false, false, false, false, false, false, false, false, false, false, false, false, false, false, false, false, false, false, false, false, false, false, false, false, false, false, false, false, false, false, false] rfl rfl (any_of HT_.out (by kernel_rfl)) (fun _ _ _ h => h) (Or.inl ⟨by rfl, ?_⟩) ?_ ?_
                                            rotate_left
                                            · intro w'
                                              go_simp
                                              with_reducible rfl
                                            rotate_left
                                            · simp only [Act.put, List.setIfInBounds_toArray, List.set_cons_zero, List.set_cons_succ, i64_w, i32_w]
                                              rfl
                                            refine pure_ (i := 3) (N := some 29) (v := ?_) (a' := ?_) #[false, true, true, true, false, false, false, false, false, false, false, false, false, false, false, false, false, false, false, false, false, false, false, false, false, false, false, false, false, false, false, false, false, false, false, false, false, false, false, false, false, false, false, false, false] rfl rfl (any_of HT_.out (by kernel_rfl)) (fun _ _ _ h => h) (Or.inl ⟨by rfl, ?_⟩) ?_ ?_
                                            rotate_left
                                            · intro w'
                                              go_simp
                                              with_reducible rfl
                                            rotate_left
                                            · simp only [Act.put, List.setIfInBounds_toArray, List.set_cons_zero, List.set_cons_succ, i64_w, i32_w]
                                              rfl
                                            refine pure_ (i := 4) (N := some 30) (v := ?_) (a' := ?_) #[false, true, true, true, true, false, false, false, false, false, false, false, false, false, false, false, false, false, false, false, false, false, false, false, false, false, false, false, false, false, false, false, false, false, false, false, false, false, false, false, false, false, false, false, false] rfl rfl (any_of HT_.out (by kernel_rfl)) (fun _ _ _ h => h) (Or.inl ⟨by rfl, ?_⟩) ?_ ?_
                                            rotate_left
                                            · intro w'
                                              go_simp
                                              with_reducible rfl
                                            rotate_left
                                            · simp only [Act.put, List.setIfInBounds_toArray, List.set_cons_zero, List.set_cons_succ, i64_w, i32_w]
                                              rfl
                                            refine pure_ (i := 8) (N := some 34) (v := ?_) (a' := ?_) #[false, true, true, true, true, false, false, false, true, false, false, false, false, false, false, false, false, false, false, false, false, false, false, false, false, false, false, false, false, false, false, false, false, false, false, false, false, false, false, false, false, false, false, false, false] rfl rfl (any_of HT_.out (by kernel_rfl)) (fun _ _ _ h => h) (Or.inl ⟨by rfl, ?_⟩) ?_ ?_
                                            rotate_left
                                            · intro w'
                                              go_simp
                                              with_reducible rfl
                                            rotate_left
                                            · simp only [Act.put, List.setIfInBounds_toArray, List.set_cons_zero, List.set_cons_succ, i64_w, i32_w]
                                              rfl
                                            refine pure_ (i := 13) (N := some 39) (v := ?_) (a' := ?_) #[false, true, true, true, true, false, false, false, true, false, false, false, false, true, false, false, false, false, false, false, false, false, false, false, false, false, false, false, false, false, false, false, false, false, false, false, false, false, false, false, false, false, false, false, false] rfl rfl (any_of HT_.out (by kernel_rfl)) (fun _ _ _ h => h) (Or.inl ⟨by rfl, ?_⟩) ?_ ?_
                                            rotate_left
                                            · intro w'
                                              go_simp
                                              with_reducible rfl
                                            rotate_left
                                            · simp only [Act.put, List.setIfInBounds_toArray, List.set_cons_zero, List.set_cons_succ, i64_w, i32_w]
                                              rfl
                                            refine pure_ (i := 14) (N := some 40) (v := ?_) (a' := ?_) #[false, true, true, true, true, false, false, false, true, false, false, false, false, true, true, false, false, false, false, false, false, false, false, false, false, false, false, false, false, false, false, false, false, false, false, false, false, false, false, false, false, false, false, false, false] rfl rfl (any_of HT_.out (by kernel_rfl)) (fun _ _ _ h => h) (Or.inl ⟨by rfl, ?_⟩) ?_ ?_
                                            rotate_left
                                            · intro w'
                                              go_simp
                                              with_reducible rfl
                                            rotate_left
                                            · simp only [Act.put, List.setIfInBounds_toArray, List.set_cons_zero, List.set_cons_succ, i64_w, i32_w]
                                              rfl
                                            refine pure_ (i := 19) (N := some 45) (v := ?_) (a' := ?_) #[false, true, true, true, true, false, false, false, true, false, false, false, false, true, true, false, false, false, false, true, false, false, false, false, false, false, false, false, false, false, false, false, false, false, false, false, false, false, false, false, false, false, false, false, false] rfl rfl (any_of HT_.out (by kernel_rfl)) (fun _ _ _ h => h) (Or.inl ⟨by rfl, ?_⟩) ?_ ?_
                                            rotate_left
                                            · intro w'
                                              go_simp
                                              with_reducible rfl
                                            rotate_left
                                            · simp only [Act.put, List.setIfInBounds_toArray, List.set_cons_zero, List.set_cons_succ, i64_w, i32_w]
                                              rfl
                                            refine pure_ (i := 20) (N := some 46) (v := ?_) (a' := ?_) #[false, true, true, true, true, false, false, false, true, false, false, false, false, true, true, false, false, false, false, true, true, false, false, false, false, false, false, false, false, false, false, false, false, false, false, false, false, false, false, false, false, false, false, false, false] rfl rfl (any_of HT_.out (by kernel_rfl)) (fun _ _ _ h => h) (Or.inl ⟨by rfl, ?_⟩) ?_ ?_
                                            rotate_left
                                            · intro w'
                                              go_simp
                                              with_reducible rfl
                                            rotate_left
                                            · simp only [Act.put, List.setIfInBounds_toArray, List.set_cons_zero, List.set_cons_succ, i64_w, i32_w]
                                              rfl
                                            refine pure_ (i := 23) (N := some 49) (v := ?_) (a' := ?_) #[false, true, true, true, true, false, false, false, true, false, false, false, false, true, true, false, false, false, false, true, true, false, false, true, false, false, false, false, false, false, false, false, false, false, false, false, false, false, false, false, false, false, false, false, false] rfl rfl (any_of HT_.out (by kernel_rfl)) (fun _ _ _ h => h) (Or.inl ⟨by rfl, ?_⟩) ?_ ?_
                                            rotate_left
                                            · intro w'
                                              go_simp
                                              with_reducible rfl
                                            rotate_left
                                            · simp only [Act.put, List.setIfInBounds_toArray, List.set_cons_zero, List.set_cons_succ, i64_w, i32_w]
                                              rfl
                                            refine pure_ (i := 27) (N := some 53) (v := ?_) (a' := ?_) #[false, true, true, true, true, false, false, false, true, false, false, false, false, true, true, false, false, false, false, true, true, false, false, true, false, false, false, true, false, false, false, false, false, false, false, false, false, false, false, false, false, false, false, false, false] rfl rfl (any_of HT_.out (by kernel_rfl)) (fun _ _ _ h => h) (Or.inl ⟨by rfl, ?_⟩) ?_ ?_
                                            rotate_left
                                            · intro w'
                                              go_simp
                                              with_reducible rfl
                                            rotate_left
                                            · simp only [Act.put, List.setIfInBounds_toArray, List.set_cons_zero, List.set_cons_succ, i64_w, i32_w]
                                              rfl
                                            refine pure_ (i := 28) (N := some 54) (v := ?_) (a' := ?_) #[false, true, true, true, true, false, false, false, true, false, false, false, false, true, true, false, false, false, false, true, true, false, false, true, false, false, false, true, true, false, false, false, false, false, false, false, false, false, false, false, false, false, false, false, false] rfl rfl (any_of HT_.out (by kernel_rfl)) (fun _ _ _ h => h) (Or.inl ⟨by rfl, ?_⟩) ?_ ?_
                                            rotate_left
                                            · intro w'
                                              go_simp
                                              with_reducible rfl
                                            rotate_left
                                            · simp only [Act.put, List.setIfInBounds_toArray, List.set_cons_zero, List.set_cons_succ, i64_w, i32_w]
                                              rfl
                                            refine pure_ (i := 32) (N := some 58) (v := ?_) (a' := ?_) #[false, true, true, true, true, false, false, false, true, false, false, false, false, true, true, false, false, false, false, true, true, false, false, true, false, false, false, true, true, false, false, false, true, false, false, false, false, false, false, false, false, false, false, false, false] rfl rfl (any_of HT_.out (by kernel_rfl)) (fun _ _ _ h => h) (Or.inl ⟨by rfl, ?_⟩) ?_ ?_
                                            rotate_left
                                            · intro w'
                                              go_simp
                                              with_reducible rfl
                                            rotate_left
                                            · simp only [Act.put, List.setIfInBounds_toArray, List.set_cons_zero, List.set_cons_succ, i64_w, i32_w]
                                              rfl
                                            refine pure_ (i := 33) (N := some 59) (v := ?_) (a' := ?_) #[false, true, true, true, true, false, false, false, true, false, false, false, false, true, true, false, false, false, false, true, true, false, false, true, false, false, false, true, true, false, false, false, true, true, false, false, false, false, false, false, false, false, false, false, false] rfl rfl (any_of HT_.out (by kernel_rfl)) (fun _ _ _ h => h) (Or.inl ⟨by rfl, ?_⟩) ?_ ?_
                                            rotate_left
                                            · intro w'
                                              go_simp
                                              with_reducible rfl
                                            rotate_left
                                            · simp only [Act.put, List.setIfInBounds_toArray, List.set_cons_zero, List.set_cons_succ, i64_w, i32_w]
                                              rfl
                                            refine pure_ (i := 34) (N := some 60) (v := ?_) (a' := ?_) #[false, true, true, true, true, false, false, false, true, false, false, false, false, true, true, false, false, false, false, true, true, false, false, true, false, false, false, true, true, false, false, false, true, true, true, false, false, false, false, false, false, false, false, false, false] rfl rfl (any_of HT_.out (by kernel_rfl)) (fun _ _ _ h => h) (Or.inl ⟨by rfl, ?_⟩) ?_ ?_
                                            rotate_left
                                            · intro w'
                                              go_simp
                                              with_reducible rfl
                                            rotate_left
                                            · simp only [Act.put, List.setIfInBounds_toArray, List.set_cons_zero, List.set_cons_succ, i64_w, i32_w]
                                              rfl
                                            refine pure_ (i := 38) (N := some 64) (v := ?_) (a' := ?_) #[false, true, true, true, true, false, false, false, true, false, false, false, false, true, true, false, false, false, false, true, true, false, false, true, false, false, false, true, true, false, false, false, true, true, true, false, false, false, true, false, false, false, false, false, false] rfl rfl (any_of HT_.out (by kernel_rfl)) (fun _ _ _ h => h) (Or.inl ⟨by rfl, ?_⟩) ?_ ?_
                                            rotate_left
                                            · intro w'
                                              go_simp
                                              with_reducible rfl
                                            rotate_left
                                            · simp only [Act.put, List.setIfInBounds_toArray, List.set_cons_zero, List.set_cons_succ, i64_w, i32_w]
                                              rfl
                                            refine pure_ (i := 39) (N := some 65) (v := ?_) (a' := ?_) #[false, true, true, true, true, false, false, false, true, false, false, false, false, true, true, false, false, false, false, true, true, false, false, true, false, false, false, true, true, false, false, false, true, true, true, false, false, false, true, true, false, false, false, false, false] rfl rfl (any_of HT_.out (by kernel_rfl)) (fun _ _ _ h => h) (Or.inl ⟨by rfl, ?_⟩) ?_ ?_
                                            rotate_left
                                            · intro w'
                                              go_simp
                                              with_reducible rfl
                                            rotate_left
                                            · simp only [Act.put, List.setIfInBounds_toArray, List.set_cons_zero, List.set_cons_succ, i64_w, i32_w]
                                              rfl
                                            refine one_ (i := 0) (N := some 26) #[true, true, true, true, true, false, false, false, true, false, false, false, false, true, true, false, false, false, false, true, true, false, false, true, false, false, false, true, true, false, false, false, true, true, true, false, false, false, true, true, false, false, false, false, false] rfl rfl (one_of HT_.out (by kernel_rfl)) (by decide) (fun K hK => ?_)
                                            refine goes_ Tryd.func23 (by kernel_rfl) rfl #[] (by rfl) rfl rfl (by (try simp only [List.map_toArray, List.map_cons, List.map_nil]); first | done | rfl | (simp only [List.length_drop, List.length_take]; rfl)) ?_
                                            with_reducible refine (sprref14_days.calls  t303 _ A7.out).mono ?_
                                            rintro e w36 ⟨v304, rfl, ho0, hb⟩
                                            refine ⟨_, rfl, ?_⟩
                                            have n0_ := Aside0.mk (Kd.R_lower ho0 (below_size (by repeat (first | (with_reducible first | exact HB.out | apply below_alloc | apply pw_below_drewN | apply below_drew1) | exact HB.out))))
                                            have n1_ := Aside0.mk (below_step (by repeat (first | (with_reducible first | exact HB.out | apply below_alloc | apply pw_below_drewN | apply below_drew1) | exact HB.out)) hb)
                                            clear HB
                                            have HO305 := n0_
                                            have HB := n1_
                                            clear n0_ n1_
                                            (try clear hb)
                                            (try clear hb2)
                                            (try clear hk)
                                            (try clear hi)
                                            (try clear ho0)
                                            obtain ⟨Ao37, co37, eo37⟩ := Kd.R_slice HO305.out
                                            (first | subst eo37 | (injection eo37 with f1_ f2_ f3_; have f4_ := f1_.symm; have f5_ := f3_.symm; clear f1_ f2_ f3_; subst f4_; subst f5_))
                                            have p306 : 0 ≤ ((ji8) : Int) := of_decide_eq_true (by first | (with_reducible assumption) | assumption)
                                            have q306 : (ji8) < (t303.length : Int) := of_decide_eq_true (by first | (with_reducible assumption) | assumption)
                                            obtain ⟨ad306, e306, hx306_0⟩ := Kd.at_string (Kd.R_reads' HO305.out).2.2 (ji8) p306 q306
                                            cases e306
                                            replace p306 := eq_true p306
                                            replace q306 := eq_true q306
                                            refine hK.out _ _ trivial (fun hHeld => ?_)
                                            refine rebase_ (S' := fun w' => w'.cell? (ad306.add ((ji8)).toNat) = some (.string (rdOf ByteArray.empty t303 (ji8)))) (fun _ _ => trivial) hx306_0 (fun hHeld => ?_)
                                            clear hK K
                                            refine norm_ (a' := ?_) ?_ ?_
                                            rotate_left
                                            · show Act.put _ (some 26) _ = _
                                              simp only [Act.put, List.setIfInBounds_toArray, List.set_cons_zero, List.set_cons_succ, i64_w, i32_w]
                                              rfl
                                            refine pure_ (i := 5) (N := some 31) (v := ?_) (a' := ?_) #[true, true, true, true, true, true, false, false, true, false, false, false, false, true, true, false, false, false, false, true, true, false, false, true, false, false, false, true, true, false, false, false, true, true, true, false, false, false, true, true, false, false, false, false, false] rfl rfl (any_of HT_.out (by kernel_rfl)) (fun _ _ _ h => h) (Or.inl ⟨by rfl, ?_⟩) ?_ ?_
                                            rotate_left
                                            · intro w'
                                              go_simp
                                              with_reducible rfl
                                            rotate_left
                                            · simp only [Act.put, List.setIfInBounds_toArray, List.set_cons_zero, List.set_cons_succ, i64_w, i32_w]
                                              rfl
                                            refine take_ (i := 6) (N := some 32) (v := ?_) (a' := ?_) #[true, true, true, true, true, true, true, false, true, false, false, false, false, true, true, false, false, false, false, true, true, false, false, true, false, false, false, true, true, false, false, false, true, true, true, false, false, false, true, true, false, false, false, false, false] rfl rfl (take_ofW HT_.out HW_.out (by kernel_rfl)) (fun _ _ _ h => h) (Or.inl ⟨by rfl, ?_⟩) hHeld ?_ ?_
                                            rotate_left
                                            · rintro w' s0
                                              go_simp
                                              with_reducible rfl
                                            rotate_left
                                            · simp only [Act.put, List.setIfInBounds_toArray, List.set_cons_zero, List.set_cons_succ, i64_w, i32_w]
                                              rfl
                                            refine pure_ (i := 7) (N := some 33) (v := ?_) (a' := ?_) #[true, true, true, true, true, true, true, true, true, false, false, false, false, true, true, false, false, false, false, true, true, false, false, true, false, false, false, true, true, false, false, false, true, true, true, false, false, false, true, true, false, false, false, false, false] rfl rfl (any_of HT_.out (by kernel_rfl)) (fun _ _ _ h => h) (Or.inl ⟨by rfl, ?_⟩) ?_ ?_
                                            rotate_left
                                            · intro w'
                                              go_simp
                                              with_reducible rfl
                                            rotate_left
                                            · simp only [Act.put, List.setIfInBounds_toArray, List.set_cons_zero, List.set_cons_succ, i64_w, i32_w]
                                              rfl
                                            refine one_ (i := 9) (N := some 35) #[true, true, true, true, true, true, true, true, true, true, false, false, false, true, true, false, false, false, false, true, true, false, false, true, false, false, false, true, true, false, false, false, true, true, true, false, false, false, true, true, false, false, false, false, false] rfl rfl (one_of HT_.out (by kernel_rfl)) (by decide) (fun K hK => ?_)
                                            refine goes_ Tryd.func38 (by kernel_rfl) rfl #[.int .i64 t301] (by rfl) rfl rfl (by (try simp only [List.map_toArray, List.map_cons, List.map_nil]); first | done | rfl | (simp only [List.length_drop, List.length_take]; rfl)) ?_
                                            with_reducible refine (sprref14_two.calls t301 t307 _ A12.out).mono ?_
                                            rintro e w38 ⟨rfl, hb⟩
                                            have HS0_ := (hb.cell (World.block_lt_of_cell? _ _ (hHeld))).trans (hHeld)
                                            refine ⟨_, rfl, ?_⟩
                                            have n0_ := Aside0.mk (Kd.R_below (by (with_reducible repeat (first | apply Kd.R_alloc | apply Kd.R_drewN | apply Kd.R_drew)); exact HO305.out) hb)
                                            have n1_ := Aside0.mk (below_step (by repeat (first | (with_reducible first | exact HB.out | apply below_alloc | apply pw_below_drewN | apply below_drew1) | exact HB.out)) hb)
                                            clear HO305
                                            clear HB
                                            have HO305 := n0_
                                            have HB := n1_
                                            clear n0_ n1_
                                            (try clear hb)
                                            (try clear hb2)
                                            (try clear hk)
                                            (try clear hi)
                                            refine hK.out _ _ HS0_ (fun hHeld => ?_)
                                            clear hK K
                                            refine norm_ (a' := ?_) ?_ ?_
                                            rotate_left
                                            · show Act.put _ (some 35) _ = _
                                              simp only [Act.put, List.setIfInBounds_toArray, List.set_cons_zero, List.set_cons_succ, i64_w, i32_w]
                                              rfl
                                            refine pure_ (i := 10) (N := some 36) (v := ?_) (a' := ?_) #[true, true, true, true, true, true, true, true, true, true, true, false, false, true, true, false, false, false, false, true, true, false, false, true, false, false, false, true, true, false, false, false, true, true, true, false, false, false, true, true, false, false, false, false, false] rfl rfl (any_of HT_.out (by kernel_rfl)) (fun _ _ _ h => h) (Or.inl ⟨by rfl, ?_⟩) ?_ ?_
                                            rotate_left
                                            · intro w'
                                              go_simp
                                              with_reducible rfl
                                            rotate_left
                                            · simp only [Act.put, List.setIfInBounds_toArray, List.set_cons_zero, List.set_cons_succ, i64_w, i32_w]
                                              rfl
                                            refine pure_ (i := 11) (N := some 37) (v := ?_) (a' := ?_) #[true, true, true, true, true, true, true, true, true, true, true, true, false, true, true, false, false, false, false, true, true, false, false, true, false, false, false, true, true, false, false, false, true, true, true, false, false, false, true, true, false, false, false, false, false] rfl rfl (any_of HT_.out (by kernel_rfl)) (fun _ _ _ h => h) (Or.inl ⟨by rfl, ?_⟩) ?_ ?_
                                            rotate_left
                                            · intro w'
                                              go_simp
                                              with_reducible rfl
                                            rotate_left
                                            · simp only [Act.put, List.setIfInBounds_toArray, List.set_cons_zero, List.set_cons_succ, i64_w, i32_w]
                                              rfl
                                            refine one_ (i := 12) (N := some 38) #[true, true, true, true, true, true, true, true, true, true, true, true, true, true, true, false, false, false, false, true, true, false, false, true, false, false, false, true, true, false, false, false, true, true, true, false, false, false, true, true, false, false, false, false, false] rfl rfl (one_of HT_.out (by kernel_rfl)) (by decide) (fun K hK => ?_)
                                            refine goes_ Tryd.func26 (by kernel_rfl) rfl #[] (by rfl) rfl rfl (by (try simp only [List.map_toArray, List.map_cons, List.map_nil]); first | done | rfl | (simp only [List.length_drop, List.length_take]; rfl)) ?_
                                            with_reducible refine (sprref14_months.calls  t308 _ A15.out).mono ?_
                                            rintro e w39 ⟨v309, rfl, ho0, hb⟩
                                            have HS0_ := (hb.cell (World.block_lt_of_cell? _ _ (hHeld))).trans (hHeld)
                                            refine ⟨_, rfl, ?_⟩
                                            have n0_ := Aside0.mk (Kd.R_elder' (by (with_reducible repeat (first | apply Kd.R_alloc | apply Kd.R_drewN | apply Kd.R_drew)); exact HO305.out) (Kd.R_base ho0) hb)
                                            have n1_ := Aside0.mk (Kd.R_lower (Kd.R_new' ho0 (Kd.R_lt (by (with_reducible repeat (first | apply Kd.R_alloc | apply Kd.R_drewN | apply Kd.R_drew)); exact HO305.out))) (below_size (by repeat (first | (with_reducible first | exact HB.out | apply below_alloc | apply pw_below_drewN | apply below_drew1) | exact HB.out))))
                                            have n2_ := Aside0.mk (below_step (by repeat (first | (with_reducible first | exact HB.out | apply below_alloc | apply pw_below_drewN | apply below_drew1) | exact HB.out)) hb)
                                            clear HO305
                                            clear HB
                                            have HO305 := n0_
                                            have HO310 := n1_
                                            have HB := n2_
                                            clear n0_ n1_ n2_
                                            (try clear hb)
                                            (try clear hb2)
                                            (try clear hk)
                                            (try clear hi)
                                            (try clear ho0)
                                            obtain ⟨Ao40, co40, eo40⟩ := Kd.R_slice HO310.out
                                            (first | subst eo40 | (injection eo40 with f1_ f2_ f3_; have f4_ := f1_.symm; have f5_ := f3_.symm; clear f1_ f2_ f3_; subst f4_; subst f5_))
                                            have p311 : 0 ≤ ((ji16) : Int) := of_decide_eq_true (by first | (with_reducible assumption) | assumption)
                                            have q311 : (ji16) < (t308.length : Int) := of_decide_eq_true (by first | (with_reducible assumption) | assumption)
                                            obtain ⟨ad311, e311, hx311_0⟩ := Kd.at_string (Kd.R_reads' HO310.out).2.2 (ji16) p311 q311
                                            cases e311
                                            replace p311 := eq_true p311
                                            replace q311 := eq_true q311
                                            refine hK.out _ _ HS0_ (fun hHeld => ?_)
                                            refine rebase_ (S' := fun w' => w'.cell? (ad306.add ((ji8)).toNat) = some (.string (rdOf ByteArray.empty t303 (ji8))) ∧ w'.cell? (ad311.add ((ji16)).toNat) = some (.string (rdOf ByteArray.empty t308 (ji16)))) (fun _ hHeld => hHeld.1) ⟨HS0_, hx311_0⟩ (fun hHeld => ?_)
                                            clear hK K
                                            refine norm_ (a' := ?_) ?_ ?_
                                            rotate_left
                                            · show Act.put _ (some 38) _ = _
                                              simp only [Act.put, List.setIfInBounds_toArray, List.set_cons_zero, List.set_cons_succ, i64_w, i32_w]
                                              rfl
                                            refine pure_ (i := 15) (N := some 41) (v := ?_) (a' := ?_) #[true, true, true, true, true, true, true, true, true, true, true, true, true, true, true, true, false, false, false, true, true, false, false, true, false, false, false, true, true, false, false, false, true, true, true, false, false, false, true, true, false, false, false, false, false] rfl rfl (any_of HT_.out (by kernel_rfl)) (fun _ _ _ h => h) (Or.inl ⟨by rfl, ?_⟩) ?_ ?_
                                            rotate_left
                                            · intro w'
                                              go_simp
                                              with_reducible rfl
                                            rotate_left
                                            · simp only [Act.put, List.setIfInBounds_toArray, List.set_cons_zero, List.set_cons_succ, i64_w, i32_w]
                                              rfl
                                            refine take_ (i := 16) (N := some 42) (v := ?_) (a' := ?_) #[true, true, true, true, true, true, true, true, true, true, true, true, true, true, true, true, true, false, false, true, true, false, false, true, false, false, false, true, true, false, false, false, true, true, true, false, false, false, true, true, false, false, false, false, false] rfl rfl (take_ofW HT_.out HW_.out (by kernel_rfl)) (fun _ _ _ h => h) (Or.inl ⟨by rfl, ?_⟩) hHeld ?_ ?_
                                            rotate_left
                                            · rintro w' ⟨s0, s1⟩
                                              go_simp
                                              with_reducible rfl
                                            rotate_left
                                            · simp only [Act.put, List.setIfInBounds_toArray, List.set_cons_zero, List.set_cons_succ, i64_w, i32_w]
                                              rfl
                                            refine pure_ (i := 17) (N := some 43) (v := ?_) (a' := ?_) #[true, true, true, true, true, true, true, true, true, true, true, true, true, true, true, true, true, true, false, true, true, false, false, true, false, false, false, true, true, false, false, false, true, true, true, false, false, false, true, true, false, false, false, false, false] rfl rfl (any_of HT_.out (by kernel_rfl)) (fun _ _ _ h => h) (Or.inl ⟨by rfl, ?_⟩) ?_ ?_
                                            rotate_left
                                            · intro w'
                                              go_simp
                                              with_reducible rfl
                                            rotate_left
                                            · simp only [Act.put, List.setIfInBounds_toArray, List.set_cons_zero, List.set_cons_succ, i64_w, i32_w]
                                              rfl
                                            refine pure_ (i := 18) (N := some 44) (v := ?_) (a' := ?_) #[true, true, true, true, true, true, true, true, true, true, true, true, true, true, true, true, true, true, true, true, true, false, false, true, false, false, false, true, true, false, false, false, true, true, true, false, false, false, true, true, false, false, false, false, false] rfl rfl (any_of HT_.out (by kernel_rfl)) (fun _ _ _ h => h) (Or.inl ⟨by rfl, ?_⟩) ?_ ?_
                                            rotate_left
                                            · intro w'
                                              go_simp
                                              with_reducible rfl
                                            rotate_left
                                            · simp only [Act.put, List.setIfInBounds_toArray, List.set_cons_zero, List.set_cons_succ, i64_w, i32_w]
                                              rfl
                                            refine one_ (i := 21) (N := some 47) #[true, true, true, true, true, true, true, true, true, true, true, true, true, true, true, true, true, true, true, true, true, true, false, true, false, false, false, true, true, false, false, false, true, true, true, false, false, false, true, true, false, false, false, false, false] rfl rfl (one_of HT_.out (by kernel_rfl)) (by decide) (fun K hK => ?_)
                                            refine goes_ Tryd.func38 (by kernel_rfl) rfl #[.int .i64 (wrap64 (Int.tdiv t299 100))] (by rfl) rfl rfl (by (try simp only [List.map_toArray, List.map_cons, List.map_nil]); first | done | rfl | (simp only [List.length_drop, List.length_take]; rfl)) ?_
                                            with_reducible refine (sprref14_two.calls (wrap64 (Int.tdiv t299 100)) t312 _ A21.out).mono ?_
                                            rintro e w41 ⟨rfl, hb⟩
                                            have HS0_ := (hb.cell (World.block_lt_of_cell? _ _ (hHeld.1))).trans (hHeld.1)
                                            have HS1_ := (hb.cell (World.block_lt_of_cell? _ _ (hHeld.2))).trans (hHeld.2)
                                            refine ⟨_, rfl, ?_⟩
                                            have n0_ := Aside0.mk (Kd.R_below (by (with_reducible repeat (first | apply Kd.R_alloc | apply Kd.R_drewN | apply Kd.R_drew)); exact HO305.out) hb)
                                            have n1_ := Aside0.mk (Kd.R_below (by (with_reducible repeat (first | apply Kd.R_alloc | apply Kd.R_drewN | apply Kd.R_drew)); exact HO310.out) hb)
                                            have n2_ := Aside0.mk (below_step (by repeat (first | (with_reducible first | exact HB.out | apply below_alloc | apply pw_below_drewN | apply below_drew1) | exact HB.out)) hb)
                                            clear HO305
                                            clear HO310
                                            clear HB
                                            have HO305 := n0_
                                            have HO310 := n1_
                                            have HB := n2_
                                            clear n0_ n1_ n2_
                                            (try clear hb)
                                            (try clear hb2)
                                            (try clear hk)
                                            (try clear hi)
                                            refine hK.out _ _ ⟨HS0_, HS1_⟩ (fun hHeld => ?_)
                                            clear hK K
                                            refine norm_ (a' := ?_) ?_ ?_
                                            rotate_left
                                            · show Act.put _ (some 47) _ = _
                                              simp only [Act.put, List.setIfInBounds_toArray, List.set_cons_zero, List.set_cons_succ, i64_w, i32_w]
                                              rfl
                                            refine pure_ (i := 22) (N := some 48) (v := ?_) (a' := ?_) #[true, true, true, true, true, true, true, true, true, true, true, true, true, true, true, true, true, true, true, true, true, true, true, true, false, false, false, true, true, false, false, false, true, true, true, false, false, false, true, true, false, false, false, false, false] rfl rfl (any_of HT_.out (by kernel_rfl)) (fun _ _ _ h => h) (Or.inl ⟨by rfl, ?_⟩) ?_ ?_
                                            rotate_left
                                            · intro w'
                                              go_simp
                                              with_reducible rfl
                                            rotate_left
                                            · simp only [Act.put, List.setIfInBounds_toArray, List.set_cons_zero, List.set_cons_succ, i64_w, i32_w]
                                              rfl
                                            refine one_ (i := 24) (N := some 50) #[true, true, true, true, true, true, true, true, true, true, true, true, true, true, true, true, true, true, true, true, true, true, true, true, true, false, false, true, true, false, false, false, true, true, true, false, false, false, true, true, false, false, false, false, false] rfl rfl (one_of HT_.out (by kernel_rfl)) (by decide) (fun K hK => ?_)
                                            refine goes_ Tryd.func38 (by kernel_rfl) rfl #[.int .i64 t299] (by rfl) rfl rfl (by (try simp only [List.map_toArray, List.map_cons, List.map_nil]); first | done | rfl | (simp only [List.length_drop, List.length_take]; rfl)) ?_
                                            with_reducible refine (sprref14_two.calls t299 t313 _ A23.out).mono ?_
                                            rintro e w42 ⟨rfl, hb⟩
                                            have HS0_ := (hb.cell (World.block_lt_of_cell? _ _ (hHeld.1))).trans (hHeld.1)
                                            have HS1_ := (hb.cell (World.block_lt_of_cell? _ _ (hHeld.2))).trans (hHeld.2)
                                            refine ⟨_, rfl, ?_⟩
                                            have n0_ := Aside0.mk (Kd.R_below (by (with_reducible repeat (first | apply Kd.R_alloc | apply Kd.R_drewN | apply Kd.R_drew)); exact HO305.out) hb)
                                            have n1_ := Aside0.mk (Kd.R_below (by (with_reducible repeat (first | apply Kd.R_alloc | apply Kd.R_drewN | apply Kd.R_drew)); exact HO310.out) hb)
                                            have n2_ := Aside0.mk (below_step (by repeat (first | (with_reducible first | exact HB.out | apply below_alloc | apply pw_below_drewN | apply below_drew1) | exact HB.out)) hb)
                                            clear HO305
                                            clear HO310
                                            clear HB
                                            have HO305 := n0_
                                            have HO310 := n1_
                                            have HB := n2_
                                            clear n0_ n1_ n2_
                                            (try clear hb)
                                            (try clear hb2)
                                            (try clear hk)
                                            (try clear hi)
                                            refine hK.out _ _ ⟨HS0_, HS1_⟩ (fun hHeld => ?_)
                                            clear hK K
                                            refine norm_ (a' := ?_) ?_ ?_
                                            rotate_left
                                            · show Act.put _ (some 50) _ = _
                                              simp only [Act.put, List.setIfInBounds_toArray, List.set_cons_zero, List.set_cons_succ, i64_w, i32_w]
                                              rfl
                                            refine pure_ (i := 25) (N := some 51) (v := ?_) (a' := ?_) #[true, true, true, true, true, true, true, true, true, true, true, true, true, true, true, true, true, true, true, true, true, true, true, true, true, true, false, true, true, false, false, false, true, true, true, false, false, false, true, true, false, false, false, false, false] rfl rfl (any_of HT_.out (by kernel_rfl)) (fun _ _ _ h => h) (Or.inl ⟨by rfl, ?_⟩) ?_ ?_
                                            rotate_left
                                            · intro w'
                                              go_simp
                                              with_reducible rfl
                                            rotate_left
                                            · simp only [Act.put, List.setIfInBounds_toArray, List.set_cons_zero, List.set_cons_succ, i64_w, i32_w]
                                              rfl
                                            refine pure_ (i := 26) (N := some 52) (v := ?_) (a' := ?_) #[true, true, true, true, true, true, true, true, true, true, true, true, true, true, true, true, true, true, true, true, true, true, true, true, true, true, true, true, true, false, false, false, true, true, true, false, false, false, true, true, false, false, false, false, false] rfl rfl (any_of HT_.out (by kernel_rfl)) (fun _ _ _ h => h) (Or.inl ⟨by rfl, ?_⟩) ?_ ?_
                                            rotate_left
                                            · intro w'
                                              go_simp
                                              with_reducible rfl
                                            rotate_left
                                            · simp only [Act.put, List.setIfInBounds_toArray, List.set_cons_zero, List.set_cons_succ, i64_w, i32_w]
                                              rfl
                                            refine one_ (i := 29) (N := some 55) #[true, true, true, true, true, true, true, true, true, true, true, true, true, true, true, true, true, true, true, true, true, true, true, true, true, true, true, true, true, true, false, false, true, true, true, false, false, false, true, true, false, false, false, false, false] rfl rfl (one_of HT_.out (by kernel_rfl)) (by decide) (fun K hK => ?_)
                                            refine goes_ Tryd.func38 (by kernel_rfl) rfl #[.int .i64 (wrap64 (Int.tdiv t302 3600))] (by rfl) rfl rfl (by (try simp only [List.map_toArray, List.map_cons, List.map_nil]); first | done | rfl | (simp only [List.length_drop, List.length_take]; rfl)) ?_
                                            with_reducible refine (sprref14_two.calls (wrap64 (Int.tdiv t302 3600)) t314 _ A26.out).mono ?_
                                            rintro e w43 ⟨rfl, hb⟩
                                            have HS0_ := (hb.cell (World.block_lt_of_cell? _ _ (hHeld.1))).trans (hHeld.1)
                                            have HS1_ := (hb.cell (World.block_lt_of_cell? _ _ (hHeld.2))).trans (hHeld.2)
                                            refine ⟨_, rfl, ?_⟩
                                            have n0_ := Aside0.mk (Kd.R_below (by (with_reducible repeat (first | apply Kd.R_alloc | apply Kd.R_drewN | apply Kd.R_drew)); exact HO305.out) hb)
                                            have n1_ := Aside0.mk (Kd.R_below (by (with_reducible repeat (first | apply Kd.R_alloc | apply Kd.R_drewN | apply Kd.R_drew)); exact HO310.out) hb)
                                            have n2_ := Aside0.mk (below_step (by repeat (first | (with_reducible first | exact HB.out | apply below_alloc | apply pw_below_drewN | apply below_drew1) | exact HB.out)) hb)
                                            clear HO305
                                            clear HO310
                                            clear HB
                                            have HO305 := n0_
                                            have HO310 := n1_
                                            have HB := n2_
                                            clear n0_ n1_ n2_
                                            (try clear hb)
                                            (try clear hb2)
                                            (try clear hk)
                                            (try clear hi)
                                            refine hK.out _ _ ⟨HS0_, HS1_⟩ (fun hHeld => ?_)
                                            clear hK K
                                            refine norm_ (a' := ?_) ?_ ?_
                                            rotate_left
                                            · show Act.put _ (some 55) _ = _
                                              simp only [Act.put, List.setIfInBounds_toArray, List.set_cons_zero, List.set_cons_succ, i64_w, i32_w]
                                              rfl
                                            refine pure_ (i := 30) (N := some 56) (v := ?_) (a' := ?_) #[true, true, true, true, true, true, true, true, true, true, true, true, true, true, true, true, true, true, true, true, true, true, true, true, true, true, true, true, true, true, true, false, true, true, true, false, false, false, true, true, false, false, false, false, false] rfl rfl (any_of HT_.out (by kernel_rfl)) (fun _ _ _ h => h) (Or.inl ⟨by rfl, ?_⟩) ?_ ?_
                                            rotate_left
                                            · intro w'
                                              go_simp
                                              with_reducible rfl
                                            rotate_left
                                            · simp only [Act.put, List.setIfInBounds_toArray, List.set_cons_zero, List.set_cons_succ, i64_w, i32_w]
                                              rfl
                                            refine pure_ (i := 31) (N := some 57) (v := ?_) (a' := ?_) #[true, true, true, true, true, true, true, true, true, true, true, true, true, true, true, true, true, true, true, true, true, true, true, true, true, true, true, true, true, true, true, true, true, true, true, false, false, false, true, true, false, false, false, false, false] rfl rfl (any_of HT_.out (by kernel_rfl)) (fun _ _ _ h => h) (Or.inl ⟨by rfl, ?_⟩) ?_ ?_
                                            rotate_left
                                            · intro w'
                                              go_simp
                                              with_reducible rfl
                                            rotate_left
                                            · simp only [Act.put, List.setIfInBounds_toArray, List.set_cons_zero, List.set_cons_succ, i64_w, i32_w]
                                              rfl
                                            refine one_ (i := 35) (N := some 61) #[true, true, true, true, true, true, true, true, true, true, true, true, true, true, true, true, true, true, true, true, true, true, true, true, true, true, true, true, true, true, true, true, true, true, true, true, false, false, true, true, false, false, false, false, false] rfl rfl (one_of HT_.out (by kernel_rfl)) (by decide) (fun K hK => ?_)
                                            refine goes_ Tryd.func38 (by kernel_rfl) rfl #[.int .i64 (Int.tmod (wrap64 (Int.tdiv t302 60)) 60)] (by rfl) rfl rfl (by (try simp only [List.map_toArray, List.map_cons, List.map_nil]); first | done | rfl | (simp only [List.length_drop, List.length_take]; rfl)) ?_
                                            with_reducible refine (sprref14_two.calls (Int.tmod (wrap64 (Int.tdiv t302 60)) 60) t315 _ A29.out).mono ?_
                                            rintro e w44 ⟨rfl, hb⟩
                                            have HS0_ := (hb.cell (World.block_lt_of_cell? _ _ (hHeld.1))).trans (hHeld.1)
                                            have HS1_ := (hb.cell (World.block_lt_of_cell? _ _ (hHeld.2))).trans (hHeld.2)
                                            refine ⟨_, rfl, ?_⟩
                                            have n0_ := Aside0.mk (Kd.R_below (by (with_reducible repeat (first | apply Kd.R_alloc | apply Kd.R_drewN | apply Kd.R_drew)); exact HO305.out) hb)
                                            have n1_ := Aside0.mk (Kd.R_below (by (with_reducible repeat (first | apply Kd.R_alloc | apply Kd.R_drewN | apply Kd.R_drew)); exact HO310.out) hb)
                                            have n2_ := Aside0.mk (below_step (by repeat (first | (with_reducible first | exact HB.out | apply below_alloc | apply pw_below_drewN | apply below_drew1) | exact HB.out)) hb)
                                            clear HO305
                                            clear HO310
                                            clear HB
                                            have HO305 := n0_
                                            have HO310 := n1_
                                            have HB := n2_
                                            clear n0_ n1_ n2_
                                            (try clear hb)
                                            (try clear hb2)
                                            (try clear hk)
                                            (try clear hi)
                                            refine hK.out _ _ ⟨HS0_, HS1_⟩ (fun hHeld => ?_)
                                            clear hK K
                                            refine norm_ (a' := ?_) ?_ ?_
                                            rotate_left
                                            · show Act.put _ (some 61) _ = _
                                              simp only [Act.put, List.setIfInBounds_toArray, List.set_cons_zero, List.set_cons_succ, i64_w, i32_w]
                                              rfl
                                            refine pure_ (i := 36) (N := some 62) (v := ?_) (a' := ?_) #[true, true, true, true, true, true, true, true, true, true, true, true, true, true, true, true, true, true, true, true, true, true, true, true, true, true, true, true, true, true, true, true, true, true, true, true, true, false, true, true, false, false, false, false, false] rfl rfl (any_of HT_.out (by kernel_rfl)) (fun _ _ _ h => h) (Or.inl ⟨by rfl, ?_⟩) ?_ ?_
                                            rotate_left
                                            · intro w'
                                              go_simp
                                              with_reducible rfl
                                            rotate_left
                                            · simp only [Act.put, List.setIfInBounds_toArray, List.set_cons_zero, List.set_cons_succ, i64_w, i32_w]
                                              rfl
                                            refine pure_ (i := 37) (N := some 63) (v := ?_) (a' := ?_) #[true, true, true, true, true, true, true, true, true, true, true, true, true, true, true, true, true, true, true, true, true, true, true, true, true, true, true, true, true, true, true, true, true, true, true, true, true, true, true, true, false, false, false, false, false] rfl rfl (any_of HT_.out (by kernel_rfl)) (fun _ _ _ h => h) (Or.inl ⟨by rfl, ?_⟩) ?_ ?_
                                            rotate_left
                                            · intro w'
                                              go_simp
                                              with_reducible rfl
                                            rotate_left
                                            · simp only [Act.put, List.setIfInBounds_toArray, List.set_cons_zero, List.set_cons_succ, i64_w, i32_w]
                                              rfl
                                            refine one_ (i := 40) (N := some 66) #[true, true, true, true, true, true, true, true, true, true, true, true, true, true, true, true, true, true, true, true, true, true, true, true, true, true, true, true, true, true, true, true, true, true, true, true, true, true, true, true, true, false, false, false, false] rfl rfl (one_of HT_.out (by kernel_rfl)) (by decide) (fun K hK => ?_)
                                            refine goes_ Tryd.func38 (by kernel_rfl) rfl #[.int .i64 (Int.tmod t302 60)] (by rfl) rfl rfl (by (try simp only [List.map_toArray, List.map_cons, List.map_nil]); first | done | rfl | (simp only [List.length_drop, List.length_take]; rfl)) ?_
                                            with_reducible refine (sprref14_two.calls (Int.tmod t302 60) t316 _ A32.out).mono ?_
                                            rintro e w45 ⟨rfl, hb⟩
                                            have HS0_ := (hb.cell (World.block_lt_of_cell? _ _ (hHeld.1))).trans (hHeld.1)
                                            have HS1_ := (hb.cell (World.block_lt_of_cell? _ _ (hHeld.2))).trans (hHeld.2)
                                            refine ⟨_, rfl, ?_⟩
                                            have n0_ := Aside0.mk (Kd.R_below (by (with_reducible repeat (first | apply Kd.R_alloc | apply Kd.R_drewN | apply Kd.R_drew)); exact HO305.out) hb)
                                            have n1_ := Aside0.mk (Kd.R_below (by (with_reducible repeat (first | apply Kd.R_alloc | apply Kd.R_drewN | apply Kd.R_drew)); exact HO310.out) hb)
                                            have n2_ := Aside0.mk (below_step (by repeat (first | (with_reducible first | exact HB.out | apply below_alloc | apply pw_below_drewN | apply below_drew1) | exact HB.out)) hb)
                                            clear HO305
                                            clear HO310
                                            clear HB
                                            have HO305 := n0_
                                            have HO310 := n1_
                                            have HB := n2_
                                            clear n0_ n1_ n2_
                                            (try clear hb)
                                            (try clear hb2)
                                            (try clear hk)
                                            (try clear hi)
                                            refine hK.out _ _ ⟨HS0_, HS1_⟩ (fun hHeld => ?_)
                                            clear hK K
                                            refine norm_ (a' := ?_) ?_ ?_
                                            rotate_left
                                            · show Act.put _ (some 66) _ = _
                                              simp only [Act.put, List.setIfInBounds_toArray, List.set_cons_zero, List.set_cons_succ, i64_w, i32_w]
                                              rfl
                                            refine pure_ (i := 41) (N := some 67) (v := ?_) (a' := ?_) #[true, true, true, true, true, true, true, true, true, true, true, true, true, true, true, true, true, true, true, true, true, true, true, true, true, true, true, true, true, true, true, true, true, true, true, true, true, true, true, true, true, true, false, false, false] rfl rfl (any_of HT_.out (by kernel_rfl)) (fun _ _ _ h => h) (Or.inl ⟨by rfl, ?_⟩) ?_ ?_
                                            rotate_left
                                            · intro w'
                                              go_simp
                                              with_reducible rfl
                                            rotate_left
                                            · simp only [Act.put, List.setIfInBounds_toArray, List.set_cons_zero, List.set_cons_succ, i64_w, i32_w]
                                              rfl
                                            refine pure_ (i := 42) (N := some 68) (v := ?_) (a' := ?_) #[true, true, true, true, true, true, true, true, true, true, true, true, true, true, true, true, true, true, true, true, true, true, true, true, true, true, true, true, true, true, true, true, true, true, true, true, true, true, true, true, true, true, true, false, false] rfl rfl (any_of HT_.out (by kernel_rfl)) (fun _ _ _ h => h) (Or.inl ⟨by rfl, ?_⟩) ?_ ?_
                                            rotate_left
                                            · intro w'
                                              go_simp
                                              with_reducible rfl
                                            rotate_left
                                            · simp only [Act.put, List.setIfInBounds_toArray, List.set_cons_zero, List.set_cons_succ, i64_w, i32_w]
                                              rfl
                                            refine pure_ (i := 43) (N := some 2) (v := ?_) (a' := ?_) #[true, true, true, true, true, true, true, true, true, true, true, true, true, true, true, true, true, true, true, true, true, true, true, true, true, true, true, true, true, true, true, true, true, true, true, true, true, true, true, true, true, true, true, true, false] rfl rfl (any_of HT_.out (by kernel_rfl)) (fun _ _ _ h => h) (Or.inl ⟨by rfl, ?_⟩) ?_ ?_
                                            rotate_left
                                            · intro w'
                                              go_simp
                                              with_reducible rfl
                                            rotate_left
                                            · simp only [Act.put, List.setIfInBounds_toArray, List.set_cons_zero, List.set_cons_succ, i64_w, i32_w]
                                              rfl
                                            refine pure_ (i := 44) (N := some 3) (v := ?_) (a' := ?_) #[true, true, true, true, true, true, true, true, true, true, true, true, true, true, true, true, true, true, true, true, true, true, true, true, true, true, true, true, true, true, true, true, true, true, true, true, true, true, true, true, true, true, true, true, true] rfl rfl (any_of HT_.out (by kernel_rfl)) (fun _ _ _ h => h) (Or.inl ⟨by rfl, ?_⟩) ?_ ?_
                                            rotate_left
                                            · intro w'
                                              go_simp
                                              with_reducible rfl
                                            rotate_left
                                            · simp only [Act.put, List.setIfInBounds_toArray, List.set_cons_zero, List.set_cons_succ, i64_w, i32_w]
                                              rfl
                                            refine done_ (done_of HT_.out (by kernel_rfl)) ?_
                                            try go_wp2
                                            go_ret2
                                            exact ⟨by first | rfl | (simp [errW_none, errW_some] <;> rfl) | (simp only [← hji8, ← hji16]; first | rfl | (simp [errW_none, errW_some] <;> rfl)) | (simp [*, errW_none, errW_some] <;> rfl), by repeat (first | (with_reducible first | exact HB.out | apply below_alloc | apply pw_below_drewN | apply below_drew1) | exact HB.out)⟩
                                          · rw [if_neg c34] at H
                                            exact absurd H (by simp)
                                        · rw [if_neg c33] at H
                                          exact absurd H (by simp)
                                      · rw [if_neg c31] at H
                                        exact absurd H (by simp)
                                    · rw [if_neg c30] at H
                                      exact absurd H (by simp)
                                  · rw [if_neg c28] at H
                                    exact absurd H (by simp)
                                · rw [if_neg c27] at H
                                  exact absurd H (by simp)
                              · rw [if_neg c25] at H
                                exact absurd H (by simp)
                            · rw [if_neg c24] at H
                              exact absurd H (by simp)
                          · rw [if_neg c22] at H
                            exact absurd H (by simp)
                        · rw [if_neg c20] at H
                          exact absurd H (by simp)
                      · rw [if_neg c19] at H
                        exact absurd H (by simp)
                    · rw [if_neg c18] at H
                      exact absurd H (by simp)
                  · rw [if_neg c17] at H
                    exact absurd H (by simp)
                · rw [if_neg c14] at H
                  exact absurd H (by simp)
              · rw [if_neg c13] at H
                exact absurd H (by simp)
            · rw [if_neg c11] at H
              exact absurd H (by simp)
          · rw [if_neg c10] at H
            exact absurd H (by simp)
        · rw [if_neg c9] at H
          exact absurd H (by simp)
  · replace c3 := Bool.eq_false_iff.mpr c3
    subst c3
    have H1 : (some ((⟨#[]⟩ : ByteArray), 1)) = some (r1, r2) := by rw [if_neg (show ¬ (false = true) by decide)] at H; exact H
    clear H
    have H := H1
    clear H1
    simp only [Option.some.injEq, Prod.mk.injEq] at H
    obtain ⟨rfl, rfl⟩ := H
    go_enter Tryd.func13, Tryd.ntmps13
    go_wp2_with (first | ((with_reducible refine gate_callee (f := 28) rfl ?_); refine goesL_ (some 10) rfl rfl Tryd.func28 (by kernel_rfl) rfl #[.int .i64 a0] rfl (by (try simp only [List.map_toArray, List.map_cons, List.map_nil]); first | done | rfl | (simp only [List.length_drop, List.length_take]; rfl)) ?_; (with_reducible refine (sprref14_in.calls a0 false _ A2.out).mono ?_); rintro e w' ⟨rfl, ⟨nd, rfl⟩⟩; refine ⟨_, rfl, ?_⟩))
    go_ret2
    exact ⟨by first | rfl | (simp [errW_none, errW_some] <;> rfl) | (simp [*, errW_none, errW_some] <;> rfl), by repeat (first | (with_reducible first | exact HB.out | apply below_alloc | apply pw_below_drewN | apply below_drew1) | exact HB.out)⟩

end Go.Proofs.YtnkmhgfhdgledaaDoor.R
