-- Written by a program of this session's (wip/xprint.py), out of the seat's translation.
import Derived.Test.YtnkmhgfhdgledaaDoorR0
import Derived.Test.YtnkmhgfhdgledaaDoorR1
import Derived.Test.YtnkmhgfhdgledaaDoorR2
import Derived.Test.YtnkmhgfhdgledaaDoorR4
import Derived.Test.YtnkmhgfhdgledaaDoorR6
namespace Go.Proofs.YtnkmhgfhdgledaaDoor.R
open Go.RowKit Go.Proofs.YtnkmhgfhdgledaaDoorW.PrintWords Go.Proofs.YtnkmhgfhdgledaaDoorW.PrintLast Go.Proofs.YtnkmhgfhdgledaaDoorW.PrintMore
attribute [local go_sem] max2_int min2_int max_two min_two max_three min_three max_four min_four   -- for this text's walks alone
set_option linter.unusedVariables false
set_option linter.unusedSimpArgs false

/-! ### date_Print: function 12 -/
def date_Print.l0 : Nat → Int → Int → Int → Int → Int → Option (ByteArray × Int)
  | 0, _, _, _, _, _ => none
  | k + 1, x4, x5, x6, x7, x8 => (date_length.f k x6 x8).bind fun t267 => (if x7 ≥ t267 then (date_Print.l0 k x4 x5 x6 (wrap64 (x7 - t267)) (wrap64 (x8 + 1))) else ((date_down.f (wrap64 (x4 + 4)) 7).bind fun bt268 => ((date_days.f).bind fun t270 => (if 0 ≤ bt268.2 then (if bt268.2 < (t270.length : Int) then (if 0 ≤ 3 then (if 3 ≤ ((rdOf ByteArray.empty t270 bt268.2).size : Int) then (if ((rdOf ByteArray.empty t270 bt268.2).extract 0 3).size + 2 ≤ 9223372036854775807 then ((date_digits.f k (wrap64 (x7 + 1)) 2).bind fun t274 => (if (((rdOf ByteArray.empty t270 bt268.2).extract 0 3) ++ (⟨#[44, 32]⟩ : ByteArray)).size + t274.size ≤ 9223372036854775807 then (if ((((rdOf ByteArray.empty t270 bt268.2).extract 0 3) ++ (⟨#[44, 32]⟩ : ByteArray)) ++ t274).size + 1 ≤ 9223372036854775807 then ((date_months.f).bind fun t275 => (if 0 ≤ (wrap64 (x8 - 1)) then (if (wrap64 (x8 - 1)) < (t275.length : Int) then (if (((((rdOf ByteArray.empty t270 bt268.2).extract 0 3) ++ (⟨#[44, 32]⟩ : ByteArray)) ++ t274) ++ (⟨#[32]⟩ : ByteArray)).size + (rdOf ByteArray.empty t275 (wrap64 (x8 - 1))).size ≤ 9223372036854775807 then (if ((((((rdOf ByteArray.empty t270 bt268.2).extract 0 3) ++ (⟨#[44, 32]⟩ : ByteArray)) ++ t274) ++ (⟨#[32]⟩ : ByteArray)) ++ (rdOf ByteArray.empty t275 (wrap64 (x8 - 1)))).size + 1 ≤ 9223372036854775807 then ((date_digits.f k x6 4).bind fun t279 => (if (((((((rdOf ByteArray.empty t270 bt268.2).extract 0 3) ++ (⟨#[44, 32]⟩ : ByteArray)) ++ t274) ++ (⟨#[32]⟩ : ByteArray)) ++ (rdOf ByteArray.empty t275 (wrap64 (x8 - 1)))) ++ (⟨#[32]⟩ : ByteArray)).size + t279.size ≤ 9223372036854775807 then (if ((((((((rdOf ByteArray.empty t270 bt268.2).extract 0 3) ++ (⟨#[44, 32]⟩ : ByteArray)) ++ t274) ++ (⟨#[32]⟩ : ByteArray)) ++ (rdOf ByteArray.empty t275 (wrap64 (x8 - 1)))) ++ (⟨#[32]⟩ : ByteArray)) ++ t279).size + 1 ≤ 9223372036854775807 then ((date_digits.f k (wrap64 (Int.tdiv x5 3600)) 2).bind fun t280 => (if (((((((((rdOf ByteArray.empty t270 bt268.2).extract 0 3) ++ (⟨#[44, 32]⟩ : ByteArray)) ++ t274) ++ (⟨#[32]⟩ : ByteArray)) ++ (rdOf ByteArray.empty t275 (wrap64 (x8 - 1)))) ++ (⟨#[32]⟩ : ByteArray)) ++ t279) ++ (⟨#[32]⟩ : ByteArray)).size + t280.size ≤ 9223372036854775807 then (if ((((((((((rdOf ByteArray.empty t270 bt268.2).extract 0 3) ++ (⟨#[44, 32]⟩ : ByteArray)) ++ t274) ++ (⟨#[32]⟩ : ByteArray)) ++ (rdOf ByteArray.empty t275 (wrap64 (x8 - 1)))) ++ (⟨#[32]⟩ : ByteArray)) ++ t279) ++ (⟨#[32]⟩ : ByteArray)) ++ t280).size + 1 ≤ 9223372036854775807 then ((date_digits.f k (Int.tmod (wrap64 (Int.tdiv x5 60)) 60) 2).bind fun t281 => (if (((((((((((rdOf ByteArray.empty t270 bt268.2).extract 0 3) ++ (⟨#[44, 32]⟩ : ByteArray)) ++ t274) ++ (⟨#[32]⟩ : ByteArray)) ++ (rdOf ByteArray.empty t275 (wrap64 (x8 - 1)))) ++ (⟨#[32]⟩ : ByteArray)) ++ t279) ++ (⟨#[32]⟩ : ByteArray)) ++ t280) ++ (⟨#[58]⟩ : ByteArray)).size + t281.size ≤ 9223372036854775807 then (if ((((((((((((rdOf ByteArray.empty t270 bt268.2).extract 0 3) ++ (⟨#[44, 32]⟩ : ByteArray)) ++ t274) ++ (⟨#[32]⟩ : ByteArray)) ++ (rdOf ByteArray.empty t275 (wrap64 (x8 - 1)))) ++ (⟨#[32]⟩ : ByteArray)) ++ t279) ++ (⟨#[32]⟩ : ByteArray)) ++ t280) ++ (⟨#[58]⟩ : ByteArray)) ++ t281).size + 1 ≤ 9223372036854775807 then ((date_digits.f k (Int.tmod x5 60) 2).bind fun t282 => (if (((((((((((((rdOf ByteArray.empty t270 bt268.2).extract 0 3) ++ (⟨#[44, 32]⟩ : ByteArray)) ++ t274) ++ (⟨#[32]⟩ : ByteArray)) ++ (rdOf ByteArray.empty t275 (wrap64 (x8 - 1)))) ++ (⟨#[32]⟩ : ByteArray)) ++ t279) ++ (⟨#[32]⟩ : ByteArray)) ++ t280) ++ (⟨#[58]⟩ : ByteArray)) ++ t281) ++ (⟨#[58]⟩ : ByteArray)).size + t282.size ≤ 9223372036854775807 then (if ((((((((((((((rdOf ByteArray.empty t270 bt268.2).extract 0 3) ++ (⟨#[44, 32]⟩ : ByteArray)) ++ t274) ++ (⟨#[32]⟩ : ByteArray)) ++ (rdOf ByteArray.empty t275 (wrap64 (x8 - 1)))) ++ (⟨#[32]⟩ : ByteArray)) ++ t279) ++ (⟨#[32]⟩ : ByteArray)) ++ t280) ++ (⟨#[58]⟩ : ByteArray)) ++ t281) ++ (⟨#[58]⟩ : ByteArray)) ++ t282).size + 4 ≤ 9223372036854775807 then (some (((((((((((((((rdOf ByteArray.empty t270 bt268.2).extract 0 3) ++ (⟨#[44, 32]⟩ : ByteArray)) ++ t274) ++ (⟨#[32]⟩ : ByteArray)) ++ (rdOf ByteArray.empty t275 (wrap64 (x8 - 1)))) ++ (⟨#[32]⟩ : ByteArray)) ++ t279) ++ (⟨#[32]⟩ : ByteArray)) ++ t280) ++ (⟨#[58]⟩ : ByteArray)) ++ t281) ++ (⟨#[58]⟩ : ByteArray)) ++ t282) ++ (⟨#[32, 71, 77, 84]⟩ : ByteArray), 0)) else (none)) else (none))) else (none)) else (none))) else (none)) else (none))) else (none)) else (none))) else (none)) else (none)) else (none)) else (none))) else (none)) else (none))) else (none)) else (none)) else (none)) else (none)) else (none)))))
def date_Print.f (k : Nat) (a0 : Int) : Option (ByteArray × Int) := (date_within.f a0).bind fun t262 => (if t262 = true then ((date_down.f a0 86400).bind fun bt263 => ((date_yearOf.f k bt263.1).bind fun bt265 => (date_Print.l0 k bt263.1 bt263.2 bt265.1 bt265.2 1))) else (some ((⟨#[]⟩ : ByteArray), 1)))
theorem date_Print.mono_l : ∀ k, (∀ y0 y1 y2 y3 y4, LeO (date_Print.l0 k y0 y1 y2 y3 y4) (date_Print.l0 (k + 1) y0 y1 y2 y3 y4))
  | 0 => fun _ _ _ _ _ r h => by simp [date_Print.l0] at h
  | k + 1 => by
    have ih0 := date_Print.mono_l k
    · intro y0 y1 y2 y3 y4
      unfold date_Print.l0
      repeat' first
      | (with_reducible exact ih0 _ _ _ _ _)
      | (with_reducible exact date_digits.mono _ _ _)
      | (with_reducible exact date_length.mono _ _ _)
      | (with_reducible exact date_yearOf.mono _ _)
      | (with_reducible exact LeO.refl _)
      | (with_reducible exact LeO.none _)
      | (with_reducible refine LeO.ite ?_ ?_)
      | (with_reducible refine LeO.bind ?_ (fun _ => ?_))
      | exact ih0 _ _ _ _ _
      | exact date_digits.mono _ _ _
      | exact date_length.mono _ _ _
      | exact date_yearOf.mono _ _
      | exact LeO.none _
      | refine LeO.ite ?_ ?_
      | refine LeO.bind ?_ (fun _ => ?_)
theorem date_Print.mono : ∀ a0 k, LeO (date_Print.f k a0) (date_Print.f (k + 1) a0) := by
  intro a0 k
  have ih0 := date_Print.mono_l k
  unfold date_Print.f
  repeat' first
      | (with_reducible exact ih0 _ _ _ _ _)
      | (with_reducible exact date_digits.mono _ _ _)
      | (with_reducible exact date_length.mono _ _ _)
      | (with_reducible exact date_yearOf.mono _ _)
      | (with_reducible exact LeO.refl _)
      | (with_reducible exact LeO.none _)
      | (with_reducible refine LeO.ite ?_ ?_)
      | (with_reducible refine LeO.bind ?_ (fun _ => ?_))
      | exact ih0 _ _ _ _ _
      | exact date_digits.mono _ _ _
      | exact date_length.mono _ _ _
      | exact date_yearOf.mono _ _
      | exact LeO.none _
      | refine LeO.ite ?_ ?_
      | refine LeO.bind ?_ (fun _ => ?_)
def date_Print.T10 : Bool × List (List Nat × List Nat) := (true, [([], []), ([], []), ([0, 1], [0, 1]), ([2], [2]), ([3], [3]), ([4], [4]), ([], []), ([6], [6]), ([7, 0], [7]), ([5, 8], [5, 8]), ([9], [9]), ([8], []), ([], []), ([12], [12]), ([11, 13], [11, 13]), ([14], [14]), ([10, 15], [10, 15]), ([16], [16]), ([], []), ([18, 11], [18]), ([17, 19], [17, 19]), ([20], [20]), ([], []), ([22], [22]), ([23, 19], [23]), ([21, 24], [21, 24]), ([25], [25]), ([], []), ([27], [27]), ([28], [28]), ([29, 24], [29]), ([26, 30], [26, 30]), ([31], [31]), ([], []), ([33], [33]), ([34, 30], [34]), ([32, 35], [32, 35]), ([36], [36]), ([37, 35, 0, 1, 2, 3, 4, 5, 6, 7, 8, 9, 10, 11, 12, 13, 14, 15, 16, 17, 18, 19, 20, 21, 22, 23, 24, 25, 26, 27, 28, 29, 30, 31, 32, 33, 34, 35, 36, 37], [37]), ([38, 0, 1, 2, 3, 4, 5, 6, 7, 8, 9, 10, 11, 12, 13, 14, 15, 16, 17, 18, 19, 20, 21, 22, 23, 24, 25, 26, 27, 28, 29, 30, 31, 32, 33, 34, 35, 36, 37, 38], [])])
def date_Print.B10 : List Nat := [0, 0, 3, 7, 15, 31, 0, 64, 193, 511, 1023, 449, 0, 4096, 14785, 31169, 65535, 131071, 0, 264641, 1048575, 2097151, 0, 4194304, 13371841, 33554431, 67108863, 0, 134217728, 402653184, 969673153, 2147483647, 4294967295, 0, 8589934592, 27813218753, 68719476735, 137438953471, 274877906943, 549755813887]
theorem date_Print.tab10 : rtab .any (opsOf Tryd.f12 10) = date_Print.T10 := by kernel_rfl
theorem date_Print.bits10 : waitsOk date_Print.T10.2 date_Print.B10 = true := by kernel_rfl
set_option maxHeartbeats 2000000 in
set_option maxRecDepth 100000 in
theorem date_Print.calls (k : Nat) (a0 : Int) (r1 : ByteArray) (r2 : Int) (w : World) (h : date_Print.f k a0 = some (r1, r2)) (hT0 : Lib.TabIs Tryd.prog w "internal/strconv.uint64pow10" .u64 Lib.pow10Tab) :
    Calls Tryd.prog 12 #[.int .i64 a0] w fun e w' => e = .returned (.tuple #[.string r1, .int .i64 r2]) ∧ Below w.heap.size w w' := by
  have HT0 := Aside0.mk hT0
  clear hT0
  have HB := Aside0.mk (Below.refl w.heap.size w)
  have H : ((date_within.f a0).bind fun t262 => (if t262 = true then ((date_down.f a0 86400).bind fun bt263 => ((date_yearOf.f k bt263.1).bind fun bt265 => (date_Print.l0 k bt263.1 bt263.2 bt265.1 bt265.2 1))) else (some ((⟨#[]⟩ : ByteArray), 1)))) = some (r1, r2) := h
  clear h
  replace H := Option.bind_eq_some_iff.mp H
  obtain ⟨t262, A20, H⟩ := H
  replace H : (if t262 = true then ((date_down.f a0 86400).bind fun bt263 => ((date_yearOf.f k bt263.1).bind fun bt265 => (date_Print.l0 k bt263.1 bt263.2 bt265.1 bt265.2 1))) else (some ((⟨#[]⟩ : ByteArray), 1))) = some (r1, r2) := H
  have A2 := Aside0.mk A20
  clear A20
  by_cases c3 : t262 = true
  · subst c3
    have H1 : ((date_down.f a0 86400).bind fun bt263 => ((date_yearOf.f k bt263.1).bind fun bt265 => (date_Print.l0 k bt263.1 bt263.2 bt265.1 bt265.2 1))) = some (r1, r2) := by rw [if_pos rfl] at H; exact H
    clear H
    have H := H1
    clear H1
    replace H := Option.bind_eq_some_iff.mp H
    obtain ⟨⟨t263, t264⟩, A40, H⟩ := H
    replace H : ((date_yearOf.f k t263).bind fun bt265 => (date_Print.l0 k t263 t264 bt265.1 bt265.2 1)) = some (r1, r2) := H
    have A4 := Aside0.mk A40
    clear A40
    replace H := Option.bind_eq_some_iff.mp H
    obtain ⟨⟨t265, t266⟩, A50, H⟩ := H
    replace H : (date_Print.l0 k t263 t264 t265 t266 1) = some (r1, r2) := H
    have A5 := Aside0.mk A50
    clear A50
    have H' := Aside0.mk H
    clear H
    go_enter Tryd.func12, Tryd.ntmps12
    go_wp2_with (first | ((with_reducible refine gate_callee (f := 31) rfl ?_); refine goesL_ (some 12) rfl rfl Tryd.func31 (by kernel_rfl) rfl #[.int .i64 a0] rfl (by (try simp only [List.map_toArray, List.map_cons, List.map_nil]); first | done | rfl | (simp only [List.length_drop, List.length_take]; rfl)) ?_; (with_reducible refine (date_within.calls a0 true _ A2.out).mono ?_); rintro e w' ⟨rfl, ⟨nd, rfl⟩⟩; refine ⟨_, rfl, ?_⟩) | ((with_reducible refine gate_callee (f := 32) rfl ?_); refine goesL_ (some 16) rfl rfl Tryd.func32 (by kernel_rfl) rfl #[.int .i64 a0, .int .i64 86400] rfl (by (try simp only [List.map_toArray, List.map_cons, List.map_nil]); first | done | rfl | (simp only [List.length_drop, List.length_take]; rfl)) ?_; (with_reducible refine (date_down.calls a0 86400 t263 t264 _ A4.out).mono ?_); rintro e w' ⟨rfl, ⟨nd, rfl⟩⟩; refine ⟨_, rfl, ?_⟩) | ((with_reducible refine gate_callee (f := 33) rfl ?_); refine goesL_ (some 21) rfl rfl Tryd.func33 (by kernel_rfl) rfl #[.int .i64 t263] rfl (by (try simp only [List.map_toArray, List.map_cons, List.map_nil]); first | done | rfl | (simp only [List.length_drop, List.length_take]; rfl)) ?_; (with_reducible refine (date_yearOf.calls k t263 t265 t266 _ A5.out).mono ?_); rintro e w' ⟨rfl, ⟨nd, rfl⟩⟩; refine ⟨_, rfl, ?_⟩))
    go_loopg [7, 8] k (fun kq v7 v8 w' => ∃ (x7_1 : Int) (x8_1 : Int), v7 = .int .i64 x7_1 ∧ v8 = .int .i64 x8_1 ∧ Aside0 (date_Print.l0 kq t263 t264 t265 x7_1 x8_1 = some (r1, r2)) ∧ Aside0 (kq ≤ k) ∧ Aside0 (Below w.heap.size w w'))
    case atStart => exact ⟨(t266), (1), (by first | rfl | (simp; done) | (simp [*]; done)), (by first | rfl | (simp; done) | (simp [*]; done)), H', ⟨Nat.le_refl _⟩, ⟨by repeat (first | (with_reducible first | exact HB.out | apply below_alloc | apply pw_below_drewN | apply below_drew1) | exact HB.out)⟩⟩
    case round =>
      clear H'
      try clear c1
      try clear p2
      try clear c3
      obtain ⟨x7_1, x8_1, rfl, rfl, HA, HK1, HB⟩ := hrel
      cases gk with
      | zero => exact absurd HA.out (by simp [date_Print.l0])
      | succ k1 =>
        have H := HA.out
        clear HA
        simp only [date_Print.l0] at H
        replace H := Option.bind_eq_some_iff.mp H
        obtain ⟨t267, A60, H⟩ := H
        replace H : (if x7_1 ≥ t267 then (date_Print.l0 k1 t263 t264 t265 (wrap64 (x7_1 - t267)) (wrap64 (x8_1 + 1))) else ((date_down.f (wrap64 (t263 + 4)) 7).bind fun bt268 => ((date_days.f).bind fun t270 => (if 0 ≤ bt268.2 then (if bt268.2 < (t270.length : Int) then (if 0 ≤ 3 then (if 3 ≤ ((rdOf ByteArray.empty t270 bt268.2).size : Int) then (if ((rdOf ByteArray.empty t270 bt268.2).extract 0 3).size + 2 ≤ 9223372036854775807 then ((date_digits.f k1 (wrap64 (x7_1 + 1)) 2).bind fun t274 => (if (((rdOf ByteArray.empty t270 bt268.2).extract 0 3) ++ (⟨#[44, 32]⟩ : ByteArray)).size + t274.size ≤ 9223372036854775807 then (if ((((rdOf ByteArray.empty t270 bt268.2).extract 0 3) ++ (⟨#[44, 32]⟩ : ByteArray)) ++ t274).size + 1 ≤ 9223372036854775807 then ((date_months.f).bind fun t275 => (if 0 ≤ (wrap64 (x8_1 - 1)) then (if (wrap64 (x8_1 - 1)) < (t275.length : Int) then (if (((((rdOf ByteArray.empty t270 bt268.2).extract 0 3) ++ (⟨#[44, 32]⟩ : ByteArray)) ++ t274) ++ (⟨#[32]⟩ : ByteArray)).size + (rdOf ByteArray.empty t275 (wrap64 (x8_1 - 1))).size ≤ 9223372036854775807 then (if ((((((rdOf ByteArray.empty t270 bt268.2).extract 0 3) ++ (⟨#[44, 32]⟩ : ByteArray)) ++ t274) ++ (⟨#[32]⟩ : ByteArray)) ++ (rdOf ByteArray.empty t275 (wrap64 (x8_1 - 1)))).size + 1 ≤ 9223372036854775807 then ((date_digits.f k1 t265 4).bind fun t279 => (if (((((((rdOf ByteArray.empty t270 bt268.2).extract 0 3) ++ (⟨#[44, 32]⟩ : ByteArray)) ++ t274) ++ (⟨#[32]⟩ : ByteArray)) ++ (rdOf ByteArray.empty t275 (wrap64 (x8_1 - 1)))) ++ (⟨#[32]⟩ : ByteArray)).size + t279.size ≤ 9223372036854775807 then (if ((((((((rdOf ByteArray.empty t270 bt268.2).extract 0 3) ++ (⟨#[44, 32]⟩ : ByteArray)) ++ t274) ++ (⟨#[32]⟩ : ByteArray)) ++ (rdOf ByteArray.empty t275 (wrap64 (x8_1 - 1)))) ++ (⟨#[32]⟩ : ByteArray)) ++ t279).size + 1 ≤ 9223372036854775807 then ((date_digits.f k1 (wrap64 (Int.tdiv t264 3600)) 2).bind fun t280 => (if (((((((((rdOf ByteArray.empty t270 bt268.2).extract 0 3) ++ (⟨#[44, 32]⟩ : ByteArray)) ++ t274) ++ (⟨#[32]⟩ : ByteArray)) ++ (rdOf ByteArray.empty t275 (wrap64 (x8_1 - 1)))) ++ (⟨#[32]⟩ : ByteArray)) ++ t279) ++ (⟨#[32]⟩ : ByteArray)).size + t280.size ≤ 9223372036854775807 then (if ((((((((((rdOf ByteArray.empty t270 bt268.2).extract 0 3) ++ (⟨#[44, 32]⟩ : ByteArray)) ++ t274) ++ (⟨#[32]⟩ : ByteArray)) ++ (rdOf ByteArray.empty t275 (wrap64 (x8_1 - 1)))) ++ (⟨#[32]⟩ : ByteArray)) ++ t279) ++ (⟨#[32]⟩ : ByteArray)) ++ t280).size + 1 ≤ 9223372036854775807 then ((date_digits.f k1 (Int.tmod (wrap64 (Int.tdiv t264 60)) 60) 2).bind fun t281 => (if (((((((((((rdOf ByteArray.empty t270 bt268.2).extract 0 3) ++ (⟨#[44, 32]⟩ : ByteArray)) ++ t274) ++ (⟨#[32]⟩ : ByteArray)) ++ (rdOf ByteArray.empty t275 (wrap64 (x8_1 - 1)))) ++ (⟨#[32]⟩ : ByteArray)) ++ t279) ++ (⟨#[32]⟩ : ByteArray)) ++ t280) ++ (⟨#[58]⟩ : ByteArray)).size + t281.size ≤ 9223372036854775807 then (if ((((((((((((rdOf ByteArray.empty t270 bt268.2).extract 0 3) ++ (⟨#[44, 32]⟩ : ByteArray)) ++ t274) ++ (⟨#[32]⟩ : ByteArray)) ++ (rdOf ByteArray.empty t275 (wrap64 (x8_1 - 1)))) ++ (⟨#[32]⟩ : ByteArray)) ++ t279) ++ (⟨#[32]⟩ : ByteArray)) ++ t280) ++ (⟨#[58]⟩ : ByteArray)) ++ t281).size + 1 ≤ 9223372036854775807 then ((date_digits.f k1 (Int.tmod t264 60) 2).bind fun t282 => (if (((((((((((((rdOf ByteArray.empty t270 bt268.2).extract 0 3) ++ (⟨#[44, 32]⟩ : ByteArray)) ++ t274) ++ (⟨#[32]⟩ : ByteArray)) ++ (rdOf ByteArray.empty t275 (wrap64 (x8_1 - 1)))) ++ (⟨#[32]⟩ : ByteArray)) ++ t279) ++ (⟨#[32]⟩ : ByteArray)) ++ t280) ++ (⟨#[58]⟩ : ByteArray)) ++ t281) ++ (⟨#[58]⟩ : ByteArray)).size + t282.size ≤ 9223372036854775807 then (if ((((((((((((((rdOf ByteArray.empty t270 bt268.2).extract 0 3) ++ (⟨#[44, 32]⟩ : ByteArray)) ++ t274) ++ (⟨#[32]⟩ : ByteArray)) ++ (rdOf ByteArray.empty t275 (wrap64 (x8_1 - 1)))) ++ (⟨#[32]⟩ : ByteArray)) ++ t279) ++ (⟨#[32]⟩ : ByteArray)) ++ t280) ++ (⟨#[58]⟩ : ByteArray)) ++ t281) ++ (⟨#[58]⟩ : ByteArray)) ++ t282).size + 4 ≤ 9223372036854775807 then (some (((((((((((((((rdOf ByteArray.empty t270 bt268.2).extract 0 3) ++ (⟨#[44, 32]⟩ : ByteArray)) ++ t274) ++ (⟨#[32]⟩ : ByteArray)) ++ (rdOf ByteArray.empty t275 (wrap64 (x8_1 - 1)))) ++ (⟨#[32]⟩ : ByteArray)) ++ t279) ++ (⟨#[32]⟩ : ByteArray)) ++ t280) ++ (⟨#[58]⟩ : ByteArray)) ++ t281) ++ (⟨#[58]⟩ : ByteArray)) ++ t282) ++ (⟨#[32, 71, 77, 84]⟩ : ByteArray), 0)) else (none)) else (none))) else (none)) else (none))) else (none)) else (none))) else (none)) else (none))) else (none)) else (none)) else (none)) else (none))) else (none)) else (none))) else (none)) else (none)) else (none)) else (none)) else (none))))) = some (r1, r2) := H
        have A6 := Aside0.mk A60
        clear A60
        by_cases c7 : x7_1 ≥ t267
        · rw [if_pos c7] at H
          have c7b0 : decide (t267 ≤ x7_1) = true := decide_eq_true c7
          clear c7
          have H' := Aside0.mk H
          clear H
          go_wp2_with (first | ((with_reducible refine gate_callee (f := 34) rfl ?_); refine goesL_ (some 27) rfl rfl Tryd.func34 (by kernel_rfl) rfl #[.int .i64 t265, .int .i64 x8_1] rfl (by (try simp only [List.map_toArray, List.map_cons, List.map_nil]); first | done | rfl | (simp only [List.length_drop, List.length_take]; rfl)) ?_; (with_reducible refine (date_length.calls k1 t265 x8_1 t267 _ A6.out).mono ?_); rintro e w' ⟨rfl, ⟨nd, rfl⟩⟩; refine ⟨_, rfl, ?_⟩) | ((with_reducible refine gate_callee (f := 34) rfl ?_); refine goesL_ (some 32) rfl rfl Tryd.func34 (by kernel_rfl) rfl #[.int .i64 t265, .int .i64 x8_1] rfl (by (try simp only [List.map_toArray, List.map_cons, List.map_nil]); first | done | rfl | (simp only [List.length_drop, List.length_take]; rfl)) ?_; (with_reducible refine (date_length.calls k1 t265 x8_1 t267 _ A6.out).mono ?_); rintro e w' ⟨rfl, ⟨nd, rfl⟩⟩; refine ⟨_, rfl, ?_⟩))
          go_roundg k1
          case measure => have := HK1.out; omega
          case rel => exact ⟨(wrap64 (x7_1 - t267)), (wrap64 (x8_1 + 1)), (by first | rfl | (simp; done) | (simp [*]; done)), (by first | rfl | (simp; done) | (simp [*]; done)), H', ⟨by have := HK1.out; omega⟩, ⟨by repeat (first | (with_reducible first | exact HB.out | apply below_alloc | apply pw_below_drewN | apply below_drew1) | exact HB.out)⟩⟩
        · rw [if_neg c7] at H
          have c7b0 : decide (t267 ≤ x7_1) = false := decide_eq_false c7
          clear c7
          replace H := Option.bind_eq_some_iff.mp H
          obtain ⟨⟨t268, t269⟩, A80, H⟩ := H
          replace H : ((date_days.f).bind fun t270 => (if 0 ≤ t269 then (if t269 < (t270.length : Int) then (if 0 ≤ 3 then (if 3 ≤ ((rdOf ByteArray.empty t270 t269).size : Int) then (if ((rdOf ByteArray.empty t270 t269).extract 0 3).size + 2 ≤ 9223372036854775807 then ((date_digits.f k1 (wrap64 (x7_1 + 1)) 2).bind fun t274 => (if (((rdOf ByteArray.empty t270 t269).extract 0 3) ++ (⟨#[44, 32]⟩ : ByteArray)).size + t274.size ≤ 9223372036854775807 then (if ((((rdOf ByteArray.empty t270 t269).extract 0 3) ++ (⟨#[44, 32]⟩ : ByteArray)) ++ t274).size + 1 ≤ 9223372036854775807 then ((date_months.f).bind fun t275 => (if 0 ≤ (wrap64 (x8_1 - 1)) then (if (wrap64 (x8_1 - 1)) < (t275.length : Int) then (if (((((rdOf ByteArray.empty t270 t269).extract 0 3) ++ (⟨#[44, 32]⟩ : ByteArray)) ++ t274) ++ (⟨#[32]⟩ : ByteArray)).size + (rdOf ByteArray.empty t275 (wrap64 (x8_1 - 1))).size ≤ 9223372036854775807 then (if ((((((rdOf ByteArray.empty t270 t269).extract 0 3) ++ (⟨#[44, 32]⟩ : ByteArray)) ++ t274) ++ (⟨#[32]⟩ : ByteArray)) ++ (rdOf ByteArray.empty t275 (wrap64 (x8_1 - 1)))).size + 1 ≤ 9223372036854775807 then ((date_digits.f k1 t265 4).bind fun t279 => (if (((((((rdOf ByteArray.empty t270 t269).extract 0 3) ++ (⟨#[44, 32]⟩ : ByteArray)) ++ t274) ++ (⟨#[32]⟩ : ByteArray)) ++ (rdOf ByteArray.empty t275 (wrap64 (x8_1 - 1)))) ++ (⟨#[32]⟩ : ByteArray)).size + t279.size ≤ 9223372036854775807 then (if ((((((((rdOf ByteArray.empty t270 t269).extract 0 3) ++ (⟨#[44, 32]⟩ : ByteArray)) ++ t274) ++ (⟨#[32]⟩ : ByteArray)) ++ (rdOf ByteArray.empty t275 (wrap64 (x8_1 - 1)))) ++ (⟨#[32]⟩ : ByteArray)) ++ t279).size + 1 ≤ 9223372036854775807 then ((date_digits.f k1 (wrap64 (Int.tdiv t264 3600)) 2).bind fun t280 => (if (((((((((rdOf ByteArray.empty t270 t269).extract 0 3) ++ (⟨#[44, 32]⟩ : ByteArray)) ++ t274) ++ (⟨#[32]⟩ : ByteArray)) ++ (rdOf ByteArray.empty t275 (wrap64 (x8_1 - 1)))) ++ (⟨#[32]⟩ : ByteArray)) ++ t279) ++ (⟨#[32]⟩ : ByteArray)).size + t280.size ≤ 9223372036854775807 then (if ((((((((((rdOf ByteArray.empty t270 t269).extract 0 3) ++ (⟨#[44, 32]⟩ : ByteArray)) ++ t274) ++ (⟨#[32]⟩ : ByteArray)) ++ (rdOf ByteArray.empty t275 (wrap64 (x8_1 - 1)))) ++ (⟨#[32]⟩ : ByteArray)) ++ t279) ++ (⟨#[32]⟩ : ByteArray)) ++ t280).size + 1 ≤ 9223372036854775807 then ((date_digits.f k1 (Int.tmod (wrap64 (Int.tdiv t264 60)) 60) 2).bind fun t281 => (if (((((((((((rdOf ByteArray.empty t270 t269).extract 0 3) ++ (⟨#[44, 32]⟩ : ByteArray)) ++ t274) ++ (⟨#[32]⟩ : ByteArray)) ++ (rdOf ByteArray.empty t275 (wrap64 (x8_1 - 1)))) ++ (⟨#[32]⟩ : ByteArray)) ++ t279) ++ (⟨#[32]⟩ : ByteArray)) ++ t280) ++ (⟨#[58]⟩ : ByteArray)).size + t281.size ≤ 9223372036854775807 then (if ((((((((((((rdOf ByteArray.empty t270 t269).extract 0 3) ++ (⟨#[44, 32]⟩ : ByteArray)) ++ t274) ++ (⟨#[32]⟩ : ByteArray)) ++ (rdOf ByteArray.empty t275 (wrap64 (x8_1 - 1)))) ++ (⟨#[32]⟩ : ByteArray)) ++ t279) ++ (⟨#[32]⟩ : ByteArray)) ++ t280) ++ (⟨#[58]⟩ : ByteArray)) ++ t281).size + 1 ≤ 9223372036854775807 then ((date_digits.f k1 (Int.tmod t264 60) 2).bind fun t282 => (if (((((((((((((rdOf ByteArray.empty t270 t269).extract 0 3) ++ (⟨#[44, 32]⟩ : ByteArray)) ++ t274) ++ (⟨#[32]⟩ : ByteArray)) ++ (rdOf ByteArray.empty t275 (wrap64 (x8_1 - 1)))) ++ (⟨#[32]⟩ : ByteArray)) ++ t279) ++ (⟨#[32]⟩ : ByteArray)) ++ t280) ++ (⟨#[58]⟩ : ByteArray)) ++ t281) ++ (⟨#[58]⟩ : ByteArray)).size + t282.size ≤ 9223372036854775807 then (if ((((((((((((((rdOf ByteArray.empty t270 t269).extract 0 3) ++ (⟨#[44, 32]⟩ : ByteArray)) ++ t274) ++ (⟨#[32]⟩ : ByteArray)) ++ (rdOf ByteArray.empty t275 (wrap64 (x8_1 - 1)))) ++ (⟨#[32]⟩ : ByteArray)) ++ t279) ++ (⟨#[32]⟩ : ByteArray)) ++ t280) ++ (⟨#[58]⟩ : ByteArray)) ++ t281) ++ (⟨#[58]⟩ : ByteArray)) ++ t282).size + 4 ≤ 9223372036854775807 then (some (((((((((((((((rdOf ByteArray.empty t270 t269).extract 0 3) ++ (⟨#[44, 32]⟩ : ByteArray)) ++ t274) ++ (⟨#[32]⟩ : ByteArray)) ++ (rdOf ByteArray.empty t275 (wrap64 (x8_1 - 1)))) ++ (⟨#[32]⟩ : ByteArray)) ++ t279) ++ (⟨#[32]⟩ : ByteArray)) ++ t280) ++ (⟨#[58]⟩ : ByteArray)) ++ t281) ++ (⟨#[58]⟩ : ByteArray)) ++ t282) ++ (⟨#[32, 71, 77, 84]⟩ : ByteArray), 0)) else (none)) else (none))) else (none)) else (none))) else (none)) else (none))) else (none)) else (none))) else (none)) else (none)) else (none)) else (none))) else (none)) else (none))) else (none)) else (none)) else (none)) else (none)) else (none))) = some (r1, r2) := H
          have A8 := Aside0.mk A80
          clear A80
          replace H := Option.bind_eq_some_iff.mp H
          obtain ⟨t270, A90, H⟩ := H
          replace H : (if 0 ≤ t269 then (if t269 < (t270.length : Int) then (if 0 ≤ 3 then (if 3 ≤ ((rdOf ByteArray.empty t270 t269).size : Int) then (if ((rdOf ByteArray.empty t270 t269).extract 0 3).size + 2 ≤ 9223372036854775807 then ((date_digits.f k1 (wrap64 (x7_1 + 1)) 2).bind fun t274 => (if (((rdOf ByteArray.empty t270 t269).extract 0 3) ++ (⟨#[44, 32]⟩ : ByteArray)).size + t274.size ≤ 9223372036854775807 then (if ((((rdOf ByteArray.empty t270 t269).extract 0 3) ++ (⟨#[44, 32]⟩ : ByteArray)) ++ t274).size + 1 ≤ 9223372036854775807 then ((date_months.f).bind fun t275 => (if 0 ≤ (wrap64 (x8_1 - 1)) then (if (wrap64 (x8_1 - 1)) < (t275.length : Int) then (if (((((rdOf ByteArray.empty t270 t269).extract 0 3) ++ (⟨#[44, 32]⟩ : ByteArray)) ++ t274) ++ (⟨#[32]⟩ : ByteArray)).size + (rdOf ByteArray.empty t275 (wrap64 (x8_1 - 1))).size ≤ 9223372036854775807 then (if ((((((rdOf ByteArray.empty t270 t269).extract 0 3) ++ (⟨#[44, 32]⟩ : ByteArray)) ++ t274) ++ (⟨#[32]⟩ : ByteArray)) ++ (rdOf ByteArray.empty t275 (wrap64 (x8_1 - 1)))).size + 1 ≤ 9223372036854775807 then ((date_digits.f k1 t265 4).bind fun t279 => (if (((((((rdOf ByteArray.empty t270 t269).extract 0 3) ++ (⟨#[44, 32]⟩ : ByteArray)) ++ t274) ++ (⟨#[32]⟩ : ByteArray)) ++ (rdOf ByteArray.empty t275 (wrap64 (x8_1 - 1)))) ++ (⟨#[32]⟩ : ByteArray)).size + t279.size ≤ 9223372036854775807 then (if ((((((((rdOf ByteArray.empty t270 t269).extract 0 3) ++ (⟨#[44, 32]⟩ : ByteArray)) ++ t274) ++ (⟨#[32]⟩ : ByteArray)) ++ (rdOf ByteArray.empty t275 (wrap64 (x8_1 - 1)))) ++ (⟨#[32]⟩ : ByteArray)) ++ t279).size + 1 ≤ 9223372036854775807 then ((date_digits.f k1 (wrap64 (Int.tdiv t264 3600)) 2).bind fun t280 => (if (((((((((rdOf ByteArray.empty t270 t269).extract 0 3) ++ (⟨#[44, 32]⟩ : ByteArray)) ++ t274) ++ (⟨#[32]⟩ : ByteArray)) ++ (rdOf ByteArray.empty t275 (wrap64 (x8_1 - 1)))) ++ (⟨#[32]⟩ : ByteArray)) ++ t279) ++ (⟨#[32]⟩ : ByteArray)).size + t280.size ≤ 9223372036854775807 then (if ((((((((((rdOf ByteArray.empty t270 t269).extract 0 3) ++ (⟨#[44, 32]⟩ : ByteArray)) ++ t274) ++ (⟨#[32]⟩ : ByteArray)) ++ (rdOf ByteArray.empty t275 (wrap64 (x8_1 - 1)))) ++ (⟨#[32]⟩ : ByteArray)) ++ t279) ++ (⟨#[32]⟩ : ByteArray)) ++ t280).size + 1 ≤ 9223372036854775807 then ((date_digits.f k1 (Int.tmod (wrap64 (Int.tdiv t264 60)) 60) 2).bind fun t281 => (if (((((((((((rdOf ByteArray.empty t270 t269).extract 0 3) ++ (⟨#[44, 32]⟩ : ByteArray)) ++ t274) ++ (⟨#[32]⟩ : ByteArray)) ++ (rdOf ByteArray.empty t275 (wrap64 (x8_1 - 1)))) ++ (⟨#[32]⟩ : ByteArray)) ++ t279) ++ (⟨#[32]⟩ : ByteArray)) ++ t280) ++ (⟨#[58]⟩ : ByteArray)).size + t281.size ≤ 9223372036854775807 then (if ((((((((((((rdOf ByteArray.empty t270 t269).extract 0 3) ++ (⟨#[44, 32]⟩ : ByteArray)) ++ t274) ++ (⟨#[32]⟩ : ByteArray)) ++ (rdOf ByteArray.empty t275 (wrap64 (x8_1 - 1)))) ++ (⟨#[32]⟩ : ByteArray)) ++ t279) ++ (⟨#[32]⟩ : ByteArray)) ++ t280) ++ (⟨#[58]⟩ : ByteArray)) ++ t281).size + 1 ≤ 9223372036854775807 then ((date_digits.f k1 (Int.tmod t264 60) 2).bind fun t282 => (if (((((((((((((rdOf ByteArray.empty t270 t269).extract 0 3) ++ (⟨#[44, 32]⟩ : ByteArray)) ++ t274) ++ (⟨#[32]⟩ : ByteArray)) ++ (rdOf ByteArray.empty t275 (wrap64 (x8_1 - 1)))) ++ (⟨#[32]⟩ : ByteArray)) ++ t279) ++ (⟨#[32]⟩ : ByteArray)) ++ t280) ++ (⟨#[58]⟩ : ByteArray)) ++ t281) ++ (⟨#[58]⟩ : ByteArray)).size + t282.size ≤ 9223372036854775807 then (if ((((((((((((((rdOf ByteArray.empty t270 t269).extract 0 3) ++ (⟨#[44, 32]⟩ : ByteArray)) ++ t274) ++ (⟨#[32]⟩ : ByteArray)) ++ (rdOf ByteArray.empty t275 (wrap64 (x8_1 - 1)))) ++ (⟨#[32]⟩ : ByteArray)) ++ t279) ++ (⟨#[32]⟩ : ByteArray)) ++ t280) ++ (⟨#[58]⟩ : ByteArray)) ++ t281) ++ (⟨#[58]⟩ : ByteArray)) ++ t282).size + 4 ≤ 9223372036854775807 then (some (((((((((((((((rdOf ByteArray.empty t270 t269).extract 0 3) ++ (⟨#[44, 32]⟩ : ByteArray)) ++ t274) ++ (⟨#[32]⟩ : ByteArray)) ++ (rdOf ByteArray.empty t275 (wrap64 (x8_1 - 1)))) ++ (⟨#[32]⟩ : ByteArray)) ++ t279) ++ (⟨#[32]⟩ : ByteArray)) ++ t280) ++ (⟨#[58]⟩ : ByteArray)) ++ t281) ++ (⟨#[58]⟩ : ByteArray)) ++ t282) ++ (⟨#[32, 71, 77, 84]⟩ : ByteArray), 0)) else (none)) else (none))) else (none)) else (none))) else (none)) else (none))) else (none)) else (none))) else (none)) else (none)) else (none)) else (none))) else (none)) else (none))) else (none)) else (none)) else (none)) else (none)) else (none)) = some (r1, r2) := H
          have A9 := Aside0.mk A90
          clear A90
          by_cases c10 : 0 ≤ t269
          · rw [if_pos c10] at H
            have c10b0 : decide (0 ≤ t269) = true := decide_eq_true c10
            clear c10
            by_cases c11 : t269 < (t270.length : Int)
            · rw [if_pos c11] at H
              have c11b0 : decide (t269 < (t270.length : Int)) = true := decide_eq_true c11
              clear c11
              by_cases c12 : 0 ≤ 3
              · rw [if_pos c12] at H
                have c12b0 := eq_true c12
                have c12b1 : decide (0 ≤ 3) = true := decide_eq_true c12
                clear c12
                by_cases c13 : 3 ≤ ((rdOf ByteArray.empty t270 t269).size : Int)
                · rw [if_pos c13] at H
                  have c13b0 := eq_true c13
                  have c13b1 : decide (3 ≤ ((rdOf ByteArray.empty t270 t269).size : Int)) = true := decide_eq_true c13
                  clear c13
                  by_cases c14 : ((rdOf ByteArray.empty t270 t269).extract 0 3).size + 2 ≤ 9223372036854775807
                  · rw [if_pos c14] at H
                    have c14b0 := eq_true c14
                    have c14b1 : decide (((rdOf ByteArray.empty t270 t269).extract 0 3).size + 2 ≤ 9223372036854775807) = true := decide_eq_true c14
                    try have c14b2 : (9223372036854775807 < ((rdOf ByteArray.empty t270 t269).extract 0 3).size + 2) = False := eq_false (Nat.not_lt.2 c14)
                    (try (have c14y : (9223372036854775807 < min 3 ((rdOf ByteArray.empty t270 t269).size) + 2) = False := eq_false (by have zz := c14; simp only [ByteArray.size_append, ByteArray.size_extract, Nat.sub_zero] at zz; omega)))
                    (try (have c14s := c14; simp [go_sem] at c14s)); (try (have c14z := eq_false (Nat.not_lt.2 c14s)))
                    replace H := Option.bind_eq_some_iff.mp H
                    obtain ⟨t274, A150, H⟩ := H
                    replace H : (if (((rdOf ByteArray.empty t270 t269).extract 0 3) ++ (⟨#[44, 32]⟩ : ByteArray)).size + t274.size ≤ 9223372036854775807 then (if ((((rdOf ByteArray.empty t270 t269).extract 0 3) ++ (⟨#[44, 32]⟩ : ByteArray)) ++ t274).size + 1 ≤ 9223372036854775807 then ((date_months.f).bind fun t275 => (if 0 ≤ (wrap64 (x8_1 - 1)) then (if (wrap64 (x8_1 - 1)) < (t275.length : Int) then (if (((((rdOf ByteArray.empty t270 t269).extract 0 3) ++ (⟨#[44, 32]⟩ : ByteArray)) ++ t274) ++ (⟨#[32]⟩ : ByteArray)).size + (rdOf ByteArray.empty t275 (wrap64 (x8_1 - 1))).size ≤ 9223372036854775807 then (if ((((((rdOf ByteArray.empty t270 t269).extract 0 3) ++ (⟨#[44, 32]⟩ : ByteArray)) ++ t274) ++ (⟨#[32]⟩ : ByteArray)) ++ (rdOf ByteArray.empty t275 (wrap64 (x8_1 - 1)))).size + 1 ≤ 9223372036854775807 then ((date_digits.f k1 t265 4).bind fun t279 => (if (((((((rdOf ByteArray.empty t270 t269).extract 0 3) ++ (⟨#[44, 32]⟩ : ByteArray)) ++ t274) ++ (⟨#[32]⟩ : ByteArray)) ++ (rdOf ByteArray.empty t275 (wrap64 (x8_1 - 1)))) ++ (⟨#[32]⟩ : ByteArray)).size + t279.size ≤ 9223372036854775807 then (if ((((((((rdOf ByteArray.empty t270 t269).extract 0 3) ++ (⟨#[44, 32]⟩ : ByteArray)) ++ t274) ++ (⟨#[32]⟩ : ByteArray)) ++ (rdOf ByteArray.empty t275 (wrap64 (x8_1 - 1)))) ++ (⟨#[32]⟩ : ByteArray)) ++ t279).size + 1 ≤ 9223372036854775807 then ((date_digits.f k1 (wrap64 (Int.tdiv t264 3600)) 2).bind fun t280 => (if (((((((((rdOf ByteArray.empty t270 t269).extract 0 3) ++ (⟨#[44, 32]⟩ : ByteArray)) ++ t274) ++ (⟨#[32]⟩ : ByteArray)) ++ (rdOf ByteArray.empty t275 (wrap64 (x8_1 - 1)))) ++ (⟨#[32]⟩ : ByteArray)) ++ t279) ++ (⟨#[32]⟩ : ByteArray)).size + t280.size ≤ 9223372036854775807 then (if ((((((((((rdOf ByteArray.empty t270 t269).extract 0 3) ++ (⟨#[44, 32]⟩ : ByteArray)) ++ t274) ++ (⟨#[32]⟩ : ByteArray)) ++ (rdOf ByteArray.empty t275 (wrap64 (x8_1 - 1)))) ++ (⟨#[32]⟩ : ByteArray)) ++ t279) ++ (⟨#[32]⟩ : ByteArray)) ++ t280).size + 1 ≤ 9223372036854775807 then ((date_digits.f k1 (Int.tmod (wrap64 (Int.tdiv t264 60)) 60) 2).bind fun t281 => (if (((((((((((rdOf ByteArray.empty t270 t269).extract 0 3) ++ (⟨#[44, 32]⟩ : ByteArray)) ++ t274) ++ (⟨#[32]⟩ : ByteArray)) ++ (rdOf ByteArray.empty t275 (wrap64 (x8_1 - 1)))) ++ (⟨#[32]⟩ : ByteArray)) ++ t279) ++ (⟨#[32]⟩ : ByteArray)) ++ t280) ++ (⟨#[58]⟩ : ByteArray)).size + t281.size ≤ 9223372036854775807 then (if ((((((((((((rdOf ByteArray.empty t270 t269).extract 0 3) ++ (⟨#[44, 32]⟩ : ByteArray)) ++ t274) ++ (⟨#[32]⟩ : ByteArray)) ++ (rdOf ByteArray.empty t275 (wrap64 (x8_1 - 1)))) ++ (⟨#[32]⟩ : ByteArray)) ++ t279) ++ (⟨#[32]⟩ : ByteArray)) ++ t280) ++ (⟨#[58]⟩ : ByteArray)) ++ t281).size + 1 ≤ 9223372036854775807 then ((date_digits.f k1 (Int.tmod t264 60) 2).bind fun t282 => (if (((((((((((((rdOf ByteArray.empty t270 t269).extract 0 3) ++ (⟨#[44, 32]⟩ : ByteArray)) ++ t274) ++ (⟨#[32]⟩ : ByteArray)) ++ (rdOf ByteArray.empty t275 (wrap64 (x8_1 - 1)))) ++ (⟨#[32]⟩ : ByteArray)) ++ t279) ++ (⟨#[32]⟩ : ByteArray)) ++ t280) ++ (⟨#[58]⟩ : ByteArray)) ++ t281) ++ (⟨#[58]⟩ : ByteArray)).size + t282.size ≤ 9223372036854775807 then (if ((((((((((((((rdOf ByteArray.empty t270 t269).extract 0 3) ++ (⟨#[44, 32]⟩ : ByteArray)) ++ t274) ++ (⟨#[32]⟩ : ByteArray)) ++ (rdOf ByteArray.empty t275 (wrap64 (x8_1 - 1)))) ++ (⟨#[32]⟩ : ByteArray)) ++ t279) ++ (⟨#[32]⟩ : ByteArray)) ++ t280) ++ (⟨#[58]⟩ : ByteArray)) ++ t281) ++ (⟨#[58]⟩ : ByteArray)) ++ t282).size + 4 ≤ 9223372036854775807 then (some (((((((((((((((rdOf ByteArray.empty t270 t269).extract 0 3) ++ (⟨#[44, 32]⟩ : ByteArray)) ++ t274) ++ (⟨#[32]⟩ : ByteArray)) ++ (rdOf ByteArray.empty t275 (wrap64 (x8_1 - 1)))) ++ (⟨#[32]⟩ : ByteArray)) ++ t279) ++ (⟨#[32]⟩ : ByteArray)) ++ t280) ++ (⟨#[58]⟩ : ByteArray)) ++ t281) ++ (⟨#[58]⟩ : ByteArray)) ++ t282) ++ (⟨#[32, 71, 77, 84]⟩ : ByteArray), 0)) else (none)) else (none))) else (none)) else (none))) else (none)) else (none))) else (none)) else (none))) else (none)) else (none)) else (none)) else (none))) else (none)) else (none)) = some (r1, r2) := H
                    have A15 := Aside0.mk A150
                    clear A150
                    by_cases c16 : (((rdOf ByteArray.empty t270 t269).extract 0 3) ++ (⟨#[44, 32]⟩ : ByteArray)).size + t274.size ≤ 9223372036854775807
                    · rw [if_pos c16] at H
                      have c16b0 := eq_true c16
                      have c16b1 : decide ((((rdOf ByteArray.empty t270 t269).extract 0 3) ++ (⟨#[44, 32]⟩ : ByteArray)).size + t274.size ≤ 9223372036854775807) = true := decide_eq_true c16
                      try have c16b2 : (9223372036854775807 < (((rdOf ByteArray.empty t270 t269).extract 0 3) ++ (⟨#[44, 32]⟩ : ByteArray)).size + t274.size) = False := eq_false (Nat.not_lt.2 c16)
                      (try (have c16y : (9223372036854775807 < min 3 ((rdOf ByteArray.empty t270 t269).size) + 2 + t274.size) = False := eq_false (by have zz := c16; simp only [ByteArray.size_append, ByteArray.size_extract, Nat.sub_zero] at zz; have e0 : (⟨#[44, 32]⟩ : ByteArray).size = 2 := rfl; omega)))
                      (try (have c16s := c16; simp [go_sem] at c16s)); (try (have c16z := eq_false (Nat.not_lt.2 c16s)))
                      by_cases c17 : ((((rdOf ByteArray.empty t270 t269).extract 0 3) ++ (⟨#[44, 32]⟩ : ByteArray)) ++ t274).size + 1 ≤ 9223372036854775807
                      · rw [if_pos c17] at H
                        have c17b0 := eq_true c17
                        have c17b1 : decide (((((rdOf ByteArray.empty t270 t269).extract 0 3) ++ (⟨#[44, 32]⟩ : ByteArray)) ++ t274).size + 1 ≤ 9223372036854775807) = true := decide_eq_true c17
                        try have c17b2 : (9223372036854775807 < ((((rdOf ByteArray.empty t270 t269).extract 0 3) ++ (⟨#[44, 32]⟩ : ByteArray)) ++ t274).size + 1) = False := eq_false (Nat.not_lt.2 c17)
                        (try (have c17y : (9223372036854775807 < min 3 ((rdOf ByteArray.empty t270 t269).size) + 2 + t274.size + 1) = False := eq_false (by have zz := c17; simp only [ByteArray.size_append, ByteArray.size_extract, Nat.sub_zero] at zz; have e0 : (⟨#[44, 32]⟩ : ByteArray).size = 2 := rfl; omega)))
                        (try (have c17s := c17; simp [go_sem] at c17s)); (try (have c17z := eq_false (Nat.not_lt.2 c17s)))
                        replace H := Option.bind_eq_some_iff.mp H
                        obtain ⟨t275, A180, H⟩ := H
                        replace H : (if 0 ≤ (wrap64 (x8_1 - 1)) then (if (wrap64 (x8_1 - 1)) < (t275.length : Int) then (if (((((rdOf ByteArray.empty t270 t269).extract 0 3) ++ (⟨#[44, 32]⟩ : ByteArray)) ++ t274) ++ (⟨#[32]⟩ : ByteArray)).size + (rdOf ByteArray.empty t275 (wrap64 (x8_1 - 1))).size ≤ 9223372036854775807 then (if ((((((rdOf ByteArray.empty t270 t269).extract 0 3) ++ (⟨#[44, 32]⟩ : ByteArray)) ++ t274) ++ (⟨#[32]⟩ : ByteArray)) ++ (rdOf ByteArray.empty t275 (wrap64 (x8_1 - 1)))).size + 1 ≤ 9223372036854775807 then ((date_digits.f k1 t265 4).bind fun t279 => (if (((((((rdOf ByteArray.empty t270 t269).extract 0 3) ++ (⟨#[44, 32]⟩ : ByteArray)) ++ t274) ++ (⟨#[32]⟩ : ByteArray)) ++ (rdOf ByteArray.empty t275 (wrap64 (x8_1 - 1)))) ++ (⟨#[32]⟩ : ByteArray)).size + t279.size ≤ 9223372036854775807 then (if ((((((((rdOf ByteArray.empty t270 t269).extract 0 3) ++ (⟨#[44, 32]⟩ : ByteArray)) ++ t274) ++ (⟨#[32]⟩ : ByteArray)) ++ (rdOf ByteArray.empty t275 (wrap64 (x8_1 - 1)))) ++ (⟨#[32]⟩ : ByteArray)) ++ t279).size + 1 ≤ 9223372036854775807 then ((date_digits.f k1 (wrap64 (Int.tdiv t264 3600)) 2).bind fun t280 => (if (((((((((rdOf ByteArray.empty t270 t269).extract 0 3) ++ (⟨#[44, 32]⟩ : ByteArray)) ++ t274) ++ (⟨#[32]⟩ : ByteArray)) ++ (rdOf ByteArray.empty t275 (wrap64 (x8_1 - 1)))) ++ (⟨#[32]⟩ : ByteArray)) ++ t279) ++ (⟨#[32]⟩ : ByteArray)).size + t280.size ≤ 9223372036854775807 then (if ((((((((((rdOf ByteArray.empty t270 t269).extract 0 3) ++ (⟨#[44, 32]⟩ : ByteArray)) ++ t274) ++ (⟨#[32]⟩ : ByteArray)) ++ (rdOf ByteArray.empty t275 (wrap64 (x8_1 - 1)))) ++ (⟨#[32]⟩ : ByteArray)) ++ t279) ++ (⟨#[32]⟩ : ByteArray)) ++ t280).size + 1 ≤ 9223372036854775807 then ((date_digits.f k1 (Int.tmod (wrap64 (Int.tdiv t264 60)) 60) 2).bind fun t281 => (if (((((((((((rdOf ByteArray.empty t270 t269).extract 0 3) ++ (⟨#[44, 32]⟩ : ByteArray)) ++ t274) ++ (⟨#[32]⟩ : ByteArray)) ++ (rdOf ByteArray.empty t275 (wrap64 (x8_1 - 1)))) ++ (⟨#[32]⟩ : ByteArray)) ++ t279) ++ (⟨#[32]⟩ : ByteArray)) ++ t280) ++ (⟨#[58]⟩ : ByteArray)).size + t281.size ≤ 9223372036854775807 then (if ((((((((((((rdOf ByteArray.empty t270 t269).extract 0 3) ++ (⟨#[44, 32]⟩ : ByteArray)) ++ t274) ++ (⟨#[32]⟩ : ByteArray)) ++ (rdOf ByteArray.empty t275 (wrap64 (x8_1 - 1)))) ++ (⟨#[32]⟩ : ByteArray)) ++ t279) ++ (⟨#[32]⟩ : ByteArray)) ++ t280) ++ (⟨#[58]⟩ : ByteArray)) ++ t281).size + 1 ≤ 9223372036854775807 then ((date_digits.f k1 (Int.tmod t264 60) 2).bind fun t282 => (if (((((((((((((rdOf ByteArray.empty t270 t269).extract 0 3) ++ (⟨#[44, 32]⟩ : ByteArray)) ++ t274) ++ (⟨#[32]⟩ : ByteArray)) ++ (rdOf ByteArray.empty t275 (wrap64 (x8_1 - 1)))) ++ (⟨#[32]⟩ : ByteArray)) ++ t279) ++ (⟨#[32]⟩ : ByteArray)) ++ t280) ++ (⟨#[58]⟩ : ByteArray)) ++ t281) ++ (⟨#[58]⟩ : ByteArray)).size + t282.size ≤ 9223372036854775807 then (if ((((((((((((((rdOf ByteArray.empty t270 t269).extract 0 3) ++ (⟨#[44, 32]⟩ : ByteArray)) ++ t274) ++ (⟨#[32]⟩ : ByteArray)) ++ (rdOf ByteArray.empty t275 (wrap64 (x8_1 - 1)))) ++ (⟨#[32]⟩ : ByteArray)) ++ t279) ++ (⟨#[32]⟩ : ByteArray)) ++ t280) ++ (⟨#[58]⟩ : ByteArray)) ++ t281) ++ (⟨#[58]⟩ : ByteArray)) ++ t282).size + 4 ≤ 9223372036854775807 then (some (((((((((((((((rdOf ByteArray.empty t270 t269).extract 0 3) ++ (⟨#[44, 32]⟩ : ByteArray)) ++ t274) ++ (⟨#[32]⟩ : ByteArray)) ++ (rdOf ByteArray.empty t275 (wrap64 (x8_1 - 1)))) ++ (⟨#[32]⟩ : ByteArray)) ++ t279) ++ (⟨#[32]⟩ : ByteArray)) ++ t280) ++ (⟨#[58]⟩ : ByteArray)) ++ t281) ++ (⟨#[58]⟩ : ByteArray)) ++ t282) ++ (⟨#[32, 71, 77, 84]⟩ : ByteArray), 0)) else (none)) else (none))) else (none)) else (none))) else (none)) else (none))) else (none)) else (none))) else (none)) else (none)) else (none)) else (none)) = some (r1, r2) := H
                        have A18 := Aside0.mk A180
                        clear A180
                        obtain ⟨ji19, hji19⟩ : ∃ j_ : Int, (wrap64 (x8_1 - 1)) = j_ := ⟨_, rfl⟩
                        replace H : (if 0 ≤ (ji19) then (if (ji19) < (t275.length : Int) then (if (((((rdOf ByteArray.empty t270 t269).extract 0 3) ++ (⟨#[44, 32]⟩ : ByteArray)) ++ t274) ++ (⟨#[32]⟩ : ByteArray)).size + (rdOf ByteArray.empty t275 (ji19)).size ≤ 9223372036854775807 then (if ((((((rdOf ByteArray.empty t270 t269).extract 0 3) ++ (⟨#[44, 32]⟩ : ByteArray)) ++ t274) ++ (⟨#[32]⟩ : ByteArray)) ++ (rdOf ByteArray.empty t275 (ji19))).size + 1 ≤ 9223372036854775807 then ((date_digits.f k1 t265 4).bind fun t279 => (if (((((((rdOf ByteArray.empty t270 t269).extract 0 3) ++ (⟨#[44, 32]⟩ : ByteArray)) ++ t274) ++ (⟨#[32]⟩ : ByteArray)) ++ (rdOf ByteArray.empty t275 (ji19))) ++ (⟨#[32]⟩ : ByteArray)).size + t279.size ≤ 9223372036854775807 then (if ((((((((rdOf ByteArray.empty t270 t269).extract 0 3) ++ (⟨#[44, 32]⟩ : ByteArray)) ++ t274) ++ (⟨#[32]⟩ : ByteArray)) ++ (rdOf ByteArray.empty t275 (ji19))) ++ (⟨#[32]⟩ : ByteArray)) ++ t279).size + 1 ≤ 9223372036854775807 then ((date_digits.f k1 (wrap64 (Int.tdiv t264 3600)) 2).bind fun t280 => (if (((((((((rdOf ByteArray.empty t270 t269).extract 0 3) ++ (⟨#[44, 32]⟩ : ByteArray)) ++ t274) ++ (⟨#[32]⟩ : ByteArray)) ++ (rdOf ByteArray.empty t275 (ji19))) ++ (⟨#[32]⟩ : ByteArray)) ++ t279) ++ (⟨#[32]⟩ : ByteArray)).size + t280.size ≤ 9223372036854775807 then (if ((((((((((rdOf ByteArray.empty t270 t269).extract 0 3) ++ (⟨#[44, 32]⟩ : ByteArray)) ++ t274) ++ (⟨#[32]⟩ : ByteArray)) ++ (rdOf ByteArray.empty t275 (ji19))) ++ (⟨#[32]⟩ : ByteArray)) ++ t279) ++ (⟨#[32]⟩ : ByteArray)) ++ t280).size + 1 ≤ 9223372036854775807 then ((date_digits.f k1 (Int.tmod (wrap64 (Int.tdiv t264 60)) 60) 2).bind fun t281 => (if (((((((((((rdOf ByteArray.empty t270 t269).extract 0 3) ++ (⟨#[44, 32]⟩ : ByteArray)) ++ t274) ++ (⟨#[32]⟩ : ByteArray)) ++ (rdOf ByteArray.empty t275 (ji19))) ++ (⟨#[32]⟩ : ByteArray)) ++ t279) ++ (⟨#[32]⟩ : ByteArray)) ++ t280) ++ (⟨#[58]⟩ : ByteArray)).size + t281.size ≤ 9223372036854775807 then (if ((((((((((((rdOf ByteArray.empty t270 t269).extract 0 3) ++ (⟨#[44, 32]⟩ : ByteArray)) ++ t274) ++ (⟨#[32]⟩ : ByteArray)) ++ (rdOf ByteArray.empty t275 (ji19))) ++ (⟨#[32]⟩ : ByteArray)) ++ t279) ++ (⟨#[32]⟩ : ByteArray)) ++ t280) ++ (⟨#[58]⟩ : ByteArray)) ++ t281).size + 1 ≤ 9223372036854775807 then ((date_digits.f k1 (Int.tmod t264 60) 2).bind fun t282 => (if (((((((((((((rdOf ByteArray.empty t270 t269).extract 0 3) ++ (⟨#[44, 32]⟩ : ByteArray)) ++ t274) ++ (⟨#[32]⟩ : ByteArray)) ++ (rdOf ByteArray.empty t275 (ji19))) ++ (⟨#[32]⟩ : ByteArray)) ++ t279) ++ (⟨#[32]⟩ : ByteArray)) ++ t280) ++ (⟨#[58]⟩ : ByteArray)) ++ t281) ++ (⟨#[58]⟩ : ByteArray)).size + t282.size ≤ 9223372036854775807 then (if ((((((((((((((rdOf ByteArray.empty t270 t269).extract 0 3) ++ (⟨#[44, 32]⟩ : ByteArray)) ++ t274) ++ (⟨#[32]⟩ : ByteArray)) ++ (rdOf ByteArray.empty t275 (ji19))) ++ (⟨#[32]⟩ : ByteArray)) ++ t279) ++ (⟨#[32]⟩ : ByteArray)) ++ t280) ++ (⟨#[58]⟩ : ByteArray)) ++ t281) ++ (⟨#[58]⟩ : ByteArray)) ++ t282).size + 4 ≤ 9223372036854775807 then (some (((((((((((((((rdOf ByteArray.empty t270 t269).extract 0 3) ++ (⟨#[44, 32]⟩ : ByteArray)) ++ t274) ++ (⟨#[32]⟩ : ByteArray)) ++ (rdOf ByteArray.empty t275 (ji19))) ++ (⟨#[32]⟩ : ByteArray)) ++ t279) ++ (⟨#[32]⟩ : ByteArray)) ++ t280) ++ (⟨#[58]⟩ : ByteArray)) ++ t281) ++ (⟨#[58]⟩ : ByteArray)) ++ t282) ++ (⟨#[32, 71, 77, 84]⟩ : ByteArray), 0)) else (none)) else (none))) else (none)) else (none))) else (none)) else (none))) else (none)) else (none))) else (none)) else (none)) else (none)) else (none)) = some (r1, r2) := by first | (rw [hji19] at H; exact H) | (simp only [hji19] at H ⊢; exact H)
                        (try rw [hji19] at A6)
                        (try rw [hji19] at A8)
                        (try rw [hji19] at A9)
                        (try rw [hji19] at A15)
                        (try rw [hji19] at A18)
                        have hji19w : (IntKind.i64.wrap (x8_1 - 1)) = ji19 := (i64_w _).trans hji19
                        by_cases c20 : 0 ≤ (ji19)
                        · rw [if_pos c20] at H
                          have c20b0 : decide (0 ≤ (ji19)) = true := decide_eq_true c20
                          clear c20
                          by_cases c21 : (ji19) < (t275.length : Int)
                          · rw [if_pos c21] at H
                            have c21b0 : decide ((ji19) < (t275.length : Int)) = true := decide_eq_true c21
                            clear c21
                            by_cases c22 : (((((rdOf ByteArray.empty t270 t269).extract 0 3) ++ (⟨#[44, 32]⟩ : ByteArray)) ++ t274) ++ (⟨#[32]⟩ : ByteArray)).size + (rdOf ByteArray.empty t275 (ji19)).size ≤ 9223372036854775807
                            · rw [if_pos c22] at H
                              have c22b0 := eq_true c22
                              have c22b1 : decide ((((((rdOf ByteArray.empty t270 t269).extract 0 3) ++ (⟨#[44, 32]⟩ : ByteArray)) ++ t274) ++ (⟨#[32]⟩ : ByteArray)).size + (rdOf ByteArray.empty t275 (ji19)).size ≤ 9223372036854775807) = true := decide_eq_true c22
                              try have c22b2 : (9223372036854775807 < (((((rdOf ByteArray.empty t270 t269).extract 0 3) ++ (⟨#[44, 32]⟩ : ByteArray)) ++ t274) ++ (⟨#[32]⟩ : ByteArray)).size + (rdOf ByteArray.empty t275 (ji19)).size) = False := eq_false (Nat.not_lt.2 c22)
                              (try (have c22y : (9223372036854775807 < min 3 ((rdOf ByteArray.empty t270 t269).size) + 2 + t274.size + 1 + (rdOf ByteArray.empty t275 (ji19)).size) = False := eq_false (by have zz := c22; simp only [ByteArray.size_append, ByteArray.size_extract, Nat.sub_zero] at zz; have e0 : (⟨#[44, 32]⟩ : ByteArray).size = 2 := rfl; have e1 : (⟨#[32]⟩ : ByteArray).size = 1 := rfl; omega)))
                              (try (have c22s := c22; simp [go_sem] at c22s)); (try (have c22z := eq_false (Nat.not_lt.2 c22s)))
                              by_cases c23 : ((((((rdOf ByteArray.empty t270 t269).extract 0 3) ++ (⟨#[44, 32]⟩ : ByteArray)) ++ t274) ++ (⟨#[32]⟩ : ByteArray)) ++ (rdOf ByteArray.empty t275 (ji19))).size + 1 ≤ 9223372036854775807
                              · rw [if_pos c23] at H
                                have c23b0 := eq_true c23
                                have c23b1 : decide (((((((rdOf ByteArray.empty t270 t269).extract 0 3) ++ (⟨#[44, 32]⟩ : ByteArray)) ++ t274) ++ (⟨#[32]⟩ : ByteArray)) ++ (rdOf ByteArray.empty t275 (ji19))).size + 1 ≤ 9223372036854775807) = true := decide_eq_true c23
                                try have c23b2 : (9223372036854775807 < ((((((rdOf ByteArray.empty t270 t269).extract 0 3) ++ (⟨#[44, 32]⟩ : ByteArray)) ++ t274) ++ (⟨#[32]⟩ : ByteArray)) ++ (rdOf ByteArray.empty t275 (ji19))).size + 1) = False := eq_false (Nat.not_lt.2 c23)
                                (try (have c23y : (9223372036854775807 < min 3 ((rdOf ByteArray.empty t270 t269).size) + 2 + t274.size + 1 + (rdOf ByteArray.empty t275 (ji19)).size + 1) = False := eq_false (by have zz := c23; simp only [ByteArray.size_append, ByteArray.size_extract, Nat.sub_zero] at zz; have e0 : (⟨#[44, 32]⟩ : ByteArray).size = 2 := rfl; have e1 : (⟨#[32]⟩ : ByteArray).size = 1 := rfl; omega)))
                                (try (have c23s := c23; simp [go_sem] at c23s)); (try (have c23z := eq_false (Nat.not_lt.2 c23s)))
                                replace H := Option.bind_eq_some_iff.mp H
                                obtain ⟨t279, A240, H⟩ := H
                                replace H : (if (((((((rdOf ByteArray.empty t270 t269).extract 0 3) ++ (⟨#[44, 32]⟩ : ByteArray)) ++ t274) ++ (⟨#[32]⟩ : ByteArray)) ++ (rdOf ByteArray.empty t275 (ji19))) ++ (⟨#[32]⟩ : ByteArray)).size + t279.size ≤ 9223372036854775807 then (if ((((((((rdOf ByteArray.empty t270 t269).extract 0 3) ++ (⟨#[44, 32]⟩ : ByteArray)) ++ t274) ++ (⟨#[32]⟩ : ByteArray)) ++ (rdOf ByteArray.empty t275 (ji19))) ++ (⟨#[32]⟩ : ByteArray)) ++ t279).size + 1 ≤ 9223372036854775807 then ((date_digits.f k1 (wrap64 (Int.tdiv t264 3600)) 2).bind fun t280 => (if (((((((((rdOf ByteArray.empty t270 t269).extract 0 3) ++ (⟨#[44, 32]⟩ : ByteArray)) ++ t274) ++ (⟨#[32]⟩ : ByteArray)) ++ (rdOf ByteArray.empty t275 (ji19))) ++ (⟨#[32]⟩ : ByteArray)) ++ t279) ++ (⟨#[32]⟩ : ByteArray)).size + t280.size ≤ 9223372036854775807 then (if ((((((((((rdOf ByteArray.empty t270 t269).extract 0 3) ++ (⟨#[44, 32]⟩ : ByteArray)) ++ t274) ++ (⟨#[32]⟩ : ByteArray)) ++ (rdOf ByteArray.empty t275 (ji19))) ++ (⟨#[32]⟩ : ByteArray)) ++ t279) ++ (⟨#[32]⟩ : ByteArray)) ++ t280).size + 1 ≤ 9223372036854775807 then ((date_digits.f k1 (Int.tmod (wrap64 (Int.tdiv t264 60)) 60) 2).bind fun t281 => (if (((((((((((rdOf ByteArray.empty t270 t269).extract 0 3) ++ (⟨#[44, 32]⟩ : ByteArray)) ++ t274) ++ (⟨#[32]⟩ : ByteArray)) ++ (rdOf ByteArray.empty t275 (ji19))) ++ (⟨#[32]⟩ : ByteArray)) ++ t279) ++ (⟨#[32]⟩ : ByteArray)) ++ t280) ++ (⟨#[58]⟩ : ByteArray)).size + t281.size ≤ 9223372036854775807 then (if ((((((((((((rdOf ByteArray.empty t270 t269).extract 0 3) ++ (⟨#[44, 32]⟩ : ByteArray)) ++ t274) ++ (⟨#[32]⟩ : ByteArray)) ++ (rdOf ByteArray.empty t275 (ji19))) ++ (⟨#[32]⟩ : ByteArray)) ++ t279) ++ (⟨#[32]⟩ : ByteArray)) ++ t280) ++ (⟨#[58]⟩ : ByteArray)) ++ t281).size + 1 ≤ 9223372036854775807 then ((date_digits.f k1 (Int.tmod t264 60) 2).bind fun t282 => (if (((((((((((((rdOf ByteArray.empty t270 t269).extract 0 3) ++ (⟨#[44, 32]⟩ : ByteArray)) ++ t274) ++ (⟨#[32]⟩ : ByteArray)) ++ (rdOf ByteArray.empty t275 (ji19))) ++ (⟨#[32]⟩ : ByteArray)) ++ t279) ++ (⟨#[32]⟩ : ByteArray)) ++ t280) ++ (⟨#[58]⟩ : ByteArray)) ++ t281) ++ (⟨#[58]⟩ : ByteArray)).size + t282.size ≤ 9223372036854775807 then (if ((((((((((((((rdOf ByteArray.empty t270 t269).extract 0 3) ++ (⟨#[44, 32]⟩ : ByteArray)) ++ t274) ++ (⟨#[32]⟩ : ByteArray)) ++ (rdOf ByteArray.empty t275 (ji19))) ++ (⟨#[32]⟩ : ByteArray)) ++ t279) ++ (⟨#[32]⟩ : ByteArray)) ++ t280) ++ (⟨#[58]⟩ : ByteArray)) ++ t281) ++ (⟨#[58]⟩ : ByteArray)) ++ t282).size + 4 ≤ 9223372036854775807 then (some (((((((((((((((rdOf ByteArray.empty t270 t269).extract 0 3) ++ (⟨#[44, 32]⟩ : ByteArray)) ++ t274) ++ (⟨#[32]⟩ : ByteArray)) ++ (rdOf ByteArray.empty t275 (ji19))) ++ (⟨#[32]⟩ : ByteArray)) ++ t279) ++ (⟨#[32]⟩ : ByteArray)) ++ t280) ++ (⟨#[58]⟩ : ByteArray)) ++ t281) ++ (⟨#[58]⟩ : ByteArray)) ++ t282) ++ (⟨#[32, 71, 77, 84]⟩ : ByteArray), 0)) else (none)) else (none))) else (none)) else (none))) else (none)) else (none))) else (none)) else (none)) = some (r1, r2) := H
                                have A24 := Aside0.mk A240
                                clear A240
                                by_cases c25 : (((((((rdOf ByteArray.empty t270 t269).extract 0 3) ++ (⟨#[44, 32]⟩ : ByteArray)) ++ t274) ++ (⟨#[32]⟩ : ByteArray)) ++ (rdOf ByteArray.empty t275 (ji19))) ++ (⟨#[32]⟩ : ByteArray)).size + t279.size ≤ 9223372036854775807
                                · rw [if_pos c25] at H
                                  have c25b0 := eq_true c25
                                  have c25b1 : decide ((((((((rdOf ByteArray.empty t270 t269).extract 0 3) ++ (⟨#[44, 32]⟩ : ByteArray)) ++ t274) ++ (⟨#[32]⟩ : ByteArray)) ++ (rdOf ByteArray.empty t275 (ji19))) ++ (⟨#[32]⟩ : ByteArray)).size + t279.size ≤ 9223372036854775807) = true := decide_eq_true c25
                                  try have c25b2 : (9223372036854775807 < (((((((rdOf ByteArray.empty t270 t269).extract 0 3) ++ (⟨#[44, 32]⟩ : ByteArray)) ++ t274) ++ (⟨#[32]⟩ : ByteArray)) ++ (rdOf ByteArray.empty t275 (ji19))) ++ (⟨#[32]⟩ : ByteArray)).size + t279.size) = False := eq_false (Nat.not_lt.2 c25)
                                  (try (have c25y : (9223372036854775807 < min 3 ((rdOf ByteArray.empty t270 t269).size) + 2 + t274.size + 1 + (rdOf ByteArray.empty t275 (ji19)).size + 1 + t279.size) = False := eq_false (by have zz := c25; simp only [ByteArray.size_append, ByteArray.size_extract, Nat.sub_zero] at zz; have e0 : (⟨#[44, 32]⟩ : ByteArray).size = 2 := rfl; have e1 : (⟨#[32]⟩ : ByteArray).size = 1 := rfl; omega)))
                                  (try (have c25s := c25; simp [go_sem] at c25s)); (try (have c25z := eq_false (Nat.not_lt.2 c25s)))
                                  by_cases c26 : ((((((((rdOf ByteArray.empty t270 t269).extract 0 3) ++ (⟨#[44, 32]⟩ : ByteArray)) ++ t274) ++ (⟨#[32]⟩ : ByteArray)) ++ (rdOf ByteArray.empty t275 (ji19))) ++ (⟨#[32]⟩ : ByteArray)) ++ t279).size + 1 ≤ 9223372036854775807
                                  · rw [if_pos c26] at H
                                    have c26b0 := eq_true c26
                                    have c26b1 : decide (((((((((rdOf ByteArray.empty t270 t269).extract 0 3) ++ (⟨#[44, 32]⟩ : ByteArray)) ++ t274) ++ (⟨#[32]⟩ : ByteArray)) ++ (rdOf ByteArray.empty t275 (ji19))) ++ (⟨#[32]⟩ : ByteArray)) ++ t279).size + 1 ≤ 9223372036854775807) = true := decide_eq_true c26
                                    try have c26b2 : (9223372036854775807 < ((((((((rdOf ByteArray.empty t270 t269).extract 0 3) ++ (⟨#[44, 32]⟩ : ByteArray)) ++ t274) ++ (⟨#[32]⟩ : ByteArray)) ++ (rdOf ByteArray.empty t275 (ji19))) ++ (⟨#[32]⟩ : ByteArray)) ++ t279).size + 1) = False := eq_false (Nat.not_lt.2 c26)
                                    (try (have c26y : (9223372036854775807 < min 3 ((rdOf ByteArray.empty t270 t269).size) + 2 + t274.size + 1 + (rdOf ByteArray.empty t275 (ji19)).size + 1 + t279.size + 1) = False := eq_false (by have zz := c26; simp only [ByteArray.size_append, ByteArray.size_extract, Nat.sub_zero] at zz; have e0 : (⟨#[44, 32]⟩ : ByteArray).size = 2 := rfl; have e1 : (⟨#[32]⟩ : ByteArray).size = 1 := rfl; omega)))
                                    (try (have c26s := c26; simp [go_sem] at c26s)); (try (have c26z := eq_false (Nat.not_lt.2 c26s)))
                                    replace H := Option.bind_eq_some_iff.mp H
                                    obtain ⟨t280, A270, H⟩ := H
                                    replace H : (if (((((((((rdOf ByteArray.empty t270 t269).extract 0 3) ++ (⟨#[44, 32]⟩ : ByteArray)) ++ t274) ++ (⟨#[32]⟩ : ByteArray)) ++ (rdOf ByteArray.empty t275 (ji19))) ++ (⟨#[32]⟩ : ByteArray)) ++ t279) ++ (⟨#[32]⟩ : ByteArray)).size + t280.size ≤ 9223372036854775807 then (if ((((((((((rdOf ByteArray.empty t270 t269).extract 0 3) ++ (⟨#[44, 32]⟩ : ByteArray)) ++ t274) ++ (⟨#[32]⟩ : ByteArray)) ++ (rdOf ByteArray.empty t275 (ji19))) ++ (⟨#[32]⟩ : ByteArray)) ++ t279) ++ (⟨#[32]⟩ : ByteArray)) ++ t280).size + 1 ≤ 9223372036854775807 then ((date_digits.f k1 (Int.tmod (wrap64 (Int.tdiv t264 60)) 60) 2).bind fun t281 => (if (((((((((((rdOf ByteArray.empty t270 t269).extract 0 3) ++ (⟨#[44, 32]⟩ : ByteArray)) ++ t274) ++ (⟨#[32]⟩ : ByteArray)) ++ (rdOf ByteArray.empty t275 (ji19))) ++ (⟨#[32]⟩ : ByteArray)) ++ t279) ++ (⟨#[32]⟩ : ByteArray)) ++ t280) ++ (⟨#[58]⟩ : ByteArray)).size + t281.size ≤ 9223372036854775807 then (if ((((((((((((rdOf ByteArray.empty t270 t269).extract 0 3) ++ (⟨#[44, 32]⟩ : ByteArray)) ++ t274) ++ (⟨#[32]⟩ : ByteArray)) ++ (rdOf ByteArray.empty t275 (ji19))) ++ (⟨#[32]⟩ : ByteArray)) ++ t279) ++ (⟨#[32]⟩ : ByteArray)) ++ t280) ++ (⟨#[58]⟩ : ByteArray)) ++ t281).size + 1 ≤ 9223372036854775807 then ((date_digits.f k1 (Int.tmod t264 60) 2).bind fun t282 => (if (((((((((((((rdOf ByteArray.empty t270 t269).extract 0 3) ++ (⟨#[44, 32]⟩ : ByteArray)) ++ t274) ++ (⟨#[32]⟩ : ByteArray)) ++ (rdOf ByteArray.empty t275 (ji19))) ++ (⟨#[32]⟩ : ByteArray)) ++ t279) ++ (⟨#[32]⟩ : ByteArray)) ++ t280) ++ (⟨#[58]⟩ : ByteArray)) ++ t281) ++ (⟨#[58]⟩ : ByteArray)).size + t282.size ≤ 9223372036854775807 then (if ((((((((((((((rdOf ByteArray.empty t270 t269).extract 0 3) ++ (⟨#[44, 32]⟩ : ByteArray)) ++ t274) ++ (⟨#[32]⟩ : ByteArray)) ++ (rdOf ByteArray.empty t275 (ji19))) ++ (⟨#[32]⟩ : ByteArray)) ++ t279) ++ (⟨#[32]⟩ : ByteArray)) ++ t280) ++ (⟨#[58]⟩ : ByteArray)) ++ t281) ++ (⟨#[58]⟩ : ByteArray)) ++ t282).size + 4 ≤ 9223372036854775807 then (some (((((((((((((((rdOf ByteArray.empty t270 t269).extract 0 3) ++ (⟨#[44, 32]⟩ : ByteArray)) ++ t274) ++ (⟨#[32]⟩ : ByteArray)) ++ (rdOf ByteArray.empty t275 (ji19))) ++ (⟨#[32]⟩ : ByteArray)) ++ t279) ++ (⟨#[32]⟩ : ByteArray)) ++ t280) ++ (⟨#[58]⟩ : ByteArray)) ++ t281) ++ (⟨#[58]⟩ : ByteArray)) ++ t282) ++ (⟨#[32, 71, 77, 84]⟩ : ByteArray), 0)) else (none)) else (none))) else (none)) else (none))) else (none)) else (none)) = some (r1, r2) := H
                                    have A27 := Aside0.mk A270
                                    clear A270
                                    by_cases c28 : (((((((((rdOf ByteArray.empty t270 t269).extract 0 3) ++ (⟨#[44, 32]⟩ : ByteArray)) ++ t274) ++ (⟨#[32]⟩ : ByteArray)) ++ (rdOf ByteArray.empty t275 (ji19))) ++ (⟨#[32]⟩ : ByteArray)) ++ t279) ++ (⟨#[32]⟩ : ByteArray)).size + t280.size ≤ 9223372036854775807
                                    · rw [if_pos c28] at H
                                      have c28b0 := eq_true c28
                                      have c28b1 : decide ((((((((((rdOf ByteArray.empty t270 t269).extract 0 3) ++ (⟨#[44, 32]⟩ : ByteArray)) ++ t274) ++ (⟨#[32]⟩ : ByteArray)) ++ (rdOf ByteArray.empty t275 (ji19))) ++ (⟨#[32]⟩ : ByteArray)) ++ t279) ++ (⟨#[32]⟩ : ByteArray)).size + t280.size ≤ 9223372036854775807) = true := decide_eq_true c28
                                      try have c28b2 : (9223372036854775807 < (((((((((rdOf ByteArray.empty t270 t269).extract 0 3) ++ (⟨#[44, 32]⟩ : ByteArray)) ++ t274) ++ (⟨#[32]⟩ : ByteArray)) ++ (rdOf ByteArray.empty t275 (ji19))) ++ (⟨#[32]⟩ : ByteArray)) ++ t279) ++ (⟨#[32]⟩ : ByteArray)).size + t280.size) = False := eq_false (Nat.not_lt.2 c28)
                                      (try (have c28y : (9223372036854775807 < min 3 ((rdOf ByteArray.empty t270 t269).size) + 2 + t274.size + 1 + (rdOf ByteArray.empty t275 (ji19)).size + 1 + t279.size + 1 + t280.size) = False := eq_false (by have zz := c28; simp only [ByteArray.size_append, ByteArray.size_extract, Nat.sub_zero] at zz; have e0 : (⟨#[44, 32]⟩ : ByteArray).size = 2 := rfl; have e1 : (⟨#[32]⟩ : ByteArray).size = 1 := rfl; omega)))
                                      (try (have c28s := c28; simp [go_sem] at c28s)); (try (have c28z := eq_false (Nat.not_lt.2 c28s)))
                                      by_cases c29 : ((((((((((rdOf ByteArray.empty t270 t269).extract 0 3) ++ (⟨#[44, 32]⟩ : ByteArray)) ++ t274) ++ (⟨#[32]⟩ : ByteArray)) ++ (rdOf ByteArray.empty t275 (ji19))) ++ (⟨#[32]⟩ : ByteArray)) ++ t279) ++ (⟨#[32]⟩ : ByteArray)) ++ t280).size + 1 ≤ 9223372036854775807
                                      · rw [if_pos c29] at H
                                        have c29b0 := eq_true c29
                                        have c29b1 : decide (((((((((((rdOf ByteArray.empty t270 t269).extract 0 3) ++ (⟨#[44, 32]⟩ : ByteArray)) ++ t274) ++ (⟨#[32]⟩ : ByteArray)) ++ (rdOf ByteArray.empty t275 (ji19))) ++ (⟨#[32]⟩ : ByteArray)) ++ t279) ++ (⟨#[32]⟩ : ByteArray)) ++ t280).size + 1 ≤ 9223372036854775807) = true := decide_eq_true c29
                                        try have c29b2 : (9223372036854775807 < ((((((((((rdOf ByteArray.empty t270 t269).extract 0 3) ++ (⟨#[44, 32]⟩ : ByteArray)) ++ t274) ++ (⟨#[32]⟩ : ByteArray)) ++ (rdOf ByteArray.empty t275 (ji19))) ++ (⟨#[32]⟩ : ByteArray)) ++ t279) ++ (⟨#[32]⟩ : ByteArray)) ++ t280).size + 1) = False := eq_false (Nat.not_lt.2 c29)
                                        (try (have c29y : (9223372036854775807 < min 3 ((rdOf ByteArray.empty t270 t269).size) + 2 + t274.size + 1 + (rdOf ByteArray.empty t275 (ji19)).size + 1 + t279.size + 1 + t280.size + 1) = False := eq_false (by have zz := c29; simp only [ByteArray.size_append, ByteArray.size_extract, Nat.sub_zero] at zz; have e0 : (⟨#[44, 32]⟩ : ByteArray).size = 2 := rfl; have e1 : (⟨#[32]⟩ : ByteArray).size = 1 := rfl; omega)))
                                        (try (have c29s := c29; simp [go_sem] at c29s)); (try (have c29z := eq_false (Nat.not_lt.2 c29s)))
                                        replace H := Option.bind_eq_some_iff.mp H
                                        obtain ⟨t281, A300, H⟩ := H
                                        replace H : (if (((((((((((rdOf ByteArray.empty t270 t269).extract 0 3) ++ (⟨#[44, 32]⟩ : ByteArray)) ++ t274) ++ (⟨#[32]⟩ : ByteArray)) ++ (rdOf ByteArray.empty t275 (ji19))) ++ (⟨#[32]⟩ : ByteArray)) ++ t279) ++ (⟨#[32]⟩ : ByteArray)) ++ t280) ++ (⟨#[58]⟩ : ByteArray)).size + t281.size ≤ 9223372036854775807 then (if ((((((((((((rdOf ByteArray.empty t270 t269).extract 0 3) ++ (⟨#[44, 32]⟩ : ByteArray)) ++ t274) ++ (⟨#[32]⟩ : ByteArray)) ++ (rdOf ByteArray.empty t275 (ji19))) ++ (⟨#[32]⟩ : ByteArray)) ++ t279) ++ (⟨#[32]⟩ : ByteArray)) ++ t280) ++ (⟨#[58]⟩ : ByteArray)) ++ t281).size + 1 ≤ 9223372036854775807 then ((date_digits.f k1 (Int.tmod t264 60) 2).bind fun t282 => (if (((((((((((((rdOf ByteArray.empty t270 t269).extract 0 3) ++ (⟨#[44, 32]⟩ : ByteArray)) ++ t274) ++ (⟨#[32]⟩ : ByteArray)) ++ (rdOf ByteArray.empty t275 (ji19))) ++ (⟨#[32]⟩ : ByteArray)) ++ t279) ++ (⟨#[32]⟩ : ByteArray)) ++ t280) ++ (⟨#[58]⟩ : ByteArray)) ++ t281) ++ (⟨#[58]⟩ : ByteArray)).size + t282.size ≤ 9223372036854775807 then (if ((((((((((((((rdOf ByteArray.empty t270 t269).extract 0 3) ++ (⟨#[44, 32]⟩ : ByteArray)) ++ t274) ++ (⟨#[32]⟩ : ByteArray)) ++ (rdOf ByteArray.empty t275 (ji19))) ++ (⟨#[32]⟩ : ByteArray)) ++ t279) ++ (⟨#[32]⟩ : ByteArray)) ++ t280) ++ (⟨#[58]⟩ : ByteArray)) ++ t281) ++ (⟨#[58]⟩ : ByteArray)) ++ t282).size + 4 ≤ 9223372036854775807 then (some (((((((((((((((rdOf ByteArray.empty t270 t269).extract 0 3) ++ (⟨#[44, 32]⟩ : ByteArray)) ++ t274) ++ (⟨#[32]⟩ : ByteArray)) ++ (rdOf ByteArray.empty t275 (ji19))) ++ (⟨#[32]⟩ : ByteArray)) ++ t279) ++ (⟨#[32]⟩ : ByteArray)) ++ t280) ++ (⟨#[58]⟩ : ByteArray)) ++ t281) ++ (⟨#[58]⟩ : ByteArray)) ++ t282) ++ (⟨#[32, 71, 77, 84]⟩ : ByteArray), 0)) else (none)) else (none))) else (none)) else (none)) = some (r1, r2) := H
                                        have A30 := Aside0.mk A300
                                        clear A300
                                        by_cases c31 : (((((((((((rdOf ByteArray.empty t270 t269).extract 0 3) ++ (⟨#[44, 32]⟩ : ByteArray)) ++ t274) ++ (⟨#[32]⟩ : ByteArray)) ++ (rdOf ByteArray.empty t275 (ji19))) ++ (⟨#[32]⟩ : ByteArray)) ++ t279) ++ (⟨#[32]⟩ : ByteArray)) ++ t280) ++ (⟨#[58]⟩ : ByteArray)).size + t281.size ≤ 9223372036854775807
                                        · rw [if_pos c31] at H
                                          have c31b0 := eq_true c31
                                          have c31b1 : decide ((((((((((((rdOf ByteArray.empty t270 t269).extract 0 3) ++ (⟨#[44, 32]⟩ : ByteArray)) ++ t274) ++ (⟨#[32]⟩ : ByteArray)) ++ (rdOf ByteArray.empty t275 (ji19))) ++ (⟨#[32]⟩ : ByteArray)) ++ t279) ++ (⟨#[32]⟩ : ByteArray)) ++ t280) ++ (⟨#[58]⟩ : ByteArray)).size + t281.size ≤ 9223372036854775807) = true := decide_eq_true c31
                                          try have c31b2 : (9223372036854775807 < (((((((((((rdOf ByteArray.empty t270 t269).extract 0 3) ++ (⟨#[44, 32]⟩ : ByteArray)) ++ t274) ++ (⟨#[32]⟩ : ByteArray)) ++ (rdOf ByteArray.empty t275 (ji19))) ++ (⟨#[32]⟩ : ByteArray)) ++ t279) ++ (⟨#[32]⟩ : ByteArray)) ++ t280) ++ (⟨#[58]⟩ : ByteArray)).size + t281.size) = False := eq_false (Nat.not_lt.2 c31)
                                          (try (have c31y : (9223372036854775807 < min 3 ((rdOf ByteArray.empty t270 t269).size) + 2 + t274.size + 1 + (rdOf ByteArray.empty t275 (ji19)).size + 1 + t279.size + 1 + t280.size + 1 + t281.size) = False := eq_false (by have zz := c31; simp only [ByteArray.size_append, ByteArray.size_extract, Nat.sub_zero] at zz; have e0 : (⟨#[44, 32]⟩ : ByteArray).size = 2 := rfl; have e1 : (⟨#[32]⟩ : ByteArray).size = 1 := rfl; have e2 : (⟨#[58]⟩ : ByteArray).size = 1 := rfl; omega)))
                                          (try (have c31s := c31; simp [go_sem] at c31s)); (try (have c31z := eq_false (Nat.not_lt.2 c31s)))
                                          by_cases c32 : ((((((((((((rdOf ByteArray.empty t270 t269).extract 0 3) ++ (⟨#[44, 32]⟩ : ByteArray)) ++ t274) ++ (⟨#[32]⟩ : ByteArray)) ++ (rdOf ByteArray.empty t275 (ji19))) ++ (⟨#[32]⟩ : ByteArray)) ++ t279) ++ (⟨#[32]⟩ : ByteArray)) ++ t280) ++ (⟨#[58]⟩ : ByteArray)) ++ t281).size + 1 ≤ 9223372036854775807
                                          · rw [if_pos c32] at H
                                            have c32b0 := eq_true c32
                                            have c32b1 : decide (((((((((((((rdOf ByteArray.empty t270 t269).extract 0 3) ++ (⟨#[44, 32]⟩ : ByteArray)) ++ t274) ++ (⟨#[32]⟩ : ByteArray)) ++ (rdOf ByteArray.empty t275 (ji19))) ++ (⟨#[32]⟩ : ByteArray)) ++ t279) ++ (⟨#[32]⟩ : ByteArray)) ++ t280) ++ (⟨#[58]⟩ : ByteArray)) ++ t281).size + 1 ≤ 9223372036854775807) = true := decide_eq_true c32
                                            try have c32b2 : (9223372036854775807 < ((((((((((((rdOf ByteArray.empty t270 t269).extract 0 3) ++ (⟨#[44, 32]⟩ : ByteArray)) ++ t274) ++ (⟨#[32]⟩ : ByteArray)) ++ (rdOf ByteArray.empty t275 (ji19))) ++ (⟨#[32]⟩ : ByteArray)) ++ t279) ++ (⟨#[32]⟩ : ByteArray)) ++ t280) ++ (⟨#[58]⟩ : ByteArray)) ++ t281).size + 1) = False := eq_false (Nat.not_lt.2 c32)
                                            (try (have c32y : (9223372036854775807 < min 3 ((rdOf ByteArray.empty t270 t269).size) + 2 + t274.size + 1 + (rdOf ByteArray.empty t275 (ji19)).size + 1 + t279.size + 1 + t280.size + 1 + t281.size + 1) = False := eq_false (by have zz := c32; simp only [ByteArray.size_append, ByteArray.size_extract, Nat.sub_zero] at zz; have e0 : (⟨#[44, 32]⟩ : ByteArray).size = 2 := rfl; have e1 : (⟨#[32]⟩ : ByteArray).size = 1 := rfl; have e2 : (⟨#[58]⟩ : ByteArray).size = 1 := rfl; omega)))
                                            (try (have c32s := c32; simp [go_sem] at c32s)); (try (have c32z := eq_false (Nat.not_lt.2 c32s)))
                                            replace H := Option.bind_eq_some_iff.mp H
                                            obtain ⟨t282, A330, H⟩ := H
                                            replace H : (if (((((((((((((rdOf ByteArray.empty t270 t269).extract 0 3) ++ (⟨#[44, 32]⟩ : ByteArray)) ++ t274) ++ (⟨#[32]⟩ : ByteArray)) ++ (rdOf ByteArray.empty t275 (ji19))) ++ (⟨#[32]⟩ : ByteArray)) ++ t279) ++ (⟨#[32]⟩ : ByteArray)) ++ t280) ++ (⟨#[58]⟩ : ByteArray)) ++ t281) ++ (⟨#[58]⟩ : ByteArray)).size + t282.size ≤ 9223372036854775807 then (if ((((((((((((((rdOf ByteArray.empty t270 t269).extract 0 3) ++ (⟨#[44, 32]⟩ : ByteArray)) ++ t274) ++ (⟨#[32]⟩ : ByteArray)) ++ (rdOf ByteArray.empty t275 (ji19))) ++ (⟨#[32]⟩ : ByteArray)) ++ t279) ++ (⟨#[32]⟩ : ByteArray)) ++ t280) ++ (⟨#[58]⟩ : ByteArray)) ++ t281) ++ (⟨#[58]⟩ : ByteArray)) ++ t282).size + 4 ≤ 9223372036854775807 then (some (((((((((((((((rdOf ByteArray.empty t270 t269).extract 0 3) ++ (⟨#[44, 32]⟩ : ByteArray)) ++ t274) ++ (⟨#[32]⟩ : ByteArray)) ++ (rdOf ByteArray.empty t275 (ji19))) ++ (⟨#[32]⟩ : ByteArray)) ++ t279) ++ (⟨#[32]⟩ : ByteArray)) ++ t280) ++ (⟨#[58]⟩ : ByteArray)) ++ t281) ++ (⟨#[58]⟩ : ByteArray)) ++ t282) ++ (⟨#[32, 71, 77, 84]⟩ : ByteArray), 0)) else (none)) else (none)) = some (r1, r2) := H
                                            have A33 := Aside0.mk A330
                                            clear A330
                                            by_cases c34 : (((((((((((((rdOf ByteArray.empty t270 t269).extract 0 3) ++ (⟨#[44, 32]⟩ : ByteArray)) ++ t274) ++ (⟨#[32]⟩ : ByteArray)) ++ (rdOf ByteArray.empty t275 (ji19))) ++ (⟨#[32]⟩ : ByteArray)) ++ t279) ++ (⟨#[32]⟩ : ByteArray)) ++ t280) ++ (⟨#[58]⟩ : ByteArray)) ++ t281) ++ (⟨#[58]⟩ : ByteArray)).size + t282.size ≤ 9223372036854775807
                                            · rw [if_pos c34] at H
                                              have c34b0 := eq_true c34
                                              have c34b1 : decide ((((((((((((((rdOf ByteArray.empty t270 t269).extract 0 3) ++ (⟨#[44, 32]⟩ : ByteArray)) ++ t274) ++ (⟨#[32]⟩ : ByteArray)) ++ (rdOf ByteArray.empty t275 (ji19))) ++ (⟨#[32]⟩ : ByteArray)) ++ t279) ++ (⟨#[32]⟩ : ByteArray)) ++ t280) ++ (⟨#[58]⟩ : ByteArray)) ++ t281) ++ (⟨#[58]⟩ : ByteArray)).size + t282.size ≤ 9223372036854775807) = true := decide_eq_true c34
                                              try have c34b2 : (9223372036854775807 < (((((((((((((rdOf ByteArray.empty t270 t269).extract 0 3) ++ (⟨#[44, 32]⟩ : ByteArray)) ++ t274) ++ (⟨#[32]⟩ : ByteArray)) ++ (rdOf ByteArray.empty t275 (ji19))) ++ (⟨#[32]⟩ : ByteArray)) ++ t279) ++ (⟨#[32]⟩ : ByteArray)) ++ t280) ++ (⟨#[58]⟩ : ByteArray)) ++ t281) ++ (⟨#[58]⟩ : ByteArray)).size + t282.size) = False := eq_false (Nat.not_lt.2 c34)
                                              (try (have c34y : (9223372036854775807 < min 3 ((rdOf ByteArray.empty t270 t269).size) + 2 + t274.size + 1 + (rdOf ByteArray.empty t275 (ji19)).size + 1 + t279.size + 1 + t280.size + 1 + t281.size + 1 + t282.size) = False := eq_false (by have zz := c34; simp only [ByteArray.size_append, ByteArray.size_extract, Nat.sub_zero] at zz; have e0 : (⟨#[44, 32]⟩ : ByteArray).size = 2 := rfl; have e1 : (⟨#[32]⟩ : ByteArray).size = 1 := rfl; have e2 : (⟨#[58]⟩ : ByteArray).size = 1 := rfl; omega)))
                                              (try (have c34s := c34; simp [go_sem] at c34s)); (try (have c34z := eq_false (Nat.not_lt.2 c34s)))
                                              by_cases c35 : ((((((((((((((rdOf ByteArray.empty t270 t269).extract 0 3) ++ (⟨#[44, 32]⟩ : ByteArray)) ++ t274) ++ (⟨#[32]⟩ : ByteArray)) ++ (rdOf ByteArray.empty t275 (ji19))) ++ (⟨#[32]⟩ : ByteArray)) ++ t279) ++ (⟨#[32]⟩ : ByteArray)) ++ t280) ++ (⟨#[58]⟩ : ByteArray)) ++ t281) ++ (⟨#[58]⟩ : ByteArray)) ++ t282).size + 4 ≤ 9223372036854775807
                                              · rw [if_pos c35] at H
                                                have c35b0 := eq_true c35
                                                have c35b1 : decide (((((((((((((((rdOf ByteArray.empty t270 t269).extract 0 3) ++ (⟨#[44, 32]⟩ : ByteArray)) ++ t274) ++ (⟨#[32]⟩ : ByteArray)) ++ (rdOf ByteArray.empty t275 (ji19))) ++ (⟨#[32]⟩ : ByteArray)) ++ t279) ++ (⟨#[32]⟩ : ByteArray)) ++ t280) ++ (⟨#[58]⟩ : ByteArray)) ++ t281) ++ (⟨#[58]⟩ : ByteArray)) ++ t282).size + 4 ≤ 9223372036854775807) = true := decide_eq_true c35
                                                try have c35b2 : (9223372036854775807 < ((((((((((((((rdOf ByteArray.empty t270 t269).extract 0 3) ++ (⟨#[44, 32]⟩ : ByteArray)) ++ t274) ++ (⟨#[32]⟩ : ByteArray)) ++ (rdOf ByteArray.empty t275 (ji19))) ++ (⟨#[32]⟩ : ByteArray)) ++ t279) ++ (⟨#[32]⟩ : ByteArray)) ++ t280) ++ (⟨#[58]⟩ : ByteArray)) ++ t281) ++ (⟨#[58]⟩ : ByteArray)) ++ t282).size + 4) = False := eq_false (Nat.not_lt.2 c35)
                                                (try (have c35y : (9223372036854775807 < min 3 ((rdOf ByteArray.empty t270 t269).size) + 2 + t274.size + 1 + (rdOf ByteArray.empty t275 (ji19)).size + 1 + t279.size + 1 + t280.size + 1 + t281.size + 1 + t282.size + 4) = False := eq_false (by have zz := c35; simp only [ByteArray.size_append, ByteArray.size_extract, Nat.sub_zero] at zz; have e0 : (⟨#[44, 32]⟩ : ByteArray).size = 2 := rfl; have e1 : (⟨#[32]⟩ : ByteArray).size = 1 := rfl; have e2 : (⟨#[58]⟩ : ByteArray).size = 1 := rfl; omega)))
                                                (try (have c35s := c35; simp [go_sem] at c35s)); (try (have c35z := eq_false (Nat.not_lt.2 c35s)))
                                                simp only [Option.some.injEq, Prod.mk.injEq] at H
                                                obtain ⟨rfl, rfl⟩ := H
                                                try go_wp2_with (first | ((with_reducible refine gate_callee (f := 34) rfl ?_); refine goesL_ (some 27) rfl rfl Tryd.func34 (by kernel_rfl) rfl #[.int .i64 t265, .int .i64 x8_1] rfl (by (try simp only [List.map_toArray, List.map_cons, List.map_nil]); first | done | rfl | (simp only [List.length_drop, List.length_take]; rfl)) ?_; (with_reducible refine (date_length.calls k1 t265 x8_1 t267 _ A6.out).mono ?_); rintro e w' ⟨rfl, ⟨nd, rfl⟩⟩; refine ⟨_, rfl, ?_⟩) | ((with_reducible refine gate_callee (f := 32) rfl ?_); refine goesL_ (some 39) rfl rfl Tryd.func32 (by kernel_rfl) rfl #[.int .i64 (wrap64 (t263 + 4)), .int .i64 7] rfl (by (try simp only [List.map_toArray, List.map_cons, List.map_nil]); first | done | rfl | (simp only [List.length_drop, List.length_take]; rfl)) ?_; (with_reducible refine (date_down.calls (wrap64 (t263 + 4)) 7 t268 t269 _ A8.out).mono ?_); rintro e w' ⟨rfl, ⟨nd, rfl⟩⟩; refine ⟨_, rfl, ?_⟩) | ((with_reducible refine gate_callee (f := 34) rfl ?_); refine goesL_ (some 32) rfl rfl Tryd.func34 (by kernel_rfl) rfl #[.int .i64 t265, .int .i64 x8_1] rfl (by (try simp only [List.map_toArray, List.map_cons, List.map_nil]); first | done | rfl | (simp only [List.length_drop, List.length_take]; rfl)) ?_; (with_reducible refine (date_length.calls k1 t265 x8_1 t267 _ A6.out).mono ?_); rintro e w' ⟨rfl, ⟨nd, rfl⟩⟩; refine ⟨_, rfl, ?_⟩) | ((with_reducible refine gate_callee (f := 32) rfl ?_); refine goesL_ (some 39) rfl rfl Tryd.func32 (by kernel_rfl) rfl #[.int .i64 (wrap64 (t263 + 4)), .int .i64 7] rfl (by (try simp only [List.map_toArray, List.map_cons, List.map_nil]); first | done | rfl | (simp only [List.length_drop, List.length_take]; rfl)) ?_; (with_reducible refine (date_down.calls (wrap64 (t263 + 4)) 7 t268 t269 _ A8.out).mono ?_); rintro e w' ⟨rfl, ⟨nd, rfl⟩⟩; refine ⟨_, rfl, ?_⟩))
                                                (try (rw [drewN_self wr]; generalize hq_ : World.drewN wr _ = wr; have n0_ : Aside0 (Below w.heap.size w wr) := ⟨by rw [← hq_]; exact (by repeat (first | (with_reducible first | exact HB.out | apply below_alloc | apply pw_below_drewN | apply below_drew1) | exact HB.out))⟩; clear HB hq_; have HB := n0_; clear n0_))
                                                have n0_ := Aside0.mk (below_drew1 HB.out)
                                                clear HB
                                                have HB := n0_
                                                clear n0_
                                                refine start_ (n := 40) (S := fun w' => True) (ds := []) #[false, false, false, false, false, false, false, false, false, false, false, false, false, false, false, false, false, false, false, false, false, false, false, false, false, false, false, false, false, false, false, false, false, false, false, false, false, false, false, false] (by kernel_rfl) rfl rfl trivial (fun hHeld => ?_); refine with_tabW date_Print.tab10 date_Print.bits10 (fun HT_ HW_ => ?_)
                                                generalize wr.drew = w36 at HB hHeld ⊢
                                                refine pure_ (i := 1) (N := some 43) (v := ?_) (a' := ?_) #[false, true, false, false, false, false, false, false, false, false, false, false, false, false, false, false, false, false, false, false, false, false, false, false, false, false, false, false, false, false, false, false, false, false, false, false, false, false, false, false] rfl rfl (any_of HT_.out (by kernel_rfl)) (fun _ _ _ h => h) (Or.inl ⟨by rfl, ?_⟩) ?_ ?_
                                                rotate_left
                                                · intro w'
                                                  go_simp
                                                  with_reducible rfl
                                                rotate_left
                                                · simp only [Act.put, List.setIfInBounds_toArray, List.set_cons_zero, List.set_cons_succ, i64_w, i32_w]
                                                  rfl
                                                refine pure_ (i := 6) (N := some 48) (v := ?_) (a' := ?_) #[false, true, false, false, false, false, true, false, false, false, false, false, false, false, false, false, false, false, false, false, false, false, false, false, false, false, false, false, false, false, false, false, false, false, false, false, false, false, false, false] rfl rfl (any_of HT_.out (by kernel_rfl)) (fun _ _ _ h => h) (Or.inl ⟨by rfl, ?_⟩) ?_ ?_
                                                rotate_left
                                                · intro w'
                                                  go_simp
                                                  with_reducible rfl
                                                rotate_left
                                                · simp only [Act.put, List.setIfInBounds_toArray, List.set_cons_zero, List.set_cons_succ, i64_w, i32_w]
                                                  rfl
                                                refine pure_ (i := 7) (N := some 49) (v := ?_) (a' := ?_) #[false, true, false, false, false, false, true, true, false, false, false, false, false, false, false, false, false, false, false, false, false, false, false, false, false, false, false, false, false, false, false, false, false, false, false, false, false, false, false, false] rfl rfl (any_of HT_.out (by kernel_rfl)) (fun _ _ _ h => h) (Or.inl ⟨by rfl, ?_⟩) ?_ ?_
                                                rotate_left
                                                · intro w'
                                                  go_simp
                                                  with_reducible rfl
                                                rotate_left
                                                · simp only [Act.put, List.setIfInBounds_toArray, List.set_cons_zero, List.set_cons_succ, i64_w, i32_w]
                                                  rfl
                                                refine pure_ (i := 12) (N := some 54) (v := ?_) (a' := ?_) #[false, true, false, false, false, false, true, true, false, false, false, false, true, false, false, false, false, false, false, false, false, false, false, false, false, false, false, false, false, false, false, false, false, false, false, false, false, false, false, false] rfl rfl (any_of HT_.out (by kernel_rfl)) (fun _ _ _ h => h) (Or.inl ⟨by rfl, ?_⟩) ?_ ?_
                                                rotate_left
                                                · intro w'
                                                  go_simp
                                                  with_reducible rfl
                                                rotate_left
                                                · simp only [Act.put, List.setIfInBounds_toArray, List.set_cons_zero, List.set_cons_succ, i64_w, i32_w]
                                                  rfl
                                                refine pure_ (i := 13) (N := some 55) (v := ?_) (a' := ?_) #[false, true, false, false, false, false, true, true, false, false, false, false, true, true, false, false, false, false, false, false, false, false, false, false, false, false, false, false, false, false, false, false, false, false, false, false, false, false, false, false] rfl rfl (any_of HT_.out (by kernel_rfl)) (fun _ _ _ h => h) (Or.inl ⟨by rfl, ?_⟩) ?_ ?_
                                                rotate_left
                                                · intro w'
                                                  go_simp
                                                  with_reducible rfl
                                                rotate_left
                                                · simp only [Act.put, List.setIfInBounds_toArray, List.set_cons_zero, List.set_cons_succ, i64_w, i32_w]
                                                  rfl
                                                refine pure_ (i := 18) (N := some 60) (v := ?_) (a' := ?_) #[false, true, false, false, false, false, true, true, false, false, false, false, true, true, false, false, false, false, true, false, false, false, false, false, false, false, false, false, false, false, false, false, false, false, false, false, false, false, false, false] rfl rfl (any_of HT_.out (by kernel_rfl)) (fun _ _ _ h => h) (Or.inl ⟨by rfl, ?_⟩) ?_ ?_
                                                rotate_left
                                                · intro w'
                                                  go_simp
                                                  with_reducible rfl
                                                rotate_left
                                                · simp only [Act.put, List.setIfInBounds_toArray, List.set_cons_zero, List.set_cons_succ, i64_w, i32_w]
                                                  rfl
                                                refine pure_ (i := 22) (N := some 64) (v := ?_) (a' := ?_) #[false, true, false, false, false, false, true, true, false, false, false, false, true, true, false, false, false, false, true, false, false, false, true, false, false, false, false, false, false, false, false, false, false, false, false, false, false, false, false, false] rfl rfl (any_of HT_.out (by kernel_rfl)) (fun _ _ _ h => h) (Or.inl ⟨by rfl, ?_⟩) ?_ ?_
                                                rotate_left
                                                · intro w'
                                                  go_simp
                                                  with_reducible rfl
                                                rotate_left
                                                · simp only [Act.put, List.setIfInBounds_toArray, List.set_cons_zero, List.set_cons_succ, i64_w, i32_w]
                                                  rfl
                                                refine pure_ (i := 23) (N := some 65) (v := ?_) (a' := ?_) #[false, true, false, false, false, false, true, true, false, false, false, false, true, true, false, false, false, false, true, false, false, false, true, true, false, false, false, false, false, false, false, false, false, false, false, false, false, false, false, false] rfl rfl (any_of HT_.out (by kernel_rfl)) (fun _ _ _ h => h) (Or.inl ⟨by rfl, ?_⟩) ?_ ?_
                                                rotate_left
                                                · intro w'
                                                  go_simp
                                                  with_reducible rfl
                                                rotate_left
                                                · simp only [Act.put, List.setIfInBounds_toArray, List.set_cons_zero, List.set_cons_succ, i64_w, i32_w]
                                                  rfl
                                                refine pure_ (i := 27) (N := some 69) (v := ?_) (a' := ?_) #[false, true, false, false, false, false, true, true, false, false, false, false, true, true, false, false, false, false, true, false, false, false, true, true, false, false, false, true, false, false, false, false, false, false, false, false, false, false, false, false] rfl rfl (any_of HT_.out (by kernel_rfl)) (fun _ _ _ h => h) (Or.inl ⟨by rfl, ?_⟩) ?_ ?_
                                                rotate_left
                                                · intro w'
                                                  go_simp
                                                  with_reducible rfl
                                                rotate_left
                                                · simp only [Act.put, List.setIfInBounds_toArray, List.set_cons_zero, List.set_cons_succ, i64_w, i32_w]
                                                  rfl
                                                refine pure_ (i := 28) (N := some 70) (v := ?_) (a' := ?_) #[false, true, false, false, false, false, true, true, false, false, false, false, true, true, false, false, false, false, true, false, false, false, true, true, false, false, false, true, true, false, false, false, false, false, false, false, false, false, false, false] rfl rfl (any_of HT_.out (by kernel_rfl)) (fun _ _ _ h => h) (Or.inl ⟨by rfl, ?_⟩) ?_ ?_
                                                rotate_left
                                                · intro w'
                                                  go_simp
                                                  with_reducible rfl
                                                rotate_left
                                                · simp only [Act.put, List.setIfInBounds_toArray, List.set_cons_zero, List.set_cons_succ, i64_w, i32_w]
                                                  rfl
                                                refine pure_ (i := 29) (N := some 71) (v := ?_) (a' := ?_) #[false, true, false, false, false, false, true, true, false, false, false, false, true, true, false, false, false, false, true, false, false, false, true, true, false, false, false, true, true, true, false, false, false, false, false, false, false, false, false, false] rfl rfl (any_of HT_.out (by kernel_rfl)) (fun _ _ _ h => h) (Or.inl ⟨by rfl, ?_⟩) ?_ ?_
                                                rotate_left
                                                · intro w'
                                                  go_simp
                                                  with_reducible rfl
                                                rotate_left
                                                · simp only [Act.put, List.setIfInBounds_toArray, List.set_cons_zero, List.set_cons_succ, i64_w, i32_w]
                                                  rfl
                                                refine pure_ (i := 33) (N := some 75) (v := ?_) (a' := ?_) #[false, true, false, false, false, false, true, true, false, false, false, false, true, true, false, false, false, false, true, false, false, false, true, true, false, false, false, true, true, true, false, false, false, true, false, false, false, false, false, false] rfl rfl (any_of HT_.out (by kernel_rfl)) (fun _ _ _ h => h) (Or.inl ⟨by rfl, ?_⟩) ?_ ?_
                                                rotate_left
                                                · intro w'
                                                  go_simp
                                                  with_reducible rfl
                                                rotate_left
                                                · simp only [Act.put, List.setIfInBounds_toArray, List.set_cons_zero, List.set_cons_succ, i64_w, i32_w]
                                                  rfl
                                                refine pure_ (i := 34) (N := some 76) (v := ?_) (a' := ?_) #[false, true, false, false, false, false, true, true, false, false, false, false, true, true, false, false, false, false, true, false, false, false, true, true, false, false, false, true, true, true, false, false, false, true, true, false, false, false, false, false] rfl rfl (any_of HT_.out (by kernel_rfl)) (fun _ _ _ h => h) (Or.inl ⟨by rfl, ?_⟩) ?_ ?_
                                                rotate_left
                                                · intro w'
                                                  go_simp
                                                  with_reducible rfl
                                                rotate_left
                                                · simp only [Act.put, List.setIfInBounds_toArray, List.set_cons_zero, List.set_cons_succ, i64_w, i32_w]
                                                  rfl
                                                refine one_ (i := 0) (N := some 42) #[true, true, false, false, false, false, true, true, false, false, false, false, true, true, false, false, false, false, true, false, false, false, true, true, false, false, false, true, true, true, false, false, false, true, true, false, false, false, false, false] rfl rfl (one_of HT_.out (by kernel_rfl)) (by decide) (fun K hK => ?_)
                                                refine goes_ Tryd.func35 (by kernel_rfl) rfl #[] (by rfl) rfl rfl (by (try simp only [List.map_toArray, List.map_cons, List.map_nil]); first | done | rfl | (simp only [List.length_drop, List.length_take]; rfl)) ?_
                                                with_reducible refine (date_days.calls  t270 _ A9.out).mono ?_
                                                rintro e w37 ⟨v271, rfl, ho0, hb⟩
                                                refine ⟨_, rfl, ?_⟩
                                                have n0_ := Aside0.mk (Kd.R_lower ho0 (below_size (by repeat (first | (with_reducible first | exact HB.out | apply below_alloc | apply pw_below_drewN | apply below_drew1) | exact HB.out))))
                                                have n1_ := Aside0.mk (below_step (by repeat (first | (with_reducible first | exact HB.out | apply below_alloc | apply pw_below_drewN | apply below_drew1) | exact HB.out)) hb)
                                                clear HB
                                                have HO272 := n0_
                                                have HB := n1_
                                                clear n0_ n1_
                                                (try clear hb)
                                                (try clear hb2)
                                                (try clear hk)
                                                (try clear hi)
                                                (try clear ho0)
                                                obtain ⟨Ao38, co38, eo38⟩ := Kd.R_slice HO272.out
                                                (first | subst eo38 | (injection eo38 with f1_ f2_ f3_; have f4_ := f1_.symm; have f5_ := f3_.symm; clear f1_ f2_ f3_; subst f4_; subst f5_))
                                                have p273 : 0 ≤ (t269 : Int) := of_decide_eq_true (by first | (with_reducible assumption) | assumption)
                                                have q273 : t269 < (t270.length : Int) := of_decide_eq_true (by first | (with_reducible assumption) | assumption)
                                                obtain ⟨ad273, e273, hx273_0⟩ := Kd.at_string (Kd.R_reads' HO272.out).2.2 t269 p273 q273
                                                cases e273
                                                replace p273 := eq_true p273
                                                replace q273 := eq_true q273
                                                refine hK.out _ _ trivial (fun hHeld => ?_)
                                                refine rebase_ (S' := fun w' => w'.cell? (ad273.add (t269).toNat) = some (.string (rdOf ByteArray.empty t270 t269))) (fun _ _ => trivial) hx273_0 (fun hHeld => ?_)
                                                clear hK K
                                                refine norm_ (a' := ?_) ?_ ?_
                                                rotate_left
                                                · show Act.put _ (some 42) _ = _
                                                  simp only [Act.put, List.setIfInBounds_toArray, List.set_cons_zero, List.set_cons_succ, i64_w, i32_w]
                                                  rfl
                                                refine pure_ (i := 2) (N := some 44) (v := ?_) (a' := ?_) #[true, true, true, false, false, false, true, true, false, false, false, false, true, true, false, false, false, false, true, false, false, false, true, true, false, false, false, true, true, true, false, false, false, true, true, false, false, false, false, false] rfl rfl (any_of HT_.out (by kernel_rfl)) (fun _ _ _ h => h) (Or.inl ⟨by rfl, ?_⟩) ?_ ?_
                                                rotate_left
                                                · intro w'
                                                  go_simp
                                                  with_reducible rfl
                                                rotate_left
                                                · simp only [Act.put, List.setIfInBounds_toArray, List.set_cons_zero, List.set_cons_succ, i64_w, i32_w]
                                                  rfl
                                                refine take_ (i := 3) (N := some 45) (v := ?_) (a' := ?_) #[true, true, true, true, false, false, true, true, false, false, false, false, true, true, false, false, false, false, true, false, false, false, true, true, false, false, false, true, true, true, false, false, false, true, true, false, false, false, false, false] rfl rfl (take_ofW HT_.out HW_.out (by kernel_rfl)) (fun _ _ _ h => h) (Or.inl ⟨by rfl, ?_⟩) hHeld ?_ ?_
                                                rotate_left
                                                · rintro w' s0
                                                  go_simp
                                                  with_reducible rfl
                                                rotate_left
                                                · simp only [Act.put, List.setIfInBounds_toArray, List.set_cons_zero, List.set_cons_succ, i64_w, i32_w]
                                                  rfl
                                                refine pure_ (i := 4) (N := some 46) (v := ?_) (a' := ?_) #[true, true, true, true, true, false, true, true, false, false, false, false, true, true, false, false, false, false, true, false, false, false, true, true, false, false, false, true, true, true, false, false, false, true, true, false, false, false, false, false] rfl rfl (any_of HT_.out (by kernel_rfl)) (fun _ _ _ h => h) (Or.inl ⟨by rfl, ?_⟩) ?_ ?_
                                                rotate_left
                                                · intro w'
                                                  go_simp
                                                  with_reducible rfl
                                                rotate_left
                                                · simp only [Act.put, List.setIfInBounds_toArray, List.set_cons_zero, List.set_cons_succ, i64_w, i32_w]
                                                  rfl
                                                refine pure_ (i := 5) (N := some 47) (v := ?_) (a' := ?_) #[true, true, true, true, true, true, true, true, false, false, false, false, true, true, false, false, false, false, true, false, false, false, true, true, false, false, false, true, true, true, false, false, false, true, true, false, false, false, false, false] rfl rfl (any_of HT_.out (by kernel_rfl)) (fun _ _ _ h => h) (Or.inl ⟨by rfl, ?_⟩) ?_ ?_
                                                rotate_left
                                                · intro w'
                                                  go_simp
                                                  with_reducible rfl
                                                rotate_left
                                                · simp only [Act.put, List.setIfInBounds_toArray, List.set_cons_zero, List.set_cons_succ, i64_w, i32_w]
                                                  rfl
                                                refine one_ (i := 8) (N := some 50) #[true, true, true, true, true, true, true, true, true, false, false, false, true, true, false, false, false, false, true, false, false, false, true, true, false, false, false, true, true, true, false, false, false, true, true, false, false, false, false, false] rfl rfl (one_of HT_.out (by kernel_rfl)) (by decide) (fun K hK => ?_)
                                                refine goes_ Tryd.func36 (by kernel_rfl) rfl #[.int .i64 (wrap64 (x7_1 + 1)), .int .i64 2] (by rfl) rfl rfl (by (try simp only [List.map_toArray, List.map_cons, List.map_nil]); first | done | rfl | (simp only [List.length_drop, List.length_take]; rfl)) ?_
                                                with_reducible refine (date_digits.calls k1 (wrap64 (x7_1 + 1)) 2 t274 _ A15.out (tab_below HT0.out (by repeat (first | (with_reducible first | exact HB.out | apply below_alloc | apply pw_below_drewN | apply below_drew1) | exact HB.out)))).mono ?_
                                                rintro e w39 ⟨rfl, hb⟩
                                                have HS0_ := (hb.cell (World.block_lt_of_cell? _ _ (hHeld))).trans (hHeld)
                                                refine ⟨_, rfl, ?_⟩
                                                have n0_ := Aside0.mk (Kd.R_below (by (with_reducible repeat (first | apply Kd.R_alloc | apply Kd.R_drewN | apply Kd.R_drew)); exact HO272.out) hb)
                                                have n1_ := Aside0.mk (below_step (by repeat (first | (with_reducible first | exact HB.out | apply below_alloc | apply pw_below_drewN | apply below_drew1) | exact HB.out)) hb)
                                                clear HO272
                                                clear HB
                                                have HO272 := n0_
                                                have HB := n1_
                                                clear n0_ n1_
                                                (try clear hb)
                                                (try clear hb2)
                                                (try clear hk)
                                                (try clear hi)
                                                refine hK.out _ _ HS0_ (fun hHeld => ?_)
                                                clear hK K
                                                refine norm_ (a' := ?_) ?_ ?_
                                                rotate_left
                                                · show Act.put _ (some 50) _ = _
                                                  simp only [Act.put, List.setIfInBounds_toArray, List.set_cons_zero, List.set_cons_succ, i64_w, i32_w]
                                                  rfl
                                                refine pure_ (i := 9) (N := some 51) (v := ?_) (a' := ?_) #[true, true, true, true, true, true, true, true, true, true, false, false, true, true, false, false, false, false, true, false, false, false, true, true, false, false, false, true, true, true, false, false, false, true, true, false, false, false, false, false] rfl rfl (any_of HT_.out (by kernel_rfl)) (fun _ _ _ h => h) (Or.inl ⟨by rfl, ?_⟩) ?_ ?_
                                                rotate_left
                                                · intro w'
                                                  go_simp
                                                  with_reducible rfl
                                                rotate_left
                                                · simp only [Act.put, List.setIfInBounds_toArray, List.set_cons_zero, List.set_cons_succ, i64_w, i32_w]
                                                  rfl
                                                refine pure_ (i := 10) (N := some 52) (v := ?_) (a' := ?_) #[true, true, true, true, true, true, true, true, true, true, true, false, true, true, false, false, false, false, true, false, false, false, true, true, false, false, false, true, true, true, false, false, false, true, true, false, false, false, false, false] rfl rfl (any_of HT_.out (by kernel_rfl)) (fun _ _ _ h => h) (Or.inl ⟨by rfl, ?_⟩) ?_ ?_
                                                rotate_left
                                                · intro w'
                                                  go_simp
                                                  with_reducible rfl
                                                rotate_left
                                                · simp only [Act.put, List.setIfInBounds_toArray, List.set_cons_zero, List.set_cons_succ, i64_w, i32_w]
                                                  rfl
                                                refine one_ (i := 11) (N := some 53) #[true, true, true, true, true, true, true, true, true, true, true, true, true, true, false, false, false, false, true, false, false, false, true, true, false, false, false, true, true, true, false, false, false, true, true, false, false, false, false, false] rfl rfl (one_of HT_.out (by kernel_rfl)) (by decide) (fun K hK => ?_)
                                                refine goes_ Tryd.func37 (by kernel_rfl) rfl #[] (by rfl) rfl rfl (by (try simp only [List.map_toArray, List.map_cons, List.map_nil]); first | done | rfl | (simp only [List.length_drop, List.length_take]; rfl)) ?_
                                                with_reducible refine (date_months.calls  t275 _ A18.out).mono ?_
                                                rintro e w40 ⟨v276, rfl, ho0, hb⟩
                                                have HS0_ := (hb.cell (World.block_lt_of_cell? _ _ (hHeld))).trans (hHeld)
                                                refine ⟨_, rfl, ?_⟩
                                                have n0_ := Aside0.mk (Kd.R_elder' (by (with_reducible repeat (first | apply Kd.R_alloc | apply Kd.R_drewN | apply Kd.R_drew)); exact HO272.out) (Kd.R_base ho0) hb)
                                                have n1_ := Aside0.mk (Kd.R_lower (Kd.R_new' ho0 (Kd.R_lt (by (with_reducible repeat (first | apply Kd.R_alloc | apply Kd.R_drewN | apply Kd.R_drew)); exact HO272.out))) (below_size (by repeat (first | (with_reducible first | exact HB.out | apply below_alloc | apply pw_below_drewN | apply below_drew1) | exact HB.out))))
                                                have n2_ := Aside0.mk (below_step (by repeat (first | (with_reducible first | exact HB.out | apply below_alloc | apply pw_below_drewN | apply below_drew1) | exact HB.out)) hb)
                                                clear HO272
                                                clear HB
                                                have HO272 := n0_
                                                have HO277 := n1_
                                                have HB := n2_
                                                clear n0_ n1_ n2_
                                                (try clear hb)
                                                (try clear hb2)
                                                (try clear hk)
                                                (try clear hi)
                                                (try clear ho0)
                                                obtain ⟨Ao41, co41, eo41⟩ := Kd.R_slice HO277.out
                                                (first | subst eo41 | (injection eo41 with f1_ f2_ f3_; have f4_ := f1_.symm; have f5_ := f3_.symm; clear f1_ f2_ f3_; subst f4_; subst f5_))
                                                have p278 : 0 ≤ ((ji19) : Int) := of_decide_eq_true (by first | (with_reducible assumption) | assumption)
                                                have q278 : (ji19) < (t275.length : Int) := of_decide_eq_true (by first | (with_reducible assumption) | assumption)
                                                obtain ⟨ad278, e278, hx278_0⟩ := Kd.at_string (Kd.R_reads' HO277.out).2.2 (ji19) p278 q278
                                                cases e278
                                                replace p278 := eq_true p278
                                                replace q278 := eq_true q278
                                                refine hK.out _ _ HS0_ (fun hHeld => ?_)
                                                refine rebase_ (S' := fun w' => w'.cell? (ad273.add (t269).toNat) = some (.string (rdOf ByteArray.empty t270 t269)) ∧ w'.cell? (ad278.add ((ji19)).toNat) = some (.string (rdOf ByteArray.empty t275 (ji19)))) (fun _ hHeld => hHeld.1) ⟨HS0_, hx278_0⟩ (fun hHeld => ?_)
                                                clear hK K
                                                refine norm_ (a' := ?_) ?_ ?_
                                                rotate_left
                                                · show Act.put _ (some 53) _ = _
                                                  simp only [Act.put, List.setIfInBounds_toArray, List.set_cons_zero, List.set_cons_succ, i64_w, i32_w]
                                                  rfl
                                                refine pure_ (i := 14) (N := some 56) (v := ?_) (a' := ?_) #[true, true, true, true, true, true, true, true, true, true, true, true, true, true, true, false, false, false, true, false, false, false, true, true, false, false, false, true, true, true, false, false, false, true, true, false, false, false, false, false] rfl rfl (any_of HT_.out (by kernel_rfl)) (fun _ _ _ h => h) (Or.inl ⟨by rfl, ?_⟩) ?_ ?_
                                                rotate_left
                                                · intro w'
                                                  go_simp
                                                  with_reducible rfl
                                                rotate_left
                                                · simp only [Act.put, List.setIfInBounds_toArray, List.set_cons_zero, List.set_cons_succ, i64_w, i32_w]
                                                  rfl
                                                refine take_ (i := 15) (N := some 57) (v := ?_) (a' := ?_) #[true, true, true, true, true, true, true, true, true, true, true, true, true, true, true, true, false, false, true, false, false, false, true, true, false, false, false, true, true, true, false, false, false, true, true, false, false, false, false, false] rfl rfl (take_ofW HT_.out HW_.out (by kernel_rfl)) (fun _ _ _ h => h) (Or.inl ⟨by rfl, ?_⟩) hHeld ?_ ?_
                                                rotate_left
                                                · rintro w' ⟨s0, s1⟩
                                                  go_simp
                                                  with_reducible rfl
                                                rotate_left
                                                · simp only [Act.put, List.setIfInBounds_toArray, List.set_cons_zero, List.set_cons_succ, i64_w, i32_w]
                                                  rfl
                                                refine pure_ (i := 16) (N := some 58) (v := ?_) (a' := ?_) #[true, true, true, true, true, true, true, true, true, true, true, true, true, true, true, true, true, false, true, false, false, false, true, true, false, false, false, true, true, true, false, false, false, true, true, false, false, false, false, false] rfl rfl (any_of HT_.out (by kernel_rfl)) (fun _ _ _ h => h) (Or.inl ⟨by rfl, ?_⟩) ?_ ?_
                                                rotate_left
                                                · intro w'
                                                  go_simp
                                                  with_reducible rfl
                                                rotate_left
                                                · simp only [Act.put, List.setIfInBounds_toArray, List.set_cons_zero, List.set_cons_succ, i64_w, i32_w]
                                                  rfl
                                                refine pure_ (i := 17) (N := some 59) (v := ?_) (a' := ?_) #[true, true, true, true, true, true, true, true, true, true, true, true, true, true, true, true, true, true, true, false, false, false, true, true, false, false, false, true, true, true, false, false, false, true, true, false, false, false, false, false] rfl rfl (any_of HT_.out (by kernel_rfl)) (fun _ _ _ h => h) (Or.inl ⟨by rfl, ?_⟩) ?_ ?_
                                                rotate_left
                                                · intro w'
                                                  go_simp
                                                  with_reducible rfl
                                                rotate_left
                                                · simp only [Act.put, List.setIfInBounds_toArray, List.set_cons_zero, List.set_cons_succ, i64_w, i32_w]
                                                  rfl
                                                refine one_ (i := 19) (N := some 61) #[true, true, true, true, true, true, true, true, true, true, true, true, true, true, true, true, true, true, true, true, false, false, true, true, false, false, false, true, true, true, false, false, false, true, true, false, false, false, false, false] rfl rfl (one_of HT_.out (by kernel_rfl)) (by decide) (fun K hK => ?_)
                                                refine goes_ Tryd.func36 (by kernel_rfl) rfl #[.int .i64 t265, .int .i64 4] (by rfl) rfl rfl (by (try simp only [List.map_toArray, List.map_cons, List.map_nil]); first | done | rfl | (simp only [List.length_drop, List.length_take]; rfl)) ?_
                                                with_reducible refine (date_digits.calls k1 t265 4 t279 _ A24.out (tab_below HT0.out (by repeat (first | (with_reducible first | exact HB.out | apply below_alloc | apply pw_below_drewN | apply below_drew1) | exact HB.out)))).mono ?_
                                                rintro e w42 ⟨rfl, hb⟩
                                                have HS0_ := (hb.cell (World.block_lt_of_cell? _ _ (hHeld.1))).trans (hHeld.1)
                                                have HS1_ := (hb.cell (World.block_lt_of_cell? _ _ (hHeld.2))).trans (hHeld.2)
                                                refine ⟨_, rfl, ?_⟩
                                                have n0_ := Aside0.mk (Kd.R_below (by (with_reducible repeat (first | apply Kd.R_alloc | apply Kd.R_drewN | apply Kd.R_drew)); exact HO272.out) hb)
                                                have n1_ := Aside0.mk (Kd.R_below (by (with_reducible repeat (first | apply Kd.R_alloc | apply Kd.R_drewN | apply Kd.R_drew)); exact HO277.out) hb)
                                                have n2_ := Aside0.mk (below_step (by repeat (first | (with_reducible first | exact HB.out | apply below_alloc | apply pw_below_drewN | apply below_drew1) | exact HB.out)) hb)
                                                clear HO272
                                                clear HO277
                                                clear HB
                                                have HO272 := n0_
                                                have HO277 := n1_
                                                have HB := n2_
                                                clear n0_ n1_ n2_
                                                (try clear hb)
                                                (try clear hb2)
                                                (try clear hk)
                                                (try clear hi)
                                                refine hK.out _ _ ⟨HS0_, HS1_⟩ (fun hHeld => ?_)
                                                clear hK K
                                                refine norm_ (a' := ?_) ?_ ?_
                                                rotate_left
                                                · show Act.put _ (some 61) _ = _
                                                  simp only [Act.put, List.setIfInBounds_toArray, List.set_cons_zero, List.set_cons_succ, i64_w, i32_w]
                                                  rfl
                                                refine pure_ (i := 20) (N := some 62) (v := ?_) (a' := ?_) #[true, true, true, true, true, true, true, true, true, true, true, true, true, true, true, true, true, true, true, true, true, false, true, true, false, false, false, true, true, true, false, false, false, true, true, false, false, false, false, false] rfl rfl (any_of HT_.out (by kernel_rfl)) (fun _ _ _ h => h) (Or.inl ⟨by rfl, ?_⟩) ?_ ?_
                                                rotate_left
                                                · intro w'
                                                  go_simp
                                                  with_reducible rfl
                                                rotate_left
                                                · simp only [Act.put, List.setIfInBounds_toArray, List.set_cons_zero, List.set_cons_succ, i64_w, i32_w]
                                                  rfl
                                                refine pure_ (i := 21) (N := some 63) (v := ?_) (a' := ?_) #[true, true, true, true, true, true, true, true, true, true, true, true, true, true, true, true, true, true, true, true, true, true, true, true, false, false, false, true, true, true, false, false, false, true, true, false, false, false, false, false] rfl rfl (any_of HT_.out (by kernel_rfl)) (fun _ _ _ h => h) (Or.inl ⟨by rfl, ?_⟩) ?_ ?_
                                                rotate_left
                                                · intro w'
                                                  go_simp
                                                  with_reducible rfl
                                                rotate_left
                                                · simp only [Act.put, List.setIfInBounds_toArray, List.set_cons_zero, List.set_cons_succ, i64_w, i32_w]
                                                  rfl
                                                refine one_ (i := 24) (N := some 66) #[true, true, true, true, true, true, true, true, true, true, true, true, true, true, true, true, true, true, true, true, true, true, true, true, true, false, false, true, true, true, false, false, false, true, true, false, false, false, false, false] rfl rfl (one_of HT_.out (by kernel_rfl)) (by decide) (fun K hK => ?_)
                                                refine goes_ Tryd.func36 (by kernel_rfl) rfl #[.int .i64 (wrap64 (Int.tdiv t264 3600)), .int .i64 2] (by rfl) rfl rfl (by (try simp only [List.map_toArray, List.map_cons, List.map_nil]); first | done | rfl | (simp only [List.length_drop, List.length_take]; rfl)) ?_
                                                with_reducible refine (date_digits.calls k1 (wrap64 (Int.tdiv t264 3600)) 2 t280 _ A27.out (tab_below HT0.out (by repeat (first | (with_reducible first | exact HB.out | apply below_alloc | apply pw_below_drewN | apply below_drew1) | exact HB.out)))).mono ?_
                                                rintro e w43 ⟨rfl, hb⟩
                                                have HS0_ := (hb.cell (World.block_lt_of_cell? _ _ (hHeld.1))).trans (hHeld.1)
                                                have HS1_ := (hb.cell (World.block_lt_of_cell? _ _ (hHeld.2))).trans (hHeld.2)
                                                refine ⟨_, rfl, ?_⟩
                                                have n0_ := Aside0.mk (Kd.R_below (by (with_reducible repeat (first | apply Kd.R_alloc | apply Kd.R_drewN | apply Kd.R_drew)); exact HO272.out) hb)
                                                have n1_ := Aside0.mk (Kd.R_below (by (with_reducible repeat (first | apply Kd.R_alloc | apply Kd.R_drewN | apply Kd.R_drew)); exact HO277.out) hb)
                                                have n2_ := Aside0.mk (below_step (by repeat (first | (with_reducible first | exact HB.out | apply below_alloc | apply pw_below_drewN | apply below_drew1) | exact HB.out)) hb)
                                                clear HO272
                                                clear HO277
                                                clear HB
                                                have HO272 := n0_
                                                have HO277 := n1_
                                                have HB := n2_
                                                clear n0_ n1_ n2_
                                                (try clear hb)
                                                (try clear hb2)
                                                (try clear hk)
                                                (try clear hi)
                                                refine hK.out _ _ ⟨HS0_, HS1_⟩ (fun hHeld => ?_)
                                                clear hK K
                                                refine norm_ (a' := ?_) ?_ ?_
                                                rotate_left
                                                · show Act.put _ (some 66) _ = _
                                                  simp only [Act.put, List.setIfInBounds_toArray, List.set_cons_zero, List.set_cons_succ, i64_w, i32_w]
                                                  rfl
                                                refine pure_ (i := 25) (N := some 67) (v := ?_) (a' := ?_) #[true, true, true, true, true, true, true, true, true, true, true, true, true, true, true, true, true, true, true, true, true, true, true, true, true, true, false, true, true, true, false, false, false, true, true, false, false, false, false, false] rfl rfl (any_of HT_.out (by kernel_rfl)) (fun _ _ _ h => h) (Or.inl ⟨by rfl, ?_⟩) ?_ ?_
                                                rotate_left
                                                · intro w'
                                                  go_simp
                                                  with_reducible rfl
                                                rotate_left
                                                · simp only [Act.put, List.setIfInBounds_toArray, List.set_cons_zero, List.set_cons_succ, i64_w, i32_w]
                                                  rfl
                                                refine pure_ (i := 26) (N := some 68) (v := ?_) (a' := ?_) #[true, true, true, true, true, true, true, true, true, true, true, true, true, true, true, true, true, true, true, true, true, true, true, true, true, true, true, true, true, true, false, false, false, true, true, false, false, false, false, false] rfl rfl (any_of HT_.out (by kernel_rfl)) (fun _ _ _ h => h) (Or.inl ⟨by rfl, ?_⟩) ?_ ?_
                                                rotate_left
                                                · intro w'
                                                  go_simp
                                                  with_reducible rfl
                                                rotate_left
                                                · simp only [Act.put, List.setIfInBounds_toArray, List.set_cons_zero, List.set_cons_succ, i64_w, i32_w]
                                                  rfl
                                                refine one_ (i := 30) (N := some 72) #[true, true, true, true, true, true, true, true, true, true, true, true, true, true, true, true, true, true, true, true, true, true, true, true, true, true, true, true, true, true, true, false, false, true, true, false, false, false, false, false] rfl rfl (one_of HT_.out (by kernel_rfl)) (by decide) (fun K hK => ?_)
                                                refine goes_ Tryd.func36 (by kernel_rfl) rfl #[.int .i64 (Int.tmod (wrap64 (Int.tdiv t264 60)) 60), .int .i64 2] (by rfl) rfl rfl (by (try simp only [List.map_toArray, List.map_cons, List.map_nil]); first | done | rfl | (simp only [List.length_drop, List.length_take]; rfl)) ?_
                                                with_reducible refine (date_digits.calls k1 (Int.tmod (wrap64 (Int.tdiv t264 60)) 60) 2 t281 _ A30.out (tab_below HT0.out (by repeat (first | (with_reducible first | exact HB.out | apply below_alloc | apply pw_below_drewN | apply below_drew1) | exact HB.out)))).mono ?_
                                                rintro e w44 ⟨rfl, hb⟩
                                                have HS0_ := (hb.cell (World.block_lt_of_cell? _ _ (hHeld.1))).trans (hHeld.1)
                                                have HS1_ := (hb.cell (World.block_lt_of_cell? _ _ (hHeld.2))).trans (hHeld.2)
                                                refine ⟨_, rfl, ?_⟩
                                                have n0_ := Aside0.mk (Kd.R_below (by (with_reducible repeat (first | apply Kd.R_alloc | apply Kd.R_drewN | apply Kd.R_drew)); exact HO272.out) hb)
                                                have n1_ := Aside0.mk (Kd.R_below (by (with_reducible repeat (first | apply Kd.R_alloc | apply Kd.R_drewN | apply Kd.R_drew)); exact HO277.out) hb)
                                                have n2_ := Aside0.mk (below_step (by repeat (first | (with_reducible first | exact HB.out | apply below_alloc | apply pw_below_drewN | apply below_drew1) | exact HB.out)) hb)
                                                clear HO272
                                                clear HO277
                                                clear HB
                                                have HO272 := n0_
                                                have HO277 := n1_
                                                have HB := n2_
                                                clear n0_ n1_ n2_
                                                (try clear hb)
                                                (try clear hb2)
                                                (try clear hk)
                                                (try clear hi)
                                                refine hK.out _ _ ⟨HS0_, HS1_⟩ (fun hHeld => ?_)
                                                clear hK K
                                                refine norm_ (a' := ?_) ?_ ?_
                                                rotate_left
                                                · show Act.put _ (some 72) _ = _
                                                  simp only [Act.put, List.setIfInBounds_toArray, List.set_cons_zero, List.set_cons_succ, i64_w, i32_w]
                                                  rfl
                                                refine pure_ (i := 31) (N := some 73) (v := ?_) (a' := ?_) #[true, true, true, true, true, true, true, true, true, true, true, true, true, true, true, true, true, true, true, true, true, true, true, true, true, true, true, true, true, true, true, true, false, true, true, false, false, false, false, false] rfl rfl (any_of HT_.out (by kernel_rfl)) (fun _ _ _ h => h) (Or.inl ⟨by rfl, ?_⟩) ?_ ?_
                                                rotate_left
                                                · intro w'
                                                  go_simp
                                                  with_reducible rfl
                                                rotate_left
                                                · simp only [Act.put, List.setIfInBounds_toArray, List.set_cons_zero, List.set_cons_succ, i64_w, i32_w]
                                                  rfl
                                                refine pure_ (i := 32) (N := some 74) (v := ?_) (a' := ?_) #[true, true, true, true, true, true, true, true, true, true, true, true, true, true, true, true, true, true, true, true, true, true, true, true, true, true, true, true, true, true, true, true, true, true, true, false, false, false, false, false] rfl rfl (any_of HT_.out (by kernel_rfl)) (fun _ _ _ h => h) (Or.inl ⟨by rfl, ?_⟩) ?_ ?_
                                                rotate_left
                                                · intro w'
                                                  go_simp
                                                  with_reducible rfl
                                                rotate_left
                                                · simp only [Act.put, List.setIfInBounds_toArray, List.set_cons_zero, List.set_cons_succ, i64_w, i32_w]
                                                  rfl
                                                refine one_ (i := 35) (N := some 77) #[true, true, true, true, true, true, true, true, true, true, true, true, true, true, true, true, true, true, true, true, true, true, true, true, true, true, true, true, true, true, true, true, true, true, true, true, false, false, false, false] rfl rfl (one_of HT_.out (by kernel_rfl)) (by decide) (fun K hK => ?_)
                                                refine goes_ Tryd.func36 (by kernel_rfl) rfl #[.int .i64 (Int.tmod t264 60), .int .i64 2] (by rfl) rfl rfl (by (try simp only [List.map_toArray, List.map_cons, List.map_nil]); first | done | rfl | (simp only [List.length_drop, List.length_take]; rfl)) ?_
                                                with_reducible refine (date_digits.calls k1 (Int.tmod t264 60) 2 t282 _ A33.out (tab_below HT0.out (by repeat (first | (with_reducible first | exact HB.out | apply below_alloc | apply pw_below_drewN | apply below_drew1) | exact HB.out)))).mono ?_
                                                rintro e w45 ⟨rfl, hb⟩
                                                have HS0_ := (hb.cell (World.block_lt_of_cell? _ _ (hHeld.1))).trans (hHeld.1)
                                                have HS1_ := (hb.cell (World.block_lt_of_cell? _ _ (hHeld.2))).trans (hHeld.2)
                                                refine ⟨_, rfl, ?_⟩
                                                have n0_ := Aside0.mk (Kd.R_below (by (with_reducible repeat (first | apply Kd.R_alloc | apply Kd.R_drewN | apply Kd.R_drew)); exact HO272.out) hb)
                                                have n1_ := Aside0.mk (Kd.R_below (by (with_reducible repeat (first | apply Kd.R_alloc | apply Kd.R_drewN | apply Kd.R_drew)); exact HO277.out) hb)
                                                have n2_ := Aside0.mk (below_step (by repeat (first | (with_reducible first | exact HB.out | apply below_alloc | apply pw_below_drewN | apply below_drew1) | exact HB.out)) hb)
                                                clear HO272
                                                clear HO277
                                                clear HB
                                                have HO272 := n0_
                                                have HO277 := n1_
                                                have HB := n2_
                                                clear n0_ n1_ n2_
                                                (try clear hb)
                                                (try clear hb2)
                                                (try clear hk)
                                                (try clear hi)
                                                refine hK.out _ _ ⟨HS0_, HS1_⟩ (fun hHeld => ?_)
                                                clear hK K
                                                refine norm_ (a' := ?_) ?_ ?_
                                                rotate_left
                                                · show Act.put _ (some 77) _ = _
                                                  simp only [Act.put, List.setIfInBounds_toArray, List.set_cons_zero, List.set_cons_succ, i64_w, i32_w]
                                                  rfl
                                                refine pure_ (i := 36) (N := some 78) (v := ?_) (a' := ?_) #[true, true, true, true, true, true, true, true, true, true, true, true, true, true, true, true, true, true, true, true, true, true, true, true, true, true, true, true, true, true, true, true, true, true, true, true, true, false, false, false] rfl rfl (any_of HT_.out (by kernel_rfl)) (fun _ _ _ h => h) (Or.inl ⟨by rfl, ?_⟩) ?_ ?_
                                                rotate_left
                                                · intro w'
                                                  go_simp
                                                  with_reducible rfl
                                                rotate_left
                                                · simp only [Act.put, List.setIfInBounds_toArray, List.set_cons_zero, List.set_cons_succ, i64_w, i32_w]
                                                  rfl
                                                refine pure_ (i := 37) (N := some 79) (v := ?_) (a' := ?_) #[true, true, true, true, true, true, true, true, true, true, true, true, true, true, true, true, true, true, true, true, true, true, true, true, true, true, true, true, true, true, true, true, true, true, true, true, true, true, false, false] rfl rfl (any_of HT_.out (by kernel_rfl)) (fun _ _ _ h => h) (Or.inl ⟨by rfl, ?_⟩) ?_ ?_
                                                rotate_left
                                                · intro w'
                                                  go_simp
                                                  with_reducible rfl
                                                rotate_left
                                                · simp only [Act.put, List.setIfInBounds_toArray, List.set_cons_zero, List.set_cons_succ, i64_w, i32_w]
                                                  rfl
                                                refine pure_ (i := 38) (N := some 2) (v := ?_) (a' := ?_) #[true, true, true, true, true, true, true, true, true, true, true, true, true, true, true, true, true, true, true, true, true, true, true, true, true, true, true, true, true, true, true, true, true, true, true, true, true, true, true, false] rfl rfl (any_of HT_.out (by kernel_rfl)) (fun _ _ _ h => h) (Or.inl ⟨by rfl, ?_⟩) ?_ ?_
                                                rotate_left
                                                · intro w'
                                                  go_simp
                                                  with_reducible rfl
                                                rotate_left
                                                · simp only [Act.put, List.setIfInBounds_toArray, List.set_cons_zero, List.set_cons_succ, i64_w, i32_w]
                                                  rfl
                                                refine pure_ (i := 39) (N := some 3) (v := ?_) (a' := ?_) #[true, true, true, true, true, true, true, true, true, true, true, true, true, true, true, true, true, true, true, true, true, true, true, true, true, true, true, true, true, true, true, true, true, true, true, true, true, true, true, true] rfl rfl (any_of HT_.out (by kernel_rfl)) (fun _ _ _ h => h) (Or.inl ⟨by rfl, ?_⟩) ?_ ?_
                                                rotate_left
                                                · intro w'
                                                  go_simp
                                                  with_reducible rfl
                                                rotate_left
                                                · simp only [Act.put, List.setIfInBounds_toArray, List.set_cons_zero, List.set_cons_succ, i64_w, i32_w]
                                                  rfl
                                                refine done_ (done_of HT_.out (by kernel_rfl)) ?_
                                                try go_wp2
                                                go_ret2
                                                exact ⟨by first | rfl | (simp [errW_none, errW_some] <;> rfl) | (simp only [← hji19]; first | rfl | (simp [errW_none, errW_some] <;> rfl)) | (simp [*, errW_none, errW_some] <;> rfl), by repeat (first | (with_reducible first | exact HB.out | apply below_alloc | apply pw_below_drewN | apply below_drew1) | exact HB.out)⟩
                                              · rw [if_neg c35] at H
                                                exact absurd H (by simp)
                                            · rw [if_neg c34] at H
                                              exact absurd H (by simp)
                                          · rw [if_neg c32] at H
                                            exact absurd H (by simp)
                                        · rw [if_neg c31] at H
                                          exact absurd H (by simp)
                                      · rw [if_neg c29] at H
                                        exact absurd H (by simp)
                                    · rw [if_neg c28] at H
                                      exact absurd H (by simp)
                                  · rw [if_neg c26] at H
                                    exact absurd H (by simp)
                                · rw [if_neg c25] at H
                                  exact absurd H (by simp)
                              · rw [if_neg c23] at H
                                exact absurd H (by simp)
                            · rw [if_neg c22] at H
                              exact absurd H (by simp)
                          · rw [if_neg c21] at H
                            exact absurd H (by simp)
                        · rw [if_neg c20] at H
                          exact absurd H (by simp)
                      · rw [if_neg c17] at H
                        exact absurd H (by simp)
                    · rw [if_neg c16] at H
                      exact absurd H (by simp)
                  · rw [if_neg c14] at H
                    exact absurd H (by simp)
                · rw [if_neg c13] at H
                  exact absurd H (by simp)
              · rw [if_neg c12] at H
                exact absurd H (by simp)
            · rw [if_neg c11] at H
              exact absurd H (by simp)
          · rw [if_neg c10] at H
            exact absurd H (by simp)
  · replace c3 := Bool.eq_false_iff.mpr c3
    subst c3
    have H1 : (some ((⟨#[]⟩ : ByteArray), 1)) = some (r1, r2) := by rw [if_neg (show ¬ (false = true) by decide)] at H; exact H
    clear H
    have H := H1
    clear H1
    simp only [Option.some.injEq, Prod.mk.injEq] at H
    obtain ⟨rfl, rfl⟩ := H
    go_enter Tryd.func12, Tryd.ntmps12
    go_wp2_with (first | ((with_reducible refine gate_callee (f := 31) rfl ?_); refine goesL_ (some 12) rfl rfl Tryd.func31 (by kernel_rfl) rfl #[.int .i64 a0] rfl (by (try simp only [List.map_toArray, List.map_cons, List.map_nil]); first | done | rfl | (simp only [List.length_drop, List.length_take]; rfl)) ?_; (with_reducible refine (date_within.calls a0 false _ A2.out).mono ?_); rintro e w' ⟨rfl, ⟨nd, rfl⟩⟩; refine ⟨_, rfl, ?_⟩))
    go_ret2
    exact ⟨by first | rfl | (simp [errW_none, errW_some] <;> rfl) | (simp [*, errW_none, errW_some] <;> rfl), by repeat (first | (with_reducible first | exact HB.out | apply below_alloc | apply pw_below_drewN | apply below_drew1) | exact HB.out)⟩

/-! ### sprref14_days: function 23 -/
def sprref14_days.f  : Option (List ByteArray) := some (([(⟨#[84, 104, 117]⟩ : ByteArray), (⟨#[70, 114, 105]⟩ : ByteArray), (⟨#[83, 97, 116]⟩ : ByteArray), (⟨#[83, 117, 110]⟩ : ByteArray), (⟨#[77, 111, 110]⟩ : ByteArray), (⟨#[84, 117, 101]⟩ : ByteArray), (⟨#[87, 101, 100]⟩ : ByteArray)] : List ByteArray))
set_option maxHeartbeats 2000000 in
set_option maxRecDepth 100000 in
theorem sprref14_days.calls  (r : List ByteArray) (w : World) (h : sprref14_days.f  = some r) :
    Calls Tryd.prog 23 #[] w fun e w' => ∃ v0_ : Value, e = .returned (v0_) ∧ Kd.R Kd.string 9 w' w.heap.size (fun _ => True) v0_ r ∧ Below w.heap.size w w' := by
  have HB := Aside0.mk (Below.refl w.heap.size w)
  have H : (some (([(⟨#[84, 104, 117]⟩ : ByteArray), (⟨#[70, 114, 105]⟩ : ByteArray), (⟨#[83, 97, 116]⟩ : ByteArray), (⟨#[83, 117, 110]⟩ : ByteArray), (⟨#[77, 111, 110]⟩ : ByteArray), (⟨#[84, 117, 101]⟩ : ByteArray), (⟨#[87, 101, 100]⟩ : ByteArray)] : List ByteArray))) = some r := h
  clear h
  obtain ⟨y283, hy283⟩ : ∃ y_ : List ByteArray, y_ = (([(⟨#[84, 104, 117]⟩ : ByteArray), (⟨#[70, 114, 105]⟩ : ByteArray), (⟨#[83, 97, 116]⟩ : ByteArray), (⟨#[83, 117, 110]⟩ : ByteArray), (⟨#[77, 111, 110]⟩ : ByteArray), (⟨#[84, 117, 101]⟩ : ByteArray), (⟨#[87, 101, 100]⟩ : ByteArray)] : List ByteArray)) := ⟨_, rfl⟩
  replace H : (some y283) = some r := by first | (rw [hy283]; with_reducible exact H) | (have H2_ := (Option.bind_some _ _).symm.trans H; rw [hy283]; with_reducible exact H2_) | (have H2_ := (Option.bind_some _ _).symm.trans H; with_reducible exact H2_) | with_reducible exact H | (rw [hy283]; exact H) | exact H
  have Ny283 := Aside0.mk hy283
  clear hy283
  obtain rfl := Option.some.inj H
  go_enter Tryd.func23, Tryd.ntmps23
  go_wp2_with (first | ((with_reducible refine gate_dst (N := 1) rfl ?_); refine Kd.R_lit Kd.string _ 9 ?hg (N := 1) ?hd (xs := ([(⟨#[84, 104, 117]⟩ : ByteArray), (⟨#[70, 114, 105]⟩ : ByteArray), (⟨#[83, 97, 116]⟩ : ByteArray), (⟨#[83, 117, 110]⟩ : ByteArray), (⟨#[77, 111, 110]⟩ : ByteArray), (⟨#[84, 117, 101]⟩ : ByteArray), (⟨#[87, 101, 100]⟩ : ByteArray)] : List ByteArray)) (inner := [.string (⟨#[84, 104, 117]⟩ : ByteArray), .string (⟨#[70, 114, 105]⟩ : ByteArray), .string (⟨#[83, 97, 116]⟩ : ByteArray), .string (⟨#[83, 117, 110]⟩ : ByteArray), .string (⟨#[77, 111, 110]⟩ : ByteArray), .string (⟨#[84, 117, 101]⟩ : ByteArray), .string (⟨#[87, 101, 100]⟩ : ByteArray)]) (ok := fun _ => True) (okp := fun _ => True) ?hr ?hp (fun _ hk => hk) trivial (Below.refl _ _) (Nat.le_refl _) (by simp) ?_; (case hd => rfl); (case hg => rfl); (case hr => first | (go_simp; done) | (go_simp; rfl)); (case hp => exact (Reps.one (show Kd.M Kd.string _ _ _ (⟨#[84, 104, 117]⟩ : ByteArray) [.string (⟨#[84, 104, 117]⟩ : ByteArray)] from rfl) (Reps.one (show Kd.M Kd.string _ _ _ (⟨#[70, 114, 105]⟩ : ByteArray) [.string (⟨#[70, 114, 105]⟩ : ByteArray)] from rfl) (Reps.one (show Kd.M Kd.string _ _ _ (⟨#[83, 97, 116]⟩ : ByteArray) [.string (⟨#[83, 97, 116]⟩ : ByteArray)] from rfl) (Reps.one (show Kd.M Kd.string _ _ _ (⟨#[83, 117, 110]⟩ : ByteArray) [.string (⟨#[83, 117, 110]⟩ : ByteArray)] from rfl) (Reps.one (show Kd.M Kd.string _ _ _ (⟨#[77, 111, 110]⟩ : ByteArray) [.string (⟨#[77, 111, 110]⟩ : ByteArray)] from rfl) (Reps.one (show Kd.M Kd.string _ _ _ (⟨#[84, 117, 101]⟩ : ByteArray) [.string (⟨#[84, 117, 101]⟩ : ByteArray)] from rfl) (Reps.one (show Kd.M Kd.string _ _ _ (⟨#[87, 101, 100]⟩ : ByteArray) [.string (⟨#[87, 101, 100]⟩ : ByteArray)] from rfl) (Reps.none _ _))))))))); intro v284 w1 ho2 hb hg_ hnew_; clear hg_ hnew_; (first | rw [← Ny283.out] at ho2 | (simp only [Int.reduceToNat] at ho2; rw [← Ny283.out] at ho2)); have n0_ := Aside0.mk (Kd.R_lower ho2 (below_size (by repeat (first | (with_reducible first | exact HB.out | apply below_alloc | apply pw_below_drewN | apply below_drew1) | exact HB.out)))); have n1_ := Aside0.mk (below_step (by repeat (first | (with_reducible first | exact HB.out | apply below_alloc | apply pw_below_drewN | apply below_drew1) | exact HB.out)) hb); clear HB; have HO285 := n0_; have HB := n1_; clear n0_ n1_; clear hb ho2))
  go_ret
  exact ⟨_, by first | rfl | (simp [errW_none, errW_some] <;> rfl) | (simp [*, errW_none, errW_some] <;> rfl), by (with_reducible repeat (first | apply Kd.R_alloc | apply Kd.R_drewN | apply Kd.R_drew)); exact HO285.out, by repeat (first | (with_reducible first | exact HB.out | apply below_alloc | apply pw_below_drewN | apply below_drew1) | exact HB.out)⟩

/-! ### sprref14_months: function 26 -/
def sprref14_months.f  : Option (List ByteArray) := some (([(⟨#[74, 97, 110]⟩ : ByteArray), (⟨#[70, 101, 98]⟩ : ByteArray), (⟨#[77, 97, 114]⟩ : ByteArray), (⟨#[65, 112, 114]⟩ : ByteArray), (⟨#[77, 97, 121]⟩ : ByteArray), (⟨#[74, 117, 110]⟩ : ByteArray), (⟨#[74, 117, 108]⟩ : ByteArray), (⟨#[65, 117, 103]⟩ : ByteArray), (⟨#[83, 101, 112]⟩ : ByteArray), (⟨#[79, 99, 116]⟩ : ByteArray), (⟨#[78, 111, 118]⟩ : ByteArray), (⟨#[68, 101, 99]⟩ : ByteArray)] : List ByteArray))
set_option maxHeartbeats 2000000 in
set_option maxRecDepth 100000 in
theorem sprref14_months.calls  (r : List ByteArray) (w : World) (h : sprref14_months.f  = some r) :
    Calls Tryd.prog 26 #[] w fun e w' => ∃ v0_ : Value, e = .returned (v0_) ∧ Kd.R Kd.string 9 w' w.heap.size (fun _ => True) v0_ r ∧ Below w.heap.size w w' := by
  have HB := Aside0.mk (Below.refl w.heap.size w)
  have H : (some (([(⟨#[74, 97, 110]⟩ : ByteArray), (⟨#[70, 101, 98]⟩ : ByteArray), (⟨#[77, 97, 114]⟩ : ByteArray), (⟨#[65, 112, 114]⟩ : ByteArray), (⟨#[77, 97, 121]⟩ : ByteArray), (⟨#[74, 117, 110]⟩ : ByteArray), (⟨#[74, 117, 108]⟩ : ByteArray), (⟨#[65, 117, 103]⟩ : ByteArray), (⟨#[83, 101, 112]⟩ : ByteArray), (⟨#[79, 99, 116]⟩ : ByteArray), (⟨#[78, 111, 118]⟩ : ByteArray), (⟨#[68, 101, 99]⟩ : ByteArray)] : List ByteArray))) = some r := h
  clear h
  obtain ⟨y286, hy286⟩ : ∃ y_ : List ByteArray, y_ = (([(⟨#[74, 97, 110]⟩ : ByteArray), (⟨#[70, 101, 98]⟩ : ByteArray), (⟨#[77, 97, 114]⟩ : ByteArray), (⟨#[65, 112, 114]⟩ : ByteArray), (⟨#[77, 97, 121]⟩ : ByteArray), (⟨#[74, 117, 110]⟩ : ByteArray), (⟨#[74, 117, 108]⟩ : ByteArray), (⟨#[65, 117, 103]⟩ : ByteArray), (⟨#[83, 101, 112]⟩ : ByteArray), (⟨#[79, 99, 116]⟩ : ByteArray), (⟨#[78, 111, 118]⟩ : ByteArray), (⟨#[68, 101, 99]⟩ : ByteArray)] : List ByteArray)) := ⟨_, rfl⟩
  replace H : (some y286) = some r := by first | (rw [hy286]; with_reducible exact H) | (have H2_ := (Option.bind_some _ _).symm.trans H; rw [hy286]; with_reducible exact H2_) | (have H2_ := (Option.bind_some _ _).symm.trans H; with_reducible exact H2_) | with_reducible exact H | (rw [hy286]; exact H) | exact H
  have Ny286 := Aside0.mk hy286
  clear hy286
  obtain rfl := Option.some.inj H
  go_enter Tryd.func26, Tryd.ntmps26
  go_wp2_with (first | ((with_reducible refine gate_dst (N := 1) rfl ?_); refine Kd.R_lit Kd.string _ 9 ?hg (N := 1) ?hd (xs := ([(⟨#[74, 97, 110]⟩ : ByteArray), (⟨#[70, 101, 98]⟩ : ByteArray), (⟨#[77, 97, 114]⟩ : ByteArray), (⟨#[65, 112, 114]⟩ : ByteArray), (⟨#[77, 97, 121]⟩ : ByteArray), (⟨#[74, 117, 110]⟩ : ByteArray), (⟨#[74, 117, 108]⟩ : ByteArray), (⟨#[65, 117, 103]⟩ : ByteArray), (⟨#[83, 101, 112]⟩ : ByteArray), (⟨#[79, 99, 116]⟩ : ByteArray), (⟨#[78, 111, 118]⟩ : ByteArray), (⟨#[68, 101, 99]⟩ : ByteArray)] : List ByteArray)) (inner := [.string (⟨#[74, 97, 110]⟩ : ByteArray), .string (⟨#[70, 101, 98]⟩ : ByteArray), .string (⟨#[77, 97, 114]⟩ : ByteArray), .string (⟨#[65, 112, 114]⟩ : ByteArray), .string (⟨#[77, 97, 121]⟩ : ByteArray), .string (⟨#[74, 117, 110]⟩ : ByteArray), .string (⟨#[74, 117, 108]⟩ : ByteArray), .string (⟨#[65, 117, 103]⟩ : ByteArray), .string (⟨#[83, 101, 112]⟩ : ByteArray), .string (⟨#[79, 99, 116]⟩ : ByteArray), .string (⟨#[78, 111, 118]⟩ : ByteArray), .string (⟨#[68, 101, 99]⟩ : ByteArray)]) (ok := fun _ => True) (okp := fun _ => True) ?hr ?hp (fun _ hk => hk) trivial (Below.refl _ _) (Nat.le_refl _) (by simp) ?_; (case hd => rfl); (case hg => rfl); (case hr => first | (go_simp; done) | (go_simp; rfl)); (case hp => exact (Reps.one (show Kd.M Kd.string _ _ _ (⟨#[74, 97, 110]⟩ : ByteArray) [.string (⟨#[74, 97, 110]⟩ : ByteArray)] from rfl) (Reps.one (show Kd.M Kd.string _ _ _ (⟨#[70, 101, 98]⟩ : ByteArray) [.string (⟨#[70, 101, 98]⟩ : ByteArray)] from rfl) (Reps.one (show Kd.M Kd.string _ _ _ (⟨#[77, 97, 114]⟩ : ByteArray) [.string (⟨#[77, 97, 114]⟩ : ByteArray)] from rfl) (Reps.one (show Kd.M Kd.string _ _ _ (⟨#[65, 112, 114]⟩ : ByteArray) [.string (⟨#[65, 112, 114]⟩ : ByteArray)] from rfl) (Reps.one (show Kd.M Kd.string _ _ _ (⟨#[77, 97, 121]⟩ : ByteArray) [.string (⟨#[77, 97, 121]⟩ : ByteArray)] from rfl) (Reps.one (show Kd.M Kd.string _ _ _ (⟨#[74, 117, 110]⟩ : ByteArray) [.string (⟨#[74, 117, 110]⟩ : ByteArray)] from rfl) (Reps.one (show Kd.M Kd.string _ _ _ (⟨#[74, 117, 108]⟩ : ByteArray) [.string (⟨#[74, 117, 108]⟩ : ByteArray)] from rfl) (Reps.one (show Kd.M Kd.string _ _ _ (⟨#[65, 117, 103]⟩ : ByteArray) [.string (⟨#[65, 117, 103]⟩ : ByteArray)] from rfl) (Reps.one (show Kd.M Kd.string _ _ _ (⟨#[83, 101, 112]⟩ : ByteArray) [.string (⟨#[83, 101, 112]⟩ : ByteArray)] from rfl) (Reps.one (show Kd.M Kd.string _ _ _ (⟨#[79, 99, 116]⟩ : ByteArray) [.string (⟨#[79, 99, 116]⟩ : ByteArray)] from rfl) (Reps.one (show Kd.M Kd.string _ _ _ (⟨#[78, 111, 118]⟩ : ByteArray) [.string (⟨#[78, 111, 118]⟩ : ByteArray)] from rfl) (Reps.one (show Kd.M Kd.string _ _ _ (⟨#[68, 101, 99]⟩ : ByteArray) [.string (⟨#[68, 101, 99]⟩ : ByteArray)] from rfl) (Reps.none _ _)))))))))))))); intro v287 w1 ho2 hb hg_ hnew_; clear hg_ hnew_; (first | rw [← Ny286.out] at ho2 | (simp only [Int.reduceToNat] at ho2; rw [← Ny286.out] at ho2)); have n0_ := Aside0.mk (Kd.R_lower ho2 (below_size (by repeat (first | (with_reducible first | exact HB.out | apply below_alloc | apply pw_below_drewN | apply below_drew1) | exact HB.out)))); have n1_ := Aside0.mk (below_step (by repeat (first | (with_reducible first | exact HB.out | apply below_alloc | apply pw_below_drewN | apply below_drew1) | exact HB.out)) hb); clear HB; have HO288 := n0_; have HB := n1_; clear n0_ n1_; clear hb ho2))
  go_ret
  exact ⟨_, by first | rfl | (simp [errW_none, errW_some] <;> rfl) | (simp [*, errW_none, errW_some] <;> rfl), by (with_reducible repeat (first | apply Kd.R_alloc | apply Kd.R_drewN | apply Kd.R_drew)); exact HO288.out, by repeat (first | (with_reducible first | exact HB.out | apply below_alloc | apply pw_below_drewN | apply below_drew1) | exact HB.out)⟩

/-! ### sprref14_first: function 41 -/
def sprref14_first.f (a0 : Int) : Option (Int) := some (wrap64 ((wrap64 ((wrap64 ((wrap64 ((wrap64 (365 * (wrap64 (a0 - 1)))) + (wrap64 (Int.tdiv (wrap64 (a0 - 1)) 4)))) - (wrap64 (Int.tdiv (wrap64 (a0 - 1)) 100)))) + (wrap64 (Int.tdiv (wrap64 (a0 - 1)) 400)))) - 719162))
set_option maxHeartbeats 2000000 in
set_option maxRecDepth 100000 in
theorem sprref14_first.calls (a0 : Int) (r : Int) (w : World) (h : sprref14_first.f a0 = some r) :
    Calls Tryd.prog 41 #[.int .i64 a0] w fun e w' => e = .returned (.int .i64 r) ∧ Drawn0 w w' := by
  have H : (some (wrap64 ((wrap64 ((wrap64 ((wrap64 ((wrap64 (365 * (wrap64 (a0 - 1)))) + (wrap64 (Int.tdiv (wrap64 (a0 - 1)) 4)))) - (wrap64 (Int.tdiv (wrap64 (a0 - 1)) 100)))) + (wrap64 (Int.tdiv (wrap64 (a0 - 1)) 400)))) - 719162))) = some r := h
  clear h
  obtain rfl := Option.some.inj H
  go_enter Tryd.func41, Tryd.ntmps41
  go_wp2
  go_ret
  exact ⟨by first | rfl | (simp; done) | (simp [*]; done), by repeat (first | exact Drawn0.refl _ | apply Drawn0.step)⟩

/-! ### sprref14_in: function 28 -/
def sprref14_in.f (a0 : Int) : Option (Bool) := (sprref14_first.f 1601).bind fun t289 => (if a0 ≥ (wrap64 (t289 * 86400)) then ((sprref14_first.f 10000).bind fun t290 => (some (decide (a0 < (wrap64 (t290 * 86400)))))) else (some false))
set_option maxHeartbeats 2000000 in
set_option maxRecDepth 100000 in
theorem sprref14_in.calls (a0 : Int) (r : Bool) (w : World) (h : sprref14_in.f a0 = some r) :
    Calls Tryd.prog 28 #[.int .i64 a0] w fun e w' => e = .returned (.bool r) ∧ Drawn0 w w' := by
  have H : ((sprref14_first.f 1601).bind fun t289 => (if a0 ≥ (wrap64 (t289 * 86400)) then ((sprref14_first.f 10000).bind fun t290 => (some (decide (a0 < (wrap64 (t290 * 86400)))))) else (some false))) = some r := h
  clear h
  replace H := Option.bind_eq_some_iff.mp H
  obtain ⟨t289, A20, H⟩ := H
  replace H : (if a0 ≥ (wrap64 (t289 * 86400)) then ((sprref14_first.f 10000).bind fun t290 => (some (decide (a0 < (wrap64 (t290 * 86400)))))) else (some false)) = some r := H
  have A2 := Aside0.mk A20
  clear A20
  by_cases c3 : a0 ≥ (wrap64 (t289 * 86400))
  · rw [if_pos c3] at H
    have c3b0 : decide ((wrap64 (t289 * 86400)) ≤ a0) = true := decide_eq_true c3
    clear c3
    replace H := Option.bind_eq_some_iff.mp H
    obtain ⟨t290, A40, H⟩ := H
    replace H : (some (decide (a0 < (wrap64 (t290 * 86400))))) = some r := H
    have A4 := Aside0.mk A40
    clear A40
    obtain rfl := Option.some.inj H
    go_enter Tryd.func28, Tryd.ntmps28
    go_wp2_with (first | ((with_reducible refine gate_callee (f := 41) rfl ?_); refine goesL_ (some 4) rfl rfl Tryd.func41 (by kernel_rfl) rfl #[.int .i64 1601] rfl (by (try simp only [List.map_toArray, List.map_cons, List.map_nil]); first | done | rfl | (simp only [List.length_drop, List.length_take]; rfl)) ?_; (with_reducible refine (sprref14_first.calls 1601 t289 _ A2.out).mono ?_); rintro e w' ⟨rfl, ⟨nd, rfl⟩⟩; refine ⟨_, rfl, ?_⟩) | (go_at_call 41; (with_reducible refine (sprref14_first.calls 10000 t290 _ A4.out).mono ?_); rintro e w' ⟨rfl, ⟨nd, rfl⟩⟩))
    go_ret
    exact ⟨by first | rfl | (simp; done) | (simp [*]; done), by repeat (first | exact Drawn0.refl _ | apply Drawn0.step)⟩
  · rw [if_neg c3] at H
    have c3b0 : decide ((wrap64 (t289 * 86400)) ≤ a0) = false := decide_eq_false c3
    clear c3
    obtain rfl := Option.some.inj H
    go_enter Tryd.func28, Tryd.ntmps28
    go_wp2_with (first | ((with_reducible refine gate_callee (f := 41) rfl ?_); refine goesL_ (some 4) rfl rfl Tryd.func41 (by kernel_rfl) rfl #[.int .i64 1601] rfl (by (try simp only [List.map_toArray, List.map_cons, List.map_nil]); first | done | rfl | (simp only [List.length_drop, List.length_take]; rfl)) ?_; (with_reducible refine (sprref14_first.calls 1601 t289 _ A2.out).mono ?_); rintro e w' ⟨rfl, ⟨nd, rfl⟩⟩; refine ⟨_, rfl, ?_⟩))
    go_ret
    exact ⟨by first | rfl | (simp; done) | (simp [*]; done), by repeat (first | exact Drawn0.refl _ | apply Drawn0.step)⟩

end Go.Proofs.YtnkmhgfhdgledaaDoor.R
