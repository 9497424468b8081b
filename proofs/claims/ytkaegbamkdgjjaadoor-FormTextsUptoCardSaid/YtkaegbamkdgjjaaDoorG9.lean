-- Written by a program of this session's (wip/xprint.py), out of the seat's translation.
import Derived.Test.YtkaegbamkdgjjaaDoorG0
import Derived.Test.YtkaegbamkdgjjaaDoorG8
namespace Go.Proofs.YtkaegbamkdgjjaaDoor.G
open Go.RowKit Go.Proofs.YtkaegbamkdgjjaaDoorW.PrintWords Go.Proofs.YtkaegbamkdgjjaaDoorW.PrintLast Go.Proofs.YtkaegbamkdgjjaaDoorW.PrintMore
attribute [local go_sem] max2_int min2_int max_two min_two max_three min_three max_four min_four   -- for this text's walks alone
set_option linter.unusedVariables false
set_option linter.unusedSimpArgs false

/-! ### sprref1_In: function 45 -/
mutual
def sprref1_In.j0 : Nat → Int → Int → Bool → Option (Bool)
  | 0, _, _, _ => none
  | k + 1, x0, x1, x5 => if x5 = true then (sprref1_In.j1 k x0 x1 x5 true) else ((sprref1_any1.f k (⟨#[32, 34, 35, 60, 62]⟩ : ByteArray) x1).bind fun t315 => (sprref1_In.j1 k x0 x1 x5 t315))
def sprref1_In.j1 : Nat → Int → Int → Bool → Bool → Option (Bool)
  | 0, _, _, _, _ => none
  | k + 1, x0, x1, x5, x6 => if x6 = true then (sprref1_In.j2 k x0 x1 x5 x6 true) else ((sprref1_any1.f k (⟨#[63, 94, 96, 123, 125]⟩ : ByteArray) x1).bind fun t316 => (sprref1_In.j2 k x0 x1 x5 x6 t316))
def sprref1_In.j2 : Nat → Int → Int → Bool → Bool → Bool → Option (Bool)
  | 0, _, _, _, _, _ => none
  | k + 1, x0, x1, x5, x6, x7 => if x7 = true then (sprref1_In.j3 k x0 x1 x5 x6 x7 true) else ((sprref1_any1.f k (⟨#[47, 58, 59, 61, 64, 91, 92, 93, 124]⟩ : ByteArray) x1).bind fun t317 => (sprref1_In.j3 k x0 x1 x5 x6 x7 t317))
def sprref1_In.j3 : Nat → Int → Int → Bool → Bool → Bool → Bool → Option (Bool)
  | 0, _, _, _, _, _, _ => none
  | k + 1, x0, x1, x5, x6, x7, x8 => if x0 = 1 then (some x5) else (if x0 = 2 then (if x5 = true then (some true) else ((sprref1_any1.f k (⟨#[32, 34, 60, 62, 96]⟩ : ByteArray) x1).bind fun t318 => (some t318))) else (if x0 = 3 then (some x6) else (if x0 = 4 then (if x6 = true then (some true) else (some (x1 == 39))) else (if x0 = 5 then (some x7) else (if x0 = 6 then (some x8) else (if x0 = 7 then (if x8 = true then (some true) else ((sprref1_any1.f k (⟨#[36, 37, 38, 43, 44]⟩ : ByteArray) x1).bind fun t319 => (some t319))) else (if x0 = 8 then ((sprref1_alnum.f x1).bind fun t320 => (if t320 = true then (some false) else ((sprref1_any1.f k (⟨#[42, 45, 46, 95]⟩ : ByteArray) x1).bind fun t321 => (some (!t321))))) else (some false))))))))
end
def sprref1_In.f (k : Nat) (a0 : Int) (a1 : Int) : Option (Bool) := if a1 < 32 then (sprref1_In.j0 k a0 a1 true) else (sprref1_In.j0 k a0 a1 (decide (a1 > 126)))
theorem sprref1_In.mono_l : ∀ k, (∀ y0 y1 y2, LeO (sprref1_In.j0 k y0 y1 y2) (sprref1_In.j0 (k + 1) y0 y1 y2)) ∧ (∀ y0 y1 y2 y3, LeO (sprref1_In.j1 k y0 y1 y2 y3) (sprref1_In.j1 (k + 1) y0 y1 y2 y3)) ∧ (∀ y0 y1 y2 y3 y4, LeO (sprref1_In.j2 k y0 y1 y2 y3 y4) (sprref1_In.j2 (k + 1) y0 y1 y2 y3 y4)) ∧ (∀ y0 y1 y2 y3 y4 y5, LeO (sprref1_In.j3 k y0 y1 y2 y3 y4 y5) (sprref1_In.j3 (k + 1) y0 y1 y2 y3 y4 y5))
  | 0 => ⟨fun _ _ _ r h => by simp [sprref1_In.j0] at h, fun _ _ _ _ r h => by simp [sprref1_In.j1] at h, fun _ _ _ _ _ r h => by simp [sprref1_In.j2] at h, fun _ _ _ _ _ _ r h => by simp [sprref1_In.j3] at h⟩
  | k + 1 => by
    obtain ⟨ih0, ih1, ih2, ih3⟩ := sprref1_In.mono_l k
    refine ⟨?_, ?_, ?_, ?_⟩
    · intro y0 y1 y2
      unfold sprref1_In.j0
      repeat' first
      | (with_reducible exact ih0 _ _ _)
      | (with_reducible exact ih1 _ _ _ _)
      | (with_reducible exact ih2 _ _ _ _ _)
      | (with_reducible exact ih3 _ _ _ _ _ _)
      | (with_reducible exact sprref1_any1.mono _ _ _)
      | (with_reducible exact LeO.refl _)
      | (with_reducible exact LeO.none _)
      | (with_reducible refine LeO.ite ?_ ?_)
      | (with_reducible refine LeO.bind ?_ (fun _ => ?_))
      | exact ih0 _ _ _
      | exact ih1 _ _ _ _
      | exact ih2 _ _ _ _ _
      | exact ih3 _ _ _ _ _ _
      | exact sprref1_any1.mono _ _ _
      | exact LeO.none _
      | refine LeO.ite ?_ ?_
      | refine LeO.bind ?_ (fun _ => ?_)
    · intro y0 y1 y2 y3
      unfold sprref1_In.j1
      repeat' first
      | (with_reducible exact ih0 _ _ _)
      | (with_reducible exact ih1 _ _ _ _)
      | (with_reducible exact ih2 _ _ _ _ _)
      | (with_reducible exact ih3 _ _ _ _ _ _)
      | (with_reducible exact sprref1_any1.mono _ _ _)
      | (with_reducible exact LeO.refl _)
      | (with_reducible exact LeO.none _)
      | (with_reducible refine LeO.ite ?_ ?_)
      | (with_reducible refine LeO.bind ?_ (fun _ => ?_))
      | exact ih0 _ _ _
      | exact ih1 _ _ _ _
      | exact ih2 _ _ _ _ _
      | exact ih3 _ _ _ _ _ _
      | exact sprref1_any1.mono _ _ _
      | exact LeO.none _
      | refine LeO.ite ?_ ?_
      | refine LeO.bind ?_ (fun _ => ?_)
    · intro y0 y1 y2 y3 y4
      unfold sprref1_In.j2
      repeat' first
      | (with_reducible exact ih0 _ _ _)
      | (with_reducible exact ih1 _ _ _ _)
      | (with_reducible exact ih2 _ _ _ _ _)
      | (with_reducible exact ih3 _ _ _ _ _ _)
      | (with_reducible exact sprref1_any1.mono _ _ _)
      | (with_reducible exact LeO.refl _)
      | (with_reducible exact LeO.none _)
      | (with_reducible refine LeO.ite ?_ ?_)
      | (with_reducible refine LeO.bind ?_ (fun _ => ?_))
      | exact ih0 _ _ _
      | exact ih1 _ _ _ _
      | exact ih2 _ _ _ _ _
      | exact ih3 _ _ _ _ _ _
      | exact sprref1_any1.mono _ _ _
      | exact LeO.none _
      | refine LeO.ite ?_ ?_
      | refine LeO.bind ?_ (fun _ => ?_)
    · intro y0 y1 y2 y3 y4 y5
      unfold sprref1_In.j3
      repeat' first
      | (with_reducible exact ih0 _ _ _)
      | (with_reducible exact ih1 _ _ _ _)
      | (with_reducible exact ih2 _ _ _ _ _)
      | (with_reducible exact ih3 _ _ _ _ _ _)
      | (with_reducible exact sprref1_any1.mono _ _ _)
      | (with_reducible exact LeO.refl _)
      | (with_reducible exact LeO.none _)
      | (with_reducible refine LeO.ite ?_ ?_)
      | (with_reducible refine LeO.bind ?_ (fun _ => ?_))
      | exact ih0 _ _ _
      | exact ih1 _ _ _ _
      | exact ih2 _ _ _ _ _
      | exact ih3 _ _ _ _ _ _
      | exact sprref1_any1.mono _ _ _
      | exact LeO.none _
      | refine LeO.ite ?_ ?_
      | refine LeO.bind ?_ (fun _ => ?_)
theorem sprref1_In.mono : ∀ a0 a1 k, LeO (sprref1_In.f k a0 a1) (sprref1_In.f (k + 1) a0 a1) := by
  intro a0 a1 k
  obtain ⟨ih0, ih1, ih2, ih3⟩ := sprref1_In.mono_l k
  unfold sprref1_In.f
  repeat' first
      | (with_reducible exact ih0 _ _ _)
      | (with_reducible exact ih1 _ _ _ _)
      | (with_reducible exact ih2 _ _ _ _ _)
      | (with_reducible exact ih3 _ _ _ _ _ _)
      | (with_reducible exact sprref1_any1.mono _ _ _)
      | (with_reducible exact LeO.refl _)
      | (with_reducible exact LeO.none _)
      | (with_reducible refine LeO.ite ?_ ?_)
      | (with_reducible refine LeO.bind ?_ (fun _ => ?_))
      | exact ih0 _ _ _
      | exact ih1 _ _ _ _
      | exact ih2 _ _ _ _ _
      | exact ih3 _ _ _ _ _ _
      | exact sprref1_any1.mono _ _ _
      | exact LeO.none _
      | refine LeO.ite ?_ ?_
      | refine LeO.bind ?_ (fun _ => ?_)
set_option maxHeartbeats 2000000 in
set_option maxRecDepth 100000 in
theorem sprref1_In.calls (k : Nat) (a0 : Int) (a1 : Int) (r : Bool) (w : World) (h : sprref1_In.f k a0 a1 = some r) :
    Calls Tryd.prog 45 #[.int .i64 a0, .int .u8 a1] w fun e w' => e = .returned (.bool r) ∧ Drawn0 w w' := by
  have H : (if a1 < 32 then (sprref1_In.j0 k a0 a1 true) else (sprref1_In.j0 k a0 a1 (decide (a1 > 126)))) = some r := h
  clear h
  have HC3 := Aside0.mk H
  clear H
  go_enter Tryd.func45, Tryd.ntmps45
  go_upto_region 1 with (fail)
  go_cut [5] (fun v5 wc => ∃ (kq : Nat) (x5_2 : Bool), v5 = .bool x5_2 ∧ Aside0 (sprref1_In.j0 kq a0 a1 x5_2 = some r) ∧ Aside0 (kq ≤ k) ∧ Drawn0 w wc)
  case first =>
    have H := HC3.out
    clear HC3
    by_cases c4 : a1 < 32
    · rw [if_pos c4] at H
      have c4b0 : decide (a1 < 32) = true := decide_eq_true c4
      clear c4
      (first | rw [c4b0] | (simp only [i64_w, i32_w]; rw [c4b0]) | skip)
      have H' := Aside0.mk H
      clear H
      go_wp2
      go_meet
      case rel => exact ⟨_, (true), (by first | rfl | (simp; done) | (simp [*]; done)), H', ⟨by first | omega | exact Nat.le_refl _⟩, by repeat (first | exact Drawn0.refl _ | apply Drawn0.step)⟩
    · rw [if_neg c4] at H
      have c4b0 : decide (a1 < 32) = false := decide_eq_false c4
      clear c4
      (first | rw [c4b0] | (simp only [i64_w, i32_w]; rw [c4b0]) | skip)
      have H' := Aside0.mk H
      clear H
      go_wp2
      go_meet
      case rel => exact ⟨_, (decide (a1 > 126)), (by first | rfl | (simp; done) | (simp [*]; done)), H', ⟨by first | omega | exact Nat.le_refl _⟩, by repeat (first | exact Drawn0.refl _ | apply Drawn0.step)⟩
  case rest =>
    clear HC3
    try clear p2
    try clear c4
    try clear c4b0
    obtain ⟨kq, x5_2, rfl, HA, HJ2, ⟨mc2, rfl⟩⟩ := hcut
    cases kq with
    | zero => exact absurd HA.out (by simp [sprref1_In.j0])
    | succ kj2 =>
      have H := HA.out
      clear HA
      simp only [sprref1_In.j0] at H
      have HC5 := Aside0.mk H
      clear H
      go_upto_region 2 with (fail)
      go_cut [6] (fun v6 wc => ∃ (kq : Nat) (x6_4 : Bool), v6 = .bool x6_4 ∧ Aside0 (sprref1_In.j1 kq a0 a1 x5_2 x6_4 = some r) ∧ Aside0 (kq ≤ kj2) ∧ Drawn0 w wc)
      case first =>
        have H := HC5.out
        clear HC5
        by_cases c6 : x5_2 = true
        · subst c6
          have H1 : (sprref1_In.j1 kj2 a0 a1 true true) = some r := by rw [if_pos rfl] at H; exact H
          clear H
          have H := H1
          clear H1
          have H' := Aside0.mk H
          clear H
          go_wp2
          go_meet
          case rel => exact ⟨_, (true), (by first | rfl | (simp; done) | (simp [*]; done)), H', ⟨by have := HJ2.out; first | omega | exact Nat.le_refl _⟩, by repeat (first | exact Drawn0.refl _ | apply Drawn0.step)⟩
        · replace c6 := Bool.eq_false_iff.mpr c6
          subst c6
          have H1 : ((sprref1_any1.f kj2 (⟨#[32, 34, 35, 60, 62]⟩ : ByteArray) a1).bind fun t315 => (sprref1_In.j1 kj2 a0 a1 false t315)) = some r := by rw [if_neg (show ¬ (false = true) by decide)] at H; exact H
          clear H
          have H := H1
          clear H1
          replace H := Option.bind_eq_some_iff.mp H
          obtain ⟨t315, A70, H⟩ := H
          replace H : (sprref1_In.j1 kj2 a0 a1 false t315) = some r := H
          have A7 := Aside0.mk A70
          clear A70
          have H' := Aside0.mk H
          clear H
          go_wp2_with (first | (go_at_call 65; (with_reducible refine (sprref1_any1.calls kj2 (⟨#[32, 34, 35, 60, 62]⟩ : ByteArray) a1 t315 _ A7.out).mono ?_); rintro e w' ⟨rfl, ⟨nd, rfl⟩⟩))
          go_meet
          case rel => exact ⟨_, (t315), (by first | rfl | (simp; done) | (simp [*]; done)), H', ⟨by have := HJ2.out; first | omega | exact Nat.le_refl _⟩, by repeat (first | exact Drawn0.refl _ | apply Drawn0.step)⟩
      case rest =>
        clear HC5
        try clear c2
        try clear p2
        try clear c4
        try clear c4b0
        try clear c6
        try clear p2
        obtain ⟨kq, x6_4, rfl, HA, HJ4, ⟨mc4, rfl⟩⟩ := hcut
        cases kq with
        | zero => exact absurd HA.out (by simp [sprref1_In.j1])
        | succ kj4 =>
          have H := HA.out
          clear HA
          simp only [sprref1_In.j1] at H
          have HC8 := Aside0.mk H
          clear H
          go_upto_region 3 with (fail)
          go_cut [7] (fun v7 wc => ∃ (kq : Nat) (x7_7 : Bool), v7 = .bool x7_7 ∧ Aside0 (sprref1_In.j2 kq a0 a1 x5_2 x6_4 x7_7 = some r) ∧ Aside0 (kq ≤ kj4) ∧ Drawn0 w wc)
          case first =>
            have H := HC8.out
            clear HC8
            by_cases c9 : x6_4 = true
            · subst c9
              have H1 : (sprref1_In.j2 kj4 a0 a1 x5_2 true true) = some r := by rw [if_pos rfl] at H; exact H
              clear H
              have H := H1
              clear H1
              have H' := Aside0.mk H
              clear H
              go_wp2
              go_meet
              case rel => exact ⟨_, (true), (by first | rfl | (simp; done) | (simp [*]; done)), H', ⟨by have := HJ2.out; have := HJ4.out; first | omega | exact Nat.le_refl _⟩, by repeat (first | exact Drawn0.refl _ | apply Drawn0.step)⟩
            · replace c9 := Bool.eq_false_iff.mpr c9
              subst c9
              have H1 : ((sprref1_any1.f kj4 (⟨#[63, 94, 96, 123, 125]⟩ : ByteArray) a1).bind fun t316 => (sprref1_In.j2 kj4 a0 a1 x5_2 false t316)) = some r := by rw [if_neg (show ¬ (false = true) by decide)] at H; exact H
              clear H
              have H := H1
              clear H1
              replace H := Option.bind_eq_some_iff.mp H
              obtain ⟨t316, A100, H⟩ := H
              replace H : (sprref1_In.j2 kj4 a0 a1 x5_2 false t316) = some r := H
              have A10 := Aside0.mk A100
              clear A100
              have H' := Aside0.mk H
              clear H
              go_wp2_with (first | (go_at_call 65; (with_reducible refine (sprref1_any1.calls kj4 (⟨#[63, 94, 96, 123, 125]⟩ : ByteArray) a1 t316 _ A10.out).mono ?_); rintro e w' ⟨rfl, ⟨nd, rfl⟩⟩))
              go_meet
              case rel => exact ⟨_, (t316), (by first | rfl | (simp; done) | (simp [*]; done)), H', ⟨by have := HJ2.out; have := HJ4.out; first | omega | exact Nat.le_refl _⟩, by repeat (first | exact Drawn0.refl _ | apply Drawn0.step)⟩
          case rest =>
            clear HC8
            try clear c2
            try clear p2
            try clear c4
            try clear c4b0
            try clear c6
            try clear c9
            try clear p2
            obtain ⟨kq, x7_7, rfl, HA, HJ7, ⟨mc7, rfl⟩⟩ := hcut
            cases kq with
            | zero => exact absurd HA.out (by simp [sprref1_In.j2])
            | succ kj7 =>
              have H := HA.out
              clear HA
              simp only [sprref1_In.j2] at H
              have HC11 := Aside0.mk H
              clear H
              go_upto_region 4 with (fail)
              go_cut [8] (fun v8 wc => ∃ (kq : Nat) (x8_10 : Bool), v8 = .bool x8_10 ∧ Aside0 (sprref1_In.j3 kq a0 a1 x5_2 x6_4 x7_7 x8_10 = some r) ∧ Aside0 (kq ≤ kj7) ∧ Drawn0 w wc)
              case first =>
                have H := HC11.out
                clear HC11
                by_cases c12 : x7_7 = true
                · subst c12
                  have H1 : (sprref1_In.j3 kj7 a0 a1 x5_2 x6_4 true true) = some r := by rw [if_pos rfl] at H; exact H
                  clear H
                  have H := H1
                  clear H1
                  have H' := Aside0.mk H
                  clear H
                  go_wp2
                  go_meet
                  case rel => exact ⟨_, (true), (by first | rfl | (simp; done) | (simp [*]; done)), H', ⟨by have := HJ2.out; have := HJ4.out; have := HJ7.out; first | omega | exact Nat.le_refl _⟩, by repeat (first | exact Drawn0.refl _ | apply Drawn0.step)⟩
                · replace c12 := Bool.eq_false_iff.mpr c12
                  subst c12
                  have H1 : ((sprref1_any1.f kj7 (⟨#[47, 58, 59, 61, 64, 91, 92, 93, 124]⟩ : ByteArray) a1).bind fun t317 => (sprref1_In.j3 kj7 a0 a1 x5_2 x6_4 false t317)) = some r := by rw [if_neg (show ¬ (false = true) by decide)] at H; exact H
                  clear H
                  have H := H1
                  clear H1
                  replace H := Option.bind_eq_some_iff.mp H
                  obtain ⟨t317, A130, H⟩ := H
                  replace H : (sprref1_In.j3 kj7 a0 a1 x5_2 x6_4 false t317) = some r := H
                  have A13 := Aside0.mk A130
                  clear A130
                  have H' := Aside0.mk H
                  clear H
                  go_wp2_with (first | (go_at_call 65; (with_reducible refine (sprref1_any1.calls kj7 (⟨#[47, 58, 59, 61, 64, 91, 92, 93, 124]⟩ : ByteArray) a1 t317 _ A13.out).mono ?_); rintro e w' ⟨rfl, ⟨nd, rfl⟩⟩))
                  go_meet
                  case rel => exact ⟨_, (t317), (by first | rfl | (simp; done) | (simp [*]; done)), H', ⟨by have := HJ2.out; have := HJ4.out; have := HJ7.out; first | omega | exact Nat.le_refl _⟩, by repeat (first | exact Drawn0.refl _ | apply Drawn0.step)⟩
              case rest =>
                clear HC11
                try clear c1
                try clear c2
                try clear p2
                try clear c4
                try clear c4b0
                try clear c6
                try clear c7
                try clear c9
                try clear c12
                try clear p2
                obtain ⟨kq, x8_10, rfl, HA, HJ10, ⟨mc10, rfl⟩⟩ := hcut
                cases kq with
                | zero => exact absurd HA.out (by simp [sprref1_In.j3])
                | succ kj10 =>
                  have H := HA.out
                  clear HA
                  simp only [sprref1_In.j3] at H
                  by_cases c14 : a0 = 1
                  · rw [if_pos c14] at H
                    have c14b0 : (a0 == 1) = true := beq_iff_eq.mpr c14
                    have c14b1 : (a0 != 1) = false := bne_eq_false_iff_eq.mpr c14
                    clear c14
                    obtain rfl := Option.some.inj H
                    go_wp2
                    go_ret
                    exact ⟨by first | rfl | (simp; done) | (simp [*]; done), by repeat (first | exact Drawn0.refl _ | apply Drawn0.step)⟩
                  · rw [if_neg c14] at H
                    have c14b0 : (a0 == 1) = false := beq_eq_false_iff_ne.mpr c14
                    have c14b1 : (a0 != 1) = true := bne_iff_ne.mpr c14
                    by_cases c15 : a0 = 2
                    · rw [if_pos c15] at H
                      have c15b0 : (a0 == 2) = true := beq_iff_eq.mpr c15
                      have c15b1 : (a0 != 2) = false := bne_eq_false_iff_eq.mpr c15
                      clear c15
                      by_cases c16 : x5_2 = true
                      · subst c16
                        have H1 : (some true) = some r := by rw [if_pos rfl] at H; exact H
                        clear H
                        have H := H1
                        clear H1
                        obtain rfl := Option.some.inj H
                        go_wp2
                        go_ret
                        exact ⟨by first | rfl | (simp; done) | (simp [*]; done), by repeat (first | exact Drawn0.refl _ | apply Drawn0.step)⟩
                      · replace c16 := Bool.eq_false_iff.mpr c16
                        subst c16
                        have H1 : ((sprref1_any1.f kj10 (⟨#[32, 34, 60, 62, 96]⟩ : ByteArray) a1).bind fun t318 => (some t318)) = some r := by rw [if_neg (show ¬ (false = true) by decide)] at H; exact H
                        clear H
                        have H := H1
                        clear H1
                        replace H := Option.bind_eq_some_iff.mp H
                        obtain ⟨t318, A170, H⟩ := H
                        replace H : (some t318) = some r := H
                        have A17 := Aside0.mk A170
                        clear A170
                        obtain rfl := Option.some.inj H
                        go_wp2_with (first | (go_at_call 65; (with_reducible refine (sprref1_any1.calls kj10 (⟨#[32, 34, 60, 62, 96]⟩ : ByteArray) a1 t318 _ A17.out).mono ?_); rintro e w' ⟨rfl, ⟨nd, rfl⟩⟩))
                        go_ret
                        exact ⟨by first | rfl | (simp; done) | (simp [*]; done), by repeat (first | exact Drawn0.refl _ | apply Drawn0.step)⟩
                    · rw [if_neg c15] at H
                      have c15b0 : (a0 == 2) = false := beq_eq_false_iff_ne.mpr c15
                      have c15b1 : (a0 != 2) = true := bne_iff_ne.mpr c15
                      by_cases c18 : a0 = 3
                      · rw [if_pos c18] at H
                        have c18b0 : (a0 == 3) = true := beq_iff_eq.mpr c18
                        have c18b1 : (a0 != 3) = false := bne_eq_false_iff_eq.mpr c18
                        clear c18
                        obtain rfl := Option.some.inj H
                        go_wp2
                        go_ret
                        exact ⟨by first | rfl | (simp; done) | (simp [*]; done), by repeat (first | exact Drawn0.refl _ | apply Drawn0.step)⟩
                      · rw [if_neg c18] at H
                        have c18b0 : (a0 == 3) = false := beq_eq_false_iff_ne.mpr c18
                        have c18b1 : (a0 != 3) = true := bne_iff_ne.mpr c18
                        by_cases c19 : a0 = 4
                        · rw [if_pos c19] at H
                          have c19b0 : (a0 == 4) = true := beq_iff_eq.mpr c19
                          have c19b1 : (a0 != 4) = false := bne_eq_false_iff_eq.mpr c19
                          clear c19
                          by_cases c20 : x6_4 = true
                          · subst c20
                            have H1 : (some true) = some r := by rw [if_pos rfl] at H; exact H
                            clear H
                            have H := H1
                            clear H1
                            obtain rfl := Option.some.inj H
                            go_wp2
                            go_ret
                            exact ⟨by first | rfl | (simp; done) | (simp [*]; done), by repeat (first | exact Drawn0.refl _ | apply Drawn0.step)⟩
                          · replace c20 := Bool.eq_false_iff.mpr c20
                            subst c20
                            have H1 : (some (a1 == 39)) = some r := by rw [if_neg (show ¬ (false = true) by decide)] at H; exact H
                            clear H
                            have H := H1
                            clear H1
                            obtain rfl := Option.some.inj H
                            go_wp2
                            go_ret
                            exact ⟨by first | rfl | (simp; done) | (simp [*]; done), by repeat (first | exact Drawn0.refl _ | apply Drawn0.step)⟩
                        · rw [if_neg c19] at H
                          have c19b0 : (a0 == 4) = false := beq_eq_false_iff_ne.mpr c19
                          have c19b1 : (a0 != 4) = true := bne_iff_ne.mpr c19
                          by_cases c21 : a0 = 5
                          · rw [if_pos c21] at H
                            have c21b0 : (a0 == 5) = true := beq_iff_eq.mpr c21
                            have c21b1 : (a0 != 5) = false := bne_eq_false_iff_eq.mpr c21
                            clear c21
                            obtain rfl := Option.some.inj H
                            go_wp2
                            go_ret
                            exact ⟨by first | rfl | (simp; done) | (simp [*]; done), by repeat (first | exact Drawn0.refl _ | apply Drawn0.step)⟩
                          · rw [if_neg c21] at H
                            have c21b0 : (a0 == 5) = false := beq_eq_false_iff_ne.mpr c21
                            have c21b1 : (a0 != 5) = true := bne_iff_ne.mpr c21
                            by_cases c22 : a0 = 6
                            · rw [if_pos c22] at H
                              have c22b0 : (a0 == 6) = true := beq_iff_eq.mpr c22
                              have c22b1 : (a0 != 6) = false := bne_eq_false_iff_eq.mpr c22
                              clear c22
                              obtain rfl := Option.some.inj H
                              go_wp2
                              go_ret
                              exact ⟨by first | rfl | (simp; done) | (simp [*]; done), by repeat (first | exact Drawn0.refl _ | apply Drawn0.step)⟩
                            · rw [if_neg c22] at H
                              have c22b0 : (a0 == 6) = false := beq_eq_false_iff_ne.mpr c22
                              have c22b1 : (a0 != 6) = true := bne_iff_ne.mpr c22
                              by_cases c23 : a0 = 7
                              · rw [if_pos c23] at H
                                have c23b0 : (a0 == 7) = true := beq_iff_eq.mpr c23
                                have c23b1 : (a0 != 7) = false := bne_eq_false_iff_eq.mpr c23
                                clear c23
                                by_cases c24 : x8_10 = true
                                · subst c24
                                  have H1 : (some true) = some r := by rw [if_pos rfl] at H; exact H
                                  clear H
                                  have H := H1
                                  clear H1
                                  obtain rfl := Option.some.inj H
                                  go_wp2
                                  go_ret
                                  exact ⟨by first | rfl | (simp; done) | (simp [*]; done), by repeat (first | exact Drawn0.refl _ | apply Drawn0.step)⟩
                                · replace c24 := Bool.eq_false_iff.mpr c24
                                  subst c24
                                  have H1 : ((sprref1_any1.f kj10 (⟨#[36, 37, 38, 43, 44]⟩ : ByteArray) a1).bind fun t319 => (some t319)) = some r := by rw [if_neg (show ¬ (false = true) by decide)] at H; exact H
                                  clear H
                                  have H := H1
                                  clear H1
                                  replace H := Option.bind_eq_some_iff.mp H
                                  obtain ⟨t319, A250, H⟩ := H
                                  replace H : (some t319) = some r := H
                                  have A25 := Aside0.mk A250
                                  clear A250
                                  obtain rfl := Option.some.inj H
                                  go_wp2_with (first | (go_at_call 65; (with_reducible refine (sprref1_any1.calls kj10 (⟨#[36, 37, 38, 43, 44]⟩ : ByteArray) a1 t319 _ A25.out).mono ?_); rintro e w' ⟨rfl, ⟨nd, rfl⟩⟩))
                                  go_ret
                                  exact ⟨by first | rfl | (simp; done) | (simp [*]; done), by repeat (first | exact Drawn0.refl _ | apply Drawn0.step)⟩
                              · rw [if_neg c23] at H
                                have c23b0 : (a0 == 7) = false := beq_eq_false_iff_ne.mpr c23
                                have c23b1 : (a0 != 7) = true := bne_iff_ne.mpr c23
                                by_cases c26 : a0 = 8
                                · rw [if_pos c26] at H
                                  have c26b0 : (a0 == 8) = true := beq_iff_eq.mpr c26
                                  have c26b1 : (a0 != 8) = false := bne_eq_false_iff_eq.mpr c26
                                  clear c26
                                  replace H := Option.bind_eq_some_iff.mp H
                                  obtain ⟨t320, A270, H⟩ := H
                                  replace H : (if t320 = true then (some false) else ((sprref1_any1.f kj10 (⟨#[42, 45, 46, 95]⟩ : ByteArray) a1).bind fun t321 => (some (!t321)))) = some r := H
                                  have A27 := Aside0.mk A270
                                  clear A270
                                  by_cases c28 : t320 = true
                                  · subst c28
                                    have H1 : (some false) = some r := by rw [if_pos rfl] at H; exact H
                                    clear H
                                    have H := H1
                                    clear H1
                                    obtain rfl := Option.some.inj H
                                    go_wp2_with (first | ((with_reducible refine gate_callee (f := 66) rfl ?_); refine goesL_ (some 67) rfl rfl Tryd.func66 (by kernel_rfl) rfl #[.int .u8 a1] rfl (by (try simp only [List.map_toArray, List.map_cons, List.map_nil]); first | done | rfl | (simp only [List.length_drop, List.length_take]; rfl)) ?_; (with_reducible refine (sprref1_alnum.calls a1 true _ A27.out).mono ?_); rintro e w' ⟨rfl, ⟨nd, rfl⟩⟩; refine ⟨_, rfl, ?_⟩))
                                    go_ret
                                    exact ⟨by first | rfl | (simp; done) | (simp [*]; done), by repeat (first | exact Drawn0.refl _ | apply Drawn0.step)⟩
                                  · replace c28 := Bool.eq_false_iff.mpr c28
                                    subst c28
                                    have H1 : ((sprref1_any1.f kj10 (⟨#[42, 45, 46, 95]⟩ : ByteArray) a1).bind fun t321 => (some (!t321))) = some r := by rw [if_neg (show ¬ (false = true) by decide)] at H; exact H
                                    clear H
                                    have H := H1
                                    clear H1
                                    replace H := Option.bind_eq_some_iff.mp H
                                    obtain ⟨t321, A290, H⟩ := H
                                    replace H : (some (!t321)) = some r := H
                                    have A29 := Aside0.mk A290
                                    clear A290
                                    obtain rfl := Option.some.inj H
                                    go_wp2_with (first | ((with_reducible refine gate_callee (f := 66) rfl ?_); refine goesL_ (some 67) rfl rfl Tryd.func66 (by kernel_rfl) rfl #[.int .u8 a1] rfl (by (try simp only [List.map_toArray, List.map_cons, List.map_nil]); first | done | rfl | (simp only [List.length_drop, List.length_take]; rfl)) ?_; (with_reducible refine (sprref1_alnum.calls a1 false _ A27.out).mono ?_); rintro e w' ⟨rfl, ⟨nd, rfl⟩⟩; refine ⟨_, rfl, ?_⟩) | (go_at_call 65; (with_reducible refine (sprref1_any1.calls kj10 (⟨#[42, 45, 46, 95]⟩ : ByteArray) a1 t321 _ A29.out).mono ?_); rintro e w' ⟨rfl, ⟨nd, rfl⟩⟩))
                                    go_ret
                                    exact ⟨by first | rfl | (simp; done) | (simp [*]; done), by repeat (first | exact Drawn0.refl _ | apply Drawn0.step)⟩
                                · rw [if_neg c26] at H
                                  have c26b0 : (a0 == 8) = false := beq_eq_false_iff_ne.mpr c26
                                  have c26b1 : (a0 != 8) = true := bne_iff_ne.mpr c26
                                  obtain rfl := Option.some.inj H
                                  go_wp2
                                  go_ret
                                  exact ⟨by first | rfl | (simp; done) | (simp [*]; done), by repeat (first | exact Drawn0.refl _ | apply Drawn0.step)⟩

end Go.Proofs.YtkaegbamkdgjjaaDoor.G
