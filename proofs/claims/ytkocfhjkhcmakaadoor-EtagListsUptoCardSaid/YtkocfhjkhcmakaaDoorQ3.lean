-- Written by a program of this session's (wip/xprint.py), out of the seat's translation.
import Derived.Test.YtkocfhjkhcmakaaDoorQ0
import Derived.Test.YtkocfhjkhcmakaaDoorQ2
namespace Go.Proofs.YtkocfhjkhcmakaaDoor.Q
open Go.RowKit Go.Proofs.YtkocfhjkhcmakaaDoorW.PrintWords Go.Proofs.YtkocfhjkhcmakaaDoorW.PrintLast Go.Proofs.YtkocfhjkhcmakaaDoorW.PrintMore
attribute [local go_sem] max2_int min2_int max_two min_two max_three min_three max_four min_four   -- for this text's walks alone
set_option linter.unusedVariables false
set_option linter.unusedSimpArgs false

/-! ### sprlaw16_EtagLists: function 3 -/
def EL.bs (t : ByteArray) : Nat → Nat → Bool
  | 0, _ => false
  | n + 1, q => if bt t (q : Int) = 92 then true else EL.bs t n (q + 1)
def EL.col (k : Nat) : Nat → List S28 → List ByteArray → Option (Option (List ByteArray))
  | 0, _, acc => some (some acc)
  | _ + 1, [], acc => some (some acc)
  | n + 1, x :: t, acc => (etag_Print.f k x.f0 x.f1).bind fun p => if p.2 = true then (if 400 < p.1.size then some none else if EL.bs p.1 p.1.size 0 = true then some none else EL.col k n t (acc ++ [p.1])) else some none
def EL.ins (v : List ByteArray) (a : Int) (x : ByteArray) : List ByteArray := ((([] : List ByteArray) ++ v.take a.toNat) ++ [x]) ++ v.drop a.toNat
def EL.chk (v : List ByteArray) (r1 r2 r3 : List S28 × Bool × Bool) : Bool := (r1.2.2 == decide (0 < v.length)) && (!r1.2.1 && (decide (r1.1.length = v.length) && (!r2.2.2 && ((r3.2.1 == decide (v.length = 0)) && (r3.2.2 == r3.2.1)))))
def EL.rest (k : Nat) (v : List ByteArray) (a : Int) : Option Bool := if a < 0 then some true else if a > (v.length : Int) then some true else
  (etag_List.f k v).bind fun r1 => (etag_List.f k (EL.ins v a (⟨#[120]⟩ : ByteArray))).bind fun r2 => (etag_List.f k (EL.ins v a (⟨#[42]⟩ : ByteArray))).bind fun r3 => some (EL.chk v r1 r2 r3)
def EL.fin (k : Nat) (a : Int) : Option (List ByteArray) → Option Bool
  | none => some true
  | some v => if v.length ≤ 1000 then EL.rest k v a else none
theorem EL.drawn (w : World) : Below w.heap.size w w.drew := below_drew1 (Below.refl _ w)
set_option maxHeartbeats 4000000 in
set_option maxRecDepth 100000 in
theorem lists_own (k kf : Nat) (A0 : Option Addr) (c0 : Nat) (l0 : List S28) (at_ : Int) (res : Option (List ByteArray)) (w : World) (hr0 : Kd.C k28 w A0 l0.length l0) (hc0 : l0.length ≤ c0) (hl : l0.length ≤ 9223372036854775807) (hfi : sprlaw16_first.f kf = some true) (hcol : EL.col k 20 l0 [] = some res) (hfin : EL.fin k at_ res = some true) :
    Calls Tryd.prog 3 #[.slice A0 l0.length c0, .int .i64 at_] w fun e w' => e = .returned (.bool true) ∧ Below w.heap.size w w' := by
  have hu28 := Tryd.underlying28
  have HR0 := Aside0.mk hr0
  have HC0 := Aside0.mk hc0
  have HFI := Aside0.mk hfi
  have HCOL := Aside0.mk hcol
  have HFIN := Aside0.mk hfin
  have HB := Aside0.mk (Below.refl w.heap.size w)
  clear hr0 hc0 hfi hcol hfin
  go_enter Tryd.func3, Tryd.ntmps3
  go_wp2_with (go_at_call 4; (with_reducible refine (sprlaw16_first.calls kf true _ HFI.out).mono ?_); rintro e w9 ⟨rfl, hb⟩; have n0_ := Aside0.mk (HB.out.trans (hb.mono HB.out.size)); clear HB hb; have HB := n0_; clear n0_)
  go_loopg [5, 6] l0.length (fun gg v i wr => ∃ n : Nat, ∃ vs : List ByteArray, i = .int .i64 n ∧ n ≤ l0.length ∧ n ≤ 20 ∧ l0.length - n ≤ gg ∧ vs.length ≤ n ∧ Aside0 (EL.col k (20 - n) (l0.drop n) vs = some res) ∧ Aside0 (Kd.R Kd.string 9 wr w.heap.size (fun _ => True) v vs) ∧ Aside0 (Below w.heap.size w wr))
  case atStart => exact ⟨0, [], rfl, by omega, by omega, by omega, by simp, HCOL, ⟨Kd.R_nil _ _ _ _ _⟩, HB⟩
  case round =>
    clear HB HCOL
    obtain ⟨n, vs, rfl, hn, hn20, hgg, hvn, HCL, HO, HB⟩ := hrel
    by_cases hlt : n < l0.length ∧ n < 20
    · obtain ⟨h1, h2⟩ := hlt
      have q1 : decide ((n : Int) < (l0.length : Int)) = true := decide_eq_true (by omega)
      have q2 : decide ((n : Int) < 20) = true := decide_eq_true (by omega)
      have hx : l0[n]? = some l0[n] := List.getElem?_eq_getElem h1
      obtain ⟨ad, e0, hx0, hx1⟩ := at_T28 HR0.out (n : Int) (by omega) (by omega)
      cases e0
      have hrd : rd_T28 l0 (n : Int) = l0[n] := by unfold rd_T28; rw [Int.toNat_natCast, List.getD_eq_getElem?_getD, hx]; rfl
      rw [hrd] at hx0 hx1
      simp only [Int.toNat_natCast] at hx0 hx1
      replace hx0 := (HB.out.cell (World.block_lt_of_cell? w _ hx0)).trans hx0
      replace hx1 := (HB.out.cell (World.block_lt_of_cell? w _ hx1)).trans hx1
      have p5 := eq_true (show (0 : Int) ≤ (n : Int) by omega)
      have q5 := eq_true (show (n : Int) < (l0.length : Int) by omega)
      have hd : l0.drop n = l0[n] :: l0.drop (n + 1) := List.drop_eq_getElem_cons h1
      have hc := HCL.out
      rw [hd, show 20 - n = (20 - (n + 1)) + 1 by omega] at hc
      clear hd hx HCL hrd
      generalize l0[n] = x at *
      obtain ⟨⟨t, ok⟩, e1, hc⟩ := Option.bind_eq_some_iff.1 (show (etag_Print.f k x.f0 x.f1).bind (fun p => if p.2 = true then (if 400 < p.1.size then some none else if EL.bs p.1 p.1.size 0 = true then some none else EL.col k (20 - (n + 1)) (l0.drop (n + 1)) (vs ++ [p.1])) else some none) = some res from hc)
      have E1 := Aside0.mk e1
      clear e1
      cases ok with
      | false =>
        clear hc
        go_wp2_with (first | (go_at_call 5; (with_reducible refine (etag_Print.calls k x.f0 x.f1 t false _ E1.out).mono ?_); rintro e w5 ⟨rfl, hb⟩; have n0_ := Aside0.mk (HB.out.trans (hb.mono HB.out.size)); clear HB hb; have HB := n0_; clear n0_) | (go_at_call 4; (with_reducible refine (sprlaw16_first.calls kf true _ HFI.out).mono ?_); rintro e w9 ⟨rfl, hb⟩; have n0_ := Aside0.mk (HB.out.trans (hb.mono HB.out.size)); clear HB hb; have HB := n0_; clear n0_))
        go_ret
        exact ⟨rfl, HB.out⟩
      | true =>
        replace hc : (if 400 < t.size then some none else if EL.bs t t.size 0 = true then some none else EL.col k (20 - (n + 1)) (l0.drop (n + 1)) (vs ++ [t])) = some res := hc
        by_cases h4 : 400 < t.size
        · have q6 : decide ((t.size : Int) > 400) = true := decide_eq_true (by omega)
          have q7 : decide (t.size > 400) = true := decide_eq_true (by omega)
          have q8 : decide (400 < (t.size : Int)) = true := decide_eq_true (by omega)
          clear hc h4
          go_wp2_with (first | (go_at_call 5; (with_reducible refine (etag_Print.calls k x.f0 x.f1 t true _ E1.out).mono ?_); rintro e w5 ⟨rfl, hb⟩; have n0_ := Aside0.mk (HB.out.trans (hb.mono HB.out.size)); clear HB hb; have HB := n0_; clear n0_) | (go_at_call 4; (with_reducible refine (sprlaw16_first.calls kf true _ HFI.out).mono ?_); rintro e w9 ⟨rfl, hb⟩; have n0_ := Aside0.mk (HB.out.trans (hb.mono HB.out.size)); clear HB hb; have HB := n0_; clear n0_))
          go_ret
          exact ⟨rfl, HB.out⟩
        · rw [if_neg h4] at hc
          have q6 : decide ((t.size : Int) > 400) = false := decide_eq_false (by omega)
          have q7 : decide (t.size > 400) = false := decide_eq_false (by omega)
          have q8 : decide (400 < (t.size : Int)) = false := decide_eq_false (by omega)
          obtain ⟨bb, hbb⟩ : ∃ bb, EL.bs t t.size 0 = bb := ⟨_, rfl⟩
          rw [hbb] at hc
          have HBS := Aside0.mk hbb
          have HCC := Aside0.mk hc
          clear hc hbb
          go_wp2_with (go_at_call 5; (with_reducible refine (etag_Print.calls k x.f0 x.f1 t true _ E1.out).mono ?_); rintro e w5 ⟨rfl, hb⟩; have n1_ := Aside0.mk (Kd.R_below HO.out hb); have n0_ := Aside0.mk (HB.out.trans (hb.mono HB.out.size)); clear HB hb; have HB := n0_; clear n0_; clear HO; have HO := n1_; clear n1_)
          clear q6 q7 q8
          obtain ⟨wo, hwo⟩ : ∃ wo : World, wo = w5 := ⟨_, rfl⟩
          go_loopg [9] t.size (fun gg j wi => ∃ q : Nat, j = .int .i64 q ∧ q ≤ t.size ∧ t.size - q ≤ gg ∧ wi = w5 ∧ Aside0 (EL.bs t (t.size - q) q = bb))
          case atStart => exact ⟨0, rfl, by omega, by omega, rfl, HBS⟩
          case round =>
            obtain ⟨q, rfl, hq, hgq, rfl, HQ⟩ := hrel
            by_cases hqt : q < t.size
            · have r1 : decide ((q : Int) < (t.size : Int)) = true := decide_eq_true (by omega)
              have r2 : decide (q < t.size) = true := decide_eq_true hqt
              have r3 := eq_true (show (0 : Int) ≤ (q : Int) by omega)
              have r4 := eq_true (show (q : Int) < (t.size : Int) by omega)
              have r5 := bt_at t (q : Int)
              simp only [Int.toNat_natCast] at r5
              have hs := HQ.out
              rw [show t.size - q = (t.size - (q + 1)) + 1 by omega] at hs
              replace hs : (if bt t (q : Int) = 92 then true else EL.bs t (t.size - (q + 1)) (q + 1)) = bb := hs
              clear HQ
              by_cases h9 : bt t (q : Int) = 92
              · have b0 : (bt t (q : Int) == 92) = true := beq_iff_eq.mpr h9
                clear hs h9
                go_wp2_with (go_at_call 4; (with_reducible refine (sprlaw16_first.calls kf true _ HFI.out).mono ?_); rintro e w9 ⟨rfl, hb⟩; have n0_ := Aside0.mk (HB.out.trans (hb.mono HB.out.size)); clear HB hb; have HB := n0_; clear n0_)
                go_ret
                exact ⟨rfl, HB.out⟩
              · rw [if_neg h9] at hs
                have b0 : (bt t (q : Int) == 92) = false := beq_eq_false_iff_ne.mpr h9
                have HS := Aside0.mk hs
                clear hs h9
                go_wp2
                go_roundg (t.size - (q + 1))
                case measure => omega
                case rel => exact ⟨q + 1, rfl, by omega, by omega, rfl, HS⟩
            · have r1 : decide ((q : Int) < (t.size : Int)) = false := decide_eq_false (by omega)
              have r2 : decide (q < t.size) = false := decide_eq_false (by omega)
              obtain rfl : q = t.size := by omega
              have hs := HQ.out
              rw [Nat.sub_self] at hs
              have hc := HCC.out
              rw [← hs] at hc
              have HCN : Aside0 (EL.col k (20 - (n + 1)) (l0.drop (n + 1)) (vs ++ [t]) = some res) := ⟨hc⟩
              clear hs hc HCC HBS HQ
              go_wp2_with ((with_reducible refine gate_builtin (b := .append) (xs := #[.tmp 60, .tmp 62]) rfl ?_); at_builtin; refine Kd.R_append Kd.string (w0 := w) w.heap.size rfl (.tmp 60) (.tmp 62) 24 9 (.string ⟨#[]⟩) 16 rfl Tryd.underlying24 info9 rfl (by decide) (by omega) u5 vs t [.string t] (fun _ => True) (fun _ => False) rfl rfl rfl (fun _ hk => hk.elim) (fun _ _ => trivial) HO.out HB.out HB.out.size (by omega) ?_; intro v13 w20 ho hb hg hat; have n0_ := Aside0.mk hb; have n1_ := Aside0.mk ho; clear HB HO; have HB := n0_; have HO := n1_; clear n0_ n1_ ho hb hg hat)
              go_roundg (l0.length - (n + 1))
              case measure => omega
              case rel => exact ⟨n + 1, vs ++ [t], rfl, by omega, by omega, by omega, by rw [List.length_append]; simp; omega, HCN, HO, HB⟩
    · have hres : res = some vs := by
        have hc := HCL.out
        by_cases h20 : n < 20
        · have hd : l0.drop n = [] := List.drop_eq_nil_of_le (by omega)
          rw [hd, show 20 - n = (20 - (n + 1)) + 1 by omega] at hc
          exact (Option.some.inj (show some (some vs) = some res from hc)).symm
        · rw [show 20 - n = 0 by omega] at hc
          exact (Option.some.inj (show some (some vs) = some res from hc)).symm
      subst hres
      have hfn : (if vs.length ≤ 1000 then EL.rest k vs at_ else none) = some true := HFIN.out
      have hv1 : vs.length ≤ 1000 := by omega
      rw [if_pos hv1] at hfn
      unfold EL.rest at hfn
      obtain ⟨AV, cV, eV⟩ := Kd.R_slice HO.out
      subst eV
      have hq : (decide ((n : Int) < (l0.length : Int)) = false ∧ decide (n < l0.length) = false) ∨ (decide ((n : Int) < (l0.length : Int)) = true ∧ decide ((n : Int) < 20) = false ∧ decide (n < l0.length) = true ∧ decide (n < 20) = false ∧ ¬ (n : Int) < 20) := by
        by_cases h : n < l0.length
        · exact .inr ⟨decide_eq_true (by omega), decide_eq_false (by omega), decide_eq_true (by omega), decide_eq_false (by omega), by omega⟩
        · exact .inl ⟨decide_eq_false (by omega), decide_eq_false (by omega)⟩
      have HV1 := Aside0.mk hv1
      clear hlt HCL HFIN hv1
      by_cases a0 : at_ < 0
      · have k0 : decide (at_ < 0) = true := decide_eq_true a0
        clear hfn a0
        rcases hq with ⟨z1, z3⟩ | ⟨z1, z2, z3, z4, z5⟩
        all_goals
          go_wp2_with (go_at_call 4; (with_reducible refine (sprlaw16_first.calls kf true _ HFI.out).mono ?_); rintro e w9 ⟨rfl, hb⟩; have n0_ := Aside0.mk (HB.out.trans (hb.mono HB.out.size)); clear HB hb; have HB := n0_; clear n0_)
          go_ret
          exact ⟨rfl, HB.out⟩
      · rw [if_neg a0] at hfn
        have k0 : decide (at_ < 0) = false := decide_eq_false a0
        by_cases a1 : at_ > (vs.length : Int)
        · have k1 : decide (at_ > (vs.length : Int)) = true := decide_eq_true a1
          have k2 : decide ((vs.length : Int) < at_) = true := decide_eq_true a1
          clear hfn a0 a1
          rcases hq with ⟨z1, z3⟩ | ⟨z1, z2, z3, z4, z5⟩
          all_goals
            go_wp2_with (go_at_call 4; (with_reducible refine (sprlaw16_first.calls kf true _ HFI.out).mono ?_); rintro e w9 ⟨rfl, hb⟩; have n0_ := Aside0.mk (HB.out.trans (hb.mono HB.out.size)); clear HB hb; have HB := n0_; clear n0_)
            go_ret
            exact ⟨rfl, HB.out⟩
        · rw [if_neg a1] at hfn
          have k1 : decide (at_ > (vs.length : Int)) = false := decide_eq_false a1
          have k2 : decide ((vs.length : Int) < at_) = false := decide_eq_false a1
          have k3 : decide (0 ≤ at_) = true := decide_eq_true (by omega)
          have k4 : decide (at_ ≤ (vs.length : Int)) = true := decide_eq_true (by omega)
          obtain ⟨⟨m1, s1, ok1⟩, e1, hfn⟩ := Option.bind_eq_some_iff.1 hfn
          obtain ⟨⟨m2, s2, no2⟩, e2, hfn⟩ := Option.bind_eq_some_iff.1 hfn
          obtain ⟨⟨m3, one3, yes3⟩, e3, hfn⟩ := Option.bind_eq_some_iff.1 hfn
          have hch := Option.some.inj hfn
          unfold EL.chk at hch
          simp only [Bool.and_eq_true, beq_iff_eq, Bool.not_eq_true', decide_eq_true_eq] at hch
          obtain ⟨g1, g2, g3, g4, g5, g6⟩ := hch
          subst g2; subst g4; subst g6; subst g5; subst g1
          have E1 := Aside0.mk e1
          have E2 := Aside0.mk e2
          have E3 := Aside0.mk e3
          have G3 := Aside0.mk g3
          have hat0 : at_.toNat ≤ vs.length := by omega
          have HAT := Aside0.mk hat0
          clear hfn e1 e2 e3 g3 hat0 a0 a1
          obtain ⟨y123a, hy123a⟩ : ∃ y : List ByteArray, y = ([] : List ByteArray) := ⟨_, rfl⟩
          obtain ⟨y127a, hy127a⟩ : ∃ y : List ByteArray, y = y123a ++ vs.take (at_ : Int).toNat := ⟨_, rfl⟩
          obtain ⟨y130a, hy130a⟩ : ∃ y : List ByteArray, y = ([(⟨#[120]⟩ : ByteArray)] : List ByteArray) := ⟨_, rfl⟩
          obtain ⟨y133a, hy133a⟩ : ∃ y : List ByteArray, y = y127a ++ y130a := ⟨_, rfl⟩
          obtain ⟨y137a, hy137a⟩ : ∃ y : List ByteArray, y = y133a ++ vs.drop (at_ : Int).toNat := ⟨_, rfl⟩
          have EIa : Aside0 (y137a = EL.ins vs at_ (⟨#[120]⟩ : ByteArray)) := ⟨by rw [hy137a, hy133a, hy130a, hy127a, hy123a]; rfl⟩
          have z123 : y123a.length = 0 := by rw [hy123a]; rfl
          have z130 : y130a.length = 1 := by rw [hy130a]; rfl
          have z127 : y127a.length ≤ vs.length := by rw [hy127a, List.length_append, z123, List.length_take]; omega
          have z133 : y133a.length ≤ vs.length + 1 := by rw [hy133a, List.length_append, z130]; omega
          have LMc42a : Aside0 (y123a.length + (vs.take (at_ : Int).toNat).length < 8796093022208) := ⟨by rw [z123, List.length_take]; have := HV1.out; omega⟩
          have LMc46a : Aside0 (y127a.length + y130a.length < 8796093022208) := ⟨by have := HV1.out; omega⟩
          have LMc49a : Aside0 (y133a.length + (vs.drop (at_ : Int).toNat).length < 8796093022208) := ⟨by rw [List.length_drop]; have := HV1.out; omega⟩
          have Ny123a := Aside0.mk hy123a
          have Ny127a := Aside0.mk hy127a
          have Ny130a := Aside0.mk hy130a
          have Ny133a := Aside0.mk hy133a
          have Ny137a := Aside0.mk hy137a
          clear hy123a hy127a hy130a hy133a hy137a z123 z130 z127 z133
          obtain ⟨y123b, hy123b⟩ : ∃ y : List ByteArray, y = ([] : List ByteArray) := ⟨_, rfl⟩
          obtain ⟨y127b, hy127b⟩ : ∃ y : List ByteArray, y = y123b ++ vs.take (at_ : Int).toNat := ⟨_, rfl⟩
          obtain ⟨y130b, hy130b⟩ : ∃ y : List ByteArray, y = ([(⟨#[42]⟩ : ByteArray)] : List ByteArray) := ⟨_, rfl⟩
          obtain ⟨y133b, hy133b⟩ : ∃ y : List ByteArray, y = y127b ++ y130b := ⟨_, rfl⟩
          obtain ⟨y137b, hy137b⟩ : ∃ y : List ByteArray, y = y133b ++ vs.drop (at_ : Int).toNat := ⟨_, rfl⟩
          have EIb : Aside0 (y137b = EL.ins vs at_ (⟨#[42]⟩ : ByteArray)) := ⟨by rw [hy137b, hy133b, hy130b, hy127b, hy123b]; rfl⟩
          have z123 : y123b.length = 0 := by rw [hy123b]; rfl
          have z130 : y130b.length = 1 := by rw [hy130b]; rfl
          have z127 : y127b.length ≤ vs.length := by rw [hy127b, List.length_append, z123, List.length_take]; omega
          have z133 : y133b.length ≤ vs.length + 1 := by rw [hy133b, List.length_append, z130]; omega
          have LMc42b : Aside0 (y123b.length + (vs.take (at_ : Int).toNat).length < 8796093022208) := ⟨by rw [z123, List.length_take]; have := HV1.out; omega⟩
          have LMc46b : Aside0 (y127b.length + y130b.length < 8796093022208) := ⟨by have := HV1.out; omega⟩
          have LMc49b : Aside0 (y133b.length + (vs.drop (at_ : Int).toNat).length < 8796093022208) := ⟨by rw [List.length_drop]; have := HV1.out; omega⟩
          have Ny123b := Aside0.mk hy123b
          have Ny127b := Aside0.mk hy127b
          have Ny130b := Aside0.mk hy130b
          have Ny133b := Aside0.mk hy133b
          have Ny137b := Aside0.mk hy137b
          clear hy123b hy127b hy130b hy133b hy137b z123 z130 z127 z133
          rcases hq with ⟨z1, z3⟩ | ⟨z1, z2, z3, z4, z5⟩
          all_goals
            go_upto_region 19 with (go_at_call 6; (with_reducible refine (etag_List.calls k AV cV vs m1 false (decide (0 < vs.length)) _ (Kd.R_reads' HO.out).2.2 (Kd.R_reads' HO.out).2.1 E1.out).mono ?_); rintro e w6 ⟨u1, rfl, hR, hb⟩; obtain ⟨Am1, cm1, rfl, hcm1, hCm1⟩ := Kd.R_reads hR; have HRV := Aside0.mk (Kd.C_below (Kd.R_reads' HO.out).2.2 hb); have HCV := Aside0.mk (Kd.R_reads' HO.out).2.1; have HBG := Aside0.mk (HB.out.trans (hb.mono HB.out.size)); clear HB HO hb hR hcm1 hCm1; have HB := Aside0.mk (Below.refl w6.heap.size w6))
            have n0_ := Aside0.mk (below_drew1 HB.out)
            clear HB
            have HB := n0_
            clear n0_
            obtain ⟨i064a, hi064a, _, hsz64a, _⟩ := info_parts info9
            obtain ⟨hcut64a, hA64a, hC64a⟩ := print_take_of (P := Tryd.prog) Value.string (⟨#[]⟩ : ByteArray) 24 9 .i64 Tryd.underlying24 hi064a hsz64a AV cV vs at_ (of_decide_eq_true (by first | (with_reducible assumption) | assumption)) (of_decide_eq_true (by first | (with_reducible assumption) | assumption)) HCV.out
            have HR126a := Aside0.mk (Kd.C_of_reads (h1 := fun _ => rfl) (hA64a _ (Kd.reads_of_C HRV.out)))
            have HC126a := Aside0.mk hC64a
            clear hA64a hC64a hi064a hsz64a
            obtain ⟨i065a, hi065a, _, hsz65a, _⟩ := info_parts info9
            obtain ⟨A65a, hcut65a, hA65a, hC65a⟩ := print_drop_of (P := Tryd.prog) Value.string (⟨#[]⟩ : ByteArray) 24 9 .i64 Tryd.underlying24 hi065a hsz65a AV cV vs at_ (of_decide_eq_true (by first | (with_reducible assumption) | assumption)) (of_decide_eq_true (by first | (with_reducible assumption) | assumption)) HCV.out
            have HR136a := Aside0.mk (Kd.C_of_reads (h1 := fun _ => rfl) (hA65a _ (Kd.reads_of_C HRV.out)))
            have HC136a := Aside0.mk hC65a
            clear hA65a hC65a hi065a hsz65a
            refine start_ (n := 12) (S := fun w' => True) (ds := []) #[false, false, false, false, false, false, false, false, false, false, false, false] (by kernel_rfl) rfl rfl trivial (fun hHeld => ?_)
            generalize w6.drew = w63a at HB HR126a HR136a hHeld ⊢
            refine pure_ (i := 1) (N := some 80) (v := ?_) (a' := ?_) #[false, true, false, false, false, false, false, false, false, false, false, false] rfl rfl (by kernel_rfl) (fun _ _ _ h => h) (Or.inl ⟨by rfl, ?_⟩) ?_ ?_
            rotate_left
            · intro w'
              go_simp
              with_reducible rfl
            rotate_left
            · simp only [Act.put, List.setIfInBounds_toArray, List.set_cons_zero, List.set_cons_succ, i64_w, i32_w]
              rfl
            refine pure_ (i := 2) (N := some 81) (v := ?_) (a' := ?_) #[false, true, true, false, false, false, false, false, false, false, false, false] rfl rfl (by kernel_rfl) (fun _ _ _ h => h) (Or.inl ⟨by rfl, ?_⟩) ?_ ?_
            rotate_left
            · intro w'
              go_simp
              with_reducible rfl
            rotate_left
            · simp only [Act.put, List.setIfInBounds_toArray, List.set_cons_zero, List.set_cons_succ, i64_w, i32_w]
              rfl
            refine pure_ (i := 3) (N := some 82) (v := ?_) (a' := ?_) #[false, true, true, true, false, false, false, false, false, false, false, false] rfl rfl (by kernel_rfl) (fun _ _ _ h => h) (Or.inl ⟨by rfl, ?_⟩) ?_ ?_
            rotate_left
            · intro w'
              go_simp
              with_reducible rfl
            rotate_left
            · simp only [Act.put, List.setIfInBounds_toArray, List.set_cons_zero, List.set_cons_succ, i64_w, i32_w]
              rfl
            refine pure_ (i := 7) (N := some 86) (v := ?_) (a' := ?_) #[false, true, true, true, false, false, false, true, false, false, false, false] rfl rfl (by kernel_rfl) (fun _ _ _ h => h) (Or.inl ⟨by rfl, ?_⟩) ?_ ?_
            rotate_left
            · intro w'
              go_simp
              with_reducible rfl
            rotate_left
            · simp only [Act.put, List.setIfInBounds_toArray, List.set_cons_zero, List.set_cons_succ, i64_w, i32_w]
              rfl
            refine pure_ (i := 8) (N := some 87) (v := ?_) (a' := ?_) #[false, true, true, true, false, false, false, true, true, false, false, false] rfl rfl (by kernel_rfl) (fun _ _ _ h => h) (Or.inl ⟨by rfl, ?_⟩) ?_ ?_
            rotate_left
            · intro w'
              go_simp
              with_reducible rfl
            rotate_left
            · simp only [Act.put, List.setIfInBounds_toArray, List.set_cons_zero, List.set_cons_succ, i64_w, i32_w]
              rfl
            refine pure_ (i := 9) (N := some 88) (v := ?_) (a' := ?_) #[false, true, true, true, false, false, false, true, true, true, false, false] rfl rfl (by kernel_rfl) (fun _ _ _ h => h) (Or.inl ⟨by rfl, ?_⟩) ?_ ?_
            rotate_left
            · intro w'
              go_simp
              with_reducible rfl
            rotate_left
            · simp only [Act.put, List.setIfInBounds_toArray, List.set_cons_zero, List.set_cons_succ, i64_w, i32_w]
              rfl
            refine join_ (σ := Value × Value × Value) 3 #[true, true, true, true, true, true, false, true, true, true, false, false] (fun s_ => [(79, s_.1), (83, s_.2.1), (84, s_.2.2)]) (fun s_ w' => (Kd.R Kd.string 9 w' w6.heap.size (fun k_ => some k_ ≠ (s_.2.2 : Value).ownBlock) s_.2.1 y127a) ∧ (Kd.R Kd.string 9 w' w6.heap.size (fun k_ => some k_ ≠ (s_.2.1 : Value).ownBlock) s_.2.2 y130a) ∧ (Below w6.heap.size w6 w')) ?_ ?_
            rotate_left
            · intro hCont
              refine two_ (i := 0) (j := 5) (Ni := some 79) (Nj := some 84) #[true, true, true, true, false, false, false, true, true, true, false, false] #[false, true, true, true, false, true, false, true, true, true, false, false] rfl rfl rfl rfl (by kernel_rfl) (by decide) (by decide) (fun K hK => ?_) (fun K hK => ?_)
              · skip
                refine Kd.R_lit_step Kd.string _ 9 ?hg (N := 79) ?hd (xs := ([] : List ByteArray)) (inner := []) (ok := fun _ => True) (okp := fun _ => True) ?hr ?hp (fun _ hk => hk) trivial (Below.refl _ _) (Nat.le_refl _) (by simp) ?_; (case hd => rfl); (case hg => rfl); (case hr => first | (go_simp; done) | (go_simp; rfl)); (case hp => exact (Reps.none _ _))
                intro v124a w66a ho67 hb hg_ hnew_
                clear hg_ hnew_
                (first | rw [← Ny123a.out] at ho67 | (simp only [Int.reduceToNat] at ho67; rw [← Ny123a.out] at ho67))
                have n0_ := Aside0.mk (Kd.R_lower ho67 (below_size (by repeat (first | (with_reducible first | exact HB.out | apply below_alloc | apply pw_below_drewN | apply below_drew1) | exact HB.out))))
                have n1_ := Aside0.mk (below_step (by repeat (first | (with_reducible first | exact HB.out | apply below_alloc | apply pw_below_drewN | apply below_drew1) | exact HB.out)) hb)
                clear HB
                have HO125a := n0_
                have HB := n1_
                clear n0_ n1_
                clear hb ho67
                refine hK.out _ _ trivial (fun hHeld => ?_)
                clear hK K
                refine norm_ (a' := ?_) ?_ ?_
                rotate_left
                · show Act.put _ (some 79) _ = _
                  simp only [Act.put, List.setIfInBounds_toArray, List.set_cons_zero, List.set_cons_succ, i64_w, i32_w]
                  rfl
                refine two_ (i := 4) (j := 5) (Ni := some 83) (Nj := some 84) #[true, true, true, true, true, false, false, true, true, true, false, false] #[true, true, true, true, false, true, false, true, true, true, false, false] rfl rfl rfl rfl (by kernel_rfl) (by decide) (by decide) (fun K hK => ?_) (fun K hK => ?_)
                · skip
                  refine Kd.R_append_rows_step Kd.string (w0 := w6) w6.heap.size (by rfl) (.tmp 79) (.tmp 82) 24 9 (.string ⟨#[]⟩) 16 rfl Tryd.underlying24 info9 rfl (by decide) (by omega) v124a y123a (vs.take (at_ : Int).toNat) _ _ _ (fun _ => True) (fun _ => False) rfl rfl ?aO ?aR (fun _ _ h => h) (fun _ h => h.elim) ?aF ?aB ?aS ?aL ?_
                  (case aR => first | (rw [← show (vs.take (at_ : Int).toNat).length = min at_.toNat vs.length from List.length_take]; exact (Kd.C_below HR126a.out HB.out)) | (rw [← show (vs.take (at_ : Int).toNat).length = at_.toNat from (by rw [List.length_take]; have h_ : (at_ : Int) ≤ (vs.length : Int) := of_decide_eq_true (by first | (with_reducible assumption) | assumption); omega)]; repeat (first | exact (Kd.C_below HR126a.out HB.out) | (with_reducible refine Kd.C_alloc ?_ _) | (with_reducible refine Kd.C_drewN ?_ _) | (with_reducible refine Kd.C_drew ?_))) | (repeat (first | exact (Kd.C_below HR126a.out HB.out) | (with_reducible refine Kd.C_alloc ?_ _) | (with_reducible refine Kd.C_drewN ?_ _) | (with_reducible refine Kd.C_drew ?_))))
                  (case aB => exact (by repeat (first | (with_reducible first | exact HB.out | apply below_alloc | apply pw_below_drewN | apply below_drew1) | exact HB.out)))
                  (case aF => exact (fun _ _ => trivial))
                  (case aO => exact (by (with_reducible repeat (first | apply Kd.R_alloc | apply Kd.R_drewN | apply Kd.R_drew)); exact HO125a.out))
                  (case aS => exact (below_size (by repeat (first | (with_reducible first | exact HB.out | apply below_alloc | apply pw_below_drewN | apply below_drew1) | exact HB.out))))
                  (case aL => have := LMc42a.out; have hlx_ := (show (vs.take (at_ : Int).toNat).length = at_.toNat from (by rw [List.length_take]; have h_ : (at_ : Int) ≤ (vs.length : Int) := of_decide_eq_true (by first | (with_reducible assumption) | assumption); omega)); omega)
                  intro v128a w68a ho hb hg hat
                  rw [← Ny127a.out] at ho
                  have n0_ := Aside0.mk (hb)
                  have n1_ := Aside0.mk (ho)
                  clear HB
                  clear HO125a
                  have HB := n0_
                  have HO129a := n1_
                  clear n0_ n1_
                  clear ho hb hg hat
                  refine hK.out _ _ trivial (fun hHeld => ?_)
                  clear hK K
                  refine norm_ (a' := ?_) ?_ ?_
                  rotate_left
                  · show Act.put _ (some 83) _ = _
                    simp only [Act.put, List.setIfInBounds_toArray, List.set_cons_zero, List.set_cons_succ, i64_w, i32_w]
                    rfl
                  refine one_ (i := 5) (N := some 84) #[true, true, true, true, true, true, false, true, true, true, false, false] rfl rfl (by kernel_rfl) (by decide) (fun K hK => ?_)
                  refine Kd.R_lit_step Kd.string _ 9 ?hg (N := 84) ?hd (xs := ([(⟨#[120]⟩ : ByteArray)] : List ByteArray)) (inner := [.string ((⟨#[120]⟩ : ByteArray))]) (ok := fun _ => True) (okp := fun _ => True) ?hr ?hp (fun _ hk => hk) trivial (Below.refl _ _) (Nat.le_refl _) (by simp) ?_; (case hd => rfl); (case hg => rfl); (case hr => first | (go_simp; done) | (go_simp; rfl)); (case hp => exact (Reps.one (show Kd.M Kd.string _ _ _ ((⟨#[120]⟩ : ByteArray)) [.string ((⟨#[120]⟩ : ByteArray))] from rfl) (Reps.none _ _)))
                  intro v131a w69a ho70 hb hg_ hnew_
                  clear hg_ hnew_
                  (first | rw [← Ny130a.out] at ho70 | (simp only [Int.reduceToNat] at ho70; rw [← Ny130a.out] at ho70))
                  have n0_ := Aside0.mk (Kd.R_elder' (by (with_reducible repeat (first | apply Kd.R_alloc | apply Kd.R_drewN | apply Kd.R_drew)); exact HO129a.out) (Kd.R_base ho70) hb)
                  have n1_ := Aside0.mk (Kd.R_lower (Kd.R_new' ho70 (Kd.R_lt (by (with_reducible repeat (first | apply Kd.R_alloc | apply Kd.R_drewN | apply Kd.R_drew)); exact HO129a.out))) (below_size (by repeat (first | (with_reducible first | exact HB.out | apply below_alloc | apply pw_below_drewN | apply below_drew1) | exact HB.out))))
                  have n2_ := Aside0.mk (below_step (by repeat (first | (with_reducible first | exact HB.out | apply below_alloc | apply pw_below_drewN | apply below_drew1) | exact HB.out)) hb)
                  clear HO129a
                  clear HB
                  have HO129a := n0_
                  have HO132a := n1_
                  have HB := n2_
                  clear n0_ n1_ n2_
                  clear hb ho70
                  refine hK.out _ _ trivial (fun hHeld => ?_)
                  clear hK K
                  refine norm_ (a' := ?_) ?_ ?_
                  rotate_left
                  · show Act.put _ (some 84) _ = _
                    simp only [Act.put, List.setIfInBounds_toArray, List.set_cons_zero, List.set_cons_succ, i64_w, i32_w]
                    rfl
                  exact norm_ (by simp only [putAll, Act.put, List.setIfInBounds_toArray, List.set_cons_zero, List.set_cons_succ]) (hCont (v124a, v128a, v131a) _ ⟨(by (with_reducible repeat (first | apply Kd.R_alloc | apply Kd.R_drewN | apply Kd.R_drew)); exact Kd.R_mono HO129a.out (fun _ hk => hk.2)), (by (with_reducible repeat (first | apply Kd.R_alloc | apply Kd.R_drewN | apply Kd.R_drew)); exact Kd.R_mono HO132a.out (fun _ hk => hk.2)), (by repeat (first | (with_reducible first | exact HB.out | apply below_alloc | apply pw_below_drewN | apply below_drew1) | exact HB.out))⟩)
                · skip
                  refine Kd.R_lit_step Kd.string _ 9 ?hg (N := 84) ?hd (xs := ([(⟨#[120]⟩ : ByteArray)] : List ByteArray)) (inner := [.string ((⟨#[120]⟩ : ByteArray))]) (ok := fun _ => True) (okp := fun _ => True) ?hr ?hp (fun _ hk => hk) trivial (Below.refl _ _) (Nat.le_refl _) (by simp) ?_; (case hd => rfl); (case hg => rfl); (case hr => first | (go_simp; done) | (go_simp; rfl)); (case hp => exact (Reps.one (show Kd.M Kd.string _ _ _ ((⟨#[120]⟩ : ByteArray)) [.string ((⟨#[120]⟩ : ByteArray))] from rfl) (Reps.none _ _)))
                  intro v131a w68a ho69 hb hg_ hnew_
                  clear hg_ hnew_
                  (first | rw [← Ny130a.out] at ho69 | (simp only [Int.reduceToNat] at ho69; rw [← Ny130a.out] at ho69))
                  have n0_ := Aside0.mk (Kd.R_elder' (by (with_reducible repeat (first | apply Kd.R_alloc | apply Kd.R_drewN | apply Kd.R_drew)); exact HO125a.out) (Kd.R_base ho69) hb)
                  have n1_ := Aside0.mk (Kd.R_lower (Kd.R_new' ho69 (Kd.R_lt (by (with_reducible repeat (first | apply Kd.R_alloc | apply Kd.R_drewN | apply Kd.R_drew)); exact HO125a.out))) (below_size (by repeat (first | (with_reducible first | exact HB.out | apply below_alloc | apply pw_below_drewN | apply below_drew1) | exact HB.out))))
                  have n2_ := Aside0.mk (below_step (by repeat (first | (with_reducible first | exact HB.out | apply below_alloc | apply pw_below_drewN | apply below_drew1) | exact HB.out)) hb)
                  clear HO125a
                  clear HB
                  have HO125a := n0_
                  have HO132a := n1_
                  have HB := n2_
                  clear n0_ n1_ n2_
                  clear hb ho69
                  refine hK.out _ _ trivial (fun hHeld => ?_)
                  clear hK K
                  refine norm_ (a' := ?_) ?_ ?_
                  rotate_left
                  · show Act.put _ (some 84) _ = _
                    simp only [Act.put, List.setIfInBounds_toArray, List.set_cons_zero, List.set_cons_succ, i64_w, i32_w]
                    rfl
                  refine one_ (i := 4) (N := some 83) #[true, true, true, true, true, true, false, true, true, true, false, false] rfl rfl (by kernel_rfl) (by decide) (fun K hK => ?_)
                  refine Kd.R_append_rows_step Kd.string (w0 := w6) w6.heap.size (by rfl) (.tmp 79) (.tmp 82) 24 9 (.string ⟨#[]⟩) 16 rfl Tryd.underlying24 info9 rfl (by decide) (by omega) v124a y123a (vs.take (at_ : Int).toNat) _ _ _ (fun k_ => some k_ ≠ (v131a : Value).ownBlock) (fun _ => False) rfl rfl ?aO ?aR (fun _ _ h => h) (fun _ h => h.elim) ?aF ?aB ?aS ?aL ?_
                  (case aR => first | (rw [← show (vs.take (at_ : Int).toNat).length = min at_.toNat vs.length from List.length_take]; exact (Kd.C_below HR126a.out HB.out)) | (rw [← show (vs.take (at_ : Int).toNat).length = at_.toNat from (by rw [List.length_take]; have h_ : (at_ : Int) ≤ (vs.length : Int) := of_decide_eq_true (by first | (with_reducible assumption) | assumption); omega)]; repeat (first | exact (Kd.C_below HR126a.out HB.out) | (with_reducible refine Kd.C_alloc ?_ _) | (with_reducible refine Kd.C_drewN ?_ _) | (with_reducible refine Kd.C_drew ?_))) | (repeat (first | exact (Kd.C_below HR126a.out HB.out) | (with_reducible refine Kd.C_alloc ?_ _) | (with_reducible refine Kd.C_drewN ?_ _) | (with_reducible refine Kd.C_drew ?_))))
                  (case aB => exact (by repeat (first | (with_reducible first | exact HB.out | apply below_alloc | apply pw_below_drewN | apply below_drew1) | exact HB.out)))
                  (case aF => exact (fun k_ hk => Kd.fresh' (Kd.R_lt (by (with_reducible repeat (first | apply Kd.R_alloc | apply Kd.R_drewN | apply Kd.R_drew)); exact HO132a.out)) k_ hk))
                  (case aO => exact (by (with_reducible repeat (first | apply Kd.R_alloc | apply Kd.R_drewN | apply Kd.R_drew)); exact Kd.R_mono HO125a.out (fun _ hk => hk.2)))
                  (case aS => exact (below_size (by repeat (first | (with_reducible first | exact HB.out | apply below_alloc | apply pw_below_drewN | apply below_drew1) | exact HB.out))))
                  (case aL => have := LMc42a.out; have hlx_ := (show (vs.take (at_ : Int).toNat).length = at_.toNat from (by rw [List.length_take]; have h_ : (at_ : Int) ≤ (vs.length : Int) := of_decide_eq_true (by first | (with_reducible assumption) | assumption); omega)); omega)
                  intro v128a w70a ho hb hg hat
                  rw [← Ny127a.out] at ho
                  have n0_ := Aside0.mk (Kd.R_after (ok := (fun _ => True)) (by (with_reducible repeat (first | apply Kd.R_alloc | apply Kd.R_drewN | apply Kd.R_drew)); exact HO132a.out) hg hat)
                  have n1_ := Aside0.mk (hb)
                  have n2_ := Aside0.mk (ho)
                  clear HO132a
                  clear HB
                  clear HO125a
                  have HO132a := n0_
                  have HB := n1_
                  have HO129a := n2_
                  clear n0_ n1_ n2_
                  clear ho hb hg hat
                  refine hK.out _ _ trivial (fun hHeld => ?_)
                  clear hK K
                  refine norm_ (a' := ?_) ?_ ?_
                  rotate_left
                  · show Act.put _ (some 83) _ = _
                    simp only [Act.put, List.setIfInBounds_toArray, List.set_cons_zero, List.set_cons_succ, i64_w, i32_w]
                    rfl
                  exact norm_ (by simp only [putAll, Act.put, List.setIfInBounds_toArray, List.set_cons_zero, List.set_cons_succ]) (hCont (v124a, v128a, v131a) _ ⟨(by (with_reducible repeat (first | apply Kd.R_alloc | apply Kd.R_drewN | apply Kd.R_drew)); exact HO129a.out), (by (with_reducible repeat (first | apply Kd.R_alloc | apply Kd.R_drewN | apply Kd.R_drew)); exact Kd.R_mono HO132a.out (fun _ hk => hk.2)), (by repeat (first | (with_reducible first | exact HB.out | apply below_alloc | apply pw_below_drewN | apply below_drew1) | exact HB.out))⟩)
              · skip
                refine Kd.R_lit_step Kd.string _ 9 ?hg (N := 84) ?hd (xs := ([(⟨#[120]⟩ : ByteArray)] : List ByteArray)) (inner := [.string ((⟨#[120]⟩ : ByteArray))]) (ok := fun _ => True) (okp := fun _ => True) ?hr ?hp (fun _ hk => hk) trivial (Below.refl _ _) (Nat.le_refl _) (by simp) ?_; (case hd => rfl); (case hg => rfl); (case hr => first | (go_simp; done) | (go_simp; rfl)); (case hp => exact (Reps.one (show Kd.M Kd.string _ _ _ ((⟨#[120]⟩ : ByteArray)) [.string ((⟨#[120]⟩ : ByteArray))] from rfl) (Reps.none _ _)))
                intro v131a w66a ho67 hb hg_ hnew_
                clear hg_ hnew_
                (first | rw [← Ny130a.out] at ho67 | (simp only [Int.reduceToNat] at ho67; rw [← Ny130a.out] at ho67))
                have n0_ := Aside0.mk (Kd.R_lower ho67 (below_size (by repeat (first | (with_reducible first | exact HB.out | apply below_alloc | apply pw_below_drewN | apply below_drew1) | exact HB.out))))
                have n1_ := Aside0.mk (below_step (by repeat (first | (with_reducible first | exact HB.out | apply below_alloc | apply pw_below_drewN | apply below_drew1) | exact HB.out)) hb)
                clear HB
                have HO132a := n0_
                have HB := n1_
                clear n0_ n1_
                clear hb ho67
                refine hK.out _ _ trivial (fun hHeld => ?_)
                clear hK K
                refine norm_ (a' := ?_) ?_ ?_
                rotate_left
                · show Act.put _ (some 84) _ = _
                  simp only [Act.put, List.setIfInBounds_toArray, List.set_cons_zero, List.set_cons_succ, i64_w, i32_w]
                  rfl
                refine one_ (i := 0) (N := some 79) #[true, true, true, true, false, true, false, true, true, true, false, false] rfl rfl (by kernel_rfl) (by decide) (fun K hK => ?_)
                refine Kd.R_lit_step Kd.string _ 9 ?hg (N := 79) ?hd (xs := ([] : List ByteArray)) (inner := []) (ok := fun _ => True) (okp := fun _ => True) ?hr ?hp (fun _ hk => hk) trivial (Below.refl _ _) (Nat.le_refl _) (by simp) ?_; (case hd => rfl); (case hg => rfl); (case hr => first | (go_simp; done) | (go_simp; rfl)); (case hp => exact (Reps.none _ _))
                intro v124a w68a ho69 hb hg_ hnew_
                clear hg_ hnew_
                (first | rw [← Ny123a.out] at ho69 | (simp only [Int.reduceToNat] at ho69; rw [← Ny123a.out] at ho69))
                have n0_ := Aside0.mk (Kd.R_elder' (by (with_reducible repeat (first | apply Kd.R_alloc | apply Kd.R_drewN | apply Kd.R_drew)); exact HO132a.out) (Kd.R_base ho69) hb)
                have n1_ := Aside0.mk (Kd.R_lower (Kd.R_new' ho69 (Kd.R_lt (by (with_reducible repeat (first | apply Kd.R_alloc | apply Kd.R_drewN | apply Kd.R_drew)); exact HO132a.out))) (below_size (by repeat (first | (with_reducible first | exact HB.out | apply below_alloc | apply pw_below_drewN | apply below_drew1) | exact HB.out))))
                have n2_ := Aside0.mk (below_step (by repeat (first | (with_reducible first | exact HB.out | apply below_alloc | apply pw_below_drewN | apply below_drew1) | exact HB.out)) hb)
                clear HO132a
                clear HB
                have HO132a := n0_
                have HO125a := n1_
                have HB := n2_
                clear n0_ n1_ n2_
                clear hb ho69
                refine hK.out _ _ trivial (fun hHeld => ?_)
                clear hK K
                refine norm_ (a' := ?_) ?_ ?_
                rotate_left
                · show Act.put _ (some 79) _ = _
                  simp only [Act.put, List.setIfInBounds_toArray, List.set_cons_zero, List.set_cons_succ, i64_w, i32_w]
                  rfl
                refine one_ (i := 4) (N := some 83) #[true, true, true, true, true, true, false, true, true, true, false, false] rfl rfl (by kernel_rfl) (by decide) (fun K hK => ?_)
                refine Kd.R_append_rows_step Kd.string (w0 := w6) w6.heap.size (by rfl) (.tmp 79) (.tmp 82) 24 9 (.string ⟨#[]⟩) 16 rfl Tryd.underlying24 info9 rfl (by decide) (by omega) v124a y123a (vs.take (at_ : Int).toNat) _ _ _ (fun k_ => some k_ ≠ (v131a : Value).ownBlock) (fun _ => False) rfl rfl ?aO ?aR (fun _ _ h => h) (fun _ h => h.elim) ?aF ?aB ?aS ?aL ?_
                (case aR => first | (rw [← show (vs.take (at_ : Int).toNat).length = min at_.toNat vs.length from List.length_take]; exact (Kd.C_below HR126a.out HB.out)) | (rw [← show (vs.take (at_ : Int).toNat).length = at_.toNat from (by rw [List.length_take]; have h_ : (at_ : Int) ≤ (vs.length : Int) := of_decide_eq_true (by first | (with_reducible assumption) | assumption); omega)]; repeat (first | exact (Kd.C_below HR126a.out HB.out) | (with_reducible refine Kd.C_alloc ?_ _) | (with_reducible refine Kd.C_drewN ?_ _) | (with_reducible refine Kd.C_drew ?_))) | (repeat (first | exact (Kd.C_below HR126a.out HB.out) | (with_reducible refine Kd.C_alloc ?_ _) | (with_reducible refine Kd.C_drewN ?_ _) | (with_reducible refine Kd.C_drew ?_))))
                (case aB => exact (by repeat (first | (with_reducible first | exact HB.out | apply below_alloc | apply pw_below_drewN | apply below_drew1) | exact HB.out)))
                (case aF => exact (fun k_ hk => Kd.fresh' (Kd.R_lt (by (with_reducible repeat (first | apply Kd.R_alloc | apply Kd.R_drewN | apply Kd.R_drew)); exact HO132a.out)) k_ hk))
                (case aO => exact (by (with_reducible repeat (first | apply Kd.R_alloc | apply Kd.R_drewN | apply Kd.R_drew)); exact Kd.R_mono HO125a.out (fun _ hk => hk.2)))
                (case aS => exact (below_size (by repeat (first | (with_reducible first | exact HB.out | apply below_alloc | apply pw_below_drewN | apply below_drew1) | exact HB.out))))
                (case aL => have := LMc42a.out; have hlx_ := (show (vs.take (at_ : Int).toNat).length = at_.toNat from (by rw [List.length_take]; have h_ : (at_ : Int) ≤ (vs.length : Int) := of_decide_eq_true (by first | (with_reducible assumption) | assumption); omega)); omega)
                intro v128a w70a ho hb hg hat
                rw [← Ny127a.out] at ho
                have n0_ := Aside0.mk (Kd.R_after (ok := (fun _ => True)) (by (with_reducible repeat (first | apply Kd.R_alloc | apply Kd.R_drewN | apply Kd.R_drew)); exact HO132a.out) hg hat)
                have n1_ := Aside0.mk (hb)
                have n2_ := Aside0.mk (ho)
                clear HO132a
                clear HB
                clear HO125a
                have HO132a := n0_
                have HB := n1_
                have HO129a := n2_
                clear n0_ n1_ n2_
                clear ho hb hg hat
                refine hK.out _ _ trivial (fun hHeld => ?_)
                clear hK K
                refine norm_ (a' := ?_) ?_ ?_
                rotate_left
                · show Act.put _ (some 83) _ = _
                  simp only [Act.put, List.setIfInBounds_toArray, List.set_cons_zero, List.set_cons_succ, i64_w, i32_w]
                  rfl
                exact norm_ (by simp only [putAll, Act.put, List.setIfInBounds_toArray, List.set_cons_zero, List.set_cons_succ]) (hCont (v124a, v128a, v131a) _ ⟨(by (with_reducible repeat (first | apply Kd.R_alloc | apply Kd.R_drewN | apply Kd.R_drew)); exact HO129a.out), (by (with_reducible repeat (first | apply Kd.R_alloc | apply Kd.R_drewN | apply Kd.R_drew)); exact Kd.R_mono HO132a.out (fun _ hk => hk.2)), (by repeat (first | (with_reducible first | exact HB.out | apply below_alloc | apply pw_below_drewN | apply below_drew1) | exact HB.out))⟩)
            rintro ⟨v124a, v128a, v131a⟩ w71a ⟨h0_, h1_, h2_⟩
            have n0_ : Aside0 (Kd.R Kd.string 9 w71a w6.heap.size (fun k_ => some k_ ≠ (v131a : Value).ownBlock) v128a y127a) := ⟨h0_⟩
            have n1_ : Aside0 (Kd.R Kd.string 9 w71a w6.heap.size (fun k_ => some k_ ≠ (v128a : Value).ownBlock) v131a y130a) := ⟨h1_⟩
            have n2_ : Aside0 (Below w6.heap.size w6 w71a) := ⟨h2_⟩
            clear HB
            clear h0_ h1_ h2_
            have HO129a := n0_
            have HO132a := n1_
            have HB := n2_
            clear n0_ n1_ n2_
            have hHeld := trivial
            obtain ⟨Ao73a, co73a, eo73a⟩ := Kd.R_slice HO132a.out
            (first | subst eo73a | (injection eo73a with f1_ f2_ f3_; have f4_ := f1_.symm; have f5_ := f3_.symm; clear f1_ f2_ f3_; subst f4_; subst f5_))
            refine norm_ (a' := ?_) ?_ ?_
            rotate_left
            · simp only [putAll, Act.put, List.setIfInBounds_toArray, List.set_cons_zero, List.set_cons_succ]
              rfl
            refine one_ (i := 6) (N := some 85) #[true, true, true, true, true, true, true, true, true, true, false, false] rfl rfl (by kernel_rfl) (by decide) (fun K hK => ?_)
            refine Kd.R_append_rows_step Kd.string (w0 := w6) w6.heap.size (by rfl) (.tmp 83) (.tmp 84) 24 9 (.string ⟨#[]⟩) 16 rfl Tryd.underlying24 info9 rfl (by decide) (by omega) v128a y127a y130a _ _ _ (fun k_ => some k_ ≠ (.slice Ao73a y130a.length co73a : Value).ownBlock) (fun _ => False) rfl rfl ?aO ?aR (fun _ _ h => h) (fun _ h => h.elim) ?aF ?aB ?aS ?aL ?_
            (case aR => repeat (first | exact (Kd.R_reads' HO132a.out).2.2 | (with_reducible refine Kd.C_alloc ?_ _) | (with_reducible refine Kd.C_drewN ?_ _) | (with_reducible refine Kd.C_drew ?_)))
            (case aB => exact (by repeat (first | (with_reducible first | exact HB.out | apply below_alloc | apply pw_below_drewN | apply below_drew1) | exact HB.out)))
            (case aF => exact (fun k_ hk => Kd.fresh' (Kd.R_lt (by (with_reducible repeat (first | apply Kd.R_alloc | apply Kd.R_drewN | apply Kd.R_drew)); exact HO132a.out)) k_ hk))
            (case aO => exact (by (with_reducible repeat (first | apply Kd.R_alloc | apply Kd.R_drewN | apply Kd.R_drew)); exact HO129a.out))
            (case aS => exact (below_size (by repeat (first | (with_reducible first | exact HB.out | apply below_alloc | apply pw_below_drewN | apply below_drew1) | exact HB.out))))
            (case aL => have := LMc46a.out; omega)
            intro v134a w72a ho hb hg hat
            rw [← Ny133a.out] at ho
            have n0_ := Aside0.mk (Kd.R_after (ok := (fun _ => True)) (by (with_reducible repeat (first | apply Kd.R_alloc | apply Kd.R_drewN | apply Kd.R_drew)); exact Kd.R_mono HO132a.out (fun _ hk => ⟨trivial, hk⟩)) hg hat)
            have n1_ := Aside0.mk (hb)
            have n2_ := Aside0.mk (ho)
            clear HO132a
            clear HB
            clear HO129a
            have HO132a := n0_
            have HB := n1_
            have HO135a := n2_
            clear n0_ n1_ n2_
            clear ho hb hg hat
            refine hK.out _ _ trivial (fun hHeld => ?_)
            clear hK K
            refine norm_ (a' := ?_) ?_ ?_
            rotate_left
            · show Act.put _ (some 85) _ = _
              simp only [Act.put, List.setIfInBounds_toArray, List.set_cons_zero, List.set_cons_succ, i64_w, i32_w]
              rfl
            refine one_ (i := 10) (N := some 89) #[true, true, true, true, true, true, true, true, true, true, true, false] rfl rfl (by kernel_rfl) (by decide) (fun K hK => ?_)
            refine Kd.R_append_rows_step Kd.string (w0 := w6) w6.heap.size (by rfl) (.tmp 85) (.tmp 88) 24 9 (.string ⟨#[]⟩) 16 rfl Tryd.underlying24 info9 rfl (by decide) (by omega) v134a y133a (vs.drop (at_ : Int).toNat) _ _ _ (fun k_ => some k_ ≠ (.slice Ao73a y130a.length co73a : Value).ownBlock) (fun _ => False) rfl rfl ?aO ?aR (fun _ _ h => h) (fun _ h => h.elim) ?aF ?aB ?aS ?aL ?_
            (case aR => first | (rw [← show (vs.drop (at_ : Int).toNat).length = (vs.length - at_.toNat) from List.length_drop]; repeat (first | exact (Kd.C_below HR136a.out HB.out) | (with_reducible refine Kd.C_alloc ?_ _) | (with_reducible refine Kd.C_drewN ?_ _) | (with_reducible refine Kd.C_drew ?_))) | (repeat (first | exact (Kd.C_below HR136a.out HB.out) | (with_reducible refine Kd.C_alloc ?_ _) | (with_reducible refine Kd.C_drewN ?_ _) | (with_reducible refine Kd.C_drew ?_))))
            (case aB => exact (by repeat (first | (with_reducible first | exact HB.out | apply below_alloc | apply pw_below_drewN | apply below_drew1) | exact HB.out)))
            (case aF => exact (fun k_ hk => Kd.fresh' (Kd.R_lt (by (with_reducible repeat (first | apply Kd.R_alloc | apply Kd.R_drewN | apply Kd.R_drew)); exact HO132a.out)) k_ hk))
            (case aO => exact (by (with_reducible repeat (first | apply Kd.R_alloc | apply Kd.R_drewN | apply Kd.R_drew)); exact HO135a.out))
            (case aS => exact (below_size (by repeat (first | (with_reducible first | exact HB.out | apply below_alloc | apply pw_below_drewN | apply below_drew1) | exact HB.out))))
            (case aL => have := LMc49a.out; have hlx_ := (show (vs.drop (at_ : Int).toNat).length = (vs.length - at_.toNat) from List.length_drop); omega)
            intro v138a w74a ho hb hg hat
            rw [← Ny137a.out] at ho
            have n0_ := Aside0.mk (Kd.R_after (ok := (fun _ => True)) (by (with_reducible repeat (first | apply Kd.R_alloc | apply Kd.R_drewN | apply Kd.R_drew)); exact HO132a.out) hg hat)
            have n1_ := Aside0.mk (hb)
            have n2_ := Aside0.mk (ho)
            clear HO132a
            clear HB
            clear HO135a
            have HO132a := n0_
            have HB := n1_
            have HO139a := n2_
            clear n0_ n1_ n2_
            clear ho hb hg hat
            refine hK.out _ _ trivial (fun hHeld => ?_)
            clear hK K
            refine norm_ (a' := ?_) ?_ ?_
            rotate_left
            · show Act.put _ (some 89) _ = _
              simp only [Act.put, List.setIfInBounds_toArray, List.set_cons_zero, List.set_cons_succ, i64_w, i32_w]
              rfl
            refine pure_ (i := 11) (N := some 13) (v := ?_) (a' := ?_) #[true, true, true, true, true, true, true, true, true, true, true, true] rfl rfl (by kernel_rfl) (fun _ _ _ h => h) (Or.inl ⟨by rfl, ?_⟩) ?_ ?_
            rotate_left
            · intro w'
              go_simp
              with_reducible rfl
            rotate_left
            · simp only [Act.put, List.setIfInBounds_toArray, List.set_cons_zero, List.set_cons_succ, i64_w, i32_w]
              rfl
            refine done_ (by kernel_rfl) ?_
            obtain ⟨Ao75a, co75a, eo75a⟩ := Kd.R_slice HO139a.out
            subst eo75a
            clear hcut64a hcut65a
            go_upto_region 21 with (go_at_call 6; (with_reducible refine (etag_List.calls k Ao75a co75a y137a m2 s2 false _ (Kd.R_reads' HO139a.out).2.2 (Kd.R_reads' HO139a.out).2.1 (by rw [EIa.out]; exact E2.out)).mono ?_); rintro e w8 ⟨u2, rfl, hR, hb⟩; obtain ⟨Am2, cm2, rfl, hcm2, hCm2⟩ := Kd.R_reads hR; have HRW := Aside0.mk (Kd.C_below (Kd.C_below HRV.out HB.out) hb); have HBH := Aside0.mk ((HBG.out.trans (HB.out.mono HBG.out.size)).trans (hb.mono (HBG.out.trans (HB.out.mono HBG.out.size)).size)); clear HB hb hR hcm2 hCm2; have HB := Aside0.mk (Below.refl w8.heap.size w8))
            have n0_ := Aside0.mk (below_drew1 HB.out)
            clear HB
            have HB := n0_
            clear n0_
            obtain ⟨i064b, hi064b, _, hsz64b, _⟩ := info_parts info9
            obtain ⟨hcut64b, hA64b, hC64b⟩ := print_take_of (P := Tryd.prog) Value.string (⟨#[]⟩ : ByteArray) 24 9 .i64 Tryd.underlying24 hi064b hsz64b AV cV vs at_ (of_decide_eq_true (by first | (with_reducible assumption) | assumption)) (of_decide_eq_true (by first | (with_reducible assumption) | assumption)) HCV.out
            have HR126b := Aside0.mk (Kd.C_of_reads (h1 := fun _ => rfl) (hA64b _ (Kd.reads_of_C HRW.out)))
            have HC126b := Aside0.mk hC64b
            clear hA64b hC64b hi064b hsz64b
            obtain ⟨i065b, hi065b, _, hsz65b, _⟩ := info_parts info9
            obtain ⟨A65b, hcut65b, hA65b, hC65b⟩ := print_drop_of (P := Tryd.prog) Value.string (⟨#[]⟩ : ByteArray) 24 9 .i64 Tryd.underlying24 hi065b hsz65b AV cV vs at_ (of_decide_eq_true (by first | (with_reducible assumption) | assumption)) (of_decide_eq_true (by first | (with_reducible assumption) | assumption)) HCV.out
            have HR136b := Aside0.mk (Kd.C_of_reads (h1 := fun _ => rfl) (hA65b _ (Kd.reads_of_C HRW.out)))
            have HC136b := Aside0.mk hC65b
            clear hA65b hC65b hi065b hsz65b
            refine start_ (n := 12) (S := fun w' => True) (ds := []) #[false, false, false, false, false, false, false, false, false, false, false, false] (by kernel_rfl) rfl rfl trivial (fun hHeld => ?_)
            generalize w8.drew = w63b at HB HR126b HR136b hHeld ⊢
            refine pure_ (i := 1) (N := some 97) (v := ?_) (a' := ?_) #[false, true, false, false, false, false, false, false, false, false, false, false] rfl rfl (by kernel_rfl) (fun _ _ _ h => h) (Or.inl ⟨by rfl, ?_⟩) ?_ ?_
            rotate_left
            · intro w'
              go_simp
              with_reducible rfl
            rotate_left
            · simp only [Act.put, List.setIfInBounds_toArray, List.set_cons_zero, List.set_cons_succ, i64_w, i32_w]
              rfl
            refine pure_ (i := 2) (N := some 98) (v := ?_) (a' := ?_) #[false, true, true, false, false, false, false, false, false, false, false, false] rfl rfl (by kernel_rfl) (fun _ _ _ h => h) (Or.inl ⟨by rfl, ?_⟩) ?_ ?_
            rotate_left
            · intro w'
              go_simp
              with_reducible rfl
            rotate_left
            · simp only [Act.put, List.setIfInBounds_toArray, List.set_cons_zero, List.set_cons_succ, i64_w, i32_w]
              rfl
            refine pure_ (i := 3) (N := some 99) (v := ?_) (a' := ?_) #[false, true, true, true, false, false, false, false, false, false, false, false] rfl rfl (by kernel_rfl) (fun _ _ _ h => h) (Or.inl ⟨by rfl, ?_⟩) ?_ ?_
            rotate_left
            · intro w'
              go_simp
              with_reducible rfl
            rotate_left
            · simp only [Act.put, List.setIfInBounds_toArray, List.set_cons_zero, List.set_cons_succ, i64_w, i32_w]
              rfl
            refine pure_ (i := 7) (N := some 103) (v := ?_) (a' := ?_) #[false, true, true, true, false, false, false, true, false, false, false, false] rfl rfl (by kernel_rfl) (fun _ _ _ h => h) (Or.inl ⟨by rfl, ?_⟩) ?_ ?_
            rotate_left
            · intro w'
              go_simp
              with_reducible rfl
            rotate_left
            · simp only [Act.put, List.setIfInBounds_toArray, List.set_cons_zero, List.set_cons_succ, i64_w, i32_w]
              rfl
            refine pure_ (i := 8) (N := some 104) (v := ?_) (a' := ?_) #[false, true, true, true, false, false, false, true, true, false, false, false] rfl rfl (by kernel_rfl) (fun _ _ _ h => h) (Or.inl ⟨by rfl, ?_⟩) ?_ ?_
            rotate_left
            · intro w'
              go_simp
              with_reducible rfl
            rotate_left
            · simp only [Act.put, List.setIfInBounds_toArray, List.set_cons_zero, List.set_cons_succ, i64_w, i32_w]
              rfl
            refine pure_ (i := 9) (N := some 105) (v := ?_) (a' := ?_) #[false, true, true, true, false, false, false, true, true, true, false, false] rfl rfl (by kernel_rfl) (fun _ _ _ h => h) (Or.inl ⟨by rfl, ?_⟩) ?_ ?_
            rotate_left
            · intro w'
              go_simp
              with_reducible rfl
            rotate_left
            · simp only [Act.put, List.setIfInBounds_toArray, List.set_cons_zero, List.set_cons_succ, i64_w, i32_w]
              rfl
            refine join_ (σ := Value × Value × Value) 3 #[true, true, true, true, true, true, false, true, true, true, false, false] (fun s_ => [(96, s_.1), (100, s_.2.1), (101, s_.2.2)]) (fun s_ w' => (Kd.R Kd.string 9 w' w8.heap.size (fun k_ => some k_ ≠ (s_.2.2 : Value).ownBlock) s_.2.1 y127b) ∧ (Kd.R Kd.string 9 w' w8.heap.size (fun k_ => some k_ ≠ (s_.2.1 : Value).ownBlock) s_.2.2 y130b) ∧ (Below w8.heap.size w8 w')) ?_ ?_
            rotate_left
            · intro hCont
              refine two_ (i := 0) (j := 5) (Ni := some 96) (Nj := some 101) #[true, true, true, true, false, false, false, true, true, true, false, false] #[false, true, true, true, false, true, false, true, true, true, false, false] rfl rfl rfl rfl (by kernel_rfl) (by decide) (by decide) (fun K hK => ?_) (fun K hK => ?_)
              · skip
                refine Kd.R_lit_step Kd.string _ 9 ?hg (N := 96) ?hd (xs := ([] : List ByteArray)) (inner := []) (ok := fun _ => True) (okp := fun _ => True) ?hr ?hp (fun _ hk => hk) trivial (Below.refl _ _) (Nat.le_refl _) (by simp) ?_; (case hd => rfl); (case hg => rfl); (case hr => first | (go_simp; done) | (go_simp; rfl)); (case hp => exact (Reps.none _ _))
                intro v124b w66b ho67 hb hg_ hnew_
                clear hg_ hnew_
                (first | rw [← Ny123b.out] at ho67 | (simp only [Int.reduceToNat] at ho67; rw [← Ny123b.out] at ho67))
                have n0_ := Aside0.mk (Kd.R_lower ho67 (below_size (by repeat (first | (with_reducible first | exact HB.out | apply below_alloc | apply pw_below_drewN | apply below_drew1) | exact HB.out))))
                have n1_ := Aside0.mk (below_step (by repeat (first | (with_reducible first | exact HB.out | apply below_alloc | apply pw_below_drewN | apply below_drew1) | exact HB.out)) hb)
                clear HB
                have HO125b := n0_
                have HB := n1_
                clear n0_ n1_
                clear hb ho67
                refine hK.out _ _ trivial (fun hHeld => ?_)
                clear hK K
                refine norm_ (a' := ?_) ?_ ?_
                rotate_left
                · show Act.put _ (some 96) _ = _
                  simp only [Act.put, List.setIfInBounds_toArray, List.set_cons_zero, List.set_cons_succ, i64_w, i32_w]
                  rfl
                refine two_ (i := 4) (j := 5) (Ni := some 100) (Nj := some 101) #[true, true, true, true, true, false, false, true, true, true, false, false] #[true, true, true, true, false, true, false, true, true, true, false, false] rfl rfl rfl rfl (by kernel_rfl) (by decide) (by decide) (fun K hK => ?_) (fun K hK => ?_)
                · skip
                  refine Kd.R_append_rows_step Kd.string (w0 := w8) w8.heap.size (by rfl) (.tmp 96) (.tmp 99) 24 9 (.string ⟨#[]⟩) 16 rfl Tryd.underlying24 info9 rfl (by decide) (by omega) v124b y123b (vs.take (at_ : Int).toNat) _ _ _ (fun _ => True) (fun _ => False) rfl rfl ?aO ?aR (fun _ _ h => h) (fun _ h => h.elim) ?aF ?aB ?aS ?aL ?_
                  (case aR => first | (rw [← show (vs.take (at_ : Int).toNat).length = min at_.toNat vs.length from List.length_take]; exact (Kd.C_below HR126b.out HB.out)) | (rw [← show (vs.take (at_ : Int).toNat).length = at_.toNat from (by rw [List.length_take]; have h_ : (at_ : Int) ≤ (vs.length : Int) := of_decide_eq_true (by first | (with_reducible assumption) | assumption); omega)]; repeat (first | exact (Kd.C_below HR126b.out HB.out) | (with_reducible refine Kd.C_alloc ?_ _) | (with_reducible refine Kd.C_drewN ?_ _) | (with_reducible refine Kd.C_drew ?_))) | (repeat (first | exact (Kd.C_below HR126b.out HB.out) | (with_reducible refine Kd.C_alloc ?_ _) | (with_reducible refine Kd.C_drewN ?_ _) | (with_reducible refine Kd.C_drew ?_))))
                  (case aB => exact (by repeat (first | (with_reducible first | exact HB.out | apply below_alloc | apply pw_below_drewN | apply below_drew1) | exact HB.out)))
                  (case aF => exact (fun _ _ => trivial))
                  (case aO => exact (by (with_reducible repeat (first | apply Kd.R_alloc | apply Kd.R_drewN | apply Kd.R_drew)); exact HO125b.out))
                  (case aS => exact (below_size (by repeat (first | (with_reducible first | exact HB.out | apply below_alloc | apply pw_below_drewN | apply below_drew1) | exact HB.out))))
                  (case aL => have := LMc42b.out; have hlx_ := (show (vs.take (at_ : Int).toNat).length = at_.toNat from (by rw [List.length_take]; have h_ : (at_ : Int) ≤ (vs.length : Int) := of_decide_eq_true (by first | (with_reducible assumption) | assumption); omega)); omega)
                  intro v128b w68b ho hb hg hat
                  rw [← Ny127b.out] at ho
                  have n0_ := Aside0.mk (hb)
                  have n1_ := Aside0.mk (ho)
                  clear HB
                  clear HO125b
                  have HB := n0_
                  have HO129b := n1_
                  clear n0_ n1_
                  clear ho hb hg hat
                  refine hK.out _ _ trivial (fun hHeld => ?_)
                  clear hK K
                  refine norm_ (a' := ?_) ?_ ?_
                  rotate_left
                  · show Act.put _ (some 100) _ = _
                    simp only [Act.put, List.setIfInBounds_toArray, List.set_cons_zero, List.set_cons_succ, i64_w, i32_w]
                    rfl
                  refine one_ (i := 5) (N := some 101) #[true, true, true, true, true, true, false, true, true, true, false, false] rfl rfl (by kernel_rfl) (by decide) (fun K hK => ?_)
                  refine Kd.R_lit_step Kd.string _ 9 ?hg (N := 101) ?hd (xs := ([(⟨#[42]⟩ : ByteArray)] : List ByteArray)) (inner := [.string ((⟨#[42]⟩ : ByteArray))]) (ok := fun _ => True) (okp := fun _ => True) ?hr ?hp (fun _ hk => hk) trivial (Below.refl _ _) (Nat.le_refl _) (by simp) ?_; (case hd => rfl); (case hg => rfl); (case hr => first | (go_simp; done) | (go_simp; rfl)); (case hp => exact (Reps.one (show Kd.M Kd.string _ _ _ ((⟨#[42]⟩ : ByteArray)) [.string ((⟨#[42]⟩ : ByteArray))] from rfl) (Reps.none _ _)))
                  intro v131b w69b ho70 hb hg_ hnew_
                  clear hg_ hnew_
                  (first | rw [← Ny130b.out] at ho70 | (simp only [Int.reduceToNat] at ho70; rw [← Ny130b.out] at ho70))
                  have n0_ := Aside0.mk (Kd.R_elder' (by (with_reducible repeat (first | apply Kd.R_alloc | apply Kd.R_drewN | apply Kd.R_drew)); exact HO129b.out) (Kd.R_base ho70) hb)
                  have n1_ := Aside0.mk (Kd.R_lower (Kd.R_new' ho70 (Kd.R_lt (by (with_reducible repeat (first | apply Kd.R_alloc | apply Kd.R_drewN | apply Kd.R_drew)); exact HO129b.out))) (below_size (by repeat (first | (with_reducible first | exact HB.out | apply below_alloc | apply pw_below_drewN | apply below_drew1) | exact HB.out))))
                  have n2_ := Aside0.mk (below_step (by repeat (first | (with_reducible first | exact HB.out | apply below_alloc | apply pw_below_drewN | apply below_drew1) | exact HB.out)) hb)
                  clear HO129b
                  clear HB
                  have HO129b := n0_
                  have HO132b := n1_
                  have HB := n2_
                  clear n0_ n1_ n2_
                  clear hb ho70
                  refine hK.out _ _ trivial (fun hHeld => ?_)
                  clear hK K
                  refine norm_ (a' := ?_) ?_ ?_
                  rotate_left
                  · show Act.put _ (some 101) _ = _
                    simp only [Act.put, List.setIfInBounds_toArray, List.set_cons_zero, List.set_cons_succ, i64_w, i32_w]
                    rfl
                  exact norm_ (by simp only [putAll, Act.put, List.setIfInBounds_toArray, List.set_cons_zero, List.set_cons_succ]) (hCont (v124b, v128b, v131b) _ ⟨(by (with_reducible repeat (first | apply Kd.R_alloc | apply Kd.R_drewN | apply Kd.R_drew)); exact Kd.R_mono HO129b.out (fun _ hk => hk.2)), (by (with_reducible repeat (first | apply Kd.R_alloc | apply Kd.R_drewN | apply Kd.R_drew)); exact Kd.R_mono HO132b.out (fun _ hk => hk.2)), (by repeat (first | (with_reducible first | exact HB.out | apply below_alloc | apply pw_below_drewN | apply below_drew1) | exact HB.out))⟩)
                · skip
                  refine Kd.R_lit_step Kd.string _ 9 ?hg (N := 101) ?hd (xs := ([(⟨#[42]⟩ : ByteArray)] : List ByteArray)) (inner := [.string ((⟨#[42]⟩ : ByteArray))]) (ok := fun _ => True) (okp := fun _ => True) ?hr ?hp (fun _ hk => hk) trivial (Below.refl _ _) (Nat.le_refl _) (by simp) ?_; (case hd => rfl); (case hg => rfl); (case hr => first | (go_simp; done) | (go_simp; rfl)); (case hp => exact (Reps.one (show Kd.M Kd.string _ _ _ ((⟨#[42]⟩ : ByteArray)) [.string ((⟨#[42]⟩ : ByteArray))] from rfl) (Reps.none _ _)))
                  intro v131b w68b ho69 hb hg_ hnew_
                  clear hg_ hnew_
                  (first | rw [← Ny130b.out] at ho69 | (simp only [Int.reduceToNat] at ho69; rw [← Ny130b.out] at ho69))
                  have n0_ := Aside0.mk (Kd.R_elder' (by (with_reducible repeat (first | apply Kd.R_alloc | apply Kd.R_drewN | apply Kd.R_drew)); exact HO125b.out) (Kd.R_base ho69) hb)
                  have n1_ := Aside0.mk (Kd.R_lower (Kd.R_new' ho69 (Kd.R_lt (by (with_reducible repeat (first | apply Kd.R_alloc | apply Kd.R_drewN | apply Kd.R_drew)); exact HO125b.out))) (below_size (by repeat (first | (with_reducible first | exact HB.out | apply below_alloc | apply pw_below_drewN | apply below_drew1) | exact HB.out))))
                  have n2_ := Aside0.mk (below_step (by repeat (first | (with_reducible first | exact HB.out | apply below_alloc | apply pw_below_drewN | apply below_drew1) | exact HB.out)) hb)
                  clear HO125b
                  clear HB
                  have HO125b := n0_
                  have HO132b := n1_
                  have HB := n2_
                  clear n0_ n1_ n2_
                  clear hb ho69
                  refine hK.out _ _ trivial (fun hHeld => ?_)
                  clear hK K
                  refine norm_ (a' := ?_) ?_ ?_
                  rotate_left
                  · show Act.put _ (some 101) _ = _
                    simp only [Act.put, List.setIfInBounds_toArray, List.set_cons_zero, List.set_cons_succ, i64_w, i32_w]
                    rfl
                  refine one_ (i := 4) (N := some 100) #[true, true, true, true, true, true, false, true, true, true, false, false] rfl rfl (by kernel_rfl) (by decide) (fun K hK => ?_)
                  refine Kd.R_append_rows_step Kd.string (w0 := w8) w8.heap.size (by rfl) (.tmp 96) (.tmp 99) 24 9 (.string ⟨#[]⟩) 16 rfl Tryd.underlying24 info9 rfl (by decide) (by omega) v124b y123b (vs.take (at_ : Int).toNat) _ _ _ (fun k_ => some k_ ≠ (v131b : Value).ownBlock) (fun _ => False) rfl rfl ?aO ?aR (fun _ _ h => h) (fun _ h => h.elim) ?aF ?aB ?aS ?aL ?_
                  (case aR => first | (rw [← show (vs.take (at_ : Int).toNat).length = min at_.toNat vs.length from List.length_take]; exact (Kd.C_below HR126b.out HB.out)) | (rw [← show (vs.take (at_ : Int).toNat).length = at_.toNat from (by rw [List.length_take]; have h_ : (at_ : Int) ≤ (vs.length : Int) := of_decide_eq_true (by first | (with_reducible assumption) | assumption); omega)]; repeat (first | exact (Kd.C_below HR126b.out HB.out) | (with_reducible refine Kd.C_alloc ?_ _) | (with_reducible refine Kd.C_drewN ?_ _) | (with_reducible refine Kd.C_drew ?_))) | (repeat (first | exact (Kd.C_below HR126b.out HB.out) | (with_reducible refine Kd.C_alloc ?_ _) | (with_reducible refine Kd.C_drewN ?_ _) | (with_reducible refine Kd.C_drew ?_))))
                  (case aB => exact (by repeat (first | (with_reducible first | exact HB.out | apply below_alloc | apply pw_below_drewN | apply below_drew1) | exact HB.out)))
                  (case aF => exact (fun k_ hk => Kd.fresh' (Kd.R_lt (by (with_reducible repeat (first | apply Kd.R_alloc | apply Kd.R_drewN | apply Kd.R_drew)); exact HO132b.out)) k_ hk))
                  (case aO => exact (by (with_reducible repeat (first | apply Kd.R_alloc | apply Kd.R_drewN | apply Kd.R_drew)); exact Kd.R_mono HO125b.out (fun _ hk => hk.2)))
                  (case aS => exact (below_size (by repeat (first | (with_reducible first | exact HB.out | apply below_alloc | apply pw_below_drewN | apply below_drew1) | exact HB.out))))
                  (case aL => have := LMc42b.out; have hlx_ := (show (vs.take (at_ : Int).toNat).length = at_.toNat from (by rw [List.length_take]; have h_ : (at_ : Int) ≤ (vs.length : Int) := of_decide_eq_true (by first | (with_reducible assumption) | assumption); omega)); omega)
                  intro v128b w70b ho hb hg hat
                  rw [← Ny127b.out] at ho
                  have n0_ := Aside0.mk (Kd.R_after (ok := (fun _ => True)) (by (with_reducible repeat (first | apply Kd.R_alloc | apply Kd.R_drewN | apply Kd.R_drew)); exact HO132b.out) hg hat)
                  have n1_ := Aside0.mk (hb)
                  have n2_ := Aside0.mk (ho)
                  clear HO132b
                  clear HB
                  clear HO125b
                  have HO132b := n0_
                  have HB := n1_
                  have HO129b := n2_
                  clear n0_ n1_ n2_
                  clear ho hb hg hat
                  refine hK.out _ _ trivial (fun hHeld => ?_)
                  clear hK K
                  refine norm_ (a' := ?_) ?_ ?_
                  rotate_left
                  · show Act.put _ (some 100) _ = _
                    simp only [Act.put, List.setIfInBounds_toArray, List.set_cons_zero, List.set_cons_succ, i64_w, i32_w]
                    rfl
                  exact norm_ (by simp only [putAll, Act.put, List.setIfInBounds_toArray, List.set_cons_zero, List.set_cons_succ]) (hCont (v124b, v128b, v131b) _ ⟨(by (with_reducible repeat (first | apply Kd.R_alloc | apply Kd.R_drewN | apply Kd.R_drew)); exact HO129b.out), (by (with_reducible repeat (first | apply Kd.R_alloc | apply Kd.R_drewN | apply Kd.R_drew)); exact Kd.R_mono HO132b.out (fun _ hk => hk.2)), (by repeat (first | (with_reducible first | exact HB.out | apply below_alloc | apply pw_below_drewN | apply below_drew1) | exact HB.out))⟩)
              · skip
                refine Kd.R_lit_step Kd.string _ 9 ?hg (N := 101) ?hd (xs := ([(⟨#[42]⟩ : ByteArray)] : List ByteArray)) (inner := [.string ((⟨#[42]⟩ : ByteArray))]) (ok := fun _ => True) (okp := fun _ => True) ?hr ?hp (fun _ hk => hk) trivial (Below.refl _ _) (Nat.le_refl _) (by simp) ?_; (case hd => rfl); (case hg => rfl); (case hr => first | (go_simp; done) | (go_simp; rfl)); (case hp => exact (Reps.one (show Kd.M Kd.string _ _ _ ((⟨#[42]⟩ : ByteArray)) [.string ((⟨#[42]⟩ : ByteArray))] from rfl) (Reps.none _ _)))
                intro v131b w66b ho67 hb hg_ hnew_
                clear hg_ hnew_
                (first | rw [← Ny130b.out] at ho67 | (simp only [Int.reduceToNat] at ho67; rw [← Ny130b.out] at ho67))
                have n0_ := Aside0.mk (Kd.R_lower ho67 (below_size (by repeat (first | (with_reducible first | exact HB.out | apply below_alloc | apply pw_below_drewN | apply below_drew1) | exact HB.out))))
                have n1_ := Aside0.mk (below_step (by repeat (first | (with_reducible first | exact HB.out | apply below_alloc | apply pw_below_drewN | apply below_drew1) | exact HB.out)) hb)
                clear HB
                have HO132b := n0_
                have HB := n1_
                clear n0_ n1_
                clear hb ho67
                refine hK.out _ _ trivial (fun hHeld => ?_)
                clear hK K
                refine norm_ (a' := ?_) ?_ ?_
                rotate_left
                · show Act.put _ (some 101) _ = _
                  simp only [Act.put, List.setIfInBounds_toArray, List.set_cons_zero, List.set_cons_succ, i64_w, i32_w]
                  rfl
                refine one_ (i := 0) (N := some 96) #[true, true, true, true, false, true, false, true, true, true, false, false] rfl rfl (by kernel_rfl) (by decide) (fun K hK => ?_)
                refine Kd.R_lit_step Kd.string _ 9 ?hg (N := 96) ?hd (xs := ([] : List ByteArray)) (inner := []) (ok := fun _ => True) (okp := fun _ => True) ?hr ?hp (fun _ hk => hk) trivial (Below.refl _ _) (Nat.le_refl _) (by simp) ?_; (case hd => rfl); (case hg => rfl); (case hr => first | (go_simp; done) | (go_simp; rfl)); (case hp => exact (Reps.none _ _))
                intro v124b w68b ho69 hb hg_ hnew_
                clear hg_ hnew_
                (first | rw [← Ny123b.out] at ho69 | (simp only [Int.reduceToNat] at ho69; rw [← Ny123b.out] at ho69))
                have n0_ := Aside0.mk (Kd.R_elder' (by (with_reducible repeat (first | apply Kd.R_alloc | apply Kd.R_drewN | apply Kd.R_drew)); exact HO132b.out) (Kd.R_base ho69) hb)
                have n1_ := Aside0.mk (Kd.R_lower (Kd.R_new' ho69 (Kd.R_lt (by (with_reducible repeat (first | apply Kd.R_alloc | apply Kd.R_drewN | apply Kd.R_drew)); exact HO132b.out))) (below_size (by repeat (first | (with_reducible first | exact HB.out | apply below_alloc | apply pw_below_drewN | apply below_drew1) | exact HB.out))))
                have n2_ := Aside0.mk (below_step (by repeat (first | (with_reducible first | exact HB.out | apply below_alloc | apply pw_below_drewN | apply below_drew1) | exact HB.out)) hb)
                clear HO132b
                clear HB
                have HO132b := n0_
                have HO125b := n1_
                have HB := n2_
                clear n0_ n1_ n2_
                clear hb ho69
                refine hK.out _ _ trivial (fun hHeld => ?_)
                clear hK K
                refine norm_ (a' := ?_) ?_ ?_
                rotate_left
                · show Act.put _ (some 96) _ = _
                  simp only [Act.put, List.setIfInBounds_toArray, List.set_cons_zero, List.set_cons_succ, i64_w, i32_w]
                  rfl
                refine one_ (i := 4) (N := some 100) #[true, true, true, true, true, true, false, true, true, true, false, false] rfl rfl (by kernel_rfl) (by decide) (fun K hK => ?_)
                refine Kd.R_append_rows_step Kd.string (w0 := w8) w8.heap.size (by rfl) (.tmp 96) (.tmp 99) 24 9 (.string ⟨#[]⟩) 16 rfl Tryd.underlying24 info9 rfl (by decide) (by omega) v124b y123b (vs.take (at_ : Int).toNat) _ _ _ (fun k_ => some k_ ≠ (v131b : Value).ownBlock) (fun _ => False) rfl rfl ?aO ?aR (fun _ _ h => h) (fun _ h => h.elim) ?aF ?aB ?aS ?aL ?_
                (case aR => first | (rw [← show (vs.take (at_ : Int).toNat).length = min at_.toNat vs.length from List.length_take]; exact (Kd.C_below HR126b.out HB.out)) | (rw [← show (vs.take (at_ : Int).toNat).length = at_.toNat from (by rw [List.length_take]; have h_ : (at_ : Int) ≤ (vs.length : Int) := of_decide_eq_true (by first | (with_reducible assumption) | assumption); omega)]; repeat (first | exact (Kd.C_below HR126b.out HB.out) | (with_reducible refine Kd.C_alloc ?_ _) | (with_reducible refine Kd.C_drewN ?_ _) | (with_reducible refine Kd.C_drew ?_))) | (repeat (first | exact (Kd.C_below HR126b.out HB.out) | (with_reducible refine Kd.C_alloc ?_ _) | (with_reducible refine Kd.C_drewN ?_ _) | (with_reducible refine Kd.C_drew ?_))))
                (case aB => exact (by repeat (first | (with_reducible first | exact HB.out | apply below_alloc | apply pw_below_drewN | apply below_drew1) | exact HB.out)))
                (case aF => exact (fun k_ hk => Kd.fresh' (Kd.R_lt (by (with_reducible repeat (first | apply Kd.R_alloc | apply Kd.R_drewN | apply Kd.R_drew)); exact HO132b.out)) k_ hk))
                (case aO => exact (by (with_reducible repeat (first | apply Kd.R_alloc | apply Kd.R_drewN | apply Kd.R_drew)); exact Kd.R_mono HO125b.out (fun _ hk => hk.2)))
                (case aS => exact (below_size (by repeat (first | (with_reducible first | exact HB.out | apply below_alloc | apply pw_below_drewN | apply below_drew1) | exact HB.out))))
                (case aL => have := LMc42b.out; have hlx_ := (show (vs.take (at_ : Int).toNat).length = at_.toNat from (by rw [List.length_take]; have h_ : (at_ : Int) ≤ (vs.length : Int) := of_decide_eq_true (by first | (with_reducible assumption) | assumption); omega)); omega)
                intro v128b w70b ho hb hg hat
                rw [← Ny127b.out] at ho
                have n0_ := Aside0.mk (Kd.R_after (ok := (fun _ => True)) (by (with_reducible repeat (first | apply Kd.R_alloc | apply Kd.R_drewN | apply Kd.R_drew)); exact HO132b.out) hg hat)
                have n1_ := Aside0.mk (hb)
                have n2_ := Aside0.mk (ho)
                clear HO132b
                clear HB
                clear HO125b
                have HO132b := n0_
                have HB := n1_
                have HO129b := n2_
                clear n0_ n1_ n2_
                clear ho hb hg hat
                refine hK.out _ _ trivial (fun hHeld => ?_)
                clear hK K
                refine norm_ (a' := ?_) ?_ ?_
                rotate_left
                · show Act.put _ (some 100) _ = _
                  simp only [Act.put, List.setIfInBounds_toArray, List.set_cons_zero, List.set_cons_succ, i64_w, i32_w]
                  rfl
                exact norm_ (by simp only [putAll, Act.put, List.setIfInBounds_toArray, List.set_cons_zero, List.set_cons_succ]) (hCont (v124b, v128b, v131b) _ ⟨(by (with_reducible repeat (first | apply Kd.R_alloc | apply Kd.R_drewN | apply Kd.R_drew)); exact HO129b.out), (by (with_reducible repeat (first | apply Kd.R_alloc | apply Kd.R_drewN | apply Kd.R_drew)); exact Kd.R_mono HO132b.out (fun _ hk => hk.2)), (by repeat (first | (with_reducible first | exact HB.out | apply below_alloc | apply pw_below_drewN | apply below_drew1) | exact HB.out))⟩)
            rintro ⟨v124b, v128b, v131b⟩ w71b ⟨h0_, h1_, h2_⟩
            have n0_ : Aside0 (Kd.R Kd.string 9 w71b w8.heap.size (fun k_ => some k_ ≠ (v131b : Value).ownBlock) v128b y127b) := ⟨h0_⟩
            have n1_ : Aside0 (Kd.R Kd.string 9 w71b w8.heap.size (fun k_ => some k_ ≠ (v128b : Value).ownBlock) v131b y130b) := ⟨h1_⟩
            have n2_ : Aside0 (Below w8.heap.size w8 w71b) := ⟨h2_⟩
            clear HB
            clear h0_ h1_ h2_
            have HO129b := n0_
            have HO132b := n1_
            have HB := n2_
            clear n0_ n1_ n2_
            have hHeld := trivial
            obtain ⟨Ao73b, co73b, eo73b⟩ := Kd.R_slice HO132b.out
            (first | subst eo73b | (injection eo73b with f1_ f2_ f3_; have f4_ := f1_.symm; have f5_ := f3_.symm; clear f1_ f2_ f3_; subst f4_; subst f5_))
            refine norm_ (a' := ?_) ?_ ?_
            rotate_left
            · simp only [putAll, Act.put, List.setIfInBounds_toArray, List.set_cons_zero, List.set_cons_succ]
              rfl
            refine one_ (i := 6) (N := some 102) #[true, true, true, true, true, true, true, true, true, true, false, false] rfl rfl (by kernel_rfl) (by decide) (fun K hK => ?_)
            refine Kd.R_append_rows_step Kd.string (w0 := w8) w8.heap.size (by rfl) (.tmp 100) (.tmp 101) 24 9 (.string ⟨#[]⟩) 16 rfl Tryd.underlying24 info9 rfl (by decide) (by omega) v128b y127b y130b _ _ _ (fun k_ => some k_ ≠ (.slice Ao73b y130b.length co73b : Value).ownBlock) (fun _ => False) rfl rfl ?aO ?aR (fun _ _ h => h) (fun _ h => h.elim) ?aF ?aB ?aS ?aL ?_
            (case aR => repeat (first | exact (Kd.R_reads' HO132b.out).2.2 | (with_reducible refine Kd.C_alloc ?_ _) | (with_reducible refine Kd.C_drewN ?_ _) | (with_reducible refine Kd.C_drew ?_)))
            (case aB => exact (by repeat (first | (with_reducible first | exact HB.out | apply below_alloc | apply pw_below_drewN | apply below_drew1) | exact HB.out)))
            (case aF => exact (fun k_ hk => Kd.fresh' (Kd.R_lt (by (with_reducible repeat (first | apply Kd.R_alloc | apply Kd.R_drewN | apply Kd.R_drew)); exact HO132b.out)) k_ hk))
            (case aO => exact (by (with_reducible repeat (first | apply Kd.R_alloc | apply Kd.R_drewN | apply Kd.R_drew)); exact HO129b.out))
            (case aS => exact (below_size (by repeat (first | (with_reducible first | exact HB.out | apply below_alloc | apply pw_below_drewN | apply below_drew1) | exact HB.out))))
            (case aL => have := LMc46b.out; omega)
            intro v134b w72b ho hb hg hat
            rw [← Ny133b.out] at ho
            have n0_ := Aside0.mk (Kd.R_after (ok := (fun _ => True)) (by (with_reducible repeat (first | apply Kd.R_alloc | apply Kd.R_drewN | apply Kd.R_drew)); exact Kd.R_mono HO132b.out (fun _ hk => ⟨trivial, hk⟩)) hg hat)
            have n1_ := Aside0.mk (hb)
            have n2_ := Aside0.mk (ho)
            clear HO132b
            clear HB
            clear HO129b
            have HO132b := n0_
            have HB := n1_
            have HO135b := n2_
            clear n0_ n1_ n2_
            clear ho hb hg hat
            refine hK.out _ _ trivial (fun hHeld => ?_)
            clear hK K
            refine norm_ (a' := ?_) ?_ ?_
            rotate_left
            · show Act.put _ (some 102) _ = _
              simp only [Act.put, List.setIfInBounds_toArray, List.set_cons_zero, List.set_cons_succ, i64_w, i32_w]
              rfl
            refine one_ (i := 10) (N := some 106) #[true, true, true, true, true, true, true, true, true, true, true, false] rfl rfl (by kernel_rfl) (by decide) (fun K hK => ?_)
            refine Kd.R_append_rows_step Kd.string (w0 := w8) w8.heap.size (by rfl) (.tmp 102) (.tmp 105) 24 9 (.string ⟨#[]⟩) 16 rfl Tryd.underlying24 info9 rfl (by decide) (by omega) v134b y133b (vs.drop (at_ : Int).toNat) _ _ _ (fun k_ => some k_ ≠ (.slice Ao73b y130b.length co73b : Value).ownBlock) (fun _ => False) rfl rfl ?aO ?aR (fun _ _ h => h) (fun _ h => h.elim) ?aF ?aB ?aS ?aL ?_
            (case aR => first | (rw [← show (vs.drop (at_ : Int).toNat).length = (vs.length - at_.toNat) from List.length_drop]; repeat (first | exact (Kd.C_below HR136b.out HB.out) | (with_reducible refine Kd.C_alloc ?_ _) | (with_reducible refine Kd.C_drewN ?_ _) | (with_reducible refine Kd.C_drew ?_))) | (repeat (first | exact (Kd.C_below HR136b.out HB.out) | (with_reducible refine Kd.C_alloc ?_ _) | (with_reducible refine Kd.C_drewN ?_ _) | (with_reducible refine Kd.C_drew ?_))))
            (case aB => exact (by repeat (first | (with_reducible first | exact HB.out | apply below_alloc | apply pw_below_drewN | apply below_drew1) | exact HB.out)))
            (case aF => exact (fun k_ hk => Kd.fresh' (Kd.R_lt (by (with_reducible repeat (first | apply Kd.R_alloc | apply Kd.R_drewN | apply Kd.R_drew)); exact HO132b.out)) k_ hk))
            (case aO => exact (by (with_reducible repeat (first | apply Kd.R_alloc | apply Kd.R_drewN | apply Kd.R_drew)); exact HO135b.out))
            (case aS => exact (below_size (by repeat (first | (with_reducible first | exact HB.out | apply below_alloc | apply pw_below_drewN | apply below_drew1) | exact HB.out))))
            (case aL => have := LMc49b.out; have hlx_ := (show (vs.drop (at_ : Int).toNat).length = (vs.length - at_.toNat) from List.length_drop); omega)
            intro v138b w74b ho hb hg hat
            rw [← Ny137b.out] at ho
            have n0_ := Aside0.mk (Kd.R_after (ok := (fun _ => True)) (by (with_reducible repeat (first | apply Kd.R_alloc | apply Kd.R_drewN | apply Kd.R_drew)); exact HO132b.out) hg hat)
            have n1_ := Aside0.mk (hb)
            have n2_ := Aside0.mk (ho)
            clear HO132b
            clear HB
            clear HO135b
            have HO132b := n0_
            have HB := n1_
            have HO139b := n2_
            clear n0_ n1_ n2_
            clear ho hb hg hat
            refine hK.out _ _ trivial (fun hHeld => ?_)
            clear hK K
            refine norm_ (a' := ?_) ?_ ?_
            rotate_left
            · show Act.put _ (some 106) _ = _
              simp only [Act.put, List.setIfInBounds_toArray, List.set_cons_zero, List.set_cons_succ, i64_w, i32_w]
              rfl
            refine pure_ (i := 11) (N := some 17) (v := ?_) (a' := ?_) #[true, true, true, true, true, true, true, true, true, true, true, true] rfl rfl (by kernel_rfl) (fun _ _ _ h => h) (Or.inl ⟨by rfl, ?_⟩) ?_ ?_
            rotate_left
            · intro w'
              go_simp
              with_reducible rfl
            rotate_left
            · simp only [Act.put, List.setIfInBounds_toArray, List.set_cons_zero, List.set_cons_succ, i64_w, i32_w]
              rfl
            refine done_ (by kernel_rfl) ?_
            obtain ⟨Ao75b, co75b, eo75b⟩ := Kd.R_slice HO139b.out
            subst eo75b
            have p0 : ((m1.length : Int) == (vs.length : Int)) = true := by rw [G3.out]; exact beq_self_eq_true _
            have p1 : decide ((m1.length : Int) = (vs.length : Int)) = true := decide_eq_true (by rw [G3.out])
            have p2 : decide (m1.length = vs.length) = true := decide_eq_true G3.out
            by_cases h00 : vs.length = 0
            · have D1 : decide (0 < vs.length) = false := decide_eq_false (by omega)
              have D2 : decide (vs.length = 0) = true := decide_eq_true h00
              have D3 : decide ((vs.length : Int) > 0) = false := decide_eq_false (by omega)
              have D4 : ((vs.length : Int) == 0) = true := by rw [h00]; rfl
              have D5 : decide ((vs.length : Int) = 0) = true := decide_eq_true (by omega)
              clear h00
              go_wp2_with (first | (go_at_call 6; (with_reducible refine (etag_List.calls k Ao75b co75b y137b m3 (decide (vs.length = 0)) (decide (vs.length = 0)) _ (Kd.R_reads' HO139b.out).2.2 (Kd.R_reads' HO139b.out).2.1 (by rw [EIb.out]; exact E3.out)).mono ?_); rintro e w10 ⟨u3, rfl, hR, hb⟩; obtain ⟨Am3, cm3, rfl, hcm3, hCm3⟩ := Kd.R_reads hR; clear hcm3 hCm3 hR; have n0_ := Aside0.mk (HB.out.trans (hb.mono HB.out.size)); clear HB hb; have HB := n0_; clear n0_; (first | rw [D1] | skip); (first | rw [D2] | skip)) | (go_at_call 4; (with_reducible refine (sprlaw16_first.calls kf true _ HFI.out).mono ?_); rintro e w9 ⟨rfl, hb⟩; have n0_ := Aside0.mk (HB.out.trans (hb.mono HB.out.size)); clear HB hb; have HB := n0_; clear n0_))
              go_ret
              exact ⟨rfl, HBH.out.trans (HB.out.mono HBH.out.size)⟩
            · have D1 : decide (0 < vs.length) = true := decide_eq_true (by omega)
              have D2 : decide (vs.length = 0) = false := decide_eq_false h00
              have D3 : decide ((vs.length : Int) > 0) = true := decide_eq_true (by omega)
              have D4 : ((vs.length : Int) == 0) = false := by rw [beq_eq_false_iff_ne]; omega
              have D5 : decide ((vs.length : Int) = 0) = false := decide_eq_false (by omega)
              clear h00
              go_wp2_with (first | (go_at_call 6; (with_reducible refine (etag_List.calls k Ao75b co75b y137b m3 (decide (vs.length = 0)) (decide (vs.length = 0)) _ (Kd.R_reads' HO139b.out).2.2 (Kd.R_reads' HO139b.out).2.1 (by rw [EIb.out]; exact E3.out)).mono ?_); rintro e w10 ⟨u3, rfl, hR, hb⟩; obtain ⟨Am3, cm3, rfl, hcm3, hCm3⟩ := Kd.R_reads hR; clear hcm3 hCm3 hR; have n0_ := Aside0.mk (HB.out.trans (hb.mono HB.out.size)); clear HB hb; have HB := n0_; clear n0_; (first | rw [D1] | skip); (first | rw [D2] | skip)) | (go_at_call 4; (with_reducible refine (sprlaw16_first.calls kf true _ HFI.out).mono ?_); rintro e w9 ⟨rfl, hb⟩; have n0_ := Aside0.mk (HB.out.trans (hb.mono HB.out.size)); clear HB hb; have HB := n0_; clear n0_))
              go_ret
              exact ⟨rfl, HBH.out.trans (HB.out.mono HBH.out.size)⟩
def sprlaw16_EtagLists.f (k : Nat) (l0 : List S28) (a1 : Int) : Option (Bool) := (EL.col k 20 l0 []).bind fun res => EL.fin k a1 res
theorem sprlaw16_EtagLists.calls (k : Nat) (A0 : Option Addr) (c0 : Nat) (l0 : List S28) (a1 : Int) (r : Bool) (w : World) (hr0 : Kd.C k28 w A0 l0.length l0) (hc0 : l0.length ≤ c0) (h : sprlaw16_EtagLists.f k l0 a1 = some r) (hT : Aside0 (r = true)) :
    Calls Tryd.prog 3 #[.slice A0 l0.length c0, .int .i64 a1] w fun e w' => e = .returned (.bool r) ∧ Below w.heap.size w w' := by
  obtain rfl : r = true := hT.out
  unfold sprlaw16_EtagLists.f at h
  obtain ⟨res, h1, h2⟩ := Option.bind_eq_some_iff.1 h
  exact lists_own k 60 A0 c0 l0 a1 res w hr0 hc0 hr0.2.1 (by kernel_rfl) h1 h2


end Go.Proofs.YtkocfhjkhcmakaaDoor.Q
