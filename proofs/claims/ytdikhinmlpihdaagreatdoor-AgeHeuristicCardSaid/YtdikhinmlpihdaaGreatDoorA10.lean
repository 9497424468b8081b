-- Written by a program of this session's (wip/xprint.py), out of the seat's translation.
import Derived.Test.YtdikhinmlpihdaaGreatDoorA0
import Derived.Test.YtdikhinmlpihdaaGreatDoorA1
import Derived.Test.YtdikhinmlpihdaaGreatDoorA8
import Derived.Test.YtdikhinmlpihdaaGreatDoorA9
namespace Go.Proofs.YtdikhinmlpihdaaGreatDoor.A
open Go.RowKit Go.Proofs.YtdikhinmlpihdaaGreatDoorW.PrintWords Go.Proofs.YtdikhinmlpihdaaGreatDoorW.PrintLast Go.Proofs.YtdikhinmlpihdaaGreatDoorW.PrintMore
open Go.Proofs.YtdikhinmlpihdaaGreatDoor.Own (Y Z sA sB sC)
attribute [local go_sem] max2_int min2_int max_two min_two max_three min_three max_four min_four   -- for this text's walks alone
set_option linter.unusedVariables false
set_option linter.unusedSimpArgs false
/-! ### cc_Parse: function 45 -/
def cc_flagAt (B : Nat) (nm : ByteArray) : Option Addr := if Own.kindOf nm < 10 then some ⟨B, Own.kindOf nm, none⟩ else none
theorem cc_flagAt_lt (B : Nat) (nm : ByteArray) {n : Nat} (h : Own.kindOf nm = n) (hn : n < 10) : cc_flagAt B nm = some ⟨B, n, none⟩ := by subst h; unfold cc_flagAt; rw [if_pos hn]
theorem cc_flagAt_ge (B : Nat) (nm : ByteArray) (hn : ¬ Own.kindOf nm < 10) : cc_flagAt B nm = none := by unfold cc_flagAt; rw [if_neg hn]
set_option maxHeartbeats 1000000 in
set_option maxRecDepth 100000 in
theorem cc_flag.own (B : Nat) (nm : ByteArray) (w : World) :
  Calls Tryz.prog 94 #[.pointer (some ⟨B, 0, none⟩), .string nm] w fun e w' => e = .returned (.pointer (cc_flagAt B nm)) ∧ w' = w := by
 go_enter Tryz.func94, Tryz.ntmps94;go_wp2
 all_goals (go_ret; refine ⟨?_, rfl⟩; first
  | (have q := cc_flagAt_lt B nm (n:=0) (by unfold Own.kindOf; simp only [*, if_true, if_false, Bool.false_eq_true]) (by decide); rw [q]; rfl)
  | (have q := cc_flagAt_lt B nm (n:=1) (by unfold Own.kindOf; simp only [*, if_true, if_false, Bool.false_eq_true]) (by decide); rw [q]; rfl)
  | (have q := cc_flagAt_lt B nm (n:=2) (by unfold Own.kindOf; simp only [*, if_true, if_false, Bool.false_eq_true]) (by decide); rw [q]; rfl)
  | (have q := cc_flagAt_lt B nm (n:=3) (by unfold Own.kindOf; simp only [*, if_true, if_false, Bool.false_eq_true]) (by decide); rw [q]; rfl)
  | (have q := cc_flagAt_lt B nm (n:=4) (by unfold Own.kindOf; simp only [*, if_true, if_false, Bool.false_eq_true]) (by decide); rw [q]; rfl)
  | (have q := cc_flagAt_lt B nm (n:=5) (by unfold Own.kindOf; simp only [*, if_true, if_false, Bool.false_eq_true]) (by decide); rw [q]; rfl)
  | (have q := cc_flagAt_lt B nm (n:=6) (by unfold Own.kindOf; simp only [*, if_true, if_false, Bool.false_eq_true]) (by decide); rw [q]; rfl)
  | (have q := cc_flagAt_lt B nm (n:=7) (by unfold Own.kindOf; simp only [*, if_true, if_false, Bool.false_eq_true]) (by decide); rw [q]; rfl)
  | (have q := cc_flagAt_lt B nm (n:=8) (by unfold Own.kindOf; simp only [*, if_true, if_false, Bool.false_eq_true]) (by decide); rw [q]; rfl)
  | (have q := cc_flagAt_lt B nm (n:=9) (by unfold Own.kindOf; simp only [*, if_true, if_false, Bool.false_eq_true]) (by decide); rw [q]; rfl)
  | (have q := cc_flagAt_ge B nm (by unfold Own.kindOf; simp only [*, if_true, if_false, Bool.false_eq_true]; (repeat' split) <;> omega); rw [q]; rfl))
theorem min_lt (x n : Int) : min n x = if x < n then x else n := by rw [Int.min_def]; split <;> split <;> omega
theorem max_lt (x n : Int) : max n x = if n < x then x else n := by rw [Int.max_def]; split <;> split <;> omega
set_option maxHeartbeats 1000000 in
set_option maxRecDepth 100000 in
theorem cc_least.own (B o : Nat) (h : Bool) (x : Int) (a : ByteArray) (k : Nat) (n : Int) (ok : Bool) (w0 w : World) (cs : Array Value) (hB : w.heap[B]? = some (.cells cs 48 (0, 0))) (h0 : cs[o]? = some (.bool h)) (h1 : cs[o + 1]? = some (.int .i64 x)) (hge : w0.heap.size ≤ B) (hW : Below w0.heap.size w0 w) (hs : cc_Seconds.f k a = some (n, ok)) :
  Calls Tryz.prog 95 #[.pointer (some ⟨B, o, none⟩), .string a] w fun e w' => e = .returned (.tuple #[]) ∧ w'.heap[B]? = some (.cells ((cs.setIfInBounds o (.bool true)).setIfInBounds (o + 1) (.int .i64 (Own.leastOf h x n))) 48 (0, 0)) ∧ Below w0.heap.size w0 w' ∧ KeepBut w w' B none := by
 have hu33 := Tryz.underlying46;(have hsec := fun w => cc_Seconds.calls k a n ok w hs);have HB := Aside0.mk hB;have HW := Aside0.mk hW;clear hB hW
 cases h with
 | true =>
  go_enter Tryz.func95, Tryz.ntmps95;go_wp2_with (go_at_call 43; refine (hsec _).mono ?_; rintro e w' ⟨rfl, hb⟩; have HB' := Aside0.mk (blk_below HB.out hb); have HW' := Aside0.mk (HW.out.trans (hb.mono HW.out.size)); have c0 := (blk_cell HB'.out o).trans h0; have c1 := (blk_cell HB'.out (o + 1)).trans h1; have f0 := blk_frozen HB'.out o; have f1 := blk_frozen HB'.out (o + 1))
  all_goals go_end0
  all_goals refine ⟨rfl, ?_, (HW'.out.setCell hge _).setCell hge _, ((KeepBut.of_below hb B none).set_ _ _).set_ _ _⟩
  all_goals rw [← blk_set (blk_set HB'.out o (.bool true)) (o + 1) (.int .i64 (Own.leastOf true x n))]
  all_goals first
   | (rw [show Own.leastOf true x n = min n x by unfold Own.leastOf; rw [if_pos rfl, min_lt x n]]; done)
   | (rw [show Own.leastOf true x n = x by unfold Own.leastOf; rw [if_pos rfl, if_pos (by omega)]]; done)
   | (rw [show Own.leastOf true x n = n by unfold Own.leastOf; rw [if_pos rfl, if_neg (by omega)]]; done)
 | false =>
  go_enter Tryz.func95, Tryz.ntmps95;go_wp2_with (go_at_call 43; refine (hsec _).mono ?_; rintro e w' ⟨rfl, hb⟩; have HB' := Aside0.mk (blk_below HB.out hb); have HW' := Aside0.mk (HW.out.trans (hb.mono HW.out.size)); have c0 := (blk_cell HB'.out o).trans h0; have c1 := (blk_cell HB'.out (o + 1)).trans h1; have f0 := blk_frozen HB'.out o; have f1 := blk_frozen HB'.out (o + 1));go_end0;refine ⟨rfl, ?_, (HW'.out.setCell hge _).setCell hge _, ((KeepBut.of_below hb B none).set_ _ _).set_ _ _⟩;have := blk_set (blk_set HB'.out o (.bool true)) (o + 1) (.int .i64 (Own.leastOf false x n));rw [← this];rfl
set_option maxHeartbeats 1000000 in
set_option maxRecDepth 100000 in
theorem cc_greatest.own (B o : Nat) (h : Bool) (x : Int) (a : ByteArray) (k : Nat) (n : Int) (ok : Bool) (w0 w : World) (cs : Array Value) (hB : w.heap[B]? = some (.cells cs 48 (0, 0))) (h0 : cs[o]? = some (.bool h)) (h1 : cs[o + 1]? = some (.int .i64 x)) (hge : w0.heap.size ≤ B) (hW : Below w0.heap.size w0 w) (hs : cc_Seconds.f k a = some (n, ok)) :
  Calls Tryz.prog 96 #[.pointer (some ⟨B, o, none⟩), .string a] w fun e w' => e = .returned (.tuple #[]) ∧ w'.heap[B]? = some (.cells ((cs.setIfInBounds o (.bool true)).setIfInBounds (o + 1) (.int .i64 (Own.greatestOf x (if ok = true then n else 2147483648)))) 48 (0, 0)) ∧ Below w0.heap.size w0 w' ∧ KeepBut w w' B none := by
 have hu33 := Tryz.underlying46;(have hsec := fun w => cc_Seconds.calls k a n ok w hs);have HB := Aside0.mk hB;have HW := Aside0.mk hW;clear hB hW
 cases ok with
 | true =>
  go_enter Tryz.func96, Tryz.ntmps96;go_wp2_with (go_at_call 43; refine (hsec _).mono ?_; rintro e w' ⟨rfl, hb⟩; have HB' := Aside0.mk (blk_below HB.out hb); have HW' := Aside0.mk (HW.out.trans (hb.mono HW.out.size)); have c0 := (blk_cell HB'.out o).trans h0; have c1 := (blk_cell HB'.out (o + 1)).trans h1; have f0 := blk_frozen HB'.out o; have f1 := blk_frozen HB'.out (o + 1))
  all_goals go_end0
  all_goals refine ⟨rfl, ?_, (HW'.out.setCell hge _).setCell hge _, ((KeepBut.of_below hb B none).set_ _ _).set_ _ _⟩
  all_goals rw [← blk_set (blk_set HB'.out o (.bool true)) (o + 1) (.int .i64 (Own.greatestOf x (n)))]
  all_goals first
   | (rw [show Own.greatestOf x (n) = max (n) x by unfold Own.greatestOf; rw [max_lt]]; done)
   | (rw [show Own.greatestOf x (n) = x by unfold Own.greatestOf; rw [if_pos (by omega)]]; done)
   | (rw [show Own.greatestOf x (n) = (n) by unfold Own.greatestOf; rw [if_neg (by omega)]]; done)
 | false =>
  go_enter Tryz.func96, Tryz.ntmps96;go_wp2_with (go_at_call 43; refine (hsec _).mono ?_; rintro e w' ⟨rfl, hb⟩; have HB' := Aside0.mk (blk_below HB.out hb); have HW' := Aside0.mk (HW.out.trans (hb.mono HW.out.size)); have c0 := (blk_cell HB'.out o).trans h0; have c1 := (blk_cell HB'.out (o + 1)).trans h1; have f0 := blk_frozen HB'.out o; have f1 := blk_frozen HB'.out (o + 1))
  all_goals go_end0
  all_goals refine ⟨rfl, ?_, (HW'.out.setCell hge _).setCell hge _, ((KeepBut.of_below hb B none).set_ _ _).set_ _ _⟩
  all_goals rw [← blk_set (blk_set HB'.out o (.bool true)) (o + 1) (.int .i64 (Own.greatestOf x (2147483648)))]
  all_goals first
   | (rw [show Own.greatestOf x (2147483648) = max (2147483648) x by unfold Own.greatestOf; rw [max_lt]]; done)
   | (rw [show Own.greatestOf x (2147483648) = x by unfold Own.greatestOf; rw [if_pos (by omega)]]; done)
   | (rw [show Own.greatestOf x (2147483648) = (2147483648) by unfold Own.greatestOf; rw [if_neg (by omega)]]; done)
theorem act_10 (c : Own.Ctl) (has : Bool) (n : Int) (ok : Bool) : (c.cells.setIfInBounds 11 (.bool true)).setIfInBounds (11 + 1) (.int .i64 (Own.leastOf c.h0 c.n0 n)) = (c.act 10 has n ok).cells := by simp [Own.Ctl.act, Own.Ctl.cells]
theorem act_11 (c : Own.Ctl) (has : Bool) (n : Int) (ok : Bool) : (c.cells.setIfInBounds 13 (.bool true)).setIfInBounds (13 + 1) (.int .i64 (Own.leastOf c.h1 c.n1 n)) = (c.act 11 has n ok).cells := by simp [Own.Ctl.act, Own.Ctl.cells]
theorem act_12 (c : Own.Ctl) (has : Bool) (n : Int) (ok : Bool) : (c.cells.setIfInBounds 19 (.bool true)).setIfInBounds (19 + 1) (.int .i64 (Own.leastOf c.h4 c.n4 n)) = (c.act 12 has n ok).cells := by simp [Own.Ctl.act, Own.Ctl.cells]
theorem act_13 (c : Own.Ctl) (has : Bool) (n : Int) (ok : Bool) : (c.cells.setIfInBounds 17 (.bool true)).setIfInBounds (17 + 1) (.int .i64 (Own.greatestOf c.n3 (if ok = true then n else 2147483648))) = (c.act 13 has n ok).cells := by simp [Own.Ctl.act, Own.Ctl.cells]
theorem act_14 (c : Own.Ctl) (n : Int) (ok : Bool) : (c.cells.setIfInBounds 15 (.bool true)).setIfInBounds (15 + 1) (.int .i64 (Own.leastOf c.h2 c.n2 n)) = (c.act 14 true n ok).cells := by simp [Own.Ctl.act, Own.Ctl.cells]
theorem act_14n (c : Own.Ctl) (n : Int) (ok : Bool) : c.cells.setIfInBounds 10 (.bool true) = (c.act 14 false n ok).cells := by simp [Own.Ctl.act, Own.Ctl.cells]
theorem act_15 (c : Own.Ctl) (has : Bool) (n : Int) (ok : Bool) : (c.act 15 has n ok).cells = c.cells := by simp [Own.Ctl.act, Own.Ctl.cells]
set_option maxHeartbeats 1000000 in
set_option maxRecDepth 100000 in
theorem cc_take.flag (B j : Nat) (nm a : ByteArray) (has : Bool) (hfl : ∀ w, Calls Tryz.prog 94 #[.pointer (some ⟨B, 0, none⟩), .string nm] w fun e w' => e = .returned (.pointer (some ⟨B, j, none⟩)) ∧ w' = w) (b : Bool) (cs cs' : Array Value) (w0 w : World) (hB : w.heap[B]? = some (.cells cs 48 (0, 0))) (hc : cs[j]? = some (.bool b)) (hset : cs.setIfInBounds j (.bool true) = cs') (hge : w0.heap.size ≤ B) (hW : Below w0.heap.size w0 w) :
  Calls Tryz.prog 70 #[.pointer (some ⟨B, 0, none⟩), .string nm, .string a, .bool has] w fun e w' => e = .returned (.tuple #[]) ∧ w'.heap[B]? = some (.cells cs' 48 (0, 0)) ∧ Below w0.heap.size w0 w' ∧ KeepBut w w' B none := by
 have c0 := (blk_cell hB j).trans hc;have f0 := blk_frozen hB j;have HB := Aside0.mk hB;have HW := Aside0.mk hW;have HS := Aside0.mk hset;clear hB hW hset hc;go_enter Tryz.func70, Tryz.ntmps70;go_wp2_with (go_at_call 94; refine (hfl _).mono ?_; rintro e w' ⟨rfl, rfl⟩);refine bodyPost_ret (results_none rfl _ _ _) rfl ?_;exact ⟨rfl, by rw [← HS.out]; exact blk_set HB.out j _, HW.out.setCell hge _, (KeepBut.refl _ B none).set_ _ _⟩
set_option maxHeartbeats 1000000 in
set_option maxRecDepth 100000 in
theorem cc_take.rest (B : Nat) (nm a : ByteArray) (has : Bool) (hfl : ∀ w, Calls Tryz.prog 94 #[.pointer (some ⟨B, 0, none⟩), .string nm] w fun e w' => e = .returned (.pointer none) ∧ w' = w) (k : Nat) (n : Int) (ok : Bool) (w0 w : World) (c : Own.Ctl) (kd : Nat)
  (k10 : (nm.toList == [109, 97, 120, 45, 97, 103, 101]) = true → kd = 10) (k11 : (nm.toList == [115, 45, 109, 97, 120, 97, 103, 101]) = true → kd = 11) (k12 : (nm.toList == [115, 116, 97, 108, 101, 45, 105, 102, 45, 101, 114, 114, 111, 114]) = true → kd = 12) (k13 : (nm.toList == [109, 105, 110, 45, 102, 114, 101, 115, 104]) = true → kd = 13) (k14 : (nm.toList == [109, 97, 120, 45, 115, 116, 97, 108, 101]) = true → kd = 14)
  (k15 : (nm.toList == [109, 97, 120, 45, 97, 103, 101]) = false → (nm.toList == [115, 45, 109, 97, 120, 97, 103, 101]) = false → (nm.toList == [115, 116, 97, 108, 101, 45, 105, 102, 45, 101, 114, 114, 111, 114]) = false → (nm.toList == [109, 105, 110, 45, 102, 114, 101, 115, 104]) = false → (nm.toList == [109, 97, 120, 45, 115, 116, 97, 108, 101]) = false → kd = 15)
  (hB : w.heap[B]? = some (.cells c.cells 48 (0, 0))) (hge : w0.heap.size ≤ B) (hW : Below w0.heap.size w0 w) (hs : cc_Seconds.f k a = some (n, ok)) :
  Calls Tryz.prog 70 #[.pointer (some ⟨B, 0, none⟩), .string nm, .string a, .bool has] w fun e w' => e = .returned (.tuple #[]) ∧ w'.heap[B]? = some (.cells (c.act kd has n ok).cells 48 (0, 0)) ∧ Below w0.heap.size w0 w' ∧ KeepBut w w' B none := by
 have K10 := Aside0.mk k10;have K11 := Aside0.mk k11;have K12 := Aside0.mk k12;have K13 := Aside0.mk k13;have K14 := Aside0.mk k14;have K15 := Aside0.mk k15;have HB := Aside0.mk hB;have HW := Aside0.mk hW;have c10 := (blk_cell hB 10).trans (show c.cells[10]? = some (.bool c.b10) from rfl);have f10 := blk_frozen hB 10;have hu35 := Tryz.underlying48;have L11 := cc_least.own B 11 c.h0 c.n0 a k n ok w0 _ c.cells hB rfl rfl hge hW hs;have L13 := cc_least.own B 13 c.h1 c.n1 a k n ok w0 _ c.cells hB rfl rfl hge hW hs;have L15 := cc_least.own B 15 c.h2 c.n2 a k n ok w0 _ c.cells hB rfl rfl hge hW hs;have L19 := cc_least.own B 19 c.h4 c.n4 a k n ok w0 _ c.cells hB rfl rfl hge hW hs;have G17 := cc_greatest.own B 17 c.h3 c.n3 a k n ok w0 _ c.cells hB rfl rfl hge hW hs;clear k10 k11 k12 k13 k14 k15 hB hW;go_enter Tryz.func70, Tryz.ntmps70;go_wp2_with (first | (go_at_call 94; (with_reducible refine (hfl _).mono ?_); rintro e w' ⟨rfl, rfl⟩) | (go_at_call 95; (with_reducible refine L11.mono ?_); rintro e w' ⟨rfl, hq, hw, hk⟩) | (go_at_call 95; (with_reducible refine L13.mono ?_); rintro e w' ⟨rfl, hq, hw, hk⟩) | (go_at_call 95; (with_reducible refine L15.mono ?_); rintro e w' ⟨rfl, hq, hw, hk⟩) | (go_at_call 95; (with_reducible refine L19.mono ?_); rintro e w' ⟨rfl, hq, hw, hk⟩) | (go_at_call 96; (with_reducible refine G17.mono ?_); rintro e w' ⟨rfl, hq, hw, hk⟩))
 all_goals first | go_end0 | (refine bodyPost_ret (results_none rfl _ _ _) rfl ?_)
 all_goals (first
  | (obtain rfl := K10.out (by assumption); exact ⟨rfl, by rw [hq]; exact congrArg (fun z => some (Obj.cells z 48 (0, 0))) (act_10 c has n ok), hw, hk⟩)
  | (obtain rfl := K11.out (by assumption); exact ⟨rfl, by rw [hq]; exact congrArg (fun z => some (Obj.cells z 48 (0, 0))) (act_11 c has n ok), hw, hk⟩)
  | (obtain rfl := K12.out (by assumption); exact ⟨rfl, by rw [hq]; exact congrArg (fun z => some (Obj.cells z 48 (0, 0))) (act_12 c has n ok), hw, hk⟩)
  | (obtain rfl := K13.out (by assumption); exact ⟨rfl, by rw [hq]; exact congrArg (fun z => some (Obj.cells z 48 (0, 0))) (act_13 c has n ok), hw, hk⟩)
  | (obtain rfl := K14.out (by assumption); obtain rfl : has = true := (by assumption); exact ⟨rfl, by rw [hq]; exact congrArg (fun z => some (Obj.cells z 48 (0, 0))) (act_14 c n ok), hw, hk⟩)
  | (obtain rfl := K14.out (by assumption); obtain rfl : has = false := (by assumption); exact ⟨rfl, by rw [← act_14n c n ok]; exact blk_set HB.out 10 _, HW.out.setCell hge _, (KeepBut.refl _ B none).set_ _ _⟩)
  | (obtain rfl := K15.out (by assumption) (by assumption) (by assumption) (by assumption) (by assumption); exact ⟨rfl, by rw [act_15 c has n ok]; exact HB.out, HW.out, KeepBut.refl _ B none⟩))
theorem cc_take.own (B : Nat) (nm a : ByteArray) (has : Bool) (k : Nat) (n : Int) (ok : Bool) (w0 w : World) (c : Own.Ctl) (hB : w.heap[B]? = some (.cells c.cells 48 (0, 0))) (hge : w0.heap.size ≤ B) (hW : Below w0.heap.size w0 w) (hs : cc_Seconds.f k a = some (n, ok)) :
  Calls Tryz.prog 70 #[.pointer (some ⟨B, 0, none⟩), .string nm, .string a, .bool has] w fun e w' => e = .returned (.tuple #[]) ∧ w'.heap[B]? = some (.cells (c.act (Own.kindOf nm) has n ok).cells 48 (0, 0)) ∧ Below w0.heap.size w0 w' ∧ KeepBut w w' B none := by
 have hfl := fun w => cc_flag.own B nm w
 by_cases hk : Own.kindOf nm < 10
 ·rw [cc_flagAt_lt B nm rfl hk] at hfl
  have hc : ∃ b, c.cells[Own.kindOf nm]? = some (.bool b) := by
   generalize Own.kindOf nm = j at hk;(have : j = 0 ∨ j = 1 ∨ j = 2 ∨ j = 3 ∨ j = 4 ∨ j = 5 ∨ j = 6 ∨ j = 7 ∨ j = 8 ∨ j = 9 := by omega)
   rcases this with rfl | rfl | rfl | rfl | rfl | rfl | rfl | rfl | rfl | rfl <;> exact ⟨_, rfl⟩
  have hset : c.cells.setIfInBounds (Own.kindOf nm) (.bool true) = (c.act (Own.kindOf nm) has n ok).cells := by
   generalize Own.kindOf nm = j at hk;(have : j = 0 ∨ j = 1 ∨ j = 2 ∨ j = 3 ∨ j = 4 ∨ j = 5 ∨ j = 6 ∨ j = 7 ∨ j = 8 ∨ j = 9 := by omega)
   rcases this with rfl | rfl | rfl | rfl | rfl | rfl | rfl | rfl | rfl | rfl <;> simp [Own.Ctl.act, Own.Ctl.cells]
  obtain ⟨b, hc⟩ := hc;exact cc_take.flag B _ nm a has hfl b _ _ w0 w hB hc hset hge hW
 ·rw [cc_flagAt_ge B nm hk] at hfl
  refine cc_take.rest B nm a has hfl k n ok w0 w c (Own.kindOf nm) (fun h => ?_) (fun h => ?_) (fun h => ?_) (fun h => ?_) (fun h => ?_) (fun h1 h2 h3 h4 h5 => ?_) hB hge hW hs
  ·unfold Own.kindOf; rw [beq_iff_eq.1 h]; rfl
  ·unfold Own.kindOf; rw [beq_iff_eq.1 h]; rfl
  ·unfold Own.kindOf; rw [beq_iff_eq.1 h]; rfl
  ·unfold Own.kindOf; rw [beq_iff_eq.1 h]; rfl
  ·unfold Own.kindOf; rw [beq_iff_eq.1 h]; rfl
  ·unfold Own.kindOf at hk ⊢
   simp only [h1, h2, h3, h4, h5, Bool.false_eq_true, if_false] at hk ⊢
   (repeat' split) <;> first | rfl | (exfalso; revert hk; simp [*])
def cc_Parse.step (k : Nat) (c : Own.Ctl) (p : ByteArray) : Option Own.Ctl :=
 (strings_Cut.f p (⟨#[61]⟩ : ByteArray)).bind fun t => (head_Trim.f t.1).bind fun u => (head_Lower.f u).bind fun nm => (head_Trim.f t.2.1).bind fun b => (cc_unquoted.f b).bind fun a => (cc_Seconds.f k a).bind fun s => some (c.act (Own.kindOf nm) t.2.2 s.1 s.2)
def cc_Parse.steps (k : Nat) : List ByteArray → Own.Ctl → Option Own.Ctl
 | [], c => some c
 | p :: t, c => (cc_Parse.step k c p).bind fun c' => cc_Parse.steps k t c'
theorem cc_at_str {w : World} {A : Option Addr} {n : Nat} {xs : List ByteArray} (h : Kd.C Kd.string w A n xs) (i : Nat) (x : ByteArray) (hx : xs[i]? = some x) : ∃ ad, A = some ad ∧ w.cell? (ad.add i) = some (.string x) := by
 have hn := h.1;have hi := (List.getElem?_eq_some_iff.1 hx).1;obtain ⟨ad, e, hc⟩ := h.2.2 (by omega);obtain ⟨c, hl, hr, hcell⟩ := hc i x hx;refine ⟨ad, e, ?_⟩
 have := hcell 0 (.string x) (by
  have e : c = [.string x] := hr
  rw [e]; rfl)
 simpa [Kd.string, Kd.scalar] using this
/-- The world in a round: what was made before stands, the block of the answer holds c. -/
structure CcSt (w w2 : World) (B : Nat) (c : Own.Ctl) (W : World) : Prop where
 at_ : W.heap[B]? = some (.cells c.cells 48 (0, 0))
 below : Below w.heap.size w W
 keep : KeepBut w2 W B none
theorem CcSt.next {w w2 : World} {B : Nat} {c : Own.Ctl} {W W' : World} (h : CcSt w w2 B c W) (hb : Below W.heap.size W W') : CcSt w w2 B c W' :=
 ⟨blk_below h.at_ hb, h.below.trans (hb.mono h.below.size), h.keep.trans (KeepBut.of_below hb B none) (.inl rfl)⟩
theorem cc_below_setRow {B g : Nat} {w0 w : World} (hb : Below B w0 w) (hg : B ≤ g) (cs : Array Value) : Below B w0 (w.setRow g cs) :=
 ⟨hb.os, hb.tape, hb.output, by rw [setRow_size]; exact hb.size, fun k hk => (setRow_other w g k cs (by omega)).trans (hb.block k hk)⟩
theorem cc_info : (Tryz.prog.info? 48).map (·.size) = some 21 := by kernel_rfl
theorem cc_zero (w : World) : (w.alloc (.cells Own.Ctl.zero.cells 48)).heap[w.heap.size]? = some (.cells Own.Ctl.zero.cells 48 (0, 0)) := blk_new w _
set_option maxHeartbeats 1000000 in
set_option maxRecDepth 100000 in
theorem cc_Parse.own (k : Nat) (A : Option Addr) (c0 : Nat) (l ps : List ByteArray) (r : Own.Ctl) (w : World) (hr0 : Kd.C Kd.string w A l.length l) (hc0 : l.length ≤ c0) (hS : head_Split.f k l = some ps) (hF : cc_Parse.steps k ps Own.Ctl.zero = some r) :
  Calls Tryz.prog 45 #[.slice A l.length c0] w fun e w' => e = .returned (.agg r.fin.cells) ∧ Below w.heap.size w w' := by
 have hu35 := Tryz.underlying48;obtain ⟨wa, hwa⟩ : ∃ wa, wa = w.alloc (.cells #[.bool false, .bool false, .bool false, .bool false, .bool false, .bool false, .bool false, .bool false, .bool false, .bool false, .bool false, .bool false, .int .i64 0, .bool false, .int .i64 0, .bool false, .int .i64 0, .bool false, .int .i64 0, .bool false, .int .i64 0] 48) := ⟨_, rfl⟩;obtain ⟨w1, hw1⟩ : ∃ w1, w1 = wa.alloc (.cells #[.bool false, .bool false, .bool false, .bool false, .bool false, .bool false, .bool false, .bool false, .bool false, .bool false, .bool false, .bool false, .int .i64 0, .bool false, .int .i64 0, .bool false, .int .i64 0, .bool false, .int .i64 0, .bool false, .int .i64 0] 48) := ⟨_, rfl⟩;(have hba : Below w.heap.size w wa := by rw [hwa]; exact (Below.refl _ w).alloc (Nat.le_refl _) _);(have hsa : wa.heap.size = w.heap.size + 1 := by rw [hwa, World.size_alloc]);(have hza : wa.heap[w.heap.size]? = some (.cells Own.Ctl.zero.cells 48 (0, 0)) := by rw [hwa]; exact blk_new w _);(have hb1 : Below w.heap.size w w1 := by rw [hw1]; exact hba.alloc (by omega) _);(have hs1 : w1.heap.size = w.heap.size + 2 := by rw [hw1, World.size_alloc, hsa]);(have hz0 : w1.heap[w.heap.size]? = some (.cells Own.Ctl.zero.cells 48 (0, 0)) := by rw [hw1]; exact blk_alloc hza _);(have hz1 : w1.heap[w.heap.size + 1]? = some (.cells Own.Ctl.zero.cells 48 (0, 0)) := by rw [hw1, ← hsa]; exact blk_new wa _);have hsp := head_Split.calls k A c0 l ps w1 (Kd.C_below hr0 hb1) hc0 hS;have HB1 := Aside0.mk hb1;have HS1 := Aside0.mk hs1;have HZ1 := Aside0.mk hz1;have HZ0 := Aside0.mk hz0;clear hb1 hs1 hz1 hz0 hr0 hS hza hba;go_enter Tryz.func45, Tryz.ntmps45;go_wp2_with (first | (go_at_call 68; rw [← hwa, ← hw1]; (with_reducible refine hsp.mono ?_); rintro e w2 ⟨v, rfl, hR, hB2⟩; obtain ⟨A2, c2, rfl, hc2, hC2⟩ := Kd.R_reads hR));have HB2 := Aside0.mk (HB1.out.trans (hB2.mono (by have := HS1.out; omega)));have HZ2 := Aside0.mk (blk_below HZ1.out hB2);have HZ20 := Aside0.mk (blk_below HZ0.out hB2);have HC2 := Aside0.mk hC2;have HF := Aside0.mk hF;have hlen : ps.length ≤ 9223372036854775807 := hC2.2.1;have HA2 : Aside0 (some (w.heap.size + 1) ≠ (Value.slice A2 ps.length c2).ownBlock) := ⟨Kd.R_ne hR HZ2.out (by decide)⟩;clear hB2 hC2 hF hR hsp hwa hw1 hsa;go_loopg [12] ps.length (fun gg i wr => ∃ n : Nat, i = .int .i64 n ∧ n ≤ ps.length ∧ ps.length - n ≤ gg ∧ ∃ c : Own.Ctl, Aside0 (cc_Parse.steps k (ps.drop n) c = some r) ∧ Aside0 (CcSt w w2 (w.heap.size + 1) c wr))
 case atStart => exact ⟨0, rfl, by omega, by omega, _, ⟨HF.out⟩, ⟨⟨HZ2.out, HB2.out, KeepBut.refl _ _ _⟩⟩⟩
 case round =>
  obtain ⟨n, rfl, hn, hgg, c, hst, hS0⟩ := hrel
  by_cases hlt : n < ps.length
  ·have hx : ps[n]? = some ps[n] := List.getElem?_eq_getElem hlt
   have q1 : decide ((n : Int) < (ps.length : Int)) = true := decide_eq_true (by omega);obtain ⟨ad, rfl, hx0⟩ := cc_at_str HC2.out n _ hx
   replace hx0 : wr.cell? (ad.add n) = some (.string ps[n]) := by
    have hl := World.block_lt_of_cell? w2 _ hx0;(have hne : (ad.add n).block ≠ w.heap.size + 1 := fun e => HA2.out (by rw [← e]; simp [Value.ownBlock, Addr.add]; split <;> rfl));have := hS0.out.keep.2 (ad.add n).block hl hne (by simp);rw [← hx0]; unfold World.cell?; rw [this]
   have p5 := eq_true (show (0 : Int) ≤ (n : Int) by omega);have q5 := eq_true (show (n : Int) < (ps.length : Int) by omega);have hd : ps.drop n = ps[n] :: ps.drop (n + 1) := List.drop_eq_getElem_cons hlt;have hst' := hst.out;rw [hd] at hst';clear hd hx hst;generalize ps[n] = x at *;obtain ⟨c', hc1, hc2⟩ := Option.bind_eq_some_iff.1 (show (cc_Parse.step k c x).bind (fun c' => cc_Parse.steps k (ps.drop (n + 1)) c') = some r from hst');clear hst'
   unfold cc_Parse.step at hc1
   obtain ⟨⟨t1, t2, t3⟩, e1, hc1⟩ := Option.bind_eq_some_iff.1 hc1;obtain ⟨u, e2, hc1⟩ := Option.bind_eq_some_iff.1 hc1;obtain ⟨nm, e3, hc1⟩ := Option.bind_eq_some_iff.1 hc1;obtain ⟨b, e4, hc1⟩ := Option.bind_eq_some_iff.1 hc1;obtain ⟨a, e5, hc1⟩ := Option.bind_eq_some_iff.1 hc1;obtain ⟨⟨s1, s2⟩, e6, hc1⟩ := Option.bind_eq_some_iff.1 hc1;(have k1 := fun w => strings_Cut.calls x _ t1 t2 t3 w e1);(have k2 := fun w => head_Trim.calls t1 u w e2);(have k3 := fun w => head_Lower.calls u nm w e3);(have k4 := fun w => head_Trim.calls t2 b w e4);(have k5 := fun w => cc_unquoted.calls b a w e5);have E6 := Aside0.mk e6;have HC1 := Aside0.mk (Option.some.inj hc1);have HC2' := Aside0.mk hc2;clear hc1 hc2 e1 e2 e3 e4 e5 e6;go_wp2_with (first | (go_at_call 69; (with_reducible refine (k1 _).mono ?_); rintro e w3 ⟨rfl, hb⟩; have S1 := Aside0.mk (hS0.out.next hb); clear hb) | (go_at_call 72; (with_reducible refine (k2 _).mono ?_); rintro e w4 ⟨rfl, hb⟩; have S2 := Aside0.mk (S1.out.next hb); clear hb k2) | (go_at_call 71; (with_reducible refine (k3 _).mono ?_); rintro e w5 ⟨rfl, hb⟩; have S3 := Aside0.mk (S2.out.next hb); clear hb) | (go_at_call 72; (with_reducible refine (k4 _).mono ?_); rintro e w6 ⟨rfl, hb⟩; have S4 := Aside0.mk (S3.out.next hb); clear hb) | (go_at_call 73; (with_reducible refine (k5 _).mono ?_); rintro e w7 ⟨rfl, hb⟩; have S5 := Aside0.mk (S4.out.next hb.below); clear hb; have k6 := cc_take.own (w.heap.size + 1) nm a t3 k s1 s2 w w7 c S5.out.at_ (by omega) S5.out.below E6.out) | (go_at_call 70; (with_reducible refine k6.mono ?_); rintro e w8 ⟨rfl, hq, hw, hk⟩; have S6 : Aside0 (CcSt w w2 (w.heap.size + 1) c' w8) := ⟨⟨by rw [hq, HC1.out], hw, S5.out.keep.trans hk (.inl rfl)⟩⟩; clear hq hw hk k6));go_roundg (ps.length - (n + 1))
   case measure => omega
   case rel => exact ⟨n + 1, rfl, by omega, by omega, c', HC2', S6⟩
  ·have q1 : decide ((n : Int) < (ps.length : Int)) = false := decide_eq_false (by omega)
   have hd : ps.drop n = [] := List.drop_eq_nil_of_le (by omega);have hst' := hst.out;rw [hd] at hst';obtain rfl : c = r := Option.some.inj hst';have hc10 := (blk_cell hS0.out.at_ 10).trans (show c.cells[10]? = some (.bool c.b10) from rfl);have hc15 := (blk_cell hS0.out.at_ 15).trans (show c.cells[15]? = some (.bool c.h2) from rfl);have hf10 := blk_frozen hS0.out.at_ 10;have hu33 := Tryz.underlying46;clear hd hst';have hres : wr.heap[w.heap.size]? = some (.cells Own.Ctl.zero.cells 48 (0, 0)) := (hS0.out.keep.2 w.heap.size (blk_lt HZ20.out) (by omega) (by simp)).trans HZ20.out
   have hfin : ∀ v : Bool, (c.b10 && !c.h2) = v → (wr.setCell ⟨w.heap.size + 1, 10, none⟩ (.bool v)).heap[w.heap.size + 1]? = some (.cells c.fin.cells 48 (0, 0)) := fun v hv => by
    rw [blk_set hS0.out.at_ 10];subst hv;rfl
   (have hres2 : ∀ v : Bool, (wr.setCell ⟨w.heap.size + 1, 10, none⟩ (.bool v)).heap[w.heap.size]? = some (.cells Own.Ctl.zero.cells 48 (0, 0)) := fun v => blk_far hres (by show w.heap.size ≠ w.heap.size + 1; omega) _);(have hbel : ∀ v : Bool, Below w.heap.size w ((wr.setCell ⟨w.heap.size + 1, 10, none⟩ (.bool v)).setRow w.heap.size c.fin.cells) := fun v => cc_below_setRow (hS0.out.below.setCell (Nat.le_succ _) _) (Nat.le_refl _) _);(have hback : ∀ v : Bool, ((wr.setCell ⟨w.heap.size + 1, 10, none⟩ (.bool v)).setRow w.heap.size c.fin.cells).heap[w.heap.size]? = some (.cells c.fin.cells 48 (0, 0)) := fun v => setRow_heap _ _ _ _ _ _ (hres2 v));obtain ⟨fc, hfc⟩ : ∃ fc, fc = c.fin.cells := ⟨_, rfl⟩;(have hsz : some 21 = some fc.size := by rw [hfc]; rfl);(have hone : fc.all (·.oneCell') = true := by rw [hfc]; simp [Own.Ctl.cells, Value.oneCell']);rw [← hfc] at hfin hbel hback;have HFC := Aside0.mk hfc;have HFIN := Aside0.mk hfin;have HRES := Aside0.mk hres2;have HBEL := Aside0.mk hbel;have HBK := Aside0.mk hback;clear hfc hfin hres2 hbel hback hres
   cases hb : c.b10 with
   | true =>
    cases hh : c.h2 with
    | true =>
     have HV := HFIN.out false (by rw [hb, hh]; rfl);rw [hb] at hc10;rw [hh] at hc15;clear hb hh;go_wp2_with (first | ((with_reducible refine gate_dst (N:=40) rfl ?_); refine wpList_load_row rfl 48 (.tmp 3) rfl (w.heap.size + 1) rfl 48 fc (0, 0) _ HV hu35 rfl (cc_info.trans hsz) ?_) | ((with_reducible refine gate_store (t:=48) rfl ?_); refine wpList_store_row rfl 48 (.tmp 2) (.tmp 40) rfl w.heap.size fc rfl rfl 48 Own.Ctl.zero.cells (HRES.out false) (cc_info.trans hsz) (by rw [← Option.some.inj hsz]; rfl) hone ?_));refine bodyPost_ret (results_cell_row rfl _ _ w.heap.size 48 fc (0, 0) _ rfl (HBK.out false) hu35 rfl (cc_info.trans hsz)) rfl ?_;exact ⟨by rw [HFC.out], HBEL.out false⟩
    | false =>
     have HV := HFIN.out true (by rw [hb, hh]; rfl);rw [hb] at hc10;rw [hh] at hc15;clear hb hh;go_wp2_with (first | ((with_reducible refine gate_dst (N:=40) rfl ?_); refine wpList_load_row rfl 48 (.tmp 3) rfl (w.heap.size + 1) rfl 48 fc (0, 0) _ HV hu35 rfl (cc_info.trans hsz) ?_) | ((with_reducible refine gate_store (t:=48) rfl ?_); refine wpList_store_row rfl 48 (.tmp 2) (.tmp 40) rfl w.heap.size fc rfl rfl 48 Own.Ctl.zero.cells (HRES.out true) (cc_info.trans hsz) (by rw [← Option.some.inj hsz]; rfl) hone ?_));refine bodyPost_ret (results_cell_row rfl _ _ w.heap.size 48 fc (0, 0) _ rfl (HBK.out true) hu35 rfl (cc_info.trans hsz)) rfl ?_;exact ⟨by rw [HFC.out], HBEL.out true⟩
   | false =>
    have HV := HFIN.out false (by rw [hb]; rfl);rw [hb] at hc10;clear hb;go_wp2_with (first | ((with_reducible refine gate_dst (N:=40) rfl ?_); refine wpList_load_row rfl 48 (.tmp 3) rfl (w.heap.size + 1) rfl 48 fc (0, 0) _ HV hu35 rfl (cc_info.trans hsz) ?_) | ((with_reducible refine gate_store (t:=48) rfl ?_); refine wpList_store_row rfl 48 (.tmp 2) (.tmp 40) rfl w.heap.size fc rfl rfl 48 Own.Ctl.zero.cells (HRES.out false) (cc_info.trans hsz) (by rw [← Option.some.inj hsz]; rfl) hone ?_));refine bodyPost_ret (results_cell_row rfl _ _ w.heap.size 48 fc (0, 0) _ rfl (HBK.out false) hu35 rfl (cc_info.trans hsz)) rfl ?_;exact ⟨by rw [HFC.out], HBEL.out false⟩
def cc_Parse.f (k : Nat) (l0 : List ByteArray) : Option (Bool × Bool × Bool × Bool × Bool × Bool × Bool × Bool × Bool × Bool × Bool × Bool × Int × Bool × Int × Bool × Int × Bool × Int × Bool × Int) :=
 (head_Split.f k l0).bind fun ps => (cc_Parse.steps k ps Own.Ctl.zero).bind fun c => some c.fin.tup
theorem cc_Parse.mono_steps (k : Nat) : ∀ (ps : List ByteArray) (c : Own.Ctl), LeO (cc_Parse.steps k ps c) (cc_Parse.steps (k + 1) ps c)
 | [], c => LeO.refl _
 | p :: t, c => by
  unfold cc_Parse.steps cc_Parse.step
  refine LeO.bind ?_ (fun _ => cc_Parse.mono_steps k t _);(exact LeO.bind (LeO.refl _) fun _ => LeO.bind (LeO.refl _) fun _ => LeO.bind (LeO.refl _) fun _ => LeO.bind (LeO.refl _) fun _ => LeO.bind (LeO.refl _) fun _ => LeO.bind (cc_Seconds.mono _ k) fun _ => LeO.refl _)
theorem cc_Parse.mono : ∀ a0 k, LeO (cc_Parse.f k a0) (cc_Parse.f (k + 1) a0) := by
 intro a0 k
 unfold cc_Parse.f
 exact LeO.bind (head_Split.mono _ k) fun _ => LeO.bind (cc_Parse.mono_steps k _ _) fun _ => LeO.refl _
theorem cc_Parse.calls (k : Nat) (A0 : Option Addr) (c0 : Nat) (l0 : List ByteArray) (r1 : Bool) (r2 : Bool) (r3 : Bool) (r4 : Bool) (r5 : Bool) (r6 : Bool) (r7 : Bool) (r8 : Bool) (r9 : Bool) (r10 : Bool) (r11 : Bool) (r12 : Bool) (r13 : Int) (r14 : Bool) (r15 : Int) (r16 : Bool) (r17 : Int) (r18 : Bool) (r19 : Int) (r20 : Bool) (r21 : Int) (w : World) (hr0 : Kd.C Kd.string w A0 l0.length l0) (hc0 : l0.length ≤ c0) (h : cc_Parse.f k l0 = some (r1, r2, r3, r4, r5, r6, r7, r8, r9, r10, r11, r12, r13, r14, r15, r16, r17, r18, r19, r20, r21)) :
  Calls Tryz.prog 45 #[.slice A0 l0.length c0] w fun e w' => e = .returned (.agg #[.bool r1, .bool r2, .bool r3, .bool r4, .bool r5, .bool r6, .bool r7, .bool r8, .bool r9, .bool r10, .bool r11, .bool r12, .int .i64 r13, .bool r14, .int .i64 r15, .bool r16, .int .i64 r17, .bool r18, .int .i64 r19, .bool r20, .int .i64 r21]) ∧ Below w.heap.size w w' := by
 unfold cc_Parse.f at h
 obtain ⟨ps, h1, h⟩ := Option.bind_eq_some_iff.1 h;obtain ⟨c, h2, h⟩ := Option.bind_eq_some_iff.1 h;have h := Option.some.inj h
 unfold Own.Ctl.tup at h
 simp only [Prod.mk.injEq] at h;obtain ⟨rfl, rfl, rfl, rfl, rfl, rfl, rfl, rfl, rfl, rfl, rfl, rfl, rfl, rfl, rfl, rfl, rfl, rfl, rfl, rfl, rfl⟩ := h;exact cc_Parse.own k A0 c0 l0 ps c w hr0 hc0 h1 h2
def ccR (k : Nat) (v : List ByteArray) : Option Own.Ctl := (head_Split.f k v).bind fun ps => (cc_Parse.steps k ps Own.Ctl.zero).bind fun c => some c.fin
theorem ccR_mono (k : Nat) (v : List ByteArray) : LeO (ccR k v) (ccR (k + 1) v) := LeO.bind (head_Split.mono _ k) fun _ => LeO.bind (cc_Parse.mono_steps k _ _) fun _ => LeO.refl _
theorem ccR_calls (k : Nat) (A : Option Addr) (c0 : Nat) (l : List ByteArray) (c : Own.Ctl) (w : World) (hr0 : Kd.C Kd.string w A l.length l) (hc0 : l.length ≤ c0) (h : ccR k l = some c) :
  Calls Tryz.prog 45 #[.slice A l.length c0] w fun e w' => e = .returned (.agg c.cells) ∧ Below w.heap.size w w' := by
 unfold ccR at h
 obtain ⟨ps, h1, h⟩ := Option.bind_eq_some_iff.1 h;obtain ⟨c1, h2, h⟩ := Option.bind_eq_some_iff.1 h;obtain rfl := Option.some.inj h;exact cc_Parse.own k A c0 l ps c1 w hr0 hc0 h1 h2
/-! ### age_control: function 30 -/
def age_control.R (k : Nat) (l : List S35) : Option Own.Ctl := (head_All.f k l (⟨#[67, 97, 99, 104, 101, 45, 67, 111, 110, 116, 114, 111, 108]⟩ : ByteArray)).bind fun v => ccR k v
theorem age_control.monoR (k : Nat) (l : List S35) : LeO (age_control.R k l) (age_control.R (k + 1) l) := LeO.bind (head_All.mono _ _ k) fun _ => ccR_mono k _
theorem age_control.below {B g : Nat} {w0 w : World} (hb : Below B w0 w) (hg : B ≤ g) (cs : Array Value) : Below B w0 (w.setRow g cs) :=
 ⟨hb.os, hb.tape, hb.output, by rw [setRow_size]; exact hb.size, fun k hk => (setRow_other w g k cs (by omega)).trans (hb.block k hk)⟩
set_option maxHeartbeats 1000000 in
set_option maxRecDepth 100000 in
theorem age_control.own (k : Nat) (A : Option Addr) (c0 : Nat) (l : List S35) (c : Own.Ctl) (w : World) (hr0 : Kd.C k35 w A l.length l) (hc0 : l.length ≤ c0) (h : age_control.R k l = some c) :
  Calls Tryz.prog 30 #[.slice A l.length c0] w fun e w' => e = .returned (.agg c.cells) ∧ Below w.heap.size w w' := by
 unfold age_control.R at h
 obtain ⟨v, h1, h2⟩ := Option.bind_eq_some_iff.1 h;have hu35 := Tryz.underlying48;have HR0 := Aside0.mk hr0;have HC0 := Aside0.mk hc0;have H1 := Aside0.mk h1;have H2 := Aside0.mk h2;obtain ⟨wa, hwa⟩ : ∃ wa, wa = w.alloc (.cells #[.bool false, .bool false, .bool false, .bool false, .bool false, .bool false, .bool false, .bool false, .bool false, .bool false, .bool false, .bool false, .int .i64 0, .bool false, .int .i64 0, .bool false, .int .i64 0, .bool false, .int .i64 0, .bool false, .int .i64 0] 48) := ⟨_, rfl⟩;have HB : Aside0 (Below w.heap.size w wa) := ⟨by rw [hwa]; exact (Below.refl _ w).alloc (Nat.le_refl _) _⟩;have HZ : Aside0 (wa.heap[w.heap.size]? = some (.cells Own.Ctl.zero.cells 48 (0, 0))) := ⟨by rw [hwa]; exact blk_new w _⟩;have HSZ : Aside0 (some 21 = some c.cells.size) := ⟨rfl⟩;clear hr0 hc0 h h1 h2;go_enter Tryz.func30, Tryz.ntmps30;go_wp2_with (first | (go_at_call 31; rw [← hwa]; (with_reducible refine (head_All.calls k A c0 l _ v _ (Kd.C_below HR0.out HB.out) HC0.out H1.out).mono ?_); rintro e w1 ⟨v1, rfl, hR, hb⟩; obtain ⟨A1, c1, rfl, hc1, hC1⟩ := Kd.R_reads hR; have n0_ := Aside0.mk (HB.out.trans (hb.mono HB.out.size)); have n1_ := Aside0.mk (blk_below HZ.out hb); have HC1 := Aside0.mk hC1; clear HB HZ hb hR hC1 hwa; have HB := n0_; have HZ := n1_; clear n0_ n1_) | (go_at_call 45; (with_reducible refine (ccR_calls k A1 c1 v c _ HC1.out hc1 H2.out).mono ?_); rintro e w2 ⟨rfl, hb⟩; have n0_ := Aside0.mk (HB.out.trans (hb.mono HB.out.size)); have n1_ := Aside0.mk (blk_below HZ.out hb); clear HB HZ hb; have HB := n0_; have HZ := n1_; clear n0_ n1_) | ((with_reducible refine gate_store (t:=48) rfl ?_); refine wpList_store_row rfl 48 _ _ rfl w.heap.size c.cells rfl rfl 48 Own.Ctl.zero.cells HZ.out (cc_info.trans HSZ.out) rfl (by simp [Own.Ctl.cells, Value.oneCell']) ?_));refine bodyPost_ret (results_cell_row rfl _ _ w.heap.size 48 c.cells (0, 0) _ rfl (setRow_heap _ _ _ _ _ _ HZ.out) hu35 rfl (cc_info.trans HSZ.out)) rfl ?_;exact ⟨rfl, age_control.below HB.out (Nat.le_refl _) _⟩
def age_control.f (k : Nat) (l0 : List S35) : Option (Bool × Bool × Bool × Bool × Bool × Bool × Bool × Bool × Bool × Bool × Bool × Bool × Int × Bool × Int × Bool × Int × Bool × Int × Bool × Int) := (age_control.R k l0).bind fun c => some c.tup
theorem age_control.mono : ∀ a0 k, LeO (age_control.f k a0) (age_control.f (k + 1) a0) := by
 intro a0 k
 unfold age_control.f
 exact LeO.bind (age_control.monoR k a0) fun _ => LeO.refl _
theorem age_control.calls (k : Nat) (A0 : Option Addr) (c0 : Nat) (l0 : List S35) (r1 : Bool) (r2 : Bool) (r3 : Bool) (r4 : Bool) (r5 : Bool) (r6 : Bool) (r7 : Bool) (r8 : Bool) (r9 : Bool) (r10 : Bool) (r11 : Bool) (r12 : Bool) (r13 : Int) (r14 : Bool) (r15 : Int) (r16 : Bool) (r17 : Int) (r18 : Bool) (r19 : Int) (r20 : Bool) (r21 : Int) (w : World) (hr0 : Kd.C k35 w A0 l0.length l0) (hc0 : l0.length ≤ c0) (h : age_control.f k l0 = some (r1, r2, r3, r4, r5, r6, r7, r8, r9, r10, r11, r12, r13, r14, r15, r16, r17, r18, r19, r20, r21)) :
  Calls Tryz.prog 30 #[.slice A0 l0.length c0] w fun e w' => e = .returned (.agg #[.bool r1, .bool r2, .bool r3, .bool r4, .bool r5, .bool r6, .bool r7, .bool r8, .bool r9, .bool r10, .bool r11, .bool r12, .int .i64 r13, .bool r14, .int .i64 r15, .bool r16, .int .i64 r17, .bool r18, .int .i64 r19, .bool r20, .int .i64 r21]) ∧ Below w.heap.size w w' := by
 unfold age_control.f at h
 obtain ⟨c, h1, h⟩ := Option.bind_eq_some_iff.1 h;have h := Option.some.inj h
 unfold Own.Ctl.tup at h
 simp only [Prod.mk.injEq] at h;obtain ⟨rfl, rfl, rfl, rfl, rfl, rfl, rfl, rfl, rfl, rfl, rfl, rfl, rfl, rfl, rfl, rfl, rfl, rfl, rfl, rfl, rfl⟩ := h;exact age_control.own k A0 c0 l0 c w hr0 hc0 h1
end Go.Proofs.YtdikhinmlpihdaaGreatDoor.A
