-- Written by a program of this session's (wip/xprint.py), out of the seat's translation.
import Derived.Test.YtbnlglfddglceaaGreatDoorQ0
import Derived.Test.YtbnlglfddglceaaGreatDoorSh
namespace Go.Proofs.YtbnlglfddglceaaGreatDoor.Q
open Go.RowKit Go.Proofs.YtbnlglfddglceaaGreatDoorW.PrintWords Go.Proofs.YtbnlglfddglceaaGreatDoorW.PrintLast Go.Proofs.YtbnlglfddglceaaGreatDoorW.PrintMore
open Go.Proofs.YtbnlglfddglceaaGreatDoor.Own (Y Z sA sB sC)
open Go.Proofs.YtbnlglfddglceaaGreatDoor.Sh
attribute [local go_sem] max2_int min2_int max_two min_two max_three min_three max_four min_four Own.leqS Own.gtrS Own.geqS   -- for this text's walks alone
set_option linter.unusedVariables false
set_option linter.unusedSimpArgs false
/-! ### sprref_Unique: function 51 -/
section
theorem geqS (t : TypeId) (a b : ByteArray) : binOp .geq t (.string a) (.string b) = pure (.bool !(Op.bytesLess a.toList b.toList)) := by simp [binOp, Op.stringOp]
attribute [local go_sem] geqS
/-- Where a text goes: behind the last one that is less. -/
def uBack (out : List ByteArray) (x : ByteArray) : Nat → Nat
 | 0 => 0
 | k + 1 => if Op.bytesLess (rdOf ByteArray.empty out (k : Int)).toList x.toList = true then k + 1 else uBack out x k
theorem uBack_le (out : List ByteArray) (x : ByteArray) : ∀ k, uBack out x k ≤ k
 | 0 => Nat.le_refl _
 | k + 1 => by
  unfold uBack
  split
  ·exact Nat.le_refl _
  ·exact Nat.le_succ_of_le (uBack_le out x k)
def uIns (out : List ByteArray) (x : ByteArray) (k : Nat) : List ByteArray :=
 if k < out.length ∧ (rdOf ByteArray.empty out (k : Int)).toList = x.toList then out else out.take k ++ ([x] ++ out.drop k)
def uStep (out : List ByteArray) (x : ByteArray) : List ByteArray := uIns out x (uBack out x out.length)
def uniqL (l : List ByteArray) : List ByteArray := l.foldl uStep []
theorem uIns_len (out : List ByteArray) (x : ByteArray) (k : Nat) : (uIns out x k).length ≤ out.length + 1 := by
 unfold uIns
 split
 ·omega
 ·simp only [List.length_append, List.length_take, List.length_drop, List.length_cons, List.length_nil]; omega
theorem uniq_take (l : List ByteArray) (n : Nat) (h : n < l.length) : uniqL (l.take (n + 1)) = uStep (uniqL (l.take n)) (rdOf ByteArray.empty l (n : Int)) := by
 have e : rdOf ByteArray.empty l (n : Int) = l[n] := by
  unfold rdOf
  rw [Int.toNat_natCast, List.getD_eq_getElem?_getD, List.getElem?_eq_getElem h]; rfl
 unfold uniqL
 rw [List.take_add_one, List.getElem?_eq_getElem h, List.foldl_append, e]; rfl
set_option maxHeartbeats 4000000 in
set_option maxRecDepth 100000 in
theorem sprref_Unique.own (A0 : Option Addr) (c0 : Nat) (l0 : List ByteArray) (w : World) (hr0 : Kd.C Kd.string w A0 l0.length l0) (hc0 : l0.length ≤ c0) (hl : l0.length < 4398046511104) :
  Calls Tryz.prog 51 #[.slice A0 l0.length c0] w fun e w' => ∃ v0_ : Value, e = .returned v0_ ∧ Kd.R Kd.string 9 w' w.heap.size (fun _ => True) v0_ (uniqL l0) ∧ Below w.heap.size w w' := by
 have HR0 := am hr0;have HC0 := am hc0;have HL := am hl;clear hr0 hc0 hl;have HB := am (Below.refl w.heap.size w);go_enter Tryz.func51, Tryz.ntmps51;go_wp2;go_loopg [3, 4] (l0.length + 1) (fun g v3 v4 w' => ∃ (n : Nat) (out : List ByteArray), v4 = .int .i64 (n : Int) ∧ n ≤ l0.length ∧ n + g = l0.length + 1 ∧ Aside0 (out = uniqL (l0.take n)) ∧ Aside0 (out.length ≤ n) ∧ Aside0 (Kd.R Kd.string 9 w' w.heap.size (fun _ => True) v3 out) ∧ Aside0 (Below w.heap.size w w'))
 case atStart => exact ⟨0, [], rfl, Nat.zero_le _, by omega, ⟨rfl⟩, ⟨Nat.le_refl _⟩, ⟨Kd.R_nil _ _ _ _ _⟩, ⟨hA HB.out⟩⟩
 case round =>
  clear HB;obtain ⟨n, out, rfl, hn, hng, HQ, HN, HO, HB⟩ := hrel;obtain ⟨Ao, co, eo⟩ := Kd.R_slice HO.out;subst eo
  by_cases c2 : n < l0.length
  ·obtain ⟨g1, rfl⟩ : ∃ g1, gk = g1 + 1 := ⟨gk - 1, by omega⟩
   have c2b0 : decide ((n : Int) < (l0.length : Int)) = true := decide_eq_true (by omega);obtain ⟨ad, e225, hx0⟩ := Kd.at_string HR0.out (n : Int) (by omega) (by omega)
   cases e225
   rw [Int.toNat_natCast] at hx0;replace hx0 := (HB.out.cell (World.block_lt_of_cell? w _ hx0)).trans hx0;have HU := am (uniq_take l0 n c2);generalize rdOf ByteArray.empty l0 (n : Int) = x at hx0 HU;have HX := am hx0;have p225 := eq_true (show (0 : Int) ≤ (n : Int) by omega);have q225 := eq_true (show (n : Int) < (l0.length : Int) by omega);have C2 := am c2;have HNG := am hng;have HNL := am hn;clear hx0 c2 hng hn;go_wp2;go_loopw [5] (fun v5 wr' => ∃ (kk : Nat) (kI : Int), v5 = .int .i64 kI ∧ Aside0 (kI = (kk : Int)) ∧ kk ≤ out.length ∧ Aside0 (uBack out x kk = uBack out x out.length) ∧ Aside0 (wr'.cell? (ad.add n) = some (.string x)) ∧ Aside0 (Kd.R Kd.string 9 wr' w.heap.size (fun _ => True) (.slice Ao out.length co) out) ∧ Aside0 (Below w.heap.size w wr')) (fun v5 _ => (intOf v5).toNat)
   case atStart => exact ⟨out.length, (out.length : Int), rfl, ⟨rfl⟩, Nat.le_refl _, ⟨rfl⟩, HX, HO, HB⟩
   case round =>
    clear HX HO HB;obtain ⟨kk, kI, rfl, HKI, hkk, HBK, HX, HO, HB⟩ := hrel
    cases kk with
    | zero =>
     (have z0 : decide ((0 : Int) < kI) = false := by rw [HKI.out]; rfl);go_wp2;go_quiet (fail);(have hub : uBack out x out.length = 0 := by rw [← HBK.out]; rfl);have HUB := am hub;clear hub;go_wp2
     by_cases c9 : 0 < out.length
     ·obtain ⟨ao9, e229, hy9⟩ := Kd.at_string (Kd.R_reads' HO.out).2.2 ((0 : Nat) : Int) (by omega) (by omega)
      (first | (cases e229) | (obtain rfl := Option.some.inj e229))
      rw [Int.toNat_natCast] at hy9;obtain ⟨yv, hyv⟩ : ∃ y_, y_ = rdOf ByteArray.empty out ((0 : Nat) : Int) := ⟨_, rfl⟩;rw [← hyv] at hy9;have HYV := am hyv;clear hyv;(have z9 : decide (kI < (out.length : Int)) = true := by rw [HKI.out]; exact decide_eq_true (by omega));have p229 : (0 ≤ kI) = True := eq_true (by rw [HKI.out]; omega);have q229 : (kI < (out.length : Int)) = True := eq_true (by rw [HKI.out]; omega);(have tn : kI.toNat = 0 := by rw [HKI.out]; rfl);have hy9b := hy9
      (try simp [Go.Addr.add] at hy9b)
      have hx9 := HX.out
      by_cases ceq : yv.toList = x.toList
      ·have e9 : (yv.toList == x.toList) = true := beq_iff_eq.2 ceq
       go_quiet (fail);go_wp2;go_roundg g1
       case measure => omega
       case rel => exact ⟨n + 1, out, (by first | rfl | (simp; done) | (simp; unfold wrap64; have := HNL.out; have := HL.out; omega)), by have := C2.out; omega, by have := HNG.out; omega, ⟨by rw [HU.out, ← HQ.out]; unfold uStep; rw [HUB.out]; unfold uIns; rw [if_pos ⟨c9, by rw [← HYV.out]; exact ceq⟩]⟩, ⟨by have := HN.out; omega⟩, ⟨by (with_reducible repeat (first | apply Kd.R_alloc | apply Kd.R_drewN | apply Kd.R_drew)); exact HO.out⟩, ⟨hA HB.out⟩⟩
      ·have e9 : (yv.toList == x.toList) = false := beq_eq_false_iff_ne.2 ceq
       have UI := am (show uIns out x (0) = out.take (0) ++ ([x] ++ out.drop (0)) by unfold uIns; rw [if_neg (fun q => ceq (by rw [HYV.out]; exact q.2))]);go_quiet (fail);go_wp2
       (try clear tn)
       (try clear hy9)
       (try clear hy9b)
       (try clear hy0)
       (try clear hx9)
       (try clear hx0)
       (try clear hz1)
       (try clear hz2)
       (try clear hge)
       (try clear hg)
       (have hk0 : 0 ≤ kI := by rw [HKI.out]; omega);(have hk1 : kI ≤ (out.length : Int) := by rw [HKI.out]; omega);(have hWB : ∀ m q : Nat, Below w.heap.size w ((wr.drewN m).drewN q).drew := fun m q => below_drew1 (pw_below_drewN (pw_below_drewN HB.out m) q))
       have hWX : ∀ m q : Nat, ((wr.drewN m).drewN q).drew.cell? (ad.add n) = some (.string x) := fun m q => by
        rw [World.cell?_drew];exact HX.out
       (have hWO : ∀ m q : Nat, Kd.R Kd.string 9 ((wr.drewN m).drewN q).drew w.heap.size (fun _ => True) (.slice (some ao9) out.length co) out := fun m q => Kd.R_drew (Kd.R_drewN (Kd.R_drewN HO.out m) q));obtain ⟨i064, hi064, _, hsz64, _⟩ := info_parts info9;obtain ⟨hcut64, -, hC64⟩ := print_take_of (P:=Tryz.prog) Value.string (⟨#[]⟩ : ByteArray) 35 9 .i64 Tryz.underlying35 hi064 hsz64 (some ao9) co out kI hk0 hk1 (Kd.R_reads' HO.out).2.1;obtain ⟨A65, hcut65, hA65, hC65⟩ := print_drop_of (P:=Tryz.prog) Value.string (⟨#[]⟩ : ByteArray) 35 9 .i64 Tryz.underlying35 hi064 hsz64 (some ao9) co out kI hk0 hk1 (Kd.R_reads' HO.out).2.1;have HA65 := am hA65;(have hk2 : kI.toNat ≤ out.length := by omega);have HK2 := am hk2;obtain ⟨oT, hoT⟩ : ∃ t_, t_ = out.take kI.toNat := ⟨_, rfl⟩;obtain ⟨oD, hoD⟩ : ∃ t_, t_ = out.drop kI.toNat := ⟨_, rfl⟩;have HLT := am (show oT.length = kI.toNat by rw [hoT, List.length_take]; omega);have HLD := am (show oD.length = out.length - kI.toNat by rw [hoD, List.length_drop]);rw [← hoT] at hcut64;rw [← hoD] at hcut65;have HOT := am hoT;have HOD := am hoD;clear hi064 hsz64 hC64 hC65 hA65 hk0 hk1 hk2 hoT hoD;refine start_ (n:=14) (S:=fun w' => w'.cell? (ad.add n) = some (.string x)) (ds := [7, 11, 12]) #[Z,Z,Z,Z,Z,Z,Z,Z,Z,Z,Z,Z,Z,Z] (by kernel_rfl) rfl rfl (hWX _ _) (fun hHeld => ?_);generalize hwd : World.drew _ = wd at hHeld ⊢;have n0_ := am (show Below w.heap.size w wd by rw [← hwd]; exact hWB _ _);have n1_ := am (show Kd.R Kd.string 9 wd w.heap.size (fun _ => True) (.slice (some ao9) out.length co) out by rw [← hwd]; exact hWO _ _);clear HB HO HX hWB hWX hWO hwd;have HB := n0_; have HO := n1_; clear n0_ n1_;have HD := am (show Kd.C Kd.string wd A65 oD.length oD by rw [HOD.out]; exact Kd.C_of_reads (enc := Value.string) (h1 := fun _ => rfl) (HA65.out _ (Kd.reads_of_C (Kd.R_reads' HO.out).2.2)));clear HA65;refine pure_ (i:=0) (N:=some 45) (v:=?_) (a':=?_) #[Y,Z,Z,Z,Z,Z,Z,Z,Z,Z,Z,Z,Z,Z] rfl rfl (by kernel_rfl) (fun _ _ _ h => h) (Or.inl ⟨by rfl, ?_⟩) ?_ ?_;rotate_left;(·intro w';go_simp;(with_reducible rfl));rotate_left;(·simp only [Act.put,sA,sB,sC,i64_w,i32_w];rfl)
       refine pure_ (i:=1) (N:=some 46) (v:=?_) (a':=?_) #[Y,Y,Z,Z,Z,Z,Z,Z,Z,Z,Z,Z,Z,Z] rfl rfl (by kernel_rfl) (fun _ _ _ h => h) (Or.inl ⟨by rfl, ?_⟩) ?_ ?_;rotate_left;(·intro w';go_simp;(with_reducible rfl));rotate_left;(·simp only [Act.put,sA,sB,sC,i64_w,i32_w];rfl)
       refine pure_ (i:=2) (N:=some 47) (v:=?_) (a':=?_) #[Y,Y,Y,Z,Z,Z,Z,Z,Z,Z,Z,Z,Z,Z] rfl rfl (by kernel_rfl) (fun _ _ _ h => h) (Or.inl ⟨by rfl, ?_⟩) ?_ ?_;rotate_left;(·intro w';go_simp;(with_reducible rfl));rotate_left;(·simp only [Act.put,sA,sB,sC,i64_w,i32_w];rfl)
       refine pure_ (i:=3) (N:=some 48) (v:=?_) (a':=?_) #[Y,Y,Y,Y,Z,Z,Z,Z,Z,Z,Z,Z,Z,Z] rfl rfl (by kernel_rfl) (fun _ _ _ h => h) (Or.inl ⟨by rfl, ?_⟩) ?_ ?_;rotate_left;(·intro w';go_simp;(with_reducible rfl));rotate_left;(·simp only [Act.put,sA,sB,sC,i64_w,i32_w];rfl)
       refine pure_ (i:=4) (N:=some 49) (v:=?_) (a':=?_) #[Y,Y,Y,Y,Y,Z,Z,Z,Z,Z,Z,Z,Z,Z] rfl rfl (by kernel_rfl) (fun _ _ _ h => h) (Or.inl ⟨by rfl, ?_⟩) ?_ ?_;rotate_left;(·intro w';go_simp;(with_reducible rfl));rotate_left;(·simp only [Act.put,sA,sB,sC,i64_w,i32_w];rfl)
       refine pure_ (i:=5) (N:=some 50) (v:=?_) (a':=?_) #[Y,Y,Y,Y,Y,Y,Z,Z,Z,Z,Z,Z,Z,Z] rfl rfl (by kernel_rfl) (fun _ _ _ h => h) (Or.inl ⟨by rfl, ?_⟩) ?_ ?_;rotate_left;(·intro w';go_simp;(with_reducible rfl));rotate_left;(·simp only [Act.put,sA,sB,sC,i64_w,i32_w];rfl)
       refine take_ (i:=6) (N:=some 51) (v:=?_) (a':=?_) #[Y,Y,Y,Y,Y,Y,Y,Z,Z,Z,Z,Z,Z,Z] rfl rfl (by kernel_rfl) (fun _ _ _ h => h) (Or.inl ⟨by rfl, ?_⟩) hHeld ?_ ?_;rotate_left;(·rintro w' s0;go_simp;(with_reducible rfl));rotate_left;(·simp only [Act.put,sA,sB,sC,i64_w,i32_w];rfl)
       refine pure_ (i:=8) (N:=some 53) (v:=?_) (a':=?_) #[Y,Y,Y,Y,Y,Y,Y,Z,Y,Z,Z,Z,Z,Z] rfl rfl (by kernel_rfl) (fun _ _ _ h => h) (Or.inl ⟨by rfl, ?_⟩) ?_ ?_;rotate_left;(·intro w';go_simp;(with_reducible rfl));rotate_left;(·simp only [Act.put,sA,sB,sC,i64_w,i32_w];rfl)
       refine pure_ (i:=9) (N:=some 54) (v:=?_) (a':=?_) #[Y,Y,Y,Y,Y,Y,Y,Z,Y,Y,Z,Z,Z,Z] rfl rfl (by kernel_rfl) (fun _ _ _ h => h) (Or.inl ⟨by rfl, ?_⟩) ?_ ?_;rotate_left;(·intro w';go_simp;(with_reducible rfl));rotate_left;(·simp only [Act.put,sA,sB,sC,i64_w,i32_w];rfl)
       refine pure_ (i:=10) (N:=some 55) (v:=?_) (a':=?_) #[Y,Y,Y,Y,Y,Y,Y,Z,Y,Y,Y,Z,Z,Z] rfl rfl (by kernel_rfl) (fun _ _ _ h => h) (Or.inl ⟨by rfl, ?_⟩) ?_ ?_;rotate_left;(·intro w';go_simp;(with_reducible rfl));rotate_left;(·simp only [Act.put,sA,sB,sC,i64_w,i32_w];rfl)
       clear hHeld;refine last_ (i:=7) (N:=some 52) #[Y,Y,Y,Y,Y,Y,Y,Y,Y,Y,Y,Z,Z,Z] rfl rfl (by kernel_rfl) (by decide) (fun K hK => ?_);refine Kd.R_lit_step Kd.string _ 9 ?hg (N:=52) ?hd (xs := ([x] : List ByteArray)) (inner := [.string x]) (ok := fun _ => True) (okp := fun _ => True) ?hr ?hp (fun _ hk => hk) trivial (Below.refl _ _) (Nat.le_refl _) (by simp) ?_; (case hd => rfl); (case hg => rfl); (case hr => first | (go_simp; done) | (go_simp; rfl)); (case hp => exact (Reps.one (show Kd.M Kd.string _ _ _ x [.string x] from rfl) (Reps.none _ _)));intro v22 w22 ho23 hb hg_ hnew_;clear hg_ hnew_;have n0_ := am (Kd.R_elder' HO.out (Kd.R_base ho23) hb); have n1_ := am (Kd.R_lower (Kd.R_new' ho23 (Kd.R_lt HO.out)) (below_size HB.out)); have n2_ := am (below_step HB.out hb); have n3_ := am (Kd.C_below HD.out hb); clear HO HB HD; have HO := n0_; have HY := n1_; have HB := n2_; have HD := n3_; clear n0_ n1_ n2_ n3_ hb ho23;obtain ⟨Ay, cy, ey⟩ := Kd.R_slice HY.out;subst ey;refine hK.out _ _ ?_;clear hK K;refine norm_ (a':=?_) ?_ ?_;rotate_left;(·show Act.put _ (some 52) _ = _;simp only [Act.put,sA,sB,sC,i64_w,i32_w];rfl)
       refine last_ (i:=11) (N:=some 56) #[Y,Y,Y,Y,Y,Y,Y,Y,Y,Y,Y,Y,Z,Z] rfl rfl (by kernel_rfl) (by decide) (fun K hK => ?_);refine Kd.R_append_rows_step Kd.string (w0 := w) w.heap.size (by rfl) (.tmp 52) (.tmp 55) 35 9 (.string ⟨#[]⟩) 16 rfl Tryz.underlying35 info9 rfl (by decide) (by omega) (.slice Ay ([x] : List ByteArray).length cy) ([x] : List ByteArray) oD _ _ _ (fun _ => True) (fun _ => False) rfl rfl ?aO ?aR (fun _ _ h => h) (fun _ h => h.elim) ?aF ?aB ?aS ?aL ?_
       (case aR => exact HD.out)
       (case aB => exact HB.out)
       (case aF => exact (fun _ _ => trivial))
       (case aO => exact Kd.R_mono HY.out (fun _ _ => trivial))
       (case aS => exact (below_size HB.out))
       (case aL => have := HN.out; have := HNL.out; have := HL.out; have := HLD.out; simp only [List.length_cons, List.length_nil]; omega)
       intro v23 w23 ho hb hg hat;have n0_ := am (Kd.R_after (ok := fun _ => True) HO.out hg hat); have n1_ := am hb; have n2_ := am ho; clear HO HB HY HD ho hb hg hat; have HO := n0_; have HB := n1_; have HZ := n2_; clear n0_ n1_ n2_;obtain ⟨Az, cz, ez⟩ := Kd.R_slice HZ.out;subst ez;refine hK.out _ _ ?_;clear hK K;refine norm_ (a':=?_) ?_ ?_;rotate_left;(·show Act.put _ (some 56) _ = _;simp only [Act.put,sA,sB,sC,i64_w,i32_w];rfl)
       refine last_ (i:=12) (N:=some 57) #[Y,Y,Y,Y,Y,Y,Y,Y,Y,Y,Y,Y,Y,Z] rfl rfl (by kernel_rfl) (by decide) (fun K hK => ?_);refine Kd.R_append_rows_step Kd.string (w0 := w) w.heap.size (by rfl) (.tmp 47) (.tmp 56) 35 9 (.string ⟨#[]⟩) 16 rfl Tryz.underlying35 info9 rfl (by decide) (by omega) (.slice (some ao9) oT.length co) oT ([x] ++ oD) _ _ _ (fun k_ => some k_ ≠ (.slice Az ([x] ++ oD).length cz : Value).ownBlock) (fun _ => False) rfl rfl ?aO ?aR (fun _ _ h => h) (fun _ h => h.elim) ?aF ?aB ?aS ?aL ?_
       (case aR => exact (Kd.R_reads' HZ.out).2.2)
       (case aB => exact HB.out)
       (case aF => exact (fun k_ hk => Kd.fresh' (Kd.R_lt HZ.out) k_ hk))
       (case aO => rw [HLT.out, HOT.out]; exact Kd.R_mono (Kd.R_take HO.out HK2.out) (fun _ hk => hk.2))
       (case aS => exact (below_size HB.out))
       (case aL => have := HN.out; have := HNL.out; have := HL.out; have := HLT.out; have := HLD.out; have := HK2.out; simp only [List.length_append, List.length_cons, List.length_nil]; omega)
       intro v24 w24 ho hb hg hat;have n0_ := am (Kd.R_mono ho (fun _ _ => trivial)); have n1_ := am hb; clear HO HB HZ ho hb hg hat; have HO := n0_; have HB := n1_; clear n0_ n1_;refine hK.out _ _ ?_;clear hK K;refine norm_ (a':=?_) ?_ ?_;rotate_left;(·show Act.put _ (some 57) _ = _;simp only [Act.put,sA,sB,sC,i64_w,i32_w];rfl)
       refine pure_ (i:=13) (N:=some 3) (v:=?_) (a':=?_) #[Y,Y,Y,Y,Y,Y,Y,Y,Y,Y,Y,Y,Y,Y] rfl rfl (by kernel_rfl) (fun _ _ _ h => h) (Or.inl ⟨by rfl, ?_⟩) ?_ ?_;rotate_left;(·intro w';go_simp;(with_reducible rfl));rotate_left;(·simp only [Act.put,sA,sB,sC,i64_w,i32_w];rfl)
       refine done_ (by kernel_rfl) ?_;go_wp2;go_roundg g1
       case measure => omega
       case rel => exact ⟨n + 1, oT ++ ([x] ++ oD), (by first | rfl | (simp; done) | (simp; unfold wrap64; have := HNL.out; have := HL.out; omega)), by have := C2.out; omega, by have := HNG.out; omega, ⟨by rw [HU.out, ← HQ.out]; unfold uStep; rw [HUB.out, UI.out, HOT.out, HOD.out, show kI.toNat = 0 by rw [HKI.out]; rfl]⟩, ⟨by have := HN.out; have := HK2.out; have := HLT.out; have := HLD.out; simp only [List.length_append, List.length_cons, List.length_nil]; omega⟩, ⟨by (with_reducible repeat (first | apply Kd.R_alloc | apply Kd.R_drewN | apply Kd.R_drew)); exact HO.out⟩, ⟨hA HB.out⟩⟩
     ·have z9 : decide (kI < (out.length : Int)) = false := by rw [HKI.out]; exact decide_eq_false (by omega)
      have UI := am (show uIns out x (0) = out.take (0) ++ ([x] ++ out.drop (0)) by unfold uIns; rw [if_neg (fun q => c9 q.1)]);go_quiet (fail);go_wp2
      (try clear tn)
      (try clear hy9)
      (try clear hy9b)
      (try clear hy0)
      (try clear hx9)
      (try clear hx0)
      (try clear hz1)
      (try clear hz2)
      (try clear hge)
      (try clear hg)
      (have hk0 : 0 ≤ kI := by rw [HKI.out]; omega);(have hk1 : kI ≤ (out.length : Int) := by rw [HKI.out]; omega);(have hWB : ∀ m q : Nat, Below w.heap.size w ((wr.drewN m).drewN q).drew := fun m q => below_drew1 (pw_below_drewN (pw_below_drewN HB.out m) q))
      have hWX : ∀ m q : Nat, ((wr.drewN m).drewN q).drew.cell? (ad.add n) = some (.string x) := fun m q => by
       rw [World.cell?_drew];exact HX.out
      (have hWO : ∀ m q : Nat, Kd.R Kd.string 9 ((wr.drewN m).drewN q).drew w.heap.size (fun _ => True) (.slice Ao out.length co) out := fun m q => Kd.R_drew (Kd.R_drewN (Kd.R_drewN HO.out m) q));obtain ⟨i064, hi064, _, hsz64, _⟩ := info_parts info9;obtain ⟨hcut64, -, hC64⟩ := print_take_of (P:=Tryz.prog) Value.string (⟨#[]⟩ : ByteArray) 35 9 .i64 Tryz.underlying35 hi064 hsz64 Ao co out kI hk0 hk1 (Kd.R_reads' HO.out).2.1;obtain ⟨A65, hcut65, hA65, hC65⟩ := print_drop_of (P:=Tryz.prog) Value.string (⟨#[]⟩ : ByteArray) 35 9 .i64 Tryz.underlying35 hi064 hsz64 Ao co out kI hk0 hk1 (Kd.R_reads' HO.out).2.1;have HA65 := am hA65;(have hk2 : kI.toNat ≤ out.length := by omega);have HK2 := am hk2;obtain ⟨oT, hoT⟩ : ∃ t_, t_ = out.take kI.toNat := ⟨_, rfl⟩;obtain ⟨oD, hoD⟩ : ∃ t_, t_ = out.drop kI.toNat := ⟨_, rfl⟩;have HLT := am (show oT.length = kI.toNat by rw [hoT, List.length_take]; omega);have HLD := am (show oD.length = out.length - kI.toNat by rw [hoD, List.length_drop]);rw [← hoT] at hcut64;rw [← hoD] at hcut65;have HOT := am hoT;have HOD := am hoD;clear hi064 hsz64 hC64 hC65 hA65 hk0 hk1 hk2 hoT hoD;refine start_ (n:=14) (S:=fun w' => w'.cell? (ad.add n) = some (.string x)) (ds := [7, 11, 12]) #[Z,Z,Z,Z,Z,Z,Z,Z,Z,Z,Z,Z,Z,Z] (by kernel_rfl) rfl rfl (hWX _ _) (fun hHeld => ?_);generalize hwd : World.drew _ = wd at hHeld ⊢;have n0_ := am (show Below w.heap.size w wd by rw [← hwd]; exact hWB _ _);have n1_ := am (show Kd.R Kd.string 9 wd w.heap.size (fun _ => True) (.slice Ao out.length co) out by rw [← hwd]; exact hWO _ _);clear HB HO HX hWB hWX hWO hwd;have HB := n0_; have HO := n1_; clear n0_ n1_;have HD := am (show Kd.C Kd.string wd A65 oD.length oD by rw [HOD.out]; exact Kd.C_of_reads (enc := Value.string) (h1 := fun _ => rfl) (HA65.out _ (Kd.reads_of_C (Kd.R_reads' HO.out).2.2)));clear HA65;refine pure_ (i:=0) (N:=some 45) (v:=?_) (a':=?_) #[Y,Z,Z,Z,Z,Z,Z,Z,Z,Z,Z,Z,Z,Z] rfl rfl (by kernel_rfl) (fun _ _ _ h => h) (Or.inl ⟨by rfl, ?_⟩) ?_ ?_;rotate_left;(·intro w';go_simp;(with_reducible rfl));rotate_left;(·simp only [Act.put,sA,sB,sC,i64_w,i32_w];rfl)
      refine pure_ (i:=1) (N:=some 46) (v:=?_) (a':=?_) #[Y,Y,Z,Z,Z,Z,Z,Z,Z,Z,Z,Z,Z,Z] rfl rfl (by kernel_rfl) (fun _ _ _ h => h) (Or.inl ⟨by rfl, ?_⟩) ?_ ?_;rotate_left;(·intro w';go_simp;(with_reducible rfl));rotate_left;(·simp only [Act.put,sA,sB,sC,i64_w,i32_w];rfl)
      refine pure_ (i:=2) (N:=some 47) (v:=?_) (a':=?_) #[Y,Y,Y,Z,Z,Z,Z,Z,Z,Z,Z,Z,Z,Z] rfl rfl (by kernel_rfl) (fun _ _ _ h => h) (Or.inl ⟨by rfl, ?_⟩) ?_ ?_;rotate_left;(·intro w';go_simp;(with_reducible rfl));rotate_left;(·simp only [Act.put,sA,sB,sC,i64_w,i32_w];rfl)
      refine pure_ (i:=3) (N:=some 48) (v:=?_) (a':=?_) #[Y,Y,Y,Y,Z,Z,Z,Z,Z,Z,Z,Z,Z,Z] rfl rfl (by kernel_rfl) (fun _ _ _ h => h) (Or.inl ⟨by rfl, ?_⟩) ?_ ?_;rotate_left;(·intro w';go_simp;(with_reducible rfl));rotate_left;(·simp only [Act.put,sA,sB,sC,i64_w,i32_w];rfl)
      refine pure_ (i:=4) (N:=some 49) (v:=?_) (a':=?_) #[Y,Y,Y,Y,Y,Z,Z,Z,Z,Z,Z,Z,Z,Z] rfl rfl (by kernel_rfl) (fun _ _ _ h => h) (Or.inl ⟨by rfl, ?_⟩) ?_ ?_;rotate_left;(·intro w';go_simp;(with_reducible rfl));rotate_left;(·simp only [Act.put,sA,sB,sC,i64_w,i32_w];rfl)
      refine pure_ (i:=5) (N:=some 50) (v:=?_) (a':=?_) #[Y,Y,Y,Y,Y,Y,Z,Z,Z,Z,Z,Z,Z,Z] rfl rfl (by kernel_rfl) (fun _ _ _ h => h) (Or.inl ⟨by rfl, ?_⟩) ?_ ?_;rotate_left;(·intro w';go_simp;(with_reducible rfl));rotate_left;(·simp only [Act.put,sA,sB,sC,i64_w,i32_w];rfl)
      refine take_ (i:=6) (N:=some 51) (v:=?_) (a':=?_) #[Y,Y,Y,Y,Y,Y,Y,Z,Z,Z,Z,Z,Z,Z] rfl rfl (by kernel_rfl) (fun _ _ _ h => h) (Or.inl ⟨by rfl, ?_⟩) hHeld ?_ ?_;rotate_left;(·rintro w' s0;go_simp;(with_reducible rfl));rotate_left;(·simp only [Act.put,sA,sB,sC,i64_w,i32_w];rfl)
      refine pure_ (i:=8) (N:=some 53) (v:=?_) (a':=?_) #[Y,Y,Y,Y,Y,Y,Y,Z,Y,Z,Z,Z,Z,Z] rfl rfl (by kernel_rfl) (fun _ _ _ h => h) (Or.inl ⟨by rfl, ?_⟩) ?_ ?_;rotate_left;(·intro w';go_simp;(with_reducible rfl));rotate_left;(·simp only [Act.put,sA,sB,sC,i64_w,i32_w];rfl)
      refine pure_ (i:=9) (N:=some 54) (v:=?_) (a':=?_) #[Y,Y,Y,Y,Y,Y,Y,Z,Y,Y,Z,Z,Z,Z] rfl rfl (by kernel_rfl) (fun _ _ _ h => h) (Or.inl ⟨by rfl, ?_⟩) ?_ ?_;rotate_left;(·intro w';go_simp;(with_reducible rfl));rotate_left;(·simp only [Act.put,sA,sB,sC,i64_w,i32_w];rfl)
      refine pure_ (i:=10) (N:=some 55) (v:=?_) (a':=?_) #[Y,Y,Y,Y,Y,Y,Y,Z,Y,Y,Y,Z,Z,Z] rfl rfl (by kernel_rfl) (fun _ _ _ h => h) (Or.inl ⟨by rfl, ?_⟩) ?_ ?_;rotate_left;(·intro w';go_simp;(with_reducible rfl));rotate_left;(·simp only [Act.put,sA,sB,sC,i64_w,i32_w];rfl)
      clear hHeld;refine last_ (i:=7) (N:=some 52) #[Y,Y,Y,Y,Y,Y,Y,Y,Y,Y,Y,Z,Z,Z] rfl rfl (by kernel_rfl) (by decide) (fun K hK => ?_);refine Kd.R_lit_step Kd.string _ 9 ?hg (N:=52) ?hd (xs := ([x] : List ByteArray)) (inner := [.string x]) (ok := fun _ => True) (okp := fun _ => True) ?hr ?hp (fun _ hk => hk) trivial (Below.refl _ _) (Nat.le_refl _) (by simp) ?_; (case hd => rfl); (case hg => rfl); (case hr => first | (go_simp; done) | (go_simp; rfl)); (case hp => exact (Reps.one (show Kd.M Kd.string _ _ _ x [.string x] from rfl) (Reps.none _ _)));intro v22 w22 ho23 hb hg_ hnew_;clear hg_ hnew_;have n0_ := am (Kd.R_elder' HO.out (Kd.R_base ho23) hb); have n1_ := am (Kd.R_lower (Kd.R_new' ho23 (Kd.R_lt HO.out)) (below_size HB.out)); have n2_ := am (below_step HB.out hb); have n3_ := am (Kd.C_below HD.out hb); clear HO HB HD; have HO := n0_; have HY := n1_; have HB := n2_; have HD := n3_; clear n0_ n1_ n2_ n3_ hb ho23;obtain ⟨Ay, cy, ey⟩ := Kd.R_slice HY.out;subst ey;refine hK.out _ _ ?_;clear hK K;refine norm_ (a':=?_) ?_ ?_;rotate_left;(·show Act.put _ (some 52) _ = _;simp only [Act.put,sA,sB,sC,i64_w,i32_w];rfl)
      refine last_ (i:=11) (N:=some 56) #[Y,Y,Y,Y,Y,Y,Y,Y,Y,Y,Y,Y,Z,Z] rfl rfl (by kernel_rfl) (by decide) (fun K hK => ?_);refine Kd.R_append_rows_step Kd.string (w0 := w) w.heap.size (by rfl) (.tmp 52) (.tmp 55) 35 9 (.string ⟨#[]⟩) 16 rfl Tryz.underlying35 info9 rfl (by decide) (by omega) (.slice Ay ([x] : List ByteArray).length cy) ([x] : List ByteArray) oD _ _ _ (fun _ => True) (fun _ => False) rfl rfl ?aO ?aR (fun _ _ h => h) (fun _ h => h.elim) ?aF ?aB ?aS ?aL ?_
      (case aR => exact HD.out)
      (case aB => exact HB.out)
      (case aF => exact (fun _ _ => trivial))
      (case aO => exact Kd.R_mono HY.out (fun _ _ => trivial))
      (case aS => exact (below_size HB.out))
      (case aL => have := HN.out; have := HNL.out; have := HL.out; have := HLD.out; simp only [List.length_cons, List.length_nil]; omega)
      intro v23 w23 ho hb hg hat;have n0_ := am (Kd.R_after (ok := fun _ => True) HO.out hg hat); have n1_ := am hb; have n2_ := am ho; clear HO HB HY HD ho hb hg hat; have HO := n0_; have HB := n1_; have HZ := n2_; clear n0_ n1_ n2_;obtain ⟨Az, cz, ez⟩ := Kd.R_slice HZ.out;subst ez;refine hK.out _ _ ?_;clear hK K;refine norm_ (a':=?_) ?_ ?_;rotate_left;(·show Act.put _ (some 56) _ = _;simp only [Act.put,sA,sB,sC,i64_w,i32_w];rfl)
      refine last_ (i:=12) (N:=some 57) #[Y,Y,Y,Y,Y,Y,Y,Y,Y,Y,Y,Y,Y,Z] rfl rfl (by kernel_rfl) (by decide) (fun K hK => ?_);refine Kd.R_append_rows_step Kd.string (w0 := w) w.heap.size (by rfl) (.tmp 47) (.tmp 56) 35 9 (.string ⟨#[]⟩) 16 rfl Tryz.underlying35 info9 rfl (by decide) (by omega) (.slice Ao oT.length co) oT ([x] ++ oD) _ _ _ (fun k_ => some k_ ≠ (.slice Az ([x] ++ oD).length cz : Value).ownBlock) (fun _ => False) rfl rfl ?aO ?aR (fun _ _ h => h) (fun _ h => h.elim) ?aF ?aB ?aS ?aL ?_
      (case aR => exact (Kd.R_reads' HZ.out).2.2)
      (case aB => exact HB.out)
      (case aF => exact (fun k_ hk => Kd.fresh' (Kd.R_lt HZ.out) k_ hk))
      (case aO => rw [HLT.out, HOT.out]; exact Kd.R_mono (Kd.R_take HO.out HK2.out) (fun _ hk => hk.2))
      (case aS => exact (below_size HB.out))
      (case aL => have := HN.out; have := HNL.out; have := HL.out; have := HLT.out; have := HLD.out; have := HK2.out; simp only [List.length_append, List.length_cons, List.length_nil]; omega)
      intro v24 w24 ho hb hg hat;have n0_ := am (Kd.R_mono ho (fun _ _ => trivial)); have n1_ := am hb; clear HO HB HZ ho hb hg hat; have HO := n0_; have HB := n1_; clear n0_ n1_;refine hK.out _ _ ?_;clear hK K;refine norm_ (a':=?_) ?_ ?_;rotate_left;(·show Act.put _ (some 57) _ = _;simp only [Act.put,sA,sB,sC,i64_w,i32_w];rfl)
      refine pure_ (i:=13) (N:=some 3) (v:=?_) (a':=?_) #[Y,Y,Y,Y,Y,Y,Y,Y,Y,Y,Y,Y,Y,Y] rfl rfl (by kernel_rfl) (fun _ _ _ h => h) (Or.inl ⟨by rfl, ?_⟩) ?_ ?_;rotate_left;(·intro w';go_simp;(with_reducible rfl));rotate_left;(·simp only [Act.put,sA,sB,sC,i64_w,i32_w];rfl)
      refine done_ (by kernel_rfl) ?_;go_wp2;go_roundg g1
      case measure => omega
      case rel => exact ⟨n + 1, oT ++ ([x] ++ oD), (by first | rfl | (simp; done) | (simp; unfold wrap64; have := HNL.out; have := HL.out; omega)), by have := C2.out; omega, by have := HNG.out; omega, ⟨by rw [HU.out, ← HQ.out]; unfold uStep; rw [HUB.out, UI.out, HOT.out, HOD.out, show kI.toNat = 0 by rw [HKI.out]; rfl]⟩, ⟨by have := HN.out; have := HK2.out; have := HLT.out; have := HLD.out; simp only [List.length_append, List.length_cons, List.length_nil]; omega⟩, ⟨by (with_reducible repeat (first | apply Kd.R_alloc | apply Kd.R_drewN | apply Kd.R_drew)); exact HO.out⟩, ⟨hA HB.out⟩⟩
    | succ j =>
     (have z0 : decide ((0 : Int) < kI) = true := by rw [HKI.out]; exact decide_eq_true (by omega));obtain ⟨ao, e226, hy0⟩ := Kd.at_string (Kd.R_reads' HO.out).2.2 (j : Int) (by omega) (by omega)
     cases e226
     rw [Int.toNat_natCast] at hy0;(have hz1 : wrap64 (kI - 1) = (j : Int) := by rw [HKI.out]; unfold wrap64; have := HN.out; have := HNL.out; have := HL.out; omega);(have hz2 : IntKind.i64.wrap (kI - 1) = (j : Int) := by rw [IntKind.wrap_i64, HKI.out]; have := HN.out; have := HNL.out; have := HL.out; omega)
     have hge : ∀ w' : World, (binOp .geq 9 (.string (rdOf ByteArray.empty out (j : Int))) (.string x)).run Tryz.prog w' = .ok (.bool (!Op.bytesLess (rdOf ByteArray.empty out (j : Int)).toList x.toList)) w' := fun w' => by
      go_simp
     have p227 := eq_true (show (0 : Int) ≤ (j : Int) by omega);have q227 := eq_true (show (j : Int) < (out.length : Int) by omega)
     by_cases hlt : Op.bytesLess (rdOf ByteArray.empty out (j : Int)).toList x.toList = true
     ·have hg : (!Op.bytesLess (rdOf ByteArray.empty out (j : Int)).toList x.toList) = false := by rw [hlt]; rfl
      have hx0 := HX.out;go_wp2;go_quiet (fail);(have hub : uBack out x out.length = (j + 1) := by rw [← HBK.out]; show uBack out x (j + 1) = _; rw [uBack, if_pos hlt]);have HUB := am hub;clear hub;go_wp2
      by_cases c9 : (j + 1) < out.length
      ·obtain ⟨ao9, e229, hy9⟩ := Kd.at_string (Kd.R_reads' HO.out).2.2 (((j + 1) : Nat) : Int) (by omega) (by omega)
       (first | (cases e229) | (obtain rfl := Option.some.inj e229))
       rw [Int.toNat_natCast] at hy9;obtain ⟨yv, hyv⟩ : ∃ y_, y_ = rdOf ByteArray.empty out (((j + 1) : Nat) : Int) := ⟨_, rfl⟩;rw [← hyv] at hy9;have HYV := am hyv;clear hyv;(have z9 : decide (kI < (out.length : Int)) = true := by rw [HKI.out]; exact decide_eq_true (by omega));have p229 : (0 ≤ kI) = True := eq_true (by rw [HKI.out]; omega);have q229 : (kI < (out.length : Int)) = True := eq_true (by rw [HKI.out]; omega);(have tn : kI.toNat = (j + 1) := by rw [HKI.out]; rfl);have hy9b := hy9
       (try simp [Go.Addr.add] at hy9b)
       have hx9 := HX.out
       by_cases ceq : yv.toList = x.toList
       ·have e9 : (yv.toList == x.toList) = true := beq_iff_eq.2 ceq
        go_quiet (fail);go_wp2;go_roundg g1
        case measure => omega
        case rel => exact ⟨n + 1, out, (by first | rfl | (simp; done) | (simp; unfold wrap64; have := HNL.out; have := HL.out; omega)), by have := C2.out; omega, by have := HNG.out; omega, ⟨by rw [HU.out, ← HQ.out]; unfold uStep; rw [HUB.out]; unfold uIns; rw [if_pos ⟨c9, by rw [← HYV.out]; exact ceq⟩]⟩, ⟨by have := HN.out; omega⟩, ⟨by (with_reducible repeat (first | apply Kd.R_alloc | apply Kd.R_drewN | apply Kd.R_drew)); exact HO.out⟩, ⟨hA HB.out⟩⟩
       ·have e9 : (yv.toList == x.toList) = false := beq_eq_false_iff_ne.2 ceq
        have UI := am (show uIns out x ((j + 1)) = out.take ((j + 1)) ++ ([x] ++ out.drop ((j + 1))) by unfold uIns; rw [if_neg (fun q => ceq (by rw [HYV.out]; exact q.2))]);go_quiet (fail);go_wp2
        (try clear tn)
        (try clear hy9)
        (try clear hy9b)
        (try clear hy0)
        (try clear hx9)
        (try clear hx0)
        (try clear hz1)
        (try clear hz2)
        (try clear hge)
        (try clear hg)
        (have hk0 : 0 ≤ kI := by rw [HKI.out]; omega);(have hk1 : kI ≤ (out.length : Int) := by rw [HKI.out]; omega);(have hWB : ∀ m q : Nat, Below w.heap.size w ((wr.drewN m).drewN q).drew := fun m q => below_drew1 (pw_below_drewN (pw_below_drewN HB.out m) q))
        have hWX : ∀ m q : Nat, ((wr.drewN m).drewN q).drew.cell? (ad.add n) = some (.string x) := fun m q => by
         rw [World.cell?_drew];exact HX.out
        (have hWO : ∀ m q : Nat, Kd.R Kd.string 9 ((wr.drewN m).drewN q).drew w.heap.size (fun _ => True) (.slice (some ao) out.length co) out := fun m q => Kd.R_drew (Kd.R_drewN (Kd.R_drewN HO.out m) q));obtain ⟨i064, hi064, _, hsz64, _⟩ := info_parts info9;obtain ⟨hcut64, -, hC64⟩ := print_take_of (P:=Tryz.prog) Value.string (⟨#[]⟩ : ByteArray) 35 9 .i64 Tryz.underlying35 hi064 hsz64 (some ao) co out kI hk0 hk1 (Kd.R_reads' HO.out).2.1;obtain ⟨A65, hcut65, hA65, hC65⟩ := print_drop_of (P:=Tryz.prog) Value.string (⟨#[]⟩ : ByteArray) 35 9 .i64 Tryz.underlying35 hi064 hsz64 (some ao) co out kI hk0 hk1 (Kd.R_reads' HO.out).2.1;have HA65 := am hA65;(have hk2 : kI.toNat ≤ out.length := by omega);have HK2 := am hk2;obtain ⟨oT, hoT⟩ : ∃ t_, t_ = out.take kI.toNat := ⟨_, rfl⟩;obtain ⟨oD, hoD⟩ : ∃ t_, t_ = out.drop kI.toNat := ⟨_, rfl⟩;have HLT := am (show oT.length = kI.toNat by rw [hoT, List.length_take]; omega);have HLD := am (show oD.length = out.length - kI.toNat by rw [hoD, List.length_drop]);rw [← hoT] at hcut64;rw [← hoD] at hcut65;have HOT := am hoT;have HOD := am hoD;clear hi064 hsz64 hC64 hC65 hA65 hk0 hk1 hk2 hoT hoD;refine start_ (n:=14) (S:=fun w' => w'.cell? (ad.add n) = some (.string x)) (ds := [7, 11, 12]) #[Z,Z,Z,Z,Z,Z,Z,Z,Z,Z,Z,Z,Z,Z] (by kernel_rfl) rfl rfl (hWX _ _) (fun hHeld => ?_);generalize hwd : World.drew _ = wd at hHeld ⊢;have n0_ := am (show Below w.heap.size w wd by rw [← hwd]; exact hWB _ _);have n1_ := am (show Kd.R Kd.string 9 wd w.heap.size (fun _ => True) (.slice (some ao) out.length co) out by rw [← hwd]; exact hWO _ _);clear HB HO HX hWB hWX hWO hwd;have HB := n0_; have HO := n1_; clear n0_ n1_;have HD := am (show Kd.C Kd.string wd A65 oD.length oD by rw [HOD.out]; exact Kd.C_of_reads (enc := Value.string) (h1 := fun _ => rfl) (HA65.out _ (Kd.reads_of_C (Kd.R_reads' HO.out).2.2)));clear HA65;refine pure_ (i:=0) (N:=some 45) (v:=?_) (a':=?_) #[Y,Z,Z,Z,Z,Z,Z,Z,Z,Z,Z,Z,Z,Z] rfl rfl (by kernel_rfl) (fun _ _ _ h => h) (Or.inl ⟨by rfl, ?_⟩) ?_ ?_;rotate_left;(·intro w';go_simp;(with_reducible rfl));rotate_left;(·simp only [Act.put,sA,sB,sC,i64_w,i32_w];rfl)
        refine pure_ (i:=1) (N:=some 46) (v:=?_) (a':=?_) #[Y,Y,Z,Z,Z,Z,Z,Z,Z,Z,Z,Z,Z,Z] rfl rfl (by kernel_rfl) (fun _ _ _ h => h) (Or.inl ⟨by rfl, ?_⟩) ?_ ?_;rotate_left;(·intro w';go_simp;(with_reducible rfl));rotate_left;(·simp only [Act.put,sA,sB,sC,i64_w,i32_w];rfl)
        refine pure_ (i:=2) (N:=some 47) (v:=?_) (a':=?_) #[Y,Y,Y,Z,Z,Z,Z,Z,Z,Z,Z,Z,Z,Z] rfl rfl (by kernel_rfl) (fun _ _ _ h => h) (Or.inl ⟨by rfl, ?_⟩) ?_ ?_;rotate_left;(·intro w';go_simp;(with_reducible rfl));rotate_left;(·simp only [Act.put,sA,sB,sC,i64_w,i32_w];rfl)
        refine pure_ (i:=3) (N:=some 48) (v:=?_) (a':=?_) #[Y,Y,Y,Y,Z,Z,Z,Z,Z,Z,Z,Z,Z,Z] rfl rfl (by kernel_rfl) (fun _ _ _ h => h) (Or.inl ⟨by rfl, ?_⟩) ?_ ?_;rotate_left;(·intro w';go_simp;(with_reducible rfl));rotate_left;(·simp only [Act.put,sA,sB,sC,i64_w,i32_w];rfl)
        refine pure_ (i:=4) (N:=some 49) (v:=?_) (a':=?_) #[Y,Y,Y,Y,Y,Z,Z,Z,Z,Z,Z,Z,Z,Z] rfl rfl (by kernel_rfl) (fun _ _ _ h => h) (Or.inl ⟨by rfl, ?_⟩) ?_ ?_;rotate_left;(·intro w';go_simp;(with_reducible rfl));rotate_left;(·simp only [Act.put,sA,sB,sC,i64_w,i32_w];rfl)
        refine pure_ (i:=5) (N:=some 50) (v:=?_) (a':=?_) #[Y,Y,Y,Y,Y,Y,Z,Z,Z,Z,Z,Z,Z,Z] rfl rfl (by kernel_rfl) (fun _ _ _ h => h) (Or.inl ⟨by rfl, ?_⟩) ?_ ?_;rotate_left;(·intro w';go_simp;(with_reducible rfl));rotate_left;(·simp only [Act.put,sA,sB,sC,i64_w,i32_w];rfl)
        refine take_ (i:=6) (N:=some 51) (v:=?_) (a':=?_) #[Y,Y,Y,Y,Y,Y,Y,Z,Z,Z,Z,Z,Z,Z] rfl rfl (by kernel_rfl) (fun _ _ _ h => h) (Or.inl ⟨by rfl, ?_⟩) hHeld ?_ ?_;rotate_left;(·rintro w' s0;go_simp;(with_reducible rfl));rotate_left;(·simp only [Act.put,sA,sB,sC,i64_w,i32_w];rfl)
        refine pure_ (i:=8) (N:=some 53) (v:=?_) (a':=?_) #[Y,Y,Y,Y,Y,Y,Y,Z,Y,Z,Z,Z,Z,Z] rfl rfl (by kernel_rfl) (fun _ _ _ h => h) (Or.inl ⟨by rfl, ?_⟩) ?_ ?_;rotate_left;(·intro w';go_simp;(with_reducible rfl));rotate_left;(·simp only [Act.put,sA,sB,sC,i64_w,i32_w];rfl)
        refine pure_ (i:=9) (N:=some 54) (v:=?_) (a':=?_) #[Y,Y,Y,Y,Y,Y,Y,Z,Y,Y,Z,Z,Z,Z] rfl rfl (by kernel_rfl) (fun _ _ _ h => h) (Or.inl ⟨by rfl, ?_⟩) ?_ ?_;rotate_left;(·intro w';go_simp;(with_reducible rfl));rotate_left;(·simp only [Act.put,sA,sB,sC,i64_w,i32_w];rfl)
        refine pure_ (i:=10) (N:=some 55) (v:=?_) (a':=?_) #[Y,Y,Y,Y,Y,Y,Y,Z,Y,Y,Y,Z,Z,Z] rfl rfl (by kernel_rfl) (fun _ _ _ h => h) (Or.inl ⟨by rfl, ?_⟩) ?_ ?_;rotate_left;(·intro w';go_simp;(with_reducible rfl));rotate_left;(·simp only [Act.put,sA,sB,sC,i64_w,i32_w];rfl)
        clear hHeld;refine last_ (i:=7) (N:=some 52) #[Y,Y,Y,Y,Y,Y,Y,Y,Y,Y,Y,Z,Z,Z] rfl rfl (by kernel_rfl) (by decide) (fun K hK => ?_);refine Kd.R_lit_step Kd.string _ 9 ?hg (N:=52) ?hd (xs := ([x] : List ByteArray)) (inner := [.string x]) (ok := fun _ => True) (okp := fun _ => True) ?hr ?hp (fun _ hk => hk) trivial (Below.refl _ _) (Nat.le_refl _) (by simp) ?_; (case hd => rfl); (case hg => rfl); (case hr => first | (go_simp; done) | (go_simp; rfl)); (case hp => exact (Reps.one (show Kd.M Kd.string _ _ _ x [.string x] from rfl) (Reps.none _ _)));intro v22 w22 ho23 hb hg_ hnew_;clear hg_ hnew_;have n0_ := am (Kd.R_elder' HO.out (Kd.R_base ho23) hb); have n1_ := am (Kd.R_lower (Kd.R_new' ho23 (Kd.R_lt HO.out)) (below_size HB.out)); have n2_ := am (below_step HB.out hb); have n3_ := am (Kd.C_below HD.out hb); clear HO HB HD; have HO := n0_; have HY := n1_; have HB := n2_; have HD := n3_; clear n0_ n1_ n2_ n3_ hb ho23;obtain ⟨Ay, cy, ey⟩ := Kd.R_slice HY.out;subst ey;refine hK.out _ _ ?_;clear hK K;refine norm_ (a':=?_) ?_ ?_;rotate_left;(·show Act.put _ (some 52) _ = _;simp only [Act.put,sA,sB,sC,i64_w,i32_w];rfl)
        refine last_ (i:=11) (N:=some 56) #[Y,Y,Y,Y,Y,Y,Y,Y,Y,Y,Y,Y,Z,Z] rfl rfl (by kernel_rfl) (by decide) (fun K hK => ?_);refine Kd.R_append_rows_step Kd.string (w0 := w) w.heap.size (by rfl) (.tmp 52) (.tmp 55) 35 9 (.string ⟨#[]⟩) 16 rfl Tryz.underlying35 info9 rfl (by decide) (by omega) (.slice Ay ([x] : List ByteArray).length cy) ([x] : List ByteArray) oD _ _ _ (fun _ => True) (fun _ => False) rfl rfl ?aO ?aR (fun _ _ h => h) (fun _ h => h.elim) ?aF ?aB ?aS ?aL ?_
        (case aR => exact HD.out)
        (case aB => exact HB.out)
        (case aF => exact (fun _ _ => trivial))
        (case aO => exact Kd.R_mono HY.out (fun _ _ => trivial))
        (case aS => exact (below_size HB.out))
        (case aL => have := HN.out; have := HNL.out; have := HL.out; have := HLD.out; simp only [List.length_cons, List.length_nil]; omega)
        intro v23 w23 ho hb hg hat;have n0_ := am (Kd.R_after (ok := fun _ => True) HO.out hg hat); have n1_ := am hb; have n2_ := am ho; clear HO HB HY HD ho hb hg hat; have HO := n0_; have HB := n1_; have HZ := n2_; clear n0_ n1_ n2_;obtain ⟨Az, cz, ez⟩ := Kd.R_slice HZ.out;subst ez;refine hK.out _ _ ?_;clear hK K;refine norm_ (a':=?_) ?_ ?_;rotate_left;(·show Act.put _ (some 56) _ = _;simp only [Act.put,sA,sB,sC,i64_w,i32_w];rfl)
        refine last_ (i:=12) (N:=some 57) #[Y,Y,Y,Y,Y,Y,Y,Y,Y,Y,Y,Y,Y,Z] rfl rfl (by kernel_rfl) (by decide) (fun K hK => ?_);refine Kd.R_append_rows_step Kd.string (w0 := w) w.heap.size (by rfl) (.tmp 47) (.tmp 56) 35 9 (.string ⟨#[]⟩) 16 rfl Tryz.underlying35 info9 rfl (by decide) (by omega) (.slice (some ao) oT.length co) oT ([x] ++ oD) _ _ _ (fun k_ => some k_ ≠ (.slice Az ([x] ++ oD).length cz : Value).ownBlock) (fun _ => False) rfl rfl ?aO ?aR (fun _ _ h => h) (fun _ h => h.elim) ?aF ?aB ?aS ?aL ?_
        (case aR => exact (Kd.R_reads' HZ.out).2.2)
        (case aB => exact HB.out)
        (case aF => exact (fun k_ hk => Kd.fresh' (Kd.R_lt HZ.out) k_ hk))
        (case aO => rw [HLT.out, HOT.out]; exact Kd.R_mono (Kd.R_take HO.out HK2.out) (fun _ hk => hk.2))
        (case aS => exact (below_size HB.out))
        (case aL => have := HN.out; have := HNL.out; have := HL.out; have := HLT.out; have := HLD.out; have := HK2.out; simp only [List.length_append, List.length_cons, List.length_nil]; omega)
        intro v24 w24 ho hb hg hat;have n0_ := am (Kd.R_mono ho (fun _ _ => trivial)); have n1_ := am hb; clear HO HB HZ ho hb hg hat; have HO := n0_; have HB := n1_; clear n0_ n1_;refine hK.out _ _ ?_;clear hK K;refine norm_ (a':=?_) ?_ ?_;rotate_left;(·show Act.put _ (some 57) _ = _;simp only [Act.put,sA,sB,sC,i64_w,i32_w];rfl)
        refine pure_ (i:=13) (N:=some 3) (v:=?_) (a':=?_) #[Y,Y,Y,Y,Y,Y,Y,Y,Y,Y,Y,Y,Y,Y] rfl rfl (by kernel_rfl) (fun _ _ _ h => h) (Or.inl ⟨by rfl, ?_⟩) ?_ ?_;rotate_left;(·intro w';go_simp;(with_reducible rfl));rotate_left;(·simp only [Act.put,sA,sB,sC,i64_w,i32_w];rfl)
        refine done_ (by kernel_rfl) ?_;go_wp2;go_roundg g1
        case measure => omega
        case rel => exact ⟨n + 1, oT ++ ([x] ++ oD), (by first | rfl | (simp; done) | (simp; unfold wrap64; have := HNL.out; have := HL.out; omega)), by have := C2.out; omega, by have := HNG.out; omega, ⟨by rw [HU.out, ← HQ.out]; unfold uStep; rw [HUB.out, UI.out, HOT.out, HOD.out, show kI.toNat = (j + 1) by rw [HKI.out]; rfl]⟩, ⟨by have := HN.out; have := HK2.out; have := HLT.out; have := HLD.out; simp only [List.length_append, List.length_cons, List.length_nil]; omega⟩, ⟨by (with_reducible repeat (first | apply Kd.R_alloc | apply Kd.R_drewN | apply Kd.R_drew)); exact HO.out⟩, ⟨hA HB.out⟩⟩
      ·have z9 : decide (kI < (out.length : Int)) = false := by rw [HKI.out]; exact decide_eq_false (by omega)
       have UI := am (show uIns out x ((j + 1)) = out.take ((j + 1)) ++ ([x] ++ out.drop ((j + 1))) by unfold uIns; rw [if_neg (fun q => c9 q.1)]);go_quiet (fail);go_wp2
       (try clear tn)
       (try clear hy9)
       (try clear hy9b)
       (try clear hy0)
       (try clear hx9)
       (try clear hx0)
       (try clear hz1)
       (try clear hz2)
       (try clear hge)
       (try clear hg)
       (have hk0 : 0 ≤ kI := by rw [HKI.out]; omega);(have hk1 : kI ≤ (out.length : Int) := by rw [HKI.out]; omega);(have hWB : ∀ m q : Nat, Below w.heap.size w ((wr.drewN m).drewN q).drew := fun m q => below_drew1 (pw_below_drewN (pw_below_drewN HB.out m) q))
       have hWX : ∀ m q : Nat, ((wr.drewN m).drewN q).drew.cell? (ad.add n) = some (.string x) := fun m q => by
        rw [World.cell?_drew];exact HX.out
       (have hWO : ∀ m q : Nat, Kd.R Kd.string 9 ((wr.drewN m).drewN q).drew w.heap.size (fun _ => True) (.slice (some ao) out.length co) out := fun m q => Kd.R_drew (Kd.R_drewN (Kd.R_drewN HO.out m) q));obtain ⟨i064, hi064, _, hsz64, _⟩ := info_parts info9;obtain ⟨hcut64, -, hC64⟩ := print_take_of (P:=Tryz.prog) Value.string (⟨#[]⟩ : ByteArray) 35 9 .i64 Tryz.underlying35 hi064 hsz64 (some ao) co out kI hk0 hk1 (Kd.R_reads' HO.out).2.1;obtain ⟨A65, hcut65, hA65, hC65⟩ := print_drop_of (P:=Tryz.prog) Value.string (⟨#[]⟩ : ByteArray) 35 9 .i64 Tryz.underlying35 hi064 hsz64 (some ao) co out kI hk0 hk1 (Kd.R_reads' HO.out).2.1;have HA65 := am hA65;(have hk2 : kI.toNat ≤ out.length := by omega);have HK2 := am hk2;obtain ⟨oT, hoT⟩ : ∃ t_, t_ = out.take kI.toNat := ⟨_, rfl⟩;obtain ⟨oD, hoD⟩ : ∃ t_, t_ = out.drop kI.toNat := ⟨_, rfl⟩;have HLT := am (show oT.length = kI.toNat by rw [hoT, List.length_take]; omega);have HLD := am (show oD.length = out.length - kI.toNat by rw [hoD, List.length_drop]);rw [← hoT] at hcut64;rw [← hoD] at hcut65;have HOT := am hoT;have HOD := am hoD;clear hi064 hsz64 hC64 hC65 hA65 hk0 hk1 hk2 hoT hoD;refine start_ (n:=14) (S:=fun w' => w'.cell? (ad.add n) = some (.string x)) (ds := [7, 11, 12]) #[Z,Z,Z,Z,Z,Z,Z,Z,Z,Z,Z,Z,Z,Z] (by kernel_rfl) rfl rfl (hWX _ _) (fun hHeld => ?_);generalize hwd : World.drew _ = wd at hHeld ⊢;have n0_ := am (show Below w.heap.size w wd by rw [← hwd]; exact hWB _ _);have n1_ := am (show Kd.R Kd.string 9 wd w.heap.size (fun _ => True) (.slice (some ao) out.length co) out by rw [← hwd]; exact hWO _ _);clear HB HO HX hWB hWX hWO hwd;have HB := n0_; have HO := n1_; clear n0_ n1_;have HD := am (show Kd.C Kd.string wd A65 oD.length oD by rw [HOD.out]; exact Kd.C_of_reads (enc := Value.string) (h1 := fun _ => rfl) (HA65.out _ (Kd.reads_of_C (Kd.R_reads' HO.out).2.2)));clear HA65;refine pure_ (i:=0) (N:=some 45) (v:=?_) (a':=?_) #[Y,Z,Z,Z,Z,Z,Z,Z,Z,Z,Z,Z,Z,Z] rfl rfl (by kernel_rfl) (fun _ _ _ h => h) (Or.inl ⟨by rfl, ?_⟩) ?_ ?_;rotate_left;(·intro w';go_simp;(with_reducible rfl));rotate_left;(·simp only [Act.put,sA,sB,sC,i64_w,i32_w];rfl)
       refine pure_ (i:=1) (N:=some 46) (v:=?_) (a':=?_) #[Y,Y,Z,Z,Z,Z,Z,Z,Z,Z,Z,Z,Z,Z] rfl rfl (by kernel_rfl) (fun _ _ _ h => h) (Or.inl ⟨by rfl, ?_⟩) ?_ ?_;rotate_left;(·intro w';go_simp;(with_reducible rfl));rotate_left;(·simp only [Act.put,sA,sB,sC,i64_w,i32_w];rfl)
       refine pure_ (i:=2) (N:=some 47) (v:=?_) (a':=?_) #[Y,Y,Y,Z,Z,Z,Z,Z,Z,Z,Z,Z,Z,Z] rfl rfl (by kernel_rfl) (fun _ _ _ h => h) (Or.inl ⟨by rfl, ?_⟩) ?_ ?_;rotate_left;(·intro w';go_simp;(with_reducible rfl));rotate_left;(·simp only [Act.put,sA,sB,sC,i64_w,i32_w];rfl)
       refine pure_ (i:=3) (N:=some 48) (v:=?_) (a':=?_) #[Y,Y,Y,Y,Z,Z,Z,Z,Z,Z,Z,Z,Z,Z] rfl rfl (by kernel_rfl) (fun _ _ _ h => h) (Or.inl ⟨by rfl, ?_⟩) ?_ ?_;rotate_left;(·intro w';go_simp;(with_reducible rfl));rotate_left;(·simp only [Act.put,sA,sB,sC,i64_w,i32_w];rfl)
       refine pure_ (i:=4) (N:=some 49) (v:=?_) (a':=?_) #[Y,Y,Y,Y,Y,Z,Z,Z,Z,Z,Z,Z,Z,Z] rfl rfl (by kernel_rfl) (fun _ _ _ h => h) (Or.inl ⟨by rfl, ?_⟩) ?_ ?_;rotate_left;(·intro w';go_simp;(with_reducible rfl));rotate_left;(·simp only [Act.put,sA,sB,sC,i64_w,i32_w];rfl)
       refine pure_ (i:=5) (N:=some 50) (v:=?_) (a':=?_) #[Y,Y,Y,Y,Y,Y,Z,Z,Z,Z,Z,Z,Z,Z] rfl rfl (by kernel_rfl) (fun _ _ _ h => h) (Or.inl ⟨by rfl, ?_⟩) ?_ ?_;rotate_left;(·intro w';go_simp;(with_reducible rfl));rotate_left;(·simp only [Act.put,sA,sB,sC,i64_w,i32_w];rfl)
       refine take_ (i:=6) (N:=some 51) (v:=?_) (a':=?_) #[Y,Y,Y,Y,Y,Y,Y,Z,Z,Z,Z,Z,Z,Z] rfl rfl (by kernel_rfl) (fun _ _ _ h => h) (Or.inl ⟨by rfl, ?_⟩) hHeld ?_ ?_;rotate_left;(·rintro w' s0;go_simp;(with_reducible rfl));rotate_left;(·simp only [Act.put,sA,sB,sC,i64_w,i32_w];rfl)
       refine pure_ (i:=8) (N:=some 53) (v:=?_) (a':=?_) #[Y,Y,Y,Y,Y,Y,Y,Z,Y,Z,Z,Z,Z,Z] rfl rfl (by kernel_rfl) (fun _ _ _ h => h) (Or.inl ⟨by rfl, ?_⟩) ?_ ?_;rotate_left;(·intro w';go_simp;(with_reducible rfl));rotate_left;(·simp only [Act.put,sA,sB,sC,i64_w,i32_w];rfl)
       refine pure_ (i:=9) (N:=some 54) (v:=?_) (a':=?_) #[Y,Y,Y,Y,Y,Y,Y,Z,Y,Y,Z,Z,Z,Z] rfl rfl (by kernel_rfl) (fun _ _ _ h => h) (Or.inl ⟨by rfl, ?_⟩) ?_ ?_;rotate_left;(·intro w';go_simp;(with_reducible rfl));rotate_left;(·simp only [Act.put,sA,sB,sC,i64_w,i32_w];rfl)
       refine pure_ (i:=10) (N:=some 55) (v:=?_) (a':=?_) #[Y,Y,Y,Y,Y,Y,Y,Z,Y,Y,Y,Z,Z,Z] rfl rfl (by kernel_rfl) (fun _ _ _ h => h) (Or.inl ⟨by rfl, ?_⟩) ?_ ?_;rotate_left;(·intro w';go_simp;(with_reducible rfl));rotate_left;(·simp only [Act.put,sA,sB,sC,i64_w,i32_w];rfl)
       clear hHeld;refine last_ (i:=7) (N:=some 52) #[Y,Y,Y,Y,Y,Y,Y,Y,Y,Y,Y,Z,Z,Z] rfl rfl (by kernel_rfl) (by decide) (fun K hK => ?_);refine Kd.R_lit_step Kd.string _ 9 ?hg (N:=52) ?hd (xs := ([x] : List ByteArray)) (inner := [.string x]) (ok := fun _ => True) (okp := fun _ => True) ?hr ?hp (fun _ hk => hk) trivial (Below.refl _ _) (Nat.le_refl _) (by simp) ?_; (case hd => rfl); (case hg => rfl); (case hr => first | (go_simp; done) | (go_simp; rfl)); (case hp => exact (Reps.one (show Kd.M Kd.string _ _ _ x [.string x] from rfl) (Reps.none _ _)));intro v22 w22 ho23 hb hg_ hnew_;clear hg_ hnew_;have n0_ := am (Kd.R_elder' HO.out (Kd.R_base ho23) hb); have n1_ := am (Kd.R_lower (Kd.R_new' ho23 (Kd.R_lt HO.out)) (below_size HB.out)); have n2_ := am (below_step HB.out hb); have n3_ := am (Kd.C_below HD.out hb); clear HO HB HD; have HO := n0_; have HY := n1_; have HB := n2_; have HD := n3_; clear n0_ n1_ n2_ n3_ hb ho23;obtain ⟨Ay, cy, ey⟩ := Kd.R_slice HY.out;subst ey;refine hK.out _ _ ?_;clear hK K;refine norm_ (a':=?_) ?_ ?_;rotate_left;(·show Act.put _ (some 52) _ = _;simp only [Act.put,sA,sB,sC,i64_w,i32_w];rfl)
       refine last_ (i:=11) (N:=some 56) #[Y,Y,Y,Y,Y,Y,Y,Y,Y,Y,Y,Y,Z,Z] rfl rfl (by kernel_rfl) (by decide) (fun K hK => ?_);refine Kd.R_append_rows_step Kd.string (w0 := w) w.heap.size (by rfl) (.tmp 52) (.tmp 55) 35 9 (.string ⟨#[]⟩) 16 rfl Tryz.underlying35 info9 rfl (by decide) (by omega) (.slice Ay ([x] : List ByteArray).length cy) ([x] : List ByteArray) oD _ _ _ (fun _ => True) (fun _ => False) rfl rfl ?aO ?aR (fun _ _ h => h) (fun _ h => h.elim) ?aF ?aB ?aS ?aL ?_
       (case aR => exact HD.out)
       (case aB => exact HB.out)
       (case aF => exact (fun _ _ => trivial))
       (case aO => exact Kd.R_mono HY.out (fun _ _ => trivial))
       (case aS => exact (below_size HB.out))
       (case aL => have := HN.out; have := HNL.out; have := HL.out; have := HLD.out; simp only [List.length_cons, List.length_nil]; omega)
       intro v23 w23 ho hb hg hat;have n0_ := am (Kd.R_after (ok := fun _ => True) HO.out hg hat); have n1_ := am hb; have n2_ := am ho; clear HO HB HY HD ho hb hg hat; have HO := n0_; have HB := n1_; have HZ := n2_; clear n0_ n1_ n2_;obtain ⟨Az, cz, ez⟩ := Kd.R_slice HZ.out;subst ez;refine hK.out _ _ ?_;clear hK K;refine norm_ (a':=?_) ?_ ?_;rotate_left;(·show Act.put _ (some 56) _ = _;simp only [Act.put,sA,sB,sC,i64_w,i32_w];rfl)
       refine last_ (i:=12) (N:=some 57) #[Y,Y,Y,Y,Y,Y,Y,Y,Y,Y,Y,Y,Y,Z] rfl rfl (by kernel_rfl) (by decide) (fun K hK => ?_);refine Kd.R_append_rows_step Kd.string (w0 := w) w.heap.size (by rfl) (.tmp 47) (.tmp 56) 35 9 (.string ⟨#[]⟩) 16 rfl Tryz.underlying35 info9 rfl (by decide) (by omega) (.slice (some ao) oT.length co) oT ([x] ++ oD) _ _ _ (fun k_ => some k_ ≠ (.slice Az ([x] ++ oD).length cz : Value).ownBlock) (fun _ => False) rfl rfl ?aO ?aR (fun _ _ h => h) (fun _ h => h.elim) ?aF ?aB ?aS ?aL ?_
       (case aR => exact (Kd.R_reads' HZ.out).2.2)
       (case aB => exact HB.out)
       (case aF => exact (fun k_ hk => Kd.fresh' (Kd.R_lt HZ.out) k_ hk))
       (case aO => rw [HLT.out, HOT.out]; exact Kd.R_mono (Kd.R_take HO.out HK2.out) (fun _ hk => hk.2))
       (case aS => exact (below_size HB.out))
       (case aL => have := HN.out; have := HNL.out; have := HL.out; have := HLT.out; have := HLD.out; have := HK2.out; simp only [List.length_append, List.length_cons, List.length_nil]; omega)
       intro v24 w24 ho hb hg hat;have n0_ := am (Kd.R_mono ho (fun _ _ => trivial)); have n1_ := am hb; clear HO HB HZ ho hb hg hat; have HO := n0_; have HB := n1_; clear n0_ n1_;refine hK.out _ _ ?_;clear hK K;refine norm_ (a':=?_) ?_ ?_;rotate_left;(·show Act.put _ (some 57) _ = _;simp only [Act.put,sA,sB,sC,i64_w,i32_w];rfl)
       refine pure_ (i:=13) (N:=some 3) (v:=?_) (a':=?_) #[Y,Y,Y,Y,Y,Y,Y,Y,Y,Y,Y,Y,Y,Y] rfl rfl (by kernel_rfl) (fun _ _ _ h => h) (Or.inl ⟨by rfl, ?_⟩) ?_ ?_;rotate_left;(·intro w';go_simp;(with_reducible rfl));rotate_left;(·simp only [Act.put,sA,sB,sC,i64_w,i32_w];rfl)
       refine done_ (by kernel_rfl) ?_;go_wp2;go_roundg g1
       case measure => omega
       case rel => exact ⟨n + 1, oT ++ ([x] ++ oD), (by first | rfl | (simp; done) | (simp; unfold wrap64; have := HNL.out; have := HL.out; omega)), by have := C2.out; omega, by have := HNG.out; omega, ⟨by rw [HU.out, ← HQ.out]; unfold uStep; rw [HUB.out, UI.out, HOT.out, HOD.out, show kI.toNat = (j + 1) by rw [HKI.out]; rfl]⟩, ⟨by have := HN.out; have := HK2.out; have := HLT.out; have := HLD.out; simp only [List.length_append, List.length_cons, List.length_nil]; omega⟩, ⟨by (with_reducible repeat (first | apply Kd.R_alloc | apply Kd.R_drewN | apply Kd.R_drew)); exact HO.out⟩, ⟨hA HB.out⟩⟩
     ·have hg : (!Op.bytesLess (rdOf ByteArray.empty out (j : Int)).toList x.toList) = true := by rw [Bool.eq_false_iff.2 hlt]; rfl
      have hx0 := HX.out;go_wp2;go_quiet (fail);go_wp2;go_roundw
      case measure => simp [intOf]; rw [HKI.out]; omega
      case rel => exact ⟨j, (j : Int), rfl, ⟨rfl⟩, by omega, ⟨by rw [← HBK.out]; show _ = uBack out x (j + 1); rw [uBack, if_neg hlt]⟩, ⟨by (try simp only [World.cell?_drewN]); exact HX.out⟩, ⟨by (with_reducible repeat (first | apply Kd.R_alloc | apply Kd.R_drewN | apply Kd.R_drew)); exact HO.out⟩, ⟨hA HB.out⟩⟩
  ·have c2b0 : decide ((n : Int) < (l0.length : Int)) = false := decide_eq_false (by omega);(obtain rfl : n = l0.length := by omega);go_wp2;go_ret;exact ⟨_, rfl, (by have := HQ.out; rw [List.take_length] at this; rw [← this]; exact HO.out), by repeat (first | (with_reducible first | exact HB.out | apply below_alloc | apply pw_below_drewN | apply below_drew1) | exact HB.out)⟩
end
def sprref_Unique.f (l0 : List ByteArray) : Option (List ByteArray) := if l0.length < 4398046511104 then some (uniqL l0) else none
theorem sprref_Unique.calls (A0 : Option Addr) (c0 : Nat) (l0 : List ByteArray) (r : List ByteArray) (w : World) (hr0 : Kd.C Kd.string w A0 l0.length l0) (hc0 : l0.length ≤ c0) (h : sprref_Unique.f l0 = some r) :
  Calls Tryz.prog 51 #[.slice A0 l0.length c0] w fun e w' => ∃ v0_ : Value, e = .returned v0_ ∧ Kd.R Kd.string 9 w' w.heap.size (fun _ => True) v0_ r ∧ Below w.heap.size w w' := by
 unfold sprref_Unique.f at h
 by_cases h1 : l0.length < 4398046511104
 ·rw [if_pos h1] at h;obtain rfl := Option.some.inj h;exact sprref_Unique.own A0 c0 l0 w hr0 hc0 h1
 ·rw [if_neg h1] at h; cases h
end Go.Proofs.YtbnlglfddglceaaGreatDoor.Q
