-- Written by a program of this session's (wip/xprint.py), out of the seat's translation.
import Derived.Test.YtldkhokpedfhdaaDoorQ0
import Derived.Test.YtldkhokpedfhdaaDoorQ1
import Derived.Test.YtldkhokpedfhdaaDoorQ3
import Derived.Test.YtldkhokpedfhdaaDoorQ8
namespace Go.Proofs.YtldkhokpedfhdaaDoor.Q
open Go.RowKit Go.Proofs.YtldkhokpedfhdaaDoorW.PrintWords Go.Proofs.YtldkhokpedfhdaaDoorW.PrintLast Go.Proofs.YtldkhokpedfhdaaDoorW.PrintMore
attribute [local go_sem] max2_int min2_int max_two min_two max_three min_three max_four min_four   -- for this text's walks alone
set_option linter.unusedVariables false
set_option linter.unusedSimpArgs false

/-! ### sprref7_Parse6: function 15 -/
/-- Where '::' first begins. -/
def colons : List UInt8 → Option Nat
  | [] => none
  | a :: r => if a = 58 ∧ r.head? = some 58 then some 0 else (colons r).map (· + 1)
theorem colons_lt : ∀ (l : List UInt8) (n : Nat), colons l = some n → n + 2 ≤ l.length
  | [], n, h => by cases h
  | a :: r, n, h => by
    unfold colons at h
    split at h
    · rename_i h1
      obtain rfl := Option.some.inj h
      cases r with
      | nil => simp at h1
      | cons b r => simp
    · cases hr : colons r with
      | none => rw [hr] at h; cases h
      | some m =>
        rw [hr] at h
        have e : m + 1 = n := Option.some.inj h
        have := colons_lt r m hr
        rw [List.length_cons]; omega
theorem colons_short {l : List UInt8} (h : l.length ≤ 1) : colons l = none := by
  cases hc : colons l with
  | none => rfl
  | some n => have := colons_lt l n hc; omega
theorem gb (s : ByteArray) (i : Nat) (h : i < s.size) : s.data.toList[i]'h = s[i]'h := rfl
theorem colons_step (s : ByteArray) (i : Nat) (h : i + 1 < s.size) :
    colons (s.data.toList.drop i) = if s[i]'(by omega) = 58 ∧ s[i + 1]'(by omega) = 58 then some 0 else (colons (s.data.toList.drop (i + 1))).map (· + 1) := by
  have h1 : i < s.data.toList.length := by show i < s.size; omega
  have h2 : i + 1 < s.data.toList.length := h
  rw [List.drop_eq_getElem_cons h1]
  conv => lhs; unfold colons
  have e : (s.data.toList.drop (i + 1)).head? = some (s.data.toList[i + 1]'h2) := by rw [List.head?_drop, List.getElem?_eq_getElem h2]
  rw [e, ← gb s i (by omega), ← gb s (i + 1) h]
  simp
theorem u58 {c : UInt8} : c = 58 ↔ c.toNat = 58 := by
  constructor
  · intro h; subst h; rfl
  · intro h; exact UInt8.toNat_inj.1 h
theorem colons_miss (s : ByteArray) (i : Nat) (h : i + 1 < s.size) (hn : colons (s.data.toList.drop i) = none) : colons (s.data.toList.drop (i + 1)) = none := by
  rw [colons_step s i h] at hn
  split at hn
  · cases hn
  · cases hz : colons (s.data.toList.drop (i + 1)) with
    | none => rfl
    | some m => rw [hz] at hn; cases hn
theorem colons_hit (s : ByteArray) (i : Nat) (h : i + 1 < s.size) (h1 : (s[i]'(by omega)).toNat = 58) (h2 : (s[i + 1]'h).toNat = 58) : colons (s.data.toList.drop i) = some 0 := by
  rw [colons_step s i h, if_pos ⟨u58.2 h1, u58.2 h2⟩]
theorem colons_next (s : ByteArray) (i : Nat) (h : i + 1 < s.size) (h1 : ¬ ((s[i]'(by omega)).toNat = 58 ∧ (s[i + 1]'h).toNat = 58)) : colons (s.data.toList.drop i) = (colons (s.data.toList.drop (i + 1))).map (· + 1) := by
  rw [colons_step s i h, if_neg (fun q => h1 ⟨u58.1 q.1, u58.1 q.2⟩)]
theorem meas {n i : Nat} {z : Int} (h : i < n) (hz : z = (i : Int) + 1) : n - (intOf (.int .i64 z)).toNat < n - (intOf (.int .i64 (i : Int))).toNat := by
  subst hz
  show n - ((i : Int) + 1).toNat < n - ((i : Int)).toNat
  omega
def wr16 (x : Int) : Int := IntKind.u16.wrap x
def ref_bad1 (ok : Bool) (l : List Int) : Bool := !ok || !decide (l.length = 8)
def ref_bad2 (ok yes : Bool) (a b : List Int) : Bool := !ok || !yes || decide (7 < a.length + b.length)
def ref_res1 (ok : Bool) (l : List Int) : List Int × Int := if ref_bad1 ok l = true then (zero8, 4) else (splice zero8 0 (l.map wr16), 0)
def ref_res2 (ok yes : Bool) (a b : List Int) : List Int × Int := if ref_bad2 ok yes a b = true then (zero8, 4) else (splice (splice zero8 0 (a.map wr16)) (8 - b.length) (b.map wr16), 0)
def sprref7_Parse6.g (k : Nat) (s : ByteArray) : Option (List Int × Int) :=
  if s.size ≤ 4000 then (match colons s.data.toList with
    | none => (sprref7_pieces.f k s true).bind fun l => if l.1.length < 4294967296 then some (ref_res1 l.2 l.1) else none
    | some n => (sprref7_pieces.f k (s.extract 0 n) false).bind fun a => (sprref7_pieces.f k (s.extract (n + 2) s.size) true).bind fun b => if a.1.length < 4294967296 ∧ b.1.length < 4294967296 then some (ref_res2 a.2 b.2 a.1 b.1) else none) else some (zero8, 11)
theorem sprref7_Parse6.gmono (s : ByteArray) (k : Nat) : LeO (sprref7_Parse6.g k s) (sprref7_Parse6.g (k + 1) s) := by
  unfold sprref7_Parse6.g
  refine LeO.ite ?_ (LeO.refl _)
  cases colons s.data.toList with
  | none => exact LeO.bind (sprref7_pieces.mono _ _ k) fun _ => LeO.refl _
  | some n => exact LeO.bind (sprref7_pieces.mono _ _ k) fun _ => LeO.bind (sprref7_pieces.mono _ _ k) fun _ => LeO.refl _
theorem splice_step (B q : List Int) (off i : Nat) (hi : i < q.length) (ho : off + q.length ≤ B.length) : (splice B off (q.take i)).set (off + i) (q[i]'hi) = splice B off (q.take (i + 1)) := by
  have e1 : (q.take i).length = i := by rw [List.length_take]; omega
  have e2 : (q.take (i + 1)).length = i + 1 := by rw [List.length_take]; omega
  have e3 : q.take (i + 1) = q.take i ++ [q[i]'hi] := by rw [List.take_add_one, List.getElem?_eq_getElem hi]; rfl
  unfold splice
  rw [e2, e3, e1, List.set_append_right _ _ (by rw [List.length_take]; omega), List.length_take, show off + i - min off B.length = i by omega, List.set_append_right _ _ (by omega), e1, Nat.sub_self, List.drop_eq_getElem_cons (show off + i < B.length by omega), List.set_cons_zero]
  simp only [List.append_assoc, Nat.add_assoc, List.cons_append, List.nil_append]
theorem row_set {w : World} {g : Nat} {t : TypeId} {p : List Int} (hg : w.heap[g]? = some (.cells (arrV p) t (0, 0))) (i : Nat) (x : Int) : (w.setCell ⟨g, i, none⟩ (.int .u16 x)).heap[g]? = some (.cells (arrV (p.set i x)) t (0, 0)) := by
  rw [setCell_eq_setRow w g i _ t (0, 0) _ hg, setRow_heap _ _ _ _ _ _ hg]
  congr 2
  simp [arrV, List.map_set]
theorem row_cell {w : World} {g : Nat} {t : TypeId} {p : List Int} (hg : w.heap[g]? = some (.cells (arrV p) t (0, 0))) (i : Nat) (hi : i < p.length) : w.cell? ⟨g, i, none⟩ = some (.int .u16 (p[i]'hi)) := by
  rw [blk_cell hg i]
  exact arr_at p i _ (List.getElem?_eq_getElem hi)

theorem splice_nil (B : List Int) (o : Nat) : splice B o [] = B := by simp [splice]
theorem zero8_l : zero8.length = 8 := rfl
set_option maxHeartbeats 2000000 in
set_option maxRecDepth 100000 in
theorem sprref7_Parse6.one_bad (k : Nat) (s : ByteArray) (w : World) (hs : s.size ≤ 4000) (l : List Int) (ok : Bool) (hcn : colons s.data.toList = none) (hl : sprref7_pieces.f k s true = some (l, ok)) (hl9 : l.length < 4294967296) (hbad : ref_bad1 ok l = true) :
    Calls Tryd.prog 15 #[.string s] w fun e w' => e = .returned (.tuple #[.agg (arrV zero8), .int .i64 4]) ∧ Below w.heap.size w w' := by
  have hu := Tryd.underlying23
  have hi0 : (Tryd.prog.info? 23).map (·.size) = some (arrV zero8).size := by kernel_rfl
  have T0 := Aside0.mk trivial
  have hsl : s.data.toList.length = s.size := rfl
  have hs0 := Aside0.mk hs
  have hsl0 := Aside0.mk hsl
  have q0 : decide ((4000 : Int) < (s.size : Int)) = false := decide_eq_false (by omega)
  clear hs hsl
  obtain ⟨w0, hw0⟩ : ∃ w0, w0 = (w.alloc (.cells #[Value.int .u16 0, Value.int .u16 0, Value.int .u16 0, Value.int .u16 0, Value.int .u16 0, Value.int .u16 0, Value.int .u16 0, Value.int .u16 0] 23)).alloc (.cells #[Value.int .u16 0, Value.int .u16 0, Value.int .u16 0, Value.int .u16 0, Value.int .u16 0, Value.int .u16 0, Value.int .u16 0, Value.int .u16 0] 23) := ⟨_, rfl⟩
  have HB0 : Aside0 (Below w.heap.size w w0) := ⟨by rw [hw0]; exact below_alloc (below_alloc (Below.refl _ _) _) _⟩
  have HY0 : Aside0 (w0.heap[w.heap.size]? = some (.cells (arrV zero8) 23 (0, 0))) := ⟨by rw [hw0]; exact blk_alloc (blk_new _ _) _⟩
  have HZ0 : Aside0 (w0.heap[w.heap.size + 1]? = some (.cells (arrV zero8) 23 (0, 0))) := ⟨by rw [hw0]; have z := blk_new (w.alloc (.cells #[Value.int .u16 0, Value.int .u16 0, Value.int .u16 0, Value.int .u16 0, Value.int .u16 0, Value.int .u16 0, Value.int .u16 0, Value.int .u16 0] 23)) (.cells #[Value.int .u16 0, Value.int .u16 0, Value.int .u16 0, Value.int .u16 0, Value.int .u16 0, Value.int .u16 0, Value.int .u16 0, Value.int .u16 0] 23); rw [World.size_alloc] at z; exact z⟩
  go_enter Tryd.func15, Tryd.ntmps15
  go_wp2_with fail
  rw [← hw0]
  clear hw0

  have HCN := Aside0.mk hcn
  clear hcn
  go_loopw [5, 6] (fun v5 v6 wr => ∃ (c : Int) (i : Nat), v5 = .int .i64 c ∧ v6 = .int .i64 (i : Int) ∧ Aside0 (i ≤ s.size) ∧ Aside0 (c = -1 ∧ colons (s.data.toList.drop i) = none) ∧ wr = w0) (fun _ v6 _ => s.size - (intOf v6).toNat)
  case atStart => exact ⟨-1, 0, rfl, rfl, ⟨Nat.zero_le _⟩, ⟨rfl, HCN.out⟩, rfl⟩
  case round =>
    obtain ⟨c, i, rfl, rfl, hi, hC, rfl⟩ := hrel
    have hw1 : wrap64 ((i : Int) + 1) = (i : Int) + 1 := by have := hi.out; have := hs0.out; unfold wrap64; omega

    obtain ⟨rfl, hcl⟩ := hC.out
    by_cases hlt : i + 1 < s.size
    · clear hcl
      have q1 : decide ((i : Int) + 1 < (s.size : Int)) = true := decide_eq_true (by omega)
      have p1 := eq_true (show (0 : Int) ≤ (i : Int) by omega)
      have p2 := eq_true (show (i : Int) < (s.size : Int) by omega)
      have p3 := eq_true (show (0 : Int) ≤ (i : Int) + 1 by omega)
      have p4 := eq_true (show (i : Int) + 1 < (s.size : Int) by omega)
      by_cases h1 : (s[i]'(by omega)).toNat = 58
      · by_cases h2 : (s[i + 1]'(by omega)).toNat = 58
        · exact absurd hC.out.2 (by rw [colons_hit s i hlt h1 h2]; simp)
        · have e1 : (((s[i]'(by omega)).toNat : Int) == 58) = true := beq_iff_eq.2 (by omega)
          have e2 : (((s[i + 1]'(by omega)).toNat : Int) == 58) = false := beq_eq_false_iff_ne.2 (by omega)
          go_wp2
          go_roundw
          case measure => exact meas (by omega) hw1
          case rel => exact ⟨-1, i + 1, rfl, by rw [hw1]; rfl, ⟨by omega⟩, ⟨rfl, colons_miss s i hlt hC.out.2⟩, trivial⟩
      · have e1 : (((s[i]'(by omega)).toNat : Int) == 58) = false := beq_eq_false_iff_ne.2 (by omega)
        go_wp2
        go_roundw
        case measure => exact meas (by omega) hw1
        case rel => exact ⟨-1, i + 1, rfl, by rw [hw1]; rfl, ⟨by omega⟩, ⟨rfl, colons_miss s i hlt hC.out.2⟩, trivial⟩

    · have q1 : decide ((i : Int) + 1 < (s.size : Int)) = false := decide_eq_false (by omega)
      clear hcl
      unfold ref_bad1 at hbad
      cases ok with
      | false =>
        go_wp2_with (first | (clear T0; go_at_call 29; (with_reducible refine (sprref7_pieces.calls k s true l _ _ hl).mono ?_); rintro e w1 ⟨v, rfl, hR, hb⟩; obtain ⟨A1, c1, rfl, hlm1, hS⟩ := own_src hR; have HS1 := Aside0.mk hS; have HK1 := Aside0.mk (blk_lt HZ0.out); have HZ1 := Aside0.mk (blk_below HZ0.out hb); have HY1 := Aside0.mk (blk_below HY0.out hb); have HB1 := Aside0.mk (HB0.out.trans (hb.mono HB0.out.size)); clear hb hR hS HZ0 HY0 HB0; have T1 := Aside0.mk trivial) | ((with_reducible refine gate_dst (N := 57) rfl ?_); refine wpList_load_row rfl 23 (.tmp 4) rfl (w.heap.size + 1) rfl 23 (arrV zero8) (0, 0) _ HZ1.out hu (by rfl) hi0 ?_) | ((with_reducible refine gate_store (t := 23) (p := 2) rfl ?_); refine wpList_store_row rfl 23 (.tmp 2) (.tmp 57) rfl w.heap.size (arrV zero8) rfl rfl 23 (arrV zero8) HY1.out hi0 rfl (arr_one _) ?_))
        refine bodyPost_ret (v := .tuple #[.agg (arrV zero8), .int .i64 4]) ?_ rfl ⟨rfl, Go.below_setRow HB1.out (Nat.le_refl _) _⟩
        exact results_arr (p := 2) (u := 3) (ty := 23) rfl _ _ w.heap.size 23 (arrV zero8) (0, 0) _ rfl (setRow_heap _ _ _ _ _ _ HY1.out) hu rfl hi0
      | true =>
        have h8 : l.length ≠ 8 := by simpa using hbad
        have q2 : ((l.length : Int) != 8) = true := bne_iff_ne.2 (by omega)
        clear hbad h8
        go_wp2_with (first | (clear T0; go_at_call 29; (with_reducible refine (sprref7_pieces.calls k s true l _ _ hl).mono ?_); rintro e w1 ⟨v, rfl, hR, hb⟩; obtain ⟨A1, c1, rfl, hlm1, hS⟩ := own_src hR; have HS1 := Aside0.mk hS; have HK1 := Aside0.mk (blk_lt HZ0.out); have HZ1 := Aside0.mk (blk_below HZ0.out hb); have HY1 := Aside0.mk (blk_below HY0.out hb); have HB1 := Aside0.mk (HB0.out.trans (hb.mono HB0.out.size)); clear hb hR hS HZ0 HY0 HB0; have T1 := Aside0.mk trivial) | ((with_reducible refine gate_dst (N := 57) rfl ?_); refine wpList_load_row rfl 23 (.tmp 4) rfl (w.heap.size + 1) rfl 23 (arrV zero8) (0, 0) _ HZ1.out hu (by rfl) hi0 ?_) | ((with_reducible refine gate_store (t := 23) (p := 2) rfl ?_); refine wpList_store_row rfl 23 (.tmp 2) (.tmp 57) rfl w.heap.size (arrV zero8) rfl rfl 23 (arrV zero8) HY1.out hi0 rfl (arr_one _) ?_))
        refine bodyPost_ret (v := .tuple #[.agg (arrV zero8), .int .i64 4]) ?_ rfl ⟨rfl, Go.below_setRow HB1.out (Nat.le_refl _) _⟩
        exact results_arr (p := 2) (u := 3) (ty := 23) rfl _ _ w.heap.size 23 (arrV zero8) (0, 0) _ rfl (setRow_heap _ _ _ _ _ _ HY1.out) hu rfl hi0
set_option maxHeartbeats 2000000 in
set_option maxRecDepth 100000 in
theorem sprref7_Parse6.one_good (k : Nat) (s : ByteArray) (w : World) (hs : s.size ≤ 4000) (l : List Int) (ok : Bool) (hcn : colons s.data.toList = none) (hl : sprref7_pieces.f k s true = some (l, ok)) (hl9 : l.length < 4294967296) (hgood : ref_bad1 ok l = false) :
    Calls Tryd.prog 15 #[.string s] w fun e w' => e = .returned (.tuple #[.agg (arrV (splice zero8 0 (l.map wr16))), .int .i64 0]) ∧ Below w.heap.size w w' := by
  have hu := Tryd.underlying23
  have hi0 : (Tryd.prog.info? 23).map (·.size) = some (arrV zero8).size := by kernel_rfl
  have T0 := Aside0.mk trivial
  have hsl : s.data.toList.length = s.size := rfl
  have hs0 := Aside0.mk hs
  have hsl0 := Aside0.mk hsl
  have q0 : decide ((4000 : Int) < (s.size : Int)) = false := decide_eq_false (by omega)
  clear hs hsl
  obtain ⟨w0, hw0⟩ : ∃ w0, w0 = (w.alloc (.cells #[Value.int .u16 0, Value.int .u16 0, Value.int .u16 0, Value.int .u16 0, Value.int .u16 0, Value.int .u16 0, Value.int .u16 0, Value.int .u16 0] 23)).alloc (.cells #[Value.int .u16 0, Value.int .u16 0, Value.int .u16 0, Value.int .u16 0, Value.int .u16 0, Value.int .u16 0, Value.int .u16 0, Value.int .u16 0] 23) := ⟨_, rfl⟩
  have HB0 : Aside0 (Below w.heap.size w w0) := ⟨by rw [hw0]; exact below_alloc (below_alloc (Below.refl _ _) _) _⟩
  have HY0 : Aside0 (w0.heap[w.heap.size]? = some (.cells (arrV zero8) 23 (0, 0))) := ⟨by rw [hw0]; exact blk_alloc (blk_new _ _) _⟩
  have HZ0 : Aside0 (w0.heap[w.heap.size + 1]? = some (.cells (arrV zero8) 23 (0, 0))) := ⟨by rw [hw0]; have z := blk_new (w.alloc (.cells #[Value.int .u16 0, Value.int .u16 0, Value.int .u16 0, Value.int .u16 0, Value.int .u16 0, Value.int .u16 0, Value.int .u16 0, Value.int .u16 0] 23)) (.cells #[Value.int .u16 0, Value.int .u16 0, Value.int .u16 0, Value.int .u16 0, Value.int .u16 0, Value.int .u16 0, Value.int .u16 0, Value.int .u16 0] 23); rw [World.size_alloc] at z; exact z⟩
  go_enter Tryd.func15, Tryd.ntmps15
  go_wp2_with fail
  rw [← hw0]
  clear hw0

  have HCN := Aside0.mk hcn
  clear hcn
  go_loopw [5, 6] (fun v5 v6 wr => ∃ (c : Int) (i : Nat), v5 = .int .i64 c ∧ v6 = .int .i64 (i : Int) ∧ Aside0 (i ≤ s.size) ∧ Aside0 (c = -1 ∧ colons (s.data.toList.drop i) = none) ∧ wr = w0) (fun _ v6 _ => s.size - (intOf v6).toNat)
  case atStart => exact ⟨-1, 0, rfl, rfl, ⟨Nat.zero_le _⟩, ⟨rfl, HCN.out⟩, rfl⟩
  case round =>
    obtain ⟨c, i, rfl, rfl, hi, hC, rfl⟩ := hrel
    have hw1 : wrap64 ((i : Int) + 1) = (i : Int) + 1 := by have := hi.out; have := hs0.out; unfold wrap64; omega

    obtain ⟨rfl, hcl⟩ := hC.out
    by_cases hlt : i + 1 < s.size
    · clear hcl
      have q1 : decide ((i : Int) + 1 < (s.size : Int)) = true := decide_eq_true (by omega)
      have p1 := eq_true (show (0 : Int) ≤ (i : Int) by omega)
      have p2 := eq_true (show (i : Int) < (s.size : Int) by omega)
      have p3 := eq_true (show (0 : Int) ≤ (i : Int) + 1 by omega)
      have p4 := eq_true (show (i : Int) + 1 < (s.size : Int) by omega)
      by_cases h1 : (s[i]'(by omega)).toNat = 58
      · by_cases h2 : (s[i + 1]'(by omega)).toNat = 58
        · exact absurd hC.out.2 (by rw [colons_hit s i hlt h1 h2]; simp)
        · have e1 : (((s[i]'(by omega)).toNat : Int) == 58) = true := beq_iff_eq.2 (by omega)
          have e2 : (((s[i + 1]'(by omega)).toNat : Int) == 58) = false := beq_eq_false_iff_ne.2 (by omega)
          go_wp2
          go_roundw
          case measure => exact meas (by omega) hw1
          case rel => exact ⟨-1, i + 1, rfl, by rw [hw1]; rfl, ⟨by omega⟩, ⟨rfl, colons_miss s i hlt hC.out.2⟩, trivial⟩
      · have e1 : (((s[i]'(by omega)).toNat : Int) == 58) = false := beq_eq_false_iff_ne.2 (by omega)
        go_wp2
        go_roundw
        case measure => exact meas (by omega) hw1
        case rel => exact ⟨-1, i + 1, rfl, by rw [hw1]; rfl, ⟨by omega⟩, ⟨rfl, colons_miss s i hlt hC.out.2⟩, trivial⟩

    · have q1 : decide ((i : Int) + 1 < (s.size : Int)) = false := decide_eq_false (by omega)
      clear hcl
      unfold ref_bad1 at hgood
      cases ok with
      | false => exact absurd hgood (by simp)
      | true =>
      have h8 : l.length = 8 := by simpa using hgood
      have hbl : zero8.length = 8 := rfl
      have hbl0 := Aside0.mk hbl
      have q2 : ((l.length : Int) != 8) = false := bne_eq_false_iff_eq.2 (by omega)
      have H8 := Aside0.mk h8
      clear hgood h8 hbl
      go_wp2_with (first | (clear T0; go_at_call 29; (with_reducible refine (sprref7_pieces.calls k s true l _ _ hl).mono ?_); rintro e w1 ⟨v, rfl, hR, hb⟩; obtain ⟨A1, c1, rfl, hlm1, hS⟩ := own_src hR; have HS1 := Aside0.mk hS; have HK1 := Aside0.mk (blk_lt HZ0.out); have HZ1 := Aside0.mk (blk_below HZ0.out hb); have HY1 := Aside0.mk (blk_below HY0.out hb); have HB1 := Aside0.mk (HB0.out.trans (hb.mono HB0.out.size)); clear hb hR hS HZ0 HY0 HB0; have T1 := Aside0.mk trivial))
      have h8 := H8.out
      have HX0_1 : Aside0 (0 < l.length → ∃ ad, A1 = some ad ∧ ad.block ≠ w.heap.size + 1 ∧ ∀ j v, (l.map (Value.int .i64))[j]? = some v → w1.cell? (ad.add j) = some v) := ⟨fun h => let ⟨ad, ha, hg, hx⟩ := HS1.out h; ⟨ad, ha, by have := HK1.out; omega, hx⟩⟩
      clear HS1
      go_loopw [9] (fun v9 wr => ∃ i : Nat, v9 = .int .i64 (i : Int) ∧ Aside0 (i ≤ l.length) ∧ Aside0 (wr.heap[w.heap.size + 1]? = some (.cells (arrV (splice zero8 (0) ((l.map wr16).take i))) 23 (0, 0))) ∧ Aside0 (wr.heap[w.heap.size]? = some (.cells (arrV zero8) 23 (0, 0))) ∧ Aside0 (0 < l.length → ∃ ad, A1 = some ad ∧ ad.block ≠ w.heap.size + 1 ∧ ∀ j v, (l.map (Value.int .i64))[j]? = some v → wr.cell? (ad.add j) = some v) ∧ Aside0 (Below w.heap.size w wr)) (fun v9 _ => l.length - (intOf v9).toNat)
      case atStart => exact ⟨0, rfl, ⟨Nat.zero_le _⟩, ⟨by rw [List.take_zero, splice_nil]; exact HZ1.out⟩, HY1, HX0_1, HB1⟩
      case round =>
        clear HZ1 HY1 HB1 HX0_1
        obtain ⟨i, rfl, hi, hZ, hY, hX0, hB⟩ := hrel
        have hw1 : wrap64 ((i : Int) + 1) = (i : Int) + 1 := by have := hi.out; unfold wrap64; omega
        by_cases hlt : i < l.length
        · obtain ⟨x, hx⟩ : ∃ x, l[i]? = some x := ⟨l[i]'hlt, List.getElem?_eq_getElem _⟩
          have q1 : decide ((i : Int) < 8) = true := decide_eq_true (by omega)
          have p1 := eq_true (show (0 : Int) ≤ (i : Int) by omega)
          have p2 := eq_true (show (i : Int) < (l.length : Int) by omega)
          have p2' := eq_true (show (i : Int) < 8 by omega)
          have p3 := eq_true (show (i : Int) < 8 by omega)
          have hbl := hbl0.out
          obtain ⟨ad, rfl, hne, hx1⟩ := hX0.out (by omega)
          have hcell1 := hx1 i (.int .i64 x) (by rw [List.getElem?_map, hx]; rfl)
          have hlenr : (splice zero8 (0) ((l.map wr16).take i)).length = 8 := by rw [length_splice _ _ _ (by rw [List.length_take, List.length_map, hbl]; omega), hbl]
          have hcell2 := row_cell hZ.out i (by omega)
          have hfr := blk_frozen hZ.out i
          have hn : (l.map wr16)[i]? = some (wr16 x) := by rw [List.getElem?_map, hx]; rfl
          obtain ⟨hn1, hn2⟩ := List.getElem?_eq_some_iff.1 hn
          have hZ2 := row_set hZ.out i (wr16 x)
          have hst := splice_step zero8 (l.map wr16) (0) i hn1 (by rw [List.length_map, hbl]; omega)
          rw [hn2, Nat.zero_add] at hst
          rw [hst] at hZ2
          have HZ2 := Aside0.mk hZ2
          generalize (splice zero8 (0) ((l.map wr16).take i))[i]'_ = y at hcell2
          have HNE := Aside0.mk hne
          clear hZ2 hst hn hn1 hn2 hlenr hx hbl hx1 hne
          go_wp2
          go_roundw
          case measure => exact meas hlt rfl
          case rel => exact ⟨i + 1, rfl, ⟨hlt⟩, HZ2, ⟨(Below.heap_setCell wr ⟨w.heap.size + 1, i, none⟩ _ w.heap.size (Nat.ne_of_lt (Nat.lt_succ_self _))).trans hY.out⟩, ⟨fun h => let ⟨ad, ha, hg, hx⟩ := hX0.out h; ⟨ad, ha, hg, src_keep hx (fun j hj => Below.heap_setCell wr ⟨w.heap.size + 1, i, none⟩ _ j hj) hg⟩⟩, ⟨hB.out.setCell (Nat.le_succ _) _⟩⟩
        · have q1 : decide ((i : Int) < 8) = false := decide_eq_false (by omega)
          have hbl := hbl0.out
          have e1 : i = l.length := by have := hi.out; omega
          have HZ5 : Aside0 (wr.heap[w.heap.size + 1]? = some (.cells (arrV (splice zero8 0 (l.map wr16))) 23 (0, 0))) := ⟨by rw [hZ.out, e1, ← List.length_map (f := wr16), List.take_length]⟩
          have hsz : (splice zero8 0 (l.map wr16)).length = 8 := by rw [length_splice _ _ _ (by rw [List.length_map, hbl]; omega), hbl]
          have hi5 : Aside0 ((Tryd.prog.info? 23).map (·.size) = some (arrV (splice zero8 0 (l.map wr16))).size) := ⟨by rw [arr_size, hsz]; kernel_rfl⟩
          have hs5 : Aside0 ((arrV zero8).size = (arrV (splice zero8 0 (l.map wr16))).size) := ⟨by rw [arr_size, arr_size, hsz, hbl]⟩
          clear hsz hZ hX0 h8 hbl e1
          go_wp2_with (first | ((with_reducible refine gate_dst (N := 69) rfl ?_); refine wpList_load_row rfl 23 (.tmp 4) rfl (w.heap.size + 1) rfl 23 (arrV (splice zero8 0 (l.map wr16))) (0, 0) _ HZ5.out hu (by rfl) hi5.out ?_) | ((with_reducible refine gate_store (t := 23) (p := 2) rfl ?_); refine wpList_store_row rfl 23 (.tmp 2) (.tmp 69) rfl w.heap.size (arrV (splice zero8 0 (l.map wr16))) rfl rfl 23 (arrV zero8) hY.out hi5.out hs5.out (arr_one _) ?_))
          refine bodyPost_ret (v := .tuple #[.agg (arrV (splice zero8 0 (l.map wr16))), .int .i64 0]) ?_ rfl ⟨rfl, Go.below_setRow hB.out (Nat.le_refl _) _⟩
          exact results_arr (p := 2) (u := 3) (ty := 23) rfl _ _ w.heap.size 23 (arrV (splice zero8 0 (l.map wr16))) (0, 0) _ rfl (setRow_heap _ _ _ _ _ _ hY.out) hu rfl hi5.out
set_option maxHeartbeats 2000000 in
set_option maxRecDepth 100000 in
theorem sprref7_Parse6.two_bad (k : Nat) (s : ByteArray) (w : World) (hs : s.size ≤ 4000) (n : Nat) (a b : List Int) (ok yes : Bool) (hcn : colons s.data.toList = some n) (hpa : sprref7_pieces.f k (s.extract 0 n) false = some (a, ok)) (hpb : sprref7_pieces.f k (s.extract (n + 2) s.size) true = some (b, yes)) (ha9 : a.length < 4294967296) (hb9 : b.length < 4294967296) (hbad : ref_bad2 ok yes a b = true) :
    Calls Tryd.prog 15 #[.string s] w fun e w' => e = .returned (.tuple #[.agg (arrV zero8), .int .i64 4]) ∧ Below w.heap.size w w' := by
  have hu := Tryd.underlying23
  have hi0 : (Tryd.prog.info? 23).map (·.size) = some (arrV zero8).size := by kernel_rfl
  have T0 := Aside0.mk trivial
  have hsl : s.data.toList.length = s.size := rfl
  have hs0 := Aside0.mk hs
  have hsl0 := Aside0.mk hsl
  have q0 : decide ((4000 : Int) < (s.size : Int)) = false := decide_eq_false (by omega)
  clear hs hsl
  obtain ⟨w0, hw0⟩ : ∃ w0, w0 = (w.alloc (.cells #[Value.int .u16 0, Value.int .u16 0, Value.int .u16 0, Value.int .u16 0, Value.int .u16 0, Value.int .u16 0, Value.int .u16 0, Value.int .u16 0] 23)).alloc (.cells #[Value.int .u16 0, Value.int .u16 0, Value.int .u16 0, Value.int .u16 0, Value.int .u16 0, Value.int .u16 0, Value.int .u16 0, Value.int .u16 0] 23) := ⟨_, rfl⟩
  have HB0 : Aside0 (Below w.heap.size w w0) := ⟨by rw [hw0]; exact below_alloc (below_alloc (Below.refl _ _) _) _⟩
  have HY0 : Aside0 (w0.heap[w.heap.size]? = some (.cells (arrV zero8) 23 (0, 0))) := ⟨by rw [hw0]; exact blk_alloc (blk_new _ _) _⟩
  have HZ0 : Aside0 (w0.heap[w.heap.size + 1]? = some (.cells (arrV zero8) 23 (0, 0))) := ⟨by rw [hw0]; have z := blk_new (w.alloc (.cells #[Value.int .u16 0, Value.int .u16 0, Value.int .u16 0, Value.int .u16 0, Value.int .u16 0, Value.int .u16 0, Value.int .u16 0, Value.int .u16 0] 23)) (.cells #[Value.int .u16 0, Value.int .u16 0, Value.int .u16 0, Value.int .u16 0, Value.int .u16 0, Value.int .u16 0, Value.int .u16 0, Value.int .u16 0] 23); rw [World.size_alloc] at z; exact z⟩
  go_enter Tryd.func15, Tryd.ntmps15
  go_wp2_with fail
  rw [← hw0]
  clear hw0

  have HCN := Aside0.mk hcn
  have hnlt := colons_lt _ _ hcn
  have hn2 : n + 2 ≤ s.size := hnlt
  clear hcn hnlt
  have hn4 : n ≤ 4000 := by have := hs0.out; omega
  have HN2 := Aside0.mk hn2
  have HN4 := Aside0.mk hn4
  clear hn2 hn4
  go_loopw [5, 6] (fun v5 v6 wr => ∃ (c : Int) (i : Nat), v5 = .int .i64 c ∧ v6 = .int .i64 (i : Int) ∧ Aside0 (i ≤ s.size) ∧ Aside0 ((c = -1 ∧ ∃ m, colons (s.data.toList.drop i) = some m ∧ m + i = n) ∨ c = (n : Int)) ∧ wr = w0) (fun _ v6 _ => s.size - (intOf v6).toNat)
  case atStart => exact ⟨-1, 0, rfl, rfl, ⟨Nat.zero_le _⟩, ⟨Or.inl ⟨rfl, n, HCN.out, rfl⟩⟩, rfl⟩
  case round =>
    obtain ⟨c, i, rfl, rfl, hi, hC, rfl⟩ := hrel
    have hw1 : wrap64 ((i : Int) + 1) = (i : Int) + 1 := by have := hi.out; have := hs0.out; unfold wrap64; omega

    rcases hC.out with ⟨rfl, m, hm, hmn⟩ | rfl
    · have hmi := colons_lt _ _ hm
      rw [List.length_drop] at hmi
      have hlt : i + 1 < s.size := by have := hsl0.out; omega
      clear hmi
      have q1 : decide ((i : Int) + 1 < (s.size : Int)) = true := decide_eq_true (by omega)
      have p1 := eq_true (show (0 : Int) ≤ (i : Int) by omega)
      have p2 := eq_true (show (i : Int) < (s.size : Int) by omega)
      have p3 := eq_true (show (0 : Int) ≤ (i : Int) + 1 by omega)
      have p4 := eq_true (show (i : Int) + 1 < (s.size : Int) by omega)
      by_cases h1 : (s[i]'(by omega)).toNat = 58
      · by_cases h2 : (s[i + 1]'(by omega)).toNat = 58
        · have e1 : (((s[i]'(by omega)).toNat : Int) == 58) = true := beq_iff_eq.2 (by omega)
          have e2 : (((s[i + 1]'(by omega)).toNat : Int) == 58) = true := beq_iff_eq.2 (by omega)
          have hm0 := colons_hit s i hlt h1 h2
          go_wp2
          go_roundw
          case measure => exact meas (by omega) hw1
          case rel => exact ⟨(i : Int), i + 1, rfl, by rw [hw1]; rfl, ⟨by omega⟩, ⟨Or.inr (by rw [hm] at hm0; have e := Option.some.inj hm0; omega)⟩, trivial⟩
        · have e1 : (((s[i]'(by omega)).toNat : Int) == 58) = true := beq_iff_eq.2 (by omega)
          have e2 : (((s[i + 1]'(by omega)).toNat : Int) == 58) = false := beq_eq_false_iff_ne.2 (by omega)
          go_wp2
          go_roundw
          case measure => exact meas (by omega) hw1
          case rel => exact ⟨-1, i + 1, rfl, by rw [hw1]; rfl, ⟨by omega⟩, ⟨Or.inl ⟨rfl, by have z := colons_next s i hlt (fun q => by first | exact h1 q.1 | exact h2 q.2); rw [hm] at z; cases hz : colons (s.data.toList.drop (i + 1)) with | none => rw [hz] at z; cases z | some m2 => rw [hz] at z; exact ⟨m2, rfl, by have e : m = m2 + 1 := Option.some.inj z; omega⟩⟩⟩, trivial⟩
      · have e1 : (((s[i]'(by omega)).toNat : Int) == 58) = false := beq_eq_false_iff_ne.2 (by omega)
        go_wp2
        go_roundw
        case measure => exact meas (by omega) hw1
        case rel => exact ⟨-1, i + 1, rfl, by rw [hw1]; rfl, ⟨by omega⟩, ⟨Or.inl ⟨rfl, by have z := colons_next s i hlt (fun q => by first | exact h1 q.1 | exact h2 q.2); rw [hm] at z; cases hz : colons (s.data.toList.drop (i + 1)) with | none => rw [hz] at z; cases z | some m2 => rw [hz] at z; exact ⟨m2, rfl, by have e : m = m2 + 1 := Option.some.inj z; omega⟩⟩⟩, trivial⟩

    · have hn2 := HN2.out
      have hn4 := HN4.out
      have c0 : decide ((n : Int) < 0) = false := decide_eq_false (by omega)
      have p0 := eq_true (show (0 : Int) ≤ (n : Int) by omega)
      have p1 := eq_true (show (n : Int) ≤ (s.size : Int) by omega)
      have hw2 : wrap64 ((n : Int) + 2) = (n : Int) + 2 := by unfold wrap64; omega
      have p2 := eq_true (show (0 : Int) ≤ (n : Int) + 2 by omega)
      have p3 := eq_true (show (n : Int) + 2 ≤ (s.size : Int) by omega)
      have hab : wrap64 ((a.length : Int) + (b.length : Int)) = (a.length : Int) + (b.length : Int) := by unfold wrap64; omega
      clear hn2 hn4
      by_cases hlt : i + 1 < s.size
      · have q1 : decide ((i : Int) + 1 < (s.size : Int)) = true := decide_eq_true (by omega)
        clear hlt
        unfold ref_bad2 at hbad
        cases ok with
        | false =>
          go_wp2_with (first | (clear T0; go_at_call 29; (with_reducible refine (sprref7_pieces.calls k (s.extract 0 n) false a _ _ hpa).mono ?_); rintro e w1 ⟨v, rfl, hR, hb⟩; obtain ⟨A1, c1, rfl, hlm1, hS⟩ := own_src hR; have HS1 := Aside0.mk hS; have HK1 := Aside0.mk (blk_lt HZ0.out); have HZ1 := Aside0.mk (blk_below HZ0.out hb); have HY1 := Aside0.mk (blk_below HY0.out hb); have HB1 := Aside0.mk (HB0.out.trans (hb.mono HB0.out.size)); clear hb hR hS HZ0 HY0 HB0; have T1 := Aside0.mk trivial) | (clear T1; go_at_call 29; (with_reducible refine (sprref7_pieces.calls k (s.extract (n + 2) s.size) true b _ _ hpb).mono ?_); rintro e w2 ⟨v, rfl, hR, hb⟩; obtain ⟨A2, c2, rfl, hlm2, hS⟩ := own_src hR; have HS2 := Aside0.mk hS; have HK2 := Aside0.mk (blk_lt HZ1.out); have HS1b := Aside0.mk (fun h => let ⟨ad, ha, hg, hx⟩ := HS1.out h; (⟨ad, ha, hg, src_below hx hb⟩ : ∃ ad, A1 = some ad ∧ wr.heap.size ≤ ad.block ∧ ∀ j v, (a.map (Value.int .i64))[j]? = some v → w2.cell? (ad.add j) = some v)); clear HS1; have HZ2 := Aside0.mk (blk_below HZ1.out hb); have HY2 := Aside0.mk (blk_below HY1.out hb); have HB2 := Aside0.mk (HB1.out.trans (hb.mono HB1.out.size)); clear hb hR hS HZ1 HY1 HB1; have T2 := Aside0.mk trivial) | ((with_reducible refine gate_dst (N := 99) rfl ?_); refine wpList_load_row rfl 23 (.tmp 4) rfl (w.heap.size + 1) rfl 23 (arrV zero8) (0, 0) _ HZ2.out hu (by rfl) hi0 ?_) | ((with_reducible refine gate_store (t := 23) (p := 2) rfl ?_); refine wpList_store_row rfl 23 (.tmp 2) (.tmp 99) rfl w.heap.size (arrV zero8) rfl rfl 23 (arrV zero8) HY2.out hi0 rfl (arr_one _) ?_))
          refine bodyPost_ret (v := .tuple #[.agg (arrV zero8), .int .i64 4]) ?_ rfl ⟨rfl, Go.below_setRow HB2.out (Nat.le_refl _) _⟩
          exact results_arr (p := 2) (u := 3) (ty := 23) rfl _ _ w.heap.size 23 (arrV zero8) (0, 0) _ rfl (setRow_heap _ _ _ _ _ _ HY2.out) hu rfl hi0
        | true =>
        cases yes with
        | false =>
          go_wp2_with (first | (clear T0; go_at_call 29; (with_reducible refine (sprref7_pieces.calls k (s.extract 0 n) false a _ _ hpa).mono ?_); rintro e w1 ⟨v, rfl, hR, hb⟩; obtain ⟨A1, c1, rfl, hlm1, hS⟩ := own_src hR; have HS1 := Aside0.mk hS; have HK1 := Aside0.mk (blk_lt HZ0.out); have HZ1 := Aside0.mk (blk_below HZ0.out hb); have HY1 := Aside0.mk (blk_below HY0.out hb); have HB1 := Aside0.mk (HB0.out.trans (hb.mono HB0.out.size)); clear hb hR hS HZ0 HY0 HB0; have T1 := Aside0.mk trivial) | (clear T1; go_at_call 29; (with_reducible refine (sprref7_pieces.calls k (s.extract (n + 2) s.size) true b _ _ hpb).mono ?_); rintro e w2 ⟨v, rfl, hR, hb⟩; obtain ⟨A2, c2, rfl, hlm2, hS⟩ := own_src hR; have HS2 := Aside0.mk hS; have HK2 := Aside0.mk (blk_lt HZ1.out); have HS1b := Aside0.mk (fun h => let ⟨ad, ha, hg, hx⟩ := HS1.out h; (⟨ad, ha, hg, src_below hx hb⟩ : ∃ ad, A1 = some ad ∧ wr.heap.size ≤ ad.block ∧ ∀ j v, (a.map (Value.int .i64))[j]? = some v → w2.cell? (ad.add j) = some v)); clear HS1; have HZ2 := Aside0.mk (blk_below HZ1.out hb); have HY2 := Aside0.mk (blk_below HY1.out hb); have HB2 := Aside0.mk (HB1.out.trans (hb.mono HB1.out.size)); clear hb hR hS HZ1 HY1 HB1; have T2 := Aside0.mk trivial) | ((with_reducible refine gate_dst (N := 99) rfl ?_); refine wpList_load_row rfl 23 (.tmp 4) rfl (w.heap.size + 1) rfl 23 (arrV zero8) (0, 0) _ HZ2.out hu (by rfl) hi0 ?_) | ((with_reducible refine gate_store (t := 23) (p := 2) rfl ?_); refine wpList_store_row rfl 23 (.tmp 2) (.tmp 99) rfl w.heap.size (arrV zero8) rfl rfl 23 (arrV zero8) HY2.out hi0 rfl (arr_one _) ?_))
          refine bodyPost_ret (v := .tuple #[.agg (arrV zero8), .int .i64 4]) ?_ rfl ⟨rfl, Go.below_setRow HB2.out (Nat.le_refl _) _⟩
          exact results_arr (p := 2) (u := 3) (ty := 23) rfl _ _ w.heap.size 23 (arrV zero8) (0, 0) _ rfl (setRow_heap _ _ _ _ _ _ HY2.out) hu rfl hi0
        | true =>
          have h8 : 7 < a.length + b.length := by simpa using hbad
          have q2 : decide ((7 : Int) < (a.length : Int) + (b.length : Int)) = true := decide_eq_true (by omega)
          clear hbad h8
          go_wp2_with (first | (clear T0; go_at_call 29; (with_reducible refine (sprref7_pieces.calls k (s.extract 0 n) false a _ _ hpa).mono ?_); rintro e w1 ⟨v, rfl, hR, hb⟩; obtain ⟨A1, c1, rfl, hlm1, hS⟩ := own_src hR; have HS1 := Aside0.mk hS; have HK1 := Aside0.mk (blk_lt HZ0.out); have HZ1 := Aside0.mk (blk_below HZ0.out hb); have HY1 := Aside0.mk (blk_below HY0.out hb); have HB1 := Aside0.mk (HB0.out.trans (hb.mono HB0.out.size)); clear hb hR hS HZ0 HY0 HB0; have T1 := Aside0.mk trivial) | (clear T1; go_at_call 29; (with_reducible refine (sprref7_pieces.calls k (s.extract (n + 2) s.size) true b _ _ hpb).mono ?_); rintro e w2 ⟨v, rfl, hR, hb⟩; obtain ⟨A2, c2, rfl, hlm2, hS⟩ := own_src hR; have HS2 := Aside0.mk hS; have HK2 := Aside0.mk (blk_lt HZ1.out); have HS1b := Aside0.mk (fun h => let ⟨ad, ha, hg, hx⟩ := HS1.out h; (⟨ad, ha, hg, src_below hx hb⟩ : ∃ ad, A1 = some ad ∧ wr.heap.size ≤ ad.block ∧ ∀ j v, (a.map (Value.int .i64))[j]? = some v → w2.cell? (ad.add j) = some v)); clear HS1; have HZ2 := Aside0.mk (blk_below HZ1.out hb); have HY2 := Aside0.mk (blk_below HY1.out hb); have HB2 := Aside0.mk (HB1.out.trans (hb.mono HB1.out.size)); clear hb hR hS HZ1 HY1 HB1; have T2 := Aside0.mk trivial) | ((with_reducible refine gate_dst (N := 99) rfl ?_); refine wpList_load_row rfl 23 (.tmp 4) rfl (w.heap.size + 1) rfl 23 (arrV zero8) (0, 0) _ HZ2.out hu (by rfl) hi0 ?_) | ((with_reducible refine gate_store (t := 23) (p := 2) rfl ?_); refine wpList_store_row rfl 23 (.tmp 2) (.tmp 99) rfl w.heap.size (arrV zero8) rfl rfl 23 (arrV zero8) HY2.out hi0 rfl (arr_one _) ?_))
          refine bodyPost_ret (v := .tuple #[.agg (arrV zero8), .int .i64 4]) ?_ rfl ⟨rfl, Go.below_setRow HB2.out (Nat.le_refl _) _⟩
          exact results_arr (p := 2) (u := 3) (ty := 23) rfl _ _ w.heap.size 23 (arrV zero8) (0, 0) _ rfl (setRow_heap _ _ _ _ _ _ HY2.out) hu rfl hi0
      · have q1 : decide ((i : Int) + 1 < (s.size : Int)) = false := decide_eq_false (by omega)
        clear hlt
        unfold ref_bad2 at hbad
        cases ok with
        | false =>
          go_wp2_with (first | (clear T0; go_at_call 29; (with_reducible refine (sprref7_pieces.calls k (s.extract 0 n) false a _ _ hpa).mono ?_); rintro e w1 ⟨v, rfl, hR, hb⟩; obtain ⟨A1, c1, rfl, hlm1, hS⟩ := own_src hR; have HS1 := Aside0.mk hS; have HK1 := Aside0.mk (blk_lt HZ0.out); have HZ1 := Aside0.mk (blk_below HZ0.out hb); have HY1 := Aside0.mk (blk_below HY0.out hb); have HB1 := Aside0.mk (HB0.out.trans (hb.mono HB0.out.size)); clear hb hR hS HZ0 HY0 HB0; have T1 := Aside0.mk trivial) | (clear T1; go_at_call 29; (with_reducible refine (sprref7_pieces.calls k (s.extract (n + 2) s.size) true b _ _ hpb).mono ?_); rintro e w2 ⟨v, rfl, hR, hb⟩; obtain ⟨A2, c2, rfl, hlm2, hS⟩ := own_src hR; have HS2 := Aside0.mk hS; have HK2 := Aside0.mk (blk_lt HZ1.out); have HS1b := Aside0.mk (fun h => let ⟨ad, ha, hg, hx⟩ := HS1.out h; (⟨ad, ha, hg, src_below hx hb⟩ : ∃ ad, A1 = some ad ∧ wr.heap.size ≤ ad.block ∧ ∀ j v, (a.map (Value.int .i64))[j]? = some v → w2.cell? (ad.add j) = some v)); clear HS1; have HZ2 := Aside0.mk (blk_below HZ1.out hb); have HY2 := Aside0.mk (blk_below HY1.out hb); have HB2 := Aside0.mk (HB1.out.trans (hb.mono HB1.out.size)); clear hb hR hS HZ1 HY1 HB1; have T2 := Aside0.mk trivial) | ((with_reducible refine gate_dst (N := 99) rfl ?_); refine wpList_load_row rfl 23 (.tmp 4) rfl (w.heap.size + 1) rfl 23 (arrV zero8) (0, 0) _ HZ2.out hu (by rfl) hi0 ?_) | ((with_reducible refine gate_store (t := 23) (p := 2) rfl ?_); refine wpList_store_row rfl 23 (.tmp 2) (.tmp 99) rfl w.heap.size (arrV zero8) rfl rfl 23 (arrV zero8) HY2.out hi0 rfl (arr_one _) ?_))
          refine bodyPost_ret (v := .tuple #[.agg (arrV zero8), .int .i64 4]) ?_ rfl ⟨rfl, Go.below_setRow HB2.out (Nat.le_refl _) _⟩
          exact results_arr (p := 2) (u := 3) (ty := 23) rfl _ _ w.heap.size 23 (arrV zero8) (0, 0) _ rfl (setRow_heap _ _ _ _ _ _ HY2.out) hu rfl hi0
        | true =>
        cases yes with
        | false =>
          go_wp2_with (first | (clear T0; go_at_call 29; (with_reducible refine (sprref7_pieces.calls k (s.extract 0 n) false a _ _ hpa).mono ?_); rintro e w1 ⟨v, rfl, hR, hb⟩; obtain ⟨A1, c1, rfl, hlm1, hS⟩ := own_src hR; have HS1 := Aside0.mk hS; have HK1 := Aside0.mk (blk_lt HZ0.out); have HZ1 := Aside0.mk (blk_below HZ0.out hb); have HY1 := Aside0.mk (blk_below HY0.out hb); have HB1 := Aside0.mk (HB0.out.trans (hb.mono HB0.out.size)); clear hb hR hS HZ0 HY0 HB0; have T1 := Aside0.mk trivial) | (clear T1; go_at_call 29; (with_reducible refine (sprref7_pieces.calls k (s.extract (n + 2) s.size) true b _ _ hpb).mono ?_); rintro e w2 ⟨v, rfl, hR, hb⟩; obtain ⟨A2, c2, rfl, hlm2, hS⟩ := own_src hR; have HS2 := Aside0.mk hS; have HK2 := Aside0.mk (blk_lt HZ1.out); have HS1b := Aside0.mk (fun h => let ⟨ad, ha, hg, hx⟩ := HS1.out h; (⟨ad, ha, hg, src_below hx hb⟩ : ∃ ad, A1 = some ad ∧ wr.heap.size ≤ ad.block ∧ ∀ j v, (a.map (Value.int .i64))[j]? = some v → w2.cell? (ad.add j) = some v)); clear HS1; have HZ2 := Aside0.mk (blk_below HZ1.out hb); have HY2 := Aside0.mk (blk_below HY1.out hb); have HB2 := Aside0.mk (HB1.out.trans (hb.mono HB1.out.size)); clear hb hR hS HZ1 HY1 HB1; have T2 := Aside0.mk trivial) | ((with_reducible refine gate_dst (N := 99) rfl ?_); refine wpList_load_row rfl 23 (.tmp 4) rfl (w.heap.size + 1) rfl 23 (arrV zero8) (0, 0) _ HZ2.out hu (by rfl) hi0 ?_) | ((with_reducible refine gate_store (t := 23) (p := 2) rfl ?_); refine wpList_store_row rfl 23 (.tmp 2) (.tmp 99) rfl w.heap.size (arrV zero8) rfl rfl 23 (arrV zero8) HY2.out hi0 rfl (arr_one _) ?_))
          refine bodyPost_ret (v := .tuple #[.agg (arrV zero8), .int .i64 4]) ?_ rfl ⟨rfl, Go.below_setRow HB2.out (Nat.le_refl _) _⟩
          exact results_arr (p := 2) (u := 3) (ty := 23) rfl _ _ w.heap.size 23 (arrV zero8) (0, 0) _ rfl (setRow_heap _ _ _ _ _ _ HY2.out) hu rfl hi0
        | true =>
          have h8 : 7 < a.length + b.length := by simpa using hbad
          have q2 : decide ((7 : Int) < (a.length : Int) + (b.length : Int)) = true := decide_eq_true (by omega)
          clear hbad h8
          go_wp2_with (first | (clear T0; go_at_call 29; (with_reducible refine (sprref7_pieces.calls k (s.extract 0 n) false a _ _ hpa).mono ?_); rintro e w1 ⟨v, rfl, hR, hb⟩; obtain ⟨A1, c1, rfl, hlm1, hS⟩ := own_src hR; have HS1 := Aside0.mk hS; have HK1 := Aside0.mk (blk_lt HZ0.out); have HZ1 := Aside0.mk (blk_below HZ0.out hb); have HY1 := Aside0.mk (blk_below HY0.out hb); have HB1 := Aside0.mk (HB0.out.trans (hb.mono HB0.out.size)); clear hb hR hS HZ0 HY0 HB0; have T1 := Aside0.mk trivial) | (clear T1; go_at_call 29; (with_reducible refine (sprref7_pieces.calls k (s.extract (n + 2) s.size) true b _ _ hpb).mono ?_); rintro e w2 ⟨v, rfl, hR, hb⟩; obtain ⟨A2, c2, rfl, hlm2, hS⟩ := own_src hR; have HS2 := Aside0.mk hS; have HK2 := Aside0.mk (blk_lt HZ1.out); have HS1b := Aside0.mk (fun h => let ⟨ad, ha, hg, hx⟩ := HS1.out h; (⟨ad, ha, hg, src_below hx hb⟩ : ∃ ad, A1 = some ad ∧ wr.heap.size ≤ ad.block ∧ ∀ j v, (a.map (Value.int .i64))[j]? = some v → w2.cell? (ad.add j) = some v)); clear HS1; have HZ2 := Aside0.mk (blk_below HZ1.out hb); have HY2 := Aside0.mk (blk_below HY1.out hb); have HB2 := Aside0.mk (HB1.out.trans (hb.mono HB1.out.size)); clear hb hR hS HZ1 HY1 HB1; have T2 := Aside0.mk trivial) | ((with_reducible refine gate_dst (N := 99) rfl ?_); refine wpList_load_row rfl 23 (.tmp 4) rfl (w.heap.size + 1) rfl 23 (arrV zero8) (0, 0) _ HZ2.out hu (by rfl) hi0 ?_) | ((with_reducible refine gate_store (t := 23) (p := 2) rfl ?_); refine wpList_store_row rfl 23 (.tmp 2) (.tmp 99) rfl w.heap.size (arrV zero8) rfl rfl 23 (arrV zero8) HY2.out hi0 rfl (arr_one _) ?_))
          refine bodyPost_ret (v := .tuple #[.agg (arrV zero8), .int .i64 4]) ?_ rfl ⟨rfl, Go.below_setRow HB2.out (Nat.le_refl _) _⟩
          exact results_arr (p := 2) (u := 3) (ty := 23) rfl _ _ w.heap.size 23 (arrV zero8) (0, 0) _ rfl (setRow_heap _ _ _ _ _ _ HY2.out) hu rfl hi0
set_option maxHeartbeats 2000000 in
set_option maxRecDepth 100000 in
theorem sprref7_Parse6.two_good (k : Nat) (s : ByteArray) (w : World) (hs : s.size ≤ 4000) (n : Nat) (a b : List Int) (ok yes : Bool) (hcn : colons s.data.toList = some n) (hpa : sprref7_pieces.f k (s.extract 0 n) false = some (a, ok)) (hpb : sprref7_pieces.f k (s.extract (n + 2) s.size) true = some (b, yes)) (ha9 : a.length < 4294967296) (hb9 : b.length < 4294967296) (hgood : ref_bad2 ok yes a b = false) :
    Calls Tryd.prog 15 #[.string s] w fun e w' => e = .returned (.tuple #[.agg (arrV (splice (splice zero8 0 (a.map wr16)) (8 - b.length) (b.map wr16))), .int .i64 0]) ∧ Below w.heap.size w w' := by
  have hu := Tryd.underlying23
  have hi0 : (Tryd.prog.info? 23).map (·.size) = some (arrV zero8).size := by kernel_rfl
  have T0 := Aside0.mk trivial
  have hsl : s.data.toList.length = s.size := rfl
  have hs0 := Aside0.mk hs
  have hsl0 := Aside0.mk hsl
  have q0 : decide ((4000 : Int) < (s.size : Int)) = false := decide_eq_false (by omega)
  clear hs hsl
  obtain ⟨w0, hw0⟩ : ∃ w0, w0 = (w.alloc (.cells #[Value.int .u16 0, Value.int .u16 0, Value.int .u16 0, Value.int .u16 0, Value.int .u16 0, Value.int .u16 0, Value.int .u16 0, Value.int .u16 0] 23)).alloc (.cells #[Value.int .u16 0, Value.int .u16 0, Value.int .u16 0, Value.int .u16 0, Value.int .u16 0, Value.int .u16 0, Value.int .u16 0, Value.int .u16 0] 23) := ⟨_, rfl⟩
  have HB0 : Aside0 (Below w.heap.size w w0) := ⟨by rw [hw0]; exact below_alloc (below_alloc (Below.refl _ _) _) _⟩
  have HY0 : Aside0 (w0.heap[w.heap.size]? = some (.cells (arrV zero8) 23 (0, 0))) := ⟨by rw [hw0]; exact blk_alloc (blk_new _ _) _⟩
  have HZ0 : Aside0 (w0.heap[w.heap.size + 1]? = some (.cells (arrV zero8) 23 (0, 0))) := ⟨by rw [hw0]; have z := blk_new (w.alloc (.cells #[Value.int .u16 0, Value.int .u16 0, Value.int .u16 0, Value.int .u16 0, Value.int .u16 0, Value.int .u16 0, Value.int .u16 0, Value.int .u16 0] 23)) (.cells #[Value.int .u16 0, Value.int .u16 0, Value.int .u16 0, Value.int .u16 0, Value.int .u16 0, Value.int .u16 0, Value.int .u16 0, Value.int .u16 0] 23); rw [World.size_alloc] at z; exact z⟩
  go_enter Tryd.func15, Tryd.ntmps15
  go_wp2_with fail
  rw [← hw0]
  clear hw0

  have HCN := Aside0.mk hcn
  have hnlt := colons_lt _ _ hcn
  have hn2 : n + 2 ≤ s.size := hnlt
  clear hcn hnlt
  have hn4 : n ≤ 4000 := by have := hs0.out; omega
  have HN2 := Aside0.mk hn2
  have HN4 := Aside0.mk hn4
  clear hn2 hn4
  go_loopw [5, 6] (fun v5 v6 wr => ∃ (c : Int) (i : Nat), v5 = .int .i64 c ∧ v6 = .int .i64 (i : Int) ∧ Aside0 (i ≤ s.size) ∧ Aside0 ((c = -1 ∧ ∃ m, colons (s.data.toList.drop i) = some m ∧ m + i = n) ∨ c = (n : Int)) ∧ wr = w0) (fun _ v6 _ => s.size - (intOf v6).toNat)
  case atStart => exact ⟨-1, 0, rfl, rfl, ⟨Nat.zero_le _⟩, ⟨Or.inl ⟨rfl, n, HCN.out, rfl⟩⟩, rfl⟩
  case round =>
    obtain ⟨c, i, rfl, rfl, hi, hC, rfl⟩ := hrel
    have hw1 : wrap64 ((i : Int) + 1) = (i : Int) + 1 := by have := hi.out; have := hs0.out; unfold wrap64; omega

    rcases hC.out with ⟨rfl, m, hm, hmn⟩ | rfl
    · have hmi := colons_lt _ _ hm
      rw [List.length_drop] at hmi
      have hlt : i + 1 < s.size := by have := hsl0.out; omega
      clear hmi
      have q1 : decide ((i : Int) + 1 < (s.size : Int)) = true := decide_eq_true (by omega)
      have p1 := eq_true (show (0 : Int) ≤ (i : Int) by omega)
      have p2 := eq_true (show (i : Int) < (s.size : Int) by omega)
      have p3 := eq_true (show (0 : Int) ≤ (i : Int) + 1 by omega)
      have p4 := eq_true (show (i : Int) + 1 < (s.size : Int) by omega)
      by_cases h1 : (s[i]'(by omega)).toNat = 58
      · by_cases h2 : (s[i + 1]'(by omega)).toNat = 58
        · have e1 : (((s[i]'(by omega)).toNat : Int) == 58) = true := beq_iff_eq.2 (by omega)
          have e2 : (((s[i + 1]'(by omega)).toNat : Int) == 58) = true := beq_iff_eq.2 (by omega)
          have hm0 := colons_hit s i hlt h1 h2
          go_wp2
          go_roundw
          case measure => exact meas (by omega) hw1
          case rel => exact ⟨(i : Int), i + 1, rfl, by rw [hw1]; rfl, ⟨by omega⟩, ⟨Or.inr (by rw [hm] at hm0; have e := Option.some.inj hm0; omega)⟩, trivial⟩
        · have e1 : (((s[i]'(by omega)).toNat : Int) == 58) = true := beq_iff_eq.2 (by omega)
          have e2 : (((s[i + 1]'(by omega)).toNat : Int) == 58) = false := beq_eq_false_iff_ne.2 (by omega)
          go_wp2
          go_roundw
          case measure => exact meas (by omega) hw1
          case rel => exact ⟨-1, i + 1, rfl, by rw [hw1]; rfl, ⟨by omega⟩, ⟨Or.inl ⟨rfl, by have z := colons_next s i hlt (fun q => by first | exact h1 q.1 | exact h2 q.2); rw [hm] at z; cases hz : colons (s.data.toList.drop (i + 1)) with | none => rw [hz] at z; cases z | some m2 => rw [hz] at z; exact ⟨m2, rfl, by have e : m = m2 + 1 := Option.some.inj z; omega⟩⟩⟩, trivial⟩
      · have e1 : (((s[i]'(by omega)).toNat : Int) == 58) = false := beq_eq_false_iff_ne.2 (by omega)
        go_wp2
        go_roundw
        case measure => exact meas (by omega) hw1
        case rel => exact ⟨-1, i + 1, rfl, by rw [hw1]; rfl, ⟨by omega⟩, ⟨Or.inl ⟨rfl, by have z := colons_next s i hlt (fun q => by first | exact h1 q.1 | exact h2 q.2); rw [hm] at z; cases hz : colons (s.data.toList.drop (i + 1)) with | none => rw [hz] at z; cases z | some m2 => rw [hz] at z; exact ⟨m2, rfl, by have e : m = m2 + 1 := Option.some.inj z; omega⟩⟩⟩, trivial⟩

    · have hn2 := HN2.out
      have hn4 := HN4.out
      have c0 : decide ((n : Int) < 0) = false := decide_eq_false (by omega)
      have p0 := eq_true (show (0 : Int) ≤ (n : Int) by omega)
      have p1 := eq_true (show (n : Int) ≤ (s.size : Int) by omega)
      have hw2 : wrap64 ((n : Int) + 2) = (n : Int) + 2 := by unfold wrap64; omega
      have p2 := eq_true (show (0 : Int) ≤ (n : Int) + 2 by omega)
      have p3 := eq_true (show (n : Int) + 2 ≤ (s.size : Int) by omega)
      have hab : wrap64 ((a.length : Int) + (b.length : Int)) = (a.length : Int) + (b.length : Int) := by unfold wrap64; omega
      clear hn2 hn4
      by_cases hlt : i + 1 < s.size
      · have q1 : decide ((i : Int) + 1 < (s.size : Int)) = true := decide_eq_true (by omega)
        clear hlt
        unfold ref_bad2 at hgood
        cases ok with
        | false => exact absurd hgood (by simp)
        | true =>
        cases yes with
        | false => exact absurd hgood (by simp)
        | true =>
        have h8 : ¬ 7 < a.length + b.length := by simpa using hgood
        have q2 : decide ((7 : Int) < (a.length : Int) + (b.length : Int)) = false := decide_eq_false (by omega)
        have hbl0 : Aside0 (zero8.length = 8) := ⟨rfl⟩
        have H8 := Aside0.mk h8
        clear hgood h8
        go_wp2_with (first | (clear T0; go_at_call 29; (with_reducible refine (sprref7_pieces.calls k (s.extract 0 n) false a _ _ hpa).mono ?_); rintro e w1 ⟨v, rfl, hR, hb⟩; obtain ⟨A1, c1, rfl, hlm1, hS⟩ := own_src hR; have HS1 := Aside0.mk hS; have HK1 := Aside0.mk (blk_lt HZ0.out); have HZ1 := Aside0.mk (blk_below HZ0.out hb); have HY1 := Aside0.mk (blk_below HY0.out hb); have HB1 := Aside0.mk (HB0.out.trans (hb.mono HB0.out.size)); clear hb hR hS HZ0 HY0 HB0; have T1 := Aside0.mk trivial) | (clear T1; go_at_call 29; (with_reducible refine (sprref7_pieces.calls k (s.extract (n + 2) s.size) true b _ _ hpb).mono ?_); rintro e w2 ⟨v, rfl, hR, hb⟩; obtain ⟨A2, c2, rfl, hlm2, hS⟩ := own_src hR; have HS2 := Aside0.mk hS; have HK2 := Aside0.mk (blk_lt HZ1.out); have HS1b := Aside0.mk (fun h => let ⟨ad, ha, hg, hx⟩ := HS1.out h; (⟨ad, ha, hg, src_below hx hb⟩ : ∃ ad, A1 = some ad ∧ wr.heap.size ≤ ad.block ∧ ∀ j v, (a.map (Value.int .i64))[j]? = some v → w2.cell? (ad.add j) = some v)); clear HS1; have HZ2 := Aside0.mk (blk_below HZ1.out hb); have HY2 := Aside0.mk (blk_below HY1.out hb); have HB2 := Aside0.mk (HB1.out.trans (hb.mono HB1.out.size)); clear hb hR hS HZ1 HY1 HB1; have T2 := Aside0.mk trivial))
        have h8 := H8.out
        have HX0_2 : Aside0 (0 < a.length → ∃ ad, A1 = some ad ∧ ad.block ≠ w.heap.size + 1 ∧ ∀ j v, (a.map (Value.int .i64))[j]? = some v → w2.cell? (ad.add j) = some v) := ⟨fun h => let ⟨ad, ha, hg, hx⟩ := HS1b.out h; ⟨ad, ha, by have := HK1.out; omega, hx⟩⟩
        have HX1_2 : Aside0 (0 < b.length → ∃ ad, A2 = some ad ∧ ad.block ≠ w.heap.size + 1 ∧ ∀ j v, (b.map (Value.int .i64))[j]? = some v → w2.cell? (ad.add j) = some v) := ⟨fun h => let ⟨ad, ha, hg, hx⟩ := HS2.out h; ⟨ad, ha, by have := HK2.out; omega, hx⟩⟩
        clear HS1b HS2
        go_loopw [14] (fun v14 wr => ∃ i : Nat, v14 = .int .i64 (i : Int) ∧ Aside0 (i ≤ a.length) ∧ Aside0 (wr.heap[w.heap.size + 1]? = some (.cells (arrV (splice zero8 (0) ((a.map wr16).take i))) 23 (0, 0))) ∧ Aside0 (wr.heap[w.heap.size]? = some (.cells (arrV zero8) 23 (0, 0))) ∧ Aside0 (0 < a.length → ∃ ad, A1 = some ad ∧ ad.block ≠ w.heap.size + 1 ∧ ∀ j v, (a.map (Value.int .i64))[j]? = some v → wr.cell? (ad.add j) = some v) ∧ Aside0 (0 < b.length → ∃ ad, A2 = some ad ∧ ad.block ≠ w.heap.size + 1 ∧ ∀ j v, (b.map (Value.int .i64))[j]? = some v → wr.cell? (ad.add j) = some v) ∧ Aside0 (Below w.heap.size w wr)) (fun v14 _ => a.length - (intOf v14).toNat)
        case atStart => exact ⟨0, rfl, ⟨Nat.zero_le _⟩, ⟨by rw [List.take_zero, splice_nil]; exact HZ2.out⟩, HY2, HX0_2, HX1_2, HB2⟩
        case round =>
          clear HZ2 HY2 HB2 HX0_2 HX1_2
          obtain ⟨i, rfl, hi, hZ, hY, hX0, hX1, hB⟩ := hrel
          have hw1 : wrap64 ((i : Int) + 1) = (i : Int) + 1 := by have := hi.out; unfold wrap64; omega
          by_cases hlt : i < a.length
          · obtain ⟨x, hx⟩ : ∃ x, a[i]? = some x := ⟨a[i]'hlt, List.getElem?_eq_getElem _⟩
            have q1 : decide ((i : Int) < (a.length : Int)) = true := decide_eq_true (by omega)
            have p1 := eq_true (show (0 : Int) ≤ (i : Int) by omega)
            have p2 := eq_true (show (i : Int) < (a.length : Int) by omega)
            have p3 := eq_true (show (i : Int) < 8 by omega)
            have hbl := hbl0.out
            obtain ⟨ad, rfl, hne, hx1⟩ := hX0.out (by omega)
            have hcell1 := hx1 i (.int .i64 x) (by rw [List.getElem?_map, hx]; rfl)
            have hlenr : (splice zero8 (0) ((a.map wr16).take i)).length = 8 := by rw [length_splice _ _ _ (by rw [List.length_take, List.length_map, hbl]; omega), hbl]
            have hcell2 := row_cell hZ.out i (by omega)
            have hfr := blk_frozen hZ.out i
            have hn : (a.map wr16)[i]? = some (wr16 x) := by rw [List.getElem?_map, hx]; rfl
            obtain ⟨hn1, hn2⟩ := List.getElem?_eq_some_iff.1 hn
            have hZ2 := row_set hZ.out i (wr16 x)
            have hst := splice_step zero8 (a.map wr16) (0) i hn1 (by rw [List.length_map, hbl]; omega)
            rw [hn2, Nat.zero_add] at hst
            rw [hst] at hZ2
            have HZ2 := Aside0.mk hZ2
            generalize (splice zero8 (0) ((a.map wr16).take i))[i]'_ = y at hcell2
            have HNE := Aside0.mk hne
            clear hZ2 hst hn hn1 hn2 hlenr hx hbl hx1 hne
            go_wp2
            go_roundw
            case measure => exact meas hlt rfl
            case rel => exact ⟨i + 1, rfl, ⟨hlt⟩, HZ2, ⟨(Below.heap_setCell wr ⟨w.heap.size + 1, i, none⟩ _ w.heap.size (Nat.ne_of_lt (Nat.lt_succ_self _))).trans hY.out⟩, ⟨fun h => let ⟨ad, ha, hg, hx⟩ := hX0.out h; ⟨ad, ha, hg, src_keep hx (fun j hj => Below.heap_setCell wr ⟨w.heap.size + 1, i, none⟩ _ j hj) hg⟩⟩, ⟨fun h => let ⟨ad, ha, hg, hx⟩ := hX1.out h; ⟨ad, ha, hg, src_keep hx (fun j hj => Below.heap_setCell wr ⟨w.heap.size + 1, i, none⟩ _ j hj) hg⟩⟩, ⟨hB.out.setCell (Nat.le_succ _) _⟩⟩
          · have q1 : decide ((i : Int) < (a.length : Int)) = false := decide_eq_false (by omega)
            have e1 : i = a.length := by have := hi.out; omega
            have HZ3 : Aside0 (wr.heap[w.heap.size + 1]? = some (.cells (arrV (splice zero8 0 (a.map wr16))) 23 (0, 0))) := ⟨by rw [hZ.out, e1, ← List.length_map (f := wr16), List.take_length]⟩
            have hbl1 : Aside0 ((splice zero8 0 (a.map wr16)).length = 8) := ⟨by rw [length_splice _ _ _ (by rw [List.length_map, hbl0.out]; omega), hbl0.out]⟩
            have HY3 := hY
            have HB3 := hB
            have HX0_3 := hX1
            clear hZ hX0 hX1 hY hB e1 hi
            go_wp2
            clear hw1 q1 hlt
            go_loopw [15] (fun v15 wr => ∃ i : Nat, v15 = .int .i64 (i : Int) ∧ Aside0 (i ≤ b.length) ∧ Aside0 (wr.heap[w.heap.size + 1]? = some (.cells (arrV (splice (splice zero8 0 (a.map wr16)) (8 - b.length) ((b.map wr16).take i))) 23 (0, 0))) ∧ Aside0 (wr.heap[w.heap.size]? = some (.cells (arrV zero8) 23 (0, 0))) ∧ Aside0 (0 < b.length → ∃ ad, A2 = some ad ∧ ad.block ≠ w.heap.size + 1 ∧ ∀ j v, (b.map (Value.int .i64))[j]? = some v → wr.cell? (ad.add j) = some v) ∧ Aside0 (Below w.heap.size w wr)) (fun v15 _ => b.length - (intOf v15).toNat)
            case atStart => exact ⟨0, rfl, ⟨Nat.zero_le _⟩, ⟨by rw [List.take_zero, splice_nil]; exact HZ3.out⟩, HY3, HX0_3, HB3⟩
            case round =>
              clear HZ3 HY3 HB3 HX0_3
              obtain ⟨i, rfl, hi, hZ, hY, hX0, hB⟩ := hrel
              have hw1 : wrap64 ((i : Int) + 1) = (i : Int) + 1 := by have := hi.out; unfold wrap64; omega
              by_cases hlt : i < b.length
              · obtain ⟨x, hx⟩ : ∃ x, b[i]? = some x := ⟨b[i]'hlt, List.getElem?_eq_getElem _⟩
                have q1 : decide ((i : Int) < (b.length : Int)) = true := decide_eq_true (by omega)
                have p1 := eq_true (show (0 : Int) ≤ (i : Int) by omega)
                have p2 := eq_true (show (i : Int) < (b.length : Int) by omega)
                have hw2 : wrap64 (8 - (b.length : Int)) = 8 - (b.length : Int) := by unfold wrap64; omega
                have hw3 : wrap64 (8 - (b.length : Int) + (i : Int)) = 8 - (b.length : Int) + (i : Int) := by unfold wrap64; omega
                have p3 := eq_true (show (0 : Int) ≤ 8 - (b.length : Int) + (i : Int) by omega)
                have p4 := eq_true (show 8 - (b.length : Int) + (i : Int) < 8 by omega)
                have hbl := hbl1.out
                obtain ⟨ad, rfl, hne, hx1⟩ := hX0.out (by omega)
                have hcell1 := hx1 i (.int .i64 x) (by rw [List.getElem?_map, hx]; rfl)
                have hlenr : (splice (splice zero8 0 (a.map wr16)) (8 - b.length) ((b.map wr16).take i)).length = 8 := by rw [length_splice _ _ _ (by rw [List.length_take, List.length_map, hbl]; omega), hbl]
                have hcell2 := row_cell hZ.out (8 - b.length + i) (by omega)
                have hfr := blk_frozen hZ.out (8 - b.length + i)
                have hn : (b.map wr16)[i]? = some (wr16 x) := by rw [List.getElem?_map, hx]; rfl
                obtain ⟨hn1, hn2⟩ := List.getElem?_eq_some_iff.1 hn
                have hZ2 := row_set hZ.out (8 - b.length + i) (wr16 x)
                have hst := splice_step (splice zero8 0 (a.map wr16)) (b.map wr16) (8 - b.length) i hn1 (by rw [List.length_map, hbl]; omega)
                rw [hn2] at hst
                rw [hst] at hZ2
                have HZ2 := Aside0.mk hZ2
                generalize (splice (splice zero8 0 (a.map wr16)) (8 - b.length) ((b.map wr16).take i))[(8 - b.length + i)]'_ = y at hcell2
                have HNE := Aside0.mk hne
                clear hZ2 hst hn hn1 hn2 hlenr hx hbl hx1 hne
                go_wp2
                go_roundw
                case measure => exact meas hlt rfl
                case rel => exact ⟨i + 1, rfl, ⟨hlt⟩, HZ2, ⟨(Below.heap_setCell wr ⟨w.heap.size + 1, (8 - b.length + i), none⟩ _ w.heap.size (Nat.ne_of_lt (Nat.lt_succ_self _))).trans hY.out⟩, ⟨fun h => let ⟨ad, ha, hg, hx⟩ := hX0.out h; ⟨ad, ha, hg, src_keep hx (fun j hj => Below.heap_setCell wr ⟨w.heap.size + 1, (8 - b.length + i), none⟩ _ j hj) hg⟩⟩, ⟨hB.out.setCell (Nat.le_succ _) _⟩⟩
              · have q1 : decide ((i : Int) < (b.length : Int)) = false := decide_eq_false (by omega)
                have hbl := hbl1.out
                have e1 : i = b.length := by have := hi.out; omega
                have HZ5 : Aside0 (wr.heap[w.heap.size + 1]? = some (.cells (arrV (splice (splice zero8 0 (a.map wr16)) (8 - b.length) (b.map wr16))) 23 (0, 0))) := ⟨by rw [hZ.out, e1, ← List.length_map (f := wr16), List.take_length]⟩
                have hsz : (splice (splice zero8 0 (a.map wr16)) (8 - b.length) (b.map wr16)).length = 8 := by rw [length_splice _ _ _ (by rw [List.length_map, hbl]; omega), hbl]
                have hi5 : Aside0 ((Tryd.prog.info? 23).map (·.size) = some (arrV (splice (splice zero8 0 (a.map wr16)) (8 - b.length) (b.map wr16))).size) := ⟨by rw [arr_size, hsz]; kernel_rfl⟩
                have hs5 : Aside0 ((arrV zero8).size = (arrV (splice (splice zero8 0 (a.map wr16)) (8 - b.length) (b.map wr16))).size) := ⟨by rw [arr_size, arr_size, hsz, hbl0.out]⟩
                clear hsz hZ hX0 hbl e1
                go_wp2_with (first | ((with_reducible refine gate_dst (N := 130) rfl ?_); refine wpList_load_row rfl 23 (.tmp 4) rfl (w.heap.size + 1) rfl 23 (arrV (splice (splice zero8 0 (a.map wr16)) (8 - b.length) (b.map wr16))) (0, 0) _ HZ5.out hu (by rfl) hi5.out ?_) | ((with_reducible refine gate_store (t := 23) (p := 2) rfl ?_); refine wpList_store_row rfl 23 (.tmp 2) (.tmp 130) rfl w.heap.size (arrV (splice (splice zero8 0 (a.map wr16)) (8 - b.length) (b.map wr16))) rfl rfl 23 (arrV zero8) hY.out hi5.out hs5.out (arr_one _) ?_))
                refine bodyPost_ret (v := .tuple #[.agg (arrV (splice (splice zero8 0 (a.map wr16)) (8 - b.length) (b.map wr16))), .int .i64 0]) ?_ rfl ⟨rfl, Go.below_setRow hB.out (Nat.le_refl _) _⟩
                exact results_arr (p := 2) (u := 3) (ty := 23) rfl _ _ w.heap.size 23 (arrV (splice (splice zero8 0 (a.map wr16)) (8 - b.length) (b.map wr16))) (0, 0) _ rfl (setRow_heap _ _ _ _ _ _ hY.out) hu rfl hi5.out
      · have q1 : decide ((i : Int) + 1 < (s.size : Int)) = false := decide_eq_false (by omega)
        clear hlt
        unfold ref_bad2 at hgood
        cases ok with
        | false => exact absurd hgood (by simp)
        | true =>
        cases yes with
        | false => exact absurd hgood (by simp)
        | true =>
        have h8 : ¬ 7 < a.length + b.length := by simpa using hgood
        have q2 : decide ((7 : Int) < (a.length : Int) + (b.length : Int)) = false := decide_eq_false (by omega)
        have hbl0 : Aside0 (zero8.length = 8) := ⟨rfl⟩
        have H8 := Aside0.mk h8
        clear hgood h8
        go_wp2_with (first | (clear T0; go_at_call 29; (with_reducible refine (sprref7_pieces.calls k (s.extract 0 n) false a _ _ hpa).mono ?_); rintro e w1 ⟨v, rfl, hR, hb⟩; obtain ⟨A1, c1, rfl, hlm1, hS⟩ := own_src hR; have HS1 := Aside0.mk hS; have HK1 := Aside0.mk (blk_lt HZ0.out); have HZ1 := Aside0.mk (blk_below HZ0.out hb); have HY1 := Aside0.mk (blk_below HY0.out hb); have HB1 := Aside0.mk (HB0.out.trans (hb.mono HB0.out.size)); clear hb hR hS HZ0 HY0 HB0; have T1 := Aside0.mk trivial) | (clear T1; go_at_call 29; (with_reducible refine (sprref7_pieces.calls k (s.extract (n + 2) s.size) true b _ _ hpb).mono ?_); rintro e w2 ⟨v, rfl, hR, hb⟩; obtain ⟨A2, c2, rfl, hlm2, hS⟩ := own_src hR; have HS2 := Aside0.mk hS; have HK2 := Aside0.mk (blk_lt HZ1.out); have HS1b := Aside0.mk (fun h => let ⟨ad, ha, hg, hx⟩ := HS1.out h; (⟨ad, ha, hg, src_below hx hb⟩ : ∃ ad, A1 = some ad ∧ wr.heap.size ≤ ad.block ∧ ∀ j v, (a.map (Value.int .i64))[j]? = some v → w2.cell? (ad.add j) = some v)); clear HS1; have HZ2 := Aside0.mk (blk_below HZ1.out hb); have HY2 := Aside0.mk (blk_below HY1.out hb); have HB2 := Aside0.mk (HB1.out.trans (hb.mono HB1.out.size)); clear hb hR hS HZ1 HY1 HB1; have T2 := Aside0.mk trivial))
        have h8 := H8.out
        have HX0_2 : Aside0 (0 < a.length → ∃ ad, A1 = some ad ∧ ad.block ≠ w.heap.size + 1 ∧ ∀ j v, (a.map (Value.int .i64))[j]? = some v → w2.cell? (ad.add j) = some v) := ⟨fun h => let ⟨ad, ha, hg, hx⟩ := HS1b.out h; ⟨ad, ha, by have := HK1.out; omega, hx⟩⟩
        have HX1_2 : Aside0 (0 < b.length → ∃ ad, A2 = some ad ∧ ad.block ≠ w.heap.size + 1 ∧ ∀ j v, (b.map (Value.int .i64))[j]? = some v → w2.cell? (ad.add j) = some v) := ⟨fun h => let ⟨ad, ha, hg, hx⟩ := HS2.out h; ⟨ad, ha, by have := HK2.out; omega, hx⟩⟩
        clear HS1b HS2
        go_loopw [14] (fun v14 wr => ∃ i : Nat, v14 = .int .i64 (i : Int) ∧ Aside0 (i ≤ a.length) ∧ Aside0 (wr.heap[w.heap.size + 1]? = some (.cells (arrV (splice zero8 (0) ((a.map wr16).take i))) 23 (0, 0))) ∧ Aside0 (wr.heap[w.heap.size]? = some (.cells (arrV zero8) 23 (0, 0))) ∧ Aside0 (0 < a.length → ∃ ad, A1 = some ad ∧ ad.block ≠ w.heap.size + 1 ∧ ∀ j v, (a.map (Value.int .i64))[j]? = some v → wr.cell? (ad.add j) = some v) ∧ Aside0 (0 < b.length → ∃ ad, A2 = some ad ∧ ad.block ≠ w.heap.size + 1 ∧ ∀ j v, (b.map (Value.int .i64))[j]? = some v → wr.cell? (ad.add j) = some v) ∧ Aside0 (Below w.heap.size w wr)) (fun v14 _ => a.length - (intOf v14).toNat)
        case atStart => exact ⟨0, rfl, ⟨Nat.zero_le _⟩, ⟨by rw [List.take_zero, splice_nil]; exact HZ2.out⟩, HY2, HX0_2, HX1_2, HB2⟩
        case round =>
          clear HZ2 HY2 HB2 HX0_2 HX1_2
          obtain ⟨i, rfl, hi, hZ, hY, hX0, hX1, hB⟩ := hrel
          have hw1 : wrap64 ((i : Int) + 1) = (i : Int) + 1 := by have := hi.out; unfold wrap64; omega
          by_cases hlt : i < a.length
          · obtain ⟨x, hx⟩ : ∃ x, a[i]? = some x := ⟨a[i]'hlt, List.getElem?_eq_getElem _⟩
            have q1 : decide ((i : Int) < (a.length : Int)) = true := decide_eq_true (by omega)
            have p1 := eq_true (show (0 : Int) ≤ (i : Int) by omega)
            have p2 := eq_true (show (i : Int) < (a.length : Int) by omega)
            have p3 := eq_true (show (i : Int) < 8 by omega)
            have hbl := hbl0.out
            obtain ⟨ad, rfl, hne, hx1⟩ := hX0.out (by omega)
            have hcell1 := hx1 i (.int .i64 x) (by rw [List.getElem?_map, hx]; rfl)
            have hlenr : (splice zero8 (0) ((a.map wr16).take i)).length = 8 := by rw [length_splice _ _ _ (by rw [List.length_take, List.length_map, hbl]; omega), hbl]
            have hcell2 := row_cell hZ.out i (by omega)
            have hfr := blk_frozen hZ.out i
            have hn : (a.map wr16)[i]? = some (wr16 x) := by rw [List.getElem?_map, hx]; rfl
            obtain ⟨hn1, hn2⟩ := List.getElem?_eq_some_iff.1 hn
            have hZ2 := row_set hZ.out i (wr16 x)
            have hst := splice_step zero8 (a.map wr16) (0) i hn1 (by rw [List.length_map, hbl]; omega)
            rw [hn2, Nat.zero_add] at hst
            rw [hst] at hZ2
            have HZ2 := Aside0.mk hZ2
            generalize (splice zero8 (0) ((a.map wr16).take i))[i]'_ = y at hcell2
            have HNE := Aside0.mk hne
            clear hZ2 hst hn hn1 hn2 hlenr hx hbl hx1 hne
            go_wp2
            go_roundw
            case measure => exact meas hlt rfl
            case rel => exact ⟨i + 1, rfl, ⟨hlt⟩, HZ2, ⟨(Below.heap_setCell wr ⟨w.heap.size + 1, i, none⟩ _ w.heap.size (Nat.ne_of_lt (Nat.lt_succ_self _))).trans hY.out⟩, ⟨fun h => let ⟨ad, ha, hg, hx⟩ := hX0.out h; ⟨ad, ha, hg, src_keep hx (fun j hj => Below.heap_setCell wr ⟨w.heap.size + 1, i, none⟩ _ j hj) hg⟩⟩, ⟨fun h => let ⟨ad, ha, hg, hx⟩ := hX1.out h; ⟨ad, ha, hg, src_keep hx (fun j hj => Below.heap_setCell wr ⟨w.heap.size + 1, i, none⟩ _ j hj) hg⟩⟩, ⟨hB.out.setCell (Nat.le_succ _) _⟩⟩
          · have q1 : decide ((i : Int) < (a.length : Int)) = false := decide_eq_false (by omega)
            have e1 : i = a.length := by have := hi.out; omega
            have HZ3 : Aside0 (wr.heap[w.heap.size + 1]? = some (.cells (arrV (splice zero8 0 (a.map wr16))) 23 (0, 0))) := ⟨by rw [hZ.out, e1, ← List.length_map (f := wr16), List.take_length]⟩
            have hbl1 : Aside0 ((splice zero8 0 (a.map wr16)).length = 8) := ⟨by rw [length_splice _ _ _ (by rw [List.length_map, hbl0.out]; omega), hbl0.out]⟩
            have HY3 := hY
            have HB3 := hB
            have HX0_3 := hX1
            clear hZ hX0 hX1 hY hB e1 hi
            go_wp2
            clear hw1 q1 hlt
            go_loopw [15] (fun v15 wr => ∃ i : Nat, v15 = .int .i64 (i : Int) ∧ Aside0 (i ≤ b.length) ∧ Aside0 (wr.heap[w.heap.size + 1]? = some (.cells (arrV (splice (splice zero8 0 (a.map wr16)) (8 - b.length) ((b.map wr16).take i))) 23 (0, 0))) ∧ Aside0 (wr.heap[w.heap.size]? = some (.cells (arrV zero8) 23 (0, 0))) ∧ Aside0 (0 < b.length → ∃ ad, A2 = some ad ∧ ad.block ≠ w.heap.size + 1 ∧ ∀ j v, (b.map (Value.int .i64))[j]? = some v → wr.cell? (ad.add j) = some v) ∧ Aside0 (Below w.heap.size w wr)) (fun v15 _ => b.length - (intOf v15).toNat)
            case atStart => exact ⟨0, rfl, ⟨Nat.zero_le _⟩, ⟨by rw [List.take_zero, splice_nil]; exact HZ3.out⟩, HY3, HX0_3, HB3⟩
            case round =>
              clear HZ3 HY3 HB3 HX0_3
              obtain ⟨i, rfl, hi, hZ, hY, hX0, hB⟩ := hrel
              have hw1 : wrap64 ((i : Int) + 1) = (i : Int) + 1 := by have := hi.out; unfold wrap64; omega
              by_cases hlt : i < b.length
              · obtain ⟨x, hx⟩ : ∃ x, b[i]? = some x := ⟨b[i]'hlt, List.getElem?_eq_getElem _⟩
                have q1 : decide ((i : Int) < (b.length : Int)) = true := decide_eq_true (by omega)
                have p1 := eq_true (show (0 : Int) ≤ (i : Int) by omega)
                have p2 := eq_true (show (i : Int) < (b.length : Int) by omega)
                have hw2 : wrap64 (8 - (b.length : Int)) = 8 - (b.length : Int) := by unfold wrap64; omega
                have hw3 : wrap64 (8 - (b.length : Int) + (i : Int)) = 8 - (b.length : Int) + (i : Int) := by unfold wrap64; omega
                have p3 := eq_true (show (0 : Int) ≤ 8 - (b.length : Int) + (i : Int) by omega)
                have p4 := eq_true (show 8 - (b.length : Int) + (i : Int) < 8 by omega)
                have hbl := hbl1.out
                obtain ⟨ad, rfl, hne, hx1⟩ := hX0.out (by omega)
                have hcell1 := hx1 i (.int .i64 x) (by rw [List.getElem?_map, hx]; rfl)
                have hlenr : (splice (splice zero8 0 (a.map wr16)) (8 - b.length) ((b.map wr16).take i)).length = 8 := by rw [length_splice _ _ _ (by rw [List.length_take, List.length_map, hbl]; omega), hbl]
                have hcell2 := row_cell hZ.out (8 - b.length + i) (by omega)
                have hfr := blk_frozen hZ.out (8 - b.length + i)
                have hn : (b.map wr16)[i]? = some (wr16 x) := by rw [List.getElem?_map, hx]; rfl
                obtain ⟨hn1, hn2⟩ := List.getElem?_eq_some_iff.1 hn
                have hZ2 := row_set hZ.out (8 - b.length + i) (wr16 x)
                have hst := splice_step (splice zero8 0 (a.map wr16)) (b.map wr16) (8 - b.length) i hn1 (by rw [List.length_map, hbl]; omega)
                rw [hn2] at hst
                rw [hst] at hZ2
                have HZ2 := Aside0.mk hZ2
                generalize (splice (splice zero8 0 (a.map wr16)) (8 - b.length) ((b.map wr16).take i))[(8 - b.length + i)]'_ = y at hcell2
                have HNE := Aside0.mk hne
                clear hZ2 hst hn hn1 hn2 hlenr hx hbl hx1 hne
                go_wp2
                go_roundw
                case measure => exact meas hlt rfl
                case rel => exact ⟨i + 1, rfl, ⟨hlt⟩, HZ2, ⟨(Below.heap_setCell wr ⟨w.heap.size + 1, (8 - b.length + i), none⟩ _ w.heap.size (Nat.ne_of_lt (Nat.lt_succ_self _))).trans hY.out⟩, ⟨fun h => let ⟨ad, ha, hg, hx⟩ := hX0.out h; ⟨ad, ha, hg, src_keep hx (fun j hj => Below.heap_setCell wr ⟨w.heap.size + 1, (8 - b.length + i), none⟩ _ j hj) hg⟩⟩, ⟨hB.out.setCell (Nat.le_succ _) _⟩⟩
              · have q1 : decide ((i : Int) < (b.length : Int)) = false := decide_eq_false (by omega)
                have hbl := hbl1.out
                have e1 : i = b.length := by have := hi.out; omega
                have HZ5 : Aside0 (wr.heap[w.heap.size + 1]? = some (.cells (arrV (splice (splice zero8 0 (a.map wr16)) (8 - b.length) (b.map wr16))) 23 (0, 0))) := ⟨by rw [hZ.out, e1, ← List.length_map (f := wr16), List.take_length]⟩
                have hsz : (splice (splice zero8 0 (a.map wr16)) (8 - b.length) (b.map wr16)).length = 8 := by rw [length_splice _ _ _ (by rw [List.length_map, hbl]; omega), hbl]
                have hi5 : Aside0 ((Tryd.prog.info? 23).map (·.size) = some (arrV (splice (splice zero8 0 (a.map wr16)) (8 - b.length) (b.map wr16))).size) := ⟨by rw [arr_size, hsz]; kernel_rfl⟩
                have hs5 : Aside0 ((arrV zero8).size = (arrV (splice (splice zero8 0 (a.map wr16)) (8 - b.length) (b.map wr16))).size) := ⟨by rw [arr_size, arr_size, hsz, hbl0.out]⟩
                clear hsz hZ hX0 hbl e1
                go_wp2_with (first | ((with_reducible refine gate_dst (N := 130) rfl ?_); refine wpList_load_row rfl 23 (.tmp 4) rfl (w.heap.size + 1) rfl 23 (arrV (splice (splice zero8 0 (a.map wr16)) (8 - b.length) (b.map wr16))) (0, 0) _ HZ5.out hu (by rfl) hi5.out ?_) | ((with_reducible refine gate_store (t := 23) (p := 2) rfl ?_); refine wpList_store_row rfl 23 (.tmp 2) (.tmp 130) rfl w.heap.size (arrV (splice (splice zero8 0 (a.map wr16)) (8 - b.length) (b.map wr16))) rfl rfl 23 (arrV zero8) hY.out hi5.out hs5.out (arr_one _) ?_))
                refine bodyPost_ret (v := .tuple #[.agg (arrV (splice (splice zero8 0 (a.map wr16)) (8 - b.length) (b.map wr16))), .int .i64 0]) ?_ rfl ⟨rfl, Go.below_setRow hB.out (Nat.le_refl _) _⟩
                exact results_arr (p := 2) (u := 3) (ty := 23) rfl _ _ w.heap.size 23 (arrV (splice (splice zero8 0 (a.map wr16)) (8 - b.length) (b.map wr16))) (0, 0) _ rfl (setRow_heap _ _ _ _ _ _ hY.out) hu rfl hi5.out
set_option maxHeartbeats 2000000 in
set_option maxRecDepth 100000 in
theorem sprref7_Parse6.way_long (s : ByteArray) (w : World) (hs : ¬ s.size ≤ 4000) :
    Calls Tryd.prog 15 #[.string s] w fun e w' => e = .returned (.tuple #[.agg (arrV zero8), .int .i64 11]) ∧ Below w.heap.size w w' := by
  have hu := Tryd.underlying23
  have hi0 : (Tryd.prog.info? 23).map (·.size) = some (arrV zero8).size := by kernel_rfl
  have q0 : decide ((4000 : Int) < (s.size : Int)) = true := decide_eq_true (by omega)
  obtain ⟨w3, hw0⟩ : ∃ w0, w0 = (w.alloc (.cells #[Value.int .u16 0, Value.int .u16 0, Value.int .u16 0, Value.int .u16 0, Value.int .u16 0, Value.int .u16 0, Value.int .u16 0, Value.int .u16 0] 23)).alloc (.cells #[Value.int .u16 0, Value.int .u16 0, Value.int .u16 0, Value.int .u16 0, Value.int .u16 0, Value.int .u16 0, Value.int .u16 0, Value.int .u16 0] 23) := ⟨_, rfl⟩
  have HB3 : Aside0 (Below w.heap.size w w3) := ⟨by rw [hw0]; exact below_alloc (below_alloc (Below.refl _ _) _) _⟩
  have HY3 : Aside0 (w3.heap[w.heap.size]? = some (.cells (arrV zero8) 23 (0, 0))) := ⟨by rw [hw0]; exact blk_alloc (blk_new _ _) _⟩
  have HZ3 : Aside0 (w3.heap[w.heap.size + 1]? = some (.cells (arrV zero8) 23 (0, 0))) := ⟨by rw [hw0]; have z := blk_new (w.alloc (.cells #[Value.int .u16 0, Value.int .u16 0, Value.int .u16 0, Value.int .u16 0, Value.int .u16 0, Value.int .u16 0, Value.int .u16 0, Value.int .u16 0] 23)) (.cells #[Value.int .u16 0, Value.int .u16 0, Value.int .u16 0, Value.int .u16 0, Value.int .u16 0, Value.int .u16 0, Value.int .u16 0, Value.int .u16 0] 23); rw [World.size_alloc] at z; exact z⟩
  go_enter Tryd.func15, Tryd.ntmps15
  go_wp2_with (first | (rw [← hw0]; clear hw0; ((with_reducible refine gate_dst (N := 19) rfl ?_); refine wpList_load_row rfl 23 (.tmp 4) rfl (w.heap.size + 1) rfl 23 (arrV zero8) (0, 0) _ HZ3.out hu (by rfl) hi0 ?_)) | ((with_reducible refine gate_store (t := 23) (p := 2) rfl ?_); refine wpList_store_row rfl 23 (.tmp 2) (.tmp 19) rfl w.heap.size (arrV zero8) rfl rfl 23 (arrV zero8) HY3.out hi0 rfl (arr_one _) ?_))
  refine bodyPost_ret (v := .tuple #[.agg (arrV zero8), .int .i64 11]) ?_ rfl ⟨rfl, Go.below_setRow HB3.out (Nat.le_refl _) _⟩
  exact results_arr (p := 2) (u := 3) (ty := 23) rfl _ _ w.heap.size 23 (arrV zero8) (0, 0) _ rfl (setRow_heap _ _ _ _ _ _ HY3.out) hu rfl hi0
theorem sprref7_Parse6.gcalls (k : Nat) (s : ByteArray) (r : List Int) (e0 : Int) (w : World) (h : sprref7_Parse6.g k s = some (r, e0)) :
    Calls Tryd.prog 15 #[.string s] w fun e w' => e = .returned (.tuple #[.agg (arrV r), .int .i64 e0]) ∧ Below w.heap.size w w' := by
  unfold sprref7_Parse6.g at h
  by_cases hs : s.size ≤ 4000
  · rw [if_pos hs] at h
    cases hc : colons s.data.toList with
    | none =>
      rw [hc] at h
      obtain ⟨⟨l, ok⟩, hl, h⟩ := Option.bind_eq_some_iff.1 h
      dsimp only at h
      split at h
      · rename_i h9
        have e := Option.some.inj h
        have e1 : r = (ref_res1 ok l).1 := by rw [e]
        have e2 : e0 = (ref_res1 ok l).2 := by rw [e]
        subst e1 e2
        cases hb : ref_bad1 ok l with
        | true => unfold ref_res1; rw [if_pos hb]; exact sprref7_Parse6.one_bad k s w hs l ok hc hl h9 hb
        | false => unfold ref_res1; rw [if_neg (by simp [hb])]; exact sprref7_Parse6.one_good k s w hs l ok hc hl h9 hb
      · cases h
    | some n =>
      rw [hc] at h
      obtain ⟨⟨a, ok⟩, hpa, h⟩ := Option.bind_eq_some_iff.1 h
      obtain ⟨⟨b, yes⟩, hpb, h⟩ := Option.bind_eq_some_iff.1 h
      dsimp only at h
      split at h
      · rename_i h9
        have e := Option.some.inj h
        have e1 : r = (ref_res2 ok yes a b).1 := by rw [e]
        have e2 : e0 = (ref_res2 ok yes a b).2 := by rw [e]
        subst e1 e2
        cases hb : ref_bad2 ok yes a b with
        | true => unfold ref_res2; rw [if_pos hb]; exact sprref7_Parse6.two_bad k s w hs n a b ok yes hc hpa hpb h9.1 h9.2 hb
        | false => unfold ref_res2; rw [if_neg (by simp [hb])]; exact sprref7_Parse6.two_good k s w hs n a b ok yes hc hpa hpb h9.1 h9.2 hb
      · cases h
  · rw [if_neg hs] at h
    obtain ⟨rfl, rfl⟩ := Prod.mk.inj (Option.some.inj h)
    exact sprref7_Parse6.way_long s w hs


end Go.Proofs.YtldkhokpedfhdaaDoor.Q
