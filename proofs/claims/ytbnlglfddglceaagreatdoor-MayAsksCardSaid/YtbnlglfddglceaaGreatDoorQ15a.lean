-- Written by a program of this session's (wip/xprint.py), out of the seat's translation.
import Derived.Test.YtbnlglfddglceaaGreatDoorQ0
import Derived.Test.YtbnlglfddglceaaGreatDoorQ9
import Derived.Test.YtbnlglfddglceaaGreatDoorQ12
import Derived.Test.YtbnlglfddglceaaGreatDoorQ14
import Derived.Test.YtbnlglfddglceaaGreatDoorSh
namespace Go.Proofs.YtbnlglfddglceaaGreatDoor.Q
open Go.RowKit Go.Proofs.YtbnlglfddglceaaGreatDoorW.PrintWords Go.Proofs.YtbnlglfddglceaaGreatDoorW.PrintLast Go.Proofs.YtbnlglfddglceaaGreatDoorW.PrintMore
open Go.Proofs.YtbnlglfddglceaaGreatDoor.Sh
attribute [local go_sem] max2_int min2_int max_two min_two max_three min_three max_four min_four   -- for this text's walks alone
set_option linter.unusedVariables false
set_option linter.unusedSimpArgs false
open Go.Proofs.YtbnlglfddglceaaGreatDoor.Own (Y Z sA sB sC)
/-! ### sprref19_Store: its closed form -/
abbrev zc21 : Array Value := #[.bool false, .bool false, .bool false, .bool false, .bool false, .bool false, .bool false, .bool false, .bool false, .bool false, .bool false, .bool false, .int .i64 0, .bool false, .int .i64 0, .bool false, .int .i64 0, .bool false, .int .i64 0, .bool false, .int .i64 0]
abbrev cc21 (b0 b1 b2 b3 b4 b5 b6 b7 b8 b9 b10 h0 : Bool) (n0 : Int) (h1 : Bool) (n1 : Int) (h2 : Bool) (n2 : Int) (h3 : Bool) (n3 : Int) (h4 : Bool) (n4 : Int) : Array Value := #[.bool b0, .bool b1, .bool b2, .bool b3, .bool b4, .bool b5, .bool b6, .bool b7, .bool b8, .bool b9, .bool b10, .bool h0, .int .i64 n0, .bool h1, .int .i64 n1, .bool h2, .int .i64 n2, .bool h3, .int .i64 n3, .bool h4, .int .i64 n4]
theorem ms_store {P : Program} (e : Operand → Value) (o : Oper) (w W : World) (g : Nat) (ty : TypeId) (x y : Operand) (cells : Array Value) (ho : o.op = .store ty x y) (hx : e x = .pointer (some ⟨g, 0, none⟩)) (hy : e y = .agg cells) (hrow : (storeVar ty ⟨g, 0, none⟩ (.agg cells)).run P w = .ok () W) :
  (execOp e o).run P w = .ok .skip W := by
 unfold execOp
 simp only [ho, hx, hy, Instr.storeAt, Instr.sureAddr, Sem.run_bind, Sem.run_pure, Result.andThen_ok, hrow]
def storeR (sh p : Bool) (st : Int) (a0 c0 c7 us c2 au c3 c4 h1 star ex : Bool) : Int :=
 if p = false then 1 else if st < 200 then 2 else if st = 206 then 2 else if st = 304 then 2 else if (a0 || (c0 || (c7 && !us))) = true then 3 else if (sh && c2) = true then 4 else if (sh && (au && (!c3 && (!c4 && !h1)))) = true then 5 else if star = true then 6 else if (!ex && (!c3 && !us)) = true then 7 else 0
def sprref19_Store.f (k : Nat) (a0 : Bool) (a1_0 a1_1 a1_2 : ByteArray) (l1_3 : List (S56)) (a2_0 : Int) (l2_1 : List (S56)) (l2_2 : List Int) : Option (Int) := (sprref19_control.f k l1_3).bind fun a => (sprref19_control.f k l2_1).bind fun c => (sprref19_Plain.f k a1_0 a1_1 a1_2 l1_3).bind fun p => (sprref19_Usual.f a2_0).bind fun us => (sprref19_has.f k l1_3 (⟨#[65, 117, 116, 104, 111, 114, 105, 122, 97, 116, 105, 111, 110]⟩ : ByteArray)).bind fun au => (sprref12_All.f k l2_1 (⟨#[86, 97, 114, 121]⟩ : ByteArray)).bind fun v => (sprref14_ParseVary.f k v).bind fun sn => (sprref19_Explicit.f k a0 l2_1).bind fun ex => some (storeR a0 p a2_0 a.1 c.1 c.2.2.2.2.2.2.2.1 us c.2.2.1 au c.2.2.2.1 c.2.2.2.2.1 c.2.2.2.2.2.2.2.2.2.2.2.2.2.1 sn.1 ex)
theorem sprref19_Store.mono : ∀ a0 a1 a2 a3 a4 a5 a6 a7 k, LeO (sprref19_Store.f k a0 a1 a2 a3 a4 a5 a6 a7) (sprref19_Store.f (k + 1) a0 a1 a2 a3 a4 a5 a6 a7) := fun _ _ _ _ _ _ _ _ k => LeO.bind (sprref19_control.mono _ k) fun _ => LeO.bind (sprref19_control.mono _ k) fun _ => LeO.bind (sprref19_Plain.mono _ _ _ _ k) fun _ => LeO.bind (LeO.refl _) fun _ => LeO.bind (sprref19_has.mono _ _ k) fun _ => LeO.bind (sprref12_All.mono _ _ k) fun _ => LeO.bind (sprref14_ParseVary.mono _ k) fun _ => LeO.bind (sprref19_Explicit.mono _ _ k) fun _ => LeO.refl _
def sprref19_Store.T1 : Bool × List (List Nat × List Nat) := (true, [([], []), ([0], [0]), ([1], [1]), ([], []), ([3], [3]), ([4, 2], [4]), ([], []), ([], []), ([6, 2, 5, 0, 1, 2, 6, 7], [2, 6]), ([7, 5, 8, 0, 1, 2, 3, 4, 5, 6, 7, 8], [5, 7])])
def sprref19_Store.B1 : List Nat := [0, 1, 3, 0, 8, 31, 0, 0, 255, 511]
theorem sprref19_Store.tab1 : rtab .any (opsOf Tryz.f16 1) = sprref19_Store.T1 := by kernel_rfl
theorem sprref19_Store.bits1 : waitsOk sprref19_Store.T1.2 sprref19_Store.B1 = true := by kernel_rfl
end Go.Proofs.YtbnlglfddglceaaGreatDoor.Q
