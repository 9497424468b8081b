-- Written by a program of this session's (wip/xprint.py), out of the seat's translation.
import Derived.Test.YtnmmlcjcilfgkaaDoorProg
import Derived.Below
import Derived.Deep.Draws
import Derived.Deep.AppendLies
import Derived.Maps.AppendAt
import Derived.OwnWalk
import Derived.Laws.BytesArg
import Derived.Laws.MakeOwn
import Derived.Laws.OwnMore
import Derived.Deep.OwnRows
import Derived.Tactics
import Derived.Lib.ConvBytes
import Derived.Laws.Slices
import Derived.WalkKit
import Derived.KernelRfl
import Derived.RowKit3
import Derived.Deep.LoopGhost
import Derived.Deep.QuietTactic
import Derived.BigQuiet
import Derived.WideLaws
import Derived.Deep.DeepCutAuto
import Derived.Deep.CutBlock
import Derived.Deep.RegionHeld3
import Derived.Laws.Rows
import Derived.Lib.AppendStr
import Derived.ArgAppend
import Derived.Laws.IdiomCopy
import Derived.OrdersHeld
import Derived.Laws.BitsLemmas
import Derived.RowKit
import Derived.Test.YtnmmlcjcilfgkaaDoorShelf
import Derived.Test.YtnmmlcjcilfgkaaDoorOwn
import Derived.Lib.SliceRun
import Derived.Sort.OwnSorted
import Derived.Lib.OwnBridge
import Derived.Lib.SlicesCompact
import Derived.BigQuiet
import Derived.Test.YtnmmlcjcilfgkaaDoorWWords
import Derived.Test.YtnmmlcjcilfgkaaDoorWLast
import Derived.Test.YtnmmlcjcilfgkaaDoorWTab
import Derived.Test.YtnmmlcjcilfgkaaDoorWFour
import Derived.Test.YtnmmlcjcilfgkaaDoorWQPut
import Derived.Test.YtnmmlcjcilfgkaaDoorWApart
import Derived.Test.YtnmmlcjcilfgkaaDoorWArr
import Derived.Test.YtnmmlcjcilfgkaaDoorWZeros
import Derived.Test.YtnmmlcjcilfgkaaDoorWFoot
import Derived.Test.YtnmmlcjcilfgkaaDoorWKept
import Derived.Test.YtnmmlcjcilfgkaaDoorWShare
import Derived.Test.YtnmmlcjcilfgkaaDoorWN
import Derived.Test.YtnmmlcjcilfgkaaDoorWFootNe
import Derived.Test.YtnmmlcjcilfgkaaDoorWAt
import Derived.Test.YtnmmlcjcilfgkaaDoorWEqStruct
import Derived.Test.YtnmmlcjcilfgkaaDoorWRepsOne
import Derived.Test.YtnmmlcjcilfgkaaDoorWInv
import Derived.Test.YtnmmlcjcilfgkaaDoorWInvWords
import Derived.Test.YtnmmlcjcilfgkaaDoorWGuard
import Derived.Test.YtnmmlcjcilfgkaaDoorWNEv
import Derived.Test.YtnmmlcjcilfgkaaDoorWMore
namespace Go.Proofs.YtnmmlcjcilfgkaaDoor.V
open Go.RowKit Go.Proofs.YtnmmlcjcilfgkaaDoorW.PrintWords Go.Proofs.YtnmmlcjcilfgkaaDoorW.PrintLast Go.Proofs.YtnmmlcjcilfgkaaDoorW.PrintMore
attribute [local go_sem] max2_int min2_int max_two min_two max_three min_three max_four min_four   -- for this text's walks alone
set_option linter.unusedVariables false
set_option linter.unusedSimpArgs false



def errW : Option Int → Value
  | none => .nilIface
  | some c => .iface 0 (.int .i64 c)
theorem errW_none : errW none = .nilIface := rfl
theorem errW_some (c : Int) : errW (some c) = .iface 0 (.int .i64 c) := rfl

theorem info5 : (Tryd.prog.info? 5).map (fun i => (i.zero, i.size, i.bytes)) = some (some (.int .u8 0), 1, 1) := by kernel_rfl
theorem info9 : (Tryd.prog.info? 9).map (fun i => (i.zero, i.size, i.bytes)) = some (some (.string ⟨#[]⟩), 1, 16) := by kernel_rfl
theorem info36 : (Tryd.prog.info? 36).map (fun i => (i.zero, i.size, i.bytes)) = some (some (.agg #[(.string ⟨#[]⟩), (.string ⟨#[]⟩)]), 2, 32) := by kernel_rfl
-- the values' own types
/-! #### struct type 36 -/
structure S36 where
  f0 : ByteArray
  f1 : ByteArray
def z36 : S36 := ⟨(⟨#[]⟩ : ByteArray), (⟨#[]⟩ : ByteArray)⟩
def k36 : Kd S36 := Kd.iso (Kd.pair Kd.string Kd.string) (fun x : S36 => (x.f0, x.f1))
theorem k36_open {w : World} {x : S36} {cs : List Value} (h : k36.K w x cs) : cs = [.string x.f0, .string x.f1] := by
  obtain ⟨_, _, rfl, rfl, rfl⟩ := h
  exact rfl
theorem k36_openM {w : World} {base : Nat} {ok : Nat → Prop} {x : S36} {cs : List Value} (h : k36.M w base ok x cs) : cs = [.string x.f0, .string x.f1] := by
  obtain ⟨_, _, rfl, rfl, rfl⟩ := h
  exact rfl
theorem k36_mk (w : World) (x : S36)  : k36.K w x [.string x.f0, .string x.f1] := ⟨[.string x.f0], [.string x.f1], rfl, rfl, rfl⟩
theorem k36_mkM (w : World) (base : Nat) (ok : Nat → Prop) (x : S36)  : k36.M w base ok x [.string x.f0, .string x.f1] := ⟨[.string x.f0], [.string x.f1], rfl, rfl, rfl⟩
def rd_T36 (xs : List S36) (i : Int) : S36 := xs.getD i.toNat z36
theorem at_T36 {w : World} {A : Option Addr} {n : Nat} {xs : List S36} (h : Kd.C k36 w A n xs) (i : Int) (h0 : 0 ≤ i) (h1 : i < n) : ∃ ad , A = some ad ∧ w.cell? (ad.add (i.toNat * 2)) = some (.string (rd_T36 xs i).f0) ∧ w.cell? ⟨(ad.add (i.toNat * 2)).block, (ad.add (i.toNat * 2)).off + 1, none⟩ = some (.string (rd_T36 xs i).f1) := by
  obtain ⟨ad, c, e, _, hK, hc0⟩ := Kd.C_get h z36 i h0 h1
  have hc : ∀ j u, c[j]? = some u → w.cell? (ad.add (i.toNat * 2 + j)) = some u := hc0
  obtain rfl := k36_open hK
  exact ⟨ad, e, hc 0 _ rfl, by rw [← add_field _ _ 1 (by omega)]; exact hc 1 _ rfl⟩

end Go.Proofs.YtnmmlcjcilfgkaaDoor.V
