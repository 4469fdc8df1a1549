/- Words and walks for the law FnExactDayText. -/
import Derived.Test.YtanalckdmamepaaDoorProg
import Derived.Below
import Derived.Deep.Draws
import Derived.Deep.AppendLies
import Derived.Maps.AppendAt
import Derived.OwnWalk
import Derived.Laws.BytesArg
import Derived.Laws.MakeOwn
import Derived.Laws.OwnMore
import Derived.Deep.OwnRows
import Derived.Tactics
import Derived.Lib.ConvBytes
import Derived.Laws.Slices
import Derived.WalkKit
import Derived.KernelRfl
import Derived.RowKit3
import Derived.Deep.LoopGhost
import Derived.Deep.QuietTactic
import Derived.BigQuiet
import Derived.WideLaws
import Derived.Deep.DeepCutAuto
import Derived.Deep.CutBlock
import Derived.Deep.RegionHeld3
import Derived.Laws.Rows
import Derived.Lib.AppendStr
import Derived.ArgAppend
import Derived.Laws.IdiomCopy
import Derived.OrdersHeld
import Derived.Laws.BitsLemmas
import Derived.RowKit
import Derived.Shelf.Abstract
import Derived.Lib.SliceRun
import Derived.Laws.EntriesVeiled
import Derived.Test.YtanalckdmamepaaDoorTDx1
import Derived.Test.YtanalckdmamepaaDoorTDx2
import Derived.Lib.AppendIntMem
import Derived.Lib.ItoaLen
import Derived.IntWalk
import Derived.Deep.RegionHeld3
import Derived.Deep.WholeRow
import Derived.Deep.MidRow
import Derived.Laws.CopyOwn
import Derived.Test.YtanalckdmamepaaDoorTDx0
import Derived.Test.YtanalckdmamepaaDoorTDx3
import Derived.Test.YtanalckdmamepaaDoorTDx4
import Derived.Test.YtanalckdmamepaaDoorTDx5
import Derived.Test.YtanalckdmamepaaDoorTDx6
import Derived.Test.YtanalckdmamepaaDoorTDx7
import Derived.Test.YtanalckdmamepaaDoorTDx8
import Derived.Test.YtanalckdmamepaaDoorTDx9
import Derived.Test.YtanalckdmamepaaDoorTDx10
import Derived.Test.YtanalckdmamepaaDoorTDx11
import Derived.Test.YtanalckdmamepaaDoorTDx12
import Derived.Test.YtanalckdmamepaaDoorTDx13
import Derived.Test.YtanalckdmamepaaDoorTDx14
import Derived.Test.YtanalckdmamepaaDoorTDx15
import Derived.Test.YtanalckdmamepaaDoorTDx16
import Derived.Test.YtanalckdmamepaaDoorTDx17
import Derived.Test.YtanalckdmamepaaDoorTDx18
import Derived.Test.YtanalckdmamepaaDoorTDx19
import Derived.Test.YtanalckdmamepaaDoorTDx20
import Derived.Test.YtanalckdmamepaaDoorTDx21
import Derived.Test.YtanalckdmamepaaDoorTDx22
namespace Go.Proofs.YtanalckdmamepaaDoor.Dx
open Go.RowKit Go.Proofs.YtanalckdmamepaaDoorW.PrintWords Go.Proofs.YtanalckdmamepaaDoorW.PrintLast Go.Proofs.YtanalckdmamepaaDoorW.PrintMore
attribute [local go_sem] max2_int min2_int max_two min_two max_three min_three max_four min_four   -- for this text's walks alone
set_option linter.unusedVariables false
set_option linter.unusedSimpArgs false
def errW : Option Int → Value
 | none => .nilIface
 | some c => .iface 0 (.int .i64 c)
theorem errW_none : errW none = .nilIface := rfl
theorem errW_some (c : Int) : errW (some c) = .iface 0 (.int .i64 c) := rfl
structure S27 where
 f0 : Int
 f1 : Int
 f2 : Int
def z27 : S27 := ⟨(0 : Int), (0 : Int), (0 : Int)⟩
def k27 : Kd S27 := Kd.iso (Kd.pair (Kd.int .i8) (Kd.pair (Kd.int .i8) (Kd.int .i8))) (fun x : S27 => (x.f0, x.f1, x.f2))
theorem k27_open {w : World} {x : S27} {cs : List Value} (h : k27.K w x cs) : cs = [.int .i8 x.f0, .int .i8 x.f1, .int .i8 x.f2] := by
 obtain ⟨_, _, rfl, rfl, ⟨_, _, rfl, rfl, rfl⟩⟩ := h
 exact rfl
theorem k27_mk (w : World) (x : S27)  : k27.K w x [.int .i8 x.f0, .int .i8 x.f1, .int .i8 x.f2] := ⟨[.int .i8 x.f0], [.int .i8 x.f1, .int .i8 x.f2], rfl, rfl, ⟨[.int .i8 x.f1], [.int .i8 x.f2], rfl, rfl, rfl⟩⟩
def rd_T27 (xs : List S27) (i : Int) : S27 := xs.getD i.toNat z27
theorem at_T27 {w : World} {A : Option Addr} {n : Nat} {xs : List S27} (h : Kd.C k27 w A n xs) (i : Int) (h0 : 0 ≤ i) (h1 : i < n) : ∃ ad , A = some ad ∧ w.cell? (ad.add (i.toNat * 3)) = some (.int .i8 (rd_T27 xs i).f0) ∧ w.cell? ⟨(ad.add (i.toNat * 3)).block, (ad.add (i.toNat * 3)).off + 1, none⟩ = some (.int .i8 (rd_T27 xs i).f1) ∧ w.cell? ⟨(ad.add (i.toNat * 3)).block, (ad.add (i.toNat * 3)).off + 2, none⟩ = some (.int .i8 (rd_T27 xs i).f2) := by
 obtain ⟨ad, c, e, _, hK, hc0⟩ := Kd.C_get h z27 i h0 h1
 have hc : ∀ j u, c[j]? = some u → w.cell? (ad.add (i.toNat * 3 + j)) = some u := hc0
 obtain rfl := k27_open hK
 exact ⟨ad, e, hc 0 _ rfl, by rw [← add_field _ _ 1 (by omega)]; exact hc 1 _ rfl, by rw [← add_field _ _ 2 (by omega)]; exact hc 2 _ rfl⟩
end Go.Proofs.YtanalckdmamepaaDoor.Dx
