/- Words and walks for the law FnMeets. -/
import Derived.Test.YthodfhcaaidnmaaDoorTMe23
import Derived.Test.YthodfhcaaidnmaaDoorProg
import Derived.Below
import Derived.Deep.Draws
import Derived.Deep.AppendLies
import Derived.Maps.AppendAt
import Derived.OwnWalk
import Derived.Laws.BytesArg
import Derived.Laws.MakeOwn
import Derived.Laws.OwnMore
import Derived.Deep.OwnRows
import Derived.Tactics
import Derived.Lib.ConvBytes
import Derived.Laws.Slices
import Derived.WalkKit
import Derived.KernelRfl
import Derived.RowKit3
import Derived.Deep.LoopGhost
import Derived.Deep.QuietTactic
import Derived.BigQuiet
import Derived.WideLaws
import Derived.Deep.DeepCutAuto
import Derived.Deep.CutBlock
import Derived.Deep.RegionHeld3
import Derived.Laws.Rows
import Derived.Lib.AppendStr
import Derived.ArgAppend
import Derived.Laws.IdiomCopy
import Derived.OrdersHeld
import Derived.Laws.BitsLemmas
import Derived.RowKit
import Derived.Shelf.Abstract
import Derived.Lib.SliceRun
import Derived.Laws.EntriesVeiled
import Derived.Test.YthodfhcaaidnmaaDoorTMe1
import Derived.Test.YthodfhcaaidnmaaDoorTMe2
import Derived.Shelf.Spec.TrailingZeros
import Derived.Test.YthodfhcaaidnmaaDoorTMe0
import Derived.Test.YthodfhcaaidnmaaDoorTMe3
import Derived.Test.YthodfhcaaidnmaaDoorTMe4
import Derived.Test.YthodfhcaaidnmaaDoorTMe5
import Derived.Test.YthodfhcaaidnmaaDoorTMe6
import Derived.Test.YthodfhcaaidnmaaDoorTMe7
import Derived.Test.YthodfhcaaidnmaaDoorTMe8
import Derived.Test.YthodfhcaaidnmaaDoorTMe9
import Derived.Test.YthodfhcaaidnmaaDoorTMe10
import Derived.Test.YthodfhcaaidnmaaDoorTMe11
import Derived.Test.YthodfhcaaidnmaaDoorTMe12
import Derived.Test.YthodfhcaaidnmaaDoorTMe13
import Derived.Test.YthodfhcaaidnmaaDoorTMe14
import Derived.Test.YthodfhcaaidnmaaDoorTMe15
import Derived.Test.YthodfhcaaidnmaaDoorTMe16
import Derived.Test.YthodfhcaaidnmaaDoorTMe17
import Derived.Test.YthodfhcaaidnmaaDoorTMe18
import Derived.Test.YthodfhcaaidnmaaDoorTMe19
import Derived.Test.YthodfhcaaidnmaaDoorTMe20
import Derived.Test.YthodfhcaaidnmaaDoorTMe21
import Derived.Test.YthodfhcaaidnmaaDoorTMe22
namespace Go.Proofs.YthodfhcaaidnmaaDoor.Me
open Go.Proofs.YthodfhcaaidnmaaDoor.Zz
open Go.RowKit Go.Proofs.YthodfhcaaidnmaaDoorW.PrintWords Go.Proofs.YthodfhcaaidnmaaDoorW.PrintLast Go.Proofs.YthodfhcaaidnmaaDoorW.PrintMore
attribute [local go_sem] max2_int min2_int max_two min_two max_three min_three max_four min_four   -- for this text's walks alone
set_option linter.unusedVariables false
set_option linter.unusedSimpArgs false
def errW:Option Int→Value
 | none=>.nilIface
 | some c=>.iface 0 (.int .i64 c)
theorem errW_none:errW none=.nilIface:=rfl
theorem errW_some (c:Int):errW (some c)=.iface 0 (.int .i64 c):=rfl
theorem info2:(Tryd.prog.info? 2).map (fun i=>(i.zero,i.size,i.bytes))=some (some (.int .i64 0),1,8):=by kernel_rfl
theorem info5:(Tryd.prog.info? 5).map (fun i=>(i.zero,i.size,i.bytes))=some (some (.int .u8 0),1,1):=by kernel_rfl
theorem info44:(Tryd.prog.info? 44).map (fun i=>(i.zero,i.size,i.bytes))=some (some (.agg #[(.int .u8 0),(.int .i8 0),(.int .i8 0),(.int .i16 0)]),4,6):=by kernel_rfl
structure S44 where
 f0:Int
 f1:Int
 f2:Int
 f3:Int
def z44:S44:=⟨(0:Int),(0:Int),(0:Int),(0:Int)⟩
def k44:Kd S44:=Kd.iso (Kd.pair (Kd.int .u8) (Kd.pair (Kd.int .i8) (Kd.pair (Kd.int .i8) (Kd.int .i16)))) (fun x:S44=>(x.f0,x.f1,x.f2,x.f3))
theorem k44_open {w:World} {x:S44} {cs:List Value} (h:k44.K w x cs):cs=[.int .u8 x.f0,.int .i8 x.f1,.int .i8 x.f2,.int .i16 x.f3]:=by
 obtain ⟨_,_,rfl,rfl,⟨_,_,rfl,rfl,⟨_,_,rfl,rfl,rfl⟩⟩⟩:=h
 exact rfl
theorem k44_mkM (w:World) (base:Nat) (ok:Nat→Prop) (x:S44)  : k44.M w base ok x [.int .u8 x.f0,.int .i8 x.f1,.int .i8 x.f2,.int .i16 x.f3]:=⟨[.int .u8 x.f0],[.int .i8 x.f1,.int .i8 x.f2,.int .i16 x.f3],rfl,rfl,⟨[.int .i8 x.f1],[.int .i8 x.f2,.int .i16 x.f3],rfl,rfl,⟨[.int .i8 x.f2],[.int .i16 x.f3],rfl,rfl,rfl⟩⟩⟩
def rd_T44 (xs:List S44) (i:Int):S44:=xs.getD i.toNat z44
theorem at_T44 {w:World} {A:Option Addr} {n:Nat} {xs:List S44} (h:Kd.C k44 w A n xs) (i:Int) (h0:0≤i) (h1:i<n):∃ad,A=some ad∧w.cell? (ad.add (i.toNat*4))=some (.int .u8 (rd_T44 xs i).f0)∧w.cell? ⟨(ad.add (i.toNat*4)).block,(ad.add (i.toNat*4)).off+1,none⟩=some (.int .i8 (rd_T44 xs i).f1)∧w.cell? ⟨(ad.add (i.toNat*4)).block,(ad.add (i.toNat*4)).off+2,none⟩=some (.int .i8 (rd_T44 xs i).f2)∧w.cell? ⟨(ad.add (i.toNat*4)).block,(ad.add (i.toNat*4)).off+3,none⟩=some (.int .i16 (rd_T44 xs i).f3):=by
 obtain ⟨ad,c,e,_,hK,hc0⟩:=Kd.C_get h z44 i h0 h1
 have hc:∀j u,c[j]?=some u→w.cell? (ad.add (i.toNat*4+j))=some u:=hc0
 obtain rfl:=k44_open hK
 exact ⟨ad,e,hc 0 _ rfl,by rw [← add_field _ _ 1 (by omega)];exact hc 1 _ rfl,by rw [← add_field _ _ 2 (by omega)];exact hc 2 _ rfl,by rw [← add_field _ _ 3 (by omega)];exact hc 3 _ rfl⟩
end Go.Proofs.YthodfhcaaidnmaaDoor.Me
