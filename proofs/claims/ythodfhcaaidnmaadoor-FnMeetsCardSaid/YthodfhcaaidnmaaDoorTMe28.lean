/- Words and walks for the law FnMeets. -/
import Derived.Test.YthodfhcaaidnmaaDoorTMe23
import Derived.Test.YthodfhcaaidnmaaDoorTMe24
import Derived.Test.YthodfhcaaidnmaaDoorTMe25
import Derived.Test.YthodfhcaaidnmaaDoorTMe26
namespace Go.Proofs.YthodfhcaaidnmaaDoor.Me
open Go.Proofs.YthodfhcaaidnmaaDoor.Zz
open Go.RowKit Go.Proofs.YthodfhcaaidnmaaDoorW.PrintWords Go.Proofs.YthodfhcaaidnmaaDoorW.PrintLast Go.Proofs.YthodfhcaaidnmaaDoorW.PrintMore
attribute [local go_sem] max2_int min2_int max_two min_two max_three min_three max_four min_four   -- for this text's walks alone
set_option linter.unusedVariables false
set_option linter.unusedSimpArgs false
def impl_firstOf.l0:Nat→List Int→Int→Int→Option (Int)
 | 0,_,_,_=>none
 | k+1,x5,x6,x7=>if x7<x6 then (if 0≤x7 then (if x7<(x5.length:Int) then (if (rd x5 x7)=0 then (impl_firstOf.l0 k x5 x6 (wrap64 (x7+1))) else (some (rd x5 x7))) else (none)) else (none)) else (some 0)
def impl_firstOf.f (k:Nat) (l0:List Int):Option (Int):=impl_firstOf.l0 k l0 (l0.length:Int) 0
set_option maxHeartbeats 8000000 in
set_option maxRecDepth 100000 in
theorem impl_firstOf.calls (k:Nat) (A0:Option Addr) (c0:Nat) (l0:List Int) (r:Int) (w:World) (hr0:Kd.C (Kd.int .i64) w A0 l0.length l0) (hc0:l0.length≤c0) (h:impl_firstOf.f k l0=some r) :
  Calls Tryd.prog 53 #[.slice A0 l0.length c0] w fun e w'=>e=.returned (.int .i64 r)∧Drawn0 w w':=by
 have HR0:=zN hr0;have HC0:=zN hc0;clear hr0 hc0;have H:(impl_firstOf.l0 k l0 (l0.length:Int) 0)=some r:=h;clear h;have H':=zN H;clear H;go_enter Tryd.func53,Tryd.ntmps53;go_wp2
 go_loopg [7] k (fun kq v7 w'=>∃(x7_1:Int),v7=.int .i64 x7_1∧Aside0 (impl_firstOf.l0 kq l0 (l0.length:Int) x7_1=some r)∧Aside0 (kq≤k)∧Drawn0 w w')
 case atStart=>exact ⟨(0),(by first|rfl|(simp;done)|(simp [*];done)),H',⟨Nat.le_refl _⟩,by repeat (first|exact Drawn0.refl _|apply Drawn0.step)⟩
 clear H';obtain ⟨x7_1,rfl,HA,HK1,⟨m1,rfl⟩⟩:=hrel
 cases gk with
 | zero=>exact absurd HA.out (by simp [impl_firstOf.l0])
 | succ k1=>
  have H:=HA.out;clear HA;simp only [impl_firstOf.l0] at H
  by_cases c2:x7_1<(l0.length:Int)
  ·rw [if_pos c2] at H;have c2b0:decide (x7_1<(l0.length:Int))=true:=decide_eq_true c2;clear c2
   by_cases c3:0≤x7_1
   rotate_left
   ·rw [if_neg c3] at H;exact absurd H (by simp)
   rw [if_pos c3] at H;have c3b0:decide (0≤x7_1)=true:=decide_eq_true c3;clear c3
   by_cases c4:x7_1<(l0.length:Int)
   rotate_left
   ·rw [if_neg c4] at H;exact absurd H (by simp)
   rw [if_pos c4] at H;have c4b0:decide (x7_1<(l0.length:Int))=true:=decide_eq_true c4;clear c4
   by_cases c5:(rd l0 x7_1)=0
   rotate_left
   focus
    rw [if_neg c5] at H;have c5b0:((rd l0 x7_1) == 0)=false:=beq_eq_false_iff_ne.mpr c5;have c5b1:((rd l0 x7_1) != 0)=true:=bne_iff_ne.mpr c5;obtain rfl:=Option.some.inj H
   rotate_right
   focus
    rw [if_pos c5] at H;have c5b0:((rd l0 x7_1) == 0)=true:=beq_iff_eq.mpr c5;have c5b1:((rd l0 x7_1) != 0)=false:=bne_eq_false_iff_eq.mpr c5;clear c5;have H':=zN H;clear H
   all_goals
    have p195:0≤(x7_1:Int):=zS (by first|(with_reducible assumption)|assumption);have q195:x7_1<(l0.length:Int):=zS (by first|(with_reducible assumption)|assumption);obtain ⟨ad195,e195,hx195_0⟩:=Kd.at_int HR0.out x7_1 p195 q195;cases e195;replace p195:=eq_true p195;replace q195:=eq_true q195;go_wp2
   ·go_roundg k1
    case measure=>have:=HK1.out;omega
    case rel=>exact ⟨(wrap64 (x7_1+1)),(by first|rfl|(simp;done)|(simp [*];done)),H',⟨by have:=HK1.out;omega⟩,by repeat (first|exact Drawn0.refl _|apply Drawn0.step)⟩
   go_ret;exact ⟨by first|rfl|(simp;done)|(simp [*];done),by repeat (first|exact Drawn0.refl _|apply Drawn0.step)⟩
  rw [if_neg c2] at H;have c2b0:decide (x7_1<(l0.length:Int))=false:=decide_eq_false c2;clear c2;obtain rfl:=Option.some.inj H;go_wp2;go_ret;exact ⟨by first|rfl|(simp;done)|(simp [*];done),by repeat (first|exact Drawn0.refl _|apply Drawn0.step)⟩
def impl_unless.f (a0:Bool) (a1:Int):Option (Int):=if a0=true then (some 0) else (some a1)
set_option maxHeartbeats 8000000 in
set_option maxRecDepth 100000 in
theorem impl_unless.calls (a0:Bool) (a1:Int) (r:Int) (w:World) (h:impl_unless.f a0 a1=some r) :
  Calls Tryd.prog 82 #[.bool a0,.int .i64 a1] w fun e w'=>e=.returned (.int .i64 r)∧Drawn0 w w':=by
 have H:(if a0=true then (some 0) else (some a1))=some r:=h;clear h
 by_cases c3:a0=true
 rotate_left
 focus
  replace c3:=Bool.eq_false_iff.mpr c3;subst c3
  have H1:(some a1)=some r:=by rw [if_neg (show ¬(false=true) by decide)] at H;exact H
 rotate_right
 focus
  subst c3
  have H1:(some 0)=some r:=by rw [if_pos rfl] at H;exact H
 all_goals
  clear H;have H:=H1;clear H1;obtain rfl:=Option.some.inj H;go_enter Tryd.func82,Tryd.ntmps82;go_wp2;go_ret;exact ⟨by first|rfl|(simp;done)|(simp [*];done),by repeat (first|exact Drawn0.refl _|apply Drawn0.step)⟩
def impl_areRules.f (k:Nat) (a0_0:Int) (a0_1:Int) (a0_2:Int) (a0_3:Int) (a0_4:Int) (a0_5:Int):Option (Int):=(impl_ValidRules.f k a0_0 a0_1 a0_2 a0_3 a0_4 a0_5).bind fun t197=>((impl_unless.f t197 1).bind fun t198=>(some t198))
set_option maxHeartbeats 8000000 in
set_option maxRecDepth 100000 in
theorem impl_areRules.calls (k:Nat) (a0_0:Int) (a0_1:Int) (a0_2:Int) (a0_3:Int) (a0_4:Int) (a0_5:Int) (r:Int) (w:World) (h:impl_areRules.f k a0_0 a0_1 a0_2 a0_3 a0_4 a0_5=some r) :
  Calls Tryd.prog 54 #[.agg #[.int .u8 a0_0,.int .u8 a0_1,.int .u8 a0_2,.int .u8 a0_3,.int .u8 a0_4,.int .u8 a0_5]] w fun e w'=>e=.returned (.int .i64 r)∧Below w.heap.size w w':=by
 have hu25:=Tryd.underlying25;have HB:=zN (Below.refl w.heap.size w);have H:((impl_ValidRules.f k a0_0 a0_1 a0_2 a0_3 a0_4 a0_5).bind fun t197=>((impl_unless.f t197 1).bind fun t198=>(some t198)))=some r:=h;clear h;replace H:=Option.bind_eq_some_iff.mp H;obtain ⟨t197,A20,H⟩:=H;replace H:((impl_unless.f t197 1).bind fun t198=>(some t198))=some r:=H;have A2:=zN A20;clear A20;replace H:=Option.bind_eq_some_iff.mp H;obtain ⟨t198,A30,H⟩:=H;replace H:(some t198)=some r:=H;have A3:=zN A30;clear A30;obtain rfl:=Option.some.inj H;go_enter Tryd.func54,Tryd.ntmps54
 go_wp2_with (first|((with_reducible refine gate_dst (N:=1) rfl ?_);refine box_event ?hg (N:=1) ?hd (cs:=#[.int .u8 a0_0,.int .u8 a0_1,.int .u8 a0_2,.int .u8 a0_3,.int .u8 a0_4,.int .u8 a0_5]) (t:=25) ?hr ?_;(case hd=>rfl);(case hg=>rfl);(case hr=>first|(go_simp;done)|(go_simp;rfl));intro gb196 hg w4 hbox hb;have BK196:=zN (hbox);have GW196:=zN ((by rw [hg];exact (zT (by repeat (first|(with_reducible first|exact HB.out|apply zJ|apply zK|apply zL)|exact HB.out))):w.heap.size≤gb196));have GE196:=zN ((by rw [hg];exact (zT (by repeat (first|(with_reducible first|exact HB.out|apply zJ|apply zK|apply zL)|exact HB.out))):w.heap.size≤gb196));replace HB:=zN (zV (by repeat (first|(with_reducible first|exact HB.out|apply zJ|apply zK|apply zL)|exact HB.out)) hb);clear hb hbox hg;have hcz5_0:w4.cell? ⟨gb196,0,none⟩=some (.int .u8 a0_0):=(blk_cell BK196.out 0).trans rfl;have hcz5_1:w4.cell? ⟨gb196,1,none⟩=some (.int .u8 a0_1):=(blk_cell BK196.out 1).trans rfl;have hcz5_2:w4.cell? ⟨gb196,2,none⟩=some (.int .u8 a0_2):=(blk_cell BK196.out 2).trans rfl;have hcz5_3:w4.cell? ⟨gb196,3,none⟩=some (.int .u8 a0_3):=(blk_cell BK196.out 3).trans rfl;have hcz5_4:w4.cell? ⟨gb196,4,none⟩=some (.int .u8 a0_4):=(blk_cell BK196.out 4).trans rfl;have hcz5_5:w4.cell? ⟨gb196,5,none⟩=some (.int .u8 a0_5):=(blk_cell BK196.out 5).trans rfl;have hfz5_0:=blk_frozen BK196.out 0;have hfz5_1:=blk_frozen BK196.out 1;have hfz5_2:=blk_frozen BK196.out 2;have hfz5_3:=blk_frozen BK196.out 3;have hfz5_4:=blk_frozen BK196.out 4;have hfz5_5:=blk_frozen BK196.out 5)|((with_reducible refine gate_callee (f:=16) rfl ?_);refine goesL_ (some 4) rfl rfl Tryd.func16 (by kernel_rfl) rfl #[.agg #[.int .u8 a0_0,.int .u8 a0_1,.int .u8 a0_2,.int .u8 a0_3,.int .u8 a0_4,.int .u8 a0_5]] rfl (by (try simp only [List.map_toArray,List.map_cons,List.map_nil]);first|done|rfl|(simp only [List.length_drop,List.length_take];rfl)) ?_;(with_reducible refine (impl_ValidRules.calls k a0_0 a0_1 a0_2 a0_3 a0_4 a0_5 t197 _ A2.out).mono ?_);rintro e w6 ⟨rfl,hb⟩;refine ⟨_,rfl,?_⟩;replace BK196:=zN (zU (g:=gb196) (o:=.cells #[.int .u8 a0_0,.int .u8 a0_1,.int .u8 a0_2,.int .u8 a0_3,.int .u8 a0_4,.int .u8 a0_5] 25 (0,0)) (by (with_reducible repeat (first|refine zH ?_ _|refine zI ?_|refine zG ?_ _));exact BK196.out) hb);replace HB:=zN (zV (by repeat (first|(with_reducible first|exact HB.out|apply zJ|apply zK|apply zL|refine zM ?_ GE196.out)|exact HB.out)) hb);(try clear hb);(try clear hb2);(try clear hk);(try clear hi))|((with_reducible refine gate_callee (f:=82) rfl ?_);refine goesL_ (some 5) rfl rfl Tryd.func82 (by kernel_rfl) rfl #[.bool t197,.int .i64 1] rfl (by (try simp only [List.map_toArray,List.map_cons,List.map_nil]);first|done|rfl|(simp only [List.length_drop,List.length_take];rfl)) ?_;(with_reducible refine (impl_unless.calls t197 1 t198 _ A3.out).mono ?_);rintro e w' ⟨rfl,⟨nd,rfl⟩⟩;refine ⟨_,rfl,?_⟩))
 go_ret;exact ⟨by first|rfl|(simp [errW_none,errW_some]<;>rfl)|(simp [*,errW_none,errW_some]<;>rfl),by repeat (first|(with_reducible first|exact HB.out|apply zJ|apply zK|apply zL|refine zM ?_ GE196.out)|exact HB.out)⟩
set_option maxHeartbeats 2000000 in
theorem IndexFunc_44 (A0:Option Addr) (c0:Nat) (l0:List S44) (g:Nat) (lb:Array Value) (p:S44→Bool) (w:World) (hr0:Kd.C k44 w A0 l0.length l0)
  (eg:∀args w,(callFunc g args).run Tryd.prog w=.ok (.enter g args) w)
  (hp:∀(W:World) (x:S44),x∈l0→Below w.heap.size w W→Calls Tryd.prog g (#[.agg #[.int .u8 x.f0,.int .i8 x.f1,.int .i8 x.f2,.int .i16 x.f3]]++lb) W fun e w'=>e=.returned (.bool (p x))∧Below W.heap.size W w') :
  Calls Tryd.prog 97 #[.slice A0 l0.length c0,.func (.func g) #[] lb] w fun e w'=>e=.returned (.int .i64 (Own.firstIdx p l0))∧Below w.heap.size w w':=by
 have HR0:=Aside0.mk hr0
 have hn:l0.length≤9223372036854775807:=hr0.2.1
 have HP:=Aside0.mk hp
 clear hr0 hp
 go_enter Tryd.func97,Tryd.ntmps97
 go_wp2
 go_loopg [5,8] l0.length (fun gg _ v8 w'=>∃kk:Nat,kk≤l0.length∧l0.length-kk≤gg∧v8=.int .i64 kk∧Aside0 (Below w.heap.size w w')∧Aside0 (∀j,(h:j<kk)→(h2:j<l0.length)→p l0[j]=false))
 case atStart=>exact ⟨0,Nat.zero_le _,by omega,rfl,⟨Below.refl _ w⟩,⟨fun j hj=>absurd hj (Nat.not_lt_zero _)⟩⟩
 case round=>
  obtain ⟨kk,hkk,hg,rfl,BW,AF⟩:=hrel
  by_cases hlt:kk<l0.length
  ·have hlti:(kk:Int)<(l0.length:Int):=by omega
   have hcall:=HP.out wr l0[kk] (List.getElem_mem hlt) BW.out
   obtain ⟨ad,e1,hx0,hx1,hx2,hx3⟩:=at_T44 (Kd.C_below HR0.out BW.out) (kk:Int) (by omega) hlti
   cases e1
   have ey:rd_T44 l0 (kk:Int)=l0[kk]:=by simp [rd_T44,List.getD_eq_getElem?_getD,List.getElem?_eq_getElem hlt]
   rw [ey] at hx0 hx1 hx2 hx3
   simp only [Int.toNat_natCast] at hx0 hx1 hx2 hx3
   obtain ⟨y,hy⟩ : ∃y,l0[kk]=y:=⟨_,rfl⟩
   rw [hy] at hx0 hx1 hx2 hx3 hcall
   have HY:=Aside0.mk hy
   clear hy ey
   cases hq:p y with
   | true=>
    rw [hq] at hcall
    have HQ:=Aside0.mk hq
    clear hq
    go_wp2_with (go_at_fn g;refine hcall.mono ?_;rintro e w1 ⟨rfl,hb1⟩)
    go_ret
    refine ⟨?_,below_step BW.out hb1⟩
    rw [Own.firstIdx_hit hlt (fun j hj=>AF.out j hj (by omega)) (by rw [HY.out];exact HQ.out)]
    rfl
   | false=>
    rw [hq] at hcall
    have HQ:=Aside0.mk hq
    clear hq
    go_wp2_with (go_at_fn g;refine hcall.mono ?_;rintro e w1 ⟨rfl,hb1⟩)
    go_roundg (l0.length-(kk+1))
    case measure=>omega
    case rel=>
     refine ⟨kk+1,by omega,by omega,by go_num,⟨below_step BW.out hb1⟩,⟨fun j hj h2=>?_⟩⟩
     by_cases e:j=kk
     ·subst e
      rw [HY.out];exact HQ.out
     ·exact AF.out j (by omega) h2
  ·have hlti:¬(kk:Int)<(l0.length:Int):=by omega
   go_wp2
   go_ret
   refine ⟨?_,BW.out⟩
   rw [Own.firstIdx_miss (fun j hj=>AF.out j (by omega) hj)]
   rfl
set_option maxHeartbeats 2000000 in
theorem ContainsFunc_44 (A0:Option Addr) (c0:Nat) (l0:List S44) (g:Nat) (lb:Array Value) (p:S44→Bool) (w:World) (hr0:Kd.C k44 w A0 l0.length l0)
  (eg:∀args w,(callFunc g args).run Tryd.prog w=.ok (.enter g args) w)
  (hp:∀(W:World) (x:S44),x∈l0→Below w.heap.size w W→Calls Tryd.prog g (#[.agg #[.int .u8 x.f0,.int .i8 x.f1,.int .i8 x.f2,.int .i16 x.f3]]++lb) W fun e w'=>e=.returned (.bool (p x))∧Below W.heap.size W w') :
  Calls Tryd.prog 84 #[.slice A0 l0.length c0,.func (.func g) #[] lb] w fun e w'=>e=.returned (.bool (l0.any p))∧Below w.heap.size w w':=by
 have hi:=IndexFunc_44 A0 c0 l0 g lb p w hr0 eg hp
 have HN:=Aside0.mk (Own.firstIdx_nonneg p l0)
 clear hp hr0
 obtain ⟨x,hx⟩ : ∃x,Own.firstIdx p l0=x:=⟨_,rfl⟩
 rw [hx] at hi
 have HX:=Aside0.mk hx
 clear hx
 go_enter Tryd.func84,Tryd.ntmps84
 go_wp2_with (go_at_call 97;refine hi.mono ?_;rintro e w1 ⟨rfl,hb1⟩)
 go_ret
 exact ⟨by rw [← HN.out,HX.out];rfl,hb1⟩
def impl_within.f (a0:Int) (a1:Int) (a2:Int):Option (Bool):=if a1≤a0 then (some (decide (a0≤a2))) else (some false)
set_option maxHeartbeats 8000000 in
set_option maxRecDepth 100000 in
theorem impl_within.calls (a0:Int) (a1:Int) (a2:Int) (r:Bool) (w:World) (h:impl_within.f a0 a1 a2=some r) :
  Calls Tryd.prog 57 #[.int .i64 a0,.int .i64 a1,.int .i64 a2] w fun e w'=>e=.returned (.bool r)∧Drawn0 w w':=by
 have H:(if a1≤a0 then (some (decide (a0≤a2))) else (some false))=some r:=h;clear h
 by_cases c4:a1≤a0
 ·rw [if_pos c4] at H;have c4b0:decide (a1≤a0)=true:=decide_eq_true c4;clear c4;obtain rfl:=Option.some.inj H;go_enter Tryd.func57,Tryd.ntmps57;go_wp2;go_ret;exact ⟨by first|rfl|(simp;done)|(simp [*];done),by repeat (first|exact Drawn0.refl _|apply Drawn0.step)⟩
 rw [if_neg c4] at H;have c4b0:decide (a1≤a0)=false:=decide_eq_false c4;clear c4;obtain rfl:=Option.some.inj H;go_enter Tryd.func57,Tryd.ntmps57;go_wp2;go_ret;exact ⟨by first|rfl|(simp;done)|(simp [*];done),by repeat (first|exact Drawn0.refl _|apply Drawn0.step)⟩
def impl_ValidGarment.f (a0_0:Int) (a0_1:Int) (a0_2:Int) (a0_3:Int):Option (Bool):=if a0_0<6 then ((impl_within.f (wrap64 (a0_1)) 0 (wrap64 (a0_2))).bind fun t200=>(if t200=true then (if a0_2≤95 then ((impl_within.f (wrap64 (a0_3)) 1 2000).bind fun t201=>(some t201)) else (some false)) else (some false))) else (some false)
set_option maxHeartbeats 8000000 in
set_option maxRecDepth 100000 in
theorem impl_ValidGarment.calls (a0_0:Int) (a0_1:Int) (a0_2:Int) (a0_3:Int) (r:Bool) (w:World) (h:impl_ValidGarment.f a0_0 a0_1 a0_2 a0_3=some r) :
  Calls Tryd.prog 20 #[.agg #[.int .u8 a0_0,.int .i8 a0_1,.int .i8 a0_2,.int .i16 a0_3]] w fun e w'=>e=.returned (.bool r)∧Below w.heap.size w w':=by
 have hu44:=Tryd.underlying44;have HB:=zN (Below.refl w.heap.size w);have H:(if a0_0<6 then ((impl_within.f (wrap64 (a0_1)) 0 (wrap64 (a0_2))).bind fun t200=>(if t200=true then (if a0_2≤95 then ((impl_within.f (wrap64 (a0_3)) 1 2000).bind fun t201=>(some t201)) else (some false)) else (some false))) else (some false))=some r:=h;clear h
 by_cases c2:a0_0<6
 rotate_left
 focus
  rw [if_neg c2] at H;have c2b0:decide (a0_0<6)=false:=decide_eq_false c2;clear c2;obtain rfl:=Option.some.inj H;go_enter Tryd.func20,Tryd.ntmps20
  go_wp2_with (first|((with_reducible refine gate_dst (N:=1) rfl ?_);refine box_event ?hg (N:=1) ?hd (cs:=#[.int .u8 a0_0,.int .i8 a0_1,.int .i8 a0_2,.int .i16 a0_3]) (t:=44) ?hr ?_;(case hd=>rfl);(case hg=>rfl);(case hr=>first|(go_simp;done)|(go_simp;rfl));intro gb199 hg w13 hbox hb;have BK199:=zN (hbox);have GW199:=zN ((by rw [hg];exact (zT (by repeat (first|(with_reducible first|exact HB.out|apply zJ|apply zK|apply zL)|exact HB.out))):w.heap.size≤gb199));have GE199:=zN ((by rw [hg];exact (zT (by repeat (first|(with_reducible first|exact HB.out|apply zJ|apply zK|apply zL)|exact HB.out))):w.heap.size≤gb199));replace HB:=zN (zV (by repeat (first|(with_reducible first|exact HB.out|apply zJ|apply zK|apply zL)|exact HB.out)) hb);clear hb hbox hg;have hcz14_0:w13.cell? ⟨gb199,0,none⟩=some (.int .u8 a0_0):=(blk_cell BK199.out 0).trans rfl;have hcz14_1:w13.cell? ⟨gb199,1,none⟩=some (.int .i8 a0_1):=(blk_cell BK199.out 1).trans rfl;have hcz14_2:w13.cell? ⟨gb199,2,none⟩=some (.int .i8 a0_2):=(blk_cell BK199.out 2).trans rfl;have hcz14_3:w13.cell? ⟨gb199,3,none⟩=some (.int .i16 a0_3):=(blk_cell BK199.out 3).trans rfl;have hfz14_0:=blk_frozen BK199.out 0;have hfz14_1:=blk_frozen BK199.out 1;have hfz14_2:=blk_frozen BK199.out 2;have hfz14_3:=blk_frozen BK199.out 3))
 rotate_right
 focus
  rw [if_pos c2] at H;have c2b0:decide (a0_0<6)=true:=decide_eq_true c2;clear c2;replace H:=Option.bind_eq_some_iff.mp H;obtain ⟨t200,A30,H⟩:=H;replace H:(if t200=true then (if a0_2≤95 then ((impl_within.f (wrap64 (a0_3)) 1 2000).bind fun t201=>(some t201)) else (some false)) else (some false))=some r:=H;have A3:=zN A30;clear A30
  by_cases c4:t200=true
  rotate_left
  focus
   replace c4:=Bool.eq_false_iff.mpr c4;subst c4
   have H1:(some false)=some r:=by rw [if_neg (show ¬(false=true) by decide)] at H;exact H
   clear H;have H:=H1;clear H1;obtain rfl:=Option.some.inj H;go_enter Tryd.func20,Tryd.ntmps20
   go_wp2_with (first|((with_reducible refine gate_dst (N:=1) rfl ?_);refine box_event ?hg (N:=1) ?hd (cs:=#[.int .u8 a0_0,.int .i8 a0_1,.int .i8 a0_2,.int .i16 a0_3]) (t:=44) ?hr ?_;(case hd=>rfl);(case hg=>rfl);(case hr=>first|(go_simp;done)|(go_simp;rfl));intro gb199 hg w11 hbox hb;have BK199:=zN (hbox);have GW199:=zN ((by rw [hg];exact (zT (by repeat (first|(with_reducible first|exact HB.out|apply zJ|apply zK|apply zL)|exact HB.out))):w.heap.size≤gb199));have GE199:=zN ((by rw [hg];exact (zT (by repeat (first|(with_reducible first|exact HB.out|apply zJ|apply zK|apply zL)|exact HB.out))):w.heap.size≤gb199));replace HB:=zN (zV (by repeat (first|(with_reducible first|exact HB.out|apply zJ|apply zK|apply zL)|exact HB.out)) hb);clear hb hbox hg;have hcz12_0:w11.cell? ⟨gb199,0,none⟩=some (.int .u8 a0_0):=(blk_cell BK199.out 0).trans rfl;have hcz12_1:w11.cell? ⟨gb199,1,none⟩=some (.int .i8 a0_1):=(blk_cell BK199.out 1).trans rfl;have hcz12_2:w11.cell? ⟨gb199,2,none⟩=some (.int .i8 a0_2):=(blk_cell BK199.out 2).trans rfl;have hcz12_3:w11.cell? ⟨gb199,3,none⟩=some (.int .i16 a0_3):=(blk_cell BK199.out 3).trans rfl;have hfz12_0:=blk_frozen BK199.out 0;have hfz12_1:=blk_frozen BK199.out 1;have hfz12_2:=blk_frozen BK199.out 2;have hfz12_3:=blk_frozen BK199.out 3)|(go_at_call 57;(with_reducible refine (impl_within.calls (wrap64 (a0_1)) 0 (wrap64 (a0_2)) false _ A3.out).mono ?_);rintro e w' ⟨rfl,⟨nd,rfl⟩⟩))
  rotate_right
  focus
   subst c4
   have H1:(if a0_2≤95 then ((impl_within.f (wrap64 (a0_3)) 1 2000).bind fun t201=>(some t201)) else (some false))=some r:=by rw [if_pos rfl] at H;exact H
   clear H;have H:=H1;clear H1
   by_cases c5:a0_2≤95
   rotate_left
   focus
    rw [if_neg c5] at H;have c5b0:decide (a0_2≤95)=false:=decide_eq_false c5;clear c5;obtain rfl:=Option.some.inj H;go_enter Tryd.func20,Tryd.ntmps20
    go_wp2_with (first|((with_reducible refine gate_dst (N:=1) rfl ?_);refine box_event ?hg (N:=1) ?hd (cs:=#[.int .u8 a0_0,.int .i8 a0_1,.int .i8 a0_2,.int .i16 a0_3]) (t:=44) ?hr ?_;(case hd=>rfl);(case hg=>rfl);(case hr=>first|(go_simp;done)|(go_simp;rfl));intro gb199 hg w9 hbox hb;have BK199:=zN (hbox);have GW199:=zN ((by rw [hg];exact (zT (by repeat (first|(with_reducible first|exact HB.out|apply zJ|apply zK|apply zL)|exact HB.out))):w.heap.size≤gb199));have GE199:=zN ((by rw [hg];exact (zT (by repeat (first|(with_reducible first|exact HB.out|apply zJ|apply zK|apply zL)|exact HB.out))):w.heap.size≤gb199));replace HB:=zN (zV (by repeat (first|(with_reducible first|exact HB.out|apply zJ|apply zK|apply zL)|exact HB.out)) hb);clear hb hbox hg;have hcz10_0:w9.cell? ⟨gb199,0,none⟩=some (.int .u8 a0_0):=(blk_cell BK199.out 0).trans rfl;have hcz10_1:w9.cell? ⟨gb199,1,none⟩=some (.int .i8 a0_1):=(blk_cell BK199.out 1).trans rfl;have hcz10_2:w9.cell? ⟨gb199,2,none⟩=some (.int .i8 a0_2):=(blk_cell BK199.out 2).trans rfl;have hcz10_3:w9.cell? ⟨gb199,3,none⟩=some (.int .i16 a0_3):=(blk_cell BK199.out 3).trans rfl;have hfz10_0:=blk_frozen BK199.out 0;have hfz10_1:=blk_frozen BK199.out 1;have hfz10_2:=blk_frozen BK199.out 2;have hfz10_3:=blk_frozen BK199.out 3)|(go_at_call 57;(with_reducible refine (impl_within.calls (wrap64 (a0_1)) 0 (wrap64 (a0_2)) true _ A3.out).mono ?_);rintro e w' ⟨rfl,⟨nd,rfl⟩⟩))
   rotate_right
   focus
    rw [if_pos c5] at H;have c5b0:decide (a0_2≤95)=true:=decide_eq_true c5;clear c5;replace H:=Option.bind_eq_some_iff.mp H;obtain ⟨t201,A60,H⟩:=H;replace H:(some t201)=some r:=H;have A6:=zN A60;clear A60;obtain rfl:=Option.some.inj H;go_enter Tryd.func20,Tryd.ntmps20
    go_wp2_with (first|((with_reducible refine gate_dst (N:=1) rfl ?_);refine box_event ?hg (N:=1) ?hd (cs:=#[.int .u8 a0_0,.int .i8 a0_1,.int .i8 a0_2,.int .i16 a0_3]) (t:=44) ?hr ?_;(case hd=>rfl);(case hg=>rfl);(case hr=>first|(go_simp;done)|(go_simp;rfl));intro gb199 hg w7 hbox hb;have BK199:=zN (hbox);have GW199:=zN ((by rw [hg];exact (zT (by repeat (first|(with_reducible first|exact HB.out|apply zJ|apply zK|apply zL)|exact HB.out))):w.heap.size≤gb199));have GE199:=zN ((by rw [hg];exact (zT (by repeat (first|(with_reducible first|exact HB.out|apply zJ|apply zK|apply zL)|exact HB.out))):w.heap.size≤gb199));replace HB:=zN (zV (by repeat (first|(with_reducible first|exact HB.out|apply zJ|apply zK|apply zL)|exact HB.out)) hb);clear hb hbox hg;have hcz8_0:w7.cell? ⟨gb199,0,none⟩=some (.int .u8 a0_0):=(blk_cell BK199.out 0).trans rfl;have hcz8_1:w7.cell? ⟨gb199,1,none⟩=some (.int .i8 a0_1):=(blk_cell BK199.out 1).trans rfl;have hcz8_2:w7.cell? ⟨gb199,2,none⟩=some (.int .i8 a0_2):=(blk_cell BK199.out 2).trans rfl;have hcz8_3:w7.cell? ⟨gb199,3,none⟩=some (.int .i16 a0_3):=(blk_cell BK199.out 3).trans rfl;have hfz8_0:=blk_frozen BK199.out 0;have hfz8_1:=blk_frozen BK199.out 1;have hfz8_2:=blk_frozen BK199.out 2;have hfz8_3:=blk_frozen BK199.out 3)|(go_at_call 57;(with_reducible refine (impl_within.calls (wrap64 (a0_1)) 0 (wrap64 (a0_2)) true _ A3.out).mono ?_);rintro e w' ⟨rfl,⟨nd,rfl⟩⟩)|(go_at_call 57;(with_reducible refine (impl_within.calls (wrap64 (a0_3)) 1 2000 t201 _ A6.out).mono ?_);rintro e w' ⟨rfl,⟨nd,rfl⟩⟩))
 all_goals
  go_ret;exact ⟨by first|rfl|(simp [errW_none,errW_some]<;>rfl)|(simp [*,errW_none,errW_some]<;>rfl),by repeat (first|(with_reducible first|exact HB.out|apply zJ|apply zK|apply zL|refine zM ?_ GE199.out)|exact HB.out)⟩
def impl_areGarments_1.f (a0_0:Int) (a0_1:Int) (a0_2:Int) (a0_3:Int):Option (Bool):=(impl_ValidGarment.f a0_0 a0_1 a0_2 a0_3).bind fun t203=>(some (!t203))
set_option maxHeartbeats 8000000 in
set_option maxRecDepth 100000 in
theorem impl_areGarments_1.calls (a0_0:Int) (a0_1:Int) (a0_2:Int) (a0_3:Int) (r:Bool) (w:World) (h:impl_areGarments_1.f a0_0 a0_1 a0_2 a0_3=some r) :
  Calls Tryd.prog 87 #[.agg #[.int .u8 a0_0,.int .i8 a0_1,.int .i8 a0_2,.int .i16 a0_3]] w fun e w'=>e=.returned (.bool r)∧Below w.heap.size w w':=by
 have hu44:=Tryd.underlying44;have HB:=zN (Below.refl w.heap.size w);have H:((impl_ValidGarment.f a0_0 a0_1 a0_2 a0_3).bind fun t203=>(some (!t203)))=some r:=h;clear h;replace H:=Option.bind_eq_some_iff.mp H;obtain ⟨t203,A20,H⟩:=H;replace H:(some (!t203))=some r:=H;have A2:=zN A20;clear A20;obtain rfl:=Option.some.inj H;go_enter Tryd.func87,Tryd.ntmps87
 go_wp2_with (first|((with_reducible refine gate_dst (N:=1) rfl ?_);refine box_event ?hg (N:=1) ?hd (cs:=#[.int .u8 a0_0,.int .i8 a0_1,.int .i8 a0_2,.int .i16 a0_3]) (t:=44) ?hr ?_;(case hd=>rfl);(case hg=>rfl);(case hr=>first|(go_simp;done)|(go_simp;rfl));intro gb202 hg w3 hbox hb;have BK202:=zN (hbox);have GW202:=zN ((by rw [hg];exact (zT (by repeat (first|(with_reducible first|exact HB.out|apply zJ|apply zK|apply zL)|exact HB.out))):w.heap.size≤gb202));have GE202:=zN ((by rw [hg];exact (zT (by repeat (first|(with_reducible first|exact HB.out|apply zJ|apply zK|apply zL)|exact HB.out))):w.heap.size≤gb202));replace HB:=zN (zV (by repeat (first|(with_reducible first|exact HB.out|apply zJ|apply zK|apply zL)|exact HB.out)) hb);clear hb hbox hg;have hcz4_0:w3.cell? ⟨gb202,0,none⟩=some (.int .u8 a0_0):=(blk_cell BK202.out 0).trans rfl;have hcz4_1:w3.cell? ⟨gb202,1,none⟩=some (.int .i8 a0_1):=(blk_cell BK202.out 1).trans rfl;have hcz4_2:w3.cell? ⟨gb202,2,none⟩=some (.int .i8 a0_2):=(blk_cell BK202.out 2).trans rfl;have hcz4_3:w3.cell? ⟨gb202,3,none⟩=some (.int .i16 a0_3):=(blk_cell BK202.out 3).trans rfl;have hfz4_0:=blk_frozen BK202.out 0;have hfz4_1:=blk_frozen BK202.out 1;have hfz4_2:=blk_frozen BK202.out 2;have hfz4_3:=blk_frozen BK202.out 3)|((with_reducible refine gate_callee (f:=20) rfl ?_);refine goesL_ (some 4) rfl rfl Tryd.func20 (by kernel_rfl) rfl #[.agg #[.int .u8 a0_0,.int .i8 a0_1,.int .i8 a0_2,.int .i16 a0_3]] rfl (by (try simp only [List.map_toArray,List.map_cons,List.map_nil]);first|done|rfl|(simp only [List.length_drop,List.length_take];rfl)) ?_;(with_reducible refine (impl_ValidGarment.calls a0_0 a0_1 a0_2 a0_3 t203 _ A2.out).mono ?_);rintro e w5 ⟨rfl,hb⟩;refine ⟨_,rfl,?_⟩;replace BK202:=zN (zU (g:=gb202) (o:=.cells #[.int .u8 a0_0,.int .i8 a0_1,.int .i8 a0_2,.int .i16 a0_3] 44 (0,0)) (by (with_reducible repeat (first|refine zH ?_ _|refine zI ?_|refine zG ?_ _));exact BK202.out) hb);replace HB:=zN (zV (by repeat (first|(with_reducible first|exact HB.out|apply zJ|apply zK|apply zL|refine zM ?_ GE202.out)|exact HB.out)) hb);(try clear hb);(try clear hb2);(try clear hk);(try clear hi)))
 go_ret;exact ⟨by first|rfl|(simp [errW_none,errW_some]<;>rfl)|(simp [*,errW_none,errW_some]<;>rfl),by repeat (first|(with_reducible first|exact HB.out|apply zJ|apply zK|apply zL|refine zM ?_ GE202.out)|exact HB.out)⟩
def gok (x:S44):Bool:=decide (x.f0<6)&&(decide (0≤x.f1∧x.f1≤x.f2)&&(decide (x.f2≤95)&&decide (1≤x.f3∧x.f3≤2000)))
def gsm (x:S44):Bool:=decide (0≤x.f0∧x.f0≤255∧-128≤x.f1∧x.f1≤127∧-128≤x.f2∧x.f2≤127∧-32768≤x.f3∧x.f3≤32767)
def impl_areGarments.f (l0:List S44):Option Int:=if l0.all gsm=true then some (if l0.all gok=true then 0 else 1) else none
theorem areGarments_1_total (x:S44) (h:gsm x=true):impl_areGarments_1.f x.f0 x.f1 x.f2 x.f3=some (!gok x):=by
 obtain ⟨h0,h0',h1,h1',h2,h2',h3,h3'⟩:=of_decide_eq_true h
 have e1:wrap64 x.f1=x.f1:=by unfold wrap64;omega
 have e2:wrap64 x.f2=x.f2:=by unfold wrap64;omega
 have e3:wrap64 x.f3=x.f3:=by unfold wrap64;omega
 have hw:∀a b c:Int,impl_within.f a b c=some (decide (b≤a∧a≤c)):=by
  intro a b c
  unfold impl_within.f
  by_cases h:b≤a<;>simp [h]
 unfold impl_areGarments_1.f impl_ValidGarment.f gok
 simp only [e1,e2,e3,hw,Option.bind_some,decide_eq_true_eq]
 by_cases q0:x.f0<6<;>by_cases q1:0≤x.f1∧x.f1≤x.f2<;>by_cases q2:x.f2≤95<;>by_cases q3:1≤x.f3∧x.f3≤2000<;>simp [q0,q1,q2,q3]
set_option maxHeartbeats 2000000 in
theorem impl_areGarments.calls (A0:Option Addr) (c0:Nat) (l0:List S44) (r:Int) (w:World) (hr0:Kd.C k44 w A0 l0.length l0) (hc0:l0.length≤c0) (h:impl_areGarments.f l0=some r) :
  Calls Tryd.prog 55 #[.slice A0 l0.length c0] w fun e w'=>e=.returned (.int .i64 r)∧Below w.heap.size w w':=by
 unfold impl_areGarments.f at h
 by_cases hb:l0.all gsm=true
 ·rw [if_pos hb] at h;have hr:=Option.some.inj h
  have hc:=ContainsFunc_44 A0 c0 l0 87 #[] (fun x=>!gok x) w hr0 (enters_of Tryd.func87 (by kernel_rfl) rfl)
   (fun W x hx hB=>(impl_areGarments_1.calls x.f0 x.f1 x.f2 x.f3 _ W (areGarments_1_total x (List.all_eq_true.mp hb x hx))))
  rw [List.all_eq_not_any_not] at hr;obtain ⟨x,hx⟩ : ∃x,(l0.any fun c=>!gok c)=x:=⟨_,rfl⟩;rw [hx] at hr hc
  have hu:impl_unless.f (!x) 1=some r:=by rw [← hr];cases x<;>rfl
  have HU:=zN hu;clear h hb hr hr0 hx hu;go_enter Tryd.func55,Tryd.ntmps55
  go_wp2_with (first
   | (go_at_call 84;refine hc.mono ?_;rintro e w1 ⟨rfl,hb1⟩)
   | (go_at_call 82;refine (impl_unless.calls (!x) 1 r _ HU.out).mono ?_;rintro e w2 ⟨rfl,⟨nd,rfl⟩⟩))
  go_ret;exact ⟨rfl,zK hb1 _⟩
 rw [if_neg hb] at h;cases h
def impl_fewGarments.f (l0:List (S44)):Option (Int):=(impl_unless.f (decide ((l0.length:Int)≤8)) 3).bind fun t204=>(some t204)
set_option maxHeartbeats 8000000 in
set_option maxRecDepth 100000 in
theorem impl_fewGarments.calls (A0:Option Addr) (c0:Nat) (l0:List (S44)) (r:Int) (w:World) (hr0:Kd.C k44 w A0 l0.length l0) (hc0:l0.length≤c0) (h:impl_fewGarments.f l0=some r) :
  Calls Tryd.prog 59 #[.slice A0 l0.length c0] w fun e w'=>e=.returned (.int .i64 r)∧Drawn0 w w':=by
 have HR0:=zN hr0;have HC0:=zN hc0;clear hr0 hc0;have H:((impl_unless.f (decide ((l0.length:Int)≤8)) 3).bind fun t204=>(some t204))=some r:=h;clear h;replace H:=Option.bind_eq_some_iff.mp H;obtain ⟨t204,A20,H⟩:=H;replace H:(some t204)=some r:=H;have A2:=zN A20;clear A20;obtain rfl:=Option.some.inj H;go_enter Tryd.func59,Tryd.ntmps59
 go_wp2_with (first|((with_reducible refine gate_callee (f:=82) rfl ?_);refine goesL_ (some 6) rfl rfl Tryd.func82 (by kernel_rfl) rfl #[.bool (decide ((l0.length:Int)≤8)),.int .i64 3] rfl (by (try simp only [List.map_toArray,List.map_cons,List.map_nil]);first|done|rfl|(simp only [List.length_drop,List.length_take];rfl)) ?_;(with_reducible refine (impl_unless.calls (decide ((l0.length:Int)≤8)) 3 t204 _ A2.out).mono ?_);rintro e w' ⟨rfl,⟨nd,rfl⟩⟩;refine ⟨_,rfl,?_⟩))
 go_ret;exact ⟨by first|rfl|(simp;done)|(simp [*];done),by repeat (first|exact Drawn0.refl _|apply Drawn0.step)⟩
def impl_loadCode.f (k:Nat) (a0_0:Int) (a0_1:Int) (a0_2:Int) (a0_3:Int) (a0_4:Int) (a0_5:Int) (a1:Int) (l2:List (S44)):Option (Int):=(impl_areRules.f k a0_0 a0_1 a0_2 a0_3 a0_4 a0_5).bind fun t206=>((impl_areGarments.f l2).bind fun t207=>((impl_within.f a1 1 20000).bind fun t208=>((impl_unless.f t208 2).bind fun t209=>((impl_fewGarments.f l2).bind fun t210=>((impl_firstOf.f k (([t206,t207,t209,t210]:List Int))).bind fun t214=>(some t214))))))
set_option maxHeartbeats 8000000 in
set_option maxRecDepth 100000 in
theorem impl_loadCode.calls (k:Nat) (a0_0:Int) (a0_1:Int) (a0_2:Int) (a0_3:Int) (a0_4:Int) (a0_5:Int) (a1:Int) (A2:Option Addr) (c2:Nat) (l2:List (S44)) (r:Int) (w:World) (hr2:Kd.C k44 w A2 l2.length l2) (hc2:l2.length≤c2) (h:impl_loadCode.f k a0_0 a0_1 a0_2 a0_3 a0_4 a0_5 a1 l2=some r) :
  Calls Tryd.prog 46 #[.agg #[.int .u8 a0_0,.int .u8 a0_1,.int .u8 a0_2,.int .u8 a0_3,.int .u8 a0_4,.int .u8 a0_5],.int .i64 a1,.slice A2 l2.length c2] w fun e w'=>e=.returned (.int .i64 r)∧Below w.heap.size w w':=by
 have hu25:=Tryd.underlying25;have HR2:=zN hr2;have HC2:=zN hc2;clear hr2 hc2;have HB:=zN (Below.refl w.heap.size w);have H:((impl_areRules.f k a0_0 a0_1 a0_2 a0_3 a0_4 a0_5).bind fun t206=>((impl_areGarments.f l2).bind fun t207=>((impl_within.f a1 1 20000).bind fun t208=>((impl_unless.f t208 2).bind fun t209=>((impl_fewGarments.f l2).bind fun t210=>((impl_firstOf.f k (([t206,t207,t209,t210]:List Int))).bind fun t214=>(some t214)))))))=some r:=h;clear h;replace H:=Option.bind_eq_some_iff.mp H;obtain ⟨t206,A40,H⟩:=H;replace H:((impl_areGarments.f l2).bind fun t207=>((impl_within.f a1 1 20000).bind fun t208=>((impl_unless.f t208 2).bind fun t209=>((impl_fewGarments.f l2).bind fun t210=>((impl_firstOf.f k (([t206,t207,t209,t210]:List Int))).bind fun t214=>(some t214))))))=some r:=H;have A4:=zN A40;clear A40;replace H:=Option.bind_eq_some_iff.mp H;obtain ⟨t207,A50,H⟩:=H;replace H:((impl_within.f a1 1 20000).bind fun t208=>((impl_unless.f t208 2).bind fun t209=>((impl_fewGarments.f l2).bind fun t210=>((impl_firstOf.f k (([t206,t207,t209,t210]:List Int))).bind fun t214=>(some t214)))))=some r:=H;have A5:=zN A50;clear A50;replace H:=Option.bind_eq_some_iff.mp H;obtain ⟨t208,A60,H⟩:=H
 replace H:((impl_unless.f t208 2).bind fun t209=>((impl_fewGarments.f l2).bind fun t210=>((impl_firstOf.f k (([t206,t207,t209,t210]:List Int))).bind fun t214=>(some t214))))=some r:=H;have A6:=zN A60;clear A60;replace H:=Option.bind_eq_some_iff.mp H;obtain ⟨t209,A70,H⟩:=H;replace H:((impl_fewGarments.f l2).bind fun t210=>((impl_firstOf.f k (([t206,t207,t209,t210]:List Int))).bind fun t214=>(some t214)))=some r:=H;have A7:=zN A70;clear A70;replace H:=Option.bind_eq_some_iff.mp H;obtain ⟨t210,A80,H⟩:=H;replace H:((impl_firstOf.f k (([t206,t207,t209,t210]:List Int))).bind fun t214=>(some t214))=some r:=H;have A8:=zN A80;clear A80;obtain ⟨y211,hy211⟩ : ∃y_:List Int,y_=(([t206,t207,t209,t210]:List Int)):=⟨_,rfl⟩
 replace H:((impl_firstOf.f k y211).bind fun t214=>(some t214))=some r:=by first|(rw [hy211];with_reducible exact H)|(have H2_:=(Option.bind_some _ _).symm.trans H;rw [hy211];with_reducible exact H2_)|(have H2_:=(Option.bind_some _ _).symm.trans H;with_reducible exact H2_)|with_reducible exact H|(rw [hy211];exact H)|exact H
 have Ny211:=zN hy211;clear hy211;replace H:=Option.bind_eq_some_iff.mp H;obtain ⟨t214,A90,H⟩:=H;replace H:(some t214)=some r:=H;have A9:=zN A90;clear A90;obtain rfl:=Option.some.inj H;go_enter Tryd.func46,Tryd.ntmps46
 go_wp2_with (first|((with_reducible refine gate_dst (N:=3) rfl ?_);refine box_event ?hg (N:=3) ?hd (cs:=#[.int .u8 a0_0,.int .u8 a0_1,.int .u8 a0_2,.int .u8 a0_3,.int .u8 a0_4,.int .u8 a0_5]) (t:=25) ?hr ?_;(case hd=>rfl);(case hg=>rfl);(case hr=>first|(go_simp;done)|(go_simp;rfl));intro gb205 hg w10 hbox hb;have BK205:=zN (hbox);have GW205:=zN ((by rw [hg];exact (zT (by repeat (first|(with_reducible first|exact HB.out|apply zJ|apply zK|apply zL)|exact HB.out))):w.heap.size≤gb205));have GE205:=zN ((by rw [hg];exact (zT (by repeat (first|(with_reducible first|exact HB.out|apply zJ|apply zK|apply zL)|exact HB.out))):w.heap.size≤gb205));replace HB:=zN (zV (by repeat (first|(with_reducible first|exact HB.out|apply zJ|apply zK|apply zL)|exact HB.out)) hb);clear hb hbox hg;have hcz11_0:w10.cell? ⟨gb205,0,none⟩=some (.int .u8 a0_0):=(blk_cell BK205.out 0).trans rfl;have hcz11_1:w10.cell? ⟨gb205,1,none⟩=some (.int .u8 a0_1):=(blk_cell BK205.out 1).trans rfl;have hcz11_2:w10.cell? ⟨gb205,2,none⟩=some (.int .u8 a0_2):=(blk_cell BK205.out 2).trans rfl;have hcz11_3:w10.cell? ⟨gb205,3,none⟩=some (.int .u8 a0_3):=(blk_cell BK205.out 3).trans rfl;have hcz11_4:w10.cell? ⟨gb205,4,none⟩=some (.int .u8 a0_4):=(blk_cell BK205.out 4).trans rfl;have hcz11_5:w10.cell? ⟨gb205,5,none⟩=some (.int .u8 a0_5):=(blk_cell BK205.out 5).trans rfl;have hfz11_0:=blk_frozen BK205.out 0;have hfz11_1:=blk_frozen BK205.out 1;have hfz11_2:=blk_frozen BK205.out 2;have hfz11_3:=blk_frozen BK205.out 3;have hfz11_4:=blk_frozen BK205.out 4;have hfz11_5:=blk_frozen BK205.out 5)|((with_reducible refine gate_callee (f:=54) rfl ?_);refine goesL_ (some 8) rfl rfl Tryd.func54 (by kernel_rfl) rfl #[.agg #[.int .u8 a0_0,.int .u8 a0_1,.int .u8 a0_2,.int .u8 a0_3,.int .u8 a0_4,.int .u8 a0_5]] rfl (by (try simp only [List.map_toArray,List.map_cons,List.map_nil]);first|done|rfl|(simp only [List.length_drop,List.length_take];rfl)) ?_;(with_reducible refine (impl_areRules.calls k a0_0 a0_1 a0_2 a0_3 a0_4 a0_5 t206 _ A4.out).mono ?_);rintro e w12 ⟨rfl,hb⟩;refine ⟨_,rfl,?_⟩;replace BK205:=zN (zU (g:=gb205) (o:=.cells #[.int .u8 a0_0,.int .u8 a0_1,.int .u8 a0_2,.int .u8 a0_3,.int .u8 a0_4,.int .u8 a0_5] 25 (0,0)) (by (with_reducible repeat (first|refine zH ?_ _|refine zI ?_|refine zG ?_ _));exact BK205.out) hb);replace HB:=zN (zV (by repeat (first|(with_reducible first|exact HB.out|apply zJ|apply zK|apply zL|refine zM ?_ GE205.out)|exact HB.out)) hb);(try clear hb);(try clear hb2);(try clear hk);(try clear hi))|((with_reducible refine gate_callee (f:=55) rfl ?_);refine goesL_ (some 10) rfl rfl Tryd.func55 (by kernel_rfl) rfl #[.slice A2 l2.length c2] rfl (by (try simp only [List.map_toArray,List.map_cons,List.map_nil]);first|done|rfl|(simp only [List.length_drop,List.length_take];rfl)) ?_;(with_reducible refine (impl_areGarments.calls _ _ l2 t207 _ ?side1 ?side2 A5.out).mono ?_);(case side1=>repeat (first|exact (Kd.C_below HR2.out HB.out)|(with_reducible refine Kd.C_alloc ?_ _)|(with_reducible refine Kd.C_drewN ?_ _)|(with_reducible refine Kd.C_drew ?_)));(case side2=>exact HC2.out);rintro e w13 ⟨rfl,hb⟩;refine ⟨_,rfl,?_⟩;replace BK205:=zN (zU (g:=gb205) (o:=.cells #[.int .u8 a0_0,.int .u8 a0_1,.int .u8 a0_2,.int .u8 a0_3,.int .u8 a0_4,.int .u8 a0_5] 25 (0,0)) (by (with_reducible repeat (first|refine zH ?_ _|refine zI ?_|refine zG ?_ _));exact BK205.out) hb);replace HB:=zN (zV (by repeat (first|(with_reducible first|exact HB.out|apply zJ|apply zK|apply zL|refine zM ?_ GE205.out)|exact HB.out)) hb);(try clear hb);(try clear hb2);(try clear hk);(try clear hi))|((with_reducible refine gate_callee (f:=57) rfl ?_);refine goesL_ (some 12) rfl rfl Tryd.func57 (by kernel_rfl) rfl #[.int .i64 a1,.int .i64 1,.int .i64 20000] rfl (by (try simp only [List.map_toArray,List.map_cons,List.map_nil]);first|done|rfl|(simp only [List.length_drop,List.length_take];rfl)) ?_;(with_reducible refine (impl_within.calls a1 1 20000 t208 _ A6.out).mono ?_);rintro e w' ⟨rfl,⟨nd,rfl⟩⟩;refine ⟨_,rfl,?_⟩)|((with_reducible refine gate_callee (f:=82) rfl ?_);refine goesL_ (some 13) rfl rfl Tryd.func82 (by kernel_rfl) rfl #[.bool t208,.int .i64 2] rfl (by (try simp only [List.map_toArray,List.map_cons,List.map_nil]);first|done|rfl|(simp only [List.length_drop,List.length_take];rfl)) ?_;(with_reducible refine (impl_unless.calls t208 2 t209 _ A7.out).mono ?_);rintro e w' ⟨rfl,⟨nd,rfl⟩⟩;refine ⟨_,rfl,?_⟩)|((with_reducible refine gate_callee (f:=59) rfl ?_);refine goesL_ (some 15) rfl rfl Tryd.func59 (by kernel_rfl) rfl #[.slice A2 l2.length c2] rfl (by (try simp only [List.map_toArray,List.map_cons,List.map_nil]);first|done|rfl|(simp only [List.length_drop,List.length_take];rfl)) ?_;(with_reducible refine (impl_fewGarments.calls _ _ l2 t210 _ ?side1 ?side2 A8.out).mono ?_);(case side1=>repeat (first|exact (Kd.C_below HR2.out (by repeat (first|(with_reducible first|exact HB.out|apply zJ|apply zK|apply zL|refine zM ?_ GE205.out)|exact HB.out)))|(with_reducible refine Kd.C_alloc ?_ _)|(with_reducible refine Kd.C_drewN ?_ _)|(with_reducible refine Kd.C_drew ?_)));(case side2=>exact HC2.out);rintro e w' ⟨rfl,⟨nd,rfl⟩⟩;refine ⟨_,rfl,?_⟩)|((with_reducible refine gate_dst (N:=16) rfl ?_);refine Kd.R_lit (Kd.int .i64) _ 2 ?hg (N:=16) ?hd (xs:=([t206,t207,t209,t210]:List Int)) (inner:=[.int .i64 t206,.int .i64 t207,.int .i64 t209,.int .i64 t210]) (ok:=fun _=>True) (okp:=fun _=>True) ?hr ?hp (fun _ hk=>hk) trivial (Below.refl _ _) (Nat.le_refl _) (by simp) ?_;(case hd=>rfl);(case hg=>rfl);(case hr=>first|(go_simp;done)|(go_simp;rfl));(case hp=>exact (Reps.one (show Kd.M (Kd.int .i64) _ _ _ t206 [.int .i64 t206] from rfl) (Reps.one (show Kd.M (Kd.int .i64) _ _ _ t207 [.int .i64 t207] from rfl) (Reps.one (show Kd.M (Kd.int .i64) _ _ _ t209 [.int .i64 t209] from rfl) (Reps.one (show Kd.M (Kd.int .i64) _ _ _ t210 [.int .i64 t210] from rfl) (Reps.none _ _))))));intro v212 w14 ho15 hb hg_ hnew_;clear hg_ hnew_;(first|rw [← Ny211.out] at ho15|(simp only [Int.reduceToNat] at ho15;rw [← Ny211.out] at ho15));have HO213:=zN (Kd.R_lower ho15 (zT (by repeat (first|(with_reducible first|exact HB.out|apply zJ|apply zK|apply zL|refine zM ?_ GE205.out)|exact HB.out))));replace BK205:=zN (zU (g:=gb205) (o:=.cells #[.int .u8 a0_0,.int .u8 a0_1,.int .u8 a0_2,.int .u8 a0_3,.int .u8 a0_4,.int .u8 a0_5] 25 (0,0)) (by (with_reducible repeat (first|refine zH ?_ _|refine zI ?_|refine zG ?_ _));exact BK205.out) hb);replace HB:=zN (zV (by repeat (first|(with_reducible first|exact HB.out|apply zJ|apply zK|apply zL|refine zM ?_ GE205.out)|exact HB.out)) hb);clear hb ho15;obtain ⟨Ao16,co16,eo16⟩:=Kd.R_slice HO213.out;subst eo16)|((with_reducible refine gate_callee (f:=53) rfl ?_);refine goesL_ (some 17) rfl rfl Tryd.func53 (by kernel_rfl) rfl #[.slice Ao16 y211.length co16] rfl (by (try simp only [List.map_toArray,List.map_cons,List.map_nil]);first|done|rfl|(simp only [List.length_drop,List.length_take];rfl)) ?_;(with_reducible refine (impl_firstOf.calls k _ _ y211 t214 _ ?side1 ?side2 A9.out).mono ?_);(case side1=>repeat (first|exact (Kd.R_reads' HO213.out).2.2|(with_reducible refine Kd.C_alloc ?_ _)|(with_reducible refine Kd.C_drewN ?_ _)|(with_reducible refine Kd.C_drew ?_)));(case side2=>exact (Kd.R_reads' HO213.out).2.1);rintro e w' ⟨rfl,⟨nd,rfl⟩⟩;refine ⟨_,rfl,?_⟩))
 go_ret;exact ⟨by first|rfl|(simp [errW_none,errW_some]<;>rfl)|(simp [*,errW_none,errW_some]<;>rfl),by repeat (first|(with_reducible first|exact HB.out|apply zJ|apply zK|apply zL|refine zM ?_ GE205.out)|exact HB.out)⟩
def impl_Rules_meet.f (a0_0:Int) (a0_1:Int) (a0_2:Int) (a0_3:Int) (a0_4:Int) (a0_5:Int) (a1_0:Int) (a1_1:Int) (a1_2:Int) (a1_3:Int) (a2_0:Int) (a2_1:Int) (a2_2:Int) (a2_3:Int):Option (Bool):=(impl_Rules_may.f a0_0 a0_1 a0_2 a0_3 a0_4 a0_5 a1_0 a2_0).bind fun t218=>(if t218=true then (some (decide ((mx a1_1 a2_1)≤(mn a1_2 a2_2)))) else (some false))
set_option maxHeartbeats 8000000 in
set_option maxRecDepth 100000 in
theorem impl_Rules_meet.calls (a0_0:Int) (a0_1:Int) (a0_2:Int) (a0_3:Int) (a0_4:Int) (a0_5:Int) (a1_0:Int) (a1_1:Int) (a1_2:Int) (a1_3:Int) (a2_0:Int) (a2_1:Int) (a2_2:Int) (a2_3:Int) (r:Bool) (w:World) (h:impl_Rules_meet.f a0_0 a0_1 a0_2 a0_3 a0_4 a0_5 a1_0 a1_1 a1_2 a1_3 a2_0 a2_1 a2_2 a2_3=some r) :
  Calls Tryd.prog 56 #[.agg #[.int .u8 a0_0,.int .u8 a0_1,.int .u8 a0_2,.int .u8 a0_3,.int .u8 a0_4,.int .u8 a0_5],.agg #[.int .u8 a1_0,.int .i8 a1_1,.int .i8 a1_2,.int .i16 a1_3],.agg #[.int .u8 a2_0,.int .i8 a2_1,.int .i8 a2_2,.int .i16 a2_3]] w fun e w'=>e=.returned (.bool r)∧Below w.heap.size w w':=by
 have hu25:=Tryd.underlying25;have hu44:=Tryd.underlying44;have HB:=zN (Below.refl w.heap.size w);have H:((impl_Rules_may.f a0_0 a0_1 a0_2 a0_3 a0_4 a0_5 a1_0 a2_0).bind fun t218=>(if t218=true then (some (decide ((mx a1_1 a2_1)≤(mn a1_2 a2_2)))) else (some false)))=some r:=h;clear h;replace H:=Option.bind_eq_some_iff.mp H;obtain ⟨t218,A40,H⟩:=H;replace H:(if t218=true then (some (decide ((mx a1_1 a2_1)≤(mn a1_2 a2_2)))) else (some false))=some r:=H;have A4:=zN A40;clear A40
 by_cases c5:t218=true
 ·subst c5
  have H1:(some (decide ((mx a1_1 a2_1)≤(mn a1_2 a2_2))))=some r:=by rw [if_pos rfl] at H;exact H
  clear H;have H:=H1;clear H1;obtain ⟨ji6,hji6⟩ : ∃j_:Int,(mx a1_1 a2_1)=j_:=⟨_,rfl⟩
  replace H:(some (decide ((ji6)≤(mn a1_2 a2_2))))=some r:=by first|(rw [hji6] at H;exact H)|(simp only [hji6] at H ⊢;exact H)
  (try rw [hji6] at A4);have hji6_:(if a1_1<a2_1 then a2_1 else a1_1)=ji6:=hji6;obtain ⟨ji7,hji7⟩ : ∃j_:Int,(mn a1_2 a2_2)=j_:=⟨_,rfl⟩
  replace H:(some (decide ((ji6)≤(ji7))))=some r:=by first|(rw [hji7] at H;exact H)|(simp only [hji7] at H ⊢;exact H)
  (try rw [hji7] at A4);have hji7_:(if a2_2<a1_2 then a2_2 else a1_2)=ji7:=hji7;obtain rfl:=Option.some.inj H;go_enter Tryd.func56,Tryd.ntmps56
  go_wp2_with (first|((with_reducible refine gate_dst (N:=3) rfl ?_);(try (refine gate_guard (by rfl) ?_;dsimp only));refine box_event ?hg (N:=3) ?hd (cs:=#[.int .u8 a0_0,.int .u8 a0_1,.int .u8 a0_2,.int .u8 a0_3,.int .u8 a0_4,.int .u8 a0_5]) (t:=25) ?hr ?_;(case hd=>rfl);(case hg=>rfl);(case hr=>first|(go_simp;done)|(go_simp;rfl));intro gb215 hg w8 hbox hb;have BK215:=zN (hbox);have GW215:=zN ((by rw [hg];exact (zT (by repeat (first|(with_reducible first|exact HB.out|apply zJ|apply zK|apply zL)|exact HB.out))):w.heap.size≤gb215));have GE215:=zN ((by rw [hg];exact (zT (by repeat (first|(with_reducible first|exact HB.out|apply zJ|apply zK|apply zL)|exact HB.out))):w.heap.size≤gb215));replace HB:=zN (zV (by repeat (first|(with_reducible first|exact HB.out|apply zJ|apply zK|apply zL)|exact HB.out)) hb);clear hb hbox hg)|((with_reducible refine gate_dst (N:=4) rfl ?_);(try (refine gate_guard (by rfl) ?_;dsimp only));refine box_event ?hg (N:=4) ?hd (cs:=#[.int .u8 a1_0,.int .i8 a1_1,.int .i8 a1_2,.int .i16 a1_3]) (t:=44) ?hr ?_;(case hd=>rfl);(case hg=>rfl);(case hr=>first|(go_simp;done)|(go_simp;rfl));intro gb216 hg w9 hbox hb;have BK216:=zN (hbox);have GW216:=zN ((by rw [hg];exact (zT (by repeat (first|(with_reducible first|exact HB.out|apply zJ|apply zK|apply zL|refine zM ?_ GE215.out)|exact HB.out))):w.heap.size≤gb216));have GE216:=zN ((by rw [hg];exact (zT (by repeat (first|(with_reducible first|exact HB.out|apply zJ|apply zK|apply zL|refine zM ?_ GE215.out)|exact HB.out))):w.heap.size≤gb216));replace HB:=zN (zV (by repeat (first|(with_reducible first|exact HB.out|apply zJ|apply zK|apply zL|refine zM ?_ GE215.out)|exact HB.out)) hb);have NB215_216:=zN ((by rw [hg];exact Nat.ne_of_lt (blk_lt (g:=gb215) (o:=.cells #[.int .u8 a0_0,.int .u8 a0_1,.int .u8 a0_2,.int .u8 a0_3,.int .u8 a0_4,.int .u8 a0_5] 25 (0,0)) (by (with_reducible repeat (first|refine zH ?_ _|refine zI ?_|refine zG ?_ _));exact BK215.out)):gb215≠gb216));have NB216_215:=zN ((by rw [hg];exact Nat.ne_of_gt (blk_lt (g:=gb215) (o:=.cells #[.int .u8 a0_0,.int .u8 a0_1,.int .u8 a0_2,.int .u8 a0_3,.int .u8 a0_4,.int .u8 a0_5] 25 (0,0)) (by (with_reducible repeat (first|refine zH ?_ _|refine zI ?_|refine zG ?_ _));exact BK215.out)):gb216≠gb215));replace BK215:=zN (zU (g:=gb215) (o:=.cells #[.int .u8 a0_0,.int .u8 a0_1,.int .u8 a0_2,.int .u8 a0_3,.int .u8 a0_4,.int .u8 a0_5] 25 (0,0)) (by (with_reducible repeat (first|refine zH ?_ _|refine zI ?_|refine zG ?_ _));exact BK215.out) hb);clear hb hbox hg)|((with_reducible refine gate_dst (N:=5) rfl ?_);(try (refine gate_guard (by rfl) ?_;dsimp only));refine box_event ?hg (N:=5) ?hd (cs:=#[.int .u8 a2_0,.int .i8 a2_1,.int .i8 a2_2,.int .i16 a2_3]) (t:=44) ?hr ?_;(case hd=>rfl);(case hg=>rfl);(case hr=>first|(go_simp;done)|(go_simp;rfl));intro gb217 hg w10 hbox hb;have BK217:=zN (hbox);have GW217:=zN ((by rw [hg];exact (zT (by repeat (first|(with_reducible first|exact HB.out|apply zJ|apply zK|apply zL|refine zM ?_ GE215.out|refine zM ?_ GE216.out)|exact HB.out))):w.heap.size≤gb217));have GE217:=zN ((by rw [hg];exact (zT (by repeat (first|(with_reducible first|exact HB.out|apply zJ|apply zK|apply zL|refine zM ?_ GE215.out|refine zM ?_ GE216.out)|exact HB.out))):w.heap.size≤gb217));replace HB:=zN (zV (by repeat (first|(with_reducible first|exact HB.out|apply zJ|apply zK|apply zL|refine zM ?_ GE215.out|refine zM ?_ GE216.out)|exact HB.out)) hb);have NB215_217:=zN ((by rw [hg];exact Nat.ne_of_lt (blk_lt (g:=gb215) (o:=.cells #[.int .u8 a0_0,.int .u8 a0_1,.int .u8 a0_2,.int .u8 a0_3,.int .u8 a0_4,.int .u8 a0_5] 25 (0,0)) (by (with_reducible repeat (first|refine zH ?_ _|refine zI ?_|refine zG ?_ _));exact BK215.out)):gb215≠gb217));have NB217_215:=zN ((by rw [hg];exact Nat.ne_of_gt (blk_lt (g:=gb215) (o:=.cells #[.int .u8 a0_0,.int .u8 a0_1,.int .u8 a0_2,.int .u8 a0_3,.int .u8 a0_4,.int .u8 a0_5] 25 (0,0)) (by (with_reducible repeat (first|refine zH ?_ _|refine zI ?_|refine zG ?_ _));exact BK215.out)):gb217≠gb215));replace BK215:=zN (zU (g:=gb215) (o:=.cells #[.int .u8 a0_0,.int .u8 a0_1,.int .u8 a0_2,.int .u8 a0_3,.int .u8 a0_4,.int .u8 a0_5] 25 (0,0)) (by (with_reducible repeat (first|refine zH ?_ _|refine zI ?_|refine zG ?_ _));exact BK215.out) hb);have NB216_217:=zN ((by rw [hg];exact Nat.ne_of_lt (blk_lt (g:=gb216) (o:=.cells #[.int .u8 a1_0,.int .i8 a1_1,.int .i8 a1_2,.int .i16 a1_3] 44 (0,0)) (by (with_reducible repeat (first|refine zH ?_ _|refine zI ?_|refine zG ?_ _));exact BK216.out)):gb216≠gb217));have NB217_216:=zN ((by rw [hg];exact Nat.ne_of_gt (blk_lt (g:=gb216) (o:=.cells #[.int .u8 a1_0,.int .i8 a1_1,.int .i8 a1_2,.int .i16 a1_3] 44 (0,0)) (by (with_reducible repeat (first|refine zH ?_ _|refine zI ?_|refine zG ?_ _));exact BK216.out)):gb217≠gb216));replace BK216:=zN (zU (g:=gb216) (o:=.cells #[.int .u8 a1_0,.int .i8 a1_1,.int .i8 a1_2,.int .i16 a1_3] 44 (0,0)) (by (with_reducible repeat (first|refine zH ?_ _|refine zI ?_|refine zG ?_ _));exact BK216.out) hb);clear hb hbox hg;have hnb11:=NB215_216.out;have hnc11:=NB216_215.out;have hnb12:=NB215_217.out;have hnc12:=NB217_215.out;have hcz13_0:w10.cell? ⟨gb215,0,none⟩=some (.int .u8 a0_0):=(blk_cell BK215.out 0).trans rfl;have hcz13_1:w10.cell? ⟨gb215,1,none⟩=some (.int .u8 a0_1):=(blk_cell BK215.out 1).trans rfl;have hcz13_2:w10.cell? ⟨gb215,2,none⟩=some (.int .u8 a0_2):=(blk_cell BK215.out 2).trans rfl;have hcz13_3:w10.cell? ⟨gb215,3,none⟩=some (.int .u8 a0_3):=(blk_cell BK215.out 3).trans rfl;have hcz13_4:w10.cell? ⟨gb215,4,none⟩=some (.int .u8 a0_4):=(blk_cell BK215.out 4).trans rfl;have hcz13_5:w10.cell? ⟨gb215,5,none⟩=some (.int .u8 a0_5):=(blk_cell BK215.out 5).trans rfl;have hfz13_0:=blk_frozen BK215.out 0;have hfz13_1:=blk_frozen BK215.out 1;have hfz13_2:=blk_frozen BK215.out 2;have hfz13_3:=blk_frozen BK215.out 3;have hfz13_4:=blk_frozen BK215.out 4;have hfz13_5:=blk_frozen BK215.out 5;have hnb14:=NB216_217.out;have hnc14:=NB217_216.out;have hcz15_0:w10.cell? ⟨gb216,0,none⟩=some (.int .u8 a1_0):=(blk_cell BK216.out 0).trans rfl;have hcz15_1:w10.cell? ⟨gb216,1,none⟩=some (.int .i8 a1_1):=(blk_cell BK216.out 1).trans rfl;have hcz15_2:w10.cell? ⟨gb216,2,none⟩=some (.int .i8 a1_2):=(blk_cell BK216.out 2).trans rfl;have hcz15_3:w10.cell? ⟨gb216,3,none⟩=some (.int .i16 a1_3):=(blk_cell BK216.out 3).trans rfl;have hfz15_0:=blk_frozen BK216.out 0;have hfz15_1:=blk_frozen BK216.out 1;have hfz15_2:=blk_frozen BK216.out 2;have hfz15_3:=blk_frozen BK216.out 3;have hcz16_0:w10.cell? ⟨gb217,0,none⟩=some (.int .u8 a2_0):=(blk_cell BK217.out 0).trans rfl;have hcz16_1:w10.cell? ⟨gb217,1,none⟩=some (.int .i8 a2_1):=(blk_cell BK217.out 1).trans rfl;have hcz16_2:w10.cell? ⟨gb217,2,none⟩=some (.int .i8 a2_2):=(blk_cell BK217.out 2).trans rfl;have hcz16_3:w10.cell? ⟨gb217,3,none⟩=some (.int .i16 a2_3):=(blk_cell BK217.out 3).trans rfl;have hfz16_0:=blk_frozen BK217.out 0;have hfz16_1:=blk_frozen BK217.out 1;have hfz16_2:=blk_frozen BK217.out 2;have hfz16_3:=blk_frozen BK217.out 3)|((with_reducible refine gate_callee (f:=50) rfl ?_);refine goesL_ (some 12) rfl rfl Tryd.func50 (by kernel_rfl) rfl #[.agg #[.int .u8 a0_0,.int .u8 a0_1,.int .u8 a0_2,.int .u8 a0_3,.int .u8 a0_4,.int .u8 a0_5],.int .u8 a1_0,.int .u8 a2_0] rfl (by (try simp only [List.map_toArray,List.map_cons,List.map_nil]);first|done|rfl|(simp only [List.length_drop,List.length_take];rfl)) ?_;(with_reducible refine (impl_Rules_may.calls a0_0 a0_1 a0_2 a0_3 a0_4 a0_5 a1_0 a2_0 true _ A4.out).mono ?_);rintro e w17 ⟨rfl,hb⟩;refine ⟨_,rfl,?_⟩;replace BK215:=zN (zU (g:=gb215) (o:=.cells #[.int .u8 a0_0,.int .u8 a0_1,.int .u8 a0_2,.int .u8 a0_3,.int .u8 a0_4,.int .u8 a0_5] 25 (0,0)) (by (with_reducible repeat (first|refine zH ?_ _|refine zI ?_|refine zG ?_ _));exact BK215.out) hb);replace BK216:=zN (zU (g:=gb216) (o:=.cells #[.int .u8 a1_0,.int .i8 a1_1,.int .i8 a1_2,.int .i16 a1_3] 44 (0,0)) (by (with_reducible repeat (first|refine zH ?_ _|refine zI ?_|refine zG ?_ _));exact BK216.out) hb);replace BK217:=zN (zU (g:=gb217) (o:=.cells #[.int .u8 a2_0,.int .i8 a2_1,.int .i8 a2_2,.int .i16 a2_3] 44 (0,0)) (by (with_reducible repeat (first|refine zH ?_ _|refine zI ?_|refine zG ?_ _));exact BK217.out) hb);replace HB:=zN (zV (by repeat (first|(with_reducible first|exact HB.out|apply zJ|apply zK|apply zL|refine zM ?_ GE215.out|refine zM ?_ GE216.out|refine zM ?_ GE217.out)|exact HB.out)) hb);(try clear hb);(try clear hb2);(try clear hk);(try clear hi);have hcz18_0:w17.cell? ⟨gb216,0,none⟩=some (.int .u8 a1_0):=(blk_cell BK216.out 0).trans rfl;have hcz18_1:w17.cell? ⟨gb216,1,none⟩=some (.int .i8 a1_1):=(blk_cell BK216.out 1).trans rfl;have hcz18_2:w17.cell? ⟨gb216,2,none⟩=some (.int .i8 a1_2):=(blk_cell BK216.out 2).trans rfl;have hcz18_3:w17.cell? ⟨gb216,3,none⟩=some (.int .i16 a1_3):=(blk_cell BK216.out 3).trans rfl;have hfz18_0:=blk_frozen BK216.out 0;have hfz18_1:=blk_frozen BK216.out 1;have hfz18_2:=blk_frozen BK216.out 2;have hfz18_3:=blk_frozen BK216.out 3;have hcz19_0:w17.cell? ⟨gb217,0,none⟩=some (.int .u8 a2_0):=(blk_cell BK217.out 0).trans rfl;have hcz19_1:w17.cell? ⟨gb217,1,none⟩=some (.int .i8 a2_1):=(blk_cell BK217.out 1).trans rfl;have hcz19_2:w17.cell? ⟨gb217,2,none⟩=some (.int .i8 a2_2):=(blk_cell BK217.out 2).trans rfl;have hcz19_3:w17.cell? ⟨gb217,3,none⟩=some (.int .i16 a2_3):=(blk_cell BK217.out 3).trans rfl;have hfz19_0:=blk_frozen BK217.out 0;have hfz19_1:=blk_frozen BK217.out 1;have hfz19_2:=blk_frozen BK217.out 2;have hfz19_3:=blk_frozen BK217.out 3))
  go_ret;exact ⟨by first|rfl|(simp [errW_none,errW_some]<;>rfl)|(simp only [← hji6,← hji7];first|rfl|(simp [errW_none,errW_some]<;>rfl))|(simp [*,errW_none,errW_some]<;>rfl),by repeat (first|(with_reducible first|exact HB.out|apply zJ|apply zK|apply zL|refine zM ?_ GE215.out|refine zM ?_ GE216.out|refine zM ?_ GE217.out)|exact HB.out)⟩
 replace c5:=Bool.eq_false_iff.mpr c5;subst c5
 have H1:(some false)=some r:=by rw [if_neg (show ¬(false=true) by decide)] at H;exact H
 clear H;have H:=H1;clear H1;obtain rfl:=Option.some.inj H;go_enter Tryd.func56,Tryd.ntmps56
 go_wp2_with (first|((with_reducible refine gate_dst (N:=3) rfl ?_);(try (refine gate_guard (by rfl) ?_;dsimp only));refine box_event ?hg (N:=3) ?hd (cs:=#[.int .u8 a0_0,.int .u8 a0_1,.int .u8 a0_2,.int .u8 a0_3,.int .u8 a0_4,.int .u8 a0_5]) (t:=25) ?hr ?_;(case hd=>rfl);(case hg=>rfl);(case hr=>first|(go_simp;done)|(go_simp;rfl));intro gb215 hg w20 hbox hb;have BK215:=zN (hbox);have GW215:=zN ((by rw [hg];exact (zT (by repeat (first|(with_reducible first|exact HB.out|apply zJ|apply zK|apply zL)|exact HB.out))):w.heap.size≤gb215));have GE215:=zN ((by rw [hg];exact (zT (by repeat (first|(with_reducible first|exact HB.out|apply zJ|apply zK|apply zL)|exact HB.out))):w.heap.size≤gb215));replace HB:=zN (zV (by repeat (first|(with_reducible first|exact HB.out|apply zJ|apply zK|apply zL)|exact HB.out)) hb);clear hb hbox hg)|((with_reducible refine gate_dst (N:=4) rfl ?_);(try (refine gate_guard (by rfl) ?_;dsimp only));refine box_event ?hg (N:=4) ?hd (cs:=#[.int .u8 a1_0,.int .i8 a1_1,.int .i8 a1_2,.int .i16 a1_3]) (t:=44) ?hr ?_;(case hd=>rfl);(case hg=>rfl);(case hr=>first|(go_simp;done)|(go_simp;rfl));intro gb216 hg w21 hbox hb;have BK216:=zN (hbox);have GW216:=zN ((by rw [hg];exact (zT (by repeat (first|(with_reducible first|exact HB.out|apply zJ|apply zK|apply zL|refine zM ?_ GE215.out)|exact HB.out))):w.heap.size≤gb216));have GE216:=zN ((by rw [hg];exact (zT (by repeat (first|(with_reducible first|exact HB.out|apply zJ|apply zK|apply zL|refine zM ?_ GE215.out)|exact HB.out))):w.heap.size≤gb216));replace HB:=zN (zV (by repeat (first|(with_reducible first|exact HB.out|apply zJ|apply zK|apply zL|refine zM ?_ GE215.out)|exact HB.out)) hb);have NB215_216:=zN ((by rw [hg];exact Nat.ne_of_lt (blk_lt (g:=gb215) (o:=.cells #[.int .u8 a0_0,.int .u8 a0_1,.int .u8 a0_2,.int .u8 a0_3,.int .u8 a0_4,.int .u8 a0_5] 25 (0,0)) (by (with_reducible repeat (first|refine zH ?_ _|refine zI ?_|refine zG ?_ _));exact BK215.out)):gb215≠gb216));have NB216_215:=zN ((by rw [hg];exact Nat.ne_of_gt (blk_lt (g:=gb215) (o:=.cells #[.int .u8 a0_0,.int .u8 a0_1,.int .u8 a0_2,.int .u8 a0_3,.int .u8 a0_4,.int .u8 a0_5] 25 (0,0)) (by (with_reducible repeat (first|refine zH ?_ _|refine zI ?_|refine zG ?_ _));exact BK215.out)):gb216≠gb215));replace BK215:=zN (zU (g:=gb215) (o:=.cells #[.int .u8 a0_0,.int .u8 a0_1,.int .u8 a0_2,.int .u8 a0_3,.int .u8 a0_4,.int .u8 a0_5] 25 (0,0)) (by (with_reducible repeat (first|refine zH ?_ _|refine zI ?_|refine zG ?_ _));exact BK215.out) hb);clear hb hbox hg)|((with_reducible refine gate_dst (N:=5) rfl ?_);(try (refine gate_guard (by rfl) ?_;dsimp only));refine box_event ?hg (N:=5) ?hd (cs:=#[.int .u8 a2_0,.int .i8 a2_1,.int .i8 a2_2,.int .i16 a2_3]) (t:=44) ?hr ?_;(case hd=>rfl);(case hg=>rfl);(case hr=>first|(go_simp;done)|(go_simp;rfl));intro gb217 hg w22 hbox hb;have BK217:=zN (hbox);have GW217:=zN ((by rw [hg];exact (zT (by repeat (first|(with_reducible first|exact HB.out|apply zJ|apply zK|apply zL|refine zM ?_ GE215.out|refine zM ?_ GE216.out)|exact HB.out))):w.heap.size≤gb217));have GE217:=zN ((by rw [hg];exact (zT (by repeat (first|(with_reducible first|exact HB.out|apply zJ|apply zK|apply zL|refine zM ?_ GE215.out|refine zM ?_ GE216.out)|exact HB.out))):w.heap.size≤gb217));replace HB:=zN (zV (by repeat (first|(with_reducible first|exact HB.out|apply zJ|apply zK|apply zL|refine zM ?_ GE215.out|refine zM ?_ GE216.out)|exact HB.out)) hb);have NB215_217:=zN ((by rw [hg];exact Nat.ne_of_lt (blk_lt (g:=gb215) (o:=.cells #[.int .u8 a0_0,.int .u8 a0_1,.int .u8 a0_2,.int .u8 a0_3,.int .u8 a0_4,.int .u8 a0_5] 25 (0,0)) (by (with_reducible repeat (first|refine zH ?_ _|refine zI ?_|refine zG ?_ _));exact BK215.out)):gb215≠gb217));have NB217_215:=zN ((by rw [hg];exact Nat.ne_of_gt (blk_lt (g:=gb215) (o:=.cells #[.int .u8 a0_0,.int .u8 a0_1,.int .u8 a0_2,.int .u8 a0_3,.int .u8 a0_4,.int .u8 a0_5] 25 (0,0)) (by (with_reducible repeat (first|refine zH ?_ _|refine zI ?_|refine zG ?_ _));exact BK215.out)):gb217≠gb215));replace BK215:=zN (zU (g:=gb215) (o:=.cells #[.int .u8 a0_0,.int .u8 a0_1,.int .u8 a0_2,.int .u8 a0_3,.int .u8 a0_4,.int .u8 a0_5] 25 (0,0)) (by (with_reducible repeat (first|refine zH ?_ _|refine zI ?_|refine zG ?_ _));exact BK215.out) hb);have NB216_217:=zN ((by rw [hg];exact Nat.ne_of_lt (blk_lt (g:=gb216) (o:=.cells #[.int .u8 a1_0,.int .i8 a1_1,.int .i8 a1_2,.int .i16 a1_3] 44 (0,0)) (by (with_reducible repeat (first|refine zH ?_ _|refine zI ?_|refine zG ?_ _));exact BK216.out)):gb216≠gb217));have NB217_216:=zN ((by rw [hg];exact Nat.ne_of_gt (blk_lt (g:=gb216) (o:=.cells #[.int .u8 a1_0,.int .i8 a1_1,.int .i8 a1_2,.int .i16 a1_3] 44 (0,0)) (by (with_reducible repeat (first|refine zH ?_ _|refine zI ?_|refine zG ?_ _));exact BK216.out)):gb217≠gb216));replace BK216:=zN (zU (g:=gb216) (o:=.cells #[.int .u8 a1_0,.int .i8 a1_1,.int .i8 a1_2,.int .i16 a1_3] 44 (0,0)) (by (with_reducible repeat (first|refine zH ?_ _|refine zI ?_|refine zG ?_ _));exact BK216.out) hb);clear hb hbox hg;have hnb23:=NB215_216.out;have hnc23:=NB216_215.out;have hnb24:=NB215_217.out;have hnc24:=NB217_215.out;have hcz25_0:w22.cell? ⟨gb215,0,none⟩=some (.int .u8 a0_0):=(blk_cell BK215.out 0).trans rfl;have hcz25_1:w22.cell? ⟨gb215,1,none⟩=some (.int .u8 a0_1):=(blk_cell BK215.out 1).trans rfl;have hcz25_2:w22.cell? ⟨gb215,2,none⟩=some (.int .u8 a0_2):=(blk_cell BK215.out 2).trans rfl;have hcz25_3:w22.cell? ⟨gb215,3,none⟩=some (.int .u8 a0_3):=(blk_cell BK215.out 3).trans rfl;have hcz25_4:w22.cell? ⟨gb215,4,none⟩=some (.int .u8 a0_4):=(blk_cell BK215.out 4).trans rfl;have hcz25_5:w22.cell? ⟨gb215,5,none⟩=some (.int .u8 a0_5):=(blk_cell BK215.out 5).trans rfl;have hfz25_0:=blk_frozen BK215.out 0;have hfz25_1:=blk_frozen BK215.out 1;have hfz25_2:=blk_frozen BK215.out 2;have hfz25_3:=blk_frozen BK215.out 3;have hfz25_4:=blk_frozen BK215.out 4;have hfz25_5:=blk_frozen BK215.out 5;have hnb26:=NB216_217.out;have hnc26:=NB217_216.out;have hcz27_0:w22.cell? ⟨gb216,0,none⟩=some (.int .u8 a1_0):=(blk_cell BK216.out 0).trans rfl;have hcz27_1:w22.cell? ⟨gb216,1,none⟩=some (.int .i8 a1_1):=(blk_cell BK216.out 1).trans rfl;have hcz27_2:w22.cell? ⟨gb216,2,none⟩=some (.int .i8 a1_2):=(blk_cell BK216.out 2).trans rfl;have hcz27_3:w22.cell? ⟨gb216,3,none⟩=some (.int .i16 a1_3):=(blk_cell BK216.out 3).trans rfl;have hfz27_0:=blk_frozen BK216.out 0;have hfz27_1:=blk_frozen BK216.out 1;have hfz27_2:=blk_frozen BK216.out 2;have hfz27_3:=blk_frozen BK216.out 3;have hcz28_0:w22.cell? ⟨gb217,0,none⟩=some (.int .u8 a2_0):=(blk_cell BK217.out 0).trans rfl;have hcz28_1:w22.cell? ⟨gb217,1,none⟩=some (.int .i8 a2_1):=(blk_cell BK217.out 1).trans rfl;have hcz28_2:w22.cell? ⟨gb217,2,none⟩=some (.int .i8 a2_2):=(blk_cell BK217.out 2).trans rfl;have hcz28_3:w22.cell? ⟨gb217,3,none⟩=some (.int .i16 a2_3):=(blk_cell BK217.out 3).trans rfl;have hfz28_0:=blk_frozen BK217.out 0;have hfz28_1:=blk_frozen BK217.out 1;have hfz28_2:=blk_frozen BK217.out 2;have hfz28_3:=blk_frozen BK217.out 3)|((with_reducible refine gate_callee (f:=50) rfl ?_);refine goesL_ (some 12) rfl rfl Tryd.func50 (by kernel_rfl) rfl #[.agg #[.int .u8 a0_0,.int .u8 a0_1,.int .u8 a0_2,.int .u8 a0_3,.int .u8 a0_4,.int .u8 a0_5],.int .u8 a1_0,.int .u8 a2_0] rfl (by (try simp only [List.map_toArray,List.map_cons,List.map_nil]);first|done|rfl|(simp only [List.length_drop,List.length_take];rfl)) ?_;(with_reducible refine (impl_Rules_may.calls a0_0 a0_1 a0_2 a0_3 a0_4 a0_5 a1_0 a2_0 false _ A4.out).mono ?_);rintro e w29 ⟨rfl,hb⟩;refine ⟨_,rfl,?_⟩;replace BK215:=zN (zU (g:=gb215) (o:=.cells #[.int .u8 a0_0,.int .u8 a0_1,.int .u8 a0_2,.int .u8 a0_3,.int .u8 a0_4,.int .u8 a0_5] 25 (0,0)) (by (with_reducible repeat (first|refine zH ?_ _|refine zI ?_|refine zG ?_ _));exact BK215.out) hb);replace BK216:=zN (zU (g:=gb216) (o:=.cells #[.int .u8 a1_0,.int .i8 a1_1,.int .i8 a1_2,.int .i16 a1_3] 44 (0,0)) (by (with_reducible repeat (first|refine zH ?_ _|refine zI ?_|refine zG ?_ _));exact BK216.out) hb);replace BK217:=zN (zU (g:=gb217) (o:=.cells #[.int .u8 a2_0,.int .i8 a2_1,.int .i8 a2_2,.int .i16 a2_3] 44 (0,0)) (by (with_reducible repeat (first|refine zH ?_ _|refine zI ?_|refine zG ?_ _));exact BK217.out) hb);replace HB:=zN (zV (by repeat (first|(with_reducible first|exact HB.out|apply zJ|apply zK|apply zL|refine zM ?_ GE215.out|refine zM ?_ GE216.out|refine zM ?_ GE217.out)|exact HB.out)) hb);(try clear hb);(try clear hb2);(try clear hk);(try clear hi)))
 go_ret;exact ⟨by first|rfl|(simp [errW_none,errW_some]<;>rfl)|(simp [*,errW_none,errW_some]<;>rfl),by repeat (first|(with_reducible first|exact HB.out|apply zJ|apply zK|apply zL|refine zM ?_ GE215.out|refine zM ?_ GE216.out|refine zM ?_ GE217.out)|exact HB.out)⟩
def impl_weightOf.l0:Nat→Int→List (S44)→Int→Int→Option (Int)
 | 0,_,_,_,_=>none
 | k+1,x3,x6,x7,x8=>if x8<x7 then (if 0≤x8 then (if x8<(x6.length:Int) then (impl_weightOf.l0 k (wrap64 (x3+(wrap64 ((rd_T44 x6 x8).f3)))) x6 x7 (wrap64 (x8+1))) else (none)) else (none)) else (some x3)
def impl_weightOf.f (k:Nat) (l0:List (S44)):Option (Int):=impl_weightOf.l0 k 0 l0 (l0.length:Int) 0
set_option maxHeartbeats 8000000 in
set_option maxRecDepth 100000 in
theorem impl_weightOf.calls (k:Nat) (A0:Option Addr) (c0:Nat) (l0:List (S44)) (r:Int) (w:World) (hr0:Kd.C k44 w A0 l0.length l0) (hc0:l0.length≤c0) (h:impl_weightOf.f k l0=some r) :
  Calls Tryd.prog 68 #[.slice A0 l0.length c0] w fun e w'=>e=.returned (.int .i64 r)∧Below w.heap.size w w':=by
 have hu44:=Tryd.underlying44;have HR0:=zN hr0;have HC0:=zN hc0;clear hr0 hc0;have HB:=zN (Below.refl w.heap.size w);have H:(impl_weightOf.l0 k 0 l0 (l0.length:Int) 0)=some r:=h;clear h;have H':=zN H;clear H;go_enter Tryd.func68,Tryd.ntmps68;go_wp2
 go_loopg [3,8] k (fun kq v3 v8 w'=>∃(x3_1:Int) (x8_1:Int),v3=.int .i64 x3_1∧v8=.int .i64 x8_1∧Aside0 (impl_weightOf.l0 kq x3_1 l0 (l0.length:Int) x8_1=some r)∧Aside0 (kq≤k)∧Aside0 (Below w.heap.size w w'))
 case atStart=>exact ⟨(0),(0),(by first|rfl|(simp;done)|(simp [*];done)),(by first|rfl|(simp;done)|(simp [*];done)),H',⟨Nat.le_refl _⟩,⟨by repeat (first|(with_reducible first|exact HB.out|apply zJ|apply zK|apply zL)|exact HB.out)⟩⟩
 clear H';obtain ⟨x3_1,x8_1,rfl,rfl,HA,HK1,HB⟩:=hrel
 cases gk with
 | zero=>exact absurd HA.out (by simp [impl_weightOf.l0])
 | succ k1=>
  have H:=HA.out;clear HA;simp only [impl_weightOf.l0] at H
  by_cases c2:x8_1<(l0.length:Int)
  ·rw [if_pos c2] at H;have c2b0:decide (x8_1<(l0.length:Int))=true:=decide_eq_true c2;clear c2
   by_cases c3:0≤x8_1
   rotate_left
   ·rw [if_neg c3] at H;exact absurd H (by simp)
   rw [if_pos c3] at H;have c3b0:decide (0≤x8_1)=true:=decide_eq_true c3;clear c3
   by_cases c4:x8_1<(l0.length:Int)
   rotate_left
   ·rw [if_neg c4] at H;exact absurd H (by simp)
   rw [if_pos c4] at H;have c4b0:decide (x8_1<(l0.length:Int))=true:=decide_eq_true c4;clear c4;have H':=zN H;clear H;have p219:0≤(x8_1:Int):=zS (by first|(with_reducible assumption)|assumption);have q219:x8_1<(l0.length:Int):=zS (by first|(with_reducible assumption)|assumption);obtain ⟨ad219,e219,hx219_0,hx219_1,hx219_2,hx219_3⟩:=at_T44 HR0.out x8_1 p219 q219;cases e219;replace hx219_0:=(HB.out.cell (zR w _ hx219_0)).trans hx219_0;replace hx219_1:=(HB.out.cell (zR w _ hx219_1)).trans hx219_1;replace hx219_2:=(HB.out.cell (zR w _ hx219_2)).trans hx219_2;replace hx219_3:=(HB.out.cell (zR w _ hx219_3)).trans hx219_3;replace p219:=eq_true p219;replace q219:=eq_true q219
   go_wp2_with (first|((with_reducible refine gate_dst (N:=5) rfl ?_);refine box_event ?hg (N:=5) ?hd (cs:=#[.int .u8 0,.int .i8 0,.int .i8 0,.int .i16 0]) (t:=44) ?hr ?_;(case hd=>rfl);(case hg=>rfl);(case hr=>first|(go_simp;done)|(go_simp;rfl));intro gb220 hg w5 hbox hb;have BK220:=zN (hbox);have GW220:=zN ((by rw [hg];exact (zT (by repeat (first|(with_reducible first|exact HB.out|apply zJ|apply zK|apply zL)|exact HB.out))):w.heap.size≤gb220));have GE220:=zN ((by rw [hg];exact (zT (by repeat (first|(with_reducible first|exact HB.out|apply zJ|apply zK|apply zL)|exact HB.out))):w.heap.size≤gb220));replace HB:=zN (zV (by repeat (first|(with_reducible first|exact HB.out|apply zJ|apply zK|apply zL)|exact HB.out)) hb);clear hb hbox hg;have hcz6_0:w5.cell? ⟨gb220,0,none⟩=some (.int .u8 0):=(blk_cell BK220.out 0).trans rfl;have hcz6_1:w5.cell? ⟨gb220,1,none⟩=some (.int .i8 0):=(blk_cell BK220.out 1).trans rfl;have hcz6_2:w5.cell? ⟨gb220,2,none⟩=some (.int .i8 0):=(blk_cell BK220.out 2).trans rfl;have hcz6_3:w5.cell? ⟨gb220,3,none⟩=some (.int .i16 0):=(blk_cell BK220.out 3).trans rfl;have hfz6_0:=blk_frozen BK220.out 0;have hfz6_1:=blk_frozen BK220.out 1;have hfz6_2:=blk_frozen BK220.out 2;have hfz6_3:=blk_frozen BK220.out 3))
   go_roundg k1
   case measure=>have:=HK1.out;omega
   case rel=>exact ⟨(wrap64 (x3_1+(wrap64 ((rd_T44 l0 x8_1).f3)))),(wrap64 (x8_1+1)),(by first|rfl|(simp;done)|(simp [*];done)),(by first|rfl|(simp;done)|(simp [*];done)),H',⟨by have:=HK1.out;omega⟩,⟨by repeat (first|(with_reducible first|exact HB.out|apply zJ|apply zK|apply zL|refine zM ?_ GE220.out)|exact HB.out)⟩⟩
  rw [if_neg c2] at H;have c2b0:decide (x8_1<(l0.length:Int))=false:=decide_eq_false c2;clear c2;obtain rfl:=Option.some.inj H;go_wp2;go_ret;exact ⟨by first|rfl|(simp [errW_none,errW_some]<;>rfl)|(simp [*,errW_none,errW_some]<;>rfl),by repeat (first|(with_reducible first|exact HB.out|apply zJ|apply zK|apply zL)|exact HB.out)⟩
def weightFrom:Int→List S44→Int
 | x,[]=>x
 | x,c :: cs=>weightFrom (wrap64 (x+wrap64 c.f3)) cs
def weightB (l:List S44):Int:=weightFrom 0 l
theorem rd_mid_w (pre:List S44) (c:S44) (cs:List S44):rd_T44 (pre++c :: cs) (pre.length:Int)=c:=by simp [rd_T44,List.getD_eq_getElem?_getD]
theorem w_succ_w {i n:Nat} (h:i<n) (hn:n≤1048576):wrap64 ((i:Int)+1)=((i+1:Nat):Int):=by unfold wrap64;omega
theorem weight_l0 (l:List S44) (hl:l.length≤1048576):∀(cs pre:List S44),l=pre++cs→∀x:Int,
  Ev (fun k=>impl_weightOf.l0 k x l (l.length:Int) (pre.length:Int)) (weightFrom x cs):=by
 intro cs
 induction cs with
 | nil=>
  intro pre hpre x
  refine Ev.step (fun k=>by rw [impl_weightOf.l0]) ?_
  have:l.length=pre.length:=by rw [hpre];simp
  simp only [show ¬(pre.length:Int)<(l.length:Int) by omega,↓reduceIte,weightFrom]
  exact Ev.now _
 | cons c cs ih=>
  intro pre hpre x
  have hlen:l.length=pre.length+cs.length+1:=by rw [hpre];simp;omega
  have hc:rd_T44 l (pre.length:Int)=c:=by rw [hpre];exact rd_mid_w pre c cs
  have hnext:=ih (pre++[c]) (by rw [hpre];simp)
  simp only [List.length_append,List.length_cons,List.length_nil,Nat.zero_add] at hnext
  refine Ev.step (fun k=>by rw [impl_weightOf.l0]) ?_
  simp only [show (pre.length:Int)<(l.length:Int) by omega,show (0:Int)≤(pre.length:Int) by omega,↓reduceIte,hc,w_succ_w (show pre.length<l.length by omega) hl]
  rw [weightFrom]
  exact hnext _
theorem weight_ev (l:List S44) (hl:l.length≤1048576):Ev (fun k=>impl_weightOf.f k l) (weightB l):=by
 unfold impl_weightOf.f weightB
 exact weight_l0 l hl l [] rfl 0
def impl_weightOfw.f (l0:List S44):Option Int:=if l0.length≤1048576 then some (weightB l0) else none
theorem impl_weightOfw.spec (l0:List S44) (r:Int) (h:impl_weightOfw.f l0=some r):∃k,impl_weightOf.f k l0=some r:=by
 unfold impl_weightOfw.f at h
 by_cases hc:l0.length≤1048576
 ·rw [if_pos hc] at h
  obtain rfl:=Option.some.inj h
  exact Ev.rounds (weight_ev l0 hc)
 ·rw [if_neg hc] at h
  cases h
theorem impl_weightOfw.calls (A0:Option Addr) (c0:Nat) (l0:List (S44)) (r:Int) (w:World) (hr0:Kd.C k44 w A0 l0.length l0) (hc0:l0.length≤c0) (h:impl_weightOfw.f l0=some r) :
  Calls Tryd.prog 68 #[.slice A0 l0.length c0] w fun e w'=>e=.returned (.int .i64 r)∧Below w.heap.size w w':=by
 obtain ⟨k,hk⟩:=impl_weightOfw.spec l0 _ h;exact impl_weightOf.calls k A0 c0 l0 r w hr0 hc0 hk
def bitB (rs:List Int) (a b:Int):Bool:=(Go.bits .and .u8 (shr .u8 (rd rs a) b) 1) == 1
def metB (rs:List Int) (x y:S44):Bool:=bitB rs x.f0 y.f0&&decide (mx x.f1 y.f1≤mn x.f2 y.f2)
def apartFrom (rs:List Int):List S44→List S44→Bool
 | _,[]=>true
 | pre,g :: gs=>!(pre.any fun h=>!metB rs g h)&&apartFrom rs (pre++[g]) gs
def washB (rs:List Int) (hold:Int) (l:List S44):Bool:=apartFrom rs [] l&&decide (weightB l≤hold)
def colB (l:List S44):Bool:=l.all fun x=>decide (0≤x.f0∧x.f0<6)
def impl_Rules_washable.f (a0_0:Int) (a0_1:Int) (a0_2:Int) (a0_3:Int) (a0_4:Int) (a0_5:Int) (a1:Int) (l2:List S44):Option Bool:=
 if l2.length≤1048576∧colB l2=true then some (washB [a0_0,a0_1,a0_2,a0_3,a0_4,a0_5] a1 l2) else none
theorem meet_total (a0 a1 a2 a3 a4 a5:Int) (x y:S44) (hx:0≤x.f0∧x.f0<6) (hy:0≤y.f0):impl_Rules_meet.f a0 a1 a2 a3 a4 a5 x.f0 x.f1 x.f2 x.f3 y.f0 y.f1 y.f2 y.f3=some (metB [a0,a1,a2,a3,a4,a5] x y):=by
 have hm:impl_Rules_may.f a0 a1 a2 a3 a4 a5 x.f0 y.f0=some (bitB [a0,a1,a2,a3,a4,a5] x.f0 y.f0):=by
  unfold impl_Rules_may.f bitB
  rw [if_pos ⟨hx.1,hx.2,hy⟩]
 unfold impl_Rules_meet.f metB
 rw [hm]
 cases bitB [a0,a1,a2,a3,a4,a5] x.f0 y.f0<;>simp
set_option maxHeartbeats 2000000 in
theorem washable_1 (a0 a1 a2 a3 a4 a5:Int) (g x:S44) (g1 g2:Nat) (w:World) (hg:0≤g.f0∧g.f0<6) (hx:0≤x.f0)
  (hb1:w.heap[g1]?=some (.cells #[.int .u8 a0,.int .u8 a1,.int .u8 a2,.int .u8 a3,.int .u8 a4,.int .u8 a5] 25 (0,0)))
  (hb2:w.heap[g2]?=some (.cells #[.int .u8 g.f0,.int .i8 g.f1,.int .i8 g.f2,.int .i16 g.f3] 44 (0,0))) :
  Calls Tryd.prog 89 #[.agg #[.int .u8 x.f0,.int .i8 x.f1,.int .i8 x.f2,.int .i16 x.f3],.pointer (some ⟨g1,0,none⟩),.pointer (some ⟨g2,0,none⟩)] w fun e w'=>e=.returned (.bool (!metB [a0,a1,a2,a3,a4,a5] g x))∧Below w.heap.size w w':=by
 have hm:=meet_total a0 a1 a2 a3 a4 a5 g x hg hx
 obtain ⟨y,hy⟩ : ∃y,metB [a0,a1,a2,a3,a4,a5] g x=y:=⟨_,rfl⟩
 rw [hy] at hm ⊢
 have HM:=Aside0.mk hm
 have hB0:=fun (o:Obj)=>below_alloc (Below.refl w.heap.size w) o
 have c10:(w.alloc (.cells #[.int .u8 x.f0,.int .i8 x.f1,.int .i8 x.f2,.int .i16 x.f3] 44)).cell? ⟨g1,0,none⟩=some (.int .u8 a0):=pw_cell_below (hB0 _) ((blk_cell hb1 0).trans rfl)
 have c11:(w.alloc (.cells #[.int .u8 x.f0,.int .i8 x.f1,.int .i8 x.f2,.int .i16 x.f3] 44)).cell? ⟨g1,1,none⟩=some (.int .u8 a1):=pw_cell_below (hB0 _) ((blk_cell hb1 1).trans rfl)
 have c12:(w.alloc (.cells #[.int .u8 x.f0,.int .i8 x.f1,.int .i8 x.f2,.int .i16 x.f3] 44)).cell? ⟨g1,2,none⟩=some (.int .u8 a2):=pw_cell_below (hB0 _) ((blk_cell hb1 2).trans rfl)
 have c13:(w.alloc (.cells #[.int .u8 x.f0,.int .i8 x.f1,.int .i8 x.f2,.int .i16 x.f3] 44)).cell? ⟨g1,3,none⟩=some (.int .u8 a3):=pw_cell_below (hB0 _) ((blk_cell hb1 3).trans rfl)
 have c14:(w.alloc (.cells #[.int .u8 x.f0,.int .i8 x.f1,.int .i8 x.f2,.int .i16 x.f3] 44)).cell? ⟨g1,4,none⟩=some (.int .u8 a4):=pw_cell_below (hB0 _) ((blk_cell hb1 4).trans rfl)
 have c15:(w.alloc (.cells #[.int .u8 x.f0,.int .i8 x.f1,.int .i8 x.f2,.int .i16 x.f3] 44)).cell? ⟨g1,5,none⟩=some (.int .u8 a5):=pw_cell_below (hB0 _) ((blk_cell hb1 5).trans rfl)
 have c20:(w.alloc (.cells #[.int .u8 x.f0,.int .i8 x.f1,.int .i8 x.f2,.int .i16 x.f3] 44)).cell? ⟨g2,0,none⟩=some (.int .u8 g.f0):=pw_cell_below (hB0 _) ((blk_cell hb2 0).trans rfl)
 have c21:(w.alloc (.cells #[.int .u8 x.f0,.int .i8 x.f1,.int .i8 x.f2,.int .i16 x.f3] 44)).cell? ⟨g2,1,none⟩=some (.int .i8 g.f1):=pw_cell_below (hB0 _) ((blk_cell hb2 1).trans rfl)
 have c22:(w.alloc (.cells #[.int .u8 x.f0,.int .i8 x.f1,.int .i8 x.f2,.int .i16 x.f3] 44)).cell? ⟨g2,2,none⟩=some (.int .i8 g.f2):=pw_cell_below (hB0 _) ((blk_cell hb2 2).trans rfl)
 have c23:(w.alloc (.cells #[.int .u8 x.f0,.int .i8 x.f1,.int .i8 x.f2,.int .i16 x.f3] 44)).cell? ⟨g2,3,none⟩=some (.int .i16 g.f3):=pw_cell_below (hB0 _) ((blk_cell hb2 3).trans rfl)
 clear hm hy hb1 hb2 hg hx hB0
 go_enter Tryd.func89,Tryd.ntmps89
 go_wp2_with (go_at_call 56;refine (impl_Rules_meet.calls a0 a1 a2 a3 a4 a5 g.f0 g.f1 g.f2 g.f3 x.f0 x.f1 x.f2 x.f3 y _ HM.out).mono ?_;rintro e w1 ⟨rfl,hb1⟩)
 go_ret
 exact ⟨rfl,below_step (below_alloc (Below.refl _ _) _) hb1⟩
theorem apart_snoc (rs:List Int) (l:List S44) (kk:Nat) (h:kk<l.length):apartFrom rs (l.take kk) (l.drop kk)=(!((l.take kk).any fun h=>!metB rs l[kk] h)&&apartFrom rs (l.take (kk+1)) (l.drop (kk+1))):=by
 rw [List.drop_eq_getElem_cons h,apartFrom,List.take_succ_eq_append_getElem h]
set_option maxHeartbeats 4000000 in
theorem impl_Rules_washable.calls (a0_0:Int) (a0_1:Int) (a0_2:Int) (a0_3:Int) (a0_4:Int) (a0_5:Int) (a1:Int) (A2:Option Addr) (c2:Nat) (l2:List S44) (r:Bool) (w:World) (hr2:Kd.C k44 w A2 l2.length l2) (hc2:l2.length≤c2) (h:impl_Rules_washable.f a0_0 a0_1 a0_2 a0_3 a0_4 a0_5 a1 l2=some r) :
  Calls Tryd.prog 60 #[.agg #[.int .u8 a0_0,.int .u8 a0_1,.int .u8 a0_2,.int .u8 a0_3,.int .u8 a0_4,.int .u8 a0_5],.int .i64 a1,.slice A2 l2.length c2] w fun e w'=>e=.returned (.bool r)∧Below w.heap.size w w':=by
 unfold impl_Rules_washable.f at h
 by_cases hq:l2.length≤1048576∧colB l2=true
 case neg=>rw [if_neg hq] at h;cases h
 rw [if_pos hq] at h;obtain ⟨hlen,hcol⟩:=hq;have hres:=Option.some.inj h;clear h;obtain ⟨rs,hrs⟩ : ∃rs,[a0_0,a0_1,a0_2,a0_3,a0_4,a0_5]=rs:=⟨_,rfl⟩;rw [hrs] at hres
 have hcall:∀(W:World) (g2 kk:Nat) (hk:kk<l2.length),Below w.heap.size w W→W.heap[w.heap.size]?=some (.cells #[.int .u8 a0_0,.int .u8 a0_1,.int .u8 a0_2,.int .u8 a0_3,.int .u8 a0_4,.int .u8 a0_5] 25 (0,0)) →
  W.heap[g2]?=some (.cells #[.int .u8 l2[kk].f0,.int .i8 l2[kk].f1,.int .i8 l2[kk].f2,.int .i16 l2[kk].f3] 44 (0,0)) →
  Calls Tryd.prog 84 #[.slice A2 kk c2,.func (.func 89) #[] #[.pointer (some ⟨w.heap.size,0,none⟩),.pointer (some ⟨g2,0,none⟩)]] W fun e w'=>e=.returned (.bool ((l2.take kk).any fun h=>!metB rs l2[kk] h))∧Below W.heap.size W w':=by
  intro W g2 kk hk hB h1 h2
  have hl:(l2.take kk).length=kk:=by rw [List.length_take];omega
  have hT:=Kd.C_take (Kd.C_below hr2 hB) (Nat.le_of_lt hk);have hmem:∀x∈l2,0≤x.f0∧x.f0<6:=fun x hx=>zS (List.all_eq_true.mp hcol x hx)
  have hc:=ContainsFunc_44 A2 c2 (l2.take kk) 89 #[.pointer (some ⟨w.heap.size,0,none⟩),.pointer (some ⟨g2,0,none⟩)] (fun h=>!metB rs l2[kk] h) W hT (enters_of Tryd.func89 (by kernel_rfl) rfl)
   (fun W' x hx hB'=>by
    rw [← hrs];exact washable_1 _ _ _ _ _ _ l2[kk] x _ g2 W' (hmem _ (List.getElem_mem hk)) (hmem x (List.mem_of_mem_take hx)).1 (zU h1 hB') (zU h2 hB'))
  rw [hl] at hc;exact hc
 have HRES:=zN hres;have HC:=zN hcall;have HR2:=zN hr2
 have hwt:impl_weightOfw.f l2=some (weightB l2):=by unfold impl_weightOfw.f;rw [if_pos hlen]
 obtain ⟨x,hx⟩ : ∃x,weightB l2=x:=⟨_,rfl⟩;rw [hx] at hwt;have HX:=zN hx;have HW:=zN hwt
 have hn:l2.length≤9223372036854775807:=by omega
 clear hres hcall hr2 hwt hx hrs hcol;go_enter Tryd.func60,Tryd.ntmps60;go_wp2
 go_loopg [11] l2.length (fun gg v11 w'=>∃kk:Nat,kk≤l2.length∧l2.length-kk≤gg∧v11=.int .i64 (kk:Int)∧Aside0 (Below w.heap.size w w')∧Aside0 (w'.heap[w.heap.size]?=some (.cells #[.int .u8 a0_0,.int .u8 a0_1,.int .u8 a0_2,.int .u8 a0_3,.int .u8 a0_4,.int .u8 a0_5] 25 (0,0)))∧Aside0 (apartFrom rs [] l2=apartFrom rs (l2.take kk) (l2.drop kk)))
 case atStart=>exact ⟨0,Nat.zero_le _,by omega,rfl,⟨zJ (Below.refl _ _) _⟩,⟨blk_new _ _⟩,⟨rfl⟩⟩
 obtain ⟨kk,hkk,hg,rfl,BW,BR,AF⟩:=hrel
 by_cases hlt:kk<l2.length
 ·have hlti:(kk:Int)<(l2.length:Int):=by omega
  obtain ⟨ad,e1,hx0,hx1,hx2,hx3⟩:=at_T44 (Kd.C_below HR2.out BW.out) (kk:Int) (by omega) hlti;cases e1
  have ey:rd_T44 l2 (kk:Int)=l2[kk]:=by simp [rd_T44,List.getD_eq_getElem?_getD,List.getElem?_eq_getElem hlt]
  rw [ey] at hx0 hx1 hx2 hx3;simp only [Int.toNat_natCast] at hx0 hx1 hx2 hx3;have hcall:=fun W hB h1 g2 h2=>HC.out W g2 kk hlt hB h1 h2;have hsn:=apart_snoc rs l2 kk hlt;obtain ⟨y,hy⟩ : ∃y,l2[kk]=y:=⟨_,rfl⟩;simp only [hy] at hx0 hx1 hx2 hx3 hcall hsn;have HSN:=zN hsn;clear hy ey hsn
  cases hq:((l2.take kk).any fun h=>!metB rs y h) with
  | true=>
   simp only [hq] at hcall;have HQ:=zN hq;have HCALL:=zN hcall;clear hq hcall
   have hrf:r=false:=by rw [← HRES.out,washB,AF.out,HSN.out,HQ.out];rfl
   subst hrf
   go_wp2_with (go_at_call 84;refine (HCALL.out _ (zJ BW.out _) (zG BR.out _) wr.heap.size (blk_new _ _)).mono ?_;rintro e w1 ⟨rfl,hb1⟩)
   go_ret;exact ⟨rfl,zV (zJ BW.out _) hb1⟩
  | false=>
   simp only [hq] at hcall;have HQ:=zN hq;have HCALL:=zN hcall;clear hq hcall
   go_wp2_with (go_at_call 84;refine (HCALL.out _ (zJ BW.out _) (zG BR.out _) wr.heap.size (blk_new _ _)).mono ?_;rintro e w1 ⟨rfl,hb1⟩)
   go_roundg (l2.length-(kk+1))
   case measure=>omega
   case rel=>exact ⟨kk+1,by omega,by omega,by go_num,⟨zV (zJ BW.out _) hb1⟩,⟨zU (zG BR.out _) hb1⟩,⟨by rw [AF.out,HSN.out,HQ.out];rfl⟩⟩
 have hlti:¬(kk:Int)<(l2.length:Int):=by omega
 have hre:r=decide (x≤a1):=by
  rw [← HRES.out,washB,AF.out,HX.out,List.drop_eq_nil_of_le (by omega),apartFrom];rfl
 have HRE:=zN hre;clear hre
 go_wp2_with (go_at_call 68;refine (impl_weightOfw.calls A2 c2 l2 x _ (Kd.C_below HR2.out BW.out) hc2 HW.out).mono ?_;rintro e w1 ⟨rfl,hb1⟩)
 go_ret;exact ⟨by rw [HRE.out];rfl,zV BW.out hb1⟩
def impl_size_int64.f (l0:List Int):Option (Int):=some (l0.length:Int)
set_option maxHeartbeats 8000000 in
set_option maxRecDepth 100000 in
theorem impl_size_int64.calls (A0:Option Addr) (c0:Nat) (l0:List Int) (r:Int) (w:World) (hr0:Kd.C (Kd.int .i64) w A0 l0.length l0) (hc0:l0.length≤c0) (h:impl_size_int64.f l0=some r) :
  Calls Tryd.prog 67 #[.slice A0 l0.length c0] w fun e w'=>e=.returned (.int .i64 r)∧Drawn0 w w':=by
 have HR0:=zN hr0;have HC0:=zN hc0;clear hr0 hc0;have H:(some (l0.length:Int))=some r:=h;clear h;obtain rfl:=Option.some.inj H;go_enter Tryd.func67,Tryd.ntmps67;go_wp2;go_ret;exact ⟨by first|rfl|(simp;done)|(simp [*];done),by repeat (first|exact Drawn0.refl _|apply Drawn0.step)⟩
def tzTab:List Int:=Lib.deBruijn64tab.map fun n:Nat=>(n:Int)
def TabOK (W : World) : Prop := Lib.TabIs Tryd.prog W "math/bits.deBruijn64tab" .u8 tzTab
theorem TabOK.below {W W' : World} (h:TabOK W) (b:Below W.heap.size W W'):TabOK W':=by
 unfold TabOK Lib.TabIs World.var? at h ⊢
 obtain ⟨g,hg,h⟩:=Option.bind_eq_some_iff.mp h
 rw [hg,Option.bind_some]
 cases hc:W.heap[g]? with
 | none=>rw [hc] at h;cases h
 | some o=>
  rw [hc] at h
  rw [b.block g (Array.getElem?_eq_some_iff.1 hc).1,hc]
  exact h
theorem TabOK.cell {W:World} (h:TabOK W) (j:Nat) (hj:j<64):W.cell? ⟨1,j,none⟩=some (.int .u8 ((Lib.deBruijn64tab.getD j 0:Nat):Int)):=by
 unfold TabOK Lib.TabIs World.var? at h
 obtain ⟨g,hg,h⟩:=Option.bind_eq_some_iff.mp h
 obtain rfl : g = 1 := (Option.some.inj ((show Tryd.prog.globalNamed "math/bits.deBruijn64tab" = some 1 by kernel_rfl).symm.trans hg)).symm
 have hl:j<Lib.deBruijn64tab.length:=hj
 cases hc:W.heap[1]? with
 | none=>rw [hc] at h;cases h
 | some o=>
  rw [hc] at h
  cases o with
  | cells cs t q=>
   have hcs:cs=(tzTab.map fun z=>Value.int .u8 z).toArray:=Option.some.inj h
   unfold World.cell?
   simp only [hc,hcs,Option.isSome_none,Bool.false_eq_true,↓reduceIte,tzTab,List.getElem?_toArray,List.getElem?_map,List.getElem?_eq_getElem hl,Option.map_some,List.getD_eq_getElem?_getD,Option.getD_some]
  | _=>cases h
theorem tz_core (x k idx:Nat) (w:World) (hx0:((x:Int) == 0)=false)
  (key:IntKind.u64.wrap (bits BinOp.and IntKind.u64 (x:Int) (IntKind.u64.wrap (-(x:Int)))*285870213051353865) / 288230376151711744=(idx:Int))
  (hi:idx<64) (hk:k<64) (hcell:w.cell? ⟨1,idx,none⟩=some (.int .u8 k)) :
  Calls Tryd.prog 101 #[.int .u64 x] w fun e w'=>e=.returned (.int .i64 k)∧w'=w:=by
 go_enter Tryd.func101,Tryd.ntmps101
 go_wp2_with (simp only [key])
 go_ret
 exact ⟨rfl,rfl⟩
theorem TZ_calls (x:Nat) (hx0:x≠0) (hx:x<18446744073709551616) (w:World) (hT:TabOK w) :
  Calls Tryd.prog 95 #[.int .u64 x] w fun e w'=>e=.returned (.int .i64 (Lib.ctz 64 x:Nat))∧w'=w:=by
 obtain ⟨hlow,hk⟩:=Lib.lowest_bit 64 x hx0 hx
 obtain ⟨hi,htab⟩:=Lib.deBruijn64_at _ hk
 have hcell:=hT.cell _ hi
 rw [htab] at hcell
 have hcall:=tz_core x _ _ w (by simp;omega) (tz64_key x _ hx hx0 hlow) hi hk hcell
 generalize Lib.ctz 64 x=k at *
 have HC:=Aside0.mk hcall
 clear hcall hcell htab hi hlow hx hx0 hT
 go_enter Tryd.func95,Tryd.ntmps95
 go_wp2_with (go_at_call 101;refine HC.out.mono ?_;rintro e w1 ⟨rfl,rfl⟩)
 go_ret
 exact ⟨rfl,rfl⟩
def cmp_isNaN_int64.f (a0:Int):Option (Bool):=some (a0 != a0)
set_option maxHeartbeats 8000000 in
set_option maxRecDepth 100000 in
theorem cmp_isNaN_int64.calls (a0:Int) (r:Bool) (w:World) (h:cmp_isNaN_int64.f a0=some r) :
  Calls Tryd.prog 107 #[.int .i64 a0] w fun e w'=>e=.returned (.bool r)∧Drawn0 w w':=by
 have H:(some (a0 != a0))=some r:=h;clear h;obtain rfl:=Option.some.inj H;go_enter Tryd.func107,Tryd.ntmps107;go_wp2;go_ret;exact ⟨by first|rfl|(simp;done)|(simp [*];done),by repeat (first|exact Drawn0.refl _|apply Drawn0.step)⟩
end Go.Proofs.YthodfhcaaidnmaaDoor.Me
