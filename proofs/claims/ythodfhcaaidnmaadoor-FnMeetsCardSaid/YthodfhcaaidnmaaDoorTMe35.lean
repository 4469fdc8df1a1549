/- Words and walks for the law FnMeets. -/
import Derived.Test.YthodfhcaaidnmaaDoorTMe23
import Derived.Test.YthodfhcaaidnmaaDoorTMe24
import Derived.Test.YthodfhcaaidnmaaDoorTMe30
namespace Go.Proofs.YthodfhcaaidnmaaDoor.Me
open Go.Proofs.YthodfhcaaidnmaaDoor.Zz
open Go.RowKit Go.Proofs.YthodfhcaaidnmaaDoorW.PrintWords Go.Proofs.YthodfhcaaidnmaaDoorW.PrintLast Go.Proofs.YthodfhcaaidnmaaDoorW.PrintMore
attribute [local go_sem] max2_int min2_int max_two min_two max_three min_three max_four min_four   -- for this text's walks alone
set_option linter.unusedVariables false
set_option linter.unusedSimpArgs false
def spec_l01Hold.f (a0:Int):Option (Bool):=(spec_l00In.f a0 1 20000).bind fun t346=>(some t346)
set_option maxHeartbeats 8000000 in
set_option maxRecDepth 100000 in
theorem spec_l01Hold.calls (a0:Int) (r:Bool) (w:World) (h:spec_l01Hold.f a0=some r) :
  Calls Tryd.prog 62 #[.int .i64 a0] w fun e w'=>e=.returned (.bool r)∧Drawn0 w w':=by
 have H:((spec_l00In.f a0 1 20000).bind fun t346=>(some t346))=some r:=h;clear h;replace H:=Option.bind_eq_some_iff.mp H;obtain ⟨t346,A20,H⟩:=H;replace H:(some t346)=some r:=H;have A2:=zN A20;clear A20;obtain rfl:=Option.some.inj H;go_enter Tryd.func62,Tryd.ntmps62
 go_wp2_with (first|((with_reducible refine gate_callee (f:=90) rfl ?_);refine goesL_ (some 4) rfl rfl Tryd.func90 (by kernel_rfl) rfl #[.int .i64 a0,.int .i64 1,.int .i64 20000] rfl (by (try simp only [List.map_toArray,List.map_cons,List.map_nil]);first|done|rfl|(simp only [List.length_drop,List.length_take];rfl)) ?_;(with_reducible refine (spec_l00In.calls a0 1 20000 t346 _ A2.out).mono ?_);rintro e w' ⟨rfl,⟨nd,rfl⟩⟩;refine ⟨_,rfl,?_⟩))
 go_ret;exact ⟨by first|rfl|(simp;done)|(simp [*];done),by repeat (first|exact Drawn0.refl _|apply Drawn0.step)⟩
def spec_l01Weight.l0:Nat→List (S44)→Int→Int→Option (Int)
 | 0,_,_,_=>none
 | k+1,x0,x3,x4=>if x4<(x0.length:Int) then (if 0≤x4 then (spec_l01Weight.l0 k x0 (wrap64 (x3+(wrap64 ((rd_T44 x0 x4).f3)))) (wrap64 (x4+1))) else (none)) else (some x3)
def spec_l01Weight.f (k:Nat) (l0:List (S44)):Option (Int):=spec_l01Weight.l0 k l0 0 0
set_option maxHeartbeats 8000000 in
set_option maxRecDepth 100000 in
theorem spec_l01Weight.calls (k:Nat) (A0:Option Addr) (c0:Nat) (l0:List (S44)) (r:Int) (w:World) (hr0:Kd.C k44 w A0 l0.length l0) (hc0:l0.length≤c0) (h:spec_l01Weight.f k l0=some r) :
  Calls Tryd.prog 65 #[.slice A0 l0.length c0] w fun e w'=>e=.returned (.int .i64 r)∧Drawn0 w w':=by
 have HR0:=zN hr0;have HC0:=zN hc0;clear hr0 hc0;have H:(spec_l01Weight.l0 k l0 0 0)=some r:=h;clear h;have H':=zN H;clear H;go_enter Tryd.func65,Tryd.ntmps65;go_wp2
 go_loopg [3,4] k (fun kq v3 v4 w'=>∃(x3_1:Int) (x4_1:Int),v3=.int .i64 x3_1∧v4=.int .i64 x4_1∧Aside0 (spec_l01Weight.l0 kq l0 x3_1 x4_1=some r)∧Aside0 (kq≤k)∧Drawn0 w w')
 case atStart=>exact ⟨(0),(0),(by first|rfl|(simp;done)|(simp [*];done)),(by first|rfl|(simp;done)|(simp [*];done)),H',⟨Nat.le_refl _⟩,by repeat (first|exact Drawn0.refl _|apply Drawn0.step)⟩
 clear H';obtain ⟨x3_1,x4_1,rfl,rfl,HA,HK1,⟨m1,rfl⟩⟩:=hrel
 cases gk with
 | zero=>exact absurd HA.out (by simp [spec_l01Weight.l0])
 | succ k1=>
  have H:=HA.out;clear HA;simp only [spec_l01Weight.l0] at H
  by_cases c2:x4_1<(l0.length:Int)
  ·rw [if_pos c2] at H;have c2b0:decide (x4_1<(l0.length:Int))=true:=decide_eq_true c2;clear c2
   by_cases c3:0≤x4_1
   rotate_left
   ·rw [if_neg c3] at H;exact absurd H (by simp)
   rw [if_pos c3] at H;have c3b0:decide (0≤x4_1)=true:=decide_eq_true c3;clear c3;have H':=zN H;clear H;have p347:0≤(x4_1:Int):=zS (by first|(with_reducible assumption)|assumption);have q347:x4_1<(l0.length:Int):=zS (by first|(with_reducible assumption)|assumption);obtain ⟨ad347,e347,hx347_0,hx347_1,hx347_2,hx347_3⟩:=at_T44 HR0.out x4_1 p347 q347;cases e347;replace p347:=eq_true p347;replace q347:=eq_true q347;go_wp2;go_roundg k1
   case measure=>have:=HK1.out;omega
   case rel=>exact ⟨(wrap64 (x3_1+(wrap64 ((rd_T44 l0 x4_1).f3)))),(wrap64 (x4_1+1)),(by first|rfl|(simp;done)|(simp [*];done)),(by first|rfl|(simp;done)|(simp [*];done)),H',⟨by have:=HK1.out;omega⟩,by repeat (first|exact Drawn0.refl _|apply Drawn0.step)⟩
  rw [if_neg c2] at H;have c2b0:decide (x4_1<(l0.length:Int))=false:=decide_eq_false c2;clear c2;obtain rfl:=Option.some.inj H;go_wp2;go_ret;exact ⟨by first|rfl|(simp;done)|(simp [*];done),by repeat (first|exact Drawn0.refl _|apply Drawn0.step)⟩
mutual
def spec_l01Load.l0:Nat→Int→List (S44)→Int→Int→Int→Int→Int→Int→Int→Option (Bool)
 | 0,_,_,_,_,_,_,_,_,_=>none
 | k+1,x1,x2,x7,x349000,x349001,x349002,x349003,x349004,x349005=>if x7<(x2.length:Int) then (spec_l01Load.l1 k x1 x2 x7 0 x349000 x349001 x349002 x349003 x349004 x349005) else ((spec_l01Weight.f k x2).bind fun t349=>(some (decide (t349≤x1))))
def spec_l01Load.l1:Nat→Int→List (S44)→Int→Int→Int→Int→Int→Int→Int→Int→Option (Bool)
 | 0,_,_,_,_,_,_,_,_,_,_=>none
 | k+1,x1,x2,x7,x8,x349000,x349001,x349002,x349003,x349004,x349005=>if x8<x7 then (if 0≤x7 then (if x7<(x2.length:Int) then (if 0≤x8 then (if x8<(x2.length:Int) then ((spec_l01Meet.f x349000 x349001 x349002 x349003 x349004 x349005 ((rd_T44 x2 x7).f0) ((rd_T44 x2 x7).f1) ((rd_T44 x2 x7).f2) ((rd_T44 x2 x7).f3) ((rd_T44 x2 x8).f0) ((rd_T44 x2 x8).f1) ((rd_T44 x2 x8).f2) ((rd_T44 x2 x8).f3)).bind fun t352=>(if t352=true then (spec_l01Load.l1 k x1 x2 x7 (wrap64 (x8+1)) x349000 x349001 x349002 x349003 x349004 x349005) else (some false))) else (none)) else (none)) else (none)) else (none)) else (spec_l01Load.l0 k x1 x2 (wrap64 (x7+1)) x349000 x349001 x349002 x349003 x349004 x349005)
end
def spec_l01Load.f (k:Nat) (a0_0:Int) (a0_1:Int) (a0_2:Int) (a0_3:Int) (a0_4:Int) (a0_5:Int) (a1:Int) (l2:List (S44)):Option (Bool):=spec_l01Load.l0 k a1 l2 0 a0_0 a0_1 a0_2 a0_3 a0_4 a0_5
def spec_l01Load.T7:Bool×List (List Nat×List Nat):=(true,[([],[]),([],[]),([],[]),([1,2],[1,2]),([3],[3]),([],[]),([],[]),([5,6],[5,6]),([7],[7]),([0,4,8],[0,4,8]),([9],[9])])
def spec_l01Load.B7:List Nat:=[0,0,0,6,14,0,0,96,224,511,1023]
theorem spec_l01Load.tab7:rtab .any (opsOf Tryd.f63 7)=spec_l01Load.T7:=by kernel_rfl
theorem spec_l01Load.bits7:waitsOk spec_l01Load.T7.2 spec_l01Load.B7=true:=by kernel_rfl
set_option maxHeartbeats 8000000 in
set_option maxRecDepth 100000 in
theorem spec_l01Load.calls (k:Nat) (a0_0:Int) (a0_1:Int) (a0_2:Int) (a0_3:Int) (a0_4:Int) (a0_5:Int) (a1:Int) (A2:Option Addr) (c2:Nat) (l2:List (S44)) (r:Bool) (w:World) (hr2:Kd.C k44 w A2 l2.length l2) (hc2:l2.length≤c2) (h:spec_l01Load.f k a0_0 a0_1 a0_2 a0_3 a0_4 a0_5 a1 l2=some r) :
  Calls Tryd.prog 63 #[.agg #[.int .u8 a0_0,.int .u8 a0_1,.int .u8 a0_2,.int .u8 a0_3,.int .u8 a0_4,.int .u8 a0_5],.int .i64 a1,.slice A2 l2.length c2] w fun e w'=>e=.returned (.bool r)∧Below w.heap.size w w':=by
 have hu25:=Tryd.underlying25;have hu44:=Tryd.underlying44;have HR2:=zN hr2;have HC2:=zN hc2;clear hr2 hc2;have HB:=zN (Below.refl w.heap.size w);have H:(spec_l01Load.l0 k a1 l2 0 a0_0 a0_1 a0_2 a0_3 a0_4 a0_5)=some r:=h;clear h;have H':=zN H;clear H;go_enter Tryd.func63,Tryd.ntmps63
 go_wp2_with (first|((with_reducible refine gate_dst (N:=3) rfl ?_);refine box_event ?hg (N:=3) ?hd (cs:=#[.int .u8 a0_0,.int .u8 a0_1,.int .u8 a0_2,.int .u8 a0_3,.int .u8 a0_4,.int .u8 a0_5]) (t:=25) ?hr ?_;(case hd=>rfl);(case hg=>rfl);(case hr=>first|(go_simp;done)|(go_simp;rfl));intro gb348 hg w4 hbox hb;have BK348:=zN (hbox);have GW348:=zN ((by rw [hg];exact (zT (by repeat (first|(with_reducible first|exact HB.out|apply zJ|apply zK|apply zL)|exact HB.out))):w.heap.size≤gb348));have GE348:=zN ((by rw [hg];exact (zT (by repeat (first|(with_reducible first|exact HB.out|apply zJ|apply zK|apply zL)|exact HB.out))):w.heap.size≤gb348));replace HB:=zN (zV (by repeat (first|(with_reducible first|exact HB.out|apply zJ|apply zK|apply zL)|exact HB.out)) hb);clear hb hbox hg))
 go_loopg [7] k (fun kq v7 w'=>∃(x7_1:Int),v7=.int .i64 x7_1∧Aside0 (spec_l01Load.l0 kq a1 l2 x7_1 a0_0 a0_1 a0_2 a0_3 a0_4 a0_5=some r)∧Aside0 (kq≤k)∧Aside0 (w'.heap[gb348]?=some (.cells #[.int .u8 a0_0,.int .u8 a0_1,.int .u8 a0_2,.int .u8 a0_3,.int .u8 a0_4,.int .u8 a0_5] 25 (0,0)))∧Aside0 (Below w.heap.size w w'))
 case atStart=>exact ⟨(0),(by first|rfl|(simp;done)|(simp [*];done)),H',⟨Nat.le_refl _⟩,⟨by (with_reducible repeat (first|refine zH ?_ _|refine zI ?_|refine zG ?_ _));exact BK348.out⟩,⟨by repeat (first|(with_reducible first|exact HB.out|apply zJ|apply zK|apply zL|refine zM ?_ GE348.out)|exact HB.out)⟩⟩
 clear H';(try clear c2);(try clear p2);obtain ⟨x7_1,rfl,HA,HK1,BK348,HB⟩:=hrel
 cases gk with
 | zero=>exact absurd HA.out (by simp [spec_l01Load.l0])
 | succ k1=>
  have H:=HA.out;clear HA;simp only [spec_l01Load.l0] at H
  by_cases c5:x7_1<(l2.length:Int)
  ·rw [if_pos c5] at H;have c5b0:decide (x7_1<(l2.length:Int))=true:=decide_eq_true c5;clear c5;have H':=zN H;clear H;go_wp2
   go_loopg [8] k1 (fun kq v8 w'=>∃(x8_2:Int),v8=.int .i64 x8_2∧Aside0 (spec_l01Load.l1 kq a1 l2 x7_1 x8_2 a0_0 a0_1 a0_2 a0_3 a0_4 a0_5=some r)∧Aside0 (kq≤k1)∧Aside0 (w'.heap[gb348]?=some (.cells #[.int .u8 a0_0,.int .u8 a0_1,.int .u8 a0_2,.int .u8 a0_3,.int .u8 a0_4,.int .u8 a0_5] 25 (0,0)))∧Aside0 (Below w.heap.size w w'))
   case atStart=>exact ⟨(0),(by first|rfl|(simp;done)|(simp [*];done)),H',⟨Nat.le_refl _⟩,⟨by (with_reducible repeat (first|refine zH ?_ _|refine zI ?_|refine zG ?_ _));exact BK348.out⟩,⟨by repeat (first|(with_reducible first|exact HB.out|apply zJ|apply zK|apply zL|refine zM ?_ GE348.out)|exact HB.out)⟩⟩
   clear H';(try clear c2);(try clear p2);(try clear c5);(try clear c5b0);(try clear p2);obtain ⟨x8_2,rfl,HA,HK2,BK348,HB⟩:=hrel
   cases gk with
   | zero=>exact absurd HA.out (by simp [spec_l01Load.l1])
   | succ k2=>
    have H:=HA.out;clear HA;simp only [spec_l01Load.l1] at H
    by_cases c6:x8_2<x7_1
    ·rw [if_pos c6] at H;have c6b0:decide (x8_2<x7_1)=true:=decide_eq_true c6;clear c6
     by_cases c7:0≤x7_1
     rotate_left
     ·rw [if_neg c7] at H;exact absurd H (by simp)
     rw [if_pos c7] at H;have c7b0:decide (0≤x7_1)=true:=decide_eq_true c7;clear c7
     by_cases c8:x7_1<(l2.length:Int)
     rotate_left
     ·rw [if_neg c8] at H;exact absurd H (by simp)
     rw [if_pos c8] at H;have c8b0:decide (x7_1<(l2.length:Int))=true:=decide_eq_true c8;clear c8
     by_cases c9:0≤x8_2
     rotate_left
     ·rw [if_neg c9] at H;exact absurd H (by simp)
     rw [if_pos c9] at H;have c9b0:decide (0≤x8_2)=true:=decide_eq_true c9;clear c9
     by_cases c10:x8_2<(l2.length:Int)
     rotate_left
     ·rw [if_neg c10] at H;exact absurd H (by simp)
     rw [if_pos c10] at H;have c10b0:decide (x8_2<(l2.length:Int))=true:=decide_eq_true c10;clear c10;replace H:=Option.bind_eq_some_iff.mp H;obtain ⟨t352,A110,H⟩:=H;replace H:(if t352=true then (spec_l01Load.l1 k2 a1 l2 x7_1 (wrap64 (x8_2+1)) a0_0 a0_1 a0_2 a0_3 a0_4 a0_5) else (some false))=some r:=H;have A11:=zN A110;clear A110
     by_cases c12:t352=true
     rotate_left
     focus
      replace c12:=Bool.eq_false_iff.mpr c12;subst c12
      have H1:(some false)=some r:=by rw [if_neg (show ¬(false=true) by decide)] at H;exact H
      clear H;have H:=H1;clear H1;obtain rfl:=Option.some.inj H
     rotate_right
     focus
      subst c12
      have H1:(spec_l01Load.l1 k2 a1 l2 x7_1 (wrap64 (x8_2+1)) a0_0 a0_1 a0_2 a0_3 a0_4 a0_5)=some r:=by rw [if_pos rfl] at H;exact H
      clear H;have H:=H1;clear H1;have H':=zN H;clear H
     all_goals
      try go_wp2
      replace BK348:=zN (zI BK348.out);replace HB:=zN (zL HB.out);have p350:0≤(x7_1:Int):=zS (by first|(with_reducible assumption)|assumption);have q350:x7_1<(l2.length:Int):=zS (by first|(with_reducible assumption)|assumption);obtain ⟨ad350,e350,hx350_0,hx350_1,hx350_2,hx350_3⟩:=at_T44 HR2.out x7_1 p350 q350;have hw350_3:=hx350_3;have hw350_2:=hx350_2;have hw350_1:=hx350_1;have hw350_0:=hx350_0;cases e350;replace hx350_0:=(HB.out.cell (zR w _ hx350_0)).trans hx350_0;replace hx350_1:=(HB.out.cell (zR w _ hx350_1)).trans hx350_1;replace hx350_2:=(HB.out.cell (zR w _ hx350_2)).trans hx350_2;replace hx350_3:=(HB.out.cell (zR w _ hx350_3)).trans hx350_3;replace p350:=eq_true p350;replace q350:=eq_true q350;have p351:0≤(x8_2:Int):=zS (by first|(with_reducible assumption)|assumption);have q351:x8_2<(l2.length:Int):=zS (by first|(with_reducible assumption)|assumption);obtain ⟨ad351,e351,hx351_0,hx351_1,hx351_2,hx351_3⟩:=at_T44 HR2.out x8_2 p351 q351;have hw351_3:=hx351_3;have hw351_2:=hx351_2;have hw351_1:=hx351_1;have hw351_0:=hx351_0;obtain rfl:ad350=ad351:=(by injection e351);replace hx351_0:=(HB.out.cell (zR w _ hx351_0)).trans hx351_0
      replace hx351_1:=(HB.out.cell (zR w _ hx351_1)).trans hx351_1;replace hx351_2:=(HB.out.cell (zR w _ hx351_2)).trans hx351_2;replace hx351_3:=(HB.out.cell (zR w _ hx351_3)).trans hx351_3;replace p351:=eq_true p351;replace q351:=eq_true q351
      refine start_ (n:=11) (S:=fun w'=>w'.cell? ⟨gb348,0,none⟩=some (.int .u8 a0_0)∧w'.cell? ⟨gb348,1,none⟩=some (.int .u8 a0_1)∧w'.cell? ⟨gb348,2,none⟩=some (.int .u8 a0_2)∧w'.cell? ⟨gb348,3,none⟩=some (.int .u8 a0_3)∧w'.cell? ⟨gb348,4,none⟩=some (.int .u8 a0_4)∧w'.cell? ⟨gb348,5,none⟩=some (.int .u8 a0_5)∧w'.cell? (ad350.add ((x7_1).toNat*4))=some (.int .u8 ((rd_T44 l2 x7_1).f0))∧w'.cell? ⟨(ad350.add ((x7_1).toNat*4)).block,(ad350.add ((x7_1).toNat*4)).off+1,none⟩=some (.int .i8 ((rd_T44 l2 x7_1).f1))∧w'.cell? ⟨(ad350.add ((x7_1).toNat*4)).block,(ad350.add ((x7_1).toNat*4)).off+2,none⟩=some (.int .i8 ((rd_T44 l2 x7_1).f2))∧w'.cell? ⟨(ad350.add ((x7_1).toNat*4)).block,(ad350.add ((x7_1).toNat*4)).off+3,none⟩=some (.int .i16 ((rd_T44 l2 x7_1).f3))∧w'.cell? (ad350.add ((x8_2).toNat*4))=some (.int .u8 ((rd_T44 l2 x8_2).f0))∧w'.cell? ⟨(ad350.add ((x8_2).toNat*4)).block,(ad350.add ((x8_2).toNat*4)).off+1,none⟩=some (.int .i8 ((rd_T44 l2 x8_2).f1))∧w'.cell? ⟨(ad350.add ((x8_2).toNat*4)).block,(ad350.add ((x8_2).toNat*4)).off+2,none⟩=some (.int .i8 ((rd_T44 l2 x8_2).f2))∧w'.cell? ⟨(ad350.add ((x8_2).toNat*4)).block,(ad350.add ((x8_2).toNat*4)).off+3,none⟩=some (.int .i16 ((rd_T44 l2 x8_2).f3))) (ds:=[]) #[false,false,false,false,false,false,false,false,false,false,false] (by kernel_rfl) rfl rfl ⟨(blk_cell BK348.out 0).trans rfl,(blk_cell BK348.out 1).trans rfl,(blk_cell BK348.out 2).trans rfl,(blk_cell BK348.out 3).trans rfl,(blk_cell BK348.out 4).trans rfl,(blk_cell BK348.out 5).trans rfl,((HB.out.cell (zR w _ hw350_0)).trans hw350_0),((HB.out.cell (zR w _ hw350_1)).trans hw350_1),((HB.out.cell (zR w _ hw350_2)).trans hw350_2),((HB.out.cell (zR w _ hw350_3)).trans hw350_3),((HB.out.cell (zR w _ hw351_0)).trans hw351_0),((HB.out.cell (zR w _ hw351_1)).trans hw351_1),((HB.out.cell (zR w _ hw351_2)).trans hw351_2),((HB.out.cell (zR w _ hw351_3)).trans hw351_3)⟩ (fun hHeld=>?_);refine with_tabW spec_l01Load.tab7 spec_l01Load.bits7 (fun HT_ HW_=>?_)
      generalize wr.drew=w13 at BK348 HB hx350_0 hx350_1 hx350_2 hx350_3 hx351_0 hx351_1 hx351_2 hx351_3 hHeld ⊢;refine pure_ (i:=1) (N:=some 21) (v:=?_) (a':=?_) #[false,true,false,false,false,false,false,false,false,false,false] rfl rfl (any_of HT_.out (by kernel_rfl)) (fun _ _ _ h=>h) (Or.inl ⟨by rfl,?_⟩) ?_ ?_;rotate_left
      ·intro w';go_simp;(with_reducible rfl)
      rotate_left
      ·simp only [Act.put,zO,zP,zQ,i64_w,i32_w];rfl
      refine pure_ (i:=2) (N:=some 22) (v:=?_) (a':=?_) #[false,true,true,false,false,false,false,false,false,false,false] rfl rfl (any_of HT_.out (by kernel_rfl)) (fun _ _ _ h=>h) (Or.inl ⟨by rfl,?_⟩) ?_ ?_;rotate_left
      ·intro w';go_simp;(with_reducible rfl)
      rotate_left
      ·simp only [Act.put,zO,zP,zQ,i64_w,i32_w];rfl
      refine pure_ (i:=3) (N:=some 23) (v:=?_) (a':=?_) #[false,true,true,true,false,false,false,false,false,false,false] rfl rfl (any_of HT_.out (by kernel_rfl)) (fun _ _ _ h=>h) (Or.inl ⟨by rfl,?_⟩) ?_ ?_;rotate_left
      ·intro w';go_simp;(with_reducible rfl)
      rotate_left
      ·simp only [Act.put,zO,zP,zQ,i64_w,i32_w];rfl
      refine pure_ (i:=5) (N:=some 25) (v:=?_) (a':=?_) #[false,true,true,true,false,true,false,false,false,false,false] rfl rfl (any_of HT_.out (by kernel_rfl)) (fun _ _ _ h=>h) (Or.inl ⟨by rfl,?_⟩) ?_ ?_;rotate_left
      ·intro w';go_simp;(with_reducible rfl)
      rotate_left
      ·simp only [Act.put,zO,zP,zQ,i64_w,i32_w];rfl
      refine pure_ (i:=6) (N:=some 26) (v:=?_) (a':=?_) #[false,true,true,true,false,true,true,false,false,false,false] rfl rfl (any_of HT_.out (by kernel_rfl)) (fun _ _ _ h=>h) (Or.inl ⟨by rfl,?_⟩) ?_ ?_;rotate_left
      ·intro w';go_simp;(with_reducible rfl)
      rotate_left
      ·simp only [Act.put,zO,zP,zQ,i64_w,i32_w];rfl
      refine pure_ (i:=7) (N:=some 27) (v:=?_) (a':=?_) #[false,true,true,true,false,true,true,true,false,false,false] rfl rfl (any_of HT_.out (by kernel_rfl)) (fun _ _ _ h=>h) (Or.inl ⟨by rfl,?_⟩) ?_ ?_;rotate_left
      ·intro w';go_simp;(with_reducible rfl)
      rotate_left
      ·simp only [Act.put,zO,zP,zQ,i64_w,i32_w];rfl
      refine take_ (i:=0) (N:=some 20) (v:=?_) (a':=?_) #[true,true,true,true,false,true,true,true,false,false,false] rfl rfl (take_ofW HT_.out HW_.out (by kernel_rfl)) (fun _ _ _ h=>h) (Or.inl ⟨by rfl,?_⟩) hHeld ?_ ?_;rotate_left
      ·rintro w' ⟨s0,s1,s2,s3,s4,s5,s6,s7,s8,s9,s10,s11,s12,s13⟩;go_simp;(with_reducible rfl)
      rotate_left
      ·simp only [Act.put,zO,zP,zQ,i64_w,i32_w];rfl
      refine take_ (i:=4) (N:=some 24) (v:=?_) (a':=?_) #[true,true,true,true,true,true,true,true,false,false,false] rfl rfl (take_ofW HT_.out HW_.out (by kernel_rfl)) (fun _ _ _ h=>h) (Or.inl ⟨by rfl,?_⟩) hHeld ?_ ?_;rotate_left
      ·rintro w' ⟨s0,s1,s2,s3,s4,s5,s6,s7,s8,s9,s10,s11,s12,s13⟩;go_simp;(with_reducible rfl)
      rotate_left
      ·simp only [Act.put,zO,zP,zQ,i64_w,i32_w];rfl
      refine take_ (i:=8) (N:=some 28) (v:=?_) (a':=?_) #[true,true,true,true,true,true,true,true,true,false,false] rfl rfl (take_ofW HT_.out HW_.out (by kernel_rfl)) (fun _ _ _ h=>h) (Or.inl ⟨by rfl,?_⟩) hHeld ?_ ?_;rotate_left
      ·rintro w' ⟨s0,s1,s2,s3,s4,s5,s6,s7,s8,s9,s10,s11,s12,s13⟩;go_simp;(with_reducible rfl)
      rotate_left;simp only [Act.put,zO,zP,zQ,i64_w,i32_w];rfl
     rotate_left
     focus
      refine one_ (i:=9) (N:=some 29) #[true,true,true,true,true,true,true,true,true,true,false] rfl rfl (one_of HT_.out (by kernel_rfl)) (by decide) (fun K hK=>?_);refine goes_ Tryd.func86 (by kernel_rfl) rfl #[.agg #[.int .u8 a0_0,.int .u8 a0_1,.int .u8 a0_2,.int .u8 a0_3,.int .u8 a0_4,.int .u8 a0_5],.agg #[.int .u8 ((rd_T44 l2 x7_1).f0),.int .i8 ((rd_T44 l2 x7_1).f1),.int .i8 ((rd_T44 l2 x7_1).f2),.int .i16 ((rd_T44 l2 x7_1).f3)],.agg #[.int .u8 ((rd_T44 l2 x8_2).f0),.int .i8 ((rd_T44 l2 x8_2).f1),.int .i8 ((rd_T44 l2 x8_2).f2),.int .i16 ((rd_T44 l2 x8_2).f3)]] (by rfl) rfl rfl (by (try simp only [List.map_toArray,List.map_cons,List.map_nil]);first|done|rfl|(simp only [List.length_drop,List.length_take];rfl)) ?_;(with_reducible refine (spec_l01Meet.calls a0_0 a0_1 a0_2 a0_3 a0_4 a0_5 ((rd_T44 l2 x7_1).f0) ((rd_T44 l2 x7_1).f1) ((rd_T44 l2 x7_1).f2) ((rd_T44 l2 x7_1).f3) ((rd_T44 l2 x8_2).f0) ((rd_T44 l2 x8_2).f1) ((rd_T44 l2 x8_2).f2) ((rd_T44 l2 x8_2).f3) false _ A11.out).mono ?_);rintro e w16 ⟨rfl,hb⟩;refine ⟨_,rfl,?_⟩;have n0_:=zN (zU (g:=gb348) (o:=.cells #[.int .u8 a0_0,.int .u8 a0_1,.int .u8 a0_2,.int .u8 a0_3,.int .u8 a0_4,.int .u8 a0_5] 25 (0,0)) (by (with_reducible repeat (first|refine zH ?_ _|refine zI ?_|refine zG ?_ _));exact BK348.out) hb)
     rotate_right
     focus
      refine one_ (i:=9) (N:=some 29) #[true,true,true,true,true,true,true,true,true,true,false] rfl rfl (one_of HT_.out (by kernel_rfl)) (by decide) (fun K hK=>?_);refine goes_ Tryd.func86 (by kernel_rfl) rfl #[.agg #[.int .u8 a0_0,.int .u8 a0_1,.int .u8 a0_2,.int .u8 a0_3,.int .u8 a0_4,.int .u8 a0_5],.agg #[.int .u8 ((rd_T44 l2 x7_1).f0),.int .i8 ((rd_T44 l2 x7_1).f1),.int .i8 ((rd_T44 l2 x7_1).f2),.int .i16 ((rd_T44 l2 x7_1).f3)],.agg #[.int .u8 ((rd_T44 l2 x8_2).f0),.int .i8 ((rd_T44 l2 x8_2).f1),.int .i8 ((rd_T44 l2 x8_2).f2),.int .i16 ((rd_T44 l2 x8_2).f3)]] (by rfl) rfl rfl (by (try simp only [List.map_toArray,List.map_cons,List.map_nil]);first|done|rfl|(simp only [List.length_drop,List.length_take];rfl)) ?_;(with_reducible refine (spec_l01Meet.calls a0_0 a0_1 a0_2 a0_3 a0_4 a0_5 ((rd_T44 l2 x7_1).f0) ((rd_T44 l2 x7_1).f1) ((rd_T44 l2 x7_1).f2) ((rd_T44 l2 x7_1).f3) ((rd_T44 l2 x8_2).f0) ((rd_T44 l2 x8_2).f1) ((rd_T44 l2 x8_2).f2) ((rd_T44 l2 x8_2).f3) true _ A11.out).mono ?_);rintro e w14 ⟨rfl,hb⟩;refine ⟨_,rfl,?_⟩;have n0_:=zN (zU (g:=gb348) (o:=.cells #[.int .u8 a0_0,.int .u8 a0_1,.int .u8 a0_2,.int .u8 a0_3,.int .u8 a0_4,.int .u8 a0_5] 25 (0,0)) (by (with_reducible repeat (first|refine zH ?_ _|refine zI ?_|refine zG ?_ _));exact BK348.out) hb)
     all_goals
      have n1_:=zN (zV (by repeat (first|(with_reducible first|exact HB.out|apply zJ|apply zK|apply zL|refine zM ?_ GE348.out)|exact HB.out)) hb);clear BK348 HB;have BK348:=n0_;have HB:=n1_;clear n0_ n1_;(try clear hb);(try clear hb2);(try clear hk);(try clear hi);refine hK.out _ _ ⟨(blk_cell BK348.out 0).trans rfl,(blk_cell BK348.out 1).trans rfl,(blk_cell BK348.out 2).trans rfl,(blk_cell BK348.out 3).trans rfl,(blk_cell BK348.out 4).trans rfl,(blk_cell BK348.out 5).trans rfl,((HB.out.cell (zR w _ hw350_0)).trans hw350_0),((HB.out.cell (zR w _ hw350_1)).trans hw350_1),((HB.out.cell (zR w _ hw350_2)).trans hw350_2),((HB.out.cell (zR w _ hw350_3)).trans hw350_3),((HB.out.cell (zR w _ hw351_0)).trans hw351_0),((HB.out.cell (zR w _ hw351_1)).trans hw351_1),((HB.out.cell (zR w _ hw351_2)).trans hw351_2),((HB.out.cell (zR w _ hw351_3)).trans hw351_3)⟩ (fun hHeld=>?_);clear hK K;refine norm_ (a':=?_) ?_ ?_;rotate_left
      ·show Act.put _ (some 29) _=_;simp only [Act.put,zO,zP,zQ,i64_w,i32_w];rfl
      refine pure_ (i:=10) (N:=some 30) (v:=?_) (a':=?_) #[true,true,true,true,true,true,true,true,true,true,true] rfl rfl (any_of HT_.out (by kernel_rfl)) (fun _ _ _ h=>h) (Or.inl ⟨by rfl,?_⟩) ?_ ?_;rotate_left
      ·intro w';go_simp;(with_reducible rfl)
      rotate_left
      ·simp only [Act.put,zO,zP,zQ,i64_w,i32_w];rfl
      refine done_ (done_of HT_.out (by kernel_rfl)) ?_
      try go_wp2
     ·go_roundg k2
      case measure=>have:=HK1.out;have:=HK2.out;omega
      case rel=>exact ⟨(wrap64 (x8_2+1)),(by first|rfl|(simp;done)|(simp [*];done)),H',⟨by have:=HK1.out;have:=HK2.out;omega⟩,⟨by (with_reducible repeat (first|refine zH ?_ _|refine zI ?_|refine zG ?_ _));exact BK348.out⟩,⟨by repeat (first|(with_reducible first|exact HB.out|apply zJ|apply zK|apply zL|refine zM ?_ GE348.out)|exact HB.out)⟩⟩
     go_ret;exact ⟨by first|rfl|(simp [errW_none,errW_some]<;>rfl)|(simp [*,errW_none,errW_some]<;>rfl),by repeat (first|(with_reducible first|exact HB.out|apply zJ|apply zK|apply zL|refine zM ?_ GE348.out)|exact HB.out)⟩
    rw [if_neg c6] at H;have c6b0:decide (x8_2<x7_1)=false:=decide_eq_false c6;clear c6;have H':=zN H;clear H;go_wp2;go_roundg k2
    case measure=>have:=HK1.out;have:=HK2.out;omega
    case rel=>exact ⟨(wrap64 (x7_1+1)),(by first|rfl|(simp;done)|(simp [*];done)),H',⟨by have:=HK1.out;have:=HK2.out;omega⟩,⟨by (with_reducible repeat (first|refine zH ?_ _|refine zI ?_|refine zG ?_ _));exact BK348.out⟩,⟨by repeat (first|(with_reducible first|exact HB.out|apply zJ|apply zK|apply zL|refine zM ?_ GE348.out)|exact HB.out)⟩⟩
  rw [if_neg c5] at H;have c5b0:decide (x7_1<(l2.length:Int))=false:=decide_eq_false c5;clear c5;replace H:=Option.bind_eq_some_iff.mp H;obtain ⟨t349,A170,H⟩:=H;replace H:(some (decide (t349≤a1)))=some r:=H;have A17:=zN A170;clear A170;obtain rfl:=Option.some.inj H
  go_wp2_with (first|((with_reducible refine gate_callee (f:=65) rfl ?_);refine goesL_ (some 32) rfl rfl Tryd.func65 (by kernel_rfl) rfl #[.slice A2 l2.length c2] rfl (by (try simp only [List.map_toArray,List.map_cons,List.map_nil]);first|done|rfl|(simp only [List.length_drop,List.length_take];rfl)) ?_;(with_reducible refine (spec_l01Weight.calls k1 _ _ l2 t349 _ ?side1 ?side2 A17.out).mono ?_);(case side1=>repeat (first|exact (Kd.C_below HR2.out HB.out)|(with_reducible refine Kd.C_alloc ?_ _)|(with_reducible refine Kd.C_drewN ?_ _)|(with_reducible refine Kd.C_drew ?_)));(case side2=>exact HC2.out);rintro e w' ⟨rfl,⟨nd,rfl⟩⟩;refine ⟨_,rfl,?_⟩))
  go_ret;exact ⟨by first|rfl|(simp [errW_none,errW_some]<;>rfl)|(simp [*,errW_none,errW_some]<;>rfl),by repeat (first|(with_reducible first|exact HB.out|apply zJ|apply zK|apply zL|refine zM ?_ GE348.out)|exact HB.out)⟩
end Go.Proofs.YthodfhcaaidnmaaDoor.Me
