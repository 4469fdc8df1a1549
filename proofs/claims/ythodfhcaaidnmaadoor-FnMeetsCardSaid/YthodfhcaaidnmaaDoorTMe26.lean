/- Words and walks for the law FnMeets. -/
import Derived.Test.YthodfhcaaidnmaaDoorTMe23
import Derived.Test.YthodfhcaaidnmaaDoorTMe24
import Derived.Test.YthodfhcaaidnmaaDoorTMe25
namespace Go.Proofs.YthodfhcaaidnmaaDoor.Me
open Go.Proofs.YthodfhcaaidnmaaDoor.Zz
open Go.RowKit Go.Proofs.YthodfhcaaidnmaaDoorW.PrintWords Go.Proofs.YthodfhcaaidnmaaDoorW.PrintLast Go.Proofs.YthodfhcaaidnmaaDoorW.PrintMore
attribute [local go_sem] max2_int min2_int max_two min_two max_three min_three max_four min_four   -- for this text's walks alone
set_option linter.unusedVariables false
set_option linter.unusedSimpArgs false
mutual
def impl_ValidRules.l0:Nat→Int→Int→Int→Int→Int→Int→Int→Option (Bool)
 | 0,_,_,_,_,_,_,_=>none
 | k+1,x5,x160000,x160001,x160002,x160003,x160004,x160005=>if x5<6 then (if 0≤x5 then (if ((rd [x160000,x160001,x160002,x160003,x160004,x160005] x5) / 64)=0 then ((impl_Rules_may.f x160000 x160001 x160002 x160003 x160004 x160005 x5 x5).bind fun t161=>(impl_ValidRules.j1 k x5 x5 (!t161) x160000 x160001 x160002 x160003 x160004 x160005)) else (impl_ValidRules.j1 k x5 x5 true x160000 x160001 x160002 x160003 x160004 x160005)) else (none)) else (some true)
def impl_ValidRules.j1:Nat→Int→Int→Bool→Int→Int→Int→Int→Int→Int→Option (Bool)
 | 0,_,_,_,_,_,_,_,_,_=>none
 | k+1,x3,x5,x19,x160000,x160001,x160002,x160003,x160004,x160005=>if x19=true then (some false) else (impl_ValidRules.l1 k x3 x5 x3 0 x160000 x160001 x160002 x160003 x160004 x160005)
def impl_ValidRules.l1:Nat→Int→Int→Int→Int→Int→Int→Int→Int→Int→Int→Option (Bool)
 | 0,_,_,_,_,_,_,_,_,_,_=>none
 | k+1,x3,x5,x20,x21,x160000,x160001,x160002,x160003,x160004,x160005=>if x21<x20 then ((impl_Rules_may.f x160000 x160001 x160002 x160003 x160004 x160005 x3 x21).bind fun t162=>((impl_Rules_may.f x160000 x160001 x160002 x160003 x160004 x160005 x21 x3).bind fun t163=>(if (t162 != t163)=true then (some false) else (impl_ValidRules.l1 k x3 x5 x20 ((x21+1) % 256) x160000 x160001 x160002 x160003 x160004 x160005)))) else (impl_ValidRules.l0 k ((x5+1) % 256) x160000 x160001 x160002 x160003 x160004 x160005)
end
def impl_ValidRules.f (k:Nat) (a0_0:Int) (a0_1:Int) (a0_2:Int) (a0_3:Int) (a0_4:Int) (a0_5:Int):Option (Bool):=impl_ValidRules.l0 k 0 a0_0 a0_1 a0_2 a0_3 a0_4 a0_5
def impl_ValidRules.T9:Bool×List (List Nat×List Nat):=(true,[([],[]),([],[]),([],[]),([0,1,2],[0,1,2]),([],[]),([],[]),([],[]),([4,5,6,3],[4,5,6]),([3,7],[3,7])])
def impl_ValidRules.B9:List Nat:=[0,0,0,7,0,0,0,127,255]
theorem impl_ValidRules.tab9:rtab .any (opsOf Tryd.f16 9)=impl_ValidRules.T9:=by kernel_rfl
theorem impl_ValidRules.bits9:waitsOk impl_ValidRules.T9.2 impl_ValidRules.B9=true:=by kernel_rfl
set_option maxHeartbeats 8000000 in
set_option maxRecDepth 100000 in
theorem impl_ValidRules.calls (k:Nat) (a0_0:Int) (a0_1:Int) (a0_2:Int) (a0_3:Int) (a0_4:Int) (a0_5:Int) (r:Bool) (w:World) (h:impl_ValidRules.f k a0_0 a0_1 a0_2 a0_3 a0_4 a0_5=some r) :
  Calls Tryd.prog 16 #[.agg #[.int .u8 a0_0,.int .u8 a0_1,.int .u8 a0_2,.int .u8 a0_3,.int .u8 a0_4,.int .u8 a0_5]] w fun e w'=>e=.returned (.bool r)∧Below w.heap.size w w':=by
 have hu25:=Tryd.underlying25;have HB:=zN (Below.refl w.heap.size w);have H:(impl_ValidRules.l0 k 0 a0_0 a0_1 a0_2 a0_3 a0_4 a0_5)=some r:=h;clear h;have H':=zN H;clear H;go_enter Tryd.func16,Tryd.ntmps16
 go_wp2_with (first|((with_reducible refine gate_dst (N:=1) rfl ?_);refine box_event ?hg (N:=1) ?hd (cs:=#[.int .u8 a0_0,.int .u8 a0_1,.int .u8 a0_2,.int .u8 a0_3,.int .u8 a0_4,.int .u8 a0_5]) (t:=25) ?hr ?_;(case hd=>rfl);(case hg=>rfl);(case hr=>first|(go_simp;done)|(go_simp;rfl));intro gb159 hg w2 hbox hb;have BK159:=zN (hbox);have GW159:=zN ((by rw [hg];exact (zT (by repeat (first|(with_reducible first|exact HB.out|apply zJ|apply zK|apply zL)|exact HB.out))):w.heap.size≤gb159));have GE159:=zN ((by rw [hg];exact (zT (by repeat (first|(with_reducible first|exact HB.out|apply zJ|apply zK|apply zL)|exact HB.out))):w.heap.size≤gb159));replace HB:=zN (zV (by repeat (first|(with_reducible first|exact HB.out|apply zJ|apply zK|apply zL)|exact HB.out)) hb);clear hb hbox hg))
 go_loopg [5] k (fun kq v5 w'=>∃(x5_1:Int),v5=.int .u8 x5_1∧Aside0 (impl_ValidRules.l0 kq x5_1 a0_0 a0_1 a0_2 a0_3 a0_4 a0_5=some r)∧Aside0 (kq≤k)∧Aside0 (w'.heap[gb159]?=some (.cells #[.int .u8 a0_0,.int .u8 a0_1,.int .u8 a0_2,.int .u8 a0_3,.int .u8 a0_4,.int .u8 a0_5] 25 (0,0)))∧Aside0 (Below w.heap.size w w'))
 case atStart=>exact ⟨(0),(by first|rfl|(simp;done)|(simp [*];done)),H',⟨Nat.le_refl _⟩,⟨by (with_reducible repeat (first|refine zH ?_ _|refine zI ?_|refine zG ?_ _));exact BK159.out⟩,⟨by repeat (first|(with_reducible first|exact HB.out|apply zJ|apply zK|apply zL|refine zM ?_ GE159.out)|exact HB.out)⟩⟩
 clear H';(try clear c1);(try clear p2);obtain ⟨x5_1,rfl,HA,HK1,BK159,HB⟩:=hrel
 cases gk with
 | zero=>exact absurd HA.out (by simp [impl_ValidRules.l0])
 | succ k1=>
  have H:=HA.out;clear HA;simp only [impl_ValidRules.l0] at H
  by_cases c3:x5_1<6
  ·rw [if_pos c3] at H;have c3b0:decide (x5_1<6)=true:=decide_eq_true c3;clear c3;have HC4:=zN H;clear H
   go_upto_region 4 with (fail)
   go_cut [19] (fun v19 wc=>∃(kq:Nat) (x19_3:Bool),v19=.bool x19_3∧Aside0 (impl_ValidRules.j1 kq x5_1 x5_1 x19_3 a0_0 a0_1 a0_2 a0_3 a0_4 a0_5=some r)∧Aside0 (kq≤k1)∧Aside0 (wc.heap[gb159]?=some (.cells #[.int .u8 a0_0,.int .u8 a0_1,.int .u8 a0_2,.int .u8 a0_3,.int .u8 a0_4,.int .u8 a0_5] 25 (0,0)))∧Aside0 (Below w.heap.size w wc))
   case first=>
    have H:=HC4.out;clear HC4
    by_cases c5:0≤x5_1
    rotate_left
    ·rw [if_neg c5] at H;exact absurd H (by simp)
    rw [if_pos c5] at H;have c5b0:decide (0≤x5_1)=true:=decide_eq_true c5;clear c5;(first|rw [c5b0]|(simp only [i64_w,i32_w];rw [c5b0])|skip)
    by_cases c6:((rd [a0_0,a0_1,a0_2,a0_3,a0_4,a0_5] x5_1) / 64)=0
    rotate_left
    focus
     rw [if_neg c6] at H;have c6b0:(((rd [a0_0,a0_1,a0_2,a0_3,a0_4,a0_5] x5_1) / 64) == 0)=false:=beq_eq_false_iff_ne.mpr c6;have c6b1:(((rd [a0_0,a0_1,a0_2,a0_3,a0_4,a0_5] x5_1) / 64) != 0)=true:=bne_iff_ne.mpr c6
    rotate_right
    focus
     rw [if_pos c6] at H;have c6b0:(((rd [a0_0,a0_1,a0_2,a0_3,a0_4,a0_5] x5_1) / 64) == 0)=true:=beq_iff_eq.mpr c6;have c6b1:(((rd [a0_0,a0_1,a0_2,a0_3,a0_4,a0_5] x5_1) / 64) != 0)=false:=bne_eq_false_iff_eq.mpr c6;clear c6;replace H:=Option.bind_eq_some_iff.mp H;obtain ⟨t161,A70,H⟩:=H;replace H:(impl_ValidRules.j1 k1 x5_1 x5_1 (!t161) a0_0 a0_1 a0_2 a0_3 a0_4 a0_5)=some r:=H;have A7:=zN A70;clear A70
    all_goals
     have H':=zN H;clear H;have p160:0≤(x5_1:Int):=zS (by first|(with_reducible assumption)|assumption);have q160:(x5_1:Int)<6:=zS (by first|(with_reducible assumption)|assumption);have hx160:=Go.Proofs.YthodfhcaaidnmaaDoor.Own.arr_cell (k:=.u8) (xs:=[a0_0,a0_1,a0_2,a0_3,a0_4,a0_5]) (show _ from BK159.out) x5_1 p160 q160;replace p160:=eq_true p160;replace q160:=eq_true q160
    ·have hcz8_0:wr.cell? ⟨gb159,0,none⟩=some (.int .u8 a0_0):=(blk_cell BK159.out 0).trans rfl;have hcz8_1:wr.cell? ⟨gb159,1,none⟩=some (.int .u8 a0_1):=(blk_cell BK159.out 1).trans rfl;have hcz8_2:wr.cell? ⟨gb159,2,none⟩=some (.int .u8 a0_2):=(blk_cell BK159.out 2).trans rfl;have hcz8_3:wr.cell? ⟨gb159,3,none⟩=some (.int .u8 a0_3):=(blk_cell BK159.out 3).trans rfl;have hcz8_4:wr.cell? ⟨gb159,4,none⟩=some (.int .u8 a0_4):=(blk_cell BK159.out 4).trans rfl;have hcz8_5:wr.cell? ⟨gb159,5,none⟩=some (.int .u8 a0_5):=(blk_cell BK159.out 5).trans rfl;have hfz8_0:=blk_frozen BK159.out 0;have hfz8_1:=blk_frozen BK159.out 1;have hfz8_2:=blk_frozen BK159.out 2;have hfz8_3:=blk_frozen BK159.out 3;have hfz8_4:=blk_frozen BK159.out 4;have hfz8_5:=blk_frozen BK159.out 5
     go_wp2_with (first|(go_at_call 50;(with_reducible refine (impl_Rules_may.calls a0_0 a0_1 a0_2 a0_3 a0_4 a0_5 x5_1 x5_1 t161 _ A7.out).mono ?_);rintro e w9 ⟨rfl,hb⟩;replace BK159:=zN (zU (g:=gb159) (o:=.cells #[.int .u8 a0_0,.int .u8 a0_1,.int .u8 a0_2,.int .u8 a0_3,.int .u8 a0_4,.int .u8 a0_5] 25 (0,0)) (by (with_reducible repeat (first|refine zH ?_ _|refine zI ?_|refine zG ?_ _));exact BK159.out) hb);replace HB:=zN (zV (by repeat (first|(with_reducible first|exact HB.out|apply zJ|apply zK|apply zL|refine zM ?_ GE159.out)|exact HB.out)) hb);(try clear hb);(try clear hb2);(try clear hk);(try clear hi)))
     go_meet
     case rel=>exact ⟨_,(!t161),(by first|rfl|(simp;done)|(simp [*];done)),H',⟨by have:=HK1.out;first|omega|exact Nat.le_refl _⟩,⟨by (with_reducible repeat (first|refine zH ?_ _|refine zI ?_|refine zG ?_ _));exact BK159.out⟩,⟨by repeat (first|(with_reducible first|exact HB.out|apply zJ|apply zK|apply zL|refine zM ?_ GE159.out)|exact HB.out)⟩⟩
    go_wp2;go_meet
    case rel=>exact ⟨_,(true),(by first|rfl|(simp;done)|(simp [*];done)),H',⟨by have:=HK1.out;first|omega|exact Nat.le_refl _⟩,⟨by (with_reducible repeat (first|refine zH ?_ _|refine zI ?_|refine zG ?_ _));exact BK159.out⟩,⟨by repeat (first|(with_reducible first|exact HB.out|apply zJ|apply zK|apply zL|refine zM ?_ GE159.out)|exact HB.out)⟩⟩
   clear HC4;(try clear c1);(try clear p1);(try clear q1);(try clear hx1);(try clear p2);(try clear c3);(try clear c3b0);(try clear c5);(try clear c5b0);(try clear c6);(try clear c6b0);(try clear c6b1);(try clear hcz8_0);(try clear hcz8_1);(try clear hcz8_2);(try clear hcz8_3);(try clear hcz8_4);(try clear hcz8_5);(try clear hfz8_0);(try clear hfz8_1);(try clear hfz8_2);(try clear hfz8_3);(try clear hfz8_4);(try clear hfz8_5);(try clear p160);(try clear p2);(try clear q160);obtain ⟨kq,x19_3,rfl,HA,HJ3,BK159,HB⟩:=hcut
   cases kq with
   | zero=>exact absurd HA.out (by simp [impl_ValidRules.j1])
   | succ kj3=>
    have H:=HA.out;clear HA;simp only [impl_ValidRules.j1] at H
    by_cases c10:x19_3=true
    ·subst c10
     have H1:(some false)=some r:=by rw [if_pos rfl] at H;exact H
     clear H;have H:=H1;clear H1;obtain rfl:=Option.some.inj H;go_wp2;go_ret;exact ⟨by first|rfl|(simp [errW_none,errW_some]<;>rfl)|(simp [*,errW_none,errW_some]<;>rfl),by repeat (first|(with_reducible first|exact HB.out|apply zJ|apply zK|apply zL|refine zM ?_ GE159.out)|exact HB.out)⟩
    replace c10:=Bool.eq_false_iff.mpr c10;subst c10
    have H1:(impl_ValidRules.l1 kj3 x5_1 x5_1 x5_1 0 a0_0 a0_1 a0_2 a0_3 a0_4 a0_5)=some r:=by rw [if_neg (show ¬(false=true) by decide)] at H;exact H
    clear H;have H:=H1;clear H1;have H':=zN H;clear H;go_wp2
    go_loopg [21] kj3 (fun kq v21 w'=>∃(x21_3:Int),v21=.int .u8 x21_3∧Aside0 (impl_ValidRules.l1 kq x5_1 x5_1 x5_1 x21_3 a0_0 a0_1 a0_2 a0_3 a0_4 a0_5=some r)∧Aside0 (kq≤kj3)∧Aside0 (w'.heap[gb159]?=some (.cells #[.int .u8 a0_0,.int .u8 a0_1,.int .u8 a0_2,.int .u8 a0_3,.int .u8 a0_4,.int .u8 a0_5] 25 (0,0)))∧Aside0 (Below w.heap.size w w'))
    case atStart=>exact ⟨(0),(by first|rfl|(simp;done)|(simp [*];done)),H',⟨Nat.le_refl _⟩,⟨by (with_reducible repeat (first|refine zH ?_ _|refine zI ?_|refine zG ?_ _));exact BK159.out⟩,⟨by repeat (first|(with_reducible first|exact HB.out|apply zJ|apply zK|apply zL|refine zM ?_ GE159.out)|exact HB.out)⟩⟩
    clear H';(try clear c1);(try clear p1);(try clear q1);(try clear hx1);(try clear p2);(try clear c3);(try clear c3b0);(try clear c5);(try clear c5b0);(try clear c6);(try clear c6b0);(try clear c6b1);(try clear c10);(try clear hcz8_0);(try clear hcz8_1);(try clear hcz8_2);(try clear hcz8_3);(try clear hcz8_4);(try clear hcz8_5);(try clear hfz8_0);(try clear hfz8_1);(try clear hfz8_2);(try clear hfz8_3);(try clear hfz8_4);(try clear hfz8_5);(try clear p1);(try clear p160);(try clear p2);(try clear q1);(try clear q160);obtain ⟨x21_3,rfl,HA,HK3,BK159,HB⟩:=hrel
    cases gk with
    | zero=>exact absurd HA.out (by simp [impl_ValidRules.l1])
    | succ k3=>
     have H:=HA.out;clear HA;simp only [impl_ValidRules.l1] at H
     by_cases c11:x21_3<x5_1
     ·rw [if_pos c11] at H;have c11b0:decide (x21_3<x5_1)=true:=decide_eq_true c11;clear c11;replace H:=Option.bind_eq_some_iff.mp H;obtain ⟨t162,A120,H⟩:=H;replace H:((impl_Rules_may.f a0_0 a0_1 a0_2 a0_3 a0_4 a0_5 x21_3 x5_1).bind fun t163=>(if (t162 != t163)=true then (some false) else (impl_ValidRules.l1 k3 x5_1 x5_1 x5_1 ((x21_3+1) % 256) a0_0 a0_1 a0_2 a0_3 a0_4 a0_5)))=some r:=H;have A12:=zN A120;clear A120;replace H:=Option.bind_eq_some_iff.mp H;obtain ⟨t163,A130,H⟩:=H;replace H:(if (t162 != t163)=true then (some false) else (impl_ValidRules.l1 k3 x5_1 x5_1 x5_1 ((x21_3+1) % 256) a0_0 a0_1 a0_2 a0_3 a0_4 a0_5))=some r:=H;have A13:=zN A130;clear A130
      by_cases c14:(t162 != t163)=true
      rotate_left
      focus
       rw [if_neg c14] at H
       have c14b0:(t162 != t163)=false:=by simpa using c14
       (try (have c14b1:decide (t162=t163)=true:=by simpa using c14));(try (have c14b2:(t162 == t163)=true:=by simpa using c14));clear c14;have H':=zN H;clear H
      rotate_right
      focus
       rw [if_pos c14] at H;have c14b0:(t162 != t163)=true:=c14;(try (have c14b1:decide (t162=t163)=false:=by simpa using c14));(try (have c14b2:(t162 == t163)=false:=by simpa using c14));(try (have c14b3:¬(t162=t163):=by simpa using c14));clear c14;obtain rfl:=Option.some.inj H
      all_goals
       try go_wp2
       replace BK159:=zN (zI BK159.out);replace HB:=zN (zL HB.out);refine start_ (n:=9) (S:=fun w'=>w'.cell? ⟨gb159,0,none⟩=some (.int .u8 a0_0)∧w'.cell? ⟨gb159,1,none⟩=some (.int .u8 a0_1)∧w'.cell? ⟨gb159,2,none⟩=some (.int .u8 a0_2)∧w'.cell? ⟨gb159,3,none⟩=some (.int .u8 a0_3)∧w'.cell? ⟨gb159,4,none⟩=some (.int .u8 a0_4)∧w'.cell? ⟨gb159,5,none⟩=some (.int .u8 a0_5)) (ds:=[]) #[false,false,false,false,false,false,false,false,false] (by kernel_rfl) rfl rfl ⟨(blk_cell BK159.out 0).trans rfl,(blk_cell BK159.out 1).trans rfl,(blk_cell BK159.out 2).trans rfl,(blk_cell BK159.out 3).trans rfl,(blk_cell BK159.out 4).trans rfl,(blk_cell BK159.out 5).trans rfl⟩ (fun hHeld=>?_);refine with_tabW impl_ValidRules.tab9 impl_ValidRules.bits9 (fun HT_ HW_=>?_);generalize wr.drew=w15 at BK159 HB hHeld ⊢;refine pure_ (i:=1) (N:=some 25) (v:=?_) (a':=?_) #[false,true,false,false,false,false,false,false,false] rfl rfl (any_of HT_.out (by kernel_rfl)) (fun _ _ _ h=>h) (Or.inl ⟨by rfl,?_⟩) ?_ ?_;rotate_left
       ·intro w';go_simp;(with_reducible rfl)
       rotate_left
       ·simp only [Act.put,zO,zP,zQ,i64_w,i32_w];rfl
       refine pure_ (i:=2) (N:=some 26) (v:=?_) (a':=?_) #[false,true,true,false,false,false,false,false,false] rfl rfl (any_of HT_.out (by kernel_rfl)) (fun _ _ _ h=>h) (Or.inl ⟨by rfl,?_⟩) ?_ ?_;rotate_left
       ·intro w';go_simp;(with_reducible rfl)
       rotate_left
       ·simp only [Act.put,zO,zP,zQ,i64_w,i32_w];rfl
       refine pure_ (i:=5) (N:=some 29) (v:=?_) (a':=?_) #[false,true,true,false,false,true,false,false,false] rfl rfl (any_of HT_.out (by kernel_rfl)) (fun _ _ _ h=>h) (Or.inl ⟨by rfl,?_⟩) ?_ ?_;rotate_left
       ·intro w';go_simp;(with_reducible rfl)
       rotate_left
       ·simp only [Act.put,zO,zP,zQ,i64_w,i32_w];rfl
       refine pure_ (i:=6) (N:=some 30) (v:=?_) (a':=?_) #[false,true,true,false,false,true,true,false,false] rfl rfl (any_of HT_.out (by kernel_rfl)) (fun _ _ _ h=>h) (Or.inl ⟨by rfl,?_⟩) ?_ ?_;rotate_left
       ·intro w';go_simp;(with_reducible rfl)
       rotate_left
       ·simp only [Act.put,zO,zP,zQ,i64_w,i32_w];rfl
       refine take_ (i:=0) (N:=some 24) (v:=?_) (a':=?_) #[true,true,true,false,false,true,true,false,false] rfl rfl (take_ofW HT_.out HW_.out (by kernel_rfl)) (fun _ _ _ h=>h) (Or.inl ⟨by rfl,?_⟩) hHeld ?_ ?_;rotate_left
       ·rintro w' ⟨s0,s1,s2,s3,s4,s5⟩;go_simp;(with_reducible rfl)
       rotate_left
       ·simp only [Act.put,zO,zP,zQ,i64_w,i32_w];rfl
       refine take_ (i:=4) (N:=some 28) (v:=?_) (a':=?_) #[true,true,true,false,true,true,true,false,false] rfl rfl (take_ofW HT_.out HW_.out (by kernel_rfl)) (fun _ _ _ h=>h) (Or.inl ⟨by rfl,?_⟩) hHeld ?_ ?_;rotate_left
       ·rintro w' ⟨s0,s1,s2,s3,s4,s5⟩;go_simp;(with_reducible rfl)
       rotate_left
       ·simp only [Act.put,zO,zP,zQ,i64_w,i32_w];rfl
       refine one_ (i:=3) (N:=some 27) #[true,true,true,true,true,true,true,false,false] rfl rfl (one_of HT_.out (by kernel_rfl)) (by decide) (fun K hK=>?_);refine goes_ Tryd.func50 (by kernel_rfl) rfl #[.agg #[.int .u8 a0_0,.int .u8 a0_1,.int .u8 a0_2,.int .u8 a0_3,.int .u8 a0_4,.int .u8 a0_5],.int .u8 x5_1,.int .u8 x21_3] (by rfl) rfl rfl (by (try simp only [List.map_toArray,List.map_cons,List.map_nil]);first|done|rfl|(simp only [List.length_drop,List.length_take];rfl)) ?_;(with_reducible refine (impl_Rules_may.calls a0_0 a0_1 a0_2 a0_3 a0_4 a0_5 x5_1 x21_3 t162 _ A12.out).mono ?_);rintro e w16 ⟨rfl,hb⟩;refine ⟨_,rfl,?_⟩;replace BK159:=zN (zU (g:=gb159) (o:=.cells #[.int .u8 a0_0,.int .u8 a0_1,.int .u8 a0_2,.int .u8 a0_3,.int .u8 a0_4,.int .u8 a0_5] 25 (0,0)) (by (with_reducible repeat (first|refine zH ?_ _|refine zI ?_|refine zG ?_ _));exact BK159.out) hb);replace HB:=zN (zV (by repeat (first|(with_reducible first|exact HB.out|apply zJ|apply zK|apply zL|refine zM ?_ GE159.out)|exact HB.out)) hb);(try clear hb);(try clear hb2);(try clear hk);(try clear hi);refine hK.out _ _ ⟨(blk_cell BK159.out 0).trans rfl,(blk_cell BK159.out 1).trans rfl,(blk_cell BK159.out 2).trans rfl,(blk_cell BK159.out 3).trans rfl,(blk_cell BK159.out 4).trans rfl,(blk_cell BK159.out 5).trans rfl⟩ (fun hHeld=>?_);clear hK K
       refine norm_ (a':=?_) ?_ ?_;rotate_left
       ·show Act.put _ (some 27) _=_;simp only [Act.put,zO,zP,zQ,i64_w,i32_w];rfl
       refine one_ (i:=7) (N:=some 31) #[true,true,true,true,true,true,true,true,false] rfl rfl (one_of HT_.out (by kernel_rfl)) (by decide) (fun K hK=>?_);refine goes_ Tryd.func50 (by kernel_rfl) rfl #[.agg #[.int .u8 a0_0,.int .u8 a0_1,.int .u8 a0_2,.int .u8 a0_3,.int .u8 a0_4,.int .u8 a0_5],.int .u8 x21_3,.int .u8 x5_1] (by rfl) rfl rfl (by (try simp only [List.map_toArray,List.map_cons,List.map_nil]);first|done|rfl|(simp only [List.length_drop,List.length_take];rfl)) ?_;(with_reducible refine (impl_Rules_may.calls a0_0 a0_1 a0_2 a0_3 a0_4 a0_5 x21_3 x5_1 t163 _ A13.out).mono ?_);rintro e w17 ⟨rfl,hb⟩;refine ⟨_,rfl,?_⟩;replace BK159:=zN (zU (g:=gb159) (o:=.cells #[.int .u8 a0_0,.int .u8 a0_1,.int .u8 a0_2,.int .u8 a0_3,.int .u8 a0_4,.int .u8 a0_5] 25 (0,0)) (by (with_reducible repeat (first|refine zH ?_ _|refine zI ?_|refine zG ?_ _));exact BK159.out) hb);replace HB:=zN (zV (by repeat (first|(with_reducible first|exact HB.out|apply zJ|apply zK|apply zL|refine zM ?_ GE159.out)|exact HB.out)) hb);(try clear hb);(try clear hb2);(try clear hk);(try clear hi);refine hK.out _ _ ⟨(blk_cell BK159.out 0).trans rfl,(blk_cell BK159.out 1).trans rfl,(blk_cell BK159.out 2).trans rfl,(blk_cell BK159.out 3).trans rfl,(blk_cell BK159.out 4).trans rfl,(blk_cell BK159.out 5).trans rfl⟩ (fun hHeld=>?_);clear hK K
       refine norm_ (a':=?_) ?_ ?_;rotate_left
       ·show Act.put _ (some 31) _=_;simp only [Act.put,zO,zP,zQ,i64_w,i32_w];rfl
       refine pure_ (i:=8) (N:=some 32) (v:=?_) (a':=?_) #[true,true,true,true,true,true,true,true,true] rfl rfl (any_of HT_.out (by kernel_rfl)) (fun _ _ _ h=>h) (Or.inl ⟨by rfl,?_⟩) ?_ ?_;rotate_left
       ·intro w';go_simp;(with_reducible rfl)
       rotate_left
       ·simp only [Act.put,zO,zP,zQ,i64_w,i32_w];rfl
       refine done_ (done_of HT_.out (by kernel_rfl)) ?_
       try go_wp2
      ·go_ret;exact ⟨by first|rfl|(simp [errW_none,errW_some]<;>rfl)|(simp [*,errW_none,errW_some]<;>rfl),by repeat (first|(with_reducible first|exact HB.out|apply zJ|apply zK|apply zL|refine zM ?_ GE159.out)|exact HB.out)⟩
      go_roundg k3
      case measure=>have:=HK1.out;have:=HJ3.out;have:=HK3.out;omega
      case rel=>exact ⟨((x21_3+1) % 256),(by first|rfl|(simp;done)|(simp [*];done)),H',⟨by have:=HK1.out;have:=HJ3.out;have:=HK3.out;omega⟩,⟨by (with_reducible repeat (first|refine zH ?_ _|refine zI ?_|refine zG ?_ _));exact BK159.out⟩,⟨by repeat (first|(with_reducible first|exact HB.out|apply zJ|apply zK|apply zL|refine zM ?_ GE159.out)|exact HB.out)⟩⟩
     rw [if_neg c11] at H;have c11b0:decide (x21_3<x5_1)=false:=decide_eq_false c11;clear c11;have H':=zN H;clear H;go_wp2;go_roundg k3
     case measure=>have:=HK1.out;have:=HJ3.out;have:=HK3.out;omega
     case rel=>exact ⟨((x5_1+1) % 256),(by first|rfl|(simp;done)|(simp [*];done)),H',⟨by have:=HK1.out;have:=HJ3.out;have:=HK3.out;omega⟩,⟨by (with_reducible repeat (first|refine zH ?_ _|refine zI ?_|refine zG ?_ _));exact BK159.out⟩,⟨by repeat (first|(with_reducible first|exact HB.out|apply zJ|apply zK|apply zL|refine zM ?_ GE159.out)|exact HB.out)⟩⟩
  rw [if_neg c3] at H;have c3b0:decide (x5_1<6)=false:=decide_eq_false c3;clear c3;obtain rfl:=Option.some.inj H;go_wp2;go_ret;exact ⟨by first|rfl|(simp [errW_none,errW_some]<;>rfl)|(simp [*,errW_none,errW_some]<;>rfl),by repeat (first|(with_reducible first|exact HB.out|apply zJ|apply zK|apply zL|refine zM ?_ GE159.out)|exact HB.out)⟩
mutual
def impl_ColourSets.l0:Nat→List Int→Int→Int→Int→Int→Int→Int→Int→Option (List Int×Int)
 | 0,_,_,_,_,_,_,_,_=>none
 | k+1,x4,x5,x165000,x165001,x165002,x165003,x165004,x165005=>if x5<64 then (impl_ColourSets.l1 k x4 x5 63 0 x165000 x165001 x165002 x165003 x165004 x165005) else (some (x4,0))
def impl_ColourSets.l1:Nat→List Int→Int→Int→Int→Int→Int→Int→Int→Int→Int→Option (List Int×Int)
 | 0,_,_,_,_,_,_,_,_,_,_=>none
 | k+1,x4,x5,x6,x16,x165000,x165001,x165002,x165003,x165004,x165005=>if x16<6 then (if 0≤x16 then (if (Go.bits .and .u8 (shr .u8 x5 x16) 1)=1 then (impl_ColourSets.l1 k x4 x5 (Go.bits .and .u8 x6 (rd [x165000,x165001,x165002,x165003,x165004,x165005] x16)) ((x16+1) % 256) x165000 x165001 x165002 x165003 x165004 x165005) else (impl_ColourSets.l1 k x4 x5 x6 ((x16+1) % 256) x165000 x165001 x165002 x165003 x165004 x165005)) else (none)) else (if x6=x5 then (if x4.length<140737488355328 then (impl_ColourSets.l0 k (x4++[x5]) ((x5+1) % 256) x165000 x165001 x165002 x165003 x165004 x165005) else (none)) else (impl_ColourSets.l0 k x4 ((x5+1) % 256) x165000 x165001 x165002 x165003 x165004 x165005))
end
def impl_ColourSets.f (k:Nat) (a0_0:Int) (a0_1:Int) (a0_2:Int) (a0_3:Int) (a0_4:Int) (a0_5:Int):Option (List Int×Int):=(impl_ValidRules.f k a0_0 a0_1 a0_2 a0_3 a0_4 a0_5).bind fun t165=>(if t165=true then (impl_ColourSets.l0 k (([]:List Int)) 1 a0_0 a0_1 a0_2 a0_3 a0_4 a0_5) else (some (([]:List Int),1)))
set_option maxHeartbeats 8000000 in
set_option maxRecDepth 100000 in
theorem impl_ColourSets.calls (k:Nat) (a0_0:Int) (a0_1:Int) (a0_2:Int) (a0_3:Int) (a0_4:Int) (a0_5:Int) (r1:List Int) (r2:Int) (w:World) (h:impl_ColourSets.f k a0_0 a0_1 a0_2 a0_3 a0_4 a0_5=some (r1,r2)) :
  Calls Tryd.prog 11 #[.agg #[.int .u8 a0_0,.int .u8 a0_1,.int .u8 a0_2,.int .u8 a0_3,.int .u8 a0_4,.int .u8 a0_5]] w fun e w'=>∃v0_:Value,e=.returned (.tuple #[v0_,.int .i64 r2])∧Kd.R (Kd.int .u8) 5 w' w.heap.size (fun _=>True) v0_ r1∧Below w.heap.size w w':=by
 have hu25:=Tryd.underlying25;have HB:=zN (Below.refl w.heap.size w);have H:((impl_ValidRules.f k a0_0 a0_1 a0_2 a0_3 a0_4 a0_5).bind fun t165=>(if t165=true then (impl_ColourSets.l0 k (([]:List Int)) 1 a0_0 a0_1 a0_2 a0_3 a0_4 a0_5) else (some (([]:List Int),1))))=some (r1,r2):=h;clear h;replace H:=Option.bind_eq_some_iff.mp H;obtain ⟨t165,A20,H⟩:=H;replace H:(if t165=true then (impl_ColourSets.l0 k (([]:List Int)) 1 a0_0 a0_1 a0_2 a0_3 a0_4 a0_5) else (some (([]:List Int),1)))=some (r1,r2):=H;have A2:=zN A20;clear A20
 by_cases c3:t165=true
 ·subst c3
  have H1:(impl_ColourSets.l0 k (([]:List Int)) 1 a0_0 a0_1 a0_2 a0_3 a0_4 a0_5)=some (r1,r2):=by rw [if_pos rfl] at H;exact H
  clear H;have H:=H1;clear H1;obtain ⟨y166,hy166⟩ : ∃y_:List Int,y_=(([]:List Int)):=⟨_,rfl⟩
  replace H:(impl_ColourSets.l0 k y166 1 a0_0 a0_1 a0_2 a0_3 a0_4 a0_5)=some (r1,r2):=by first|(rw [hy166];with_reducible exact H)|(have H2_:=(Option.bind_some _ _).symm.trans H;rw [hy166];with_reducible exact H2_)|(have H2_:=(Option.bind_some _ _).symm.trans H;with_reducible exact H2_)|with_reducible exact H|(rw [hy166];exact H)|exact H
  have Ny166:=zN hy166;clear hy166;have H':=zN H;clear H;go_enter Tryd.func11,Tryd.ntmps11
  go_wp2_with (first|((with_reducible refine gate_dst (N:=1) rfl ?_);refine box_event ?hg (N:=1) ?hd (cs:=#[.int .u8 a0_0,.int .u8 a0_1,.int .u8 a0_2,.int .u8 a0_3,.int .u8 a0_4,.int .u8 a0_5]) (t:=25) ?hr ?_;(case hd=>rfl);(case hg=>rfl);(case hr=>first|(go_simp;done)|(go_simp;rfl));intro gb164 hg w4 hbox hb;have BK164:=zN (hbox);have GW164:=zN ((by rw [hg];exact (zT (by repeat (first|(with_reducible first|exact HB.out|apply zJ|apply zK|apply zL)|exact HB.out))):w.heap.size≤gb164));have GE164:=zN ((by rw [hg];exact (zT (by repeat (first|(with_reducible first|exact HB.out|apply zJ|apply zK|apply zL)|exact HB.out))):w.heap.size≤gb164));replace HB:=zN (zV (by repeat (first|(with_reducible first|exact HB.out|apply zJ|apply zK|apply zL)|exact HB.out)) hb);clear hb hbox hg;have hcz5_0:w4.cell? ⟨gb164,0,none⟩=some (.int .u8 a0_0):=(blk_cell BK164.out 0).trans rfl;have hcz5_1:w4.cell? ⟨gb164,1,none⟩=some (.int .u8 a0_1):=(blk_cell BK164.out 1).trans rfl;have hcz5_2:w4.cell? ⟨gb164,2,none⟩=some (.int .u8 a0_2):=(blk_cell BK164.out 2).trans rfl;have hcz5_3:w4.cell? ⟨gb164,3,none⟩=some (.int .u8 a0_3):=(blk_cell BK164.out 3).trans rfl;have hcz5_4:w4.cell? ⟨gb164,4,none⟩=some (.int .u8 a0_4):=(blk_cell BK164.out 4).trans rfl;have hcz5_5:w4.cell? ⟨gb164,5,none⟩=some (.int .u8 a0_5):=(blk_cell BK164.out 5).trans rfl;have hfz5_0:=blk_frozen BK164.out 0;have hfz5_1:=blk_frozen BK164.out 1;have hfz5_2:=blk_frozen BK164.out 2;have hfz5_3:=blk_frozen BK164.out 3;have hfz5_4:=blk_frozen BK164.out 4;have hfz5_5:=blk_frozen BK164.out 5)|((with_reducible refine gate_callee (f:=16) rfl ?_);refine goesL_ (some 9) rfl rfl Tryd.func16 (by kernel_rfl) rfl #[.agg #[.int .u8 a0_0,.int .u8 a0_1,.int .u8 a0_2,.int .u8 a0_3,.int .u8 a0_4,.int .u8 a0_5]] rfl (by (try simp only [List.map_toArray,List.map_cons,List.map_nil]);first|done|rfl|(simp only [List.length_drop,List.length_take];rfl)) ?_;(with_reducible refine (impl_ValidRules.calls k a0_0 a0_1 a0_2 a0_3 a0_4 a0_5 true _ A2.out).mono ?_);rintro e w6 ⟨rfl,hb⟩;refine ⟨_,rfl,?_⟩;replace BK164:=zN (zU (g:=gb164) (o:=.cells #[.int .u8 a0_0,.int .u8 a0_1,.int .u8 a0_2,.int .u8 a0_3,.int .u8 a0_4,.int .u8 a0_5] 25 (0,0)) (by (with_reducible repeat (first|refine zH ?_ _|refine zI ?_|refine zG ?_ _));exact BK164.out) hb);replace HB:=zN (zV (by repeat (first|(with_reducible first|exact HB.out|apply zJ|apply zK|apply zL|refine zM ?_ GE164.out)|exact HB.out)) hb);(try clear hb);(try clear hb2);(try clear hk);(try clear hi))|((with_reducible refine gate_dst (N:=11) rfl ?_);refine Kd.R_lit (Kd.int .u8) _ 5 ?hg (N:=11) ?hd (xs:=([]:List Int)) (inner:=[]) (ok:=fun _=>True) (okp:=fun _=>True) ?hr ?hp (fun _ hk=>hk) trivial (Below.refl _ _) (Nat.le_refl _) (by simp) ?_;(case hd=>rfl);(case hg=>rfl);(case hr=>first|(go_simp;done)|(go_simp;rfl));(case hp=>exact (Reps.none _ _));intro v167 w7 ho8 hb hg_ hnew_;clear hg_ hnew_;(first|rw [← Ny166.out] at ho8|(simp only [Int.reduceToNat] at ho8;rw [← Ny166.out] at ho8));have HO168:=zN (Kd.R_lower ho8 (zT (by repeat (first|(with_reducible first|exact HB.out|apply zJ|apply zK|apply zL|refine zM ?_ GE164.out)|exact HB.out))));replace BK164:=zN (zU (g:=gb164) (o:=.cells #[.int .u8 a0_0,.int .u8 a0_1,.int .u8 a0_2,.int .u8 a0_3,.int .u8 a0_4,.int .u8 a0_5] 25 (0,0)) (by (with_reducible repeat (first|refine zH ?_ _|refine zI ?_|refine zG ?_ _));exact BK164.out) hb);replace HB:=zN (zV (by repeat (first|(with_reducible first|exact HB.out|apply zJ|apply zK|apply zL|refine zM ?_ GE164.out)|exact HB.out)) hb);clear hb ho8))
  go_loopg [4,5] k (fun kq v4 v5 w'=>∃(x4_1:List Int) (x5_1:Int),v5=.int .u8 x5_1∧Aside0 (impl_ColourSets.l0 kq x4_1 x5_1 a0_0 a0_1 a0_2 a0_3 a0_4 a0_5=some (r1,r2))∧Aside0 (kq≤k)∧Aside0 (Kd.R (Kd.int .u8) 5 w' w.heap.size (fun _=>True) v4 x4_1)∧Aside0 (w'.heap[gb164]?=some (.cells #[.int .u8 a0_0,.int .u8 a0_1,.int .u8 a0_2,.int .u8 a0_3,.int .u8 a0_4,.int .u8 a0_5] 25 (0,0)))∧Aside0 (Below w.heap.size w w'))
  case atStart=>exact ⟨(y166),(1),(by first|rfl|(simp;done)|(simp [*];done)),H',⟨Nat.le_refl _⟩,⟨by (with_reducible repeat (first|apply zA|apply zB|apply zC));exact HO168.out⟩,⟨by (with_reducible repeat (first|refine zH ?_ _|refine zI ?_|refine zG ?_ _));exact BK164.out⟩,⟨by repeat (first|(with_reducible first|exact HB.out|apply zJ|apply zK|apply zL|refine zM ?_ GE164.out)|exact HB.out)⟩⟩
  clear H';(try clear c1);(try clear p2);(try clear c3);(try clear hcz5_0);(try clear hcz5_1);(try clear hcz5_2);(try clear hcz5_3);(try clear hcz5_4);(try clear hcz5_5);(try clear hfz5_0);(try clear hfz5_1);(try clear hfz5_2);(try clear hfz5_3);(try clear hfz5_4);(try clear hfz5_5);obtain ⟨x4_1,x5_1,rfl,HA,HK1,HO_4,BK164,HB⟩:=hrel
  cases gk with
  | zero=>exact absurd HA.out (by simp [impl_ColourSets.l0])
  | succ k1=>
   have H:=HA.out;clear HA;simp only [impl_ColourSets.l0] at H
   by_cases c9:x5_1<64
   ·rw [if_pos c9] at H;have c9b0:decide (x5_1<64)=true:=decide_eq_true c9;clear c9;have H':=zN H;clear H;go_wp2
    go_loopg [6,16] k1 (fun kq v6 v16 w'=>∃(x6_2:Int) (x16_2:Int),v6=.int .u8 x6_2∧v16=.int .u8 x16_2∧Aside0 (impl_ColourSets.l1 kq x4_1 x5_1 x6_2 x16_2 a0_0 a0_1 a0_2 a0_3 a0_4 a0_5=some (r1,r2))∧Aside0 (kq≤k1)∧Aside0 (Kd.R (Kd.int .u8) 5 w' w.heap.size (fun _=>True) u4 x4_1)∧Aside0 (w'.heap[gb164]?=some (.cells #[.int .u8 a0_0,.int .u8 a0_1,.int .u8 a0_2,.int .u8 a0_3,.int .u8 a0_4,.int .u8 a0_5] 25 (0,0)))∧Aside0 (Below w.heap.size w w'))
    case atStart=>exact ⟨(63),(0),(by first|rfl|(simp;done)|(simp [*];done)),(by first|rfl|(simp;done)|(simp [*];done)),H',⟨Nat.le_refl _⟩,⟨by (with_reducible repeat (first|apply zA|apply zB|apply zC));exact HO_4.out⟩,⟨by (with_reducible repeat (first|refine zH ?_ _|refine zI ?_|refine zG ?_ _));exact BK164.out⟩,⟨by repeat (first|(with_reducible first|exact HB.out|apply zJ|apply zK|apply zL|refine zM ?_ GE164.out)|exact HB.out)⟩⟩
    clear H';(try clear c1);(try clear p2);(try clear c3);(try clear c9);(try clear c9b0);(try clear hcz5_0);(try clear hcz5_1);(try clear hcz5_2);(try clear hcz5_3);(try clear hcz5_4);(try clear hcz5_5);(try clear hfz5_0);(try clear hfz5_1);(try clear hfz5_2);(try clear hfz5_3);(try clear hfz5_4);(try clear hfz5_5);(try clear p2);obtain ⟨x6_2,x16_2,rfl,rfl,HA,HK2,HO_4,BK164,HB⟩:=hrel
    cases gk with
    | zero=>exact absurd HA.out (by simp [impl_ColourSets.l1])
    | succ k2=>
     have H:=HA.out;clear HA;simp only [impl_ColourSets.l1] at H
     by_cases c10:x16_2<6
     ·rw [if_pos c10] at H;have c10b0:decide (x16_2<6)=true:=decide_eq_true c10;clear c10
      by_cases c11:0≤x16_2
      rotate_left
      ·rw [if_neg c11] at H;exact absurd H (by simp)
      rw [if_pos c11] at H;have c11b0:=eq_true c11;have c11b1:decide (0≤x16_2)=true:=decide_eq_true c11;clear c11;obtain ⟨ji12,hji12⟩ : ∃j_:Int,(shr .u8 x5_1 x16_2)=j_:=⟨_,rfl⟩
      replace H:(if (Go.bits .and .u8 (ji12) 1)=1 then (impl_ColourSets.l1 k2 x4_1 x5_1 (Go.bits .and .u8 x6_2 (rd [a0_0,a0_1,a0_2,a0_3,a0_4,a0_5] x16_2)) ((x16_2+1) % 256) a0_0 a0_1 a0_2 a0_3 a0_4 a0_5) else (impl_ColourSets.l1 k2 x4_1 x5_1 x6_2 ((x16_2+1) % 256) a0_0 a0_1 a0_2 a0_3 a0_4 a0_5))=some (r1,r2):=by first|(rw [hji12] at H;exact H)|(simp only [hji12] at H ⊢;exact H)
      have hji12_:(x5_1 / 2 ^ min x16_2.toNat 8)=ji12:=hji12;have hji12z:x16_2≤8→(x5_1 / 2 ^ x16_2.toNat)=ji12:=shr_small hji12
      by_cases c13:(Go.bits .and .u8 (ji12) 1)=1
      ·rw [if_pos c13] at H;have c13b0:((Go.bits .and .u8 (ji12) 1) == 1)=true:=beq_iff_eq.mpr c13;have c13b1:((Go.bits .and .u8 (ji12) 1) != 1)=false:=bne_eq_false_iff_eq.mpr c13;clear c13;have H':=zN H;clear H;have p169:0≤(x16_2:Int):=zS (by first|(with_reducible assumption)|assumption);have q169:(x16_2:Int)<6:=zS (by first|(with_reducible assumption)|assumption);have hx169:=Go.Proofs.YthodfhcaaidnmaaDoor.Own.arr_cell (k:=.u8) (xs:=[a0_0,a0_1,a0_2,a0_3,a0_4,a0_5]) (show _ from BK164.out) x16_2 p169 q169;replace p169:=eq_true p169;replace q169:=eq_true q169;go_wp2;go_roundg k2
       case measure=>have:=HK1.out;have:=HK2.out;omega
       case rel=>exact ⟨(Go.bits .and .u8 x6_2 (rd [a0_0,a0_1,a0_2,a0_3,a0_4,a0_5] x16_2)),((x16_2+1) % 256),(by first|rfl|(simp;done)|(simp [*];done)),(by first|rfl|(simp;done)|(simp [*];done)),H',⟨by have:=HK1.out;have:=HK2.out;omega⟩,⟨by (with_reducible repeat (first|apply zA|apply zB|apply zC));exact HO_4.out⟩,⟨by (with_reducible repeat (first|refine zH ?_ _|refine zI ?_|refine zG ?_ _));exact BK164.out⟩,⟨by repeat (first|(with_reducible first|exact HB.out|apply zJ|apply zK|apply zL|refine zM ?_ GE164.out)|exact HB.out)⟩⟩
      rw [if_neg c13] at H;have c13b0:((Go.bits .and .u8 (ji12) 1) == 1)=false:=beq_eq_false_iff_ne.mpr c13;have c13b1:((Go.bits .and .u8 (ji12) 1) != 1)=true:=bne_iff_ne.mpr c13;have H':=zN H;clear H;go_wp2;go_roundg k2
      case measure=>have:=HK1.out;have:=HK2.out;omega
      case rel=>exact ⟨(x6_2),((x16_2+1) % 256),(by first|rfl|(simp;done)|(simp [*];done)),(by first|rfl|(simp;done)|(simp [*];done)),H',⟨by have:=HK1.out;have:=HK2.out;omega⟩,⟨by (with_reducible repeat (first|apply zA|apply zB|apply zC));exact HO_4.out⟩,⟨by (with_reducible repeat (first|refine zH ?_ _|refine zI ?_|refine zG ?_ _));exact BK164.out⟩,⟨by repeat (first|(with_reducible first|exact HB.out|apply zJ|apply zK|apply zL|refine zM ?_ GE164.out)|exact HB.out)⟩⟩
     rw [if_neg c10] at H;have c10b0:decide (x16_2<6)=false:=decide_eq_false c10;clear c10
     by_cases c14:x6_2=x5_1
     ·rw [if_pos c14] at H;have c14b0:(x6_2 == x5_1)=true:=beq_iff_eq.mpr c14;have c14b1:(x6_2 != x5_1)=false:=bne_eq_false_iff_eq.mpr c14;clear c14
      by_cases c15:x4_1.length<140737488355328
      rotate_left
      ·rw [if_neg c15] at H;exact absurd H (by simp)
      rw [if_pos c15] at H;have LMc15:=zN c15;clear c15;obtain ⟨y170,hy170⟩ : ∃y_:List Int,y_=(x4_1++[x5_1]):=⟨_,rfl⟩
      replace H:(impl_ColourSets.l0 k2 y170 ((x5_1+1) % 256) a0_0 a0_1 a0_2 a0_3 a0_4 a0_5)=some (r1,r2):=by first|(rw [hy170];with_reducible exact H)|(have H2_:=(Option.bind_some _ _).symm.trans H;rw [hy170];with_reducible exact H2_)|(have H2_:=(Option.bind_some _ _).symm.trans H;with_reducible exact H2_)|with_reducible exact H|(rw [hy170];exact H)|exact H
      have Ny170:=zN hy170;clear hy170;have H':=zN H;clear H
      go_wp2_with (first|((with_reducible refine gate_builtin (b:=.append) (xs:=#[.tmp 33,.tmp 35]) rfl ?_);at_builtin;refine Kd.R_append (Kd.int .u8) (w0:=w) w.heap.size rfl (.tmp 33) (.tmp 35) 22 5 (.int .u8 0) 1 rfl Tryd.underlying22 info5 rfl (by decide) (by omega) u4 x4_1 x5_1 [.int .u8 x5_1] (fun _=>True) (fun _=>False) rfl rfl ?aP (fun _ hk=>hk.elim) ?aF ?aO ?aB ?aS ?aL ?_;(case aP=>exact rfl);(case aB=>exact (by repeat (first|(with_reducible first|exact HB.out|apply zJ|apply zK|apply zL|refine zM ?_ GE164.out)|exact HB.out)));(case aF=>exact (fun _ _=>trivial));(case aO=>exact (by (with_reducible repeat (first|apply zA|apply zB|apply zC));exact HO_4.out));(case aS=>exact (zT (by repeat (first|(with_reducible first|exact HB.out|apply zJ|apply zK|apply zL|refine zM ?_ GE164.out)|exact HB.out))));(case aL=>have:=LMc15.out;omega);intro v171 w16 ho hb hg hat;rw [← Ny170.out] at ho;replace BK164:=zN (blk_grown (g:=gb164) (o:=.cells #[.int .u8 a0_0,.int .u8 a0_1,.int .u8 a0_2,.int .u8 a0_3,.int .u8 a0_4,.int .u8 a0_5] 25 (0,0)) (by (with_reducible repeat (first|refine zH ?_ _|refine zI ?_|refine zG ?_ _));exact BK164.out) hg (Kd.R_ne HO_4.out BK164.out (by decide)));replace HB:=zN (hb);have HO172:=zN (ho);clear HO_4 ho hb hg hat))
      go_roundg k2
      case measure=>have:=HK1.out;have:=HK2.out;omega
      case rel=>exact ⟨(y170),((x5_1+1) % 256),(by first|rfl|(simp;done)|(simp [*];done)),H',⟨by have:=HK1.out;have:=HK2.out;omega⟩,⟨by (with_reducible repeat (first|apply zA|apply zB|apply zC));exact HO172.out⟩,⟨by (with_reducible repeat (first|refine zH ?_ _|refine zI ?_|refine zG ?_ _));exact BK164.out⟩,⟨by repeat (first|(with_reducible first|exact HB.out|apply zJ|apply zK|apply zL|refine zM ?_ GE164.out)|exact HB.out)⟩⟩
     rw [if_neg c14] at H;have c14b0:(x6_2 == x5_1)=false:=beq_eq_false_iff_ne.mpr c14;have c14b1:(x6_2 != x5_1)=true:=bne_iff_ne.mpr c14;have H':=zN H;clear H;go_wp2;go_roundg k2
     case measure=>have:=HK1.out;have:=HK2.out;omega
     case rel=>exact ⟨(x4_1),((x5_1+1) % 256),(by first|rfl|(simp;done)|(simp [*];done)),H',⟨by have:=HK1.out;have:=HK2.out;omega⟩,⟨by (with_reducible repeat (first|apply zA|apply zB|apply zC));exact HO_4.out⟩,⟨by (with_reducible repeat (first|refine zH ?_ _|refine zI ?_|refine zG ?_ _));exact BK164.out⟩,⟨by repeat (first|(with_reducible first|exact HB.out|apply zJ|apply zK|apply zL|refine zM ?_ GE164.out)|exact HB.out)⟩⟩
   rw [if_neg c9] at H;have c9b0:decide (x5_1<64)=false:=decide_eq_false c9;clear c9;simp only [Option.some.injEq,Prod.mk.injEq] at H;obtain ⟨rfl,rfl⟩:=H;go_wp2;go_ret2;exact ⟨_,by first|rfl|(simp [errW_none,errW_some]<;>rfl)|(simp [*,errW_none,errW_some]<;>rfl),by (with_reducible repeat (first|apply zA|apply zB|apply zC));exact HO_4.out,by repeat (first|(with_reducible first|exact HB.out|apply zJ|apply zK|apply zL|refine zM ?_ GE164.out)|exact HB.out)⟩
 replace c3:=Bool.eq_false_iff.mpr c3;subst c3
 have H1:(some (([]:List Int),1))=some (r1,r2):=by rw [if_neg (show ¬(false=true) by decide)] at H;exact H
 clear H;have H:=H1;clear H1;simp only [Option.some.injEq,Prod.mk.injEq] at H;obtain ⟨rfl,rfl⟩:=H;go_enter Tryd.func11,Tryd.ntmps11
 go_wp2_with (first|((with_reducible refine gate_dst (N:=1) rfl ?_);refine box_event ?hg (N:=1) ?hd (cs:=#[.int .u8 a0_0,.int .u8 a0_1,.int .u8 a0_2,.int .u8 a0_3,.int .u8 a0_4,.int .u8 a0_5]) (t:=25) ?hr ?_;(case hd=>rfl);(case hg=>rfl);(case hr=>first|(go_simp;done)|(go_simp;rfl));intro gb164 hg w17 hbox hb;have BK164:=zN (hbox);have GW164:=zN ((by rw [hg];exact (zT (by repeat (first|(with_reducible first|exact HB.out|apply zJ|apply zK|apply zL)|exact HB.out))):w.heap.size≤gb164));have GE164:=zN ((by rw [hg];exact (zT (by repeat (first|(with_reducible first|exact HB.out|apply zJ|apply zK|apply zL)|exact HB.out))):w.heap.size≤gb164));replace HB:=zN (zV (by repeat (first|(with_reducible first|exact HB.out|apply zJ|apply zK|apply zL)|exact HB.out)) hb);clear hb hbox hg;have hcz18_0:w17.cell? ⟨gb164,0,none⟩=some (.int .u8 a0_0):=(blk_cell BK164.out 0).trans rfl;have hcz18_1:w17.cell? ⟨gb164,1,none⟩=some (.int .u8 a0_1):=(blk_cell BK164.out 1).trans rfl;have hcz18_2:w17.cell? ⟨gb164,2,none⟩=some (.int .u8 a0_2):=(blk_cell BK164.out 2).trans rfl;have hcz18_3:w17.cell? ⟨gb164,3,none⟩=some (.int .u8 a0_3):=(blk_cell BK164.out 3).trans rfl;have hcz18_4:w17.cell? ⟨gb164,4,none⟩=some (.int .u8 a0_4):=(blk_cell BK164.out 4).trans rfl;have hcz18_5:w17.cell? ⟨gb164,5,none⟩=some (.int .u8 a0_5):=(blk_cell BK164.out 5).trans rfl;have hfz18_0:=blk_frozen BK164.out 0;have hfz18_1:=blk_frozen BK164.out 1;have hfz18_2:=blk_frozen BK164.out 2;have hfz18_3:=blk_frozen BK164.out 3;have hfz18_4:=blk_frozen BK164.out 4;have hfz18_5:=blk_frozen BK164.out 5)|((with_reducible refine gate_callee (f:=16) rfl ?_);refine goesL_ (some 9) rfl rfl Tryd.func16 (by kernel_rfl) rfl #[.agg #[.int .u8 a0_0,.int .u8 a0_1,.int .u8 a0_2,.int .u8 a0_3,.int .u8 a0_4,.int .u8 a0_5]] rfl (by (try simp only [List.map_toArray,List.map_cons,List.map_nil]);first|done|rfl|(simp only [List.length_drop,List.length_take];rfl)) ?_;(with_reducible refine (impl_ValidRules.calls k a0_0 a0_1 a0_2 a0_3 a0_4 a0_5 false _ A2.out).mono ?_);rintro e w19 ⟨rfl,hb⟩;refine ⟨_,rfl,?_⟩;replace BK164:=zN (zU (g:=gb164) (o:=.cells #[.int .u8 a0_0,.int .u8 a0_1,.int .u8 a0_2,.int .u8 a0_3,.int .u8 a0_4,.int .u8 a0_5] 25 (0,0)) (by (with_reducible repeat (first|refine zH ?_ _|refine zI ?_|refine zG ?_ _));exact BK164.out) hb);replace HB:=zN (zV (by repeat (first|(with_reducible first|exact HB.out|apply zJ|apply zK|apply zL|refine zM ?_ GE164.out)|exact HB.out)) hb);(try clear hb);(try clear hb2);(try clear hk);(try clear hi)))
 go_ret2;exact ⟨_,by first|rfl|(simp [errW_none,errW_some]<;>rfl)|(simp [*,errW_none,errW_some]<;>rfl),by first|exact Kd.R_nil _ _ _ _ _|exact Kd.N_nil _ _ _ _ _|exact Kd.V_nil _ _ _ _ _|exact Kd.Q_nil _ _ _ _ _|exact Kd.S_nil _ _ _ _ _,by repeat (first|(with_reducible first|exact HB.out|apply zJ|apply zK|apply zL|refine zM ?_ GE164.out)|exact HB.out)⟩
def spec_l01Bit.f (a0:Int) (a1:Int):Option (Bool):=if 0≤(IntKind.u64.wrap (a1)) then (some ((Go.bits .and .u8 (shr .u8 a0 (IntKind.u64.wrap (a1))) 1) == 1)) else (none)
set_option maxHeartbeats 8000000 in
set_option maxRecDepth 100000 in
theorem spec_l01Bit.calls (a0:Int) (a1:Int) (r:Bool) (w:World) (h:spec_l01Bit.f a0 a1=some r) :
  Calls Tryd.prog 45 #[.int .u8 a0,.int .i64 a1] w fun e w'=>e=.returned (.bool r)∧Drawn0 w w':=by
 have H:(if 0≤(IntKind.u64.wrap (a1)) then (some ((Go.bits .and .u8 (shr .u8 a0 (IntKind.u64.wrap (a1))) 1) == 1)) else (none))=some r:=h;clear h;obtain ⟨ji3,hji3⟩ : ∃j_:Int,(IntKind.u64.wrap (a1))=j_:=⟨_,rfl⟩
 replace H:(if 0≤(ji3) then (some ((Go.bits .and .u8 (shr .u8 a0 (ji3)) 1) == 1)) else (none))=some r:=by first|(rw [hji3] at H;exact H)|(simp only [hji3] at H ⊢;exact H)
 by_cases c4:0≤(ji3)
 rotate_left
 ·rw [if_neg c4] at H;exact absurd H (by simp)
 rw [if_pos c4] at H;have c4b0:=eq_true c4;have c4b1:decide (0≤(ji3))=true:=decide_eq_true c4;clear c4;obtain ⟨ji5,hji5⟩ : ∃j_:Int,(shr .u8 a0 (ji3))=j_:=⟨_,rfl⟩
 replace H:(some ((Go.bits .and .u8 (ji5) 1) == 1))=some r:=by first|(rw [hji5] at H;exact H)|(simp only [hji5] at H ⊢;exact H)
 have hji5_:(a0 / 2 ^ min (ji3).toNat 8)=ji5:=hji5;have hji5z:(ji3)≤8→(a0 / 2 ^ (ji3).toNat)=ji5:=shr_small hji5;obtain rfl:=Option.some.inj H;go_enter Tryd.func45,Tryd.ntmps45;go_wp2;go_ret;exact ⟨by first|rfl|(simp;done)|(simp only [← hji3,← hji5]<;>(first|rfl|simp))|(simp [*];done),by repeat (first|exact Drawn0.refl _|apply Drawn0.step)⟩
end Go.Proofs.YthodfhcaaidnmaaDoor.Me
