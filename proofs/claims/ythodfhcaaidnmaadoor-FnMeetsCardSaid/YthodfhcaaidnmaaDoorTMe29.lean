/- Words and walks for the law FnMeets. -/
import Derived.Test.YthodfhcaaidnmaaDoorTMe23
import Derived.Test.YthodfhcaaidnmaaDoorTMe24
import Derived.Test.YthodfhcaaidnmaaDoorTMe28
namespace Go.Proofs.YthodfhcaaidnmaaDoor.Me
open Go.Proofs.YthodfhcaaidnmaaDoor.Zz
open Go.RowKit Go.Proofs.YthodfhcaaidnmaaDoorW.PrintWords Go.Proofs.YthodfhcaaidnmaaDoorW.PrintLast Go.Proofs.YthodfhcaaidnmaaDoorW.PrintMore
attribute [local go_sem] max2_int min2_int max_two min_two max_three min_three max_four min_four   -- for this text's walks alone
set_option linter.unusedVariables false
set_option linter.unusedSimpArgs false
def cmp_Compare_int64.f (a0:Int) (a1:Int):Option (Int):=(cmp_isNaN_int64.f a0).bind fun t221=>((cmp_isNaN_int64.f a1).bind fun t222=>(if t221=true then (if t222=true then (some 0) else (some (-1))) else (if t222=true then (some 1) else (if a0<a1 then (some (-1)) else (if a0>a1 then (some 1) else (some 0))))))
set_option maxHeartbeats 8000000 in
set_option maxRecDepth 100000 in
theorem cmp_Compare_int64.calls (a0:Int) (a1:Int) (r:Int) (w:World) (h:cmp_Compare_int64.f a0 a1=some r) :
  Calls Tryd.prog 102 #[.int .i64 a0,.int .i64 a1] w fun e w'=>e=.returned (.int .i64 r)∧Drawn0 w w':=by
 have H:((cmp_isNaN_int64.f a0).bind fun t221=>((cmp_isNaN_int64.f a1).bind fun t222=>(if t221=true then (if t222=true then (some 0) else (some (-1))) else (if t222=true then (some 1) else (if a0<a1 then (some (-1)) else (if a0>a1 then (some 1) else (some 0)))))))=some r:=h;clear h;replace H:=Option.bind_eq_some_iff.mp H;obtain ⟨t221,A30,H⟩:=H;replace H:((cmp_isNaN_int64.f a1).bind fun t222=>(if t221=true then (if t222=true then (some 0) else (some (-1))) else (if t222=true then (some 1) else (if a0<a1 then (some (-1)) else (if a0>a1 then (some 1) else (some 0))))))=some r:=H;have A3:=zN A30;clear A30;replace H:=Option.bind_eq_some_iff.mp H;obtain ⟨t222,A40,H⟩:=H;replace H:(if t221=true then (if t222=true then (some 0) else (some (-1))) else (if t222=true then (some 1) else (if a0<a1 then (some (-1)) else (if a0>a1 then (some 1) else (some 0)))))=some r:=H;have A4:=zN A40;clear A40
 by_cases c5:t221=true
 ·subst c5
  have H1:(if t222=true then (some 0) else (some (-1)))=some r:=by rw [if_pos rfl] at H;exact H
  clear H;have H:=H1;clear H1
  by_cases c6:t222=true
  ·subst c6
   have H1:(some 0)=some r:=by rw [if_pos rfl] at H;exact H
   clear H;have H:=H1;clear H1;obtain rfl:=Option.some.inj H;go_enter Tryd.func102,Tryd.ntmps102
   go_wp2_with (first|((with_reducible refine gate_callee (f:=107) rfl ?_);refine goesL_ (some 8) rfl rfl Tryd.func107 (by kernel_rfl) rfl #[.int .i64 a0] rfl (by (try simp only [List.map_toArray,List.map_cons,List.map_nil]);first|done|rfl|(simp only [List.length_drop,List.length_take];rfl)) ?_;(with_reducible refine (cmp_isNaN_int64.calls a0 true _ A3.out).mono ?_);rintro e w' ⟨rfl,⟨nd,rfl⟩⟩;refine ⟨_,rfl,?_⟩)|((with_reducible refine gate_callee (f:=107) rfl ?_);refine goesL_ (some 10) rfl rfl Tryd.func107 (by kernel_rfl) rfl #[.int .i64 a1] rfl (by (try simp only [List.map_toArray,List.map_cons,List.map_nil]);first|done|rfl|(simp only [List.length_drop,List.length_take];rfl)) ?_;(with_reducible refine (cmp_isNaN_int64.calls a1 true _ A4.out).mono ?_);rintro e w' ⟨rfl,⟨nd,rfl⟩⟩;refine ⟨_,rfl,?_⟩))
   go_ret;exact ⟨by first|rfl|(simp;done)|(simp [*];done),by repeat (first|exact Drawn0.refl _|apply Drawn0.step)⟩
  replace c6:=Bool.eq_false_iff.mpr c6;subst c6
  have H1:(some (-1))=some r:=by rw [if_neg (show ¬(false=true) by decide)] at H;exact H
  clear H;have H:=H1;clear H1;obtain rfl:=Option.some.inj H;go_enter Tryd.func102,Tryd.ntmps102
  go_wp2_with (first|((with_reducible refine gate_callee (f:=107) rfl ?_);refine goesL_ (some 8) rfl rfl Tryd.func107 (by kernel_rfl) rfl #[.int .i64 a0] rfl (by (try simp only [List.map_toArray,List.map_cons,List.map_nil]);first|done|rfl|(simp only [List.length_drop,List.length_take];rfl)) ?_;(with_reducible refine (cmp_isNaN_int64.calls a0 true _ A3.out).mono ?_);rintro e w' ⟨rfl,⟨nd,rfl⟩⟩;refine ⟨_,rfl,?_⟩)|((with_reducible refine gate_callee (f:=107) rfl ?_);refine goesL_ (some 10) rfl rfl Tryd.func107 (by kernel_rfl) rfl #[.int .i64 a1] rfl (by (try simp only [List.map_toArray,List.map_cons,List.map_nil]);first|done|rfl|(simp only [List.length_drop,List.length_take];rfl)) ?_;(with_reducible refine (cmp_isNaN_int64.calls a1 false _ A4.out).mono ?_);rintro e w' ⟨rfl,⟨nd,rfl⟩⟩;refine ⟨_,rfl,?_⟩))
  go_ret;exact ⟨by first|rfl|(simp;done)|(simp [*];done),by repeat (first|exact Drawn0.refl _|apply Drawn0.step)⟩
 replace c5:=Bool.eq_false_iff.mpr c5;subst c5
 have H1:(if t222=true then (some 1) else (if a0<a1 then (some (-1)) else (if a0>a1 then (some 1) else (some 0))))=some r:=by rw [if_neg (show ¬(false=true) by decide)] at H;exact H
 clear H;have H:=H1;clear H1
 by_cases c7:t222=true
 ·subst c7
  have H1:(some 1)=some r:=by rw [if_pos rfl] at H;exact H
  clear H;have H:=H1;clear H1;obtain rfl:=Option.some.inj H;go_enter Tryd.func102,Tryd.ntmps102
  go_wp2_with (first|((with_reducible refine gate_callee (f:=107) rfl ?_);refine goesL_ (some 8) rfl rfl Tryd.func107 (by kernel_rfl) rfl #[.int .i64 a0] rfl (by (try simp only [List.map_toArray,List.map_cons,List.map_nil]);first|done|rfl|(simp only [List.length_drop,List.length_take];rfl)) ?_;(with_reducible refine (cmp_isNaN_int64.calls a0 false _ A3.out).mono ?_);rintro e w' ⟨rfl,⟨nd,rfl⟩⟩;refine ⟨_,rfl,?_⟩)|((with_reducible refine gate_callee (f:=107) rfl ?_);refine goesL_ (some 10) rfl rfl Tryd.func107 (by kernel_rfl) rfl #[.int .i64 a1] rfl (by (try simp only [List.map_toArray,List.map_cons,List.map_nil]);first|done|rfl|(simp only [List.length_drop,List.length_take];rfl)) ?_;(with_reducible refine (cmp_isNaN_int64.calls a1 true _ A4.out).mono ?_);rintro e w' ⟨rfl,⟨nd,rfl⟩⟩;refine ⟨_,rfl,?_⟩))
  go_ret;exact ⟨by first|rfl|(simp;done)|(simp [*];done),by repeat (first|exact Drawn0.refl _|apply Drawn0.step)⟩
 replace c7:=Bool.eq_false_iff.mpr c7;subst c7
 have H1:(if a0<a1 then (some (-1)) else (if a0>a1 then (some 1) else (some 0)))=some r:=by rw [if_neg (show ¬(false=true) by decide)] at H;exact H
 clear H;have H:=H1;clear H1
 by_cases c8:a0<a1
 rotate_left
 focus
  rw [if_neg c8] at H;have c8b0:decide (a0<a1)=false:=decide_eq_false c8;clear c8
  by_cases c9:a0>a1
  rotate_left
  focus
   rw [if_neg c9] at H;have c9b0:decide (a1<a0)=false:=decide_eq_false c9
  rotate_right
  focus
   rw [if_pos c9] at H;have c9b0:decide (a1<a0)=true:=decide_eq_true c9
  all_goals
   clear c9
 rotate_right
 focus
  rw [if_pos c8] at H;have c8b0:decide (a0<a1)=true:=decide_eq_true c8;clear c8
 all_goals
  obtain rfl:=Option.some.inj H;go_enter Tryd.func102,Tryd.ntmps102
  go_wp2_with (first|((with_reducible refine gate_callee (f:=107) rfl ?_);refine goesL_ (some 8) rfl rfl Tryd.func107 (by kernel_rfl) rfl #[.int .i64 a0] rfl (by (try simp only [List.map_toArray,List.map_cons,List.map_nil]);first|done|rfl|(simp only [List.length_drop,List.length_take];rfl)) ?_;(with_reducible refine (cmp_isNaN_int64.calls a0 false _ A3.out).mono ?_);rintro e w' ⟨rfl,⟨nd,rfl⟩⟩;refine ⟨_,rfl,?_⟩)|((with_reducible refine gate_callee (f:=107) rfl ?_);refine goesL_ (some 10) rfl rfl Tryd.func107 (by kernel_rfl) rfl #[.int .i64 a1] rfl (by (try simp only [List.map_toArray,List.map_cons,List.map_nil]);first|done|rfl|(simp only [List.length_drop,List.length_take];rfl)) ?_;(with_reducible refine (cmp_isNaN_int64.calls a1 false _ A4.out).mono ?_);rintro e w' ⟨rfl,⟨nd,rfl⟩⟩;refine ⟨_,rfl,?_⟩))
  go_ret;exact ⟨by first|rfl|(simp;done)|(simp [*];done),by repeat (first|exact Drawn0.refl _|apply Drawn0.step)⟩
def slices_Compare_int64.l0:Nat→List Int→List Int→List Int→Int→Int→Option (Int)
 | 0,_,_,_,_,_=>none
 | k+1,x0,x1,x9,x10,x11=>if x11<x10 then (if 0≤x11 then (if x11<(x9.length:Int) then (if x11≥(x1.length:Int) then (some 1) else (if x11<(x1.length:Int) then ((cmp_Compare_int64.f (rd x9 x11) (rd x1 x11)).bind fun t225=>(if t225=0 then (slices_Compare_int64.l0 k x0 x1 x9 x10 (wrap64 (x11+1))) else (some t225))) else (none))) else (none)) else (none)) else (if (x0.length:Int)<(x1.length:Int) then (some (-1)) else (some 0))
def slices_Compare_int64.f (k:Nat) (l0:List Int) (l1:List Int):Option (Int):=slices_Compare_int64.l0 k l0 l1 l0 (l0.length:Int) 0
set_option maxHeartbeats 8000000 in
set_option maxRecDepth 100000 in
theorem slices_Compare_int64.calls (k:Nat) (A0:Option Addr) (c0:Nat) (l0:List Int) (A1:Option Addr) (c1:Nat) (l1:List Int) (r:Int) (w:World) (hr0:Kd.C (Kd.int .i64) w A0 l0.length l0) (hc0:l0.length≤c0) (hr1:Kd.C (Kd.int .i64) w A1 l1.length l1) (hc1:l1.length≤c1) (h:slices_Compare_int64.f k l0 l1=some r) :
  Calls Tryd.prog 96 #[.slice A0 l0.length c0,.slice A1 l1.length c1] w fun e w'=>e=.returned (.int .i64 r)∧Drawn0 w w':=by
 have HR0:=zN hr0;have HC0:=zN hc0;clear hr0 hc0;have HR1:=zN hr1;have HC1:=zN hc1;clear hr1 hc1;have H:(slices_Compare_int64.l0 k l0 l1 l0 (l0.length:Int) 0)=some r:=h;clear h;have H':=zN H;clear H;go_enter Tryd.func96,Tryd.ntmps96;go_wp2
 go_loopg [11] k (fun kq v11 w'=>∃(x11_1:Int),v11=.int .i64 x11_1∧Aside0 (slices_Compare_int64.l0 kq l0 l1 l0 (l0.length:Int) x11_1=some r)∧Aside0 (kq≤k)∧Drawn0 w w')
 case atStart=>exact ⟨(0),(by first|rfl|(simp;done)|(simp [*];done)),H',⟨Nat.le_refl _⟩,by repeat (first|exact Drawn0.refl _|apply Drawn0.step)⟩
 clear H';(try clear c1);(try clear p2);obtain ⟨x11_1,rfl,HA,HK1,⟨m1,rfl⟩⟩:=hrel
 cases gk with
 | zero=>exact absurd HA.out (by simp [slices_Compare_int64.l0])
 | succ k1=>
  have H:=HA.out;clear HA;simp only [slices_Compare_int64.l0] at H
  by_cases c3:x11_1<(l0.length:Int)
  ·rw [if_pos c3] at H;have c3b0:decide (x11_1<(l0.length:Int))=true:=decide_eq_true c3;clear c3
   by_cases c4:0≤x11_1
   rotate_left
   ·rw [if_neg c4] at H;exact absurd H (by simp)
   rw [if_pos c4] at H;have c4b0:decide (0≤x11_1)=true:=decide_eq_true c4;clear c4
   by_cases c5:x11_1<(l0.length:Int)
   rotate_left
   ·rw [if_neg c5] at H;exact absurd H (by simp)
   rw [if_pos c5] at H;have c5b0:decide (x11_1<(l0.length:Int))=true:=decide_eq_true c5;clear c5
   by_cases c6:x11_1≥(l1.length:Int)
   ·rw [if_pos c6] at H;have c6b0:decide ((l1.length:Int)≤x11_1)=true:=decide_eq_true c6;clear c6;obtain rfl:=Option.some.inj H;have p223:0≤(x11_1:Int):=zS (by first|(with_reducible assumption)|assumption);have q223:x11_1<(l0.length:Int):=zS (by first|(with_reducible assumption)|assumption);obtain ⟨ad223,e223,hx223_0⟩:=Kd.at_int HR0.out x11_1 p223 q223;cases e223;replace p223:=eq_true p223;replace q223:=eq_true q223;go_wp2;go_ret;exact ⟨by first|rfl|(simp;done)|(simp [*];done),by repeat (first|exact Drawn0.refl _|apply Drawn0.step)⟩
   rw [if_neg c6] at H;have c6b0:decide ((l1.length:Int)≤x11_1)=false:=decide_eq_false c6;clear c6
   by_cases c7:x11_1<(l1.length:Int)
   rotate_left
   ·rw [if_neg c7] at H;exact absurd H (by simp)
   rw [if_pos c7] at H;have c7b0:decide (x11_1<(l1.length:Int))=true:=decide_eq_true c7;clear c7;replace H:=Option.bind_eq_some_iff.mp H;obtain ⟨t225,A80,H⟩:=H;replace H:(if t225=0 then (slices_Compare_int64.l0 k1 l0 l1 l0 (l0.length:Int) (wrap64 (x11_1+1))) else (some t225))=some r:=H;have A8:=zN A80;clear A80
   by_cases c9:t225=0
   rotate_left
   focus
    rw [if_neg c9] at H;have c9b0:(t225 == 0)=false:=beq_eq_false_iff_ne.mpr c9;have c9b1:(t225 != 0)=true:=bne_iff_ne.mpr c9;obtain rfl:=Option.some.inj H
   rotate_right
   focus
    rw [if_pos c9] at H;have c9b0:(t225 == 0)=true:=beq_iff_eq.mpr c9;have c9b1:(t225 != 0)=false:=bne_eq_false_iff_eq.mpr c9;clear c9;have H':=zN H;clear H
   all_goals
    have p223:0≤(x11_1:Int):=zS (by first|(with_reducible assumption)|assumption);have q223:x11_1<(l0.length:Int):=zS (by first|(with_reducible assumption)|assumption);obtain ⟨ad223,e223,hx223_0⟩:=Kd.at_int HR0.out x11_1 p223 q223;cases e223;replace p223:=eq_true p223;replace q223:=eq_true q223;have p224:0≤(x11_1:Int):=zS (by first|(with_reducible assumption)|assumption);have q224:x11_1<(l1.length:Int):=zS (by first|(with_reducible assumption)|assumption);obtain ⟨ad224,e224,hx224_0⟩:=Kd.at_int HR1.out x11_1 p224 q224;cases e224;replace p224:=eq_true p224;replace q224:=eq_true q224
    go_wp2_with (first|((with_reducible refine gate_callee (f:=102) rfl ?_);refine goesL_ (some 26) rfl rfl Tryd.func102 (by kernel_rfl) rfl #[.int .i64 (rd l0 x11_1),.int .i64 (rd l1 x11_1)] rfl (by (try simp only [List.map_toArray,List.map_cons,List.map_nil]);first|done|rfl|(simp only [List.length_drop,List.length_take];rfl)) ?_;(with_reducible refine (cmp_Compare_int64.calls (rd l0 x11_1) (rd l1 x11_1) t225 _ A8.out).mono ?_);rintro e w' ⟨rfl,⟨nd,rfl⟩⟩;refine ⟨_,rfl,?_⟩))
   ·go_roundg k1
    case measure=>have:=HK1.out;omega
    case rel=>exact ⟨(wrap64 (x11_1+1)),(by first|rfl|(simp;done)|(simp [*];done)),H',⟨by have:=HK1.out;omega⟩,by repeat (first|exact Drawn0.refl _|apply Drawn0.step)⟩
   go_ret;exact ⟨by first|rfl|(simp;done)|(simp [*];done),by repeat (first|exact Drawn0.refl _|apply Drawn0.step)⟩
  rw [if_neg c3] at H;have c3b0:decide (x11_1<(l0.length:Int))=false:=decide_eq_false c3;clear c3
  by_cases c10:(l0.length:Int)<(l1.length:Int)
  ·rw [if_pos c10] at H;have c10b0:decide ((l0.length:Int)<(l1.length:Int))=true:=decide_eq_true c10;have c10b1:decide (l0.length<l1.length)=true:=decide_eq_true (Int.ofNat_lt.mp c10);clear c10;obtain rfl:=Option.some.inj H;go_wp2;go_ret;exact ⟨by first|rfl|(simp;done)|(simp [*];done),by repeat (first|exact Drawn0.refl _|apply Drawn0.step)⟩
  rw [if_neg c10] at H;have c10b0:decide ((l0.length:Int)<(l1.length:Int))=false:=decide_eq_false c10;have c10b1:decide (l0.length<l1.length)=false:=decide_eq_false (fun h=>c10 (Int.ofNat_lt.mpr h));clear c10;obtain rfl:=Option.some.inj H;go_wp2;go_ret;exact ⟨by first|rfl|(simp;done)|(simp [*];done),by repeat (first|exact Drawn0.refl _|apply Drawn0.step)⟩
def subsOf (n set:Nat):List Int:=((List.range n).filter fun i=>set.testBit i).map fun i:Nat=>(i:Int)
theorem bits_step:∀x,x<256→x≠0→subsOf 8 x=((Lib.ctz 64 x:Nat):Int) :: subsOf 8 (x &&& (x-1))∧(x &&& (x-1))<x:=by decide +kernel
theorem bits_all:∀n,n<9→∀s,s<2 ^ n→subsOf n s=subsOf 8 s∧s<256:=by decide +kernel
theorem and_less (x:Nat) (hx:x<256) (h0:x≠0):bits .and .u64 (x:Int) ((x:Int)-1)=((x &&& (x-1):Nat):Int):=by
 rw [show ((x:Int)-1)=((x-1:Nat):Int) by omega,bits_and_u64_nat x (x-1) (by omega) (by omega)]
theorem subs_len (n s:Nat):(subsOf n s).length≤n:=by
 unfold subsOf
 rw [List.length_map]
 exact Nat.le_trans (List.length_filter_le _ _) (by rw [List.length_range];exact Nat.le_refl _)
def lexlt:List Int→List Int→Bool
 | _,[]=>false
 | [],_ :: _=>true
 | x :: xs,y :: ys=>decide (x<y)||(decide (x=y)&&lexlt xs ys)
def updS (sc:List Int→Int) (o:List Int) (s:List Int×Int):List Int×Int:=if sc o>s.2∨(sc o=s.2∧sc o≥0∧lexlt o s.1=true) then (o,sc o) else s
def bestS (sc:List Int→Int) (n:Nat):List Int×Int:=(List.range (2 ^ n)).foldl (fun s set=>updS sc (subsOf n set) s) ([],-1)
theorem pow_wrap:∀n:Nat,n<9→IntKind.u64.wrap ((2:Int) ^ n)=((2 ^ n:Nat):Int):=by decide
def stepS (sc:List Int→Int) (n:Nat) (s:List Int×Int) (set:Nat):List Int×Int:=updS sc (subsOf n set) s
theorem Compare_ev (a b:List Int) (ha:a.length≤1048576):∀(cs pre ds pb:List Int),a=pre++cs→b=pb++ds→pb.length=pre.length→∃r:Int,Ev (fun k=>slices_Compare_int64.l0 k a b a (a.length:Int) (pre.length:Int)) r∧decide (r<0)=lexlt cs ds:=by
 intro cs
 induction cs with
 | nil=>
  intro pre ds pb hpre hb hl
  have h1:a.length=pre.length:=by rw [hpre];simp
  have h2:b.length=pb.length+ds.length:=by rw [hb];simp
  cases ds with
  | nil=>
   refine ⟨0,Ev.step (fun k=>by rw [slices_Compare_int64.l0]) ?_,rfl⟩
   simp only [List.length_nil] at h2
   simp only [show ¬(pre.length:Int)<(a.length:Int) by omega,show ¬(a.length:Int)<(b.length:Int) by omega,↓reduceIte]
   exact Ev.now _
  | cons d ds=>
   refine ⟨-1,Ev.step (fun k=>by rw [slices_Compare_int64.l0]) ?_,rfl⟩
   simp only [List.length_cons] at h2
   simp only [show ¬(pre.length:Int)<(a.length:Int) by omega,show (a.length:Int)<(b.length:Int) by omega,↓reduceIte]
   exact Ev.now _
 | cons c cs ih=>
  intro pre ds pb hpre hb hl
  have h1:a.length=pre.length+cs.length+1:=by rw [hpre];simp;omega
  have h2:b.length=pb.length+ds.length:=by rw [hb];simp
  have hc:rd a (pre.length:Int)=c:=by rw [hpre];simp [rd,List.getD_eq_getElem?_getD]
  have hw:wrap64 ((pre.length:Int)+1)=((pre.length+1:Nat):Int):=by unfold wrap64;omega
  cases ds with
  | nil=>
   refine ⟨1,Ev.step (fun k=>by rw [slices_Compare_int64.l0]) ?_,rfl⟩
   simp only [List.length_nil] at h2
   simp only [show (pre.length:Int)<(a.length:Int) by omega,show (0:Int)≤(pre.length:Int) by omega,show (pre.length:Int)≥(b.length:Int) by omega,↓reduceIte]
   exact Ev.now _
  | cons d ds=>
   simp only [List.length_cons] at h2
   have hd:rd b (pre.length:Int)=d:=by rw [hb,← hl];simp [rd,List.getD_eq_getElem?_getD]
   have hcmp:cmp_Compare_int64.f c d=some (if c<d then -1 else if c>d then 1 else 0):=by
    unfold cmp_Compare_int64.f cmp_isNaN_int64.f
    by_cases h:c<d
    ·simp [h]
    ·by_cases h' : c>d
     ·simp [h,h']
     ·simp [h,h']
   obtain ⟨r,hr,hlt⟩:=ih (pre++[c]) ds (pb++[d]) (by rw [hpre];simp) (by rw [hb];simp) (by simp [hl])
   simp only [List.length_append,List.length_cons,List.length_nil,Nat.zero_add] at hr
   by_cases h:c<d
   ·refine ⟨-1,Ev.step (fun k=>by rw [slices_Compare_int64.l0]) ?_,by simp [lexlt,h]⟩
    simp only [show (pre.length:Int)<(a.length:Int) by omega,show (0:Int)≤(pre.length:Int) by omega,show ¬(pre.length:Int)≥(b.length:Int) by omega,show (pre.length:Int)<(b.length:Int) by omega,↓reduceIte,hc,hd,hcmp,h,Option.bind_some,show ¬(-1:Int)=0 by omega]
    exact Ev.now _
   ·by_cases h' : c>d
    ·refine ⟨1,Ev.step (fun k=>by rw [slices_Compare_int64.l0]) ?_,by simp [lexlt,h];omega⟩
     simp only [show (pre.length:Int)<(a.length:Int) by omega,show (0:Int)≤(pre.length:Int) by omega,show ¬(pre.length:Int)≥(b.length:Int) by omega,show (pre.length:Int)<(b.length:Int) by omega,↓reduceIte,hc,hd,hcmp,h,h',Option.bind_some,show ¬(1:Int)=0 by omega]
     exact Ev.now _
    ·refine ⟨r,Ev.step (fun k=>by rw [slices_Compare_int64.l0]) ?_,by rw [hlt];simp [lexlt,show c=d by omega]⟩
     simp only [show (pre.length:Int)<(a.length:Int) by omega,show (0:Int)≤(pre.length:Int) by omega,show ¬(pre.length:Int)≥(b.length:Int) by omega,show (pre.length:Int)<(b.length:Int) by omega,↓reduceIte,hc,hd,hcmp,h,h',Option.bind_some,hw]
     exact hr
theorem Compare_some (a b:List Int) (ha:a.length≤1048576):∃k r,slices_Compare_int64.f k a b=some r∧decide (r<0)=lexlt a b:=by
 obtain ⟨r,hr,h⟩:=Compare_ev a b ha a [] b [] rfl rfl rfl
 obtain ⟨k,hk⟩:=Ev.rounds hr
 exact ⟨k,r,hk,h⟩
set_option maxHeartbeats 4000000 in
set_option maxRecDepth 100000 in
theorem bestSubset_calls (W0:World) (n:Nat) (g:Nat) (lb:Array Value) (sc:List Int→Int) (hn:n≤8) (hT:TabOK W0)
  (eg:∀args w,(callFunc g args).run Tryd.prog w=.ok (.enter g args) w)
  (hsc:∀(W:World) (A:Option Addr) (c:Nat) (o:List Int) (s:Nat),Below W0.heap.size W0 W→Kd.C (Kd.int .i64) W A o.length o→o.length≤c→s<2 ^ n→o=subsOf n s →
   Calls Tryd.prog g (#[.slice A o.length c]++lb) W fun e w'=>e=.returned (.int .i64 (sc o))∧Below W.heap.size W w') :
  Calls Tryd.prog 76 #[.int .i64 (n:Int),.func (.func g) #[] lb] W0 fun e w'=>
    ∃v:Value,e=.returned (.tuple #[v,.int .i64 (bestS sc n).2])∧Kd.R (Kd.int .i64) 2 w' W0.heap.size (fun _=>True) v (bestS sc n).1∧Below W0.heap.size W0 w':=by
 obtain ⟨rb,hrb⟩ : ∃rb,bestS sc n=rb:=⟨_,rfl⟩
 rw [hrb]
 have HRB:=Aside0.mk hrb
 clear hrb
 have HT:=Aside0.mk hT
 have HSC:=Aside0.mk hsc
 have hw2:IntKind.u64.wrap ((2:Int) ^ n)=((2 ^ n:Nat):Int):=pow_wrap n (by omega)
 have hb:=bits_all n (by omega)
 obtain ⟨N,hN⟩ : ∃N:Nat,2 ^ n=N:=⟨_,rfl⟩
 rw [hN] at hw2 hb
 have hN256:N≤256:=by rw [← hN];exact Nat.pow_le_pow_right (by omega) hn
 have HN:=Aside0.mk hN
 have HBI:=Aside0.mk hb
 clear hT hsc hN hb
 go_enter Tryd.func76,Tryd.ntmps76
 go_wp2
 go_loopg [6,7,14] N (fun gg v6 v7 v14 w'=>∃(s:Nat) (bl:List Int) (bm:Int),s≤N∧N-s≤gg∧v7=.int .i64 bm∧v14=.int .u64 (s:Int)∧Aside0 ((List.range s).foldl (stepS sc n) ([],-1)=(bl,bm))∧Aside0 (Kd.R (Kd.int .i64) 2 w' W0.heap.size (fun _=>True) v6 bl)∧Aside0 (Below W0.heap.size W0 w'))
 case atStart=>exact ⟨0,[],-1,by omega,by omega,rfl,rfl,⟨rfl⟩,⟨Kd.R_nil _ _ _ _ _⟩,⟨Below.refl _ _⟩⟩
 case round=>
  obtain ⟨s,bl,bm,hs,hg,rfl,rfl,HF,HR,HB⟩:=hrel
  obtain ⟨wo,rfl⟩ : ∃wo,wo=wr:=⟨wr,rfl⟩
  by_cases hlt:s<N
  ·have hlti:(s:Int)<(N:Int):=by omega
   go_wp2_with ((with_reducible refine gate_dst (N:=17) rfl ?_);refine Kd.R_lit (Kd.int .i64) _ 2 ?hg (N:=17) ?hd (xs:=([]:List Int)) (inner:=[]) (ok:=fun _=>True) (okp:=fun _=>True) ?hr ?hp (fun _ hk=>hk) trivial (Below.refl _ _) (Nat.le_refl _) (by simp) ?_;(case hd=>rfl);(case hg=>rfl);(case hr=>first|(go_simp;done)|(go_simp;rfl));(case hp=>exact (Reps.none _ _));intro v17 w17 ho hb hg_ hnew_;clear hg_ hnew_;have HO17:=Aside0.mk ho;have HB17:=Aside0.mk hb;clear ho hb)
   go_loopg [9,10] s (fun gg v9 v10 w'=>∃(o:List Int) (x:Nat),x≤gg∧x<256∧v10=.int .u64 (x:Int)∧Aside0 (o++subsOf 8 x=subsOf n s)∧Aside0 (Kd.R (Kd.int .i64) 2 w' wo.heap.size (fun _=>True) v9 o)∧Aside0 (Below wo.heap.size wo w'))
   case atStart=>
    have h1:=(HBI.out s hlt)
    exact ⟨[],s,Nat.le_refl _,h1.2,rfl,⟨by rw [List.nil_append,h1.1]⟩,HO17,HB17⟩
   case round=>
    clear HO17 HB17
    obtain ⟨o,x,hxg,hx,rfl,HO,HRo,HBo⟩:=hrel
    obtain ⟨Ao,co,eo⟩:=Kd.R_slice HRo.out
    subst eo
    have holen:o.length≤1000:=by
     have h1:=congrArg List.length HO.out
     have h2:=subs_len n s
     rw [List.length_append] at h1
     omega
    have HOL:=Aside0.mk holen
    clear holen
    by_cases h0:x=0
    ·subst h0
     have ho:o=subsOf n s:=by have:=HO.out;rwa [show subsOf 8 0=[] from rfl,List.append_nil] at this
     have HOE:=Aside0.mk ho
     have hsn:stepS sc n (bl,bm) s=updS sc o (bl,bm):=by rw [ho];rfl
     have hfold:(List.range (s+1)).foldl (stepS sc n) ([],-1)=updS sc o (bl,bm):=by rw [List.range_succ,List.foldl_append,HF.out,← hsn];rfl
     have hcall:=fun (W:World) (hW:Below W0.heap.size W0 W) (hC:Kd.C (Kd.int .i64) W Ao o.length o) (hc:o.length≤co)=>HSC.out W Ao co o s hW hC hc (by rw [HN.out];exact hlt) ho
     have HUP:=Aside0.mk hfold
     obtain ⟨y,hy⟩ : ∃y,sc o=y:=⟨_,rfl⟩
     rw [hy] at hcall
     have HY:=Aside0.mk hy
     have HCALL:=Aside0.mk hcall
     have hcap:=(Kd.R_reads' HRo.out).2.1
     have HBB:=Aside0.mk (below_step HB.out HBo.out)
     clear ho hsn hfold hy hcall HSC
     have HRb:=Aside0.mk (Kd.R_below HR.out HBo.out)
     obtain ⟨Ab,cb,eb⟩:=Kd.R_slice HRb.out
     subst eb
     have hcapb:=(Kd.R_reads' HRb.out).2.1
     by_cases c1:y>bm
     ·have c1b:decide (y>bm)=true:=decide_eq_true c1
      have HU:=Aside0.mk (HUP.out.trans (show updS sc o (bl,bm)=(o,y) by unfold updS;rw [HY.out,if_pos (.inl c1)]))
      clear HUP c1
      go_wp2_with (first|(go_at_fn g;refine (HCALL.out _ (below_step HB.out (by repeat (first|exact HBo.out|apply below_alloc|apply pw_below_drewN|apply below_drew1))) (by repeat (first|exact (Kd.R_reads' HRo.out).2.2|(with_reducible refine Kd.C_alloc ?_ _)|(with_reducible refine Kd.C_drewN ?_ _)|(with_reducible refine Kd.C_drew ?_))) hcap).mono ?_;rintro e w1 ⟨rfl,hb1⟩;have HB1:=Aside0.mk hb1;clear hb1))
      go_roundg (N-(s+1))
      case measure=>omega
      case rel=>exact ⟨s+1,o,y,by omega,by omega,rfl,by go_num,HU,⟨Kd.R_lower (Kd.R_below HRo.out HB1.out) HB.out.size⟩,⟨below_step HBB.out HB1.out⟩⟩
     ·have c1b:decide (y>bm)=false:=decide_eq_false c1
      by_cases c2:y=bm
      ·by_cases c3:y≥0
       ·have c3b:decide (y≥0)=true:=decide_eq_true c3
        obtain ⟨kc,rc,hcmp,hlx⟩:=Compare_some o bl (by have:=HOL.out;omega)
        have HCMP:=Aside0.mk hcmp
        cases hq:lexlt o bl with
        | true=>
         have c4b:decide (rc<0)=true:=hlx.trans hq
         have HU:=Aside0.mk (HUP.out.trans (show updS sc o (bl,bm)=(o,y) by unfold updS;rw [HY.out,if_pos (.inr ⟨c2,c3,hq⟩)]))
         have c2b:(y == bm)=true:=by simp [c2]
         clear HUP c1 c2 c3 hlx hq hcmp
         go_wp2_with (first|(go_at_fn g;refine (HCALL.out _ (below_step HB.out (by repeat (first|exact HBo.out|apply below_alloc|apply pw_below_drewN|apply below_drew1))) (by repeat (first|exact (Kd.R_reads' HRo.out).2.2|(with_reducible refine Kd.C_alloc ?_ _)|(with_reducible refine Kd.C_drewN ?_ _)|(with_reducible refine Kd.C_drew ?_))) hcap).mono ?_;rintro e w1 ⟨rfl,hb1⟩;have HB1:=Aside0.mk hb1;clear hb1)|(go_at_call 96;refine (slices_Compare_int64.calls kc Ao co o Ab cb bl rc _ (Kd.C_below (Kd.R_reads' HRo.out).2.2 HB1.out) hcap (Kd.C_below (Kd.R_reads' HRb.out).2.2 HB1.out) hcapb HCMP.out).mono ?_;rintro e w2 ⟨rfl,⟨nd,rfl⟩⟩))
         go_roundg (N-(s+1))
         case measure=>omega
         case rel=>exact ⟨s+1,o,y,by omega,by omega,rfl,by go_num,HU,⟨Kd.R_drewN (Kd.R_lower (Kd.R_below HRo.out HB1.out) HB.out.size) _⟩,⟨pw_below_drewN (below_step HBB.out HB1.out) _⟩⟩
        | false=>
         have c4b:decide (rc<0)=false:=hlx.trans hq
         have HU:=Aside0.mk (HUP.out.trans (show updS sc o (bl,bm)=(bl,bm) by unfold updS;rw [HY.out,if_neg (fun h=>h.elim c1 (fun h=>by have:=h.2.2;rw [hq] at this;cases this))]))
         have c2b:(y == bm)=true:=by simp [c2]
         clear HUP c1 c2 c3 hlx hq hcmp
         go_wp2_with (first|(go_at_fn g;refine (HCALL.out _ (below_step HB.out (by repeat (first|exact HBo.out|apply below_alloc|apply pw_below_drewN|apply below_drew1))) (by repeat (first|exact (Kd.R_reads' HRo.out).2.2|(with_reducible refine Kd.C_alloc ?_ _)|(with_reducible refine Kd.C_drewN ?_ _)|(with_reducible refine Kd.C_drew ?_))) hcap).mono ?_;rintro e w1 ⟨rfl,hb1⟩;have HB1:=Aside0.mk hb1;clear hb1)|(go_at_call 96;refine (slices_Compare_int64.calls kc Ao co o Ab cb bl rc _ (Kd.C_below (Kd.R_reads' HRo.out).2.2 HB1.out) hcap (Kd.C_below (Kd.R_reads' HRb.out).2.2 HB1.out) hcapb HCMP.out).mono ?_;rintro e w2 ⟨rfl,⟨nd,rfl⟩⟩))
         go_roundg (N-(s+1))
         case measure=>omega
         case rel=>exact ⟨s+1,bl,bm,by omega,by omega,rfl,by go_num,HU,⟨Kd.R_drewN (Kd.R_below HRb.out HB1.out) _⟩,⟨pw_below_drewN (below_step HBB.out HB1.out) _⟩⟩
       ·have c3b:decide (y≥0)=false:=decide_eq_false c3
        have HU:=Aside0.mk (HUP.out.trans (show updS sc o (bl,bm)=(bl,bm) by unfold updS;rw [HY.out,if_neg (fun h=>h.elim c1 (fun h=>c3 h.2.1))]))
        have c2b:(y == bm)=true:=by simp [c2]
        clear HUP c1 c2 c3
        go_wp2_with (first|(go_at_fn g;refine (HCALL.out _ (below_step HB.out (by repeat (first|exact HBo.out|apply below_alloc|apply pw_below_drewN|apply below_drew1))) (by repeat (first|exact (Kd.R_reads' HRo.out).2.2|(with_reducible refine Kd.C_alloc ?_ _)|(with_reducible refine Kd.C_drewN ?_ _)|(with_reducible refine Kd.C_drew ?_))) hcap).mono ?_;rintro e w1 ⟨rfl,hb1⟩;have HB1:=Aside0.mk hb1;clear hb1))
        go_roundg (N-(s+1))
        case measure=>omega
        case rel=>exact ⟨s+1,bl,bm,by omega,by omega,rfl,by go_num,HU,⟨Kd.R_below HRb.out HB1.out⟩,⟨below_step HBB.out HB1.out⟩⟩
      ·have c2b:(y == bm)=false:=by simp [c2]
       have HU:=Aside0.mk (HUP.out.trans (show updS sc o (bl,bm)=(bl,bm) by unfold updS;rw [HY.out,if_neg (fun h=>h.elim c1 (fun h=>c2 h.1))]))
       clear HUP c1 c2
       go_wp2_with (first|(go_at_fn g;refine (HCALL.out _ (below_step HB.out (by repeat (first|exact HBo.out|apply below_alloc|apply pw_below_drewN|apply below_drew1))) (by repeat (first|exact (Kd.R_reads' HRo.out).2.2|(with_reducible refine Kd.C_alloc ?_ _)|(with_reducible refine Kd.C_drewN ?_ _)|(with_reducible refine Kd.C_drew ?_))) hcap).mono ?_;rintro e w1 ⟨rfl,hb1⟩;have HB1:=Aside0.mk hb1;clear hb1))
       go_roundg (N-(s+1))
       case measure=>omega
       case rel=>exact ⟨s+1,bl,bm,by omega,by omega,rfl,by go_num,HU,⟨Kd.R_below HRb.out HB1.out⟩,⟨below_step HBB.out HB1.out⟩⟩
    ·have hpos:(x:Int)>0:=by omega
     have hposb:decide ((x:Int)>0)=true:=decide_eq_true hpos
     obtain ⟨hst,hls⟩:=bits_step x hx h0
     obtain ⟨y,hy⟩ : ∃y:Int,((Lib.ctz 64 x:Nat):Int)=y:=⟨_,rfl⟩
     have hcall:=fun (W:World) (hW:TabOK W)=>TZ_calls x h0 (by omega) W hW
     rw [hy] at hst hcall
     have hand:=and_less x hx h0
     obtain ⟨x2,hx2⟩ : ∃x2:Nat,x &&& (x-1)=x2:=⟨_,rfl⟩
     rw [hx2] at hst hls hand
     have hx256:x2<256:=by omega
     have HST:=Aside0.mk hst
     have HCALL:=Aside0.mk hcall
     clear hst hcall hy hx2
     obtain ⟨o2,ho2⟩ : ∃o2,o++[y]=o2:=⟨_,rfl⟩
     have HO2:=Aside0.mk ho2
     clear ho2
     go_wp2_with (first
      | (go_at_call 95;refine (HCALL.out _ (HT.out.below (below_step HB.out (by repeat (first|exact HBo.out|apply below_alloc|apply pw_below_drewN|apply below_drew1))))).mono ?_;rintro e w1 ⟨rfl,rfl⟩)
      | ((with_reducible refine gate_builtin (b:=.append) (xs:=#[.tmp 25,.tmp 28]) rfl ?_);at_builtin;refine Kd.R_append (Kd.int .i64) (w0:=wo) wo.heap.size rfl (.tmp 25) (.tmp 28) 31 2 (.int .i64 0) 8 rfl Tryd.underlying31 info2 rfl (by decide) (by omega) (.slice Ao o.length co) o y [.int .i64 y] (fun _=>True) (fun _=>False) rfl rfl ?aP (fun _ hk=>hk.elim) ?aF ?aO ?aB ?aS ?aL ?_;(case aP=>exact rfl);(case aB=>exact (by repeat (first|exact HBo.out|apply below_alloc|apply pw_below_drewN|apply below_drew1)));(case aF=>exact (fun _ _=>trivial));(case aO=>exact (by (with_reducible repeat (first|apply Kd.R_alloc|apply Kd.R_drewN|apply Kd.R_drew));exact HRo.out));(case aS=>exact (below_size (by repeat (first|exact HBo.out|apply below_alloc|apply pw_below_drewN|apply below_drew1))));(case aL=>have:=HOL.out;omega);intro v29 w29 ho hb hg hat;rw [HO2.out] at ho;have HO29:=Aside0.mk ho;have HB29:=Aside0.mk hb;clear ho hb hg hat))
     go_roundg x2
     case measure=>omega
     case rel=>exact ⟨o2,x2,Nat.le_refl _,hx256,by first|rfl|rw [hand],⟨by rw [← HO2.out,List.append_assoc,← HO.out,HST.out];rfl⟩,HO29,HB29⟩
  ·have hlti:¬(s:Int)<(N:Int):=by omega
   have hsN:s=N:=by omega
   obtain rfl:rb=(bl,bm):=by rw [← HRB.out,← HF.out,hsN,← HN.out];rfl
   go_wp2
   go_ret2
   exact ⟨_,rfl,HR.out,HB.out⟩
def impl_picked_impl_Garment.l0:Nat→List (S44)→List (S44)→List Int→Int→Int→Option ((List (S44)))
 | 0,_,_,_,_,_=>none
 | k+1,x0,x5,x9,x10,x11=>if x11<x10 then (if 0≤x11 then (if x11<(x9.length:Int) then (if 0≤(rd x9 x11) then (if (rd x9 x11)<(x0.length:Int) then (if x5.length<23456248059221 then (impl_picked_impl_Garment.l0 k x0 (x5++[(⟨(rd_T44 x0 (rd x9 x11)).f0,(rd_T44 x0 (rd x9 x11)).f1,(rd_T44 x0 (rd x9 x11)).f2,(rd_T44 x0 (rd x9 x11)).f3⟩ : S44)]) x9 x10 (wrap64 (x11+1))) else (none)) else (none)) else (none)) else (none)) else (none)) else (some x5)
def impl_picked_impl_Garment.f (k:Nat) (l0:List (S44)) (l1:List Int):Option ((List (S44))):=impl_picked_impl_Garment.l0 k l0 (([]:List (S44))) l1 (l1.length:Int) 0
set_option maxHeartbeats 8000000 in
set_option maxRecDepth 100000 in
theorem impl_picked_impl_Garment.calls (k:Nat) (A0:Option Addr) (c0:Nat) (l0:List (S44)) (A1:Option Addr) (c1:Nat) (l1:List Int) (r:List (S44)) (w:World) (hr0:Kd.C k44 w A0 l0.length l0) (hc0:l0.length≤c0) (hr1:Kd.C (Kd.int .i64) w A1 l1.length l1) (hc1:l1.length≤c1) (h:impl_picked_impl_Garment.f k l0 l1=some r) :
  Calls Tryd.prog 78 #[.slice A0 l0.length c0,.slice A1 l1.length c1] w fun e w'=>∃v0_:Value,e=.returned (v0_)∧Kd.R k44 44 w' w.heap.size (fun _=>True) v0_ r∧Below w.heap.size w w':=by
 have hu44:=Tryd.underlying44;have HR0:=zN hr0;have HC0:=zN hc0;clear hr0 hc0;have HR1:=zN hr1;have HC1:=zN hc1;clear hr1 hc1;have HB:=zN (Below.refl w.heap.size w);have H:(impl_picked_impl_Garment.l0 k l0 (([]:List (S44))) l1 (l1.length:Int) 0)=some r:=h;clear h;obtain ⟨y226,hy226⟩ : ∃y_:List (S44),y_=(([]:List (S44))):=⟨_,rfl⟩
 replace H:(impl_picked_impl_Garment.l0 k l0 y226 l1 (l1.length:Int) 0)=some r:=by first|(rw [hy226];with_reducible exact H)|(have H2_:=(Option.bind_some _ _).symm.trans H;rw [hy226];with_reducible exact H2_)|(have H2_:=(Option.bind_some _ _).symm.trans H;with_reducible exact H2_)|with_reducible exact H|(rw [hy226];exact H)|exact H
 have Ny226:=zN hy226;clear hy226;have H':=zN H;clear H;go_enter Tryd.func78,Tryd.ntmps78
 go_wp2_with (first|((with_reducible refine gate_dst (N:=8) rfl ?_);refine Kd.R_lit k44 _ 44 ?hg (N:=8) ?hd (xs:=([]:List (S44))) (inner:=[]) (ok:=fun _=>True) (okp:=fun _=>True) ?hr ?hp (fun _ hk=>hk) trivial (Below.refl _ _) (Nat.le_refl _) (by simp) ?_;(case hd=>rfl);(case hg=>rfl);(case hr=>first|(go_simp;done)|(go_simp;rfl));(case hp=>exact (Reps.none _ _));intro v227 w3 ho4 hb hg_ hnew_;clear hg_ hnew_;(first|rw [← Ny226.out] at ho4|(simp only [Int.reduceToNat] at ho4;rw [← Ny226.out] at ho4));have HO228:=zN (Kd.R_lower ho4 (zT (by repeat (first|(with_reducible first|exact HB.out|apply zJ|apply zK|apply zL)|exact HB.out))));replace HB:=zN (zV (by repeat (first|(with_reducible first|exact HB.out|apply zJ|apply zK|apply zL)|exact HB.out)) hb);clear hb ho4))
 go_loopg [5,11] k (fun kq v5 v11 w'=>∃(x5_1:List (S44)) (x11_1:Int),v11=.int .i64 x11_1∧Aside0 (impl_picked_impl_Garment.l0 kq l0 x5_1 l1 (l1.length:Int) x11_1=some r)∧Aside0 (kq≤k)∧Aside0 (Kd.R k44 44 w' w.heap.size (fun _=>True) v5 x5_1)∧Aside0 (Below w.heap.size w w'))
 case atStart=>exact ⟨(y226),(0),(by first|rfl|(simp;done)|(simp [*];done)),H',⟨Nat.le_refl _⟩,⟨by (with_reducible repeat (first|apply zA|apply zB|apply zC));exact HO228.out⟩,⟨by repeat (first|(with_reducible first|exact HB.out|apply zJ|apply zK|apply zL)|exact HB.out)⟩⟩
 clear H';(try clear c1);(try clear p2);obtain ⟨x5_1,x11_1,rfl,HA,HK1,HO_5,HB⟩:=hrel
 cases gk with
 | zero=>exact absurd HA.out (by simp [impl_picked_impl_Garment.l0])
 | succ k1=>
  have H:=HA.out;clear HA;simp only [impl_picked_impl_Garment.l0] at H
  by_cases c5:x11_1<(l1.length:Int)
  ·rw [if_pos c5] at H;have c5b0:decide (x11_1<(l1.length:Int))=true:=decide_eq_true c5;clear c5
   by_cases c6:0≤x11_1
   rotate_left
   ·rw [if_neg c6] at H;exact absurd H (by simp)
   rw [if_pos c6] at H;have c6b0:decide (0≤x11_1)=true:=decide_eq_true c6;clear c6
   by_cases c7:x11_1<(l1.length:Int)
   rotate_left
   ·rw [if_neg c7] at H;exact absurd H (by simp)
   rw [if_pos c7] at H;have c7b0:decide (x11_1<(l1.length:Int))=true:=decide_eq_true c7;clear c7
   by_cases c8:0≤(rd l1 x11_1)
   rotate_left
   ·rw [if_neg c8] at H;exact absurd H (by simp)
   rw [if_pos c8] at H;have c8b0:decide (0≤(rd l1 x11_1))=true:=decide_eq_true c8;clear c8
   by_cases c9:(rd l1 x11_1)<(l0.length:Int)
   rotate_left
   ·rw [if_neg c9] at H;exact absurd H (by simp)
   rw [if_pos c9] at H;have c9b0:decide ((rd l1 x11_1)<(l0.length:Int))=true:=decide_eq_true c9;clear c9
   by_cases c10:x5_1.length<23456248059221
   rotate_left
   ·rw [if_neg c10] at H;exact absurd H (by simp)
   rw [if_pos c10] at H;have LMc10:=zN c10;clear c10;obtain ⟨y231,hy231⟩ : ∃y_:List (S44),y_=(x5_1++[(⟨(rd_T44 l0 (rd l1 x11_1)).f0,(rd_T44 l0 (rd l1 x11_1)).f1,(rd_T44 l0 (rd l1 x11_1)).f2,(rd_T44 l0 (rd l1 x11_1)).f3⟩ : S44)]):=⟨_,rfl⟩
   replace H:(impl_picked_impl_Garment.l0 k1 l0 y231 l1 (l1.length:Int) (wrap64 (x11_1+1)))=some r:=by first|(rw [hy231];with_reducible exact H)|(have H2_:=(Option.bind_some _ _).symm.trans H;rw [hy231];with_reducible exact H2_)|(have H2_:=(Option.bind_some _ _).symm.trans H;with_reducible exact H2_)|with_reducible exact H|(rw [hy231];exact H)|exact H
   have Ny231:=zN hy231;clear hy231;have H':=zN H;clear H;have p229:0≤(x11_1:Int):=zS (by first|(with_reducible assumption)|assumption);have q229:x11_1<(l1.length:Int):=zS (by first|(with_reducible assumption)|assumption);obtain ⟨ad229,e229,hx229_0⟩:=Kd.at_int HR1.out x11_1 p229 q229;cases e229;replace hx229_0:=(HB.out.cell (zR w _ hx229_0)).trans hx229_0;replace p229:=eq_true p229;replace q229:=eq_true q229;have p230:0≤((rd l1 x11_1):Int):=zS (by first|(with_reducible assumption)|assumption);have q230:(rd l1 x11_1)<(l0.length:Int):=zS (by first|(with_reducible assumption)|assumption);obtain ⟨ad230,e230,hx230_0,hx230_1,hx230_2,hx230_3⟩:=at_T44 HR0.out (rd l1 x11_1) p230 q230;cases e230;replace hx230_0:=(HB.out.cell (zR w _ hx230_0)).trans hx230_0;replace hx230_1:=(HB.out.cell (zR w _ hx230_1)).trans hx230_1;replace hx230_2:=(HB.out.cell (zR w _ hx230_2)).trans hx230_2;replace hx230_3:=(HB.out.cell (zR w _ hx230_3)).trans hx230_3;replace p230:=eq_true p230;replace q230:=eq_true q230
   go_wp2_with (first|((with_reducible refine gate_builtin (b:=.append) (xs:=#[.tmp 15,.tmp 20]) rfl ?_);at_builtin;refine Kd.R_append k44 (w0:=w) w.heap.size rfl (.tmp 15) (.tmp 20) 27 44 (.agg #[(.int .u8 0),(.int .i8 0),(.int .i8 0),(.int .i16 0)]) 6 rfl Tryd.underlying27 info44 rfl (by decide) (by omega) u5 x5_1 (⟨(rd_T44 l0 (rd l1 x11_1)).f0,(rd_T44 l0 (rd l1 x11_1)).f1,(rd_T44 l0 (rd l1 x11_1)).f2,(rd_T44 l0 (rd l1 x11_1)).f3⟩ : S44) [.int .u8 ((rd_T44 l0 (rd l1 x11_1)).f0),.int .i8 ((rd_T44 l0 (rd l1 x11_1)).f1),.int .i8 ((rd_T44 l0 (rd l1 x11_1)).f2),.int .i16 ((rd_T44 l0 (rd l1 x11_1)).f3)] (fun _=>True) (fun _=>False) rfl rfl ?aP (fun _ hk=>hk.elim) ?aF ?aO ?aB ?aS ?aL ?_;(case aP=>exact k44_mkM _ _ _ (⟨(rd_T44 l0 (rd l1 x11_1)).f0,(rd_T44 l0 (rd l1 x11_1)).f1,(rd_T44 l0 (rd l1 x11_1)).f2,(rd_T44 l0 (rd l1 x11_1)).f3⟩ : S44));(case aB=>exact (by repeat (first|(with_reducible first|exact HB.out|apply zJ|apply zK|apply zL)|exact HB.out)));(case aF=>exact (fun _ _=>trivial));(case aO=>exact (by (with_reducible repeat (first|apply zA|apply zB|apply zC));exact HO_5.out));(case aS=>exact (zT (by repeat (first|(with_reducible first|exact HB.out|apply zJ|apply zK|apply zL)|exact HB.out))));(case aL=>have:=LMc10.out;omega);intro v232 w11 ho hb hg hat;rw [← Ny231.out] at ho;replace HB:=zN (hb);have HO233:=zN (ho);clear HO_5 ho hb hg hat))
   go_roundg k1
   case measure=>have:=HK1.out;omega
   case rel=>exact ⟨(y231),(wrap64 (x11_1+1)),(by first|rfl|(simp;done)|(simp [*];done)),H',⟨by have:=HK1.out;omega⟩,⟨by (with_reducible repeat (first|apply zA|apply zB|apply zC));exact HO233.out⟩,⟨by repeat (first|(with_reducible first|exact HB.out|apply zJ|apply zK|apply zL)|exact HB.out)⟩⟩
  rw [if_neg c5] at H;have c5b0:decide (x11_1<(l1.length:Int))=false:=decide_eq_false c5;clear c5;obtain rfl:=Option.some.inj H;go_wp2;go_ret;exact ⟨_,by first|rfl|(simp [errW_none,errW_some]<;>rfl)|(simp [*,errW_none,errW_some]<;>rfl),by (with_reducible repeat (first|apply zA|apply zB|apply zC));exact HO_5.out,by repeat (first|(with_reducible first|exact HB.out|apply zJ|apply zK|apply zL)|exact HB.out)⟩
theorem rdi_mid_pg (pre:List Int) (c:Int) (cs:List Int):rd (pre++c :: cs) (pre.length:Int)=c:=by simp [rd,List.getD_eq_getElem?_getD]
theorem w_succ_pg {i n:Nat} (h:i<n) (hn:n≤1048576):wrap64 ((i:Int)+1)=((i+1:Nat):Int):=by unfold wrap64;omega
def inRange (n:Nat) (o:List Int):Bool:=o.all fun i=>decide (0≤i)&&decide (i<(n:Int))
def pickedB (l:List S44) (o:List Int):List S44:=o.map (rd_T44 l)
theorem picked_l0 (l:List S44) (o:List Int) (ho:o.length≤1048576):∀(cs pre:List Int),o=pre++cs→inRange l.length cs=true→∀x:List S44,x.length=pre.length →
  Ev (fun k=>impl_picked_impl_Garment.l0 k l x o (o.length:Int) (pre.length:Int)) (x++pickedB l cs):=by
 intro cs
 induction cs with
 | nil=>
  intro pre hpre hr x hx
  refine Ev.step (fun k=>by rw [impl_picked_impl_Garment.l0]) ?_
  have:o.length=pre.length:=by rw [hpre];simp
  simp only [show ¬(pre.length:Int)<(o.length:Int) by omega,↓reduceIte]
  rw [show x++pickedB l []=x by simp [pickedB]]
  exact Ev.now _
 | cons c cs ih=>
  intro pre hpre hr x hx
  have hlen:o.length=pre.length+cs.length+1:=by rw [hpre];simp;omega
  have hc:rd o (pre.length:Int)=c:=by rw [hpre];exact rdi_mid_pg pre c cs
  rw [inRange,List.all_cons,Bool.and_eq_true,Bool.and_eq_true,decide_eq_true_eq,decide_eq_true_eq] at hr
  obtain ⟨⟨h0,h1⟩,hr⟩:=hr
  have hnext:=ih (pre++[c]) (by rw [hpre];simp) hr
  simp only [List.length_append,List.length_cons,List.length_nil,Nat.zero_add] at hnext
  refine Ev.step (fun k=>by rw [impl_picked_impl_Garment.l0]) ?_
  simp only [show (pre.length:Int)<(o.length:Int) by omega,show (0:Int)≤(pre.length:Int) by omega,↓reduceIte,hc,h0,h1,show x.length<23456248059221 by omega,w_succ_pg (show pre.length<o.length by omega) ho]
  rw [show x++pickedB l (c :: cs)=(x++[rd_T44 l c])++pickedB l cs by simp [pickedB]]
  exact hnext _ (by simp [hx])
theorem picked_ev (l:List S44) (o:List Int) (ho:o.length≤1048576) (hr:inRange l.length o=true):Ev (fun k=>impl_picked_impl_Garment.f k l o) (pickedB l o):=by
 unfold impl_picked_impl_Garment.f
 exact picked_l0 l o ho o [] rfl hr [] rfl
def impl_picked_impl_Garmentw.f (l0:List S44) (l1:List Int):Option (List S44):=if l1.length≤1048576∧inRange l0.length l1=true then some (pickedB l0 l1) else none
theorem impl_picked_impl_Garmentw.spec (l0:List S44) (l1:List Int) (r:(List S44)) (h:impl_picked_impl_Garmentw.f l0 l1=some r):∃k,impl_picked_impl_Garment.f k l0 l1=some r:=by
 unfold impl_picked_impl_Garmentw.f at h
 by_cases hc:l1.length≤1048576∧inRange l0.length l1=true
 ·rw [if_pos hc] at h
  obtain rfl:=Option.some.inj h
  exact Ev.rounds (picked_ev l0 l1 hc.1 hc.2)
 ·rw [if_neg hc] at h
  cases h
theorem impl_picked_impl_Garmentw.calls (A0:Option Addr) (c0:Nat) (l0:List (S44)) (A1:Option Addr) (c1:Nat) (l1:List Int) (r:List (S44)) (w:World) (hr0:Kd.C k44 w A0 l0.length l0) (hc0:l0.length≤c0) (hr1:Kd.C (Kd.int .i64) w A1 l1.length l1) (hc1:l1.length≤c1) (h:impl_picked_impl_Garmentw.f l0 l1=some r) :
  Calls Tryd.prog 78 #[.slice A0 l0.length c0,.slice A1 l1.length c1] w fun e w'=>∃v0_:Value,e=.returned (v0_)∧Kd.R k44 44 w' w.heap.size (fun _=>True) v0_ r∧Below w.heap.size w w':=by
 obtain ⟨k,hk⟩:=impl_picked_impl_Garmentw.spec l0 l1 _ h;exact impl_picked_impl_Garment.calls k A0 c0 l0 A1 c1 l1 r w hr0 hc0 hr1 hc1 hk
def cleanFrom (rs:List Int):List S44→List S44→Bool
 | _,[]=>true
 | pre,g :: gs=>!(pre.any fun h=>metB rs g h)&&cleanFrom rs (pre++[g]) gs
def apartSc (rs:List Int) (l:List S44) (o:List Int):Int:=if cleanFrom rs [] (pickedB l o)=true then (o.length:Int) else -1
def impl_Rules_apart.f (a0_0:Int) (a0_1:Int) (a0_2:Int) (a0_3:Int) (a0_4:Int) (a0_5:Int) (l1:List S44):Option (List Int):=
 if l1.length≤8∧colB l1=true then some (bestS (apartSc [a0_0,a0_1,a0_2,a0_3,a0_4,a0_5] l1) l1.length).1 else none
theorem clean_snoc (rs:List Int) (l:List S44) (kk:Nat) (h:kk<l.length):cleanFrom rs (l.take kk) (l.drop kk)=(!((l.take kk).any fun h=>metB rs l[kk] h)&&cleanFrom rs (l.take (kk+1)) (l.drop (kk+1))):=by
 rw [List.drop_eq_getElem_cons h,cleanFrom,List.take_succ_eq_append_getElem h]
theorem subs_range (n s:Nat):inRange n (subsOf n s)=true:=by
 unfold inRange subsOf
 rw [List.all_eq_true]
 intro x hx
 obtain ⟨i,hi,rfl⟩:=List.mem_map.1 hx
 have:=List.mem_range.1 (List.mem_filter.1 hi).1
 rw [Bool.and_eq_true,decide_eq_true_eq,decide_eq_true_eq]
 omega
theorem picked_col (l:List S44) (o:List Int) (h:colB l=true) (ho:inRange l.length o=true):colB (pickedB l o)=true:=by
 unfold colB inRange at *
 rw [List.all_eq_true] at *
 intro x hx
 obtain ⟨i,hi,rfl⟩:=List.mem_map.1 hx
 have h1:=ho i hi
 rw [Bool.and_eq_true,decide_eq_true_eq,decide_eq_true_eq] at h1
 have hlt:i.toNat<l.length:=by omega
 have e:rd_T44 l i=l[i.toNat]:=by simp [rd_T44,List.getD_eq_getElem?_getD,List.getElem?_eq_getElem hlt]
 rw [e]
 exact h _ (List.getElem_mem hlt)
set_option maxHeartbeats 2000000 in
theorem apart_in1 (a0 a1 a2 a3 a4 a5:Int) (g x:S44) (g1 g2:Nat) (w:World) (hg:0≤g.f0∧g.f0<6) (hx:0≤x.f0)
  (hb1:w.heap[g1]?=some (.cells #[.int .u8 a0,.int .u8 a1,.int .u8 a2,.int .u8 a3,.int .u8 a4,.int .u8 a5] 25 (0,0)))
  (hb2:w.heap[g2]?=some (.cells #[.int .u8 g.f0,.int .i8 g.f1,.int .i8 g.f2,.int .i16 g.f3] 44 (0,0))) :
  Calls Tryd.prog 85 #[.agg #[.int .u8 x.f0,.int .i8 x.f1,.int .i8 x.f2,.int .i16 x.f3],.pointer (some ⟨g1,0,none⟩),.pointer (some ⟨g2,0,none⟩)] w fun e w'=>e=.returned (.bool (metB [a0,a1,a2,a3,a4,a5] g x))∧Below w.heap.size w w':=by
 have hm:=meet_total a0 a1 a2 a3 a4 a5 g x hg hx
 obtain ⟨y,hy⟩ : ∃y,metB [a0,a1,a2,a3,a4,a5] g x=y:=⟨_,rfl⟩
 rw [hy] at hm ⊢
 have HM:=Aside0.mk hm
 have hB0:=fun (o:Obj)=>below_alloc (Below.refl w.heap.size w) o
 have c10:(w.alloc (.cells #[.int .u8 x.f0,.int .i8 x.f1,.int .i8 x.f2,.int .i16 x.f3] 44)).cell? ⟨g1,0,none⟩=some (.int .u8 a0):=pw_cell_below (hB0 _) ((blk_cell hb1 0).trans rfl)
 have c11:(w.alloc (.cells #[.int .u8 x.f0,.int .i8 x.f1,.int .i8 x.f2,.int .i16 x.f3] 44)).cell? ⟨g1,1,none⟩=some (.int .u8 a1):=pw_cell_below (hB0 _) ((blk_cell hb1 1).trans rfl)
 have c12:(w.alloc (.cells #[.int .u8 x.f0,.int .i8 x.f1,.int .i8 x.f2,.int .i16 x.f3] 44)).cell? ⟨g1,2,none⟩=some (.int .u8 a2):=pw_cell_below (hB0 _) ((blk_cell hb1 2).trans rfl)
 have c13:(w.alloc (.cells #[.int .u8 x.f0,.int .i8 x.f1,.int .i8 x.f2,.int .i16 x.f3] 44)).cell? ⟨g1,3,none⟩=some (.int .u8 a3):=pw_cell_below (hB0 _) ((blk_cell hb1 3).trans rfl)
 have c14:(w.alloc (.cells #[.int .u8 x.f0,.int .i8 x.f1,.int .i8 x.f2,.int .i16 x.f3] 44)).cell? ⟨g1,4,none⟩=some (.int .u8 a4):=pw_cell_below (hB0 _) ((blk_cell hb1 4).trans rfl)
 have c15:(w.alloc (.cells #[.int .u8 x.f0,.int .i8 x.f1,.int .i8 x.f2,.int .i16 x.f3] 44)).cell? ⟨g1,5,none⟩=some (.int .u8 a5):=pw_cell_below (hB0 _) ((blk_cell hb1 5).trans rfl)
 have c20:(w.alloc (.cells #[.int .u8 x.f0,.int .i8 x.f1,.int .i8 x.f2,.int .i16 x.f3] 44)).cell? ⟨g2,0,none⟩=some (.int .u8 g.f0):=pw_cell_below (hB0 _) ((blk_cell hb2 0).trans rfl)
 have c21:(w.alloc (.cells #[.int .u8 x.f0,.int .i8 x.f1,.int .i8 x.f2,.int .i16 x.f3] 44)).cell? ⟨g2,1,none⟩=some (.int .i8 g.f1):=pw_cell_below (hB0 _) ((blk_cell hb2 1).trans rfl)
 have c22:(w.alloc (.cells #[.int .u8 x.f0,.int .i8 x.f1,.int .i8 x.f2,.int .i16 x.f3] 44)).cell? ⟨g2,2,none⟩=some (.int .i8 g.f2):=pw_cell_below (hB0 _) ((blk_cell hb2 2).trans rfl)
 have c23:(w.alloc (.cells #[.int .u8 x.f0,.int .i8 x.f1,.int .i8 x.f2,.int .i16 x.f3] 44)).cell? ⟨g2,3,none⟩=some (.int .i16 g.f3):=pw_cell_below (hB0 _) ((blk_cell hb2 3).trans rfl)
 clear hm hy hb1 hb2 hg hx hB0
 go_enter Tryd.func85,Tryd.ntmps85
 go_wp2_with (go_at_call 56;refine (impl_Rules_meet.calls a0 a1 a2 a3 a4 a5 g.f0 g.f1 g.f2 g.f3 x.f0 x.f1 x.f2 x.f3 y _ HM.out).mono ?_;rintro e w1 ⟨rfl,hb1⟩)
 go_ret
 exact ⟨rfl,below_step (below_alloc (Below.refl _ _) _) hb1⟩
set_option maxHeartbeats 4000000 in
set_option maxRecDepth 100000 in
theorem apart_1 (a0_0:Int) (a0_1:Int) (a0_2:Int) (a0_3:Int) (a0_4:Int) (a0_5:Int) (l1:List S44) (A1:Option Addr) (c1:Nat) (g1 g2:Nat) (W:World) (A:Option Addr) (c:Nat) (o:List Int)
  (hlen:l1.length≤8) (hcol:colB l1=true) (hr1:Kd.C k44 W A1 l1.length l1) (hc1:l1.length≤c1) (h1:W.cell? ⟨g1,0,none⟩=some (.slice A1 l1.length c1))
  (hb2:W.heap[g2]?=some (.cells #[.int .u8 a0_0,.int .u8 a0_1,.int .u8 a0_2,.int .u8 a0_3,.int .u8 a0_4,.int .u8 a0_5] 25 (0,0)))
  (ho:Kd.C (Kd.int .i64) W A o.length o) (hoc:o.length≤c) (hr:inRange l1.length o=true) (hol:o.length≤8) :
  Calls Tryd.prog 83 #[.slice A o.length c,.pointer (some ⟨g1,0,none⟩),.pointer (some ⟨g2,0,none⟩)] W fun e w'=>e=.returned (.int .i64 (apartSc [a0_0,a0_1,a0_2,a0_3,a0_4,a0_5] l1 o))∧Below W.heap.size W w':=by
 have hp:impl_picked_impl_Garmentw.f l1 o=some (pickedB l1 o):=by unfold impl_picked_impl_Garmentw.f;rw [if_pos ⟨by omega,hr⟩]
 have hcolp:=picked_col l1 o hcol hr
 have hlp:(pickedB l1 o).length=o.length:=by unfold pickedB;rw [List.length_map]
 obtain ⟨res,hres⟩ : ∃res,apartSc [a0_0,a0_1,a0_2,a0_3,a0_4,a0_5] l1 o=res:=⟨_,rfl⟩
 rw [hres]
 unfold apartSc at hres
 obtain ⟨rs,hrs⟩ : ∃rs,[a0_0,a0_1,a0_2,a0_3,a0_4,a0_5]=rs:=⟨_,rfl⟩
 rw [hrs] at hres
 obtain ⟨y,hy⟩ : ∃y,pickedB l1 o=y:=⟨_,rfl⟩
 rw [hy] at hp hcolp hlp hres
 have hyl:y.length≤8:=by omega
 have hcall:∀(wp:World) (B1:Option Addr) (d1:Nat) (hC:Kd.C k44 wp B1 y.length y) (W' : World) (g3 kk:Nat) (hk:kk<y.length),Below wp.heap.size wp W'→W'.heap[g2]?=some (.cells #[.int .u8 a0_0,.int .u8 a0_1,.int .u8 a0_2,.int .u8 a0_3,.int .u8 a0_4,.int .u8 a0_5] 25 (0,0)) →
   W'.heap[g3]?=some (.cells #[.int .u8 y[kk].f0,.int .i8 y[kk].f1,.int .i8 y[kk].f2,.int .i16 y[kk].f3] 44 (0,0)) →
   Calls Tryd.prog 84 #[.slice B1 kk d1,.func (.func 85) #[] #[.pointer (some ⟨g2,0,none⟩),.pointer (some ⟨g3,0,none⟩)]] W' fun e w'=>e=.returned (.bool ((y.take kk).any fun h=>metB rs y[kk] h))∧Below W'.heap.size W' w':=by
  intro wp B1 d1 hC W' g3 kk hk hB h1 h2
  have hl:(y.take kk).length=kk:=by rw [List.length_take];omega
  have hT:=Kd.C_take (Kd.C_below hC hB) (Nat.le_of_lt hk)
  have hmem:∀x∈y,0≤x.f0∧x.f0<6:=fun x hx=>of_decide_eq_true (List.all_eq_true.mp hcolp x hx)
  have hc:=ContainsFunc_44 B1 d1 (y.take kk) 85 #[.pointer (some ⟨g2,0,none⟩),.pointer (some ⟨g3,0,none⟩)] (fun h=>metB rs y[kk] h) W' hT (enters_of Tryd.func85 (by kernel_rfl) rfl)
   (fun W'' x hx hB'=>by
    rw [← hrs]
    exact apart_in1 _ _ _ _ _ _ y[kk] x _ g3 W'' (hmem _ (List.getElem_mem hk)) (hmem x (List.mem_of_mem_take hx)).1 (blk_below h1 hB') (blk_below h2 hB'))
  rw [hl] at hc
  exact hc
 have HRES:=Aside0.mk hres
 have HC:=Aside0.mk hcall
 have HR1:=Aside0.mk hr1
 have HO:=Aside0.mk ho
 have HP:=Aside0.mk hp
 have HB2:=Aside0.mk hb2
 have HLP:=Aside0.mk hlp
 clear hres hcall hr1 ho hp hb2 hy hrs hcolp hcol hr hlp
 go_enter Tryd.func83,Tryd.ntmps83
 go_wp2_with (go_at_call 78;refine (impl_picked_impl_Garmentw.calls A1 c1 l1 A c o y _ HR1.out hc1 HO.out hoc HP.out).mono ?_;rintro e w1 ⟨v1,rfl,ho1,hb1⟩;obtain ⟨B1,d1,rfl,hd1,hC1⟩:=Kd.R_reads ho1;have HB1:=Aside0.mk hb1;have HC1:=Aside0.mk hC1;clear ho1 hC1 hb1)
 go_loopg [13] y.length (fun gg v13 w'=>∃kk:Nat,kk≤y.length∧y.length-kk≤gg∧v13=.int .i64 (kk:Int)∧Aside0 (Below w1.heap.size w1 w')∧Aside0 (w'.heap[g2]?=some (.cells #[.int .u8 a0_0,.int .u8 a0_1,.int .u8 a0_2,.int .u8 a0_3,.int .u8 a0_4,.int .u8 a0_5] 25 (0,0)))∧Aside0 (cleanFrom rs [] y=cleanFrom rs (y.take kk) (y.drop kk)))
 case atStart=>exact ⟨0,Nat.zero_le _,by omega,rfl,⟨Below.refl _ _⟩,⟨blk_below HB2.out HB1.out⟩,⟨rfl⟩⟩
 case round=>
  obtain ⟨kk,hkk,hg,rfl,BW,BR,AF⟩:=hrel
  by_cases hlt:kk<y.length
  ·have hlti:(kk:Int)<(y.length:Int):=by omega
   obtain ⟨ad,e1,hx0,hx1,hx2,hx3⟩:=at_T44 (Kd.C_below HC1.out BW.out) (kk:Int) (by omega) hlti
   cases e1
   have ey:rd_T44 y (kk:Int)=y[kk]:=by simp [rd_T44,List.getD_eq_getElem?_getD,List.getElem?_eq_getElem hlt]
   rw [ey] at hx0 hx1 hx2 hx3
   simp only [Int.toNat_natCast] at hx0 hx1 hx2 hx3
   have hcall:=fun W hB h1 g2 h2=>HC.out w1 _ d1 HC1.out W g2 kk hlt hB h1 h2
   have hsn:=clean_snoc rs y kk hlt
   obtain ⟨z,hz⟩ : ∃z,y[kk]=z:=⟨_,rfl⟩
   simp only [hz] at hx0 hx1 hx2 hx3 hcall hsn
   have HSN:=Aside0.mk hsn
   clear hz ey hsn
   cases hq:((y.take kk).any fun h=>metB rs z h) with
   | true=>
    simp only [hq] at hcall
    have HQ:=Aside0.mk hq
    have HCALL:=Aside0.mk hcall
    clear hq hcall
    have hrf:res=-1:=by rw [← HRES.out,AF.out,HSN.out,HQ.out];rfl
    subst hrf
    go_wp2_with (go_at_call 84;refine (HCALL.out _ (below_alloc BW.out _) (blk_alloc BR.out _) wr.heap.size (blk_new _ _)).mono ?_;rintro e w2 ⟨rfl,hb2⟩)
    go_ret
    exact ⟨rfl,below_step HB1.out (below_step (below_alloc BW.out _) hb2)⟩
   | false=>
    simp only [hq] at hcall
    have HQ:=Aside0.mk hq
    have HCALL:=Aside0.mk hcall
    clear hq hcall
    go_wp2_with (go_at_call 84;refine (HCALL.out _ (below_alloc BW.out _) (blk_alloc BR.out _) wr.heap.size (blk_new _ _)).mono ?_;rintro e w2 ⟨rfl,hb2⟩)
    go_roundg (y.length-(kk+1))
    case measure=>omega
    case rel=>exact ⟨kk+1,by omega,by omega,by go_num,⟨below_step (below_alloc BW.out _) hb2⟩,⟨blk_below (blk_alloc BR.out _) hb2⟩,⟨by rw [AF.out,HSN.out,HQ.out];rfl⟩⟩
  ·have hlti:¬(kk:Int)<(y.length:Int):=by omega
   have hre:res=(o.length:Int):=by
    rw [← HRES.out,AF.out,List.drop_eq_nil_of_le (by omega),cleanFrom]
    rfl
   have HRE:=Aside0.mk hre
   clear hre
   go_wp2_with (go_at_call 67;refine (impl_size_int64.calls A c o (o.length:Int) _ (Kd.C_below HO.out (below_step HB1.out BW.out)) hoc rfl).mono ?_;rintro e w2 ⟨rfl,⟨nd,rfl⟩⟩)
   go_ret
   exact ⟨by rw [HRE.out];rfl,pw_below_drewN (below_step HB1.out BW.out) _⟩
set_option maxHeartbeats 4000000 in
set_option maxRecDepth 100000 in
theorem impl_Rules_apart.calls (a0_0:Int) (a0_1:Int) (a0_2:Int) (a0_3:Int) (a0_4:Int) (a0_5:Int) (A1:Option Addr) (c1:Nat) (l1:List S44) (r:List Int) (w:World) (hr1:Kd.C k44 w A1 l1.length l1) (hc1:l1.length≤c1) (hT:TabOK w) (h:impl_Rules_apart.f a0_0 a0_1 a0_2 a0_3 a0_4 a0_5 l1=some r) :
  Calls Tryd.prog 47 #[.agg #[.int .u8 a0_0,.int .u8 a0_1,.int .u8 a0_2,.int .u8 a0_3,.int .u8 a0_4,.int .u8 a0_5],.slice A1 l1.length c1] w fun e w'=>∃v0_:Value,e=.returned v0_∧Kd.R (Kd.int .i64) 2 w' w.heap.size (fun _=>True) v0_ r∧Below w.heap.size w w':=by
 unfold impl_Rules_apart.f at h
 by_cases hq:l1.length≤8∧colB l1=true
 case neg=>rw [if_neg hq] at h;cases h
 rw [if_pos hq] at h;obtain ⟨hlen,hcol⟩:=hq;have hres:=Option.some.inj h;clear h
 have HC:=zN (fun (W:World) (g1 g2:Nat) (hB:Below w.heap.size w W) (h1:W.cell? ⟨g1,0,none⟩=some (.slice A1 l1.length c1)) (h2:W.heap[g2]?=some (.cells #[.int .u8 a0_0,.int .u8 a0_1,.int .u8 a0_2,.int .u8 a0_3,.int .u8 a0_4,.int .u8 a0_5] 25 (0,0)))=>
  bestSubset_calls W l1.length 83 #[.pointer (some ⟨g1,0,none⟩),.pointer (some ⟨g2,0,none⟩)] (apartSc [a0_0,a0_1,a0_2,a0_3,a0_4,a0_5] l1) hlen (hT.below hB) (enters_of Tryd.func83 (by kernel_rfl) rfl)
   (fun W' A c o s hB' hC hoc hs hsub=>apart_1 a0_0 a0_1 a0_2 a0_3 a0_4 a0_5 l1 A1 c1 g1 g2 W' A c o hlen hcol (Kd.C_below hr1 (zV hB hB')) hc1 (pw_cell_below hB' h1) (zU h2 hB') hC hoc (by rw [hsub];exact subs_range _ _) (by rw [hsub];exact Nat.le_trans (subs_len _ _) hlen)))
 obtain ⟨b1,b2,hb⟩ : ∃b1 b2,bestS (apartSc [a0_0,a0_1,a0_2,a0_3,a0_4,a0_5] l1) l1.length=(b1,b2):=⟨_,_,rfl⟩;rw [hb] at hres HC;obtain rfl:b1=r:=hres
 have n0:∀(w:World) (o:Obj) (k:Nat),w.heap.size=k→(w.alloc o).heap.size=k+1:=fun w o k h=>by rw [← h];simp
 have nw:∀(w:World) (o:Obj) (k:Nat),w.heap.size=k→(w.alloc o).heap[k]?=some o:=fun w o k h=>h▸blk_new w o;have H2:=zN (fun (R Lc:Obj)=>(zG (blk_new w R) Lc:((w.alloc R).alloc Lc).heap[w.heap.size]?=some R));have H1:=zN (fun (R Lc:Obj)=>(nw (w.alloc R) Lc (w.heap.size+1) (n0 _ _ _ rfl)));clear hb hcol hlen hr1 hc1 hT n0 nw;go_enter Tryd.func47,Tryd.ntmps47
 go_wp2_with (go_at_call 76;refine (HC.out _ (w.heap.size+1) w.heap.size (by repeat (first|exact Below.refl _ _|apply zK|apply below_drew|apply zJ)) ((blk_cell (H1.out _ _) 0).trans rfl) (H2.out _ _)).mono ?_;rintro e w1 ⟨v1,rfl,ho1,hb1⟩;have HO1:=zN ho1;have HB1:=zN hb1;clear ho1 hb1)
 go_ret;exact ⟨_,rfl,Kd.R_lower HO1.out (by simp;omega),zV (by repeat (first|exact Below.refl _ _|apply zK|apply below_drew|apply zJ)) HB1.out⟩
def impl_ApartSet.f (k:Nat) (a0_0:Int) (a0_1:Int) (a0_2:Int) (a0_3:Int) (a0_4:Int) (a0_5:Int) (l1:List (S44)):Option (List Int×Int):=(impl_loadCode.f k a0_0 a0_1 a0_2 a0_3 a0_4 a0_5 1 l1).bind fun t235=>(if t235=0 then ((impl_Rules_apart.f a0_0 a0_1 a0_2 a0_3 a0_4 a0_5 l1).bind fun t236=>(some (t236,0))) else (some (([]:List Int),t235)))
set_option maxHeartbeats 8000000 in
set_option maxRecDepth 100000 in
theorem impl_ApartSet.calls (k:Nat) (a0_0:Int) (a0_1:Int) (a0_2:Int) (a0_3:Int) (a0_4:Int) (a0_5:Int) (A1:Option Addr) (c1:Nat) (l1:List (S44)) (r1:List Int) (r2:Int) (w:World) (hr1:Kd.C k44 w A1 l1.length l1) (hc1:l1.length≤c1) (hT:TabOK w) (h:impl_ApartSet.f k a0_0 a0_1 a0_2 a0_3 a0_4 a0_5 l1=some (r1,r2)) :
  Calls Tryd.prog 13 #[.agg #[.int .u8 a0_0,.int .u8 a0_1,.int .u8 a0_2,.int .u8 a0_3,.int .u8 a0_4,.int .u8 a0_5],.slice A1 l1.length c1] w fun e w'=>∃v0_:Value,e=.returned (.tuple #[v0_,.int .i64 r2])∧Kd.R (Kd.int .i64) 2 w' w.heap.size (fun _=>True) v0_ r1∧Below w.heap.size w w':=by
 have hu25:=Tryd.underlying25;have HR1:=zN hr1;have HC1:=zN hc1;clear hr1 hc1;have HB:=zN (Below.refl w.heap.size w);have HTAB:=zN hT;clear hT;have H:((impl_loadCode.f k a0_0 a0_1 a0_2 a0_3 a0_4 a0_5 1 l1).bind fun t235=>(if t235=0 then ((impl_Rules_apart.f a0_0 a0_1 a0_2 a0_3 a0_4 a0_5 l1).bind fun t236=>(some (t236,0))) else (some (([]:List Int),t235))))=some (r1,r2):=h;clear h;replace H:=Option.bind_eq_some_iff.mp H;obtain ⟨t235,A30,H⟩:=H;replace H:(if t235=0 then ((impl_Rules_apart.f a0_0 a0_1 a0_2 a0_3 a0_4 a0_5 l1).bind fun t236=>(some (t236,0))) else (some (([]:List Int),t235)))=some (r1,r2):=H;have A3:=zN A30;clear A30
 by_cases c4:t235=0
 ·rw [if_pos c4] at H;have c4b0:(t235 == 0)=true:=beq_iff_eq.mpr c4;have c4b1:(t235 != 0)=false:=bne_eq_false_iff_eq.mpr c4;clear c4;replace H:=Option.bind_eq_some_iff.mp H;obtain ⟨t236,A50,H⟩:=H;replace H:(some (t236,0))=some (r1,r2):=H;have A5:=zN A50;clear A50;simp only [Option.some.injEq,Prod.mk.injEq] at H;obtain ⟨rfl,rfl⟩:=H;go_enter Tryd.func13,Tryd.ntmps13
  go_wp2_with (first|((with_reducible refine gate_dst (N:=2) rfl ?_);refine box_event ?hg (N:=2) ?hd (cs:=#[.int .u8 a0_0,.int .u8 a0_1,.int .u8 a0_2,.int .u8 a0_3,.int .u8 a0_4,.int .u8 a0_5]) (t:=25) ?hr ?_;(case hd=>rfl);(case hg=>rfl);(case hr=>first|(go_simp;done)|(go_simp;rfl));intro gb234 hg w6 hbox hb;have BK234:=zN (hbox);have GW234:=zN ((by rw [hg];exact (zT (by repeat (first|(with_reducible first|exact HB.out|apply zJ|apply zK|apply zL)|exact HB.out))):w.heap.size≤gb234));have GE234:=zN ((by rw [hg];exact (zT (by repeat (first|(with_reducible first|exact HB.out|apply zJ|apply zK|apply zL)|exact HB.out))):w.heap.size≤gb234));replace HB:=zN (zV (by repeat (first|(with_reducible first|exact HB.out|apply zJ|apply zK|apply zL)|exact HB.out)) hb);clear hb hbox hg;have hcz7_0:w6.cell? ⟨gb234,0,none⟩=some (.int .u8 a0_0):=(blk_cell BK234.out 0).trans rfl;have hcz7_1:w6.cell? ⟨gb234,1,none⟩=some (.int .u8 a0_1):=(blk_cell BK234.out 1).trans rfl;have hcz7_2:w6.cell? ⟨gb234,2,none⟩=some (.int .u8 a0_2):=(blk_cell BK234.out 2).trans rfl;have hcz7_3:w6.cell? ⟨gb234,3,none⟩=some (.int .u8 a0_3):=(blk_cell BK234.out 3).trans rfl;have hcz7_4:w6.cell? ⟨gb234,4,none⟩=some (.int .u8 a0_4):=(blk_cell BK234.out 4).trans rfl;have hcz7_5:w6.cell? ⟨gb234,5,none⟩=some (.int .u8 a0_5):=(blk_cell BK234.out 5).trans rfl;have hfz7_0:=blk_frozen BK234.out 0;have hfz7_1:=blk_frozen BK234.out 1;have hfz7_2:=blk_frozen BK234.out 2;have hfz7_3:=blk_frozen BK234.out 3;have hfz7_4:=blk_frozen BK234.out 4;have hfz7_5:=blk_frozen BK234.out 5)|((with_reducible refine gate_callee (f:=46) rfl ?_);refine goesL_ (some 9) rfl rfl Tryd.func46 (by kernel_rfl) rfl #[.agg #[.int .u8 a0_0,.int .u8 a0_1,.int .u8 a0_2,.int .u8 a0_3,.int .u8 a0_4,.int .u8 a0_5],.int .i64 1,.slice A1 l1.length c1] rfl (by (try simp only [List.map_toArray,List.map_cons,List.map_nil]);first|done|rfl|(simp only [List.length_drop,List.length_take];rfl)) ?_;(with_reducible refine (impl_loadCode.calls k a0_0 a0_1 a0_2 a0_3 a0_4 a0_5 1 _ _ l1 t235 _ ?side1 ?side2 A3.out).mono ?_);(case side1=>repeat (first|exact (Kd.C_below HR1.out HB.out)|(with_reducible refine Kd.C_alloc ?_ _)|(with_reducible refine Kd.C_drewN ?_ _)|(with_reducible refine Kd.C_drew ?_)));(case side2=>exact HC1.out);rintro e w8 ⟨rfl,hb⟩;refine ⟨_,rfl,?_⟩;replace BK234:=zN (zU (g:=gb234) (o:=.cells #[.int .u8 a0_0,.int .u8 a0_1,.int .u8 a0_2,.int .u8 a0_3,.int .u8 a0_4,.int .u8 a0_5] 25 (0,0)) (by (with_reducible repeat (first|refine zH ?_ _|refine zI ?_|refine zG ?_ _));exact BK234.out) hb);replace HB:=zN (zV (by repeat (first|(with_reducible first|exact HB.out|apply zJ|apply zK|apply zL|refine zM ?_ GE234.out)|exact HB.out)) hb);(try clear hb);(try clear hb2);(try clear hk);(try clear hi);have hcz9_0:w8.cell? ⟨gb234,0,none⟩=some (.int .u8 a0_0):=(blk_cell BK234.out 0).trans rfl;have hcz9_1:w8.cell? ⟨gb234,1,none⟩=some (.int .u8 a0_1):=(blk_cell BK234.out 1).trans rfl;have hcz9_2:w8.cell? ⟨gb234,2,none⟩=some (.int .u8 a0_2):=(blk_cell BK234.out 2).trans rfl;have hcz9_3:w8.cell? ⟨gb234,3,none⟩=some (.int .u8 a0_3):=(blk_cell BK234.out 3).trans rfl;have hcz9_4:w8.cell? ⟨gb234,4,none⟩=some (.int .u8 a0_4):=(blk_cell BK234.out 4).trans rfl;have hcz9_5:w8.cell? ⟨gb234,5,none⟩=some (.int .u8 a0_5):=(blk_cell BK234.out 5).trans rfl;have hfz9_0:=blk_frozen BK234.out 0;have hfz9_1:=blk_frozen BK234.out 1;have hfz9_2:=blk_frozen BK234.out 2;have hfz9_3:=blk_frozen BK234.out 3;have hfz9_4:=blk_frozen BK234.out 4;have hfz9_5:=blk_frozen BK234.out 5)|((with_reducible refine gate_callee (f:=47) rfl ?_);refine goesL_ (some 15) rfl rfl Tryd.func47 (by kernel_rfl) rfl #[.agg #[.int .u8 a0_0,.int .u8 a0_1,.int .u8 a0_2,.int .u8 a0_3,.int .u8 a0_4,.int .u8 a0_5],.slice A1 l1.length c1] rfl (by (try simp only [List.map_toArray,List.map_cons,List.map_nil]);first|done|rfl|(simp only [List.length_drop,List.length_take];rfl)) ?_;(with_reducible refine (impl_Rules_apart.calls a0_0 a0_1 a0_2 a0_3 a0_4 a0_5 _ _ l1 t236 _ ?side1 ?side2 ?side3 A5.out).mono ?_);(case side1=>repeat (first|exact (Kd.C_below HR1.out HB.out)|(with_reducible refine Kd.C_alloc ?_ _)|(with_reducible refine Kd.C_drewN ?_ _)|(with_reducible refine Kd.C_drew ?_)));(case side2=>exact HC1.out);(case side3=>exact TabOK.below HTAB.out (by repeat (first|(with_reducible first|exact HB.out|apply zJ|apply zK|apply zL|refine zM ?_ GE234.out)|exact HB.out)));rintro e w10 ⟨v237,rfl,ho0,hb⟩;refine ⟨_,rfl,?_⟩;have HO238:=zN (Kd.R_lower ho0 (zT (by repeat (first|(with_reducible first|exact HB.out|apply zJ|apply zK|apply zL|refine zM ?_ GE234.out)|exact HB.out))));replace BK234:=zN (zU (g:=gb234) (o:=.cells #[.int .u8 a0_0,.int .u8 a0_1,.int .u8 a0_2,.int .u8 a0_3,.int .u8 a0_4,.int .u8 a0_5] 25 (0,0)) (by (with_reducible repeat (first|refine zH ?_ _|refine zI ?_|refine zG ?_ _));exact BK234.out) hb);replace HB:=zN (zV (by repeat (first|(with_reducible first|exact HB.out|apply zJ|apply zK|apply zL|refine zM ?_ GE234.out)|exact HB.out)) hb);(try clear hb);(try clear hb2);(try clear hk);(try clear hi);(try clear ho0)))
  go_ret2;exact ⟨_,by first|rfl|(simp [errW_none,errW_some]<;>rfl)|(simp [*,errW_none,errW_some]<;>rfl),by (with_reducible repeat (first|apply zA|apply zB|apply zC));exact HO238.out,by repeat (first|(with_reducible first|exact HB.out|apply zJ|apply zK|apply zL|refine zM ?_ GE234.out)|exact HB.out)⟩
 rw [if_neg c4] at H;have c4b0:(t235 == 0)=false:=beq_eq_false_iff_ne.mpr c4;have c4b1:(t235 != 0)=true:=bne_iff_ne.mpr c4;simp only [Option.some.injEq,Prod.mk.injEq] at H;obtain ⟨rfl,rfl⟩:=H;go_enter Tryd.func13,Tryd.ntmps13
 go_wp2_with (first|((with_reducible refine gate_dst (N:=2) rfl ?_);refine box_event ?hg (N:=2) ?hd (cs:=#[.int .u8 a0_0,.int .u8 a0_1,.int .u8 a0_2,.int .u8 a0_3,.int .u8 a0_4,.int .u8 a0_5]) (t:=25) ?hr ?_;(case hd=>rfl);(case hg=>rfl);(case hr=>first|(go_simp;done)|(go_simp;rfl));intro gb234 hg w11 hbox hb;have BK234:=zN (hbox);have GW234:=zN ((by rw [hg];exact (zT (by repeat (first|(with_reducible first|exact HB.out|apply zJ|apply zK|apply zL)|exact HB.out))):w.heap.size≤gb234));have GE234:=zN ((by rw [hg];exact (zT (by repeat (first|(with_reducible first|exact HB.out|apply zJ|apply zK|apply zL)|exact HB.out))):w.heap.size≤gb234));replace HB:=zN (zV (by repeat (first|(with_reducible first|exact HB.out|apply zJ|apply zK|apply zL)|exact HB.out)) hb);clear hb hbox hg;have hcz12_0:w11.cell? ⟨gb234,0,none⟩=some (.int .u8 a0_0):=(blk_cell BK234.out 0).trans rfl;have hcz12_1:w11.cell? ⟨gb234,1,none⟩=some (.int .u8 a0_1):=(blk_cell BK234.out 1).trans rfl;have hcz12_2:w11.cell? ⟨gb234,2,none⟩=some (.int .u8 a0_2):=(blk_cell BK234.out 2).trans rfl;have hcz12_3:w11.cell? ⟨gb234,3,none⟩=some (.int .u8 a0_3):=(blk_cell BK234.out 3).trans rfl;have hcz12_4:w11.cell? ⟨gb234,4,none⟩=some (.int .u8 a0_4):=(blk_cell BK234.out 4).trans rfl;have hcz12_5:w11.cell? ⟨gb234,5,none⟩=some (.int .u8 a0_5):=(blk_cell BK234.out 5).trans rfl;have hfz12_0:=blk_frozen BK234.out 0;have hfz12_1:=blk_frozen BK234.out 1;have hfz12_2:=blk_frozen BK234.out 2;have hfz12_3:=blk_frozen BK234.out 3;have hfz12_4:=blk_frozen BK234.out 4;have hfz12_5:=blk_frozen BK234.out 5)|((with_reducible refine gate_callee (f:=46) rfl ?_);refine goesL_ (some 9) rfl rfl Tryd.func46 (by kernel_rfl) rfl #[.agg #[.int .u8 a0_0,.int .u8 a0_1,.int .u8 a0_2,.int .u8 a0_3,.int .u8 a0_4,.int .u8 a0_5],.int .i64 1,.slice A1 l1.length c1] rfl (by (try simp only [List.map_toArray,List.map_cons,List.map_nil]);first|done|rfl|(simp only [List.length_drop,List.length_take];rfl)) ?_;(with_reducible refine (impl_loadCode.calls k a0_0 a0_1 a0_2 a0_3 a0_4 a0_5 1 _ _ l1 t235 _ ?side1 ?side2 A3.out).mono ?_);(case side1=>repeat (first|exact (Kd.C_below HR1.out HB.out)|(with_reducible refine Kd.C_alloc ?_ _)|(with_reducible refine Kd.C_drewN ?_ _)|(with_reducible refine Kd.C_drew ?_)));(case side2=>exact HC1.out);rintro e w13 ⟨rfl,hb⟩;refine ⟨_,rfl,?_⟩;replace BK234:=zN (zU (g:=gb234) (o:=.cells #[.int .u8 a0_0,.int .u8 a0_1,.int .u8 a0_2,.int .u8 a0_3,.int .u8 a0_4,.int .u8 a0_5] 25 (0,0)) (by (with_reducible repeat (first|refine zH ?_ _|refine zI ?_|refine zG ?_ _));exact BK234.out) hb);replace HB:=zN (zV (by repeat (first|(with_reducible first|exact HB.out|apply zJ|apply zK|apply zL|refine zM ?_ GE234.out)|exact HB.out)) hb);(try clear hb);(try clear hb2);(try clear hk);(try clear hi)))
 go_ret2;exact ⟨_,by first|rfl|(simp [errW_none,errW_some]<;>rfl)|(simp [*,errW_none,errW_some]<;>rfl),by first|exact Kd.R_nil _ _ _ _ _|exact Kd.N_nil _ _ _ _ _|exact Kd.V_nil _ _ _ _ _|exact Kd.Q_nil _ _ _ _ _|exact Kd.S_nil _ _ _ _ _,by repeat (first|(with_reducible first|exact HB.out|apply zJ|apply zK|apply zL|refine zM ?_ GE234.out)|exact HB.out)⟩
end Go.Proofs.YthodfhcaaidnmaaDoor.Me
