/- Words and walks for the law FnMeets. -/
import Derived.Test.YthodfhcaaidnmaaDoorTMe23
import Derived.Test.YthodfhcaaidnmaaDoorTMe24
import Derived.Test.YthodfhcaaidnmaaDoorTMe30
import Derived.Test.YthodfhcaaidnmaaDoorTMe31
namespace Go.Proofs.YthodfhcaaidnmaaDoor.Me
open Go.Proofs.YthodfhcaaidnmaaDoor.Zz
open Go.RowKit Go.Proofs.YthodfhcaaidnmaaDoorW.PrintWords Go.Proofs.YthodfhcaaidnmaaDoorW.PrintLast Go.Proofs.YthodfhcaaidnmaaDoorW.PrintMore
attribute [local go_sem] max2_int min2_int max_two min_two max_three min_three max_four min_four   -- for this text's walks alone
set_option linter.unusedVariables false
set_option linter.unusedSimpArgs false
def spec_ApartSet.f (k:Nat) (a0_0:Int) (a0_1:Int) (a0_2:Int) (a0_3:Int) (a0_4:Int) (a0_5:Int) (l1:List (S44)):Option (List Int×Int):=(spec_l01Asked.f k a0_0 a0_1 a0_2 a0_3 a0_4 a0_5 l1 true).bind fun t272=>(if t272=0 then ((spec_l01Apart.f k a0_0 a0_1 a0_2 a0_3 a0_4 a0_5 l1 0 (([]:List Int))).bind fun t276=>(some (t276,0))) else (some ((([]:List Int)),t272)))
set_option maxHeartbeats 8000000 in
set_option maxRecDepth 100000 in
theorem spec_ApartSet.calls (k:Nat) (a0_0:Int) (a0_1:Int) (a0_2:Int) (a0_3:Int) (a0_4:Int) (a0_5:Int) (A1:Option Addr) (c1:Nat) (l1:List (S44)) (r1:List Int) (r2:Int) (w:World) (hr1:Kd.C k44 w A1 l1.length l1) (hc1:l1.length≤c1) (h:spec_ApartSet.f k a0_0 a0_1 a0_2 a0_3 a0_4 a0_5 l1=some (r1,r2)) :
  Calls Tryd.prog 14 #[.agg #[.int .u8 a0_0,.int .u8 a0_1,.int .u8 a0_2,.int .u8 a0_3,.int .u8 a0_4,.int .u8 a0_5],.slice A1 l1.length c1] w fun e w'=>∃v0_:Value,e=.returned (.tuple #[v0_,.int .i64 r2])∧Kd.V (Kd.int .i64) 2 w' w.heap.size (fun k_=>(w.heap.size≤k_)) v0_ r1∧Below w.heap.size w w':=by
 have hu25:=Tryd.underlying25;have HR1:=zN hr1;have HC1:=zN hc1;clear hr1 hc1;have HB:=zN (Below.refl w.heap.size w);have H:((spec_l01Asked.f k a0_0 a0_1 a0_2 a0_3 a0_4 a0_5 l1 true).bind fun t272=>(if t272=0 then ((spec_l01Apart.f k a0_0 a0_1 a0_2 a0_3 a0_4 a0_5 l1 0 (([]:List Int))).bind fun t276=>(some (t276,0))) else (some ((([]:List Int)),t272))))=some (r1,r2):=h;clear h;replace H:=Option.bind_eq_some_iff.mp H;obtain ⟨t272,A30,H⟩:=H;replace H:(if t272=0 then ((spec_l01Apart.f k a0_0 a0_1 a0_2 a0_3 a0_4 a0_5 l1 0 (([]:List Int))).bind fun t276=>(some (t276,0))) else (some ((([]:List Int)),t272)))=some (r1,r2):=H;have A3:=zN A30;clear A30
 by_cases c4:t272=0
 ·rw [if_pos c4] at H;have c4b0:(t272 == 0)=true:=beq_iff_eq.mpr c4;have c4b1:(t272 != 0)=false:=bne_eq_false_iff_eq.mpr c4;clear c4;obtain ⟨y273,hy273⟩ : ∃y_:List Int,y_=(([]:List Int)):=⟨_,rfl⟩
  replace H:((spec_l01Apart.f k a0_0 a0_1 a0_2 a0_3 a0_4 a0_5 l1 0 y273).bind fun t276=>(some (t276,0)))=some (r1,r2):=by first|(rw [hy273];with_reducible exact H)|(have H2_:=(Option.bind_some _ _).symm.trans H;rw [hy273];with_reducible exact H2_)|(have H2_:=(Option.bind_some _ _).symm.trans H;with_reducible exact H2_)|with_reducible exact H|(rw [hy273];exact H)|exact H
  have Ny273:=zN hy273;clear hy273;replace H:=Option.bind_eq_some_iff.mp H;obtain ⟨t276,A50,H⟩:=H;replace H:(some (t276,0))=some (r1,r2):=H;have A5:=zN A50;clear A50;simp only [Option.some.injEq,Prod.mk.injEq] at H;obtain ⟨rfl,rfl⟩:=H;go_enter Tryd.func14,Tryd.ntmps14
  go_wp2_with (first|((with_reducible refine gate_dst (N:=2) rfl ?_);refine box_event ?hg (N:=2) ?hd (cs:=#[.int .u8 a0_0,.int .u8 a0_1,.int .u8 a0_2,.int .u8 a0_3,.int .u8 a0_4,.int .u8 a0_5]) (t:=25) ?hr ?_;(case hd=>rfl);(case hg=>rfl);(case hr=>first|(go_simp;done)|(go_simp;rfl));intro gb271 hg w6 hbox hb;have BK271:=zN (hbox);have GW271:=zN ((by rw [hg];exact (zT (by repeat (first|(with_reducible first|exact HB.out|apply zJ|apply zK|apply zL)|exact HB.out))):w.heap.size≤gb271));have GE271:=zN ((by rw [hg];exact (zT (by repeat (first|(with_reducible first|exact HB.out|apply zJ|apply zK|apply zL)|exact HB.out))):w.heap.size≤gb271));replace HB:=zN (zV (by repeat (first|(with_reducible first|exact HB.out|apply zJ|apply zK|apply zL)|exact HB.out)) hb);clear hb hbox hg;have hcz7_0:w6.cell? ⟨gb271,0,none⟩=some (.int .u8 a0_0):=(blk_cell BK271.out 0).trans rfl;have hcz7_1:w6.cell? ⟨gb271,1,none⟩=some (.int .u8 a0_1):=(blk_cell BK271.out 1).trans rfl;have hcz7_2:w6.cell? ⟨gb271,2,none⟩=some (.int .u8 a0_2):=(blk_cell BK271.out 2).trans rfl;have hcz7_3:w6.cell? ⟨gb271,3,none⟩=some (.int .u8 a0_3):=(blk_cell BK271.out 3).trans rfl;have hcz7_4:w6.cell? ⟨gb271,4,none⟩=some (.int .u8 a0_4):=(blk_cell BK271.out 4).trans rfl;have hcz7_5:w6.cell? ⟨gb271,5,none⟩=some (.int .u8 a0_5):=(blk_cell BK271.out 5).trans rfl;have hfz7_0:=blk_frozen BK271.out 0;have hfz7_1:=blk_frozen BK271.out 1;have hfz7_2:=blk_frozen BK271.out 2;have hfz7_3:=blk_frozen BK271.out 3;have hfz7_4:=blk_frozen BK271.out 4;have hfz7_5:=blk_frozen BK271.out 5)|((with_reducible refine gate_callee (f:=48) rfl ?_);refine goesL_ (some 9) rfl rfl Tryd.func48 (by kernel_rfl) rfl #[.agg #[.int .u8 a0_0,.int .u8 a0_1,.int .u8 a0_2,.int .u8 a0_3,.int .u8 a0_4,.int .u8 a0_5],.slice A1 l1.length c1,.bool true] rfl (by (try simp only [List.map_toArray,List.map_cons,List.map_nil]);first|done|rfl|(simp only [List.length_drop,List.length_take];rfl)) ?_;(with_reducible refine (spec_l01Asked.calls k a0_0 a0_1 a0_2 a0_3 a0_4 a0_5 _ _ l1 true t272 _ ?side1 ?side2 A3.out).mono ?_);(case side1=>repeat (first|exact (Kd.C_below HR1.out HB.out)|(with_reducible refine Kd.C_alloc ?_ _)|(with_reducible refine Kd.C_drewN ?_ _)|(with_reducible refine Kd.C_drew ?_)));(case side2=>exact HC1.out);rintro e w8 ⟨rfl,hb⟩;refine ⟨_,rfl,?_⟩;replace BK271:=zN (zU (g:=gb271) (o:=.cells #[.int .u8 a0_0,.int .u8 a0_1,.int .u8 a0_2,.int .u8 a0_3,.int .u8 a0_4,.int .u8 a0_5] 25 (0,0)) (by (with_reducible repeat (first|refine zH ?_ _|refine zI ?_|refine zG ?_ _));exact BK271.out) hb);replace HB:=zN (zV (by repeat (first|(with_reducible first|exact HB.out|apply zJ|apply zK|apply zL|refine zM ?_ GE271.out)|exact HB.out)) hb);(try clear hb);(try clear hb2);(try clear hk);(try clear hi);have hcz9_0:w8.cell? ⟨gb271,0,none⟩=some (.int .u8 a0_0):=(blk_cell BK271.out 0).trans rfl;have hcz9_1:w8.cell? ⟨gb271,1,none⟩=some (.int .u8 a0_1):=(blk_cell BK271.out 1).trans rfl;have hcz9_2:w8.cell? ⟨gb271,2,none⟩=some (.int .u8 a0_2):=(blk_cell BK271.out 2).trans rfl;have hcz9_3:w8.cell? ⟨gb271,3,none⟩=some (.int .u8 a0_3):=(blk_cell BK271.out 3).trans rfl;have hcz9_4:w8.cell? ⟨gb271,4,none⟩=some (.int .u8 a0_4):=(blk_cell BK271.out 4).trans rfl;have hcz9_5:w8.cell? ⟨gb271,5,none⟩=some (.int .u8 a0_5):=(blk_cell BK271.out 5).trans rfl;have hfz9_0:=blk_frozen BK271.out 0;have hfz9_1:=blk_frozen BK271.out 1;have hfz9_2:=blk_frozen BK271.out 2;have hfz9_3:=blk_frozen BK271.out 3;have hfz9_4:=blk_frozen BK271.out 4;have hfz9_5:=blk_frozen BK271.out 5)|((with_reducible refine gate_dst (N:=16) rfl ?_);refine Kd.R_lit (Kd.int .i64) _ 2 ?hg (N:=16) ?hd (xs:=([]:List Int)) (inner:=[]) (ok:=fun _=>True) (okp:=fun _=>True) ?hr ?hp (fun _ hk=>hk) trivial (Below.refl _ _) (Nat.le_refl _) (by simp) ?_;(case hd=>rfl);(case hg=>rfl);(case hr=>first|(go_simp;done)|(go_simp;rfl));(case hp=>exact (Reps.none _ _));intro v274 w10 ho11 hb hg_ hnew_;clear hg_ hnew_;(first|rw [← Ny273.out] at ho11|(simp only [Int.reduceToNat] at ho11;rw [← Ny273.out] at ho11));have HO275:=zN (Kd.R_lower (Kd.R_newM (M:=fun k_=>(w.heap.size≤k_)) ho11 (zT (by repeat (first|(with_reducible first|exact HB.out|apply zJ|apply zK|apply zL|refine zM ?_ GE271.out)|exact HB.out))) (fun k_ h_=>h_)) (zT (by repeat (first|(with_reducible first|exact HB.out|apply zJ|apply zK|apply zL|refine zM ?_ GE271.out)|exact HB.out))));replace BK271:=zN (zU (g:=gb271) (o:=.cells #[.int .u8 a0_0,.int .u8 a0_1,.int .u8 a0_2,.int .u8 a0_3,.int .u8 a0_4,.int .u8 a0_5] 25 (0,0)) (by (with_reducible repeat (first|refine zH ?_ _|refine zI ?_|refine zG ?_ _));exact BK271.out) hb);replace HB:=zN (zV (by repeat (first|(with_reducible first|exact HB.out|apply zJ|apply zK|apply zL|refine zM ?_ GE271.out)|exact HB.out)) hb);clear hb ho11;obtain ⟨Ao12,co12,eo12⟩:=Kd.R_slice HO275.out;subst eo12)|((with_reducible refine gate_callee (f:=49) rfl ?_);refine goesL_ (some 17) rfl rfl Tryd.func49 (by kernel_rfl) rfl #[.agg #[.int .u8 a0_0,.int .u8 a0_1,.int .u8 a0_2,.int .u8 a0_3,.int .u8 a0_4,.int .u8 a0_5],.slice A1 l1.length c1,.int .i64 0,.slice Ao12 y273.length co12] rfl (by (try simp only [List.map_toArray,List.map_cons,List.map_nil]);first|done|rfl|(simp only [List.length_drop,List.length_take];rfl)) ?_;(with_reducible refine (spec_l01Apart.calls k a0_0 a0_1 a0_2 a0_3 a0_4 a0_5 _ _ l1 0 (fun k_=>some k_=(.slice Ao12 y273.length co12:Value).ownBlock) _ _ y273 t276 _ ?side1 ?side2 ?side3 A5.out).mono ?_);(case side1=>repeat (first|exact (Kd.C_below HR1.out HB.out)|(with_reducible refine Kd.C_alloc ?_ _)|(with_reducible refine Kd.C_drewN ?_ _)|(with_reducible refine Kd.C_drew ?_)));(case side2=>exact HC1.out);(case side3=>exact Kd.R_V (Kd.R_tight rfl (Kd.R_types (HO275.out) BK271.out (by decide))));rintro e w13 ⟨v277,rfl,ho0,hb⟩;refine ⟨_,rfl,?_⟩;have HO278:=zN (Kd.V_lower (Kd.V_mono (ok':=fun k_=>(w.heap.size≤k_)∧k_≠gb271) ho0 (fun k_ hk_=>⟨Or.elim hk_ (fun hs_=>((Kd.R_types (HO275.out) BK271.out (by decide)).1 k_ hs_.symm).1.1) (fun hn_=>(Nat.le_trans (zT (by repeat (first|(with_reducible first|exact HB.out|apply zJ|apply zK|apply zL|refine zM ?_ GE271.out)|exact HB.out))) hn_)),Or.elim hk_ (fun hs_=>((Kd.R_types (HO275.out) BK271.out (by decide)).1 k_ hs_.symm).2) (fun hn_=>(Kd.freshB (g:=gb271) (o:=.cells #[.int .u8 a0_0,.int .u8 a0_1,.int .u8 a0_2,.int .u8 a0_3,.int .u8 a0_4,.int .u8 a0_5] 25 (0,0)) (by (with_reducible repeat (first|refine zH ?_ _|refine zI ?_|refine zG ?_ _));exact BK271.out) k_ hn_))⟩)) (zT (by repeat (first|(with_reducible first|exact HB.out|apply zJ|apply zK|apply zL|refine zM ?_ GE271.out)|exact HB.out))));replace HO275:=zN (zW (by (with_reducible repeat (first|apply zA|apply zB|apply zC));exact HO275.out) hb);replace BK271:=zN (zU (g:=gb271) (o:=.cells #[.int .u8 a0_0,.int .u8 a0_1,.int .u8 a0_2,.int .u8 a0_3,.int .u8 a0_4,.int .u8 a0_5] 25 (0,0)) (by (with_reducible repeat (first|refine zH ?_ _|refine zI ?_|refine zG ?_ _));exact BK271.out) hb);replace HB:=zN (zV (by repeat (first|(with_reducible first|exact HB.out|apply zJ|apply zK|apply zL|refine zM ?_ GE271.out)|exact HB.out)) hb);(try clear hb);(try clear hb2);(try clear hk);(try clear hi);(try clear ho0)))
  go_ret2;exact ⟨_,by first|rfl|(simp [errW_none,errW_some]<;>rfl)|(simp [*,errW_none,errW_some]<;>rfl),by (with_reducible repeat (first|apply zD|apply zE|apply zF));exact Kd.V_mono HO278.out (fun _ hk=>hk.1),by repeat (first|(with_reducible first|exact HB.out|apply zJ|apply zK|apply zL|refine zM ?_ GE271.out)|exact HB.out)⟩
 rw [if_neg c4] at H;have c4b0:(t272 == 0)=false:=beq_eq_false_iff_ne.mpr c4;have c4b1:(t272 != 0)=true:=bne_iff_ne.mpr c4;obtain ⟨y279,hy279⟩ : ∃y_:List Int,y_=(([]:List Int)):=⟨_,rfl⟩
 replace H:(some (y279,t272))=some (r1,r2):=by first|(rw [hy279];with_reducible exact H)|(have H2_:=(Option.bind_some _ _).symm.trans H;rw [hy279];with_reducible exact H2_)|(have H2_:=(Option.bind_some _ _).symm.trans H;with_reducible exact H2_)|with_reducible exact H|(rw [hy279];exact H)|exact H
 have Ny279:=zN hy279;clear hy279;simp only [Option.some.injEq,Prod.mk.injEq] at H;obtain ⟨rfl,rfl⟩:=H;go_enter Tryd.func14,Tryd.ntmps14
 go_wp2_with (first|((with_reducible refine gate_dst (N:=2) rfl ?_);refine box_event ?hg (N:=2) ?hd (cs:=#[.int .u8 a0_0,.int .u8 a0_1,.int .u8 a0_2,.int .u8 a0_3,.int .u8 a0_4,.int .u8 a0_5]) (t:=25) ?hr ?_;(case hd=>rfl);(case hg=>rfl);(case hr=>first|(go_simp;done)|(go_simp;rfl));intro gb271 hg w14 hbox hb;have BK271:=zN (hbox);have GW271:=zN ((by rw [hg];exact (zT (by repeat (first|(with_reducible first|exact HB.out|apply zJ|apply zK|apply zL)|exact HB.out))):w.heap.size≤gb271));have GE271:=zN ((by rw [hg];exact (zT (by repeat (first|(with_reducible first|exact HB.out|apply zJ|apply zK|apply zL)|exact HB.out))):w.heap.size≤gb271));replace HB:=zN (zV (by repeat (first|(with_reducible first|exact HB.out|apply zJ|apply zK|apply zL)|exact HB.out)) hb);clear hb hbox hg;have hcz15_0:w14.cell? ⟨gb271,0,none⟩=some (.int .u8 a0_0):=(blk_cell BK271.out 0).trans rfl;have hcz15_1:w14.cell? ⟨gb271,1,none⟩=some (.int .u8 a0_1):=(blk_cell BK271.out 1).trans rfl;have hcz15_2:w14.cell? ⟨gb271,2,none⟩=some (.int .u8 a0_2):=(blk_cell BK271.out 2).trans rfl;have hcz15_3:w14.cell? ⟨gb271,3,none⟩=some (.int .u8 a0_3):=(blk_cell BK271.out 3).trans rfl;have hcz15_4:w14.cell? ⟨gb271,4,none⟩=some (.int .u8 a0_4):=(blk_cell BK271.out 4).trans rfl;have hcz15_5:w14.cell? ⟨gb271,5,none⟩=some (.int .u8 a0_5):=(blk_cell BK271.out 5).trans rfl;have hfz15_0:=blk_frozen BK271.out 0;have hfz15_1:=blk_frozen BK271.out 1;have hfz15_2:=blk_frozen BK271.out 2;have hfz15_3:=blk_frozen BK271.out 3;have hfz15_4:=blk_frozen BK271.out 4;have hfz15_5:=blk_frozen BK271.out 5)|((with_reducible refine gate_callee (f:=48) rfl ?_);refine goesL_ (some 9) rfl rfl Tryd.func48 (by kernel_rfl) rfl #[.agg #[.int .u8 a0_0,.int .u8 a0_1,.int .u8 a0_2,.int .u8 a0_3,.int .u8 a0_4,.int .u8 a0_5],.slice A1 l1.length c1,.bool true] rfl (by (try simp only [List.map_toArray,List.map_cons,List.map_nil]);first|done|rfl|(simp only [List.length_drop,List.length_take];rfl)) ?_;(with_reducible refine (spec_l01Asked.calls k a0_0 a0_1 a0_2 a0_3 a0_4 a0_5 _ _ l1 true t272 _ ?side1 ?side2 A3.out).mono ?_);(case side1=>repeat (first|exact (Kd.C_below HR1.out HB.out)|(with_reducible refine Kd.C_alloc ?_ _)|(with_reducible refine Kd.C_drewN ?_ _)|(with_reducible refine Kd.C_drew ?_)));(case side2=>exact HC1.out);rintro e w16 ⟨rfl,hb⟩;refine ⟨_,rfl,?_⟩;replace BK271:=zN (zU (g:=gb271) (o:=.cells #[.int .u8 a0_0,.int .u8 a0_1,.int .u8 a0_2,.int .u8 a0_3,.int .u8 a0_4,.int .u8 a0_5] 25 (0,0)) (by (with_reducible repeat (first|refine zH ?_ _|refine zI ?_|refine zG ?_ _));exact BK271.out) hb);replace HB:=zN (zV (by repeat (first|(with_reducible first|exact HB.out|apply zJ|apply zK|apply zL|refine zM ?_ GE271.out)|exact HB.out)) hb);(try clear hb);(try clear hb2);(try clear hk);(try clear hi))|((with_reducible refine gate_dst (N:=12) rfl ?_);refine Kd.R_lit (Kd.int .i64) _ 2 ?hg (N:=12) ?hd (xs:=([]:List Int)) (inner:=[]) (ok:=fun _=>True) (okp:=fun _=>True) ?hr ?hp (fun _ hk=>hk) trivial (Below.refl _ _) (Nat.le_refl _) (by simp) ?_;(case hd=>rfl);(case hg=>rfl);(case hr=>first|(go_simp;done)|(go_simp;rfl));(case hp=>exact (Reps.none _ _));intro v280 w17 ho18 hb hg_ hnew_;clear hg_ hnew_;(first|rw [← Ny279.out] at ho18|(simp only [Int.reduceToNat] at ho18;rw [← Ny279.out] at ho18));have HO281:=zN (Kd.R_lower (Kd.R_newM (M:=fun k_=>(w.heap.size≤k_)) ho18 (zT (by repeat (first|(with_reducible first|exact HB.out|apply zJ|apply zK|apply zL|refine zM ?_ GE271.out)|exact HB.out))) (fun k_ h_=>h_)) (zT (by repeat (first|(with_reducible first|exact HB.out|apply zJ|apply zK|apply zL|refine zM ?_ GE271.out)|exact HB.out))));replace BK271:=zN (zU (g:=gb271) (o:=.cells #[.int .u8 a0_0,.int .u8 a0_1,.int .u8 a0_2,.int .u8 a0_3,.int .u8 a0_4,.int .u8 a0_5] 25 (0,0)) (by (with_reducible repeat (first|refine zH ?_ _|refine zI ?_|refine zG ?_ _));exact BK271.out) hb);replace HB:=zN (zV (by repeat (first|(with_reducible first|exact HB.out|apply zJ|apply zK|apply zL|refine zM ?_ GE271.out)|exact HB.out)) hb);clear hb ho18))
 go_ret2;exact ⟨_,by first|rfl|(simp [errW_none,errW_some]<;>rfl)|(simp [*,errW_none,errW_some]<;>rfl),Kd.R_V (by (with_reducible repeat (first|apply zA|apply zB|apply zC));exact Kd.R_mono HO281.out (fun _ hk=>hk.1)),by repeat (first|(with_reducible first|exact HB.out|apply zJ|apply zK|apply zL|refine zM ?_ GE271.out)|exact HB.out)⟩
def spec_SameSets.l0:Nat→List Int→List Int→Int→Option (Bool)
 | 0,_,_,_=>none
 | k+1,x0,x1,x5=>if x5<(x0.length:Int) then (if 0≤x5 then (if x5<(x1.length:Int) then (if (rd x0 x5)=(rd x1 x5) then (spec_SameSets.l0 k x0 x1 (wrap64 (x5+1))) else (some false)) else (none)) else (none)) else (some true)
def spec_SameSets.f (k:Nat) (l0:List Int) (l1:List Int):Option (Bool):=if (l0.length:Int)=(l1.length:Int) then (spec_SameSets.l0 k l0 l1 0) else (some false)
set_option maxHeartbeats 8000000 in
set_option maxRecDepth 100000 in
theorem spec_SameSets.calls (k:Nat) (A0:Option Addr) (c0:Nat) (l0:List Int) (A1:Option Addr) (c1:Nat) (l1:List Int) (r:Bool) (w:World) (hr0:Kd.C (Kd.int .u8) w A0 l0.length l0) (hc0:l0.length≤c0) (hr1:Kd.C (Kd.int .u8) w A1 l1.length l1) (hc1:l1.length≤c1) (h:spec_SameSets.f k l0 l1=some r) :
  Calls Tryd.prog 15 #[.slice A0 l0.length c0,.slice A1 l1.length c1] w fun e w'=>e=.returned (.bool r)∧Drawn0 w w':=by
 have HR0:=zN hr0;have HC0:=zN hc0;clear hr0 hc0;have HR1:=zN hr1;have HC1:=zN hc1;clear hr1 hc1;have H:(if (l0.length:Int)=(l1.length:Int) then (spec_SameSets.l0 k l0 l1 0) else (some false))=some r:=h;clear h
 by_cases c3:(l0.length:Int)=(l1.length:Int)
 ·rw [if_pos c3] at H;have c3b0:((l0.length:Int) == (l1.length:Int))=true:=beq_iff_eq.mpr c3;have c3b1:((l0.length:Int) != (l1.length:Int))=false:=bne_eq_false_iff_eq.mpr c3
  have c3b2:(l0.length == l1.length)=true:=by first|simpa using c3|(simp at c3 ⊢;omega)
  clear c3;have H':=zN H;clear H;go_enter Tryd.func15,Tryd.ntmps15;go_wp2
  repeat (go_quiet (fail);try go_wp2)
  go_loopg [5] k (fun kq v5 w'=>∃(x5_1:Int),v5=.int .i64 x5_1∧Aside0 (spec_SameSets.l0 kq l0 l1 x5_1=some r)∧Aside0 (kq≤k)∧Drawn0 w w')
  case atStart=>exact ⟨(0),(by first|rfl|(simp;done)|(simp [*];done)),H',⟨Nat.le_refl _⟩,by repeat (first|exact Drawn0.refl _|apply Drawn0.step)⟩
  clear H';(try clear c1);(try clear p2);(try clear c3);(try clear c3b0);(try clear c3b1);(try clear c3b2);obtain ⟨x5_1,rfl,HA,HK1,⟨m1,rfl⟩⟩:=hrel
  cases gk with
  | zero=>exact absurd HA.out (by simp [spec_SameSets.l0])
  | succ k1=>
   have H:=HA.out;clear HA;simp only [spec_SameSets.l0] at H
   by_cases c4:x5_1<(l0.length:Int)
   ·rw [if_pos c4] at H;have c4b0:decide (x5_1<(l0.length:Int))=true:=decide_eq_true c4;clear c4
    by_cases c5:0≤x5_1
    rotate_left
    ·rw [if_neg c5] at H;exact absurd H (by simp)
    rw [if_pos c5] at H;have c5b0:decide (0≤x5_1)=true:=decide_eq_true c5;clear c5
    by_cases c6:x5_1<(l1.length:Int)
    rotate_left
    ·rw [if_neg c6] at H;exact absurd H (by simp)
    rw [if_pos c6] at H;have c6b0:decide (x5_1<(l1.length:Int))=true:=decide_eq_true c6;clear c6
    by_cases c7:(rd l0 x5_1)=(rd l1 x5_1)
    rotate_left
    focus
     rw [if_neg c7] at H;have c7b0:((rd l0 x5_1) == (rd l1 x5_1))=false:=beq_eq_false_iff_ne.mpr c7;have c7b1:((rd l0 x5_1) != (rd l1 x5_1))=true:=bne_iff_ne.mpr c7;obtain rfl:=Option.some.inj H
    rotate_right
    focus
     rw [if_pos c7] at H;have c7b0:((rd l0 x5_1) == (rd l1 x5_1))=true:=beq_iff_eq.mpr c7;have c7b1:((rd l0 x5_1) != (rd l1 x5_1))=false:=bne_eq_false_iff_eq.mpr c7;clear c7;have H':=zN H;clear H
    all_goals
     have p282:0≤(x5_1:Int):=zS (by first|(with_reducible assumption)|assumption);have q282:x5_1<(l0.length:Int):=zS (by first|(with_reducible assumption)|assumption);obtain ⟨ad282,e282,hx282_0⟩:=Kd.at_int HR0.out x5_1 p282 q282;cases e282;replace p282:=eq_true p282;replace q282:=eq_true q282;have p283:0≤(x5_1:Int):=zS (by first|(with_reducible assumption)|assumption);have q283:x5_1<(l1.length:Int):=zS (by first|(with_reducible assumption)|assumption);obtain ⟨ad283,e283,hx283_0⟩:=Kd.at_int HR1.out x5_1 p283 q283;cases e283;replace p283:=eq_true p283;replace q283:=eq_true q283;go_wp2
     repeat (go_quiet (fail);try go_wp2)
    ·go_roundg k1
     case measure=>have:=HK1.out;omega
     case rel=>exact ⟨(wrap64 (x5_1+1)),(by first|rfl|(simp;done)|(simp [*];done)),H',⟨by have:=HK1.out;omega⟩,by repeat (first|exact Drawn0.refl _|apply Drawn0.step)⟩
    go_ret;exact ⟨by first|rfl|(simp;done)|(simp [*];done),by repeat (first|exact Drawn0.refl _|apply Drawn0.step)⟩
   rw [if_neg c4] at H;have c4b0:decide (x5_1<(l0.length:Int))=false:=decide_eq_false c4;clear c4;obtain rfl:=Option.some.inj H;go_wp2
   repeat (go_quiet (fail);try go_wp2)
   go_ret;exact ⟨by first|rfl|(simp;done)|(simp [*];done),by repeat (first|exact Drawn0.refl _|apply Drawn0.step)⟩
 rw [if_neg c3] at H;have c3b0:((l0.length:Int) == (l1.length:Int))=false:=beq_eq_false_iff_ne.mpr c3;have c3b1:((l0.length:Int) != (l1.length:Int))=true:=bne_iff_ne.mpr c3
 have c3b2:(l0.length == l1.length)=false:=by first|simpa using c3|(simp at c3 ⊢;omega)
 obtain rfl:=Option.some.inj H;go_enter Tryd.func15,Tryd.ntmps15;go_wp2
 repeat (go_quiet (fail);try go_wp2)
 go_ret;exact ⟨by first|rfl|(simp;done)|(simp [*];done),by repeat (first|exact Drawn0.refl _|apply Drawn0.step)⟩
def spec_l00Same.l0:Nat→List Int→List Int→Int→Option (Bool)
 | 0,_,_,_=>none
 | k+1,x0,x1,x5=>if x5<(x0.length:Int) then (if 0≤x5 then (if x5<(x1.length:Int) then (if (rd x0 x5)=(rd x1 x5) then (spec_l00Same.l0 k x0 x1 (wrap64 (x5+1))) else (some false)) else (none)) else (none)) else (some true)
def spec_l00Same.f (k:Nat) (l0:List Int) (l1:List Int):Option (Bool):=if (l0.length:Int)=(l1.length:Int) then (spec_l00Same.l0 k l0 l1 0) else (some false)
set_option maxHeartbeats 8000000 in
set_option maxRecDepth 100000 in
theorem spec_l00Same.calls (k:Nat) (A0:Option Addr) (c0:Nat) (l0:List Int) (A1:Option Addr) (c1:Nat) (l1:List Int) (r:Bool) (w:World) (hr0:Kd.C (Kd.int .i64) w A0 l0.length l0) (hc0:l0.length≤c0) (hr1:Kd.C (Kd.int .i64) w A1 l1.length l1) (hc1:l1.length≤c1) (h:spec_l00Same.f k l0 l1=some r) :
  Calls Tryd.prog 51 #[.slice A0 l0.length c0,.slice A1 l1.length c1] w fun e w'=>e=.returned (.bool r)∧Drawn0 w w':=by
 have HR0:=zN hr0;have HC0:=zN hc0;clear hr0 hc0;have HR1:=zN hr1;have HC1:=zN hc1;clear hr1 hc1;have H:(if (l0.length:Int)=(l1.length:Int) then (spec_l00Same.l0 k l0 l1 0) else (some false))=some r:=h;clear h
 by_cases c3:(l0.length:Int)=(l1.length:Int)
 ·rw [if_pos c3] at H;have c3b0:((l0.length:Int) == (l1.length:Int))=true:=beq_iff_eq.mpr c3;have c3b1:((l0.length:Int) != (l1.length:Int))=false:=bne_eq_false_iff_eq.mpr c3
  have c3b2:(l0.length == l1.length)=true:=by first|simpa using c3|(simp at c3 ⊢;omega)
  clear c3;have H':=zN H;clear H;go_enter Tryd.func51,Tryd.ntmps51;go_wp2
  repeat (go_quiet (fail);try go_wp2)
  go_loopg [5] k (fun kq v5 w'=>∃(x5_1:Int),v5=.int .i64 x5_1∧Aside0 (spec_l00Same.l0 kq l0 l1 x5_1=some r)∧Aside0 (kq≤k)∧Drawn0 w w')
  case atStart=>exact ⟨(0),(by first|rfl|(simp;done)|(simp [*];done)),H',⟨Nat.le_refl _⟩,by repeat (first|exact Drawn0.refl _|apply Drawn0.step)⟩
  clear H';(try clear c1);(try clear p2);(try clear c3);(try clear c3b0);(try clear c3b1);(try clear c3b2);obtain ⟨x5_1,rfl,HA,HK1,⟨m1,rfl⟩⟩:=hrel
  cases gk with
  | zero=>exact absurd HA.out (by simp [spec_l00Same.l0])
  | succ k1=>
   have H:=HA.out;clear HA;simp only [spec_l00Same.l0] at H
   by_cases c4:x5_1<(l0.length:Int)
   ·rw [if_pos c4] at H;have c4b0:decide (x5_1<(l0.length:Int))=true:=decide_eq_true c4;clear c4
    by_cases c5:0≤x5_1
    rotate_left
    ·rw [if_neg c5] at H;exact absurd H (by simp)
    rw [if_pos c5] at H;have c5b0:decide (0≤x5_1)=true:=decide_eq_true c5;clear c5
    by_cases c6:x5_1<(l1.length:Int)
    rotate_left
    ·rw [if_neg c6] at H;exact absurd H (by simp)
    rw [if_pos c6] at H;have c6b0:decide (x5_1<(l1.length:Int))=true:=decide_eq_true c6;clear c6
    by_cases c7:(rd l0 x5_1)=(rd l1 x5_1)
    rotate_left
    focus
     rw [if_neg c7] at H;have c7b0:((rd l0 x5_1) == (rd l1 x5_1))=false:=beq_eq_false_iff_ne.mpr c7;have c7b1:((rd l0 x5_1) != (rd l1 x5_1))=true:=bne_iff_ne.mpr c7;obtain rfl:=Option.some.inj H
    rotate_right
    focus
     rw [if_pos c7] at H;have c7b0:((rd l0 x5_1) == (rd l1 x5_1))=true:=beq_iff_eq.mpr c7;have c7b1:((rd l0 x5_1) != (rd l1 x5_1))=false:=bne_eq_false_iff_eq.mpr c7;clear c7;have H':=zN H;clear H
    all_goals
     have p284:0≤(x5_1:Int):=zS (by first|(with_reducible assumption)|assumption);have q284:x5_1<(l0.length:Int):=zS (by first|(with_reducible assumption)|assumption);obtain ⟨ad284,e284,hx284_0⟩:=Kd.at_int HR0.out x5_1 p284 q284;cases e284;replace p284:=eq_true p284;replace q284:=eq_true q284;have p285:0≤(x5_1:Int):=zS (by first|(with_reducible assumption)|assumption);have q285:x5_1<(l1.length:Int):=zS (by first|(with_reducible assumption)|assumption);obtain ⟨ad285,e285,hx285_0⟩:=Kd.at_int HR1.out x5_1 p285 q285;cases e285;replace p285:=eq_true p285;replace q285:=eq_true q285;go_wp2
     repeat (go_quiet (fail);try go_wp2)
    ·go_roundg k1
     case measure=>have:=HK1.out;omega
     case rel=>exact ⟨(wrap64 (x5_1+1)),(by first|rfl|(simp;done)|(simp [*];done)),H',⟨by have:=HK1.out;omega⟩,by repeat (first|exact Drawn0.refl _|apply Drawn0.step)⟩
    go_ret;exact ⟨by first|rfl|(simp;done)|(simp [*];done),by repeat (first|exact Drawn0.refl _|apply Drawn0.step)⟩
   rw [if_neg c4] at H;have c4b0:decide (x5_1<(l0.length:Int))=false:=decide_eq_false c4;clear c4;obtain rfl:=Option.some.inj H;go_wp2
   repeat (go_quiet (fail);try go_wp2)
   go_ret;exact ⟨by first|rfl|(simp;done)|(simp [*];done),by repeat (first|exact Drawn0.refl _|apply Drawn0.step)⟩
 rw [if_neg c3] at H;have c3b0:((l0.length:Int) == (l1.length:Int))=false:=beq_eq_false_iff_ne.mpr c3;have c3b1:((l0.length:Int) != (l1.length:Int))=true:=bne_iff_ne.mpr c3
 have c3b2:(l0.length == l1.length)=false:=by first|simpa using c3|(simp at c3 ⊢;omega)
 obtain rfl:=Option.some.inj H;go_enter Tryd.func51,Tryd.ntmps51;go_wp2
 repeat (go_quiet (fail);try go_wp2)
 go_ret;exact ⟨by first|rfl|(simp;done)|(simp [*];done),by repeat (first|exact Drawn0.refl _|apply Drawn0.step)⟩
def spec_SameNumbers.f (k:Nat) (l0:List Int) (l1:List Int):Option (Bool):=(spec_l00Same.f k l0 l1).bind fun t286=>(some t286)
set_option maxHeartbeats 8000000 in
set_option maxRecDepth 100000 in
theorem spec_SameNumbers.calls (k:Nat) (A0:Option Addr) (c0:Nat) (l0:List Int) (A1:Option Addr) (c1:Nat) (l1:List Int) (r:Bool) (w:World) (hr0:Kd.C (Kd.int .i64) w A0 l0.length l0) (hc0:l0.length≤c0) (hr1:Kd.C (Kd.int .i64) w A1 l1.length l1) (hc1:l1.length≤c1) (h:spec_SameNumbers.f k l0 l1=some r) :
  Calls Tryd.prog 17 #[.slice A0 l0.length c0,.slice A1 l1.length c1] w fun e w'=>e=.returned (.bool r)∧Drawn0 w w':=by
 have HR0:=zN hr0;have HC0:=zN hc0;clear hr0 hc0;have HR1:=zN hr1;have HC1:=zN hc1;clear hr1 hc1;have H:((spec_l00Same.f k l0 l1).bind fun t286=>(some t286))=some r:=h;clear h;replace H:=Option.bind_eq_some_iff.mp H;obtain ⟨t286,A30,H⟩:=H;replace H:(some t286)=some r:=H;have A3:=zN A30;clear A30;obtain rfl:=Option.some.inj H;go_enter Tryd.func17,Tryd.ntmps17
 go_wp2_with (first|((with_reducible refine gate_callee (f:=51) rfl ?_);refine goesL_ (some 7) rfl rfl Tryd.func51 (by kernel_rfl) rfl #[.slice A0 l0.length c0,.slice A1 l1.length c1] rfl (by (try simp only [List.map_toArray,List.map_cons,List.map_nil]);first|done|rfl|(simp only [List.length_drop,List.length_take];rfl)) ?_;(with_reducible refine (spec_l00Same.calls k _ _ l0 _ _ l1 t286 _ ?side1 ?side2 ?side3 ?side4 A3.out).mono ?_);(case side1=>repeat (first|exact HR0.out|(with_reducible refine Kd.C_alloc ?_ _)|(with_reducible refine Kd.C_drewN ?_ _)|(with_reducible refine Kd.C_drew ?_)));(case side2=>exact HC0.out);(case side3=>repeat (first|exact HR1.out|(with_reducible refine Kd.C_alloc ?_ _)|(with_reducible refine Kd.C_drewN ?_ _)|(with_reducible refine Kd.C_drew ?_)));(case side4=>exact HC1.out);rintro e w' ⟨rfl,⟨nd,rfl⟩⟩;refine ⟨_,rfl,?_⟩))
 go_ret;exact ⟨by first|rfl|(simp;done)|(simp [*];done),by repeat (first|exact Drawn0.refl _|apply Drawn0.step)⟩
def spec_l00Has.l0:Nat→List Int→Int→Int→Option (Bool)
 | 0,_,_,_=>none
 | k+1,x0,x1,x5=>if x5<(x0.length:Int) then (if 0≤x5 then (if (rd x0 x5)=x1 then (some true) else (spec_l00Has.l0 k x0 x1 (wrap64 (x5+1)))) else (none)) else (some false)
def spec_l00Has.f (k:Nat) (l0:List Int) (a1:Int):Option (Bool):=spec_l00Has.l0 k l0 a1 0
set_option maxHeartbeats 8000000 in
set_option maxRecDepth 100000 in
theorem spec_l00Has.calls (k:Nat) (A0:Option Addr) (c0:Nat) (l0:List Int) (a1:Int) (r:Bool) (w:World) (hr0:Kd.C (Kd.int .i64) w A0 l0.length l0) (hc0:l0.length≤c0) (h:spec_l00Has.f k l0 a1=some r) :
  Calls Tryd.prog 52 #[.slice A0 l0.length c0,.int .i64 a1] w fun e w'=>e=.returned (.bool r)∧Drawn0 w w':=by
 have HR0:=zN hr0;have HC0:=zN hc0;clear hr0 hc0;have H:(spec_l00Has.l0 k l0 a1 0)=some r:=h;clear h;have H':=zN H;clear H;go_enter Tryd.func52,Tryd.ntmps52;go_wp2
 go_loopg [5] k (fun kq v5 w'=>∃(x5_1:Int),v5=.int .i64 x5_1∧Aside0 (spec_l00Has.l0 kq l0 a1 x5_1=some r)∧Aside0 (kq≤k)∧Drawn0 w w')
 case atStart=>exact ⟨(0),(by first|rfl|(simp;done)|(simp [*];done)),H',⟨Nat.le_refl _⟩,by repeat (first|exact Drawn0.refl _|apply Drawn0.step)⟩
 clear H';(try clear p2);obtain ⟨x5_1,rfl,HA,HK1,⟨m1,rfl⟩⟩:=hrel
 cases gk with
 | zero=>exact absurd HA.out (by simp [spec_l00Has.l0])
 | succ k1=>
  have H:=HA.out;clear HA;simp only [spec_l00Has.l0] at H
  by_cases c3:x5_1<(l0.length:Int)
  ·rw [if_pos c3] at H;have c3b0:decide (x5_1<(l0.length:Int))=true:=decide_eq_true c3;clear c3
   by_cases c4:0≤x5_1
   rotate_left
   ·rw [if_neg c4] at H;exact absurd H (by simp)
   rw [if_pos c4] at H;have c4b0:decide (0≤x5_1)=true:=decide_eq_true c4;clear c4
   by_cases c5:(rd l0 x5_1)=a1
   rotate_left
   focus
    rw [if_neg c5] at H;have c5b0:((rd l0 x5_1) == a1)=false:=beq_eq_false_iff_ne.mpr c5;have c5b1:((rd l0 x5_1) != a1)=true:=bne_iff_ne.mpr c5;have H':=zN H;clear H
   rotate_right
   focus
    rw [if_pos c5] at H;have c5b0:((rd l0 x5_1) == a1)=true:=beq_iff_eq.mpr c5;have c5b1:((rd l0 x5_1) != a1)=false:=bne_eq_false_iff_eq.mpr c5;clear c5;obtain rfl:=Option.some.inj H
   all_goals
    have p287:0≤(x5_1:Int):=zS (by first|(with_reducible assumption)|assumption);have q287:x5_1<(l0.length:Int):=zS (by first|(with_reducible assumption)|assumption);obtain ⟨ad287,e287,hx287_0⟩:=Kd.at_int HR0.out x5_1 p287 q287;cases e287;replace p287:=eq_true p287;replace q287:=eq_true q287;go_wp2
   ·go_ret;exact ⟨by first|rfl|(simp;done)|(simp [*];done),by repeat (first|exact Drawn0.refl _|apply Drawn0.step)⟩
   go_roundg k1
   case measure=>have:=HK1.out;omega
   case rel=>exact ⟨(wrap64 (x5_1+1)),(by first|rfl|(simp;done)|(simp [*];done)),H',⟨by have:=HK1.out;omega⟩,by repeat (first|exact Drawn0.refl _|apply Drawn0.step)⟩
  rw [if_neg c3] at H;have c3b0:decide (x5_1<(l0.length:Int))=false:=decide_eq_false c3;clear c3;obtain rfl:=Option.some.inj H;go_wp2;go_ret;exact ⟨by first|rfl|(simp;done)|(simp [*];done),by repeat (first|exact Drawn0.refl _|apply Drawn0.step)⟩
def spec_HasNumber.f (k:Nat) (l0:List Int) (a1:Int):Option (Bool):=(spec_l00Has.f k l0 a1).bind fun t288=>(some t288)
set_option maxHeartbeats 8000000 in
set_option maxRecDepth 100000 in
theorem spec_HasNumber.calls (k:Nat) (A0:Option Addr) (c0:Nat) (l0:List Int) (a1:Int) (r:Bool) (w:World) (hr0:Kd.C (Kd.int .i64) w A0 l0.length l0) (hc0:l0.length≤c0) (h:spec_HasNumber.f k l0 a1=some r) :
  Calls Tryd.prog 18 #[.slice A0 l0.length c0,.int .i64 a1] w fun e w'=>e=.returned (.bool r)∧Drawn0 w w':=by
 have HR0:=zN hr0;have HC0:=zN hc0;clear hr0 hc0;have H:((spec_l00Has.f k l0 a1).bind fun t288=>(some t288))=some r:=h;clear h;replace H:=Option.bind_eq_some_iff.mp H;obtain ⟨t288,A30,H⟩:=H;replace H:(some t288)=some r:=H;have A3:=zN A30;clear A30;obtain rfl:=Option.some.inj H;go_enter Tryd.func18,Tryd.ntmps18
 go_wp2_with (first|((with_reducible refine gate_callee (f:=52) rfl ?_);refine goesL_ (some 7) rfl rfl Tryd.func52 (by kernel_rfl) rfl #[.slice A0 l0.length c0,.int .i64 a1] rfl (by (try simp only [List.map_toArray,List.map_cons,List.map_nil]);first|done|rfl|(simp only [List.length_drop,List.length_take];rfl)) ?_;(with_reducible refine (spec_l00Has.calls k _ _ l0 a1 t288 _ ?side1 ?side2 A3.out).mono ?_);(case side1=>repeat (first|exact HR0.out|(with_reducible refine Kd.C_alloc ?_ _)|(with_reducible refine Kd.C_drewN ?_ _)|(with_reducible refine Kd.C_drew ?_)));(case side2=>exact HC0.out);rintro e w' ⟨rfl,⟨nd,rfl⟩⟩;refine ⟨_,rfl,?_⟩))
 go_ret;exact ⟨by first|rfl|(simp;done)|(simp [*];done),by repeat (first|exact Drawn0.refl _|apply Drawn0.step)⟩
end Go.Proofs.YthodfhcaaidnmaaDoor.Me
