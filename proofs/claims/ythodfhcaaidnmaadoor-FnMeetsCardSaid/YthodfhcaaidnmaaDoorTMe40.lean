/- Words and walks for the law FnMeets. -/
import Derived.Test.YthodfhcaaidnmaaDoorTMe39
namespace Go.Proofs.YthodfhcaaidnmaaDoor.Me
open Go.Proofs.YthodfhcaaidnmaaDoor.Zz
open Go.RowKit Go.Proofs.YthodfhcaaidnmaaDoorW.PrintWords Go.Proofs.YthodfhcaaidnmaaDoorW.PrintLast Go.Proofs.YthodfhcaaidnmaaDoorW.PrintMore
attribute [local go_sem] max2_int min2_int max_two min_two max_three min_three max_four min_four   -- for this text's walks alone
set_option linter.unusedVariables false
set_option linter.unusedSimpArgs false
set_option maxHeartbeats 8000000 in
set_option maxRecDepth 100000 in
theorem laws_FnMeets.calls_all_kj2_0_kj13_1_k4_5_k6_7:laws_FnMeets.calls_all_kj2_0_kj13_1_k4_5_p.1.1:=by
  intro k A0 c0 l0 A1 c1 l1 r w hu25 hu44 HR0 HC0 HR1 HC1 _ HTAB _ _ _ _ _ _ _ _ _ _ _ _ _ _ _ _ _ _ _ _ _ _ _ _ _ _ _ _ _ _ _ _ _ _ _ _ _ _ _ _ _ _ _ _ _ _ _ _ _ _ _ _ _ _ _ _ _ _ _ _ _ _ _ _ _ _ _ _ _ _ _ _ _ _ _ _ _ _ _ u115 _ _ _ _ _ _ _ _ _ _ _ _ _ _ _ _ _ _ _ _ _ _ _ _ _ _ _ _ _ _ _ _ _ _ _ _ _ _ _ _ _ _ _ _ _ _ _ _ _ _ _ _ _ _ _ _ _ _ _ _ _ _ _ _ _ _ _ _ _ _ _ _ _ _ _ _ _ _ _ _ _ _ _ _ _ _ _ _ _ _ _ _ _ _ _ _ _ _ _ _ _ _ _ _ _ _ _ _ _ _ _ _ _ _ _ _ _ _ _ _ _ _ _ _ _ _ _ _ _ _ _ _ _ _ _ _ _ _ _ _ _ _ _ _ _ _ _ _ _ _ _ _ _ _ _ _ _ _ _ _ _ _ _ _ _ _ _ _ _ _ _ _ _ _ _ _ _ _ _ _ _ _ _ _ _ _ _ _ _ _ _ _ _ _ _ _ _ _ _ _ _ _ _ _ _ _ _ _ _ _ _ _ _ _ _ _ _ _ _ _ _ _ _ _ _ _ _ _ _ _ _ _ _ _ _ _ _ _ _ kj2 HJ2 t394 t395 t396 t397 t398 t399 A8 t401 A9 t404 t407 A10 t408 t411 A11 t412 t415 A12 t416 t419 A13 w15 gb400 w16 GW400 GE400 w18 w20 v405 w22 Ao24 co24 w25 v413 w27 HO403 HO414 _ _ wc u37 u38 u39 u40 u41 u42 u43 u44 u45 u46 u47 u48 u49 u50 u51 u52 u53 u54 u55 u56 u57 u58 u59 u60 u61 u62 u63 u64 u65 u66 u67 u68 u69 u70 u71 u72 u73 u74 u75 u76 u77 u78 u79 u80 u81 u82 u83 u84 u85 u86 u87 u88 u89 u90 u91 u92 u93 u94 u95 u96 u97 u98 u99 u100 u101 u102 u103 u104 u105 u106 u107 u108 u109 u110 u111 u112 u113 u114 _ _ _ _ _ _ _ _ _ _ _ _ _ _ _ _ _ _ _ _ _ _ _ _ _ _ _ _ _ _ _ _ _ _ _ _ _ _ _ _ _ _ _ _ _ _ _ _ _ _ _ _ _ _ _ _ _ _ _ _ _ _ _ _ _ _ _ _ _ _ _ _ _ _ _ _ _ _ _ _ _ _ _ _ _ _ _ _ _ _ _ _ _ _ _ _ _ _ _ _ _ _ _ _ _ _ _ _ _ _ _ _ _ _ _ _ _ _ _ _ _ _ _ _ _ _ _ _ _ _ _ _ _ _ _ _ _ _ _ _ _ _ _ _ _ _ _ _ _ _ _ _ _ _ _ _ _ _ _ _ _ _ _ _ _ _ _ u283 u284 u285 u286 u287 u288 u289 u290 u291 u292 u293 u294 u295 u296 u297 u298 u299 u300 u301 u302 u303 u304 u305 u306 u307 u308 u309 u310 u311 u312 u313 u314 u315 u316 u317 u318 u319 u320 u321 u322 u323 u324 u325 u326 u327 u328 u329 u330 u331 u332 u333 u334 u335 u336 u337 u338 u339 u340 u341 u342 u343 u344 u345 u346 u347 u348 u349 u350 u351 u352 u353 u354 _ _ _ kj13 HJ13 _ _ _ u16 u17 u18 u116 u117 u118 u119 u120 u121 u122 u123 u124 u125 u126 u127 u128 u129 u130 u131 u132 u133 u134 u135 u136 u137 u138 u139 u140 u141 u142 u143 u144 u145 u146 u147 u148 u149 u150 u151 u152 u153 u154 u155 u156 u157 u158 u159 _ _ x15_3 _ _ _ k3 _ HK3 _ _ _ _ _ u160 u161 u162 u163 u164 u165 u166 u167 u168 u169 u170 u171 u172 u173 u174 u175 u176 u177 u178 u179 u180 u181 u182 u183 u184 u185 u186 u187 u188 u189 u190 u191 u192 u193 _ _ x19_4 _ _ _ k4 _ HK4 Ao77 co77 HO406 HO410 _ _ HO_9 _ _ _ _ _ _ u21 u22 u23 _ _ _ _ u194 u195 u196 u197 u198 u199 u200 u201 u202 u203 _ _ _ _ _ _ _ _ _ _ _ _ _ _ _ _ _ _ _ _ _ _ _ _ _ _ _ _ _ _ _ _ _ _ _ _ _ _ _ _ _ _ _ _ _ _ _ _ _ _ _ _ _ _ _ _ _ _ _ _ _ _ _ _ _ _ u270 u271 u272 u273 u274 u275 u276 u277 u278 u279 u280 u281 u282 _ _ x20_5 _ _ _ k5 _ HK5 t431 A79 Ao80 co80 HO418 _ _ _ _ _ _ _ _ _ nd _ _ wr u4 u24 u25 u26 u27 u204 u205 u206 u207 u208 u209 u210 u211 u212 u213 u214 u215 u216 u217 u218 u219 u220 u221 u222 u223 u224 u225 u226 u227 u228 u229 u230 u231 u232 u233 u234 u235 u236 u237 u238 u239 u240 u241 u242 u243 u244 u245 u246 u247 u248 u249 u250 u251 u252 u253 u254 u255 u256 u257 u258 u259 u260 u261 u262 u263 u264 u265 u266 u267 u268 u269 _ _ _ x22_6 x23_6 HO_6 HO_13 BK400 HB k6 _ HA HK6
  have H:=HA.out;clear HA;simp only [laws_FnMeets.l5] at H
  by_cases c81:x23_6<(t416.length:Int)
  ·rw [if_pos c81] at H;have c81b0:decide (x23_6<(t416.length:Int))=true:=decide_eq_true c81;clear c81
   by_cases c82:0≤x23_6
   rotate_left
   ·rw [if_neg c82] at H;exact absurd H (by simp)
   rw [if_pos c82] at H;have c82b0:decide (0≤x23_6)=true:=decide_eq_true c82;clear c82
   by_cases c83:(rd t416 x23_6)=x20_5
   ·rw [if_pos c83] at H;have c83b0:((rd t416 x23_6) == x20_5)=true:=beq_iff_eq.mpr c83;have c83b1:((rd t416 x23_6) != x20_5)=false:=bne_eq_false_iff_eq.mpr c83;clear c83;have H':=zN H;clear H;have p436:0≤(x23_6:Int):=zS (by first|(with_reducible assumption)|assumption);have q436:x23_6<(t416.length:Int):=zS (by first|(with_reducible assumption)|assumption);obtain ⟨ad436,e436,hx436_0⟩:=Kd.at_int (Kd.V_reads' HO_13.out).2.2 x23_6 p436 q436;cases e436;replace p436:=eq_true p436;replace q436:=eq_true q436;go_wp2;go_roundg k6
    case measure=>have:=HJ2.out;have:=HJ13.out;have:=HK3.out;have:=HK4.out;have:=HK5.out;have:=HK6.out;omega
    case rel=>exact ⟨(x22_6),(wrap64 (x23_6+1)),(by first|rfl|(simp;done)|(simp [*];done)),(by first|rfl|(simp;done)|(simp [*];done)),H',⟨by have:=HJ2.out;have:=HJ13.out;have:=HK3.out;have:=HK4.out;have:=HK5.out;have:=HK6.out;omega⟩,⟨by (with_reducible repeat (first|apply zA|apply zB|apply zC));exact HO_6.out⟩,⟨by (with_reducible repeat (first|apply zD|apply zE|apply zF));exact HO_13.out⟩,⟨by (with_reducible repeat (first|refine zH ?_ _|refine zI ?_|refine zG ?_ _));exact BK400.out⟩,⟨by repeat (first|(with_reducible first|exact HB.out|apply zJ|apply zK|apply zL|refine zM ?_ GE400.out)|exact HB.out)⟩⟩
   rw [if_neg c83] at H;have c83b0:((rd t416 x23_6) == x20_5)=false:=beq_eq_false_iff_ne.mpr c83;have c83b1:((rd t416 x23_6) != x20_5)=true:=bne_iff_ne.mpr c83
   by_cases c84:0≤x20_5
   rotate_left
   ·rw [if_neg c84] at H;exact absurd H (by simp)
   rw [if_pos c84] at H;have c84b0:decide (0≤x20_5)=true:=decide_eq_true c84;clear c84
   by_cases c85:x20_5<(t401.length:Int)
   rotate_left
   ·rw [if_neg c85] at H;exact absurd H (by simp)
   rw [if_pos c85] at H;have c85b0:decide (x20_5<(t401.length:Int))=true:=decide_eq_true c85;clear c85
   by_cases c86:0≤(rd t416 x23_6)
   rotate_left
   ·rw [if_neg c86] at H;exact absurd H (by simp)
   rw [if_pos c86] at H;have c86b0:decide (0≤(rd t416 x23_6))=true:=decide_eq_true c86;clear c86
   by_cases c87:(rd t416 x23_6)<(t401.length:Int)
   rotate_left
   ·rw [if_neg c87] at H;exact absurd H (by simp)
   rw [if_pos c87] at H;have c87b0:decide ((rd t416 x23_6)<(t401.length:Int))=true:=decide_eq_true c87;clear c87;replace H:=Option.bind_eq_some_iff.mp H;obtain ⟨⟨t440,t441⟩,A880,H⟩:=H;replace H:((impl_MayMeet.f k6 t394 t395 t396 t397 t398 t399 ((rd_T44 t401 (rd t416 x23_6)).f0) ((rd_T44 t401 (rd t416 x23_6)).f1) ((rd_T44 t401 (rd t416 x23_6)).f2) ((rd_T44 t401 (rd t416 x23_6)).f3) ((rd_T44 t401 x20_5).f0) ((rd_T44 t401 x20_5).f1) ((rd_T44 t401 x20_5).f2) ((rd_T44 t401 x20_5).f3)).bind fun bt445=>(if t441=0 then (if bt445.2=0 then (if (t440 != bt445.1)=true then (none) else (if t440=true then (if (!t431)=true then (if x22_6=true then (laws_FnMeets.l5 k6 l1 t401 t416 x20_5 (!t431) true (wrap64 (x23_6+1)) t394 t395 t396 t397 t398 t399) else (laws_FnMeets.l5 k6 l1 t401 t416 x20_5 (!t431) t440 (wrap64 (x23_6+1)) t394 t395 t396 t397 t398 t399)) else (none)) else (if x22_6=true then (laws_FnMeets.l5 k6 l1 t401 t416 x20_5 (!t431) true (wrap64 (x23_6+1)) t394 t395 t396 t397 t398 t399) else (laws_FnMeets.l5 k6 l1 t401 t416 x20_5 (!t431) t440 (wrap64 (x23_6+1)) t394 t395 t396 t397 t398 t399)))) else (none)) else (none)))=some r:=H;have A88:=zN A880;clear A880;replace H:=Option.bind_eq_some_iff.mp H;obtain ⟨⟨t445,t446⟩,A890,H⟩:=H
   replace H:(if t441=0 then (if t446=0 then (if (t440 != t445)=true then (none) else (if t440=true then (if (!t431)=true then (if x22_6=true then (laws_FnMeets.l5 k6 l1 t401 t416 x20_5 (!t431) true (wrap64 (x23_6+1)) t394 t395 t396 t397 t398 t399) else (laws_FnMeets.l5 k6 l1 t401 t416 x20_5 (!t431) t440 (wrap64 (x23_6+1)) t394 t395 t396 t397 t398 t399)) else (none)) else (if x22_6=true then (laws_FnMeets.l5 k6 l1 t401 t416 x20_5 (!t431) true (wrap64 (x23_6+1)) t394 t395 t396 t397 t398 t399) else (laws_FnMeets.l5 k6 l1 t401 t416 x20_5 (!t431) t440 (wrap64 (x23_6+1)) t394 t395 t396 t397 t398 t399)))) else (none)) else (none))=some r:=H;have A89:=zN A890;clear A890
   by_cases c90:t441=0
   rotate_left
   ·rw [if_neg c90] at H;exact absurd H (by simp)
   rw [if_pos c90] at H;have c90b0:(t441 == 0)=true:=beq_iff_eq.mpr c90;have c90b1:(t441 != 0)=false:=bne_eq_false_iff_eq.mpr c90;clear c90
   by_cases c91:t446=0
   rotate_left
   ·rw [if_neg c91] at H;exact absurd H (by simp)
   rw [if_pos c91] at H;have c91b0:(t446 == 0)=true:=beq_iff_eq.mpr c91;have c91b1:(t446 != 0)=false:=bne_eq_false_iff_eq.mpr c91;clear c91
   by_cases c92:(t440 != t445)=true
   ·rw [if_pos c92] at H;exact absurd H (by simp)
   rw [if_neg c92] at H
   have c92b0:(t440 != t445)=false:=by simpa using c92
   (try (have c92b1:decide (t440=t445)=true:=by simpa using c92));(try (have c92b2:(t440 == t445)=true:=by simpa using c92));clear c92
   by_cases c93:t440=true
   rotate_left
   focus
    replace c93:=Bool.eq_false_iff.mpr c93;subst c93
    have H1:(if x22_6=true then (laws_FnMeets.l5 k6 l1 t401 t416 x20_5 (!t431) true (wrap64 (x23_6+1)) t394 t395 t396 t397 t398 t399) else (laws_FnMeets.l5 k6 l1 t401 t416 x20_5 (!t431) false (wrap64 (x23_6+1)) t394 t395 t396 t397 t398 t399))=some r:=by rw [if_neg (show ¬(false=true) by decide)] at H;exact H
    clear H;have H:=H1;clear H1
    by_cases c104:x22_6=true
    rotate_left
    focus
     replace c104:=Bool.eq_false_iff.mpr c104;subst c104
     have H1:(laws_FnMeets.l5 k6 l1 t401 t416 x20_5 (!t431) false (wrap64 (x23_6+1)) t394 t395 t396 t397 t398 t399)=some r:=by rw [if_neg (show ¬(false=true) by decide)] at H;exact H
    rotate_right
    focus
     subst c104
     have H1:(laws_FnMeets.l5 k6 l1 t401 t416 x20_5 (!t431) true (wrap64 (x23_6+1)) t394 t395 t396 t397 t398 t399)=some r:=by rw [if_pos rfl] at H;exact H
    all_goals
     clear H;have H:=H1;clear H1;have H':=zN H;clear H;have p436:0≤(x23_6:Int):=zS (by first|(with_reducible assumption)|assumption);have q436:x23_6<(t416.length:Int):=zS (by first|(with_reducible assumption)|assumption);obtain ⟨ad436,e436,hx436_0⟩:=Kd.at_int (Kd.V_reads' HO_13.out).2.2 x23_6 p436 q436;cases e436;replace p436:=eq_true p436;replace q436:=eq_true q436
     try go_wp2
     replace HO_6:=zN (zC HO_6.out);replace HO_13:=zN (zF HO_13.out);replace BK400:=zN (zI BK400.out);replace HB:=zN (zL HB.out);have p437:0≤(x20_5:Int):=zS (by first|(with_reducible assumption)|assumption);have q437:x20_5<(t401.length:Int):=zS (by first|(with_reducible assumption)|assumption);obtain ⟨ad437,e437,hx437_0,hx437_1,hx437_2,hx437_3⟩:=at_T44 (Kd.R_reads' HO_6.out).2.2 x20_5 p437 q437;cases e437;replace p437:=eq_true p437;replace q437:=eq_true q437;have p438:0≤(x23_6:Int):=zS (by first|(with_reducible assumption)|assumption);have q438:x23_6<(t416.length:Int):=zS (by first|(with_reducible assumption)|assumption);obtain ⟨ad438,e438,hx438_0⟩:=Kd.at_int (Kd.V_reads' HO_13.out).2.2 x23_6 p438 q438;obtain rfl:ad436=ad438:=(by injection e438);replace p438:=eq_true p438;replace q438:=eq_true q438;have p439:0≤((rd t416 x23_6):Int):=zS (by first|(with_reducible assumption)|assumption);have q439:(rd t416 x23_6)<(t401.length:Int):=zS (by first|(with_reducible assumption)|assumption);obtain ⟨ad439,e439,hx439_0,hx439_1,hx439_2,hx439_3⟩:=at_T44 (Kd.R_reads' HO_6.out).2.2 (rd t416 x23_6) p439 q439;obtain rfl:ad437=ad439:=(by injection e439);replace p439:=eq_true p439;replace q439:=eq_true q439
     refine start_ (n:=18) (S:=fun w'=>w'.cell? ⟨gb400,0,none⟩=some (.int .u8 t394)∧w'.cell? ⟨gb400,1,none⟩=some (.int .u8 t395)∧w'.cell? ⟨gb400,2,none⟩=some (.int .u8 t396)∧w'.cell? ⟨gb400,3,none⟩=some (.int .u8 t397)∧w'.cell? ⟨gb400,4,none⟩=some (.int .u8 t398)∧w'.cell? ⟨gb400,5,none⟩=some (.int .u8 t399)∧w'.cell? (ad437.add ((x20_5).toNat*4))=some (.int .u8 ((rd_T44 t401 x20_5).f0))∧w'.cell? ⟨(ad437.add ((x20_5).toNat*4)).block,(ad437.add ((x20_5).toNat*4)).off+1,none⟩=some (.int .i8 ((rd_T44 t401 x20_5).f1))∧w'.cell? ⟨(ad437.add ((x20_5).toNat*4)).block,(ad437.add ((x20_5).toNat*4)).off+2,none⟩=some (.int .i8 ((rd_T44 t401 x20_5).f2))∧w'.cell? ⟨(ad437.add ((x20_5).toNat*4)).block,(ad437.add ((x20_5).toNat*4)).off+3,none⟩=some (.int .i16 ((rd_T44 t401 x20_5).f3))∧w'.cell? (ad436.add (x23_6).toNat)=some (.int .i64 (rd t416 x23_6))∧w'.cell? (ad437.add (((rd t416 x23_6)).toNat*4))=some (.int .u8 ((rd_T44 t401 (rd t416 x23_6)).f0))∧w'.cell? ⟨(ad437.add (((rd t416 x23_6)).toNat*4)).block,(ad437.add (((rd t416 x23_6)).toNat*4)).off+1,none⟩=some (.int .i8 ((rd_T44 t401 (rd t416 x23_6)).f1))∧w'.cell? ⟨(ad437.add (((rd t416 x23_6)).toNat*4)).block,(ad437.add (((rd t416 x23_6)).toNat*4)).off+2,none⟩=some (.int .i8 ((rd_T44 t401 (rd t416 x23_6)).f2))∧w'.cell? ⟨(ad437.add (((rd t416 x23_6)).toNat*4)).block,(ad437.add (((rd t416 x23_6)).toNat*4)).off+3,none⟩=some (.int .i16 ((rd_T44 t401 (rd t416 x23_6)).f3))) (ds:=[]) #[false,false,false,false,false,false,false,false,false,false,false,false,false,false,false,false,false,false] (by kernel_rfl) rfl rfl ⟨(blk_cell BK400.out 0).trans rfl,(blk_cell BK400.out 1).trans rfl,(blk_cell BK400.out 2).trans rfl,(blk_cell BK400.out 3).trans rfl,(blk_cell BK400.out 4).trans rfl,(blk_cell BK400.out 5).trans rfl,hx437_0,hx437_1,hx437_2,hx437_3,hx438_0,hx439_0,hx439_1,hx439_2,hx439_3⟩ (fun hHeld=>?_);refine with_tabW laws_FnMeets.tab39 laws_FnMeets.bits39 (fun HT_ HW_=>?_)
     generalize wr.drew=w96 at HO_6 HO_13 BK400 HB hx437_0 hx437_1 hx437_2 hx437_3 hx438_0 hx439_0 hx439_1 hx439_2 hx439_3 hHeld ⊢;refine pure_ (i:=1) (N:=some 218) (v:=?_) (a':=?_) #[false,true,false,false,false,false,false,false,false,false,false,false,false,false,false,false,false,false] rfl rfl (any_of HT_.out (by kernel_rfl)) (fun _ _ _ h=>h) (Or.inl ⟨by rfl,?_⟩) ?_ ?_;rotate_left
     ·intro w';go_simp;(with_reducible rfl)
     rotate_left
     ·simp only [Act.put,zO,zP,zQ,i64_w,i32_w];rfl
     refine pure_ (i:=2) (N:=some 219) (v:=?_) (a':=?_) #[false,true,true,false,false,false,false,false,false,false,false,false,false,false,false,false,false,false] rfl rfl (any_of HT_.out (by kernel_rfl)) (fun _ _ _ h=>h) (Or.inl ⟨by rfl,?_⟩) ?_ ?_;rotate_left
     ·intro w';go_simp;(with_reducible rfl)
     rotate_left
     ·simp only [Act.put,zO,zP,zQ,i64_w,i32_w];rfl
     refine pure_ (i:=3) (N:=some 220) (v:=?_) (a':=?_) #[false,true,true,true,false,false,false,false,false,false,false,false,false,false,false,false,false,false] rfl rfl (any_of HT_.out (by kernel_rfl)) (fun _ _ _ h=>h) (Or.inl ⟨by rfl,?_⟩) ?_ ?_;rotate_left
     ·intro w';go_simp;(with_reducible rfl)
     rotate_left
     ·simp only [Act.put,zO,zP,zQ,i64_w,i32_w];rfl
     refine pure_ (i:=5) (N:=some 222) (v:=?_) (a':=?_) #[false,true,true,true,false,true,false,false,false,false,false,false,false,false,false,false,false,false] rfl rfl (any_of HT_.out (by kernel_rfl)) (fun _ _ _ h=>h) (Or.inl ⟨by rfl,?_⟩) ?_ ?_;rotate_left
     ·intro w';go_simp;(with_reducible rfl)
     rotate_left
     ·simp only [Act.put,zO,zP,zQ,i64_w,i32_w];rfl
     refine pure_ (i:=6) (N:=some 223) (v:=?_) (a':=?_) #[false,true,true,true,false,true,true,false,false,false,false,false,false,false,false,false,false,false] rfl rfl (any_of HT_.out (by kernel_rfl)) (fun _ _ _ h=>h) (Or.inl ⟨by rfl,?_⟩) ?_ ?_;rotate_left
     ·intro w';go_simp;(with_reducible rfl)
     rotate_left
     ·simp only [Act.put,zO,zP,zQ,i64_w,i32_w];rfl
     refine pure_ (i:=7) (N:=some 224) (v:=?_) (a':=?_) #[false,true,true,true,false,true,true,true,false,false,false,false,false,false,false,false,false,false] rfl rfl (any_of HT_.out (by kernel_rfl)) (fun _ _ _ h=>h) (Or.inl ⟨by rfl,?_⟩) ?_ ?_;rotate_left
     ·intro w';go_simp;(with_reducible rfl)
     rotate_left
     ·simp only [Act.put,zO,zP,zQ,i64_w,i32_w];rfl
     refine pure_ (i:=8) (N:=some 225) (v:=?_) (a':=?_) #[false,true,true,true,false,true,true,true,true,false,false,false,false,false,false,false,false,false] rfl rfl (any_of HT_.out (by kernel_rfl)) (fun _ _ _ h=>h) (Or.inl ⟨by rfl,?_⟩) ?_ ?_;rotate_left
     ·intro w';go_simp;(with_reducible rfl)
     rotate_left
     ·simp only [Act.put,zO,zP,zQ,i64_w,i32_w];rfl
     refine take_ (i:=0) (N:=some 217) (v:=?_) (a':=?_) #[true,true,true,true,false,true,true,true,true,false,false,false,false,false,false,false,false,false] rfl rfl (take_ofW HT_.out HW_.out (by kernel_rfl)) (fun _ _ _ h=>h) (Or.inl ⟨by rfl,?_⟩) hHeld ?_ ?_;rotate_left
     ·rintro w' ⟨s0,s1,s2,s3,s4,s5,s6,s7,s8,s9,s10,s11,s12,s13,s14⟩;go_simp;(with_reducible rfl)
     rotate_left
     ·simp only [Act.put,zO,zP,zQ,i64_w,i32_w];rfl
     refine take_ (i:=4) (N:=some 221) (v:=?_) (a':=?_) #[true,true,true,true,true,true,true,true,true,false,false,false,false,false,false,false,false,false] rfl rfl (take_ofW HT_.out HW_.out (by kernel_rfl)) (fun _ _ _ h=>h) (Or.inl ⟨by rfl,?_⟩) hHeld ?_ ?_;rotate_left
     ·rintro w' ⟨s0,s1,s2,s3,s4,s5,s6,s7,s8,s9,s10,s11,s12,s13,s14⟩;go_simp;(with_reducible rfl)
     rotate_left
     ·simp only [Act.put,zO,zP,zQ,i64_w,i32_w];rfl
     refine take_ (i:=9) (N:=some 226) (v:=?_) (a':=?_) #[true,true,true,true,true,true,true,true,true,true,false,false,false,false,false,false,false,false] rfl rfl (take_ofW HT_.out HW_.out (by kernel_rfl)) (fun _ _ _ h=>h) (Or.inl ⟨by rfl,?_⟩) hHeld ?_ ?_;rotate_left
     ·rintro w' ⟨s0,s1,s2,s3,s4,s5,s6,s7,s8,s9,s10,s11,s12,s13,s14⟩;go_simp;(with_reducible rfl)
     rotate_left
     ·simp only [Act.put,zO,zP,zQ,i64_w,i32_w];rfl
     refine pure_ (i:=10) (N:=some 227) (v:=?_) (a':=?_) #[true,true,true,true,true,true,true,true,true,true,true,false,false,false,false,false,false,false] rfl rfl (any_of HT_.out (by kernel_rfl)) (fun _ _ _ h=>h) (Or.inl ⟨by rfl,?_⟩) ?_ ?_;rotate_left
     ·intro w';go_simp;(with_reducible rfl)
     rotate_left
     ·simp only [Act.put,zO,zP,zQ,i64_w,i32_w];rfl
     refine take_ (i:=11) (N:=some 228) (v:=?_) (a':=?_) #[true,true,true,true,true,true,true,true,true,true,true,true,false,false,false,false,false,false] rfl rfl (take_ofW HT_.out HW_.out (by kernel_rfl)) (fun _ _ _ h=>h) (Or.inl ⟨by rfl,?_⟩) hHeld ?_ ?_;rotate_left
     ·rintro w' ⟨s0,s1,s2,s3,s4,s5,s6,s7,s8,s9,s10,s11,s12,s13,s14⟩;go_simp;(with_reducible rfl)
     rotate_left
     ·simp only [Act.put,zO,zP,zQ,i64_w,i32_w];rfl
     refine one_ (i:=12) (N:=some 229) #[true,true,true,true,true,true,true,true,true,true,true,true,true,false,false,false,false,false] rfl rfl (one_of HT_.out (by kernel_rfl)) (by decide) (fun K hK=>?_);refine goes_ Tryd.func19 (by kernel_rfl) rfl #[.agg #[.int .u8 t394,.int .u8 t395,.int .u8 t396,.int .u8 t397,.int .u8 t398,.int .u8 t399],.agg #[.int .u8 ((rd_T44 t401 x20_5).f0),.int .i8 ((rd_T44 t401 x20_5).f1),.int .i8 ((rd_T44 t401 x20_5).f2),.int .i16 ((rd_T44 t401 x20_5).f3)],.agg #[.int .u8 ((rd_T44 t401 (rd t416 x23_6)).f0),.int .i8 ((rd_T44 t401 (rd t416 x23_6)).f1),.int .i8 ((rd_T44 t401 (rd t416 x23_6)).f2),.int .i16 ((rd_T44 t401 (rd t416 x23_6)).f3)]] (by rfl) rfl rfl (by (try simp only [List.map_toArray,List.map_cons,List.map_nil]);first|done|rfl|(simp only [List.length_drop,List.length_take];rfl)) ?_;(with_reducible refine (impl_MayMeet.calls k6 t394 t395 t396 t397 t398 t399 ((rd_T44 t401 x20_5).f0) ((rd_T44 t401 x20_5).f1) ((rd_T44 t401 x20_5).f2) ((rd_T44 t401 x20_5).f3) ((rd_T44 t401 (rd t416 x23_6)).f0) ((rd_T44 t401 (rd t416 x23_6)).f1) ((rd_T44 t401 (rd t416 x23_6)).f2) ((rd_T44 t401 (rd t416 x23_6)).f3) false t441 _ A88.out).mono ?_);rintro e w97 ⟨rfl,hb⟩;have HS6_:=(hb.cell (zR _ _ (hHeld.2.2.2.2.2.2.1))).trans (hHeld.2.2.2.2.2.2.1)
   rotate_right
   focus
    subst c93
    have H1:(if (!t431)=true then (if x22_6=true then (laws_FnMeets.l5 k6 l1 t401 t416 x20_5 (!t431) true (wrap64 (x23_6+1)) t394 t395 t396 t397 t398 t399) else (laws_FnMeets.l5 k6 l1 t401 t416 x20_5 (!t431) true (wrap64 (x23_6+1)) t394 t395 t396 t397 t398 t399)) else (none))=some r:=by rw [if_pos rfl] at H;exact H
    clear H;have H:=H1;clear H1
    by_cases c94:(!t431)=true
    rotate_left
    ·rw [if_neg c94] at H;exact absurd H (by simp)
    rw [if_pos c94] at H
    have e94_:t431=false:=by simpa using c94
    subst e94_;have c94b0:(!false)=true:=c94;clear c94
    by_cases c95:x22_6=true
    rotate_left
    focus
     replace c95:=Bool.eq_false_iff.mpr c95;subst c95
     have H1:(laws_FnMeets.l5 k6 l1 t401 t416 x20_5 (!false) true (wrap64 (x23_6+1)) t394 t395 t396 t397 t398 t399)=some r:=by rw [if_neg (show ¬(false=true) by decide)] at H;exact H
    rotate_right
    focus
     subst c95
     have H1:(laws_FnMeets.l5 k6 l1 t401 t416 x20_5 (!false) true (wrap64 (x23_6+1)) t394 t395 t396 t397 t398 t399)=some r:=by rw [if_pos rfl] at H;exact H
    all_goals
     clear H;have H:=H1;clear H1;have H':=zN H;clear H;have p436:0≤(x23_6:Int):=zS (by first|(with_reducible assumption)|assumption);have q436:x23_6<(t416.length:Int):=zS (by first|(with_reducible assumption)|assumption);obtain ⟨ad436,e436,hx436_0⟩:=Kd.at_int (Kd.V_reads' HO_13.out).2.2 x23_6 p436 q436;cases e436;replace p436:=eq_true p436;replace q436:=eq_true q436
     try go_wp2
     replace HO_6:=zN (zC HO_6.out);replace HO_13:=zN (zF HO_13.out);replace BK400:=zN (zI BK400.out);replace HB:=zN (zL HB.out);have p437:0≤(x20_5:Int):=zS (by first|(with_reducible assumption)|assumption);have q437:x20_5<(t401.length:Int):=zS (by first|(with_reducible assumption)|assumption);obtain ⟨ad437,e437,hx437_0,hx437_1,hx437_2,hx437_3⟩:=at_T44 (Kd.R_reads' HO_6.out).2.2 x20_5 p437 q437;cases e437;replace p437:=eq_true p437;replace q437:=eq_true q437;have p438:0≤(x23_6:Int):=zS (by first|(with_reducible assumption)|assumption);have q438:x23_6<(t416.length:Int):=zS (by first|(with_reducible assumption)|assumption);obtain ⟨ad438,e438,hx438_0⟩:=Kd.at_int (Kd.V_reads' HO_13.out).2.2 x23_6 p438 q438;obtain rfl:ad436=ad438:=(by injection e438);replace p438:=eq_true p438;replace q438:=eq_true q438;have p439:0≤((rd t416 x23_6):Int):=zS (by first|(with_reducible assumption)|assumption);have q439:(rd t416 x23_6)<(t401.length:Int):=zS (by first|(with_reducible assumption)|assumption);obtain ⟨ad439,e439,hx439_0,hx439_1,hx439_2,hx439_3⟩:=at_T44 (Kd.R_reads' HO_6.out).2.2 (rd t416 x23_6) p439 q439;obtain rfl:ad437=ad439:=(by injection e439);replace p439:=eq_true p439;replace q439:=eq_true q439
     refine start_ (n:=18) (S:=fun w'=>w'.cell? ⟨gb400,0,none⟩=some (.int .u8 t394)∧w'.cell? ⟨gb400,1,none⟩=some (.int .u8 t395)∧w'.cell? ⟨gb400,2,none⟩=some (.int .u8 t396)∧w'.cell? ⟨gb400,3,none⟩=some (.int .u8 t397)∧w'.cell? ⟨gb400,4,none⟩=some (.int .u8 t398)∧w'.cell? ⟨gb400,5,none⟩=some (.int .u8 t399)∧w'.cell? (ad437.add ((x20_5).toNat*4))=some (.int .u8 ((rd_T44 t401 x20_5).f0))∧w'.cell? ⟨(ad437.add ((x20_5).toNat*4)).block,(ad437.add ((x20_5).toNat*4)).off+1,none⟩=some (.int .i8 ((rd_T44 t401 x20_5).f1))∧w'.cell? ⟨(ad437.add ((x20_5).toNat*4)).block,(ad437.add ((x20_5).toNat*4)).off+2,none⟩=some (.int .i8 ((rd_T44 t401 x20_5).f2))∧w'.cell? ⟨(ad437.add ((x20_5).toNat*4)).block,(ad437.add ((x20_5).toNat*4)).off+3,none⟩=some (.int .i16 ((rd_T44 t401 x20_5).f3))∧w'.cell? (ad436.add (x23_6).toNat)=some (.int .i64 (rd t416 x23_6))∧w'.cell? (ad437.add (((rd t416 x23_6)).toNat*4))=some (.int .u8 ((rd_T44 t401 (rd t416 x23_6)).f0))∧w'.cell? ⟨(ad437.add (((rd t416 x23_6)).toNat*4)).block,(ad437.add (((rd t416 x23_6)).toNat*4)).off+1,none⟩=some (.int .i8 ((rd_T44 t401 (rd t416 x23_6)).f1))∧w'.cell? ⟨(ad437.add (((rd t416 x23_6)).toNat*4)).block,(ad437.add (((rd t416 x23_6)).toNat*4)).off+2,none⟩=some (.int .i8 ((rd_T44 t401 (rd t416 x23_6)).f2))∧w'.cell? ⟨(ad437.add (((rd t416 x23_6)).toNat*4)).block,(ad437.add (((rd t416 x23_6)).toNat*4)).off+3,none⟩=some (.int .i16 ((rd_T44 t401 (rd t416 x23_6)).f3))) (ds:=[]) #[false,false,false,false,false,false,false,false,false,false,false,false,false,false,false,false,false,false] (by kernel_rfl) rfl rfl ⟨(blk_cell BK400.out 0).trans rfl,(blk_cell BK400.out 1).trans rfl,(blk_cell BK400.out 2).trans rfl,(blk_cell BK400.out 3).trans rfl,(blk_cell BK400.out 4).trans rfl,(blk_cell BK400.out 5).trans rfl,hx437_0,hx437_1,hx437_2,hx437_3,hx438_0,hx439_0,hx439_1,hx439_2,hx439_3⟩ (fun hHeld=>?_);refine with_tabW laws_FnMeets.tab39 laws_FnMeets.bits39 (fun HT_ HW_=>?_)
     generalize wr.drew=w96 at HO_6 HO_13 BK400 HB hx437_0 hx437_1 hx437_2 hx437_3 hx438_0 hx439_0 hx439_1 hx439_2 hx439_3 hHeld ⊢;refine pure_ (i:=1) (N:=some 218) (v:=?_) (a':=?_) #[false,true,false,false,false,false,false,false,false,false,false,false,false,false,false,false,false,false] rfl rfl (any_of HT_.out (by kernel_rfl)) (fun _ _ _ h=>h) (Or.inl ⟨by rfl,?_⟩) ?_ ?_;rotate_left
     ·intro w';go_simp;(with_reducible rfl)
     rotate_left
     ·simp only [Act.put,zO,zP,zQ,i64_w,i32_w];rfl
     refine pure_ (i:=2) (N:=some 219) (v:=?_) (a':=?_) #[false,true,true,false,false,false,false,false,false,false,false,false,false,false,false,false,false,false] rfl rfl (any_of HT_.out (by kernel_rfl)) (fun _ _ _ h=>h) (Or.inl ⟨by rfl,?_⟩) ?_ ?_;rotate_left
     ·intro w';go_simp;(with_reducible rfl)
     rotate_left
     ·simp only [Act.put,zO,zP,zQ,i64_w,i32_w];rfl
     refine pure_ (i:=3) (N:=some 220) (v:=?_) (a':=?_) #[false,true,true,true,false,false,false,false,false,false,false,false,false,false,false,false,false,false] rfl rfl (any_of HT_.out (by kernel_rfl)) (fun _ _ _ h=>h) (Or.inl ⟨by rfl,?_⟩) ?_ ?_;rotate_left
     ·intro w';go_simp;(with_reducible rfl)
     rotate_left
     ·simp only [Act.put,zO,zP,zQ,i64_w,i32_w];rfl
     refine pure_ (i:=5) (N:=some 222) (v:=?_) (a':=?_) #[false,true,true,true,false,true,false,false,false,false,false,false,false,false,false,false,false,false] rfl rfl (any_of HT_.out (by kernel_rfl)) (fun _ _ _ h=>h) (Or.inl ⟨by rfl,?_⟩) ?_ ?_;rotate_left
     ·intro w';go_simp;(with_reducible rfl)
     rotate_left
     ·simp only [Act.put,zO,zP,zQ,i64_w,i32_w];rfl
     refine pure_ (i:=6) (N:=some 223) (v:=?_) (a':=?_) #[false,true,true,true,false,true,true,false,false,false,false,false,false,false,false,false,false,false] rfl rfl (any_of HT_.out (by kernel_rfl)) (fun _ _ _ h=>h) (Or.inl ⟨by rfl,?_⟩) ?_ ?_;rotate_left
     ·intro w';go_simp;(with_reducible rfl)
     rotate_left
     ·simp only [Act.put,zO,zP,zQ,i64_w,i32_w];rfl
     refine pure_ (i:=7) (N:=some 224) (v:=?_) (a':=?_) #[false,true,true,true,false,true,true,true,false,false,false,false,false,false,false,false,false,false] rfl rfl (any_of HT_.out (by kernel_rfl)) (fun _ _ _ h=>h) (Or.inl ⟨by rfl,?_⟩) ?_ ?_;rotate_left
     ·intro w';go_simp;(with_reducible rfl)
     rotate_left
     ·simp only [Act.put,zO,zP,zQ,i64_w,i32_w];rfl
     refine pure_ (i:=8) (N:=some 225) (v:=?_) (a':=?_) #[false,true,true,true,false,true,true,true,true,false,false,false,false,false,false,false,false,false] rfl rfl (any_of HT_.out (by kernel_rfl)) (fun _ _ _ h=>h) (Or.inl ⟨by rfl,?_⟩) ?_ ?_;rotate_left
     ·intro w';go_simp;(with_reducible rfl)
     rotate_left
     ·simp only [Act.put,zO,zP,zQ,i64_w,i32_w];rfl
     refine take_ (i:=0) (N:=some 217) (v:=?_) (a':=?_) #[true,true,true,true,false,true,true,true,true,false,false,false,false,false,false,false,false,false] rfl rfl (take_ofW HT_.out HW_.out (by kernel_rfl)) (fun _ _ _ h=>h) (Or.inl ⟨by rfl,?_⟩) hHeld ?_ ?_;rotate_left
     ·rintro w' ⟨s0,s1,s2,s3,s4,s5,s6,s7,s8,s9,s10,s11,s12,s13,s14⟩;go_simp;(with_reducible rfl)
     rotate_left
     ·simp only [Act.put,zO,zP,zQ,i64_w,i32_w];rfl
     refine take_ (i:=4) (N:=some 221) (v:=?_) (a':=?_) #[true,true,true,true,true,true,true,true,true,false,false,false,false,false,false,false,false,false] rfl rfl (take_ofW HT_.out HW_.out (by kernel_rfl)) (fun _ _ _ h=>h) (Or.inl ⟨by rfl,?_⟩) hHeld ?_ ?_;rotate_left
     ·rintro w' ⟨s0,s1,s2,s3,s4,s5,s6,s7,s8,s9,s10,s11,s12,s13,s14⟩;go_simp;(with_reducible rfl)
     rotate_left
     ·simp only [Act.put,zO,zP,zQ,i64_w,i32_w];rfl
     refine take_ (i:=9) (N:=some 226) (v:=?_) (a':=?_) #[true,true,true,true,true,true,true,true,true,true,false,false,false,false,false,false,false,false] rfl rfl (take_ofW HT_.out HW_.out (by kernel_rfl)) (fun _ _ _ h=>h) (Or.inl ⟨by rfl,?_⟩) hHeld ?_ ?_;rotate_left
     ·rintro w' ⟨s0,s1,s2,s3,s4,s5,s6,s7,s8,s9,s10,s11,s12,s13,s14⟩;go_simp;(with_reducible rfl)
     rotate_left
     ·simp only [Act.put,zO,zP,zQ,i64_w,i32_w];rfl
     refine pure_ (i:=10) (N:=some 227) (v:=?_) (a':=?_) #[true,true,true,true,true,true,true,true,true,true,true,false,false,false,false,false,false,false] rfl rfl (any_of HT_.out (by kernel_rfl)) (fun _ _ _ h=>h) (Or.inl ⟨by rfl,?_⟩) ?_ ?_;rotate_left
     ·intro w';go_simp;(with_reducible rfl)
     rotate_left
     ·simp only [Act.put,zO,zP,zQ,i64_w,i32_w];rfl
     refine take_ (i:=11) (N:=some 228) (v:=?_) (a':=?_) #[true,true,true,true,true,true,true,true,true,true,true,true,false,false,false,false,false,false] rfl rfl (take_ofW HT_.out HW_.out (by kernel_rfl)) (fun _ _ _ h=>h) (Or.inl ⟨by rfl,?_⟩) hHeld ?_ ?_;rotate_left
     ·rintro w' ⟨s0,s1,s2,s3,s4,s5,s6,s7,s8,s9,s10,s11,s12,s13,s14⟩;go_simp;(with_reducible rfl)
     rotate_left
     ·simp only [Act.put,zO,zP,zQ,i64_w,i32_w];rfl
     refine one_ (i:=12) (N:=some 229) #[true,true,true,true,true,true,true,true,true,true,true,true,true,false,false,false,false,false] rfl rfl (one_of HT_.out (by kernel_rfl)) (by decide) (fun K hK=>?_);refine goes_ Tryd.func19 (by kernel_rfl) rfl #[.agg #[.int .u8 t394,.int .u8 t395,.int .u8 t396,.int .u8 t397,.int .u8 t398,.int .u8 t399],.agg #[.int .u8 ((rd_T44 t401 x20_5).f0),.int .i8 ((rd_T44 t401 x20_5).f1),.int .i8 ((rd_T44 t401 x20_5).f2),.int .i16 ((rd_T44 t401 x20_5).f3)],.agg #[.int .u8 ((rd_T44 t401 (rd t416 x23_6)).f0),.int .i8 ((rd_T44 t401 (rd t416 x23_6)).f1),.int .i8 ((rd_T44 t401 (rd t416 x23_6)).f2),.int .i16 ((rd_T44 t401 (rd t416 x23_6)).f3)]] (by rfl) rfl rfl (by (try simp only [List.map_toArray,List.map_cons,List.map_nil]);first|done|rfl|(simp only [List.length_drop,List.length_take];rfl)) ?_;(with_reducible refine (impl_MayMeet.calls k6 t394 t395 t396 t397 t398 t399 ((rd_T44 t401 x20_5).f0) ((rd_T44 t401 x20_5).f1) ((rd_T44 t401 x20_5).f2) ((rd_T44 t401 x20_5).f3) ((rd_T44 t401 (rd t416 x23_6)).f0) ((rd_T44 t401 (rd t416 x23_6)).f1) ((rd_T44 t401 (rd t416 x23_6)).f2) ((rd_T44 t401 (rd t416 x23_6)).f3) true t441 _ A88.out).mono ?_);rintro e w97 ⟨rfl,hb⟩;have HS6_:=(hb.cell (zR _ _ (hHeld.2.2.2.2.2.2.1))).trans (hHeld.2.2.2.2.2.2.1)
   all_goals
    have HS7_:=(hb.cell (zR _ _ (hHeld.2.2.2.2.2.2.2.1))).trans (hHeld.2.2.2.2.2.2.2.1);have HS8_:=(hb.cell (zR _ _ (hHeld.2.2.2.2.2.2.2.2.1))).trans (hHeld.2.2.2.2.2.2.2.2.1);have HS9_:=(hb.cell (zR _ _ (hHeld.2.2.2.2.2.2.2.2.2.1))).trans (hHeld.2.2.2.2.2.2.2.2.2.1);have HS10_:=(hb.cell (zR _ _ (hHeld.2.2.2.2.2.2.2.2.2.2.1))).trans (hHeld.2.2.2.2.2.2.2.2.2.2.1);have HS11_:=(hb.cell (zR _ _ (hHeld.2.2.2.2.2.2.2.2.2.2.2.1))).trans (hHeld.2.2.2.2.2.2.2.2.2.2.2.1);have HS12_:=(hb.cell (zR _ _ (hHeld.2.2.2.2.2.2.2.2.2.2.2.2.1))).trans (hHeld.2.2.2.2.2.2.2.2.2.2.2.2.1);have HS13_:=(hb.cell (zR _ _ (hHeld.2.2.2.2.2.2.2.2.2.2.2.2.2.1))).trans (hHeld.2.2.2.2.2.2.2.2.2.2.2.2.2.1);have HS14_:=(hb.cell (zR _ _ (hHeld.2.2.2.2.2.2.2.2.2.2.2.2.2.2))).trans (hHeld.2.2.2.2.2.2.2.2.2.2.2.2.2.2);refine ⟨_,rfl,?_⟩;replace HO_6:=zN (zW (by (with_reducible repeat (first|apply zA|apply zB|apply zC));exact HO_6.out) hb);replace HO_13:=zN (Kd.V_below (by (with_reducible repeat (first|apply zD|apply zE|apply zF));exact HO_13.out) hb)
    replace BK400:=zN (zU (g:=gb400) (o:=.cells #[.int .u8 t394,.int .u8 t395,.int .u8 t396,.int .u8 t397,.int .u8 t398,.int .u8 t399] 25 (0,0)) (by (with_reducible repeat (first|refine zH ?_ _|refine zI ?_|refine zG ?_ _));exact BK400.out) hb);replace HB:=zN (zV (by repeat (first|(with_reducible first|exact HB.out|apply zJ|apply zK|apply zL|refine zM ?_ GE400.out)|exact HB.out)) hb);(try clear hb);(try clear hb2);(try clear hk);(try clear hi);refine hK.out _ _ ⟨(blk_cell BK400.out 0).trans rfl,(blk_cell BK400.out 1).trans rfl,(blk_cell BK400.out 2).trans rfl,(blk_cell BK400.out 3).trans rfl,(blk_cell BK400.out 4).trans rfl,(blk_cell BK400.out 5).trans rfl,HS6_,HS7_,HS8_,HS9_,HS10_,HS11_,HS12_,HS13_,HS14_⟩ (fun hHeld=>?_);clear hK K;refine norm_ (a':=?_) ?_ ?_;rotate_left
    ·show Act.put _ (some 229) _=_;simp only [Act.put,zO,zP,zQ,i64_w,i32_w];rfl
    refine pure_ (i:=13) (N:=some 216) (v:=?_) (a':=?_) #[true,true,true,true,true,true,true,true,true,true,true,true,true,true,false,false,false,false] rfl rfl (any_of HT_.out (by kernel_rfl)) (fun _ _ _ h=>h) (Or.inl ⟨by rfl,?_⟩) ?_ ?_;rotate_left
    ·intro w';go_simp;(with_reducible rfl)
    rotate_left
    ·simp only [Act.put,zO,zP,zQ,i64_w,i32_w];rfl
    refine pure_ (i:=14) (N:=some 230) (v:=?_) (a':=?_) #[true,true,true,true,true,true,true,true,true,true,true,true,true,true,true,false,false,false] rfl rfl (any_of HT_.out (by kernel_rfl)) (fun _ _ _ h=>h) (Or.inl ⟨by rfl,?_⟩) ?_ ?_;rotate_left
    ·intro w';go_simp;(with_reducible rfl)
    rotate_left
    ·simp only [Act.put,zO,zP,zQ,i64_w,i32_w];rfl
    refine pure_ (i:=15) (N:=some 231) (v:=?_) (a':=?_) #[true,true,true,true,true,true,true,true,true,true,true,true,true,true,true,true,false,false] rfl rfl (any_of HT_.out (by kernel_rfl)) (fun _ _ _ h=>h) (Or.inl ⟨by rfl,?_⟩) ?_ ?_;rotate_left
    ·intro w';go_simp;(with_reducible rfl)
    rotate_left
    ·simp only [Act.put,zO,zP,zQ,i64_w,i32_w];rfl
    refine pure_ (i:=16) (N:=some 24) (v:=?_) (a':=?_) #[true,true,true,true,true,true,true,true,true,true,true,true,true,true,true,true,true,false] rfl rfl (any_of HT_.out (by kernel_rfl)) (fun _ _ _ h=>h) (Or.inl ⟨by rfl,?_⟩) ?_ ?_;rotate_left
    ·intro w';go_simp;(with_reducible rfl)
    rotate_left
    ·simp only [Act.put,zO,zP,zQ,i64_w,i32_w];rfl
    refine pure_ (i:=17) (N:=some 25) (v:=?_) (a':=?_) #[true,true,true,true,true,true,true,true,true,true,true,true,true,true,true,true,true,true] rfl rfl (any_of HT_.out (by kernel_rfl)) (fun _ _ _ h=>h) (Or.inl ⟨by rfl,?_⟩) ?_ ?_;rotate_left
    ·intro w';go_simp;(with_reducible rfl)
    rotate_left
    ·simp only [Act.put,zO,zP,zQ,i64_w,i32_w];rfl
    refine done_ (done_of HT_.out (by kernel_rfl)) ?_
    try go_wp2
    replace HO_6:=zN (zC HO_6.out);replace HO_13:=zN (zF HO_13.out);replace BK400:=zN (zI BK400.out);replace HB:=zN (zL HB.out);have p442:0≤(x23_6:Int):=zS (by first|(with_reducible assumption)|assumption);have q442:x23_6<(t416.length:Int):=zS (by first|(with_reducible assumption)|assumption);obtain ⟨ad442,e442,hx442_0⟩:=Kd.at_int (Kd.V_reads' HO_13.out).2.2 x23_6 p442 q442;obtain rfl:ad436=ad442:=(by injection e442);replace p442:=eq_true p442;replace q442:=eq_true q442;have p443:0≤((rd t416 x23_6):Int):=zS (by first|(with_reducible assumption)|assumption);have q443:(rd t416 x23_6)<(t401.length:Int):=zS (by first|(with_reducible assumption)|assumption);obtain ⟨ad443,e443,hx443_0,hx443_1,hx443_2,hx443_3⟩:=at_T44 (Kd.R_reads' HO_6.out).2.2 (rd t416 x23_6) p443 q443;obtain rfl:ad437=ad443:=(by injection e443);replace p443:=eq_true p443;replace q443:=eq_true q443;have p444:0≤(x20_5:Int):=zS (by first|(with_reducible assumption)|assumption);have q444:x20_5<(t401.length:Int):=zS (by first|(with_reducible assumption)|assumption);obtain ⟨ad444,e444,hx444_0,hx444_1,hx444_2,hx444_3⟩:=at_T44 (Kd.R_reads' HO_6.out).2.2 x20_5 p444 q444;obtain rfl:ad437=ad444:=(by injection e444);replace p444:=eq_true p444
    replace q444:=eq_true q444
    refine start_ (n:=18) (S:=fun w'=>w'.cell? ⟨gb400,0,none⟩=some (.int .u8 t394)∧w'.cell? ⟨gb400,1,none⟩=some (.int .u8 t395)∧w'.cell? ⟨gb400,2,none⟩=some (.int .u8 t396)∧w'.cell? ⟨gb400,3,none⟩=some (.int .u8 t397)∧w'.cell? ⟨gb400,4,none⟩=some (.int .u8 t398)∧w'.cell? ⟨gb400,5,none⟩=some (.int .u8 t399)∧w'.cell? (ad436.add (x23_6).toNat)=some (.int .i64 (rd t416 x23_6))∧w'.cell? (ad437.add (((rd t416 x23_6)).toNat*4))=some (.int .u8 ((rd_T44 t401 (rd t416 x23_6)).f0))∧w'.cell? ⟨(ad437.add (((rd t416 x23_6)).toNat*4)).block,(ad437.add (((rd t416 x23_6)).toNat*4)).off+1,none⟩=some (.int .i8 ((rd_T44 t401 (rd t416 x23_6)).f1))∧w'.cell? ⟨(ad437.add (((rd t416 x23_6)).toNat*4)).block,(ad437.add (((rd t416 x23_6)).toNat*4)).off+2,none⟩=some (.int .i8 ((rd_T44 t401 (rd t416 x23_6)).f2))∧w'.cell? ⟨(ad437.add (((rd t416 x23_6)).toNat*4)).block,(ad437.add (((rd t416 x23_6)).toNat*4)).off+3,none⟩=some (.int .i16 ((rd_T44 t401 (rd t416 x23_6)).f3))∧w'.cell? (ad437.add ((x20_5).toNat*4))=some (.int .u8 ((rd_T44 t401 x20_5).f0))∧w'.cell? ⟨(ad437.add ((x20_5).toNat*4)).block,(ad437.add ((x20_5).toNat*4)).off+1,none⟩=some (.int .i8 ((rd_T44 t401 x20_5).f1))∧w'.cell? ⟨(ad437.add ((x20_5).toNat*4)).block,(ad437.add ((x20_5).toNat*4)).off+2,none⟩=some (.int .i8 ((rd_T44 t401 x20_5).f2))∧w'.cell? ⟨(ad437.add ((x20_5).toNat*4)).block,(ad437.add ((x20_5).toNat*4)).off+3,none⟩=some (.int .i16 ((rd_T44 t401 x20_5).f3))) (ds:=[]) #[false,false,false,false,false,false,false,false,false,false,false,false,false,false,false,false,false,false] (by kernel_rfl) rfl rfl ⟨(blk_cell BK400.out 0).trans rfl,(blk_cell BK400.out 1).trans rfl,(blk_cell BK400.out 2).trans rfl,(blk_cell BK400.out 3).trans rfl,(blk_cell BK400.out 4).trans rfl,(blk_cell BK400.out 5).trans rfl,hx442_0,hx443_0,hx443_1,hx443_2,hx443_3,hx444_0,hx444_1,hx444_2,hx444_3⟩ (fun hHeld=>?_);refine with_tabW laws_FnMeets.tab40 laws_FnMeets.bits40 (fun HT_ HW_=>?_)
    generalize w97.drew=w98 at HO_6 HO_13 BK400 HB hx442_0 hx443_0 hx443_1 hx443_2 hx443_3 hx444_0 hx444_1 hx444_2 hx444_3 hHeld ⊢;refine pure_ (i:=1) (N:=some 234) (v:=?_) (a':=?_) #[false,true,false,false,false,false,false,false,false,false,false,false,false,false,false,false,false,false] rfl rfl (any_of HT_.out (by kernel_rfl)) (fun _ _ _ h=>h) (Or.inl ⟨by rfl,?_⟩) ?_ ?_;rotate_left
    ·intro w';go_simp;(with_reducible rfl)
    rotate_left
    ·simp only [Act.put,zO,zP,zQ,i64_w,i32_w];rfl
    refine pure_ (i:=2) (N:=some 235) (v:=?_) (a':=?_) #[false,true,true,false,false,false,false,false,false,false,false,false,false,false,false,false,false,false] rfl rfl (any_of HT_.out (by kernel_rfl)) (fun _ _ _ h=>h) (Or.inl ⟨by rfl,?_⟩) ?_ ?_;rotate_left
    ·intro w';go_simp;(with_reducible rfl)
    rotate_left
    ·simp only [Act.put,zO,zP,zQ,i64_w,i32_w];rfl
    refine pure_ (i:=3) (N:=some 236) (v:=?_) (a':=?_) #[false,true,true,true,false,false,false,false,false,false,false,false,false,false,false,false,false,false] rfl rfl (any_of HT_.out (by kernel_rfl)) (fun _ _ _ h=>h) (Or.inl ⟨by rfl,?_⟩) ?_ ?_;rotate_left
    ·intro w';go_simp;(with_reducible rfl)
    rotate_left
    ·simp only [Act.put,zO,zP,zQ,i64_w,i32_w];rfl
    refine pure_ (i:=4) (N:=some 237) (v:=?_) (a':=?_) #[false,true,true,true,true,false,false,false,false,false,false,false,false,false,false,false,false,false] rfl rfl (any_of HT_.out (by kernel_rfl)) (fun _ _ _ h=>h) (Or.inl ⟨by rfl,?_⟩) ?_ ?_;rotate_left
    ·intro w';go_simp;(with_reducible rfl)
    rotate_left
    ·simp only [Act.put,zO,zP,zQ,i64_w,i32_w];rfl
    refine pure_ (i:=8) (N:=some 241) (v:=?_) (a':=?_) #[false,true,true,true,true,false,false,false,true,false,false,false,false,false,false,false,false,false] rfl rfl (any_of HT_.out (by kernel_rfl)) (fun _ _ _ h=>h) (Or.inl ⟨by rfl,?_⟩) ?_ ?_;rotate_left
    ·intro w';go_simp;(with_reducible rfl)
    rotate_left
    ·simp only [Act.put,zO,zP,zQ,i64_w,i32_w];rfl
    refine pure_ (i:=9) (N:=some 242) (v:=?_) (a':=?_) #[false,true,true,true,true,false,false,false,true,true,false,false,false,false,false,false,false,false] rfl rfl (any_of HT_.out (by kernel_rfl)) (fun _ _ _ h=>h) (Or.inl ⟨by rfl,?_⟩) ?_ ?_;rotate_left
    ·intro w';go_simp;(with_reducible rfl)
    rotate_left
    ·simp only [Act.put,zO,zP,zQ,i64_w,i32_w];rfl
    refine pure_ (i:=10) (N:=some 243) (v:=?_) (a':=?_) #[false,true,true,true,true,false,false,false,true,true,true,false,false,false,false,false,false,false] rfl rfl (any_of HT_.out (by kernel_rfl)) (fun _ _ _ h=>h) (Or.inl ⟨by rfl,?_⟩) ?_ ?_;rotate_left
    ·intro w';go_simp;(with_reducible rfl)
    rotate_left
    ·simp only [Act.put,zO,zP,zQ,i64_w,i32_w];rfl
    refine take_ (i:=0) (N:=some 233) (v:=?_) (a':=?_) #[true,true,true,true,true,false,false,false,true,true,true,false,false,false,false,false,false,false] rfl rfl (take_ofW HT_.out HW_.out (by kernel_rfl)) (fun _ _ _ h=>h) (Or.inl ⟨by rfl,?_⟩) hHeld ?_ ?_;rotate_left
    ·rintro w' ⟨s0,s1,s2,s3,s4,s5,s6,s7,s8,s9,s10,s11,s12,s13,s14⟩;go_simp;(with_reducible rfl)
    rotate_left
    ·simp only [Act.put,zO,zP,zQ,i64_w,i32_w];rfl
    refine take_ (i:=5) (N:=some 238) (v:=?_) (a':=?_) #[true,true,true,true,true,true,false,false,true,true,true,false,false,false,false,false,false,false] rfl rfl (take_ofW HT_.out HW_.out (by kernel_rfl)) (fun _ _ _ h=>h) (Or.inl ⟨by rfl,?_⟩) hHeld ?_ ?_;rotate_left
    ·rintro w' ⟨s0,s1,s2,s3,s4,s5,s6,s7,s8,s9,s10,s11,s12,s13,s14⟩;go_simp;(with_reducible rfl)
    rotate_left
    ·simp only [Act.put,zO,zP,zQ,i64_w,i32_w];rfl
    refine pure_ (i:=6) (N:=some 239) (v:=?_) (a':=?_) #[true,true,true,true,true,true,true,false,true,true,true,false,false,false,false,false,false,false] rfl rfl (any_of HT_.out (by kernel_rfl)) (fun _ _ _ h=>h) (Or.inl ⟨by rfl,?_⟩) ?_ ?_;rotate_left
    ·intro w';go_simp;(with_reducible rfl)
    rotate_left
    ·simp only [Act.put,zO,zP,zQ,i64_w,i32_w];rfl
    refine take_ (i:=7) (N:=some 240) (v:=?_) (a':=?_) #[true,true,true,true,true,true,true,true,true,true,true,false,false,false,false,false,false,false] rfl rfl (take_ofW HT_.out HW_.out (by kernel_rfl)) (fun _ _ _ h=>h) (Or.inl ⟨by rfl,?_⟩) hHeld ?_ ?_;rotate_left
    ·rintro w' ⟨s0,s1,s2,s3,s4,s5,s6,s7,s8,s9,s10,s11,s12,s13,s14⟩;go_simp;(with_reducible rfl)
    rotate_left
    ·simp only [Act.put,zO,zP,zQ,i64_w,i32_w];rfl
    refine take_ (i:=11) (N:=some 244) (v:=?_) (a':=?_) #[true,true,true,true,true,true,true,true,true,true,true,true,false,false,false,false,false,false] rfl rfl (take_ofW HT_.out HW_.out (by kernel_rfl)) (fun _ _ _ h=>h) (Or.inl ⟨by rfl,?_⟩) hHeld ?_ ?_;rotate_left
    ·rintro w' ⟨s0,s1,s2,s3,s4,s5,s6,s7,s8,s9,s10,s11,s12,s13,s14⟩;go_simp;(with_reducible rfl)
    rotate_left
    ·simp only [Act.put,zO,zP,zQ,i64_w,i32_w];rfl
    refine one_ (i:=12) (N:=some 245) #[true,true,true,true,true,true,true,true,true,true,true,true,true,false,false,false,false,false] rfl rfl (one_of HT_.out (by kernel_rfl)) (by decide) (fun K hK=>?_);refine goes_ Tryd.func19 (by kernel_rfl) rfl #[.agg #[.int .u8 t394,.int .u8 t395,.int .u8 t396,.int .u8 t397,.int .u8 t398,.int .u8 t399],.agg #[.int .u8 ((rd_T44 t401 (rd t416 x23_6)).f0),.int .i8 ((rd_T44 t401 (rd t416 x23_6)).f1),.int .i8 ((rd_T44 t401 (rd t416 x23_6)).f2),.int .i16 ((rd_T44 t401 (rd t416 x23_6)).f3)],.agg #[.int .u8 ((rd_T44 t401 x20_5).f0),.int .i8 ((rd_T44 t401 x20_5).f1),.int .i8 ((rd_T44 t401 x20_5).f2),.int .i16 ((rd_T44 t401 x20_5).f3)]] (by rfl) rfl rfl (by (try simp only [List.map_toArray,List.map_cons,List.map_nil]);first|done|rfl|(simp only [List.length_drop,List.length_take];rfl)) ?_;(with_reducible refine (impl_MayMeet.calls k6 t394 t395 t396 t397 t398 t399 ((rd_T44 t401 (rd t416 x23_6)).f0) ((rd_T44 t401 (rd t416 x23_6)).f1) ((rd_T44 t401 (rd t416 x23_6)).f2) ((rd_T44 t401 (rd t416 x23_6)).f3) ((rd_T44 t401 x20_5).f0) ((rd_T44 t401 x20_5).f1) ((rd_T44 t401 x20_5).f2) ((rd_T44 t401 x20_5).f3) t445 t446 _ A89.out).mono ?_);rintro e w99 ⟨rfl,hb⟩;have HS6_:=(hb.cell (zR _ _ (hHeld.2.2.2.2.2.2.1))).trans (hHeld.2.2.2.2.2.2.1);have HS7_:=(hb.cell (zR _ _ (hHeld.2.2.2.2.2.2.2.1))).trans (hHeld.2.2.2.2.2.2.2.1)
    have HS8_:=(hb.cell (zR _ _ (hHeld.2.2.2.2.2.2.2.2.1))).trans (hHeld.2.2.2.2.2.2.2.2.1);have HS9_:=(hb.cell (zR _ _ (hHeld.2.2.2.2.2.2.2.2.2.1))).trans (hHeld.2.2.2.2.2.2.2.2.2.1);have HS10_:=(hb.cell (zR _ _ (hHeld.2.2.2.2.2.2.2.2.2.2.1))).trans (hHeld.2.2.2.2.2.2.2.2.2.2.1);have HS11_:=(hb.cell (zR _ _ (hHeld.2.2.2.2.2.2.2.2.2.2.2.1))).trans (hHeld.2.2.2.2.2.2.2.2.2.2.2.1);have HS12_:=(hb.cell (zR _ _ (hHeld.2.2.2.2.2.2.2.2.2.2.2.2.1))).trans (hHeld.2.2.2.2.2.2.2.2.2.2.2.2.1);have HS13_:=(hb.cell (zR _ _ (hHeld.2.2.2.2.2.2.2.2.2.2.2.2.2.1))).trans (hHeld.2.2.2.2.2.2.2.2.2.2.2.2.2.1);have HS14_:=(hb.cell (zR _ _ (hHeld.2.2.2.2.2.2.2.2.2.2.2.2.2.2))).trans (hHeld.2.2.2.2.2.2.2.2.2.2.2.2.2.2);refine ⟨_,rfl,?_⟩;replace HO_6:=zN (zW (by (with_reducible repeat (first|apply zA|apply zB|apply zC));exact HO_6.out) hb);replace HO_13:=zN (Kd.V_below (by (with_reducible repeat (first|apply zD|apply zE|apply zF));exact HO_13.out) hb);replace BK400:=zN (zU (g:=gb400) (o:=.cells #[.int .u8 t394,.int .u8 t395,.int .u8 t396,.int .u8 t397,.int .u8 t398,.int .u8 t399] 25 (0,0)) (by (with_reducible repeat (first|refine zH ?_ _|refine zI ?_|refine zG ?_ _));exact BK400.out) hb)
    replace HB:=zN (zV (by repeat (first|(with_reducible first|exact HB.out|apply zJ|apply zK|apply zL|refine zM ?_ GE400.out)|exact HB.out)) hb);(try clear hb);(try clear hb2);(try clear hk);(try clear hi);refine hK.out _ _ ⟨(blk_cell BK400.out 0).trans rfl,(blk_cell BK400.out 1).trans rfl,(blk_cell BK400.out 2).trans rfl,(blk_cell BK400.out 3).trans rfl,(blk_cell BK400.out 4).trans rfl,(blk_cell BK400.out 5).trans rfl,HS6_,HS7_,HS8_,HS9_,HS10_,HS11_,HS12_,HS13_,HS14_⟩ (fun hHeld=>?_);clear hK K;refine norm_ (a':=?_) ?_ ?_;rotate_left
    ·show Act.put _ (some 245) _=_;simp only [Act.put,zO,zP,zQ,i64_w,i32_w];rfl
    refine pure_ (i:=13) (N:=some 232) (v:=?_) (a':=?_) #[true,true,true,true,true,true,true,true,true,true,true,true,true,true,false,false,false,false] rfl rfl (any_of HT_.out (by kernel_rfl)) (fun _ _ _ h=>h) (Or.inl ⟨by rfl,?_⟩) ?_ ?_;rotate_left
    ·intro w';go_simp;(with_reducible rfl)
    rotate_left
    ·simp only [Act.put,zO,zP,zQ,i64_w,i32_w];rfl
    refine pure_ (i:=14) (N:=some 246) (v:=?_) (a':=?_) #[true,true,true,true,true,true,true,true,true,true,true,true,true,true,true,false,false,false] rfl rfl (any_of HT_.out (by kernel_rfl)) (fun _ _ _ h=>h) (Or.inl ⟨by rfl,?_⟩) ?_ ?_;rotate_left
    ·intro w';go_simp;(with_reducible rfl)
    rotate_left
    ·simp only [Act.put,zO,zP,zQ,i64_w,i32_w];rfl
    refine pure_ (i:=15) (N:=some 247) (v:=?_) (a':=?_) #[true,true,true,true,true,true,true,true,true,true,true,true,true,true,true,true,false,false] rfl rfl (any_of HT_.out (by kernel_rfl)) (fun _ _ _ h=>h) (Or.inl ⟨by rfl,?_⟩) ?_ ?_;rotate_left
    ·intro w';go_simp;(with_reducible rfl)
    rotate_left
    ·simp only [Act.put,zO,zP,zQ,i64_w,i32_w];rfl
    refine pure_ (i:=16) (N:=some 26) (v:=?_) (a':=?_) #[true,true,true,true,true,true,true,true,true,true,true,true,true,true,true,true,true,false] rfl rfl (any_of HT_.out (by kernel_rfl)) (fun _ _ _ h=>h) (Or.inl ⟨by rfl,?_⟩) ?_ ?_;rotate_left
    ·intro w';go_simp;(with_reducible rfl)
    rotate_left
    ·simp only [Act.put,zO,zP,zQ,i64_w,i32_w];rfl
    refine pure_ (i:=17) (N:=some 27) (v:=?_) (a':=?_) #[true,true,true,true,true,true,true,true,true,true,true,true,true,true,true,true,true,true] rfl rfl (any_of HT_.out (by kernel_rfl)) (fun _ _ _ h=>h) (Or.inl ⟨by rfl,?_⟩) ?_ ?_;rotate_left
    ·intro w';go_simp;(with_reducible rfl)
    rotate_left
    ·simp only [Act.put,zO,zP,zQ,i64_w,i32_w];rfl
    refine done_ (done_of HT_.out (by kernel_rfl)) ?_
   ·try go_wp2
    go_roundg k6
    case measure=>have:=HJ2.out;have:=HJ13.out;have:=HK3.out;have:=HK4.out;have:=HK5.out;have:=HK6.out;omega
    case rel=>exact ⟨(true),(wrap64 (x23_6+1)),(by first|rfl|(simp;done)|(simp [*];done)),(by first|rfl|(simp;done)|(simp [*];done)),H',⟨by have:=HJ2.out;have:=HJ13.out;have:=HK3.out;have:=HK4.out;have:=HK5.out;have:=HK6.out;omega⟩,⟨by (with_reducible repeat (first|apply zA|apply zB|apply zC));exact HO_6.out⟩,⟨by (with_reducible repeat (first|apply zD|apply zE|apply zF));exact HO_13.out⟩,⟨by (with_reducible repeat (first|refine zH ?_ _|refine zI ?_|refine zG ?_ _));exact BK400.out⟩,⟨by repeat (first|(with_reducible first|exact HB.out|apply zJ|apply zK|apply zL|refine zM ?_ GE400.out)|exact HB.out)⟩⟩
   ·try go_wp2
    go_roundg k6
    case measure=>have:=HJ2.out;have:=HJ13.out;have:=HK3.out;have:=HK4.out;have:=HK5.out;have:=HK6.out;omega
    case rel=>exact ⟨(true),(wrap64 (x23_6+1)),(by first|rfl|(simp;done)|(simp [*];done)),(by first|rfl|(simp;done)|(simp [*];done)),H',⟨by have:=HJ2.out;have:=HJ13.out;have:=HK3.out;have:=HK4.out;have:=HK5.out;have:=HK6.out;omega⟩,⟨by (with_reducible repeat (first|apply zA|apply zB|apply zC));exact HO_6.out⟩,⟨by (with_reducible repeat (first|apply zD|apply zE|apply zF));exact HO_13.out⟩,⟨by (with_reducible repeat (first|refine zH ?_ _|refine zI ?_|refine zG ?_ _));exact BK400.out⟩,⟨by repeat (first|(with_reducible first|exact HB.out|apply zJ|apply zK|apply zL|refine zM ?_ GE400.out)|exact HB.out)⟩⟩
   ·try go_wp2
    go_roundg k6
    case measure=>have:=HJ2.out;have:=HJ13.out;have:=HK3.out;have:=HK4.out;have:=HK5.out;have:=HK6.out;omega
    case rel=>exact ⟨(true),(wrap64 (x23_6+1)),(by first|rfl|(simp;done)|(simp [*];done)),(by first|rfl|(simp;done)|(simp [*];done)),H',⟨by have:=HJ2.out;have:=HJ13.out;have:=HK3.out;have:=HK4.out;have:=HK5.out;have:=HK6.out;omega⟩,⟨by (with_reducible repeat (first|apply zA|apply zB|apply zC));exact HO_6.out⟩,⟨by (with_reducible repeat (first|apply zD|apply zE|apply zF));exact HO_13.out⟩,⟨by (with_reducible repeat (first|refine zH ?_ _|refine zI ?_|refine zG ?_ _));exact BK400.out⟩,⟨by repeat (first|(with_reducible first|exact HB.out|apply zJ|apply zK|apply zL|refine zM ?_ GE400.out)|exact HB.out)⟩⟩
   try go_wp2
   go_roundg k6
   case measure=>have:=HJ2.out;have:=HJ13.out;have:=HK3.out;have:=HK4.out;have:=HK5.out;have:=HK6.out;omega
   case rel=>exact ⟨(false),(wrap64 (x23_6+1)),(by first|rfl|(simp;done)|(simp [*];done)),(by first|rfl|(simp;done)|(simp [*];done)),H',⟨by have:=HJ2.out;have:=HJ13.out;have:=HK3.out;have:=HK4.out;have:=HK5.out;have:=HK6.out;omega⟩,⟨by (with_reducible repeat (first|apply zA|apply zB|apply zC));exact HO_6.out⟩,⟨by (with_reducible repeat (first|apply zD|apply zE|apply zF));exact HO_13.out⟩,⟨by (with_reducible repeat (first|refine zH ?_ _|refine zI ?_|refine zG ?_ _));exact BK400.out⟩,⟨by repeat (first|(with_reducible first|exact HB.out|apply zJ|apply zK|apply zL|refine zM ?_ GE400.out)|exact HB.out)⟩⟩
  rw [if_neg c81] at H;have c81b0:decide (x23_6<(t416.length:Int))=false:=decide_eq_false c81;clear c81
  by_cases c113:(!t431)=true
  rotate_left
  focus
   rw [if_neg c113] at H
   have c113b0:(!t431)=false:=by simpa using c113
   clear c113
   by_cases c115:0≤x20_5
   rotate_left
   ·rw [if_neg c115] at H;exact absurd H (by simp)
   rw [if_pos c115] at H;have c120b0:decide (0≤x20_5)=true:=decide_eq_true c115
  rotate_right
  focus
   rw [if_pos c113] at H;have c113b0:(!t431)=true:=c113;clear c113
   by_cases c114:x22_6=true
   rotate_left
   ·replace c114:=Bool.eq_false_iff.mpr c114;subst c114
    have H1:(none)=some r:=by rw [if_neg (show ¬(false=true) by decide)] at H;exact H
    clear H;have H:=H1;clear H1;exact absurd H (by simp)
   subst c114
   have H1:(if 0≤x20_5 then (if x20_5<(t401.length:Int) then ((impl_ValidGarment.f ((rd_T44 t401 x20_5).f0) ((rd_T44 t401 x20_5).f1) ((rd_T44 t401 x20_5).f2) ((rd_T44 t401 x20_5).f3)).bind fun t433=>(if t433=true then (laws_FnMeets.l4 k6 l1 t401 t416 (wrap64 (x20_5+1)) t394 t395 t396 t397 t398 t399) else (none))) else (none)) else (none))=some r:=by rw [if_pos rfl] at H;exact H
   clear H;have H:=H1;clear H1
   by_cases c115:0≤x20_5
   rotate_left
   ·rw [if_neg c115] at H;exact absurd H (by simp)
   rw [if_pos c115] at H;have c115b0:decide (0≤x20_5)=true:=decide_eq_true c115
  all_goals
   clear c115
   by_cases c116:x20_5<(t401.length:Int)
   rotate_left
   ·rw [if_neg c116] at H;exact absurd H (by simp)
   rw [if_pos c116] at H;have c116b0:decide (x20_5<(t401.length:Int))=true:=decide_eq_true c116;clear c116;replace H:=Option.bind_eq_some_iff.mp H;obtain ⟨t433,A1170,H⟩:=H;replace H:(if t433=true then (laws_FnMeets.l4 k6 l1 t401 t416 (wrap64 (x20_5+1)) t394 t395 t396 t397 t398 t399) else (none))=some r:=H;have A117:=zN A1170;clear A1170
   by_cases c118:t433=true
   rotate_left
   ·replace c118:=Bool.eq_false_iff.mpr c118;subst c118
    have H1:(none)=some r:=by rw [if_neg (show ¬(false=true) by decide)] at H;exact H
    clear H;have H:=H1;clear H1;exact absurd H (by simp)
   subst c118
   have H1:(laws_FnMeets.l4 k6 l1 t401 t416 (wrap64 (x20_5+1)) t394 t395 t396 t397 t398 t399)=some r:=by rw [if_pos rfl] at H;exact H
   clear H;have H:=H1;clear H1;have H':=zN H;clear H;have p432:0≤(x20_5:Int):=zS (by first|(with_reducible assumption)|assumption);have q432:x20_5<(t401.length:Int):=zS (by first|(with_reducible assumption)|assumption);obtain ⟨ad432,e432,hx432_0,hx432_1,hx432_2,hx432_3⟩:=at_T44 (Kd.R_reads' HO_6.out).2.2 x20_5 p432 q432;cases e432;replace p432:=eq_true p432;replace q432:=eq_true q432
   go_wp2_with (first|(go_at_call 20;(with_reducible refine (impl_ValidGarment.calls ((rd_T44 t401 x20_5).f0) ((rd_T44 t401 x20_5).f1) ((rd_T44 t401 x20_5).f2) ((rd_T44 t401 x20_5).f3) true _ A117.out).mono ?_);rintro e w119 ⟨rfl,hb⟩;replace HO_6:=zN (zW (by (with_reducible repeat (first|apply zA|apply zB|apply zC));exact HO_6.out) hb);replace HO_13:=zN (Kd.V_below (by (with_reducible repeat (first|apply zD|apply zE|apply zF));exact HO_13.out) hb);replace BK400:=zN (zU (g:=gb400) (o:=.cells #[.int .u8 t394,.int .u8 t395,.int .u8 t396,.int .u8 t397,.int .u8 t398,.int .u8 t399] 25 (0,0)) (by (with_reducible repeat (first|refine zH ?_ _|refine zI ?_|refine zG ?_ _));exact BK400.out) hb);replace HB:=zN (zV (by repeat (first|(with_reducible first|exact HB.out|apply zJ|apply zK|apply zL|refine zM ?_ GE400.out)|exact HB.out)) hb);(try clear hb);(try clear hb2);(try clear hk);(try clear hi)))
   go_roundg k6
   case measure=>have:=HJ2.out;have:=HJ13.out;have:=HK3.out;have:=HK4.out;have:=HK5.out;have:=HK6.out;omega
   case rel=>exact ⟨(wrap64 (x20_5+1)),(by first|rfl|(simp;done)|(simp [*];done)),H',⟨by have:=HJ2.out;have:=HJ13.out;have:=HK3.out;have:=HK4.out;have:=HK5.out;have:=HK6.out;omega⟩,⟨by (with_reducible repeat (first|apply zA|apply zB|apply zC));exact HO_6.out⟩,⟨by (with_reducible repeat (first|apply zD|apply zE|apply zF));exact HO_13.out⟩,⟨by (with_reducible repeat (first|refine zH ?_ _|refine zI ?_|refine zG ?_ _));exact BK400.out⟩,⟨by repeat (first|(with_reducible first|exact HB.out|apply zJ|apply zK|apply zL|refine zM ?_ GE400.out)|exact HB.out)⟩⟩
end Go.Proofs.YthodfhcaaidnmaaDoor.Me
