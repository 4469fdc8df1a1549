/- Words and walks for the law FnLines. -/
import Derived.Test.YtlkpgpnieodifaaTLn22
import Derived.Test.YtlkpgpnieodifaaTLn23
import Derived.Test.YtlkpgpnieodifaaTLn24
import Derived.Test.YtlkpgpnieodifaaTLn25
import Derived.Test.YtlkpgpnieodifaaTLn26
import Derived.Test.YtlkpgpnieodifaaTLn27
import Derived.Test.YtlkpgpnieodifaaTLn28
namespace Go.Proofs.Ytlkpgpnieodifaa.Ln
open Go.RowKit Go.Proofs.YtlkpgpnieodifaaW.PrintWords Go.Proofs.YtlkpgpnieodifaaW.PrintLast Go.Proofs.YtlkpgpnieodifaaW.PrintMore
attribute [local go_sem] max2_int min2_int max_two min_two max_three min_three max_four min_four   -- for this text's walks alone
set_option linter.unusedVariables false
set_option linter.unusedSimpArgs false
def slices_Clone_int64.f (l0 : List Int) : Option (List Int) := if l0.length ≤ 1048576 then some l0 else none
set_option maxHeartbeats 2000000 in
theorem slices_Clone_int64.calls (A0 : Option Addr) (c0 : Nat) (l0 : List Int) (r : List Int) (w : World) (hr0 : Kd.C (Kd.int .i64) w A0 l0.length l0) (hc0 : l0.length ≤ c0) (h : slices_Clone_int64.f l0 = some r) :
  Calls Try.prog 125 #[.slice A0 l0.length c0] w fun e w' => ∃ v0_ : Value, e = .returned v0_ ∧ Kd.R (Kd.int .i64) 2 w' w.heap.size (fun _ => True) v0_ r ∧ Below w.heap.size w w' := by
 unfold slices_Clone_int64.f at h
 by_cases hb : l0.length ≤ 1048576
 case neg => rw [if_neg hb] at h; cases h
 rw [if_pos hb] at h
 obtain rfl := Option.some.inj h
 clear h
 have HR0 := Aside0.mk hr0
 have HL := Aside0.mk hb
 clear hr0 hb
 rcases A0 with _ | ad
 ·have hnil : l0 = [] := by
   rcases l0 with _ | ⟨x, xs⟩
   ·rfl
   ·obtain ⟨ad, he, _⟩ := HR0.out.2.2 (by simp)
    cases he
  subst hnil
  have he := fun (W : World) => Lib.run_eql_slice_nil (P := Try.prog) W 30 2 none 0 c0 0 0 Try.underlying30
  simp only [List.length_nil]
  go_enter Try.func125, Try.ntmps125
  go_wp2
  go_ret
  exact ⟨_, rfl, Kd.R_nil _ _ _ _ _, Below.refl _ _⟩
 ·have he := fun (W : World) => Lib.run_eql_slice_nil (P := Try.prog) W 30 2 (some ad) l0.length c0 0 0 Try.underlying30
  go_enter Try.func125, Try.ntmps125
  go_wp2_with (first | ((with_reducible refine gate_dst (N := 5) rfl ?_); refine Kd.R_lit (Kd.int .i64) _ 2 ?hg (N := 5) ?hd (xs := ([] : List Int)) (inner := []) (ok := fun _ => True) (okp := fun _ => True) ?hr ?hp (fun _ hk => hk) trivial (Below.refl _ _) (Nat.le_refl _) (by simp) ?_; (case hd => rfl); (case hg => rfl); (case hr => first | (go_simp; done) | (go_simp; rfl)); (case hp => exact (Reps.none _ _)); intro v1 w1 ho1 hb1 hg_ hnew_; clear hg_ hnew_; have HO1 := Aside0.mk ho1; have HB1 := Aside0.mk hb1; clear ho1 hb1) | ((with_reducible refine gate_builtin (b := .append) (xs := #[.tmp 5, .tmp 6]) rfl ?_); at_builtin; refine Kd.R_append_rows (Kd.int .i64) (w0 := w) w.heap.size rfl (.tmp 5) (.tmp 6) 30 2 (.int .i64 0) 8 rfl Try.underlying30 info2 rfl (by decide) (by omega) v1 [] l0 _ _ _ (fun _ => True) (fun _ => False) rfl rfl HO1.out (Kd.C_below HR0.out HB1.out) (fun _ _ h => h) (fun _ h => h.elim) (fun _ _ => trivial) HB1.out HB1.out.size (by have := HL.out; simp; omega) ?_; intro v2 w2 ho2 hb2 hg2 hat2; have HO2 := Aside0.mk ho2; have HB2 := Aside0.mk hb2; clear ho2 hb2 hg2 hat2))
  go_ret
  exact ⟨_, rfl, by simpa using HO2.out, HB2.out⟩
def hangL (step : Nat → Int → Option (List Int × Bool × Int × Bool)) : Nat → Nat → Int → Option (List Int × Bool × Int × Bool)
 | 0, _, t => some ([], false, t, false)
 | r + 1, kk, t => (step kk t).bind fun x => if x.2.1 = true ∨ x.2.2.2 = true then some x else hangL step r (kk + 1) x.2.2.1
def hangS (fit : List Int → Int → Option Bool) (bud : Int) (most : Nat) : Nat → List Int → Nat → Int → Option (List Int × Bool × Int × Bool)
 | 0, o, _, t => some (o, true, t, false)
 | d + 1, o, u, t => hangL (fun k t => (fit o (k : Int)).bind fun b => if b = false then some ([], false, t, false) else if t = bud then some ([], false, t, true) else hangS fit bud most d (o ++ [(k : Int)]) (max u (k + 1)) (t + 1)) (min (u + 1) most) 0 t
theorem putH4 {W : World} {gs : Nat} {a b c d e f : Value} (h1 : W.heap[gs]? = some (.cells #[a,b,c,d,e,f] 90 (0, 0))) (x : Value) : (W.setCell ⟨gs, 4, none⟩ x).heap[gs]? = some (.cells #[a,b,c,d,x,f] 90 (0, 0)) := blk_put h1 4 x rfl
theorem putH5 {W : World} {gs : Nat} {a b c d e f : Value} (h1 : W.heap[gs]? = some (.cells #[a,b,c,d,e,f] 90 (0, 0))) (x : Value) : (W.setCell ⟨gs, 5, none⟩ x).heap[gs]? = some (.cells #[a,b,c,d,e,x] 90 (0, 0)) := blk_put h1 5 x rfl
theorem keptH {w W : World} {gh : Nat} (h : Kept w W (fun k => k = gh)) (j : Nat) (v : Value) : Kept w (W.setCell ⟨gh, j, none⟩ v) (fun k => k = gh) := Kept.setCell h (p := ⟨gh, j, none⟩) (Or.inl (Eq.refl gh)) v
structure StH (W0 : World) (gh : Nat) (a0 a1 : Int) (l1 : List S38) (A1 : Option Addr) (c1 : Nat) (bud : Int) (W : World) (t : Int) (ov : Bool) : Prop where
 bel : Below W0.heap.size W0 W
 hb : W.heap[gh]? = some (.cells #[.int .i16 a0, .int .i16 a1, .slice A1 l1.length c1, .int .i64 bud, .int .i64 t, .bool ov] 90 (0, 0))
 ht : 0 ≤ t ∧ t ≤ bud
theorem StH.below {W0 W W' : World} {gh : Nat} {a0 a1 : Int} {l1 : List S38} {A1 : Option Addr} {c1 : Nat} {bud : Int} {t : Int} {ov : Bool} (h : StH W0 gh a0 a1 l1 A1 c1 bud W t ov) (b : Below W.heap.size W W') : StH W0 gh a0 a1 l1 A1 c1 bud W' t ov := ⟨below_step h.bel b, blk_below h.hb b, h.ht⟩
theorem StH.next {W0 W : World} {gh : Nat} {a0 a1 : Int} {l1 : List S38} {A1 : Option Addr} {c1 : Nat} {bud : Int} {t : Int} {ov : Bool} (h : StH W0 gh a0 a1 l1 A1 c1 bud W t ov) (hg : W0.heap.size ≤ gh) (ht : t < bud) : StH W0 gh a0 a1 l1 A1 c1 bud (W.setCell ⟨gh, 4, none⟩ (.int .i64 (t + 1))) (t + 1) ov :=
 ⟨below_set h.bel hg, putH4 h.hb _, by have := h.ht; omega, by omega⟩
theorem StH.over {W0 W : World} {gh : Nat} {a0 a1 : Int} {l1 : List S38} {A1 : Option Addr} {c1 : Nat} {bud : Int} {t : Int} {ov : Bool} (h : StH W0 gh a0 a1 l1 A1 c1 bud W t ov) (hg : W0.heap.size ≤ gh) : StH W0 gh a0 a1 l1 A1 c1 bud (W.setCell ⟨gh, 5, none⟩ (.bool true)) t true :=
 ⟨below_set h.bel hg, putH5 h.hb _, h.ht⟩
set_option maxHeartbeats 2000000 in
set_option maxRecDepth 100000 in
theorem hang_calls (W0 : World) (gh : Nat) (a0 a1 : Int) (l1 : List S38) (A1 : Option Addr) (c1 : Nat) (bud : Int) (most : Nat) (hn : l1.length ≤ 1000) (hmost : most ≤ 1000) (hgs : W0.heap.size ≤ gh) (hbud : bud ≤ 1000000000000) (hr1 : Kd.C k38 W0 A1 l1.length l1) (hc1 : l1.length ≤ c1) :
  ∀ (d : Nat) (W : World) (v : Value) (o : List Int) (u : Nat) (t : Int) (x : List Int × Bool × Int × Bool), o.length + d = l1.length → u ≤ o.length → Kd.R (Kd.int .i64) 2 W W0.heap.size (fun k => k ≠ gh) v o → StH W0 gh a0 a1 l1 A1 c1 bud W t false → hangS (impl_Line_fitsBehind.f a0 a1 l1) bud most d o u t = some x →
   Calls Try.prog 84 #[.pointer (some ⟨gh, 0, none⟩), .int .i64 (most : Int), v, .int .i64 (u : Int)] W fun e w' => ∃ v' : Value, e = .returned (.tuple #[v', .bool x.2.1]) ∧ Kept W w' (fun k => k = gh) ∧ StH W0 gh a0 a1 l1 A1 c1 bud w' x.2.2.1 x.2.2.2 ∧ Kd.R (Kd.int .i64) 2 w' W0.heap.size (fun k => k ≠ gh) v' x.1 := by
 intro d
 induction d with
 | zero =>
  intro W v o u t x hd hu hR hS h
  rw [hangS] at h
  obtain rfl := Option.some.inj h
  obtain ⟨A, c, rfl, hoc, _⟩ := Kd.R_reads hR
  have q2 : W.cell? ⟨gh, 2, none⟩ = some (.slice A1 l1.length c1) := (blk_cell hS.hb 2).trans rfl
  have hn0 : l1.length ≤ 9223372036854775807 := by omega
  have e1 : ((o.length : Int) == (l1.length : Int)) = true := by simp; omega
  have e2 : (o.length == l1.length) = true := by simp; omega
  have HS := Aside0.mk hS
  have HR := Aside0.mk hR
  clear hS hR hd hr1 hgs hn
  go_enter Try.func84, Try.ntmps84
  go_wp2
  go_ret2
  exact ⟨_, rfl, Kept.refl _ _, HS.out, HR.out⟩
 | succ d ih =>
  intro W v o u t x hd hu hR hS h
  obtain ⟨A, c, rfl, hoc, _⟩ := Kd.R_reads hR
  rw [hangS] at h
  have q2' : W.cell? ⟨gh, 2, none⟩ = some (.slice A1 l1.length c1) := (blk_cell hS.hb 2).trans rfl
  have hn0 : l1.length ≤ 9223372036854775807 := by omega
  have e1 : ((o.length : Int) == (l1.length : Int)) = false := by simp; omega
  have e2 : (o.length == l1.length) = false := by simp; omega
  have hu1 : (u : Int) ≤ 1000 := by omega
  have hm1 : (most : Int) ≤ 1000 := by omega
  have HOL := Aside0.mk (show o.length ≤ 1000 by omega)
  have HUU := Aside0.mk hu
  have HD := Aside0.mk hd
  have HG := Aside0.mk hgs
  have HRW := Aside0.mk hr1
  have HR := Aside0.mk hR
  have HS := Aside0.mk hS
  have IH := Aside0.mk ih
  have HCL := Aside0.mk (show slices_Clone_int64.f o = some o from if_pos (by omega))
  by_cases hmm : (most : Int) < (u : Int) + 1
  ·rw [show min (u + 1) most = most by omega] at h
   have HF := Aside0.mk h
   clear hS hR h ih hgs hr1 hd hu hn
   go_enter Try.func84, Try.ntmps84
   go_wp2
   go_loopg [10, 11, 12, 26] (most) (fun gg _ _ _ v26 w' => ∃ (kk r : Nat) (tk : Int), kk + r = most ∧ r ≤ gg ∧ v26 = .int .i64 (kk : Int) ∧ Aside0 (hangL (fun k t => (impl_Line_fitsBehind.f a0 a1 l1 o (k : Int)).bind fun b => if b = false then some ([], false, t, false) else if t = bud then some ([], false, t, true) else hangS (impl_Line_fitsBehind.f a0 a1 l1) bud most d (o ++ [(k : Int)]) (max u (k + 1)) (t + 1)) r kk tk = some x) ∧ Aside0 (Kept W w' (fun k => k = gh)) ∧ Aside0 (StH W0 gh a0 a1 l1 A1 c1 bud w' tk false))
   case atStart => exact ⟨0, most, t, by omega, by omega, rfl, HF, ⟨Kept.refl _ _⟩, HS⟩
   case round =>
    obtain ⟨kk, r, tk, hkr, hrg, rfl, HFL, KP, HSr⟩ := hrel
    rcases r with _ | r
    ·have hlti : ¬ (kk : Int) < (most : Int) := by omega
     go_wp2
     go_ret2
     have hf := HFL.out
     rw [hangL] at hf
     obtain rfl := Option.some.inj hf
     exact ⟨_, rfl, KP.out, HSr.out, Kd.R_nil _ _ _ _ _⟩
    ·have hlti : (kk : Int) < (most : Int) := by omega
     have hf := HFL.out
     rw [hangL] at hf
     obtain ⟨x1, hst, hrest⟩ := Option.bind_eq_some_iff.mp hf
     obtain ⟨b, hb, hs1⟩ := Option.bind_eq_some_iff.mp hst
     have hblk := HSr.out.hb
     have hRr := Kd.R_kept HR.out KP.out (fun k hk hS => hk hS)
     obtain ⟨A3, c3, ee_, _, hCr⟩ := Kd.R_reads hRr
     cases ee_
     have q0 : wr.cell? ⟨gh, 0, none⟩ = some (.int .i16 a0) := (blk_cell hblk 0).trans rfl
     have q1 : wr.cell? ⟨gh, 1, none⟩ = some (.int .i16 a1) := (blk_cell hblk 1).trans rfl
     have q2 : wr.cell? ⟨gh, 2, none⟩ = some (.slice A1 l1.length c1) := (blk_cell hblk 2).trans rfl
     have HR1 := Aside0.mk (Kd.C_below HRW.out HSr.out.bel)
     have HCr := Aside0.mk hCr
     have HRr := Aside0.mk hRr
     have HFIT := Aside0.mk hb
     have HREST := Aside0.mk hrest
     have HGW := Aside0.mk (show gh < wr.heap.size from blk_lt hblk)
     clear hf hst hb hrest hblk hRr hCr
     cases b with
     | false =>
      rw [if_pos rfl] at hs1
      obtain rfl := Option.some.inj hs1
      have HRE := Aside0.mk ((if_neg (by simp)).symm.trans HREST.out)
      clear hs1
      go_wp2
      go_region_held3 (fun w' => w'.cell? ⟨gh, 0, none⟩ = some (.int .i16 a0) ∧ w'.cell? ⟨gh, 1, none⟩ = some (.int .i16 a1) ∧ w'.cell? ⟨gh, 2, none⟩ = some (.slice A1 l1.length c1))
       (first | exact ⟨q0, q1, q2⟩ | exact ⟨pw_cell_below hb1 q0, pw_cell_below hb1 q1, pw_cell_below hb1 q2⟩)
       (first | (go_at_call 76; refine (impl_Line_fitsBehind.calls a0 a1 A1 c1 l1 A c o (kk : Int) false _ (Kd.C_below HR1.out (below_drew (Below.refl _ _))) hc1 (Kd.C_below HCr.out (below_drew (Below.refl _ _))) hoc HFIT.out).mono ?_; rintro e w1 ⟨rfl, hb1⟩))
      have HB1 := Aside0.mk (show Below wr.heap.size wr w1 from below_step (below_drew (Below.refl _ _)) hb1)
      clear hb1
      go_wp2
      go_roundg r
      case measure => omega
      case rel => exact ⟨kk + 1, r, tk, by omega, by omega, by go_num, HRE, ⟨KP.out.below HB1.out⟩, ⟨HSr.out.below HB1.out⟩⟩
     | true =>
      rw [if_neg (by decide)] at hs1
      go_wp2
      go_region_held3 (fun w' => w'.cell? ⟨gh, 0, none⟩ = some (.int .i16 a0) ∧ w'.cell? ⟨gh, 1, none⟩ = some (.int .i16 a1) ∧ w'.cell? ⟨gh, 2, none⟩ = some (.slice A1 l1.length c1))
       (first | exact ⟨q0, q1, q2⟩ | exact ⟨pw_cell_below hb1 q0, pw_cell_below hb1 q1, pw_cell_below hb1 q2⟩)
       (first | (go_at_call 76; refine (impl_Line_fitsBehind.calls a0 a1 A1 c1 l1 A c o (kk : Int) true _ (Kd.C_below HR1.out (below_drew (Below.refl _ _))) hc1 (Kd.C_below HCr.out (below_drew (Below.refl _ _))) hoc HFIT.out).mono ?_; rintro e w1 ⟨rfl, hb1⟩))
      have HB1 := Aside0.mk (show Below wr.heap.size wr w1 from below_step (below_drew (Below.refl _ _)) hb1)
      have hs1_ := HSr.out.below HB1.out
      have p3 : w1.cell? ⟨gh, 3, none⟩ = some (.int .i64 bud) := (blk_cell hs1_.hb 3).trans rfl
      have p4 : w1.cell? ⟨gh, 4, none⟩ = some (.int .i64 tk) := (blk_cell hs1_.hb 4).trans rfl
      have p5 : w1.cell? ⟨gh, 5, none⟩ = some (.bool false) := (blk_cell hs1_.hb 5).trans rfl
      have f4 := blk_frozen hs1_.hb 4
      have f5 := blk_frozen hs1_.hb 5
      have HSX := Aside0.mk hs1_
      clear hb1 hs1_
      by_cases htb : tk = bud
      ·rw [if_pos htb] at hs1
       obtain rfl := Option.some.inj hs1
       have hxx := (if_pos (Or.inr rfl)).symm.trans HREST.out
       have HXX := Aside0.mk (Option.some.inj hxx)
       have g1 : (tk == bud) = true := by simp [htb]
       clear hs1 hxx
       go_wp2
       go_quiet (fail)
       go_wp2
       go_ret2
       obtain rfl := HXX.out
       exact ⟨_, rfl, keptH ((KP.out.below HB1.out).below (pw_below_drewN (Below.refl _ _) _)) 5 _, (HSX.out.below (pw_below_drewN (Below.refl _ _) _)).over HG.out, Kd.R_nil _ _ _ _ _⟩
      ·rw [if_neg htb] at hs1
       have HX1 := Aside0.mk hs1
       have g1 : (tk == bud) = false := by simp [htb]
       clear hs1
       have htk := HSr.out.ht
       have htk1 : tk < bud := by omega
       obtain ⟨xo, xok, xt, xov⟩ := x1
       go_wp2
       go_quiet (fail)
       rename_i nq
       have HS2 := Aside0.mk ((HSX.out.below (pw_below_drewN (Below.refl _ _) nq)).next HG.out htk1)
       have HK2 := Aside0.mk (keptH ((Kept.of_below HB1.out (fun k => k = gh)).below (pw_below_drewN (Below.refl _ _) nq)) 4 (.int .i64 (tk + 1)))
       have HCW := Aside0.mk (Kd.R_reads' (Kd.R_kept HRr.out HK2.out (fun k hk hS => hk hS))).2.2
       have LG := Aside0.mk (Nat.lt_of_lt_of_le HGW.out HK2.out.1)
       have LW := Aside0.mk HS2.out.bel.size
       have HWK := Aside0.mk (show IntKind.i64.wrap ((kk : Int) + 1) = (kk : Int) + 1 from IntWalk.i64_in _ (by omega))
       have HMX := Aside0.mk (show (if (u : Int) < (kk : Int) + 1 then (kk : Int) + 1 else (u : Int)) = ((max u (kk + 1) : Nat) : Int) from by split <;> omega)
       cases xok with
       | true =>
        have HXX := Aside0.mk (Option.some.inj ((if_pos (Or.inl rfl)).symm.trans HREST.out))
        go_wp2_with (first | (go_at_call 125; refine (slices_Clone_int64.calls A c o o _ HCW.out hoc HCL.out).mono ?_; rintro e w3 ⟨v3, rfl, ho3, hb3⟩; have HO3 := Aside0.mk ho3; have HB3 := Aside0.mk hb3; clear ho3 hb3) | ((with_reducible refine gate_dst (N := 66) rfl ?_); refine Kd.R_lit (Kd.int .i64) _ 2 ?hg (N := 66) ?hd (xs := ([(kk : Int)] : List Int)) (inner := [.int .i64 (kk : Int)]) (ok := fun _ => True) (okp := fun _ => True) ?hr ?hp (fun _ hk => hk) trivial (Below.refl _ _) (Nat.le_refl _) (by simp) ?_; (case hd => rfl); (case hg => rfl); (case hr => first | (go_simp; done) | (go_simp; rfl)); (case hp => exact (Reps.one (show Kd.M (Kd.int .i64) _ _ _ (kk : Int) [.int .i64 (kk : Int)] from rfl) (Reps.none _ _))); intro v4 w4 ho4 hb4 hg_ hnew_; clear hg_ hnew_; obtain ⟨B4, d4, rfl, hd4, hC4⟩ := Kd.R_reads ho4; have HC4 := Aside0.mk hC4; have HO4 := Aside0.mk (Kd.R_below HO3.out hb4); have HB4 := Aside0.mk (below_step HB3.out hb4); clear ho4 hb4 hC4 hd4) | ((with_reducible refine gate_builtin (b := .append) (xs := #[.tmp 64, .tmp 66]) rfl ?_); at_builtin; refine Kd.R_append_rows (Kd.int .i64) (w0 := ((w1.drewN nq).setCell ⟨gh, 4, none⟩ (.int .i64 (tk + 1)))) ((w1.drewN nq).setCell ⟨gh, 4, none⟩ (.int .i64 (tk + 1))).heap.size rfl (.tmp 64) (.tmp 66) 30 2 (.int .i64 0) 8 rfl Try.underlying30 info2 rfl (by decide) (by omega) v3 o [(kk : Int)] _ _ _ (fun _ => True) (fun _ => False) rfl rfl HO4.out HC4.out (fun _ _ h => h) (fun _ h => h.elim) (fun _ _ => trivial) HB4.out HB4.out.size (by have := HOL.out; simp; omega) ?_; intro v5 w5 ho5 hb5 _ _; have HO5 := Aside0.mk ho5; have HB5 := Aside0.mk hb5; clear ho5 hb5) | (go_at_call 84; have hc_ := (IH.out w5 v5 (o ++ [(kk : Int)]) (max u (kk + 1)) (tk + 1) (xo, true, xt, xov) (by have := HD.out; simp; omega) (by have := HUU.out; simp; omega) (Kd.R_lower (Kd.R_mono (Kd.R_bound HO5.out) (fun k hk => by have := hk.2.1; have := LG.out; omega)) LW.out) (HS2.out.below HB5.out) HX1.out); (first | rw [show ((max u (kk + 1) : Nat) : Int) = (kk : Int) + 1 by omega] at hc_ | rw [show ((max u (kk + 1) : Nat) : Int) = (u : Int) by omega] at hc_ | rw [← HMX.out] at hc_); refine hc_.mono ?_; rintro e w6 ⟨v6, rfl, hk6, hs6, hr6⟩; have z5 : w6.cell? ⟨gh, 5, none⟩ = some (.bool xov) := (blk_cell hs6.hb 5).trans rfl; obtain ⟨A6, c6, rfl, hc6, _⟩ := Kd.R_reads hr6; have HK6 := Aside0.mk hk6; have HS6 := Aside0.mk hs6; have HR6 := Aside0.mk hr6; clear hk6 hs6 hr6))
        all_goals
         go_ret2
         obtain rfl := HXX.out
         exact ⟨_, rfl, ((KP.out.then_ HK2.out (fun _ h => .inl h)).below HB5.out).then_ HK6.out (fun _ h => .inl h), HS6.out, HR6.out⟩
       | false =>
        cases xov with
        | true =>
         have HXX := Aside0.mk (Option.some.inj ((if_pos (Or.inr rfl)).symm.trans HREST.out))
         go_wp2_with (first | (go_at_call 125; refine (slices_Clone_int64.calls A c o o _ HCW.out hoc HCL.out).mono ?_; rintro e w3 ⟨v3, rfl, ho3, hb3⟩; have HO3 := Aside0.mk ho3; have HB3 := Aside0.mk hb3; clear ho3 hb3) | ((with_reducible refine gate_dst (N := 66) rfl ?_); refine Kd.R_lit (Kd.int .i64) _ 2 ?hg (N := 66) ?hd (xs := ([(kk : Int)] : List Int)) (inner := [.int .i64 (kk : Int)]) (ok := fun _ => True) (okp := fun _ => True) ?hr ?hp (fun _ hk => hk) trivial (Below.refl _ _) (Nat.le_refl _) (by simp) ?_; (case hd => rfl); (case hg => rfl); (case hr => first | (go_simp; done) | (go_simp; rfl)); (case hp => exact (Reps.one (show Kd.M (Kd.int .i64) _ _ _ (kk : Int) [.int .i64 (kk : Int)] from rfl) (Reps.none _ _))); intro v4 w4 ho4 hb4 hg_ hnew_; clear hg_ hnew_; obtain ⟨B4, d4, rfl, hd4, hC4⟩ := Kd.R_reads ho4; have HC4 := Aside0.mk hC4; have HO4 := Aside0.mk (Kd.R_below HO3.out hb4); have HB4 := Aside0.mk (below_step HB3.out hb4); clear ho4 hb4 hC4 hd4) | ((with_reducible refine gate_builtin (b := .append) (xs := #[.tmp 64, .tmp 66]) rfl ?_); at_builtin; refine Kd.R_append_rows (Kd.int .i64) (w0 := ((w1.drewN nq).setCell ⟨gh, 4, none⟩ (.int .i64 (tk + 1)))) ((w1.drewN nq).setCell ⟨gh, 4, none⟩ (.int .i64 (tk + 1))).heap.size rfl (.tmp 64) (.tmp 66) 30 2 (.int .i64 0) 8 rfl Try.underlying30 info2 rfl (by decide) (by omega) v3 o [(kk : Int)] _ _ _ (fun _ => True) (fun _ => False) rfl rfl HO4.out HC4.out (fun _ _ h => h) (fun _ h => h.elim) (fun _ _ => trivial) HB4.out HB4.out.size (by have := HOL.out; simp; omega) ?_; intro v5 w5 ho5 hb5 _ _; have HO5 := Aside0.mk ho5; have HB5 := Aside0.mk hb5; clear ho5 hb5) | (go_at_call 84; have hc_ := (IH.out w5 v5 (o ++ [(kk : Int)]) (max u (kk + 1)) (tk + 1) (xo, false, xt, true) (by have := HD.out; simp; omega) (by have := HUU.out; simp; omega) (Kd.R_lower (Kd.R_mono (Kd.R_bound HO5.out) (fun k hk => by have := hk.2.1; have := LG.out; omega)) LW.out) (HS2.out.below HB5.out) HX1.out); (first | rw [show ((max u (kk + 1) : Nat) : Int) = (kk : Int) + 1 by omega] at hc_ | rw [show ((max u (kk + 1) : Nat) : Int) = (u : Int) by omega] at hc_ | rw [← HMX.out] at hc_); refine hc_.mono ?_; rintro e w6 ⟨v6, rfl, hk6, hs6, hr6⟩; have z5 : w6.cell? ⟨gh, 5, none⟩ = some (.bool true) := (blk_cell hs6.hb 5).trans rfl; obtain ⟨A6, c6, rfl, hc6, _⟩ := Kd.R_reads hr6; have HK6 := Aside0.mk hk6; have HS6 := Aside0.mk hs6; have HR6 := Aside0.mk hr6; clear hk6 hs6 hr6))
         all_goals
          go_ret2
          obtain rfl := HXX.out
          exact ⟨_, rfl, ((KP.out.then_ HK2.out (fun _ h => .inl h)).below HB5.out).then_ HK6.out (fun _ h => .inl h), HS6.out, HR6.out⟩
        | false =>
         have HRE := Aside0.mk ((if_neg (by simp)).symm.trans HREST.out)
         go_wp2_with (first | (go_at_call 125; refine (slices_Clone_int64.calls A c o o _ HCW.out hoc HCL.out).mono ?_; rintro e w3 ⟨v3, rfl, ho3, hb3⟩; have HO3 := Aside0.mk ho3; have HB3 := Aside0.mk hb3; clear ho3 hb3) | ((with_reducible refine gate_dst (N := 66) rfl ?_); refine Kd.R_lit (Kd.int .i64) _ 2 ?hg (N := 66) ?hd (xs := ([(kk : Int)] : List Int)) (inner := [.int .i64 (kk : Int)]) (ok := fun _ => True) (okp := fun _ => True) ?hr ?hp (fun _ hk => hk) trivial (Below.refl _ _) (Nat.le_refl _) (by simp) ?_; (case hd => rfl); (case hg => rfl); (case hr => first | (go_simp; done) | (go_simp; rfl)); (case hp => exact (Reps.one (show Kd.M (Kd.int .i64) _ _ _ (kk : Int) [.int .i64 (kk : Int)] from rfl) (Reps.none _ _))); intro v4 w4 ho4 hb4 hg_ hnew_; clear hg_ hnew_; obtain ⟨B4, d4, rfl, hd4, hC4⟩ := Kd.R_reads ho4; have HC4 := Aside0.mk hC4; have HO4 := Aside0.mk (Kd.R_below HO3.out hb4); have HB4 := Aside0.mk (below_step HB3.out hb4); clear ho4 hb4 hC4 hd4) | ((with_reducible refine gate_builtin (b := .append) (xs := #[.tmp 64, .tmp 66]) rfl ?_); at_builtin; refine Kd.R_append_rows (Kd.int .i64) (w0 := ((w1.drewN nq).setCell ⟨gh, 4, none⟩ (.int .i64 (tk + 1)))) ((w1.drewN nq).setCell ⟨gh, 4, none⟩ (.int .i64 (tk + 1))).heap.size rfl (.tmp 64) (.tmp 66) 30 2 (.int .i64 0) 8 rfl Try.underlying30 info2 rfl (by decide) (by omega) v3 o [(kk : Int)] _ _ _ (fun _ => True) (fun _ => False) rfl rfl HO4.out HC4.out (fun _ _ h => h) (fun _ h => h.elim) (fun _ _ => trivial) HB4.out HB4.out.size (by have := HOL.out; simp; omega) ?_; intro v5 w5 ho5 hb5 _ _; have HO5 := Aside0.mk ho5; have HB5 := Aside0.mk hb5; clear ho5 hb5) | (go_at_call 84; have hc_ := (IH.out w5 v5 (o ++ [(kk : Int)]) (max u (kk + 1)) (tk + 1) (xo, false, xt, false) (by have := HD.out; simp; omega) (by have := HUU.out; simp; omega) (Kd.R_lower (Kd.R_mono (Kd.R_bound HO5.out) (fun k hk => by have := hk.2.1; have := LG.out; omega)) LW.out) (HS2.out.below HB5.out) HX1.out); (first | rw [show ((max u (kk + 1) : Nat) : Int) = (kk : Int) + 1 by omega] at hc_ | rw [show ((max u (kk + 1) : Nat) : Int) = (u : Int) by omega] at hc_ | rw [← HMX.out] at hc_); refine hc_.mono ?_; rintro e w6 ⟨v6, rfl, hk6, hs6, hr6⟩; have z5 : w6.cell? ⟨gh, 5, none⟩ = some (.bool false) := (blk_cell hs6.hb 5).trans rfl; obtain ⟨A6, c6, rfl, hc6, _⟩ := Kd.R_reads hr6; have HK6 := Aside0.mk hk6; have HS6 := Aside0.mk hs6; have HR6 := Aside0.mk hr6; clear hk6 hs6 hr6))
         all_goals
          go_roundg r
          case measure => omega
          case rel => exact ⟨kk + 1, r, xt, by omega, by omega, by go_num, HRE, ⟨((KP.out.then_ HK2.out (fun _ h => .inl h)).below HB5.out).then_ HK6.out (fun _ h => .inl h)⟩, HS6⟩
  ·rw [show min (u + 1) most = u + 1 by omega] at h
   have HF := Aside0.mk h
   clear hS hR h ih hgs hr1 hd hu hn
   go_enter Try.func84, Try.ntmps84
   go_wp2
   go_loopg [10, 11, 12, 26] (u + 1) (fun gg _ _ _ v26 w' => ∃ (kk r : Nat) (tk : Int), kk + r = u + 1 ∧ r ≤ gg ∧ v26 = .int .i64 (kk : Int) ∧ Aside0 (hangL (fun k t => (impl_Line_fitsBehind.f a0 a1 l1 o (k : Int)).bind fun b => if b = false then some ([], false, t, false) else if t = bud then some ([], false, t, true) else hangS (impl_Line_fitsBehind.f a0 a1 l1) bud most d (o ++ [(k : Int)]) (max u (k + 1)) (t + 1)) r kk tk = some x) ∧ Aside0 (Kept W w' (fun k => k = gh)) ∧ Aside0 (StH W0 gh a0 a1 l1 A1 c1 bud w' tk false))
   case atStart => exact ⟨0, u + 1, t, by omega, by omega, rfl, HF, ⟨Kept.refl _ _⟩, HS⟩
   case round =>
    obtain ⟨kk, r, tk, hkr, hrg, rfl, HFL, KP, HSr⟩ := hrel
    rcases r with _ | r
    ·have hlti : ¬ (kk : Int) < (u : Int) + 1 := by omega
     go_wp2
     go_ret2
     have hf := HFL.out
     rw [hangL] at hf
     obtain rfl := Option.some.inj hf
     exact ⟨_, rfl, KP.out, HSr.out, Kd.R_nil _ _ _ _ _⟩
    ·have hlti : (kk : Int) < (u : Int) + 1 := by omega
     have hf := HFL.out
     rw [hangL] at hf
     obtain ⟨x1, hst, hrest⟩ := Option.bind_eq_some_iff.mp hf
     obtain ⟨b, hb, hs1⟩ := Option.bind_eq_some_iff.mp hst
     have hblk := HSr.out.hb
     have hRr := Kd.R_kept HR.out KP.out (fun k hk hS => hk hS)
     obtain ⟨A3, c3, ee_, _, hCr⟩ := Kd.R_reads hRr
     cases ee_
     have q0 : wr.cell? ⟨gh, 0, none⟩ = some (.int .i16 a0) := (blk_cell hblk 0).trans rfl
     have q1 : wr.cell? ⟨gh, 1, none⟩ = some (.int .i16 a1) := (blk_cell hblk 1).trans rfl
     have q2 : wr.cell? ⟨gh, 2, none⟩ = some (.slice A1 l1.length c1) := (blk_cell hblk 2).trans rfl
     have HR1 := Aside0.mk (Kd.C_below HRW.out HSr.out.bel)
     have HCr := Aside0.mk hCr
     have HRr := Aside0.mk hRr
     have HFIT := Aside0.mk hb
     have HREST := Aside0.mk hrest
     have HGW := Aside0.mk (show gh < wr.heap.size from blk_lt hblk)
     clear hf hst hb hrest hblk hRr hCr
     cases b with
     | false =>
      rw [if_pos rfl] at hs1
      obtain rfl := Option.some.inj hs1
      have HRE := Aside0.mk ((if_neg (by simp)).symm.trans HREST.out)
      clear hs1
      go_wp2
      go_region_held3 (fun w' => w'.cell? ⟨gh, 0, none⟩ = some (.int .i16 a0) ∧ w'.cell? ⟨gh, 1, none⟩ = some (.int .i16 a1) ∧ w'.cell? ⟨gh, 2, none⟩ = some (.slice A1 l1.length c1))
       (first | exact ⟨q0, q1, q2⟩ | exact ⟨pw_cell_below hb1 q0, pw_cell_below hb1 q1, pw_cell_below hb1 q2⟩)
       (first | (go_at_call 76; refine (impl_Line_fitsBehind.calls a0 a1 A1 c1 l1 A c o (kk : Int) false _ (Kd.C_below HR1.out (below_drew (Below.refl _ _))) hc1 (Kd.C_below HCr.out (below_drew (Below.refl _ _))) hoc HFIT.out).mono ?_; rintro e w1 ⟨rfl, hb1⟩))
      have HB1 := Aside0.mk (show Below wr.heap.size wr w1 from below_step (below_drew (Below.refl _ _)) hb1)
      clear hb1
      go_wp2
      go_roundg r
      case measure => omega
      case rel => exact ⟨kk + 1, r, tk, by omega, by omega, by go_num, HRE, ⟨KP.out.below HB1.out⟩, ⟨HSr.out.below HB1.out⟩⟩
     | true =>
      rw [if_neg (by decide)] at hs1
      go_wp2
      go_region_held3 (fun w' => w'.cell? ⟨gh, 0, none⟩ = some (.int .i16 a0) ∧ w'.cell? ⟨gh, 1, none⟩ = some (.int .i16 a1) ∧ w'.cell? ⟨gh, 2, none⟩ = some (.slice A1 l1.length c1))
       (first | exact ⟨q0, q1, q2⟩ | exact ⟨pw_cell_below hb1 q0, pw_cell_below hb1 q1, pw_cell_below hb1 q2⟩)
       (first | (go_at_call 76; refine (impl_Line_fitsBehind.calls a0 a1 A1 c1 l1 A c o (kk : Int) true _ (Kd.C_below HR1.out (below_drew (Below.refl _ _))) hc1 (Kd.C_below HCr.out (below_drew (Below.refl _ _))) hoc HFIT.out).mono ?_; rintro e w1 ⟨rfl, hb1⟩))
      have HB1 := Aside0.mk (show Below wr.heap.size wr w1 from below_step (below_drew (Below.refl _ _)) hb1)
      have hs1_ := HSr.out.below HB1.out
      have p3 : w1.cell? ⟨gh, 3, none⟩ = some (.int .i64 bud) := (blk_cell hs1_.hb 3).trans rfl
      have p4 : w1.cell? ⟨gh, 4, none⟩ = some (.int .i64 tk) := (blk_cell hs1_.hb 4).trans rfl
      have p5 : w1.cell? ⟨gh, 5, none⟩ = some (.bool false) := (blk_cell hs1_.hb 5).trans rfl
      have f4 := blk_frozen hs1_.hb 4
      have f5 := blk_frozen hs1_.hb 5
      have HSX := Aside0.mk hs1_
      clear hb1 hs1_
      by_cases htb : tk = bud
      ·rw [if_pos htb] at hs1
       obtain rfl := Option.some.inj hs1
       have hxx := (if_pos (Or.inr rfl)).symm.trans HREST.out
       have HXX := Aside0.mk (Option.some.inj hxx)
       have g1 : (tk == bud) = true := by simp [htb]
       clear hs1 hxx
       go_wp2
       go_quiet (fail)
       go_wp2
       go_ret2
       obtain rfl := HXX.out
       exact ⟨_, rfl, keptH ((KP.out.below HB1.out).below (pw_below_drewN (Below.refl _ _) _)) 5 _, (HSX.out.below (pw_below_drewN (Below.refl _ _) _)).over HG.out, Kd.R_nil _ _ _ _ _⟩
      ·rw [if_neg htb] at hs1
       have HX1 := Aside0.mk hs1
       have g1 : (tk == bud) = false := by simp [htb]
       clear hs1
       have htk := HSr.out.ht
       have htk1 : tk < bud := by omega
       obtain ⟨xo, xok, xt, xov⟩ := x1
       go_wp2
       go_quiet (fail)
       rename_i nq
       have HS2 := Aside0.mk ((HSX.out.below (pw_below_drewN (Below.refl _ _) nq)).next HG.out htk1)
       have HK2 := Aside0.mk (keptH ((Kept.of_below HB1.out (fun k => k = gh)).below (pw_below_drewN (Below.refl _ _) nq)) 4 (.int .i64 (tk + 1)))
       have HCW := Aside0.mk (Kd.R_reads' (Kd.R_kept HRr.out HK2.out (fun k hk hS => hk hS))).2.2
       have LG := Aside0.mk (Nat.lt_of_lt_of_le HGW.out HK2.out.1)
       have LW := Aside0.mk HS2.out.bel.size
       have HWK := Aside0.mk (show IntKind.i64.wrap ((kk : Int) + 1) = (kk : Int) + 1 from IntWalk.i64_in _ (by omega))
       have HMX := Aside0.mk (show (if (u : Int) < (kk : Int) + 1 then (kk : Int) + 1 else (u : Int)) = ((max u (kk + 1) : Nat) : Int) from by split <;> omega)
       cases xok with
       | true =>
        have HXX := Aside0.mk (Option.some.inj ((if_pos (Or.inl rfl)).symm.trans HREST.out))
        go_wp2_with (first | (go_at_call 125; refine (slices_Clone_int64.calls A c o o _ HCW.out hoc HCL.out).mono ?_; rintro e w3 ⟨v3, rfl, ho3, hb3⟩; have HO3 := Aside0.mk ho3; have HB3 := Aside0.mk hb3; clear ho3 hb3) | ((with_reducible refine gate_dst (N := 66) rfl ?_); refine Kd.R_lit (Kd.int .i64) _ 2 ?hg (N := 66) ?hd (xs := ([(kk : Int)] : List Int)) (inner := [.int .i64 (kk : Int)]) (ok := fun _ => True) (okp := fun _ => True) ?hr ?hp (fun _ hk => hk) trivial (Below.refl _ _) (Nat.le_refl _) (by simp) ?_; (case hd => rfl); (case hg => rfl); (case hr => first | (go_simp; done) | (go_simp; rfl)); (case hp => exact (Reps.one (show Kd.M (Kd.int .i64) _ _ _ (kk : Int) [.int .i64 (kk : Int)] from rfl) (Reps.none _ _))); intro v4 w4 ho4 hb4 hg_ hnew_; clear hg_ hnew_; obtain ⟨B4, d4, rfl, hd4, hC4⟩ := Kd.R_reads ho4; have HC4 := Aside0.mk hC4; have HO4 := Aside0.mk (Kd.R_below HO3.out hb4); have HB4 := Aside0.mk (below_step HB3.out hb4); clear ho4 hb4 hC4 hd4) | ((with_reducible refine gate_builtin (b := .append) (xs := #[.tmp 64, .tmp 66]) rfl ?_); at_builtin; refine Kd.R_append_rows (Kd.int .i64) (w0 := ((w1.drewN nq).setCell ⟨gh, 4, none⟩ (.int .i64 (tk + 1)))) ((w1.drewN nq).setCell ⟨gh, 4, none⟩ (.int .i64 (tk + 1))).heap.size rfl (.tmp 64) (.tmp 66) 30 2 (.int .i64 0) 8 rfl Try.underlying30 info2 rfl (by decide) (by omega) v3 o [(kk : Int)] _ _ _ (fun _ => True) (fun _ => False) rfl rfl HO4.out HC4.out (fun _ _ h => h) (fun _ h => h.elim) (fun _ _ => trivial) HB4.out HB4.out.size (by have := HOL.out; simp; omega) ?_; intro v5 w5 ho5 hb5 _ _; have HO5 := Aside0.mk ho5; have HB5 := Aside0.mk hb5; clear ho5 hb5) | (go_at_call 84; have hc_ := (IH.out w5 v5 (o ++ [(kk : Int)]) (max u (kk + 1)) (tk + 1) (xo, true, xt, xov) (by have := HD.out; simp; omega) (by have := HUU.out; simp; omega) (Kd.R_lower (Kd.R_mono (Kd.R_bound HO5.out) (fun k hk => by have := hk.2.1; have := LG.out; omega)) LW.out) (HS2.out.below HB5.out) HX1.out); (first | rw [show ((max u (kk + 1) : Nat) : Int) = (kk : Int) + 1 by omega] at hc_ | rw [show ((max u (kk + 1) : Nat) : Int) = (u : Int) by omega] at hc_ | rw [← HMX.out] at hc_); refine hc_.mono ?_; rintro e w6 ⟨v6, rfl, hk6, hs6, hr6⟩; have z5 : w6.cell? ⟨gh, 5, none⟩ = some (.bool xov) := (blk_cell hs6.hb 5).trans rfl; obtain ⟨A6, c6, rfl, hc6, _⟩ := Kd.R_reads hr6; have HK6 := Aside0.mk hk6; have HS6 := Aside0.mk hs6; have HR6 := Aside0.mk hr6; clear hk6 hs6 hr6))
        all_goals
         go_ret2
         obtain rfl := HXX.out
         exact ⟨_, rfl, ((KP.out.then_ HK2.out (fun _ h => .inl h)).below HB5.out).then_ HK6.out (fun _ h => .inl h), HS6.out, HR6.out⟩
       | false =>
        cases xov with
        | true =>
         have HXX := Aside0.mk (Option.some.inj ((if_pos (Or.inr rfl)).symm.trans HREST.out))
         go_wp2_with (first | (go_at_call 125; refine (slices_Clone_int64.calls A c o o _ HCW.out hoc HCL.out).mono ?_; rintro e w3 ⟨v3, rfl, ho3, hb3⟩; have HO3 := Aside0.mk ho3; have HB3 := Aside0.mk hb3; clear ho3 hb3) | ((with_reducible refine gate_dst (N := 66) rfl ?_); refine Kd.R_lit (Kd.int .i64) _ 2 ?hg (N := 66) ?hd (xs := ([(kk : Int)] : List Int)) (inner := [.int .i64 (kk : Int)]) (ok := fun _ => True) (okp := fun _ => True) ?hr ?hp (fun _ hk => hk) trivial (Below.refl _ _) (Nat.le_refl _) (by simp) ?_; (case hd => rfl); (case hg => rfl); (case hr => first | (go_simp; done) | (go_simp; rfl)); (case hp => exact (Reps.one (show Kd.M (Kd.int .i64) _ _ _ (kk : Int) [.int .i64 (kk : Int)] from rfl) (Reps.none _ _))); intro v4 w4 ho4 hb4 hg_ hnew_; clear hg_ hnew_; obtain ⟨B4, d4, rfl, hd4, hC4⟩ := Kd.R_reads ho4; have HC4 := Aside0.mk hC4; have HO4 := Aside0.mk (Kd.R_below HO3.out hb4); have HB4 := Aside0.mk (below_step HB3.out hb4); clear ho4 hb4 hC4 hd4) | ((with_reducible refine gate_builtin (b := .append) (xs := #[.tmp 64, .tmp 66]) rfl ?_); at_builtin; refine Kd.R_append_rows (Kd.int .i64) (w0 := ((w1.drewN nq).setCell ⟨gh, 4, none⟩ (.int .i64 (tk + 1)))) ((w1.drewN nq).setCell ⟨gh, 4, none⟩ (.int .i64 (tk + 1))).heap.size rfl (.tmp 64) (.tmp 66) 30 2 (.int .i64 0) 8 rfl Try.underlying30 info2 rfl (by decide) (by omega) v3 o [(kk : Int)] _ _ _ (fun _ => True) (fun _ => False) rfl rfl HO4.out HC4.out (fun _ _ h => h) (fun _ h => h.elim) (fun _ _ => trivial) HB4.out HB4.out.size (by have := HOL.out; simp; omega) ?_; intro v5 w5 ho5 hb5 _ _; have HO5 := Aside0.mk ho5; have HB5 := Aside0.mk hb5; clear ho5 hb5) | (go_at_call 84; have hc_ := (IH.out w5 v5 (o ++ [(kk : Int)]) (max u (kk + 1)) (tk + 1) (xo, false, xt, true) (by have := HD.out; simp; omega) (by have := HUU.out; simp; omega) (Kd.R_lower (Kd.R_mono (Kd.R_bound HO5.out) (fun k hk => by have := hk.2.1; have := LG.out; omega)) LW.out) (HS2.out.below HB5.out) HX1.out); (first | rw [show ((max u (kk + 1) : Nat) : Int) = (kk : Int) + 1 by omega] at hc_ | rw [show ((max u (kk + 1) : Nat) : Int) = (u : Int) by omega] at hc_ | rw [← HMX.out] at hc_); refine hc_.mono ?_; rintro e w6 ⟨v6, rfl, hk6, hs6, hr6⟩; have z5 : w6.cell? ⟨gh, 5, none⟩ = some (.bool true) := (blk_cell hs6.hb 5).trans rfl; obtain ⟨A6, c6, rfl, hc6, _⟩ := Kd.R_reads hr6; have HK6 := Aside0.mk hk6; have HS6 := Aside0.mk hs6; have HR6 := Aside0.mk hr6; clear hk6 hs6 hr6))
         all_goals
          go_ret2
          obtain rfl := HXX.out
          exact ⟨_, rfl, ((KP.out.then_ HK2.out (fun _ h => .inl h)).below HB5.out).then_ HK6.out (fun _ h => .inl h), HS6.out, HR6.out⟩
        | false =>
         have HRE := Aside0.mk ((if_neg (by simp)).symm.trans HREST.out)
         go_wp2_with (first | (go_at_call 125; refine (slices_Clone_int64.calls A c o o _ HCW.out hoc HCL.out).mono ?_; rintro e w3 ⟨v3, rfl, ho3, hb3⟩; have HO3 := Aside0.mk ho3; have HB3 := Aside0.mk hb3; clear ho3 hb3) | ((with_reducible refine gate_dst (N := 66) rfl ?_); refine Kd.R_lit (Kd.int .i64) _ 2 ?hg (N := 66) ?hd (xs := ([(kk : Int)] : List Int)) (inner := [.int .i64 (kk : Int)]) (ok := fun _ => True) (okp := fun _ => True) ?hr ?hp (fun _ hk => hk) trivial (Below.refl _ _) (Nat.le_refl _) (by simp) ?_; (case hd => rfl); (case hg => rfl); (case hr => first | (go_simp; done) | (go_simp; rfl)); (case hp => exact (Reps.one (show Kd.M (Kd.int .i64) _ _ _ (kk : Int) [.int .i64 (kk : Int)] from rfl) (Reps.none _ _))); intro v4 w4 ho4 hb4 hg_ hnew_; clear hg_ hnew_; obtain ⟨B4, d4, rfl, hd4, hC4⟩ := Kd.R_reads ho4; have HC4 := Aside0.mk hC4; have HO4 := Aside0.mk (Kd.R_below HO3.out hb4); have HB4 := Aside0.mk (below_step HB3.out hb4); clear ho4 hb4 hC4 hd4) | ((with_reducible refine gate_builtin (b := .append) (xs := #[.tmp 64, .tmp 66]) rfl ?_); at_builtin; refine Kd.R_append_rows (Kd.int .i64) (w0 := ((w1.drewN nq).setCell ⟨gh, 4, none⟩ (.int .i64 (tk + 1)))) ((w1.drewN nq).setCell ⟨gh, 4, none⟩ (.int .i64 (tk + 1))).heap.size rfl (.tmp 64) (.tmp 66) 30 2 (.int .i64 0) 8 rfl Try.underlying30 info2 rfl (by decide) (by omega) v3 o [(kk : Int)] _ _ _ (fun _ => True) (fun _ => False) rfl rfl HO4.out HC4.out (fun _ _ h => h) (fun _ h => h.elim) (fun _ _ => trivial) HB4.out HB4.out.size (by have := HOL.out; simp; omega) ?_; intro v5 w5 ho5 hb5 _ _; have HO5 := Aside0.mk ho5; have HB5 := Aside0.mk hb5; clear ho5 hb5) | (go_at_call 84; have hc_ := (IH.out w5 v5 (o ++ [(kk : Int)]) (max u (kk + 1)) (tk + 1) (xo, false, xt, false) (by have := HD.out; simp; omega) (by have := HUU.out; simp; omega) (Kd.R_lower (Kd.R_mono (Kd.R_bound HO5.out) (fun k hk => by have := hk.2.1; have := LG.out; omega)) LW.out) (HS2.out.below HB5.out) HX1.out); (first | rw [show ((max u (kk + 1) : Nat) : Int) = (kk : Int) + 1 by omega] at hc_ | rw [show ((max u (kk + 1) : Nat) : Int) = (u : Int) by omega] at hc_ | rw [← HMX.out] at hc_); refine hc_.mono ?_; rintro e w6 ⟨v6, rfl, hk6, hs6, hr6⟩; have z5 : w6.cell? ⟨gh, 5, none⟩ = some (.bool false) := (blk_cell hs6.hb 5).trans rfl; obtain ⟨A6, c6, rfl, hc6, _⟩ := Kd.R_reads hr6; have HK6 := Aside0.mk hk6; have HS6 := Aside0.mk hs6; have HR6 := Aside0.mk hr6; clear hk6 hs6 hr6))
         all_goals
          go_roundg r
          case measure => omega
          case rel => exact ⟨kk + 1, r, xt, by omega, by omega, by go_num, HRE, ⟨((KP.out.then_ HK2.out (fun _ h => .inl h)).below HB5.out).then_ HK6.out (fun _ h => .inl h)⟩, HS6⟩
def hangM (S : Nat → Int → Option (List Int × Bool × Int × Bool)) : Nat → Nat → Int → Option (List Int × Int × Int)
 | 0, _, _ => none
 | r + 1, m, t => (S m t).bind fun x => if x.2.1 = true then some (x.1, x.2.2.1, 0) else if x.2.2.2 = true then some ([], 0, 7) else if m + 1 ≤ 1000 then hangM S r (m + 1) x.2.2.1 else none
def impl_FewestLines.f (k : Nat) (a0_0 : Int) (a0_1 : Int) (l1 : List S38) (a2 : Int) : Option (List Int × Int × Int) :=
 (impl_lineCode.f k a0_0 a0_1 l1).bind fun c1 => (impl_within.f a2 0 20000).bind fun b => (impl_unless.f b 2).bind fun c2 => (impl_Line_fitAlone.f a0_0 a0_1 l1).bind fun c3 => (impl_firstOf.f k [c1, c2, c3]).bind fun c => if c = 0 then (if l1.length ≤ 1000 ∧ 0 ≤ a2 ∧ a2 ≤ 20000 then hangM (fun m t => hangS (impl_Line_fitsBehind.f a0_0 a0_1 l1) a2 m l1.length [] 0 t) k 0 0 else none) else some ([], 0, c)
theorem C_new3 (w : World) (x y z : Int) : Kd.C (Kd.int .i64) (w.alloc (.cells #[.int .i64 x, .int .i64 y, .int .i64 z] 2)) (some ⟨w.heap.size, 0, none⟩) [x, y, z].length [x, y, z] := by
 refine ⟨rfl, by simp, fun _ => ⟨_, rfl, fun j p hj => ?_⟩⟩
 rcases j with _ | _ | _ | j
 ·simp at hj
  subst hj
  refine ⟨[.int .i64 x], rfl, rfl, fun i u hu => ?_⟩
  rcases i with _ | i
  ·simp at hu
   subst hu
   first | (simp [go_sem]; done) | (simp [go_sem]; rfl)
  ·simp at hu
 ·simp at hj
  subst hj
  refine ⟨[.int .i64 y], rfl, rfl, fun i u hu => ?_⟩
  rcases i with _ | i
  ·simp at hu
   subst hu
   first | (simp [go_sem]; done) | (simp [go_sem]; rfl)
  ·simp at hu
 ·simp at hj
  subst hj
  refine ⟨[.int .i64 z], rfl, rfl, fun i u hu => ?_⟩
  rcases i with _ | i
  ·simp at hu
   subst hu
   first | (simp [go_sem]; done) | (simp [go_sem]; rfl)
  ·simp at hu
 ·simp at hj
set_option maxHeartbeats 4000000 in
set_option maxRecDepth 100000 in
theorem impl_FewestLines.calls (k : Nat) (a0_0 : Int) (a0_1 : Int) (A1 : Option Addr) (c1 : Nat) (l1 : List S38) (a2 : Int) (r1 : List Int) (r2 : Int) (r3 : Int) (w : World) (hr1 : Kd.C k38 w A1 l1.length l1) (hc1 : l1.length ≤ c1) (h : impl_FewestLines.f k a0_0 a0_1 l1 a2 = some (r1, r2, r3)) :
  Calls Try.prog 25 #[.agg #[.int .i16 a0_0, .int .i16 a0_1], .slice A1 l1.length c1, .int .i64 a2] w fun e w' => ∃ v0_ : Value, e = .returned (.tuple #[v0_, .int .i64 r2, .int .i64 r3]) ∧ Kd.R (Kd.int .i64) 2 w' w.heap.size (fun _ => True) v0_ r1 ∧ Below w.heap.size w w' := by
 obtain ⟨cl, hcl, h⟩ := Option.bind_eq_some_iff.mp h
 obtain ⟨bw, hbw, h⟩ := Option.bind_eq_some_iff.mp h
 obtain ⟨cu, hcu, h⟩ := Option.bind_eq_some_iff.mp h
 obtain ⟨ca, hca, h⟩ := Option.bind_eq_some_iff.mp h
 obtain ⟨cd, hcd, h⟩ := Option.bind_eq_some_iff.mp h
 have HCL := Aside0.mk hcl
 have HBW := Aside0.mk hbw
 have HCU := Aside0.mk hcu
 have HCA := Aside0.mk hca
 have HFO := Aside0.mk hcd
 have HR1 := Aside0.mk hr1
 have HH := Aside0.mk h
 have hn : l1.length ≤ 9223372036854775807 := hr1.2.1
 have hblk : (w.alloc (.cells #[.int .i16 a0_0, .int .i16 a0_1] 28)).heap[w.heap.size]? = some (.cells #[.int .i16 a0_0, .int .i16 a0_1] 28 (0, 0)) := blk_new w _
 have q0 : (w.alloc (.cells #[.int .i16 a0_0, .int .i16 a0_1] 28)).cell? ⟨w.heap.size, 0, none⟩ = some (.int .i16 a0_0) := (blk_cell hblk 0).trans rfl
 have q1 : (w.alloc (.cells #[.int .i16 a0_0, .int .i16 a0_1] 28)).cell? ⟨w.heap.size, 1, none⟩ = some (.int .i16 a0_1) := (blk_cell hblk 1).trans rfl
 have HQ0 := Aside0.mk q0
 have HQ1 := Aside0.mk q1
 clear hcl hbw hcu hca hcd hr1 h hblk q0 q1
 go_enter Try.func25, Try.ntmps25
 go_upto_region 1 with fail
 go_cut [9] (fun s9 wx => s9 = .int .i64 cd ∧ Aside0 (Below (w.alloc (.cells #[.int .i16 a0_0, .int .i16 a0_1] 28)).heap.size (w.alloc (.cells #[.int .i16 a0_0, .int .i16 a0_1] 28)) wx))
 case first =>
  go_region_held3 (fun w' => w'.cell? ⟨w.heap.size, 0, none⟩ = some (.int .i16 a0_0) ∧ w'.cell? ⟨w.heap.size, 1, none⟩ = some (.int .i16 a0_1))
   (exact ⟨pw_cell_below (by repeat (first | exact Below.refl _ _ | apply pw_below_drewN | apply below_drew | apply below_alloc | refine below_step ?_ hb1 | refine below_step ?_ hb2 | refine below_step ?_ hb3 | refine below_step ?_ hb4 | refine below_step ?_ hb5)) HQ0.out, pw_cell_below (by repeat (first | exact Below.refl _ _ | apply pw_below_drewN | apply below_drew | apply below_alloc | refine below_step ?_ hb1 | refine below_step ?_ hb2 | refine below_step ?_ hb3 | refine below_step ?_ hb4 | refine below_step ?_ hb5)) HQ1.out⟩)
   (first
    | (go_at_call 74; refine (impl_lineCode.calls k a0_0 a0_1 A1 c1 l1 cl _ (Kd.C_below HR1.out (by repeat (first | exact Below.refl _ _ | apply pw_below_drewN | apply below_drew | apply below_alloc | refine below_step ?_ hb1 | refine below_step ?_ hb2 | refine below_step ?_ hb3 | refine below_step ?_ hb4 | refine below_step ?_ hb5))) hc1 HCL.out).mono ?_; rintro e w1 ⟨rfl, hb1⟩)
    | (go_at_call 75; refine (impl_Line_fitAlone.calls a0_0 a0_1 A1 c1 l1 ca _ (Kd.C_below HR1.out (by repeat (first | exact Below.refl _ _ | apply pw_below_drewN | apply below_drew | apply below_alloc | refine below_step ?_ hb1 | refine below_step ?_ hb2 | refine below_step ?_ hb3 | refine below_step ?_ hb4 | refine below_step ?_ hb5))) hc1 HCA.out).mono ?_; rintro e w2 ⟨rfl, hb2⟩)
    | (go_at_call 83; refine (impl_within.calls a2 0 20000 bw _ HBW.out).mono ?_; rintro e w3 ⟨rfl, hd3⟩; have hb3 := hd3.below; clear hd3)
    | (go_at_call 82; refine (impl_unless.calls bw 2 cu _ HCU.out).mono ?_; rintro e w4 ⟨rfl, hd4⟩; have hb4 := hd4.below; clear hd4)
    | (go_at_call 73; refine (impl_firstOf.calls k _ 3 [cl, cu, ca] cd _ (by repeat (first | exact C_new3 _ cl cu ca | (with_reducible refine Kd.C_drewN ?_ _) | (with_reducible refine Kd.C_drew ?_))) (Nat.le_refl _) HFO.out).mono ?_; rintro e w5 ⟨rfl, hd5⟩; have hb5 := hd5.below; clear hd5))
  all_goals
   go_wp2_with fail
   go_meet
   exact ⟨rfl, ⟨(by repeat (first | exact Below.refl _ _ | apply pw_below_drewN | apply below_drew | apply below_alloc | refine below_step ?_ hb1 | refine below_step ?_ hb2 | refine below_step ?_ hb3 | refine below_step ?_ hb4 | refine below_step ?_ hb5))⟩⟩
 case rest =>
  obtain ⟨rfl, HB1⟩ := hcut
  have HBC := Aside0.mk (show Below w.heap.size w wc from below_step (below_alloc (Below.refl _ _) _) HB1.out)
  have p0 : wc.cell? ⟨w.heap.size, 0, none⟩ = some (.int .i16 a0_0) := pw_cell_below HB1.out HQ0.out
  have p1 : wc.cell? ⟨w.heap.size, 1, none⟩ = some (.int .i16 a0_1) := pw_cell_below HB1.out HQ1.out
  have h := HH.out
  by_cases h0 : cd = 0
  ·subst h0
   rw [if_pos rfl] at h
   by_cases hq : l1.length ≤ 1000 ∧ 0 ≤ a2 ∧ a2 ≤ 20000
   case neg => rw [if_neg hq] at h; cases h
   rw [if_pos hq] at h
   have HM := Aside0.mk h
   have HN := Aside0.mk hq.1
   have HQ := Aside0.mk hq.2
   clear h hq
   go_wp2
   go_loopg [11, 12, 13] k (fun gg v11 _ _ w' => ∃ (m : Nat) (tk : Int), m ≤ 1000 ∧ v11 = .int .i64 (m : Int) ∧ Aside0 (hangM (fun m t => hangS (impl_Line_fitsBehind.f a0_0 a0_1 l1) a2 m l1.length [] 0 t) gg m tk = some (r1, r2, r3)) ∧ Aside0 (StH wc wc.heap.size a0_0 a0_1 l1 A1 c1 a2 w' tk false))
   case atStart => exact ⟨0, 0, by omega, rfl, HM, ⟨⟨below_alloc (Below.refl _ _) _, blk_new wc _, ⟨Int.le_refl _, HQ.out.1⟩⟩⟩⟩
   case round =>
    obtain ⟨m, tk, hm, rfl, HMr, HSr⟩ := hrel
    cases gk with
    | zero => exact absurd HMr.out (by simp [hangM])
    | succ r =>
     have hf := HMr.out
     rw [hangM] at hf
     obtain ⟨x1, hst, hrest⟩ := Option.bind_eq_some_iff.mp hf
     obtain ⟨xo, xok, xt, xov⟩ := x1
     have HST := Aside0.mk hst
     have HREST := Aside0.mk hrest
     clear hf hst hrest
     cases xok with
     | true =>
      have HX := Aside0.mk (Option.some.inj ((if_pos rfl).symm.trans HREST.out))
      go_wp2_with (go_at_call 84; refine (hang_calls wc wc.heap.size a0_0 a0_1 l1 A1 c1 a2 m HN.out hm (Nat.le_refl _) (by have := HQ.out.2; omega) (Kd.C_below HR1.out HBC.out) hc1 l1.length _ (.slice none 0 0) [] 0 tk (xo, true, xt, xov) (by simp) (Nat.le_refl _) (Kd.R_nil _ _ _ _ _) HSr.out HST.out).mono ?_; rintro e w6 ⟨v6, rfl, hk6, hs6, hr6⟩; obtain ⟨A6, c6, rfl, hc6, _⟩ := Kd.R_reads hr6; have z4 : w6.cell? ⟨wc.heap.size, 4, none⟩ = some (.int .i64 xt) := (blk_cell hs6.hb 4).trans rfl; have z5 : w6.cell? ⟨wc.heap.size, 5, none⟩ = some (.bool xov) := (blk_cell hs6.hb 5).trans rfl; have HK6 := Aside0.mk hk6; have HS6 := Aside0.mk hs6; have HR6 := Aside0.mk hr6; clear hk6 hs6 hr6)
      go_quiet (fail)
      go_wp2
      go_ret3
      have hx := HX.out
      simp only [Prod.mk.injEq] at hx
      obtain ⟨rfl, rfl, rfl⟩ := hx
      exact ⟨_, rfl, Kd.R_drewN (Kd.R_mono (Kd.R_lower HR6.out HBC.out.size) (fun _ _ => trivial)) _, pw_below_drewN (below_step HBC.out HS6.out.bel) _⟩
     | false =>
      cases xov with
      | true =>
       have HX := Aside0.mk (Option.some.inj ((if_pos rfl).symm.trans ((if_neg (by simp)).symm.trans HREST.out)))
       go_wp2_with (go_at_call 84; refine (hang_calls wc wc.heap.size a0_0 a0_1 l1 A1 c1 a2 m HN.out hm (Nat.le_refl _) (by have := HQ.out.2; omega) (Kd.C_below HR1.out HBC.out) hc1 l1.length _ (.slice none 0 0) [] 0 tk (xo, false, xt, true) (by simp) (Nat.le_refl _) (Kd.R_nil _ _ _ _ _) HSr.out HST.out).mono ?_; rintro e w6 ⟨v6, rfl, hk6, hs6, hr6⟩; obtain ⟨A6, c6, rfl, hc6, _⟩ := Kd.R_reads hr6; have z4 : w6.cell? ⟨wc.heap.size, 4, none⟩ = some (.int .i64 xt) := (blk_cell hs6.hb 4).trans rfl; have z5 : w6.cell? ⟨wc.heap.size, 5, none⟩ = some (.bool true) := (blk_cell hs6.hb 5).trans rfl; have HK6 := Aside0.mk hk6; have HS6 := Aside0.mk hs6; have HR6 := Aside0.mk hr6; clear hk6 hs6 hr6)
       go_ret3
       have hx := HX.out
       simp only [Prod.mk.injEq] at hx
       obtain ⟨rfl, rfl, rfl⟩ := hx
       exact ⟨_, rfl, Kd.R_nil _ _ _ _ _, below_step HBC.out HS6.out.bel⟩
      | false =>
       have hx := (if_neg (by simp)).symm.trans ((if_neg (by simp)).symm.trans HREST.out)
       by_cases hm1 : m + 1 ≤ 1000
       case neg => rw [if_neg hm1] at hx; cases hx
       rw [if_pos hm1] at hx
       have HX := Aside0.mk hx
       clear hx
       go_wp2_with (go_at_call 84; refine (hang_calls wc wc.heap.size a0_0 a0_1 l1 A1 c1 a2 m HN.out hm (Nat.le_refl _) (by have := HQ.out.2; omega) (Kd.C_below HR1.out HBC.out) hc1 l1.length _ (.slice none 0 0) [] 0 tk (xo, false, xt, false) (by simp) (Nat.le_refl _) (Kd.R_nil _ _ _ _ _) HSr.out HST.out).mono ?_; rintro e w6 ⟨v6, rfl, hk6, hs6, hr6⟩; obtain ⟨A6, c6, rfl, hc6, _⟩ := Kd.R_reads hr6; have z4 : w6.cell? ⟨wc.heap.size, 4, none⟩ = some (.int .i64 xt) := (blk_cell hs6.hb 4).trans rfl; have z5 : w6.cell? ⟨wc.heap.size, 5, none⟩ = some (.bool false) := (blk_cell hs6.hb 5).trans rfl; have HK6 := Aside0.mk hk6; have HS6 := Aside0.mk hs6; have HR6 := Aside0.mk hr6; clear hk6 hs6 hr6)
       go_roundg r
       case measure => omega
       case rel => exact ⟨m + 1, xt, hm1, by go_num, HX, HS6⟩
  ·rw [if_neg h0] at h
   simp only [Option.some.injEq, Prod.mk.injEq] at h
   obtain ⟨rfl, rfl, rfl⟩ := h
   have hc1' : (cd != 0) = true := by simp [h0]
   have hc2' : (cd == 0) = false := by simp [h0]
   clear h0
   go_wp2
   go_ret3
   exact ⟨_, rfl, Kd.R_nil _ _ _ _ _, HBC.out⟩
def fitT (K : Nat) (a0 a1 : Int) (l : List S38) (o : List Int) (k : Int) : Option Bool := (spec_l02On.f K l o k).bind fun p => if p.length ≤ 1048576 then spec_l02Fits.f K a0 a1 (p ++ [rd_T38 l (o.length : Int)]) else none
theorem putT3 {W : World} {gs : Nat} {a b c d e f : Value} (h1 : W.heap[gs]? = some (.cells #[a,b,c,d,e,f] 95 (0, 0))) (x : Value) : (W.setCell ⟨gs, 3, none⟩ x).heap[gs]? = some (.cells #[a,b,c,x,e,f] 95 (0, 0)) := blk_put h1 3 x rfl
theorem putT5 {W : World} {gs : Nat} {a b c d e f : Value} (h1 : W.heap[gs]? = some (.cells #[a,b,c,d,e,f] 95 (0, 0))) (x : Value) : (W.setCell ⟨gs, 5, none⟩ x).heap[gs]? = some (.cells #[a,b,c,d,e,x] 95 (0, 0)) := blk_put h1 5 x rfl
structure StT (W0 : World) (gs : Nat) (a0 a1 : Int) (l1 : List S38) (A1 : Option Addr) (c1 : Nat) (bud : Int) (W : World) (o : List Int) (t : Int) : Prop where
 bel : Below W0.heap.size W0 W
 hb : ∃ v : Value, W.heap[gs]? = some (.cells #[.int .i16 a0, .int .i16 a1, .slice A1 l1.length c1, v, .int .i64 bud, .int .i64 t] 95 (0, 0)) ∧ Kd.R (Kd.int .i64) 2 W W0.heap.size (fun k => k ≠ gs) v o
 ht : 0 ≤ t ∧ t ≤ bud
theorem StT.below {W0 W W' : World} {gs : Nat} {a0 a1 : Int} {l1 : List S38} {A1 : Option Addr} {c1 : Nat} {bud : Int} {o : List Int} {t : Int} (h : StT W0 gs a0 a1 l1 A1 c1 bud W o t) (b : Below W.heap.size W W') : StT W0 gs a0 a1 l1 A1 c1 bud W' o t := by
 obtain ⟨v, h1, h2⟩ := h.hb
 exact ⟨below_step h.bel b, ⟨v, blk_below h1 b, Kd.R_below h2 b⟩, h.ht⟩
theorem StT.next {W0 W : World} {gs : Nat} {a0 a1 : Int} {l1 : List S38} {A1 : Option Addr} {c1 : Nat} {bud : Int} {o : List Int} {t : Int} (h : StT W0 gs a0 a1 l1 A1 c1 bud W o t) (hg : W0.heap.size ≤ gs) (ht : t < bud) : StT W0 gs a0 a1 l1 A1 c1 bud (W.setCell ⟨gs, 5, none⟩ (.int .i64 (t + 1))) o (t + 1) := by
 obtain ⟨v, h1, h2⟩ := h.hb
 exact ⟨below_set h.bel hg, ⟨v, putT5 h1 _, Kd.R_kept h2 (keptH (Kept.refl W (fun k => k = gs)) 5 _) (fun k hk hS => hk hS)⟩, by have := h.ht; omega, by omega⟩
theorem StT.lines {W0 W : World} {gs : Nat} {a0 a1 : Int} {l1 : List S38} {A1 : Option Addr} {c1 : Nat} {bud : Int} {o o' : List Int} {t : Int} {v : Value} (h : StT W0 gs a0 a1 l1 A1 c1 bud W o t) (hg : W0.heap.size ≤ gs) (hv : Kd.R (Kd.int .i64) 2 W W0.heap.size (fun k => k ≠ gs) v o') : StT W0 gs a0 a1 l1 A1 c1 bud (W.setCell ⟨gs, 3, none⟩ v) o' t := by
 obtain ⟨v0, h1, h2⟩ := h.hb
 exact ⟨below_set h.bel hg, ⟨v, putT3 h1 _, Kd.R_kept hv (keptH (Kept.refl W (fun k => k = gs)) 3 _) (fun k hk hS => hk hS)⟩, h.ht⟩
def outT (x : List Int × Bool × Int × Bool) : Int := if x.2.1 = true then 1 else if x.2.2.2 = true then -1 else 0
set_option maxHeartbeats 2000000 in
set_option maxRecDepth 100000 in
theorem try_zero (K : Nat) (W0 : World) (gs : Nat) (a0 a1 : Int) (l1 : List S38) (A1 : Option Addr) (c1 : Nat) (bud : Int) (most : Nat) (hn : l1.length ≤ 1000) (W : World) (o : List Int) (u : Nat) (t : Int) (hd : o.length = l1.length) (hS : StT W0 gs a0 a1 l1 A1 c1 bud W o t) :
  Calls Try.prog 86 #[.pointer (some ⟨gs, 0, none⟩), .int .i64 (u : Int), .int .i64 (most : Int)] W fun e w' => e = .returned (.int .i64 1) ∧ StT W0 gs a0 a1 l1 A1 c1 bud w' o t := by
 obtain ⟨v, hblk, hR⟩ := hS.hb
 obtain ⟨A, c, rfl, hoc, hC⟩ := Kd.R_reads hR
 have q2 : W.cell? ⟨gs, 2, none⟩ = some (.slice A1 l1.length c1) := (blk_cell hblk 2).trans rfl
 have q3 : W.cell? ⟨gs, 3, none⟩ = some (.slice A o.length c) := (blk_cell hblk 3).trans rfl
 have hn0 : l1.length ≤ 9223372036854775807 := by omega
 have ho0 : o.length ≤ 9223372036854775807 := by omega
 have e1 : ((o.length : Int) == (l1.length : Int)) = true := by simp; omega
 have e2 : (o.length == l1.length) = true := by simp; omega
 have HS := Aside0.mk hS
 clear hS hR hC hblk hd hn
 go_enter Try.func86, Try.ntmps86
 go_wp2
 go_ret
 exact ⟨rfl, HS.out⟩
theorem C_newT (w : World) (x : S38) : Kd.C k38 (w.alloc (.cells #[.int .i16 x.f0, .int .i16 x.f1] 38)) (some ⟨w.heap.size, 0, none⟩) [x].length [x] := by
 refine Own.C_single [.int .i16 x.f0, .int .i16 x.f1] (k38_mk _ x) (fun i u hu => ?_)
 rcases i with _ | _ | i <;> simp at hu
 all_goals
  subst hu
  simp [go_sem]
set_option maxHeartbeats 2000000 in
set_option maxRecDepth 100000 in
theorem try_calls (K : Nat) (W0 : World) (gs : Nat) (a0 a1 : Int) (l1 : List S38) (A1 : Option Addr) (c1 : Nat) (bud : Int) (most : Nat) (hn : l1.length ≤ 1000) (hmost : most ≤ 1000) (hgs : W0.heap.size ≤ gs) (hbud : bud ≤ 1000000000000) (hr1 : Kd.C k38 W0 A1 l1.length l1) (hc1 : l1.length ≤ c1) :
  ∀ (d : Nat) (W : World) (o : List Int) (u : Nat) (t : Int) (x : List Int × Bool × Int × Bool), o.length + d = l1.length → u ≤ o.length → StT W0 gs a0 a1 l1 A1 c1 bud W o t → hangS (fitT K a0 a1 l1) bud most d o u t = some x →
   Calls Try.prog 86 #[.pointer (some ⟨gs, 0, none⟩), .int .i64 (u : Int), .int .i64 (most : Int)] W fun e w' => e = .returned (.int .i64 (outT x)) ∧ ∃ o', StT W0 gs a0 a1 l1 A1 c1 bud w' o' x.2.2.1 ∧ (x.2.1 = true → o' = x.1) ∧ (x.2.1 = false → x.2.2.2 = false → o' = o) := by
 intro d
 induction d with
 | zero =>
  intro W o u t x hd hu hS h
  rw [hangS] at h
  obtain rfl := Option.some.inj h
  exact (try_zero K W0 gs a0 a1 l1 A1 c1 bud most hn W o u t (by omega) hS).mono (fun e w' h => ⟨h.1, o, h.2, fun _ => rfl, fun _ _ => rfl⟩)
 | succ d ih =>
  intro W o u t x hd hu hS h
  rw [hangS] at h
  obtain ⟨v, hblk, hR⟩ := hS.hb
  obtain ⟨A, c, rfl, hoc, _⟩ := Kd.R_reads hR
  have q2' : W.cell? ⟨gs, 2, none⟩ = some (.slice A1 l1.length c1) := (blk_cell hblk 2).trans rfl
  have q3' : W.cell? ⟨gs, 3, none⟩ = some (.slice A o.length c) := (blk_cell hblk 3).trans rfl
  have hn0 : l1.length ≤ 9223372036854775807 := by omega
  have ho0 : o.length ≤ 9223372036854775807 := by omega
  have e1 : ((o.length : Int) == (l1.length : Int)) = false := by simp; omega
  have e2 : (o.length == l1.length) = false := by simp; omega
  have hu1 : (u : Int) ≤ 1000 := by omega
  have hm1 : (most : Int) ≤ 1000 := by omega
  have HOL := Aside0.mk (show o.length ≤ 1000 by omega)
  have HOLT := Aside0.mk (show o.length < l1.length by omega)
  have HUU := Aside0.mk hu
  have HD := Aside0.mk hd
  have HG := Aside0.mk hgs
  have HRW := Aside0.mk hr1
  have HS := Aside0.mk hS
  have IH := Aside0.mk ih
  have HF := Aside0.mk h
  clear hS hR h ih hgs hr1 hd hu hn hblk
  go_enter Try.func86, Try.ntmps86
  go_wp2
  go_loopg [8, 9] (min (u + 1) most) (fun gg v8 _ w' => ∃ (kk r : Nat) (tk : Int), kk + r = min (u + 1) most ∧ r ≤ gg ∧ v8 = .int .i64 (kk : Int) ∧ Aside0 (hangL (fun k t => (fitT K a0 a1 l1 o (k : Int)).bind fun b => if b = false then some ([], false, t, false) else if t = bud then some ([], false, t, true) else hangS (fitT K a0 a1 l1) bud most d (o ++ [(k : Int)]) (max u (k + 1)) (t + 1)) r kk tk = some x) ∧ Aside0 (StT W0 gs a0 a1 l1 A1 c1 bud w' o tk))
  case atStart => exact ⟨0, min (u + 1) most, t, by omega, by omega, rfl, HF, HS⟩
  case round =>
   obtain ⟨kk, r, tk, hkr, hrg, rfl, HFL, HSr⟩ := hrel
   rcases r with _ | r
   ·have hf := HFL.out
    rw [hangL] at hf
    obtain rfl := Option.some.inj hf
    have HST := Aside0.mk HSr.out
    by_cases hle : (kk : Int) ≤ (u : Int)
    ·have hlt : ¬ (kk : Int) < (most : Int) := by omega
     have d1 : decide ((kk : Int) < (most : Int)) = false := decide_eq_false hlt
     have d2 : decide ((kk : Int) ≤ (u : Int)) = true := decide_eq_true hle
     go_wp2
     go_ret
     first | exact ⟨rfl, o, HST.out, fun h => (by cases h), fun _ _ => rfl⟩ | exact ⟨rfl, HST.out⟩
    ·have d2 : decide ((kk : Int) ≤ (u : Int)) = false := decide_eq_false hle
     go_wp2
     go_ret
     first | exact ⟨rfl, o, HST.out, fun h => (by cases h), fun _ _ => rfl⟩ | exact ⟨rfl, HST.out⟩
   ·have hle : (kk : Int) ≤ (u : Int) := by omega
    have hlt : (kk : Int) < (most : Int) := by omega
    have d1 : decide ((kk : Int) < (most : Int)) = true := decide_eq_true hlt
    have d2 : decide ((kk : Int) ≤ (u : Int)) = true := decide_eq_true hle
    have hf := HFL.out
    rw [hangL] at hf
    obtain ⟨x1, hst, hrest⟩ := Option.bind_eq_some_iff.mp hf
    obtain ⟨b, hb, hs1⟩ := Option.bind_eq_some_iff.mp hst
    unfold fitT at hb
    obtain ⟨z, hz, hb⟩ := Option.bind_eq_some_iff.mp hb
    by_cases hzl : z.length ≤ 1048576
    case neg => rw [if_neg hzl] at hb; cases hb
    rw [if_pos hzl] at hb
    obtain ⟨v, hblk, hRr⟩ := HSr.out.hb
    obtain ⟨A, c, rfl, hoc, hCr⟩ := Kd.R_reads hRr
    have hr1r := Kd.C_below HRW.out HSr.out.bel
    obtain ⟨ad, e3, hx0, hx1⟩ := at_T38 hr1r (o.length : Int) (by omega) (by have := HOLT.out; omega)
    cases e3
    obtain ⟨y, hy⟩ : ∃ y, rd_T38 l1 (o.length : Int) = y := ⟨_, rfl⟩
    rw [hy] at hb hx0 hx1
    simp only [Int.toNat_natCast] at hx0 hx1
    obtain ⟨zy, hzy⟩ : ∃ zy, z ++ [y] = zy := ⟨_, rfl⟩
    rw [hzy] at hb
    have q0 : wr.cell? ⟨gs, 0, none⟩ = some (.int .i16 a0) := (blk_cell hblk 0).trans rfl
    have q1 : wr.cell? ⟨gs, 1, none⟩ = some (.int .i16 a1) := (blk_cell hblk 1).trans rfl
    have q2 : wr.cell? ⟨gs, 2, none⟩ = some (.slice (some ad) l1.length c1) := (blk_cell hblk 2).trans rfl
    have q3 : wr.cell? ⟨gs, 3, none⟩ = some (.slice A o.length c) := (blk_cell hblk 3).trans rfl
    have hol := HOLT.out
    have holi : (o.length : Int) < (l1.length : Int) := by omega
    have LG := Aside0.mk (show gs < wr.heap.size from blk_lt hblk)
    have LW := Aside0.mk (show W0.heap.size ≤ wr.heap.size from HSr.out.bel.size)
    have HZY := Aside0.mk hzy
    have HZL := Aside0.mk hzl
    have HLD := Aside0.mk hb
    have HW := Aside0.mk hz
    have HR2 := Aside0.mk hr1r
    have HCr := Aside0.mk hCr
    have HRr := Aside0.mk hRr
    have HBK := Aside0.mk hblk
    have HREST := Aside0.mk hrest
    have HWK := Aside0.mk (show IntKind.i64.wrap ((kk : Int) + 1) = (kk : Int) + 1 from IntWalk.i64_in _ (by omega))
    have HMX := Aside0.mk (show spec_l00Max.f (u : Int) ((kk : Int) + 1) = some ((max u (kk + 1) : Nat) : Int) from by unfold spec_l00Max.f; split <;> (congr 1; omega))
    clear hzy hzl hb hz hr1r hCr hrest hy hRr hblk hst hf hol
    cases b with
    | false =>
     rw [if_pos rfl] at hs1
     obtain rfl := Option.some.inj hs1
     have HRE := Aside0.mk ((if_neg (by simp)).symm.trans HREST.out)
     clear hs1
     go_wp2
     go_region_held3 (fun w' => w'.cell? ⟨gs, 0, none⟩ = some (.int .i16 a0) ∧ w'.cell? ⟨gs, 1, none⟩ = some (.int .i16 a1) ∧ w'.cell? ⟨gs, 2, none⟩ = some (.slice (some ad) l1.length c1) ∧ w'.cell? ⟨gs, 3, none⟩ = some (.slice A o.length c) ∧ w'.cell? (ad.add (o.length * 2)) = some (.int .i16 y.f0) ∧ w'.cell? ⟨(ad.add (o.length * 2)).block, (ad.add (o.length * 2)).off + 1, none⟩ = some (.int .i16 y.f1))
      (first | go_keep | exact ⟨pw_cell_below hb1 (by assumption), pw_cell_below hb1 (by assumption), pw_cell_below hb1 (by assumption), pw_cell_below hb1 (by assumption), pw_cell_below hb1 (by assumption), pw_cell_below hb1 (by assumption)⟩ | exact ⟨pw_cell_below hb1 (pw_cell_below (below_alloc (Below.refl _ _) _) (by assumption)), pw_cell_below hb1 (pw_cell_below (below_alloc (Below.refl _ _) _) (by assumption)), pw_cell_below hb1 (pw_cell_below (below_alloc (Below.refl _ _) _) (by assumption)), pw_cell_below hb1 (pw_cell_below (below_alloc (Below.refl _ _) _) (by assumption)), pw_cell_below hb1 (pw_cell_below (below_alloc (Below.refl _ _) _) (by assumption)), pw_cell_below hb1 (pw_cell_below (below_alloc (Below.refl _ _) _) (by assumption))⟩ | exact ⟨pw_cell_below (below_alloc (Below.refl _ _) _) (by assumption), pw_cell_below (below_alloc (Below.refl _ _) _) (by assumption), pw_cell_below (below_alloc (Below.refl _ _) _) (by assumption), pw_cell_below (below_alloc (Below.refl _ _) _) (by assumption), pw_cell_below (below_alloc (Below.refl _ _) _) (by assumption), pw_cell_below (below_alloc (Below.refl _ _) _) (by assumption)⟩ | exact ⟨pw_cell_below (below_alloc (Below.refl _ _) _) (pw_cell_below hb1 (by assumption)), pw_cell_below (below_alloc (Below.refl _ _) _) (pw_cell_below hb1 (by assumption)), pw_cell_below (below_alloc (Below.refl _ _) _) (pw_cell_below hb1 (by assumption)), pw_cell_below (below_alloc (Below.refl _ _) _) (pw_cell_below hb1 (by assumption)), pw_cell_below (below_alloc (Below.refl _ _) _) (pw_cell_below hb1 (by assumption)), pw_cell_below (below_alloc (Below.refl _ _) _) (pw_cell_below hb1 (by assumption))⟩ | exact ⟨pw_cell_below hb2 (by assumption), pw_cell_below hb2 (by assumption), pw_cell_below hb2 (by assumption), pw_cell_below hb2 (by assumption), pw_cell_below hb2 (by assumption), pw_cell_below hb2 (by assumption)⟩ | exact ⟨pw_cell_below hb3 (pw_cell_below hb2 (by assumption)), pw_cell_below hb3 (pw_cell_below hb2 (by assumption)), pw_cell_below hb3 (pw_cell_below hb2 (by assumption)), pw_cell_below hb3 (pw_cell_below hb2 (by assumption)), pw_cell_below hb3 (pw_cell_below hb2 (by assumption)), pw_cell_below hb3 (pw_cell_below hb2 (by assumption))⟩)
      (first
       | (go_at_call 80; refine (spec_l02On.calls K (some ad) c1 l1 A c o (kk : Int) z _ (Kd.C_below HR2.out (by repeat (first | exact Below.refl _ _ | apply pw_below_drewN | apply below_drew | apply below_alloc))) hc1 (Kd.C_below HCr.out (by repeat (first | exact Below.refl _ _ | apply pw_below_drewN | apply below_drew | apply below_alloc))) hoc HW.out).mono ?_; rintro e w1 ⟨v1, rfl, ho1, hb1⟩)
       | (have HB_ : Below wr.heap.size wr (w1.alloc (.cells #[.int .i16 y.f0, .int .i16 y.f1] 38)) := (by repeat (first | exact Below.refl _ _ | apply pw_below_drewN | apply below_drew | apply below_alloc | refine below_step ?_ hb1)); have HO_ : Kd.R k38 38 (w1.alloc (.cells #[.int .i16 y.f0, .int .i16 y.f1] 38)) wr.heap.size (fun _ => True) v1 z := (Kd.R_lower (Kd.R_below ho1 (below_alloc (Below.refl _ _) _)) (below_size (by repeat (first | exact Below.refl _ _ | apply below_alloc | apply pw_below_drewN | apply below_drew)))); have HR_ : Kd.C k38 (w1.alloc (.cells #[.int .i16 y.f0, .int .i16 y.f1] 38)) _ [y].length [y] := (by repeat (first | exact C_newT _ y | (with_reducible refine Kd.C_drewN ?_ _) | (with_reducible refine Kd.C_drew ?_))); refine Kd.R_append_rows_step k38 (w0 := wr) wr.heap.size ?hw (.tmp 45) (.tmp 53) 24 38 (.agg #[.int .i16 0, .int .i16 0]) 4 rfl Try.underlying24 info38 rfl (by decide) (by omega) v1 z [y] _ _ _ (fun _ => True) (fun _ => False) rfl rfl HO_ HR_ (fun _ _ h => h) (fun _ h => h.elim) (fun _ _ => trivial) HB_ HB_.size (by have := HZL.out; simp; omega) ?_; (case hw => first | rfl | kernel_rfl | decide); clear HO_ HR_ HB_; intro v2 w2 ho2 hb2 _ _; rw [HZY.out] at ho2; obtain ⟨B2, d2, rfl, hd2, hC2⟩ := Kd.R_reads ho2)
       | (have HB_ : Below wr.heap.size wr (w1) := (by repeat (first | exact Below.refl _ _ | apply pw_below_drewN | apply below_drew | apply below_alloc | refine below_step ?_ hb1)); have HO_ : Kd.R k38 38 (w1) wr.heap.size (fun _ => True) v1 z := (Kd.R_lower ho1 (below_size (by repeat (first | exact Below.refl _ _ | apply below_alloc | apply pw_below_drewN | apply below_drew)))); have HR_ : Kd.C k38 (w1) _ [y].length [y] := (Kd.C_below (by repeat (first | exact C_newT _ y | (with_reducible refine Kd.C_drewN ?_ _) | (with_reducible refine Kd.C_drew ?_))) hb1); refine Kd.R_append_rows_step k38 (w0 := wr) wr.heap.size ?hw (.tmp 45) (.tmp 53) 24 38 (.agg #[.int .i16 0, .int .i16 0]) 4 rfl Try.underlying24 info38 rfl (by decide) (by omega) v1 z [y] _ _ _ (fun _ => True) (fun _ => False) rfl rfl HO_ HR_ (fun _ _ h => h) (fun _ h => h.elim) (fun _ _ => trivial) HB_ HB_.size (by have := HZL.out; simp; omega) ?_; (case hw => first | rfl | kernel_rfl | decide); clear HO_ HR_ HB_; intro v2 w2 ho2 hb2 _ _; rw [HZY.out] at ho2; obtain ⟨B2, d2, rfl, hd2, hC2⟩ := Kd.R_reads ho2)
       | (go_at_call 79; refine (spec_l02Fits.calls K a0 a1 B2 d2 zy false _ hC2 hd2 HLD.out).mono ?_; rintro e w3 ⟨rfl, hb3⟩))
     all_goals
      have HB3 := Aside0.mk (below_step hb2 hb3)
      clear hb1 hb2 hb3 hC2 ho1
      go_wp2
      go_roundg r
      case measure => omega
      case rel => exact ⟨kk + 1, r, tk, by omega, by omega, by go_num, HRE, ⟨HSr.out.below HB3.out⟩⟩
    | true =>
     rw [if_neg (by decide)] at hs1
     go_wp2
     go_region_held3 (fun w' => w'.cell? ⟨gs, 0, none⟩ = some (.int .i16 a0) ∧ w'.cell? ⟨gs, 1, none⟩ = some (.int .i16 a1) ∧ w'.cell? ⟨gs, 2, none⟩ = some (.slice (some ad) l1.length c1) ∧ w'.cell? ⟨gs, 3, none⟩ = some (.slice A o.length c) ∧ w'.cell? (ad.add (o.length * 2)) = some (.int .i16 y.f0) ∧ w'.cell? ⟨(ad.add (o.length * 2)).block, (ad.add (o.length * 2)).off + 1, none⟩ = some (.int .i16 y.f1))
      (first | go_keep | exact ⟨pw_cell_below hb1 (by assumption), pw_cell_below hb1 (by assumption), pw_cell_below hb1 (by assumption), pw_cell_below hb1 (by assumption), pw_cell_below hb1 (by assumption), pw_cell_below hb1 (by assumption)⟩ | exact ⟨pw_cell_below hb1 (pw_cell_below (below_alloc (Below.refl _ _) _) (by assumption)), pw_cell_below hb1 (pw_cell_below (below_alloc (Below.refl _ _) _) (by assumption)), pw_cell_below hb1 (pw_cell_below (below_alloc (Below.refl _ _) _) (by assumption)), pw_cell_below hb1 (pw_cell_below (below_alloc (Below.refl _ _) _) (by assumption)), pw_cell_below hb1 (pw_cell_below (below_alloc (Below.refl _ _) _) (by assumption)), pw_cell_below hb1 (pw_cell_below (below_alloc (Below.refl _ _) _) (by assumption))⟩ | exact ⟨pw_cell_below (below_alloc (Below.refl _ _) _) (by assumption), pw_cell_below (below_alloc (Below.refl _ _) _) (by assumption), pw_cell_below (below_alloc (Below.refl _ _) _) (by assumption), pw_cell_below (below_alloc (Below.refl _ _) _) (by assumption), pw_cell_below (below_alloc (Below.refl _ _) _) (by assumption), pw_cell_below (below_alloc (Below.refl _ _) _) (by assumption)⟩ | exact ⟨pw_cell_below (below_alloc (Below.refl _ _) _) (pw_cell_below hb1 (by assumption)), pw_cell_below (below_alloc (Below.refl _ _) _) (pw_cell_below hb1 (by assumption)), pw_cell_below (below_alloc (Below.refl _ _) _) (pw_cell_below hb1 (by assumption)), pw_cell_below (below_alloc (Below.refl _ _) _) (pw_cell_below hb1 (by assumption)), pw_cell_below (below_alloc (Below.refl _ _) _) (pw_cell_below hb1 (by assumption)), pw_cell_below (below_alloc (Below.refl _ _) _) (pw_cell_below hb1 (by assumption))⟩ | exact ⟨pw_cell_below hb2 (by assumption), pw_cell_below hb2 (by assumption), pw_cell_below hb2 (by assumption), pw_cell_below hb2 (by assumption), pw_cell_below hb2 (by assumption), pw_cell_below hb2 (by assumption)⟩ | exact ⟨pw_cell_below hb3 (pw_cell_below hb2 (by assumption)), pw_cell_below hb3 (pw_cell_below hb2 (by assumption)), pw_cell_below hb3 (pw_cell_below hb2 (by assumption)), pw_cell_below hb3 (pw_cell_below hb2 (by assumption)), pw_cell_below hb3 (pw_cell_below hb2 (by assumption)), pw_cell_below hb3 (pw_cell_below hb2 (by assumption))⟩)
      (first
       | (go_at_call 80; refine (spec_l02On.calls K (some ad) c1 l1 A c o (kk : Int) z _ (Kd.C_below HR2.out (by repeat (first | exact Below.refl _ _ | apply pw_below_drewN | apply below_drew | apply below_alloc))) hc1 (Kd.C_below HCr.out (by repeat (first | exact Below.refl _ _ | apply pw_below_drewN | apply below_drew | apply below_alloc))) hoc HW.out).mono ?_; rintro e w1 ⟨v1, rfl, ho1, hb1⟩)
       | (have HB_ : Below wr.heap.size wr (w1.alloc (.cells #[.int .i16 y.f0, .int .i16 y.f1] 38)) := (by repeat (first | exact Below.refl _ _ | apply pw_below_drewN | apply below_drew | apply below_alloc | refine below_step ?_ hb1)); have HO_ : Kd.R k38 38 (w1.alloc (.cells #[.int .i16 y.f0, .int .i16 y.f1] 38)) wr.heap.size (fun _ => True) v1 z := (Kd.R_lower (Kd.R_below ho1 (below_alloc (Below.refl _ _) _)) (below_size (by repeat (first | exact Below.refl _ _ | apply below_alloc | apply pw_below_drewN | apply below_drew)))); have HR_ : Kd.C k38 (w1.alloc (.cells #[.int .i16 y.f0, .int .i16 y.f1] 38)) _ [y].length [y] := (by repeat (first | exact C_newT _ y | (with_reducible refine Kd.C_drewN ?_ _) | (with_reducible refine Kd.C_drew ?_))); refine Kd.R_append_rows_step k38 (w0 := wr) wr.heap.size ?hw (.tmp 45) (.tmp 53) 24 38 (.agg #[.int .i16 0, .int .i16 0]) 4 rfl Try.underlying24 info38 rfl (by decide) (by omega) v1 z [y] _ _ _ (fun _ => True) (fun _ => False) rfl rfl HO_ HR_ (fun _ _ h => h) (fun _ h => h.elim) (fun _ _ => trivial) HB_ HB_.size (by have := HZL.out; simp; omega) ?_; (case hw => first | rfl | kernel_rfl | decide); clear HO_ HR_ HB_; intro v2 w2 ho2 hb2 _ _; rw [HZY.out] at ho2; obtain ⟨B2, d2, rfl, hd2, hC2⟩ := Kd.R_reads ho2)
       | (have HB_ : Below wr.heap.size wr (w1) := (by repeat (first | exact Below.refl _ _ | apply pw_below_drewN | apply below_drew | apply below_alloc | refine below_step ?_ hb1)); have HO_ : Kd.R k38 38 (w1) wr.heap.size (fun _ => True) v1 z := (Kd.R_lower ho1 (below_size (by repeat (first | exact Below.refl _ _ | apply below_alloc | apply pw_below_drewN | apply below_drew)))); have HR_ : Kd.C k38 (w1) _ [y].length [y] := (Kd.C_below (by repeat (first | exact C_newT _ y | (with_reducible refine Kd.C_drewN ?_ _) | (with_reducible refine Kd.C_drew ?_))) hb1); refine Kd.R_append_rows_step k38 (w0 := wr) wr.heap.size ?hw (.tmp 45) (.tmp 53) 24 38 (.agg #[.int .i16 0, .int .i16 0]) 4 rfl Try.underlying24 info38 rfl (by decide) (by omega) v1 z [y] _ _ _ (fun _ => True) (fun _ => False) rfl rfl HO_ HR_ (fun _ _ h => h) (fun _ h => h.elim) (fun _ _ => trivial) HB_ HB_.size (by have := HZL.out; simp; omega) ?_; (case hw => first | rfl | kernel_rfl | decide); clear HO_ HR_ HB_; intro v2 w2 ho2 hb2 _ _; rw [HZY.out] at ho2; obtain ⟨B2, d2, rfl, hd2, hC2⟩ := Kd.R_reads ho2)
       | (go_at_call 79; refine (spec_l02Fits.calls K a0 a1 B2 d2 zy true _ hC2 hd2 HLD.out).mono ?_; rintro e w3 ⟨rfl, hb3⟩))
     all_goals
      have HB3 := Aside0.mk (below_step hb2 hb3)
      clear hb1 hb2 hb3 hC2 ho1
      have hb3_ := blk_below HBK.out HB3.out
      have p3 : w3.cell? ⟨gs, 3, none⟩ = some (.slice A o.length c) := (blk_cell hb3_ 3).trans rfl
      have p4 : w3.cell? ⟨gs, 4, none⟩ = some (.int .i64 bud) := (blk_cell hb3_ 4).trans rfl
      have p5 : w3.cell? ⟨gs, 5, none⟩ = some (.int .i64 tk) := (blk_cell hb3_ 5).trans rfl
      have f5 := blk_frozen hb3_ 5
      have htk := HSr.out.ht
      clear hb3_
      by_cases htb : tk = bud
      ·rw [if_pos htb] at hs1
       obtain rfl := Option.some.inj hs1
       have HXX := Aside0.mk (Option.some.inj ((if_pos (Or.inr rfl)).symm.trans HREST.out))
       have g1 : (tk == bud) = true := by simp [htb]
       clear hs1
       go_wp2
       go_quiet (fail)
       go_wp2
       go_ret
       obtain rfl := HXX.out
       exact ⟨rfl, o, (HSr.out.below HB3.out).below (pw_below_drewN (Below.refl _ _) _), fun h => (by cases h), fun _ h => (by cases h)⟩
      ·rw [if_neg htb] at hs1
       have HX1 := Aside0.mk hs1
       have g1 : (tk == bud) = false := by simp [htb]
       have htk1 : tk < bud := by omega
       clear hs1
       obtain ⟨htk0, _⟩ := htk
       obtain ⟨xo, xok, xt, xov⟩ := x1
       have HOLE := Aside0.mk (show kk ≤ u by omega)
       go_wp2
       go_quiet (fail)
       rename_i nq
       have HS2 := Aside0.mk (((HSr.out.below HB3.out).below (pw_below_drewN (Below.refl _ _) nq)).next HG.out htk1)
       have HBX := Aside0.mk (putT5 (blk_below (blk_below HBK.out HB3.out) (pw_below_drewN (Below.refl _ _) nq)) (.int .i64 (tk + 1)))
       have HRX := Aside0.mk (Kd.R_kept (Kd.R_below (Kd.R_below HRr.out HB3.out) (pw_below_drewN (Below.refl _ _) nq)) (keptH (Kept.refl (w3.drewN nq) (fun k => k = gs)) 5 (.int .i64 (tk + 1))) (fun k hk hS => hk hS))
       have y3 : ((w3.drewN nq).setCell ⟨gs, 5, none⟩ (.int .i64 (tk + 1))).cell? ⟨gs, 3, none⟩ = some (.slice A o.length c) := (blk_cell HBX.out 3).trans rfl
       cases xok with
       | true =>
        have HXX := Aside0.mk (Option.some.inj ((if_pos (Or.inl rfl)).symm.trans HREST.out))
        have ho_ : outT (xo, true, xt, xov) = 1 := rfl
        go_wp2_with (first | ((with_reducible refine gate_dst (N := 79) rfl ?_); refine Kd.R_lit (Kd.int .i64) _ 2 ?hg (N := 79) ?hd (xs := ([(kk : Int)] : List Int)) (inner := [.int .i64 (kk : Int)]) (ok := fun _ => True) (okp := fun _ => True) ?hr ?hp (fun _ hk => hk) trivial (Below.refl _ _) (Nat.le_refl _) (by simp) ?_; (case hd => rfl); (case hg => rfl); (case hr => first | (go_simp; done) | (go_simp; rfl)); (case hp => exact (Reps.one (show Kd.M (Kd.int .i64) _ _ _ (kk : Int) [.int .i64 (kk : Int)] from rfl) (Reps.none _ _))); intro v4 w4 ho4 hb4 hg_ hnew_; clear hg_ hnew_; obtain ⟨B4, d4, rfl, hd4, hC4⟩ := Kd.R_reads ho4; have HC4 := Aside0.mk hC4; have HO4 := Aside0.mk (Kd.R_below HRX.out hb4); have HB4 := Aside0.mk (below_step HS2.out.bel hb4); have HBK4 := Aside0.mk (blk_below HBX.out hb4); clear ho4 hb4 hC4 hd4) | ((with_reducible refine gate_builtin (b := .append) (xs := #[.tmp 77, .tmp 79]) rfl ?_); at_builtin; (refine Kd.R_append_rows (Kd.int .i64) (w0 := W0) W0.heap.size rfl (.tmp 77) (.tmp 79) 30 2 (.int .i64 0) 8 rfl Try.underlying30 info2 rfl (by decide) (by omega) (.slice A o.length c) o [(kk : Int)] _ _ _ (fun k => k ≠ gs) (fun _ => False) rfl rfl HO4.out HC4.out (fun _ _ h => h) (fun _ h => h.elim) (fun k_ hk => by have := blk_lt HBK4.out; omega) HB4.out HB4.out.size (by have := HOL.out; simp; omega) ?_; intro v5 w5 ho5 hb5 hg5 _; have b5 : w5.heap[gs]? = _ := (hg5.block gs (blk_lt HBK4.out) (fun he => HO4.out.1 _ he.symm rfl)).trans HBK4.out; obtain ⟨oo, hoo⟩ : ∃ oo, o ++ [(kk : Int)] = oo := ⟨_, rfl⟩; have hool : oo.length = o.length + 1 := (by rw [← hoo]; simp); rw [hoo] at ho5; obtain ⟨A5, c5, rfl, hc5, hC5⟩ := Kd.R_reads ho5; have z3 : w5.cell? ⟨gs, 3, none⟩ = some (.slice A o.length c) := (blk_cell b5 3).trans rfl; have z3f := blk_frozen b5 3; have HS6 := Aside0.mk (show StT W0 gs a0 a1 l1 (some ad) c1 bud (w5.setCell ⟨gs, 3, none⟩ (.slice A5 oo.length c5)) oo (tk + 1) from ⟨below_set hb5 HG.out, ⟨_, putT3 b5 _, Kd.R_kept ho5 (keptH (Kept.refl w5 (fun k => k = gs)) 3 _) (fun k hk hS => hk hS)⟩, HS2.out.ht⟩); have HOO := Aside0.mk hoo; have HOOL := Aside0.mk hool; clear ho5 hb5 hg5 b5 hC5 hoo hool)) | (go_at_call 81; (first | rw [HWK.out] | skip); refine (spec_l00Max.calls (u : Int) ((kk : Int) + 1) ((max u (kk + 1) : Nat) : Int) _ HMX.out).mono ?_; rintro e w9 ⟨rfl, ⟨nd, rfl⟩⟩) | (go_at_call 86; (refine (IH.out _ oo (max u (kk + 1)) (tk + 1) (xo, true, xt, xov) (by have := HD.out; have := HOOL.out; omega) (by have := HUU.out; have := HOOL.out; have := HOLE.out; omega) (HS6.out.below (pw_below_drewN (Below.refl _ _) nd)) (HOO.out ▸ HX1.out)).mono ?_; rintro e w10 ⟨rfl, o10, hs10, hf10, hn10⟩; have HS10 := Aside0.mk hs10; have HF10 := Aside0.mk hf10; have HN10 := Aside0.mk hn10; clear hs10 hf10 hn10)))
        go_ret
        obtain rfl := HXX.out
        exact ⟨rfl, o10, HS10.out, fun _ => (by first | exact HF10.out rfl | exact HF10.out trivial | exact HF10.out), fun h => (by cases h)⟩
       | false =>
        cases xov with
        | true =>
         have HXX := Aside0.mk (Option.some.inj ((if_pos (Or.inr rfl)).symm.trans HREST.out))
         have ho_ : outT (xo, false, xt, true) = -1 := rfl
         go_wp2_with (first | ((with_reducible refine gate_dst (N := 79) rfl ?_); refine Kd.R_lit (Kd.int .i64) _ 2 ?hg (N := 79) ?hd (xs := ([(kk : Int)] : List Int)) (inner := [.int .i64 (kk : Int)]) (ok := fun _ => True) (okp := fun _ => True) ?hr ?hp (fun _ hk => hk) trivial (Below.refl _ _) (Nat.le_refl _) (by simp) ?_; (case hd => rfl); (case hg => rfl); (case hr => first | (go_simp; done) | (go_simp; rfl)); (case hp => exact (Reps.one (show Kd.M (Kd.int .i64) _ _ _ (kk : Int) [.int .i64 (kk : Int)] from rfl) (Reps.none _ _))); intro v4 w4 ho4 hb4 hg_ hnew_; clear hg_ hnew_; obtain ⟨B4, d4, rfl, hd4, hC4⟩ := Kd.R_reads ho4; have HC4 := Aside0.mk hC4; have HO4 := Aside0.mk (Kd.R_below HRX.out hb4); have HB4 := Aside0.mk (below_step HS2.out.bel hb4); have HBK4 := Aside0.mk (blk_below HBX.out hb4); clear ho4 hb4 hC4 hd4) | ((with_reducible refine gate_builtin (b := .append) (xs := #[.tmp 77, .tmp 79]) rfl ?_); at_builtin; (refine Kd.R_append_rows (Kd.int .i64) (w0 := W0) W0.heap.size rfl (.tmp 77) (.tmp 79) 30 2 (.int .i64 0) 8 rfl Try.underlying30 info2 rfl (by decide) (by omega) (.slice A o.length c) o [(kk : Int)] _ _ _ (fun k => k ≠ gs) (fun _ => False) rfl rfl HO4.out HC4.out (fun _ _ h => h) (fun _ h => h.elim) (fun k_ hk => by have := blk_lt HBK4.out; omega) HB4.out HB4.out.size (by have := HOL.out; simp; omega) ?_; intro v5 w5 ho5 hb5 hg5 _; have b5 : w5.heap[gs]? = _ := (hg5.block gs (blk_lt HBK4.out) (fun he => HO4.out.1 _ he.symm rfl)).trans HBK4.out; obtain ⟨oo, hoo⟩ : ∃ oo, o ++ [(kk : Int)] = oo := ⟨_, rfl⟩; have hool : oo.length = o.length + 1 := (by rw [← hoo]; simp); rw [hoo] at ho5; obtain ⟨A5, c5, rfl, hc5, hC5⟩ := Kd.R_reads ho5; have z3 : w5.cell? ⟨gs, 3, none⟩ = some (.slice A o.length c) := (blk_cell b5 3).trans rfl; have z3f := blk_frozen b5 3; have HS6 := Aside0.mk (show StT W0 gs a0 a1 l1 (some ad) c1 bud (w5.setCell ⟨gs, 3, none⟩ (.slice A5 oo.length c5)) oo (tk + 1) from ⟨below_set hb5 HG.out, ⟨_, putT3 b5 _, Kd.R_kept ho5 (keptH (Kept.refl w5 (fun k => k = gs)) 3 _) (fun k hk hS => hk hS)⟩, HS2.out.ht⟩); have HOO := Aside0.mk hoo; have HOOL := Aside0.mk hool; clear ho5 hb5 hg5 b5 hC5 hoo hool)) | (go_at_call 81; (first | rw [HWK.out] | skip); refine (spec_l00Max.calls (u : Int) ((kk : Int) + 1) ((max u (kk + 1) : Nat) : Int) _ HMX.out).mono ?_; rintro e w9 ⟨rfl, ⟨nd, rfl⟩⟩) | (go_at_call 86; (refine (IH.out _ oo (max u (kk + 1)) (tk + 1) (xo, false, xt, true) (by have := HD.out; have := HOOL.out; omega) (by have := HUU.out; have := HOOL.out; have := HOLE.out; omega) (HS6.out.below (pw_below_drewN (Below.refl _ _) nd)) (HOO.out ▸ HX1.out)).mono ?_; rintro e w10 ⟨rfl, o10, hs10, hf10, hn10⟩; have HS10 := Aside0.mk hs10; have HF10 := Aside0.mk hf10; have HN10 := Aside0.mk hn10; clear hs10 hf10 hn10)))
         go_ret
         obtain rfl := HXX.out
         exact ⟨rfl, o10, HS10.out, fun h => (by cases h), fun _ h => (by cases h)⟩
        | false =>
         have HRE := Aside0.mk ((if_neg (by simp)).symm.trans HREST.out)
         have ho_ : outT (xo, false, xt, false) = 0 := rfl
         go_wp2_with (first | ((with_reducible refine gate_dst (N := 79) rfl ?_); refine Kd.R_lit (Kd.int .i64) _ 2 ?hg (N := 79) ?hd (xs := ([(kk : Int)] : List Int)) (inner := [.int .i64 (kk : Int)]) (ok := fun _ => True) (okp := fun _ => True) ?hr ?hp (fun _ hk => hk) trivial (Below.refl _ _) (Nat.le_refl _) (by simp) ?_; (case hd => rfl); (case hg => rfl); (case hr => first | (go_simp; done) | (go_simp; rfl)); (case hp => exact (Reps.one (show Kd.M (Kd.int .i64) _ _ _ (kk : Int) [.int .i64 (kk : Int)] from rfl) (Reps.none _ _))); intro v4 w4 ho4 hb4 hg_ hnew_; clear hg_ hnew_; obtain ⟨B4, d4, rfl, hd4, hC4⟩ := Kd.R_reads ho4; have HC4 := Aside0.mk hC4; have HO4 := Aside0.mk (Kd.R_below HRX.out hb4); have HB4 := Aside0.mk (below_step HS2.out.bel hb4); have HBK4 := Aside0.mk (blk_below HBX.out hb4); clear ho4 hb4 hC4 hd4) | ((with_reducible refine gate_builtin (b := .append) (xs := #[.tmp 77, .tmp 79]) rfl ?_); at_builtin; (refine Kd.R_append_rows (Kd.int .i64) (w0 := W0) W0.heap.size rfl (.tmp 77) (.tmp 79) 30 2 (.int .i64 0) 8 rfl Try.underlying30 info2 rfl (by decide) (by omega) (.slice A o.length c) o [(kk : Int)] _ _ _ (fun k => k ≠ gs) (fun _ => False) rfl rfl HO4.out HC4.out (fun _ _ h => h) (fun _ h => h.elim) (fun k_ hk => by have := blk_lt HBK4.out; omega) HB4.out HB4.out.size (by have := HOL.out; simp; omega) ?_; intro v5 w5 ho5 hb5 hg5 _; have b5 : w5.heap[gs]? = _ := (hg5.block gs (blk_lt HBK4.out) (fun he => HO4.out.1 _ he.symm rfl)).trans HBK4.out; obtain ⟨oo, hoo⟩ : ∃ oo, o ++ [(kk : Int)] = oo := ⟨_, rfl⟩; have hool : oo.length = o.length + 1 := (by rw [← hoo]; simp); rw [hoo] at ho5; obtain ⟨A5, c5, rfl, hc5, hC5⟩ := Kd.R_reads ho5; have z3 : w5.cell? ⟨gs, 3, none⟩ = some (.slice A o.length c) := (blk_cell b5 3).trans rfl; have z3f := blk_frozen b5 3; have HS6 := Aside0.mk (show StT W0 gs a0 a1 l1 (some ad) c1 bud (w5.setCell ⟨gs, 3, none⟩ (.slice A5 oo.length c5)) oo (tk + 1) from ⟨below_set hb5 HG.out, ⟨_, putT3 b5 _, Kd.R_kept ho5 (keptH (Kept.refl w5 (fun k => k = gs)) 3 _) (fun k hk hS => hk hS)⟩, HS2.out.ht⟩); have HOO := Aside0.mk hoo; have HOOL := Aside0.mk hool; clear ho5 hb5 hg5 b5 hC5 hoo hool)) | (go_at_call 81; (first | rw [HWK.out] | skip); refine (spec_l00Max.calls (u : Int) ((kk : Int) + 1) ((max u (kk + 1) : Nat) : Int) _ HMX.out).mono ?_; rintro e w9 ⟨rfl, ⟨nd, rfl⟩⟩) | (go_at_call 86; (refine (IH.out _ oo (max u (kk + 1)) (tk + 1) (xo, false, xt, false) (by have := HD.out; have := HOOL.out; omega) (by have := HUU.out; have := HOOL.out; have := HOLE.out; omega) (HS6.out.below (pw_below_drewN (Below.refl _ _) nd)) (HOO.out ▸ HX1.out)).mono ?_; rintro e w10 ⟨rfl, o10, hs10, hf10, hn10⟩; obtain rfl : oo = o10 := (show o10 = oo from (by first | exact hn10 rfl rfl | exact hn10 trivial trivial | exact hn10)).symm; obtain ⟨v10, hblk10, hR10⟩ := hs10.hb; obtain ⟨A10, c10, rfl, hc10, _⟩ := Kd.R_reads hR10; have hln := HOOL.out; have hc10b : (o.length : Int) ≤ (c10 : Int) := (by omega); have x3 : w10.cell? ⟨gs, 3, none⟩ = some (.slice A10 oo.length c10) := (blk_cell hblk10 3).trans rfl; have x3f := blk_frozen hblk10 3; have HS10 := Aside0.mk hs10; have HR10 := Aside0.mk (Kd.R_take (m := o.length) hR10 (by omega)); clear hs10 hf10 hblk10 hR10)))
         go_roundg r
         case measure => omega
         case rel => exact ⟨kk + 1, r, xt, by omega, by omega, by go_num, HRE, ⟨by have h := HS10.out.lines HG.out HR10.out; rw [← HOO.out] at h; simpa using h⟩⟩
def spec_FewestLines.f (k : Nat) (a0_0 : Int) (a0_1 : Int) (l1 : List S38) (a2 : Int) : Option (List Int × Int × Int) :=
 (spec_l02Hung.f k a0_0 a0_1 l1).bind fun c0 => if c0 = 0 then ((spec_l00In.f a2 0 20000).bind fun b1 => if b1 = true then ((spec_l02Alone.f k a0_0 a0_1 l1).bind fun b2 => if b2 = true then (if l1.length ≤ 1000 ∧ 0 ≤ a2 ∧ a2 ≤ 20000 then hangM (fun m t => hangS (fitT k a0_0 a0_1 l1) a2 m l1.length [] 0 t) k 0 0 else none) else some ([], 0, 6)) else some ([], 0, 2)) else some ([], 0, c0)
set_option maxHeartbeats 4000000 in
set_option maxRecDepth 100000 in
theorem spec_FewestLines.calls (k : Nat) (a0_0 : Int) (a0_1 : Int) (A1 : Option Addr) (c1 : Nat) (l1 : List S38) (a2 : Int) (r1 : List Int) (r2 : Int) (r3 : Int) (w : World) (hr1 : Kd.C k38 w A1 l1.length l1) (hc1 : l1.length ≤ c1) (h : spec_FewestLines.f k a0_0 a0_1 l1 a2 = some (r1, r2, r3)) :
  Calls Try.prog 26 #[.agg #[.int .i16 a0_0, .int .i16 a0_1], .slice A1 l1.length c1, .int .i64 a2] w fun e w' => ∃ v0_ : Value, e = .returned (.tuple #[v0_, .int .i64 r2, .int .i64 r3]) ∧ Kd.R (Kd.int .i64) 2 w' w.heap.size (fun _ => True) v0_ r1 ∧ Below w.heap.size w w' := by
 obtain ⟨c0, hc0, h⟩ := Option.bind_eq_some_iff.mp h
 have HC0 := Aside0.mk hc0
 have HR1 := Aside0.mk hr1
 have hn : l1.length ≤ 9223372036854775807 := hr1.2.1
 have hblk : (w.alloc (.cells #[.int .i16 a0_0, .int .i16 a0_1] 28)).heap[w.heap.size]? = some (.cells #[.int .i16 a0_0, .int .i16 a0_1] 28 (0, 0)) := blk_new w _
 have q0 : (w.alloc (.cells #[.int .i16 a0_0, .int .i16 a0_1] 28)).cell? ⟨w.heap.size, 0, none⟩ = some (.int .i16 a0_0) := (blk_cell hblk 0).trans rfl
 have q1 : (w.alloc (.cells #[.int .i16 a0_0, .int .i16 a0_1] 28)).cell? ⟨w.heap.size, 1, none⟩ = some (.int .i16 a0_1) := (blk_cell hblk 1).trans rfl
 have HQ0 := Aside0.mk q0
 have HQ1 := Aside0.mk q1
 clear hc0 hr1 hblk q0 q1
 by_cases h0 : c0 = 0
 ·subst h0
  rw [if_pos rfl] at h
  obtain ⟨b1, hb1, h⟩ := Option.bind_eq_some_iff.mp h
  have HIN := Aside0.mk hb1
  clear hb1
  cases b1 with
  | true =>
   rw [if_pos rfl] at h
   obtain ⟨b2, hb2, h⟩ := Option.bind_eq_some_iff.mp h
   have HAL := Aside0.mk hb2
   clear hb2
   cases b2 with
   | true =>
    rw [if_pos rfl] at h
    by_cases hq : l1.length ≤ 1000 ∧ 0 ≤ a2 ∧ a2 ≤ 20000
    case neg => rw [if_neg hq] at h; cases h
    rw [if_pos hq] at h
    have HM := Aside0.mk h
    have HN := Aside0.mk hq.1
    have HQ := Aside0.mk hq.2
    clear h hq
    go_enter Try.func26, Try.ntmps26
    go_wp2_with (first | (go_at_call 77; refine (spec_l02Hung.calls k a0_0 a0_1 A1 c1 l1 0 _ (Kd.C_below HR1.out (by repeat (first | exact Below.refl _ _ | apply pw_below_drewN | apply below_drew | apply below_alloc | refine below_step ?_ hb1 | refine below_step ?_ hb2 | refine below_step ?_ hb3))) hc1 HC0.out).mono ?_; rintro e w1 ⟨rfl, hb1⟩; have HB1 := Aside0.mk (show Below (w.alloc (.cells #[.int .i16 a0_0, .int .i16 a0_1] 28)).heap.size (w.alloc (.cells #[.int .i16 a0_0, .int .i16 a0_1] 28)) w1 from below_step (Below.refl _ _) hb1); have p10 : w1.cell? ⟨w.heap.size, 0, none⟩ = some (.int .i16 a0_0) := pw_cell_below HB1.out HQ0.out; have p11 : w1.cell? ⟨w.heap.size, 1, none⟩ = some (.int .i16 a0_1) := pw_cell_below HB1.out HQ1.out; clear hb1) | (go_at_call 85; refine (spec_l00In.calls a2 0 20000 true _ HIN.out).mono ?_; rintro e w2 ⟨rfl, hd2⟩; have HB2 := Aside0.mk (show Below (w.alloc (.cells #[.int .i16 a0_0, .int .i16 a0_1] 28)).heap.size (w.alloc (.cells #[.int .i16 a0_0, .int .i16 a0_1] 28)) w2 from below_step HB1.out hd2.below); have p20 : w2.cell? ⟨w.heap.size, 0, none⟩ = some (.int .i16 a0_0) := pw_cell_below HB2.out HQ0.out; have p21 : w2.cell? ⟨w.heap.size, 1, none⟩ = some (.int .i16 a0_1) := pw_cell_below HB2.out HQ1.out; clear hd2) | (go_at_call 78; refine (spec_l02Alone.calls k a0_0 a0_1 A1 c1 l1 true _ (Kd.C_below HR1.out (below_step (below_alloc (Below.refl _ _) _) HB2.out)) hc1 HAL.out).mono ?_; rintro e w3 ⟨rfl, hb3⟩; have HB3 := Aside0.mk (show Below (w.alloc (.cells #[.int .i16 a0_0, .int .i16 a0_1] 28)).heap.size (w.alloc (.cells #[.int .i16 a0_0, .int .i16 a0_1] 28)) w3 from below_step HB2.out hb3); have p30 : w3.cell? ⟨w.heap.size, 0, none⟩ = some (.int .i16 a0_0) := pw_cell_below HB3.out HQ0.out; have p31 : w3.cell? ⟨w.heap.size, 1, none⟩ = some (.int .i16 a0_1) := pw_cell_below HB3.out HQ1.out; clear hb3) | ((with_reducible refine gate_dst (N := 36) rfl ?_); refine Kd.R_lit (Kd.int .i64) _ 2 ?hg (N := 36) ?hd (xs := ([] : List Int)) (inner := []) (ok := fun _ => True) (okp := fun _ => True) ?hr ?hp (fun _ hk => hk) trivial (Below.refl _ _) (Nat.le_refl _) (by simp) ?_; (case hd => rfl); (case hg => rfl); (case hr => first | (go_simp; done) | (go_simp; rfl)); (case hp => exact (Reps.none _ _)); intro v5 w5 ho5 hb5 hg_ hnew_; clear hg_ hnew_; obtain ⟨A5, c5, rfl, hc5, _⟩ := Kd.R_reads ho5; have HB5 := Aside0.mk hb5; have HG5 := Aside0.mk (show w3.heap.size ≤ w5.heap.size from hb5.size); have HO5 := Aside0.mk (Kd.R_mono (ok' := fun k => k ≠ w5.heap.size) (Kd.R_bound ho5) (fun k hk => by have := hk.2.1; omega)); clear ho5 hb5))
    have HBC := Aside0.mk (show Below w.heap.size w w3 from below_step (below_alloc (Below.refl _ _) _) HB3.out)
    go_loopg [11] k (fun gg v11 w' => ∃ (m : Nat) (tk : Int), m ≤ 1000 ∧ v11 = .int .i64 (m : Int) ∧ Aside0 (hangM (fun m t => hangS (fitT k a0_0 a0_1 l1) a2 m l1.length [] 0 t) gg m tk = some (r1, r2, r3)) ∧ Aside0 (StT w3 w5.heap.size a0_0 a0_1 l1 A1 c1 a2 w' [] tk))
    case atStart => exact ⟨0, 0, by omega, rfl, HM, ⟨⟨below_alloc HB5.out _, ⟨_, blk_new w5 _, Kd.R_below HO5.out (below_alloc (Below.refl _ _) _)⟩, ⟨Int.le_refl _, HQ.out.1⟩⟩⟩⟩
    case round =>
     obtain ⟨m, tk, hm, rfl, HMr, HSr⟩ := hrel
     cases gk with
     | zero => exact absurd HMr.out (by simp [hangM])
     | succ r =>
      have hf := HMr.out
      rw [hangM] at hf
      obtain ⟨x1, hst, hrest⟩ := Option.bind_eq_some_iff.mp hf
      obtain ⟨xo, xok, xt, xov⟩ := x1
      have HST := Aside0.mk hst
      have HREST := Aside0.mk hrest
      clear hf hst hrest
      cases xok with
      | true =>
       have HX := Aside0.mk (Option.some.inj ((if_pos rfl).symm.trans HREST.out))
       go_wp2_with (go_at_call 86; have hc_ := try_calls k w3 w5.heap.size a0_0 a0_1 l1 A1 c1 a2 m HN.out hm HG5.out (by have := HQ.out.2; omega) (Kd.C_below HR1.out HBC.out) hc1 l1.length _ [] 0 tk (xo, true, xt, xov) (by simp) (Nat.le_refl _) HSr.out HST.out; refine hc_.mono ?_; rintro e w6 ⟨he, o6, hs6, hf6, hn6⟩; (rw [show outT (xo, true, xt, xov) = 1 from rfl] at he); subst he; have HS6 := Aside0.mk hs6; have HF6 := Aside0.mk hf6; have HN6 := Aside0.mk hn6; obtain ⟨v6, hblk6, hR6⟩ := hs6.hb; obtain ⟨A6, c6, rfl, hc6, _⟩ := Kd.R_reads hR6; have z3 : w6.cell? ⟨w5.heap.size, 3, none⟩ = some (.slice A6 o6.length c6) := (blk_cell hblk6 3).trans rfl; have z5 : w6.cell? ⟨w5.heap.size, 5, none⟩ = some (.int .i64 xt) := (blk_cell hblk6 5).trans rfl; have HR6 := Aside0.mk hR6; clear hs6 hf6 hn6 hblk6 hR6 hc_)
       go_quiet (fail)
       go_wp2
       go_ret3
       have hx := HX.out
       simp only [Prod.mk.injEq] at hx
       obtain ⟨rfl, rfl, rfl⟩ := hx
       obtain rfl : o6 = xo := (by first | exact HF6.out rfl | exact HF6.out trivial | exact HF6.out)
       exact ⟨_, rfl, Kd.R_drewN (Kd.R_mono (Kd.R_lower HR6.out HBC.out.size) (fun _ _ => trivial)) _, pw_below_drewN (below_step HBC.out HS6.out.bel) _⟩
      | false =>
       cases xov with
       | true =>
        have HX := Aside0.mk (Option.some.inj ((if_pos rfl).symm.trans ((if_neg (by simp)).symm.trans HREST.out)))
        go_wp2_with (first | (go_at_call 86; have hc_ := try_calls k w3 w5.heap.size a0_0 a0_1 l1 A1 c1 a2 m HN.out hm HG5.out (by have := HQ.out.2; omega) (Kd.C_below HR1.out HBC.out) hc1 l1.length _ [] 0 tk (xo, false, xt, true) (by simp) (Nat.le_refl _) HSr.out HST.out; refine hc_.mono ?_; rintro e w6 ⟨he, o6, hs6, hf6, hn6⟩; (rw [show outT (xo, false, xt, true) = -1 from rfl] at he); subst he; have HS6 := Aside0.mk hs6; have HF6 := Aside0.mk hf6; have HN6 := Aside0.mk hn6; obtain ⟨v6, hblk6, hR6⟩ := hs6.hb; obtain ⟨A6, c6, rfl, hc6, _⟩ := Kd.R_reads hR6; have z3 : w6.cell? ⟨w5.heap.size, 3, none⟩ = some (.slice A6 o6.length c6) := (blk_cell hblk6 3).trans rfl; have z5 : w6.cell? ⟨w5.heap.size, 5, none⟩ = some (.int .i64 xt) := (blk_cell hblk6 5).trans rfl; have HR6 := Aside0.mk hR6; clear hs6 hf6 hn6 hblk6 hR6 hc_) | ((with_reducible refine gate_dst (N := 57) rfl ?_); refine Kd.R_lit (Kd.int .i64) _ 2 ?hg (N := 57) ?hd (xs := ([] : List Int)) (inner := []) (ok := fun _ => True) (okp := fun _ => True) ?hr ?hp (fun _ hk => hk) trivial (Below.refl _ _) (Nat.le_refl _) (by simp) ?_; (case hd => rfl); (case hg => rfl); (case hr => first | (go_simp; done) | (go_simp; rfl)); (case hp => exact (Reps.none _ _)); intro v7 w7 ho5 hb5 hg_ hnew_; clear hg_ hnew_; have HO7 := Aside0.mk ho5; have HB7 := Aside0.mk hb5; clear ho5 hb5))
        go_ret3
        have hx := HX.out
        simp only [Prod.mk.injEq] at hx
        obtain ⟨rfl, rfl, rfl⟩ := hx
        exact ⟨_, rfl, Kd.R_lower HO7.out (below_step HBC.out HS6.out.bel).size, below_step (below_step HBC.out HS6.out.bel) HB7.out⟩
       | false =>
        have hx := (if_neg (by simp)).symm.trans ((if_neg (by simp)).symm.trans HREST.out)
        by_cases hm1 : m + 1 ≤ 1000
        case neg => rw [if_neg hm1] at hx; cases hx
        rw [if_pos hm1] at hx
        have HX := Aside0.mk hx
        clear hx
        go_wp2_with (go_at_call 86; have hc_ := try_calls k w3 w5.heap.size a0_0 a0_1 l1 A1 c1 a2 m HN.out hm HG5.out (by have := HQ.out.2; omega) (Kd.C_below HR1.out HBC.out) hc1 l1.length _ [] 0 tk (xo, false, xt, false) (by simp) (Nat.le_refl _) HSr.out HST.out; refine hc_.mono ?_; rintro e w6 ⟨he, o6, hs6, hf6, hn6⟩; (rw [show outT (xo, false, xt, false) = 0 from rfl] at he); subst he; have HS6 := Aside0.mk hs6; have HF6 := Aside0.mk hf6; have HN6 := Aside0.mk hn6; obtain ⟨v6, hblk6, hR6⟩ := hs6.hb; obtain ⟨A6, c6, rfl, hc6, _⟩ := Kd.R_reads hR6; have z3 : w6.cell? ⟨w5.heap.size, 3, none⟩ = some (.slice A6 o6.length c6) := (blk_cell hblk6 3).trans rfl; have z5 : w6.cell? ⟨w5.heap.size, 5, none⟩ = some (.int .i64 xt) := (blk_cell hblk6 5).trans rfl; have HR6 := Aside0.mk hR6; clear hs6 hf6 hn6 hblk6 hR6 hc_)
        obtain rfl : o6 = [] := (by first | exact HN6.out rfl rfl | exact HN6.out trivial trivial | exact HN6.out)
        go_roundg r
        case measure => omega
        case rel => exact ⟨m + 1, xt, hm1, by go_num, HX, HS6⟩
   | false =>
    rw [if_neg (by decide)] at h
    simp only [Option.some.injEq, Prod.mk.injEq] at h
    obtain ⟨rfl, rfl, rfl⟩ := h
    go_enter Try.func26, Try.ntmps26
    go_wp2_with (first | (go_at_call 77; refine (spec_l02Hung.calls k a0_0 a0_1 A1 c1 l1 0 _ (Kd.C_below HR1.out (by repeat (first | exact Below.refl _ _ | apply pw_below_drewN | apply below_drew | apply below_alloc | refine below_step ?_ hb1 | refine below_step ?_ hb2 | refine below_step ?_ hb3))) hc1 HC0.out).mono ?_; rintro e w1 ⟨rfl, hb1⟩; have HB1 := Aside0.mk (show Below (w.alloc (.cells #[.int .i16 a0_0, .int .i16 a0_1] 28)).heap.size (w.alloc (.cells #[.int .i16 a0_0, .int .i16 a0_1] 28)) w1 from below_step (Below.refl _ _) hb1); have p10 : w1.cell? ⟨w.heap.size, 0, none⟩ = some (.int .i16 a0_0) := pw_cell_below HB1.out HQ0.out; have p11 : w1.cell? ⟨w.heap.size, 1, none⟩ = some (.int .i16 a0_1) := pw_cell_below HB1.out HQ1.out; clear hb1) | (go_at_call 85; refine (spec_l00In.calls a2 0 20000 true _ HIN.out).mono ?_; rintro e w2 ⟨rfl, hd2⟩; have HB2 := Aside0.mk (show Below (w.alloc (.cells #[.int .i16 a0_0, .int .i16 a0_1] 28)).heap.size (w.alloc (.cells #[.int .i16 a0_0, .int .i16 a0_1] 28)) w2 from below_step HB1.out hd2.below); have p20 : w2.cell? ⟨w.heap.size, 0, none⟩ = some (.int .i16 a0_0) := pw_cell_below HB2.out HQ0.out; have p21 : w2.cell? ⟨w.heap.size, 1, none⟩ = some (.int .i16 a0_1) := pw_cell_below HB2.out HQ1.out; clear hd2) | (go_at_call 78; refine (spec_l02Alone.calls k a0_0 a0_1 A1 c1 l1 false _ (Kd.C_below HR1.out (below_step (below_alloc (Below.refl _ _) _) HB2.out)) hc1 HAL.out).mono ?_; rintro e w3 ⟨rfl, hb3⟩; have HB3 := Aside0.mk (show Below (w.alloc (.cells #[.int .i16 a0_0, .int .i16 a0_1] 28)).heap.size (w.alloc (.cells #[.int .i16 a0_0, .int .i16 a0_1] 28)) w3 from below_step HB2.out hb3); have p30 : w3.cell? ⟨w.heap.size, 0, none⟩ = some (.int .i16 a0_0) := pw_cell_below HB3.out HQ0.out; have p31 : w3.cell? ⟨w.heap.size, 1, none⟩ = some (.int .i16 a0_1) := pw_cell_below HB3.out HQ1.out; clear hb3) | ((with_reducible refine gate_dst (N := 32) rfl ?_); refine Kd.R_lit (Kd.int .i64) _ 2 ?hg (N := 32) ?hd (xs := ([] : List Int)) (inner := []) (ok := fun _ => True) (okp := fun _ => True) ?hr ?hp (fun _ hk => hk) trivial (Below.refl _ _) (Nat.le_refl _) (by simp) ?_; (case hd => rfl); (case hg => rfl); (case hr => first | (go_simp; done) | (go_simp; rfl)); (case hp => exact (Reps.none _ _)); intro v5 w5 ho5 hb5 hg_ hnew_; clear hg_ hnew_; have HE := Aside0.mk (below_step (below_step (below_alloc (Below.refl _ _) _) HB3.out) hb5); have HO5 := Aside0.mk ho5; clear ho5 hb5))
    go_ret3
    exact ⟨_, rfl, Kd.R_lower HO5.out (below_step (below_alloc (Below.refl _ _) _) HB3.out).size, HE.out⟩
  | false =>
   rw [if_neg (by decide)] at h
   simp only [Option.some.injEq, Prod.mk.injEq] at h
   obtain ⟨rfl, rfl, rfl⟩ := h
   go_enter Try.func26, Try.ntmps26
   go_wp2_with (first | (go_at_call 77; refine (spec_l02Hung.calls k a0_0 a0_1 A1 c1 l1 0 _ (Kd.C_below HR1.out (by repeat (first | exact Below.refl _ _ | apply pw_below_drewN | apply below_drew | apply below_alloc | refine below_step ?_ hb1 | refine below_step ?_ hb2 | refine below_step ?_ hb3))) hc1 HC0.out).mono ?_; rintro e w1 ⟨rfl, hb1⟩; have HB1 := Aside0.mk (show Below (w.alloc (.cells #[.int .i16 a0_0, .int .i16 a0_1] 28)).heap.size (w.alloc (.cells #[.int .i16 a0_0, .int .i16 a0_1] 28)) w1 from below_step (Below.refl _ _) hb1); have p10 : w1.cell? ⟨w.heap.size, 0, none⟩ = some (.int .i16 a0_0) := pw_cell_below HB1.out HQ0.out; have p11 : w1.cell? ⟨w.heap.size, 1, none⟩ = some (.int .i16 a0_1) := pw_cell_below HB1.out HQ1.out; clear hb1) | (go_at_call 85; refine (spec_l00In.calls a2 0 20000 false _ HIN.out).mono ?_; rintro e w2 ⟨rfl, hd2⟩; have HB2 := Aside0.mk (show Below (w.alloc (.cells #[.int .i16 a0_0, .int .i16 a0_1] 28)).heap.size (w.alloc (.cells #[.int .i16 a0_0, .int .i16 a0_1] 28)) w2 from below_step HB1.out hd2.below); have p20 : w2.cell? ⟨w.heap.size, 0, none⟩ = some (.int .i16 a0_0) := pw_cell_below HB2.out HQ0.out; have p21 : w2.cell? ⟨w.heap.size, 1, none⟩ = some (.int .i16 a0_1) := pw_cell_below HB2.out HQ1.out; clear hd2) | ((with_reducible refine gate_dst (N := 32) rfl ?_); refine Kd.R_lit (Kd.int .i64) _ 2 ?hg (N := 32) ?hd (xs := ([] : List Int)) (inner := []) (ok := fun _ => True) (okp := fun _ => True) ?hr ?hp (fun _ hk => hk) trivial (Below.refl _ _) (Nat.le_refl _) (by simp) ?_; (case hd => rfl); (case hg => rfl); (case hr => first | (go_simp; done) | (go_simp; rfl)); (case hp => exact (Reps.none _ _)); intro v5 w5 ho5 hb5 hg_ hnew_; clear hg_ hnew_; have HE := Aside0.mk (below_step (below_step (below_alloc (Below.refl _ _) _) HB2.out) hb5); have HO5 := Aside0.mk ho5; clear ho5 hb5))
   go_ret3
   exact ⟨_, rfl, Kd.R_lower HO5.out (below_step (below_alloc (Below.refl _ _) _) HB2.out).size, HE.out⟩
 ·rw [if_neg h0] at h
  simp only [Option.some.injEq, Prod.mk.injEq] at h
  obtain ⟨rfl, rfl, rfl⟩ := h
  have hc1' : (c0 != 0) = true := by simp [h0]
  have hc2' : (c0 == 0) = false := by simp [h0]
  clear h0
  go_enter Try.func26, Try.ntmps26
  go_wp2_with (first | (go_at_call 77; refine (spec_l02Hung.calls k a0_0 a0_1 A1 c1 l1 c0 _ (Kd.C_below HR1.out (by repeat (first | exact Below.refl _ _ | apply pw_below_drewN | apply below_drew | apply below_alloc | refine below_step ?_ hb1 | refine below_step ?_ hb2 | refine below_step ?_ hb3))) hc1 HC0.out).mono ?_; rintro e w1 ⟨rfl, hb1⟩; have HB1 := Aside0.mk (show Below (w.alloc (.cells #[.int .i16 a0_0, .int .i16 a0_1] 28)).heap.size (w.alloc (.cells #[.int .i16 a0_0, .int .i16 a0_1] 28)) w1 from below_step (Below.refl _ _) hb1); have p10 : w1.cell? ⟨w.heap.size, 0, none⟩ = some (.int .i16 a0_0) := pw_cell_below HB1.out HQ0.out; have p11 : w1.cell? ⟨w.heap.size, 1, none⟩ = some (.int .i16 a0_1) := pw_cell_below HB1.out HQ1.out; clear hb1) | ((with_reducible refine gate_dst (N := 32) rfl ?_); refine Kd.R_lit (Kd.int .i64) _ 2 ?hg (N := 32) ?hd (xs := ([] : List Int)) (inner := []) (ok := fun _ => True) (okp := fun _ => True) ?hr ?hp (fun _ hk => hk) trivial (Below.refl _ _) (Nat.le_refl _) (by simp) ?_; (case hd => rfl); (case hg => rfl); (case hr => first | (go_simp; done) | (go_simp; rfl)); (case hp => exact (Reps.none _ _)); intro v5 w5 ho5 hb5 hg_ hnew_; clear hg_ hnew_; have HE := Aside0.mk (below_step (below_step (below_alloc (Below.refl _ _) _) HB1.out) hb5); have HO5 := Aside0.mk ho5; clear ho5 hb5))
  go_ret3
  exact ⟨_, rfl, Kd.R_lower HO5.out (below_step (below_alloc (Below.refl _ _) _) HB1.out).size, HE.out⟩
end Go.Proofs.Ytlkpgpnieodifaa.Ln
