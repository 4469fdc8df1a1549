/- Words and walks for the law FnOrders. -/
import Derived.Test.YtlkpgpnieodifaaTOr24
import Derived.Test.YtlkpgpnieodifaaTOr28
namespace Go.Proofs.Ytlkpgpnieodifaa.Or
open Go.RowKit Go.Proofs.YtlkpgpnieodifaaW.PrintWords Go.Proofs.YtlkpgpnieodifaaW.PrintLast Go.Proofs.YtlkpgpnieodifaaW.PrintMore
attribute [local go_sem] max2_int min2_int max_two min_two max_three min_three max_four min_four   -- for this text's walks alone
set_option linter.unusedVariables false
set_option linter.unusedSimpArgs false
def spec_InOrder.j0 : Nat → List (S38) → List Int → Int → Bool → Option ((List (S38)) × Int)
 | 0, _, _, _, _ => none
 | k + 1, x0, x1, x6, x17 => if x17 = true then (if 4 = 0 then ((spec_l02In.f k x0 x1).bind fun t230 => (some (t230, 0))) else (some ((([] : List (S38))), 4))) else (if x6 = 0 then ((spec_l02In.f k x0 x1).bind fun t236 => (some (t236, 0))) else (some ((([] : List (S38))), x6)))
def spec_InOrder.f (k : Nat) (l0 : List (S38)) (l1 : List Int) : Option ((List (S38)) × Int) := (spec_l02Many.f k l0 100).bind fun t228 => (if t228 = 0 then ((spec_l02Order.f (l0.length : Int) l1).bind fun t229 => (spec_InOrder.j0 k l0 l1 t228 (!t229))) else (spec_InOrder.j0 k l0 l1 t228 false))
set_option maxHeartbeats 8000000 in
set_option maxRecDepth 100000 in
theorem spec_InOrder.calls (k : Nat) (A0 : Option Addr) (c0 : Nat) (l0 : List (S38)) (A1 : Option Addr) (c1 : Nat) (l1 : List Int) (r1 : List (S38)) (r2 : Int) (w : World) (hr0 : Kd.C k38 w A0 l0.length l0) (hc0 : l0.length ≤ c0) (hr1 : Kd.C (Kd.int .i64) w A1 l1.length l1) (hc1 : l1.length ≤ c1) (h : spec_InOrder.f k l0 l1 = some (r1, r2)) :
  Calls Try.prog 42 #[.slice A0 l0.length c0, .slice A1 l1.length c1] w fun e w' => ∃ v0_ : Value, e = .returned (.tuple #[v0_, .int .i64 r2]) ∧ Kd.R k38 38 w' w.heap.size (fun _ => True) v0_ r1 ∧ Below w.heap.size w w' := by
 have HR0 := Aside0.mk hr0
 have HC0 := Aside0.mk hc0
 clear hr0 hc0
 have HR1 := Aside0.mk hr1
 have HC1 := Aside0.mk hc1
 clear hr1 hc1
 have HB := Aside0.mk (Below.refl w.heap.size w)
 have H : ((spec_l02Many.f k l0 100).bind fun t228 => (if t228 = 0 then ((spec_l02Order.f (l0.length : Int) l1).bind fun t229 => (spec_InOrder.j0 k l0 l1 t228 (!t229))) else (spec_InOrder.j0 k l0 l1 t228 false))) = some (r1, r2) := h
 clear h
 replace H := Option.bind_eq_some_iff.mp H
 obtain ⟨t228, A30, H⟩ := H
 replace H : (if t228 = 0 then ((spec_l02Order.f (l0.length : Int) l1).bind fun t229 => (spec_InOrder.j0 k l0 l1 t228 (!t229))) else (spec_InOrder.j0 k l0 l1 t228 false)) = some (r1, r2) := H
 have A3 := Aside0.mk A30
 clear A30
 have HC4 := Aside0.mk H
 clear H
 go_enter Try.func42, Try.ntmps42
 go_upto_region 2 with (first | ((with_reducible refine gate_callee (f := 100) rfl ?_); refine goesL_ (some 8) rfl rfl Try.func100 (by kernel_rfl) rfl #[.slice A0 l0.length c0, .int .i64 100] rfl (by (try simp only [List.map_toArray, List.map_cons, List.map_nil]); first | done | rfl | (simp only [List.length_drop, List.length_take]; rfl)) ?_; (with_reducible refine (spec_l02Many.calls k _ _ l0 100 t228 _ ?side1 ?side2 A3.out).mono ?_); (case side1 => repeat (first | exact HR0.out | (with_reducible refine Kd.C_alloc ?_ _) | (with_reducible refine Kd.C_drewN ?_ _) | (with_reducible refine Kd.C_drew ?_))); (case side2 => exact HC0.out); rintro e w' ⟨rfl, ⟨nd, rfl⟩⟩; refine ⟨_, rfl, ?_⟩))
 (try simp only [Act.put, List.setIfInBounds_toArray, List.set_cons_zero, List.set_cons_succ])
 go_cut [17] (fun v17 wc => ∃ (kq : Nat) (x17_3 : Bool), v17 = .bool x17_3 ∧ Aside0 (spec_InOrder.j0 kq l0 l1 t228 x17_3 = some (r1, r2)) ∧ Aside0 (kq ≤ k) ∧ Aside0 (Below w.heap.size w wc))
 case first =>
  have H := HC4.out
  clear HC4
  by_cases c5 : t228 = 0
  ·rw [if_pos c5] at H
   have c5b0 : (t228 == 0) = true := beq_iff_eq.mpr c5
   have c5b1 : (t228 != 0) = false := bne_eq_false_iff_eq.mpr c5
   clear c5
   (first | rw [c5b0] | (simp only [i64_w, i32_w]; rw [c5b0]) | skip)
   replace H := Option.bind_eq_some_iff.mp H
   obtain ⟨t229, A60, H⟩ := H
   replace H : (spec_InOrder.j0 k l0 l1 t228 (!t229)) = some (r1, r2) := H
   have A6 := Aside0.mk A60
   clear A60
   have H' := Aside0.mk H
   clear H
   go_wp2_with (first | (go_at_call 110; (with_reducible refine (spec_l02Order.calls (l0.length : Int) _ _ l1 t229 _ ?side1 ?side2 A6.out).mono ?_); (case side1 => repeat (first | exact (Kd.C_below HR1.out HB.out) | (with_reducible refine Kd.C_alloc ?_ _) | (with_reducible refine Kd.C_drewN ?_ _) | (with_reducible refine Kd.C_drew ?_))); (case side2 => exact HC1.out); rintro e w' ⟨rfl, ⟨nd, rfl⟩⟩))
   go_meet
   case rel => exact ⟨_, (!t229), (by first | rfl | (simp; done) | (simp [*]; done)), H', ⟨by first | omega | exact Nat.le_refl _⟩, ⟨by repeat (first | (with_reducible first | exact HB.out | apply below_alloc | apply pw_below_drewN | apply below_drew1) | exact HB.out)⟩⟩
  ·rw [if_neg c5] at H
   have c5b0 : (t228 == 0) = false := beq_eq_false_iff_ne.mpr c5
   have c5b1 : (t228 != 0) = true := bne_iff_ne.mpr c5
   (first | rw [c5b0] | (simp only [i64_w, i32_w]; rw [c5b0]) | skip)
   have H' := Aside0.mk H
   clear H
   go_wp2
   go_meet
   case rel => exact ⟨_, (false), (by first | rfl | (simp; done) | (simp [*]; done)), H', ⟨by first | omega | exact Nat.le_refl _⟩, ⟨by repeat (first | (with_reducible first | exact HB.out | apply below_alloc | apply pw_below_drewN | apply below_drew1) | exact HB.out)⟩⟩
 case rest =>
  clear HC4
  try clear c1
  try clear p2
  try clear c4
  try clear c5
  try clear c5b0
  try clear c5b1
  obtain ⟨kq, x17_3, rfl, HA, HJ3, HB⟩ := hcut
  cases kq with
  | zero => exact absurd HA.out (by simp [spec_InOrder.j0])
  | succ kj3 =>
   have H := HA.out
   clear HA
   simp only [spec_InOrder.j0] at H
   by_cases c7 : x17_3 = true
   ·subst c7
    have H1 : (if 4 = 0 then ((spec_l02In.f kj3 l0 l1).bind fun t230 => (some (t230, 0))) else (some ((([] : List (S38))), 4))) = some (r1, r2) := by rw [if_pos rfl] at H; exact H
    clear H
    have H := H1
    clear H1
    by_cases c8 : 4 = 0
    ·exact absurd c8 (by decide)
    ·rw [if_neg c8] at H
     have c8b0 : (4 == 0) = false := beq_eq_false_iff_ne.mpr c8
     have c8b1 : (4 != 0) = true := bne_iff_ne.mpr c8
     obtain ⟨y233, hy233⟩ : ∃ y_ : List (S38), y_ = (([] : List (S38))) := ⟨_, rfl⟩
     replace H : (some (y233, 4)) = some (r1, r2) := by first | (rw [hy233]; with_reducible exact H) | (have H2_ := (Option.bind_some _ _).symm.trans H; rw [hy233]; with_reducible exact H2_) | (have H2_ := (Option.bind_some _ _).symm.trans H; with_reducible exact H2_) | with_reducible exact H | (rw [hy233]; exact H) | exact H
     have Ny233 := Aside0.mk hy233
     clear hy233
     simp only [Option.some.injEq, Prod.mk.injEq] at H
     obtain ⟨rfl, rfl⟩ := H
     go_wp2_with (first | ((with_reducible refine gate_dst (N := 20) rfl ?_); (try (refine gate_guard (by rfl) ?_; dsimp only)); refine Kd.R_lit k38 _ 38 ?hg (N := 20) ?hd (xs := ([] : List (S38))) (inner := []) (ok := fun _ => True) (okp := fun _ => True) ?hr ?hp (fun _ hk => hk) trivial (Below.refl _ _) (Nat.le_refl _) (by simp) ?_; (case hd => rfl); (case hg => rfl); (case hr => first | (go_simp; done) | (go_simp; rfl)); (case hp => exact (Reps.none _ _)); intro v234 w11 ho12 hb hg_ hnew_; clear hg_ hnew_; (first | rw [← Ny233.out] at ho12 | (simp only [Int.reduceToNat] at ho12; rw [← Ny233.out] at ho12)); have n0_ := Aside0.mk (Kd.R_lower ho12 (below_size (by repeat (first | (with_reducible first | exact HB.out | apply below_alloc | apply pw_below_drewN | apply below_drew1) | exact HB.out)))); have n1_ := Aside0.mk (below_step (by repeat (first | (with_reducible first | exact HB.out | apply below_alloc | apply pw_below_drewN | apply below_drew1) | exact HB.out)) hb); clear HB; have HO235 := n0_; have HB := n1_; clear n0_ n1_; clear hb ho12))
     go_ret2
     exact ⟨_, by first | rfl | (simp [errW_none, errW_some] <;> rfl) | (simp [*, errW_none, errW_some] <;> rfl), by (with_reducible repeat (first | apply Kd.R_alloc | apply Kd.R_drewN | apply Kd.R_drew)); exact HO235.out, by repeat (first | (with_reducible first | exact HB.out | apply below_alloc | apply pw_below_drewN | apply below_drew1) | exact HB.out)⟩
   ·replace c7 := Bool.eq_false_iff.mpr c7
    subst c7
    have H1 : (if t228 = 0 then ((spec_l02In.f kj3 l0 l1).bind fun t236 => (some (t236, 0))) else (some ((([] : List (S38))), t228))) = some (r1, r2) := by rw [if_neg (show ¬ (false = true) by decide)] at H; exact H
    clear H
    have H := H1
    clear H1
    by_cases c13 : t228 = 0
    ·rw [if_pos c13] at H
     have c13b0 : (t228 == 0) = true := beq_iff_eq.mpr c13
     have c13b1 : (t228 != 0) = false := bne_eq_false_iff_eq.mpr c13
     clear c13
     replace H := Option.bind_eq_some_iff.mp H
     obtain ⟨t236, A140, H⟩ := H
     replace H : (some (t236, 0)) = some (r1, r2) := H
     have A14 := Aside0.mk A140
     clear A140
     simp only [Option.some.injEq, Prod.mk.injEq] at H
     obtain ⟨rfl, rfl⟩ := H
     go_wp2_with (first | ((with_reducible refine gate_callee (f := 111) rfl ?_); refine goesL_ (some 24) rfl rfl Try.func111 (by kernel_rfl) rfl #[.slice A0 l0.length c0, .slice A1 l1.length c1] rfl (by (try simp only [List.map_toArray, List.map_cons, List.map_nil]); first | done | rfl | (simp only [List.length_drop, List.length_take]; rfl)) ?_; (with_reducible refine (spec_l02In.calls kj3 _ _ l0 _ _ l1 t236 _ ?side1 ?side2 ?side3 ?side4 A14.out).mono ?_); (case side1 => repeat (first | exact (Kd.C_below HR0.out HB.out) | (with_reducible refine Kd.C_alloc ?_ _) | (with_reducible refine Kd.C_drewN ?_ _) | (with_reducible refine Kd.C_drew ?_))); (case side2 => exact HC0.out); (case side3 => repeat (first | exact (Kd.C_below HR1.out HB.out) | (with_reducible refine Kd.C_alloc ?_ _) | (with_reducible refine Kd.C_drewN ?_ _) | (with_reducible refine Kd.C_drew ?_))); (case side4 => exact HC1.out); rintro e w15 ⟨v237, rfl, ho0, hb⟩; refine ⟨_, rfl, ?_⟩; have n0_ := Aside0.mk (Kd.R_lower ho0 (below_size (by repeat (first | (with_reducible first | exact HB.out | apply below_alloc | apply pw_below_drewN | apply below_drew1) | exact HB.out)))); have n1_ := Aside0.mk (below_step (by repeat (first | (with_reducible first | exact HB.out | apply below_alloc | apply pw_below_drewN | apply below_drew1) | exact HB.out)) hb); clear HB; have HO238 := n0_; have HB := n1_; clear n0_ n1_; (try clear hb); (try clear hb2); (try clear hk); (try clear hi); (try clear ho0)))
     go_ret2
     exact ⟨_, by first | rfl | (simp [errW_none, errW_some] <;> rfl) | (simp [*, errW_none, errW_some] <;> rfl), by (with_reducible repeat (first | apply Kd.R_alloc | apply Kd.R_drewN | apply Kd.R_drew)); exact HO238.out, by repeat (first | (with_reducible first | exact HB.out | apply below_alloc | apply pw_below_drewN | apply below_drew1) | exact HB.out)⟩
    ·rw [if_neg c13] at H
     have c13b0 : (t228 == 0) = false := beq_eq_false_iff_ne.mpr c13
     have c13b1 : (t228 != 0) = true := bne_iff_ne.mpr c13
     obtain ⟨y239, hy239⟩ : ∃ y_ : List (S38), y_ = (([] : List (S38))) := ⟨_, rfl⟩
     replace H : (some (y239, t228)) = some (r1, r2) := by first | (rw [hy239]; with_reducible exact H) | (have H2_ := (Option.bind_some _ _).symm.trans H; rw [hy239]; with_reducible exact H2_) | (have H2_ := (Option.bind_some _ _).symm.trans H; with_reducible exact H2_) | with_reducible exact H | (rw [hy239]; exact H) | exact H
     have Ny239 := Aside0.mk hy239
     clear hy239
     simp only [Option.some.injEq, Prod.mk.injEq] at H
     obtain ⟨rfl, rfl⟩ := H
     go_wp2_with (first | ((with_reducible refine gate_dst (N := 20) rfl ?_); (try (refine gate_guard (by rfl) ?_; dsimp only)); refine Kd.R_lit k38 _ 38 ?hg (N := 20) ?hd (xs := ([] : List (S38))) (inner := []) (ok := fun _ => True) (okp := fun _ => True) ?hr ?hp (fun _ hk => hk) trivial (Below.refl _ _) (Nat.le_refl _) (by simp) ?_; (case hd => rfl); (case hg => rfl); (case hr => first | (go_simp; done) | (go_simp; rfl)); (case hp => exact (Reps.none _ _)); intro v240 w16 ho17 hb hg_ hnew_; clear hg_ hnew_; (first | rw [← Ny239.out] at ho17 | (simp only [Int.reduceToNat] at ho17; rw [← Ny239.out] at ho17)); have n0_ := Aside0.mk (Kd.R_lower ho17 (below_size (by repeat (first | (with_reducible first | exact HB.out | apply below_alloc | apply pw_below_drewN | apply below_drew1) | exact HB.out)))); have n1_ := Aside0.mk (below_step (by repeat (first | (with_reducible first | exact HB.out | apply below_alloc | apply pw_below_drewN | apply below_drew1) | exact HB.out)) hb); clear HB; have HO241 := n0_; have HB := n1_; clear n0_ n1_; clear hb ho17))
     go_ret2
     exact ⟨_, by first | rfl | (simp [errW_none, errW_some] <;> rfl) | (simp [*, errW_none, errW_some] <;> rfl), by (with_reducible repeat (first | apply Kd.R_alloc | apply Kd.R_drewN | apply Kd.R_drew)); exact HO241.out, by repeat (first | (with_reducible first | exact HB.out | apply below_alloc | apply pw_below_drewN | apply below_drew1) | exact HB.out)⟩
def slices_Clone_int64.f (l0 : List Int) : Option (List Int) := if l0.length ≤ 1048576 then some l0 else none
set_option maxHeartbeats 2000000 in
theorem slices_Clone_int64.calls (A0 : Option Addr) (c0 : Nat) (l0 : List Int) (r : List Int) (w : World) (hr0 : Kd.C (Kd.int .i64) w A0 l0.length l0) (hc0 : l0.length ≤ c0) (h : slices_Clone_int64.f l0 = some r) :
  Calls Try.prog 125 #[.slice A0 l0.length c0] w fun e w' => ∃ v0_ : Value, e = .returned v0_ ∧ Kd.R (Kd.int .i64) 2 w' w.heap.size (fun _ => True) v0_ r ∧ Below w.heap.size w w' := by
 unfold slices_Clone_int64.f at h
 by_cases hb : l0.length ≤ 1048576
 case neg => rw [if_neg hb] at h; cases h
 rw [if_pos hb] at h
 obtain rfl := Option.some.inj h
 clear h
 have HR0 := Aside0.mk hr0
 have HL := Aside0.mk hb
 clear hr0 hb
 rcases A0 with _ | ad
 ·have hnil : l0 = [] := by
   rcases l0 with _ | ⟨x, xs⟩
   ·rfl
   ·obtain ⟨ad, he, _⟩ := HR0.out.2.2 (by simp)
    cases he
  subst hnil
  have he := fun (W : World) => Lib.run_eql_slice_nil (P := Try.prog) W 30 2 none 0 c0 0 0 Try.underlying30
  simp only [List.length_nil]
  go_enter Try.func125, Try.ntmps125
  go_wp2
  go_ret
  exact ⟨_, rfl, Kd.R_nil _ _ _ _ _, Below.refl _ _⟩
 ·have he := fun (W : World) => Lib.run_eql_slice_nil (P := Try.prog) W 30 2 (some ad) l0.length c0 0 0 Try.underlying30
  go_enter Try.func125, Try.ntmps125
  go_wp2_with (first | ((with_reducible refine gate_dst (N := 5) rfl ?_); refine Kd.R_lit (Kd.int .i64) _ 2 ?hg (N := 5) ?hd (xs := ([] : List Int)) (inner := []) (ok := fun _ => True) (okp := fun _ => True) ?hr ?hp (fun _ hk => hk) trivial (Below.refl _ _) (Nat.le_refl _) (by simp) ?_; (case hd => rfl); (case hg => rfl); (case hr => first | (go_simp; done) | (go_simp; rfl)); (case hp => exact (Reps.none _ _)); intro v1 w1 ho1 hb1 hg_ hnew_; clear hg_ hnew_; have HO1 := Aside0.mk ho1; have HB1 := Aside0.mk hb1; clear ho1 hb1) | ((with_reducible refine gate_builtin (b := .append) (xs := #[.tmp 5, .tmp 6]) rfl ?_); at_builtin; refine Kd.R_append_rows (Kd.int .i64) (w0 := w) w.heap.size rfl (.tmp 5) (.tmp 6) 30 2 (.int .i64 0) 8 rfl Try.underlying30 info2 rfl (by decide) (by omega) v1 [] l0 _ _ _ (fun _ => True) (fun _ => False) rfl rfl HO1.out (Kd.C_below HR0.out HB1.out) (fun _ _ h => h) (fun _ h => h.elim) (fun _ _ => trivial) HB1.out HB1.out.size (by have := HL.out; simp; omega) ?_; intro v2 w2 ho2 hb2 hg2 hat2; have HO2 := Aside0.mk ho2; have HB2 := Aside0.mk hb2; clear ho2 hb2 hg2 hat2))
  go_ret
  exact ⟨_, rfl, by simpa using HO2.out, HB2.out⟩
def slices_Index_int64.l0 : Nat → List Int → Int → Int → Int → Option (Int)
 | 0, _, _, _, _ => none
 | k + 1, x0, x1, x7, x8 => if x8 < x7 then (if 0 ≤ x8 then (if x8 < (x0.length : Int) then (if x1 = (rd x0 x8) then (some x8) else (slices_Index_int64.l0 k x0 x1 x7 (wrap64 (x8 + 1)))) else (none)) else (none)) else (some (-1))
def slices_Index_int64.f (k : Nat) (l0 : List Int) (a1 : Int) : Option (Int) := slices_Index_int64.l0 k l0 a1 (l0.length : Int) 0
set_option maxHeartbeats 8000000 in
set_option maxRecDepth 100000 in
theorem slices_Index_int64.calls (k : Nat) (A0 : Option Addr) (c0 : Nat) (l0 : List Int) (a1 : Int) (r : Int) (w : World) (hr0 : Kd.C (Kd.int .i64) w A0 l0.length l0) (hc0 : l0.length ≤ c0) (h : slices_Index_int64.f k l0 a1 = some r) :
  Calls Try.prog 139 #[.slice A0 l0.length c0, .int .i64 a1] w fun e w' => e = .returned (.int .i64 r) ∧ Drawn0 w w' := by
 have HR0 := Aside0.mk hr0
 have HC0 := Aside0.mk hc0
 clear hr0 hc0
 have H : (slices_Index_int64.l0 k l0 a1 (l0.length : Int) 0) = some r := h
 clear h
 have H' := Aside0.mk H
 clear H
 go_enter Try.func139, Try.ntmps139
 go_wp2
 go_loopg [8] k (fun kq v8 w' => ∃ (x8_1 : Int), v8 = .int .i64 x8_1 ∧ Aside0 (slices_Index_int64.l0 kq l0 a1 (l0.length : Int) x8_1 = some r) ∧ Aside0 (kq ≤ k) ∧ Drawn0 w w')
 case atStart => exact ⟨(0), (by first | rfl | (simp; done) | (simp [*]; done)), H', ⟨Nat.le_refl _⟩, by repeat (first | exact Drawn0.refl _ | apply Drawn0.step)⟩
 case round =>
  clear H'
  try clear c1
  try clear p2
  obtain ⟨x8_1, rfl, HA, HK1, ⟨m1, rfl⟩⟩ := hrel
  cases gk with
  | zero => exact absurd HA.out (by simp [slices_Index_int64.l0])
  | succ k1 =>
   have H := HA.out
   clear HA
   simp only [slices_Index_int64.l0] at H
   by_cases c3 : x8_1 < (l0.length : Int)
   ·rw [if_pos c3] at H
    have c3b0 : decide (x8_1 < (l0.length : Int)) = true := decide_eq_true c3
    clear c3
    by_cases c4 : 0 ≤ x8_1
    ·rw [if_pos c4] at H
     have c4b0 : decide (0 ≤ x8_1) = true := decide_eq_true c4
     clear c4
     by_cases c5 : x8_1 < (l0.length : Int)
     ·rw [if_pos c5] at H
      have c5b0 : decide (x8_1 < (l0.length : Int)) = true := decide_eq_true c5
      clear c5
      by_cases c6 : a1 = (rd l0 x8_1)
      ·rw [if_pos c6] at H
       have c6b0 : (a1 == (rd l0 x8_1)) = true := beq_iff_eq.mpr c6
       have c6b1 : (a1 != (rd l0 x8_1)) = false := bne_eq_false_iff_eq.mpr c6
       clear c6
       obtain rfl := Option.some.inj H
       have p242 : 0 ≤ (x8_1 : Int) := of_decide_eq_true (by first | (with_reducible assumption) | assumption)
       have q242 : x8_1 < (l0.length : Int) := of_decide_eq_true (by first | (with_reducible assumption) | assumption)
       obtain ⟨ad242, e242, hx242_0⟩ := Kd.at_int HR0.out x8_1 p242 q242
       cases e242
       replace p242 := eq_true p242
       replace q242 := eq_true q242
       go_wp2
       go_ret
       exact ⟨by first | rfl | (simp; done) | (simp [*]; done), by repeat (first | exact Drawn0.refl _ | apply Drawn0.step)⟩
      ·rw [if_neg c6] at H
       have c6b0 : (a1 == (rd l0 x8_1)) = false := beq_eq_false_iff_ne.mpr c6
       have c6b1 : (a1 != (rd l0 x8_1)) = true := bne_iff_ne.mpr c6
       have H' := Aside0.mk H
       clear H
       have p242 : 0 ≤ (x8_1 : Int) := of_decide_eq_true (by first | (with_reducible assumption) | assumption)
       have q242 : x8_1 < (l0.length : Int) := of_decide_eq_true (by first | (with_reducible assumption) | assumption)
       obtain ⟨ad242, e242, hx242_0⟩ := Kd.at_int HR0.out x8_1 p242 q242
       cases e242
       replace p242 := eq_true p242
       replace q242 := eq_true q242
       go_wp2
       go_roundg k1
       case measure => have := HK1.out; omega
       case rel => exact ⟨(wrap64 (x8_1 + 1)), (by first | rfl | (simp; done) | (simp [*]; done)), H', ⟨by have := HK1.out; omega⟩, by repeat (first | exact Drawn0.refl _ | apply Drawn0.step)⟩
     ·rw [if_neg c5] at H
      exact absurd H (by simp)
    ·rw [if_neg c4] at H
     exact absurd H (by simp)
   ·rw [if_neg c3] at H
    have c3b0 : decide (x8_1 < (l0.length : Int)) = false := decide_eq_false c3
    clear c3
    obtain rfl := Option.some.inj H
    go_wp2
    go_ret
    exact ⟨by first | rfl | (simp; done) | (simp [*]; done), by repeat (first | exact Drawn0.refl _ | apply Drawn0.step)⟩
def slices_Contains_int64.f (k : Nat) (l0 : List Int) (a1 : Int) : Option (Bool) := (slices_Index_int64.f k l0 a1).bind fun t243 => (some (decide (t243 ≥ 0)))
set_option maxHeartbeats 8000000 in
set_option maxRecDepth 100000 in
theorem slices_Contains_int64.calls (k : Nat) (A0 : Option Addr) (c0 : Nat) (l0 : List Int) (a1 : Int) (r : Bool) (w : World) (hr0 : Kd.C (Kd.int .i64) w A0 l0.length l0) (hc0 : l0.length ≤ c0) (h : slices_Contains_int64.f k l0 a1 = some r) :
  Calls Try.prog 134 #[.slice A0 l0.length c0, .int .i64 a1] w fun e w' => e = .returned (.bool r) ∧ Drawn0 w w' := by
 have HR0 := Aside0.mk hr0
 have HC0 := Aside0.mk hc0
 clear hr0 hc0
 have H : ((slices_Index_int64.f k l0 a1).bind fun t243 => (some (decide (t243 ≥ 0)))) = some r := h
 clear h
 replace H := Option.bind_eq_some_iff.mp H
 obtain ⟨t243, A30, H⟩ := H
 replace H : (some (decide (t243 ≥ 0))) = some r := H
 have A3 := Aside0.mk A30
 clear A30
 obtain rfl := Option.some.inj H
 go_enter Try.func134, Try.ntmps134
 go_wp2_with (first | ((with_reducible refine gate_callee (f := 139) rfl ?_); refine goesL_ (some 7) rfl rfl Try.func139 (by kernel_rfl) rfl #[.slice A0 l0.length c0, .int .i64 a1] rfl (by (try simp only [List.map_toArray, List.map_cons, List.map_nil]); first | done | rfl | (simp only [List.length_drop, List.length_take]; rfl)) ?_; (with_reducible refine (slices_Index_int64.calls k _ _ l0 a1 t243 _ ?side1 ?side2 A3.out).mono ?_); (case side1 => repeat (first | exact HR0.out | (with_reducible refine Kd.C_alloc ?_ _) | (with_reducible refine Kd.C_drewN ?_ _) | (with_reducible refine Kd.C_drew ?_))); (case side2 => exact HC0.out); rintro e w' ⟨rfl, ⟨nd, rfl⟩⟩; refine ⟨_, rfl, ?_⟩))
 go_ret
 exact ⟨by first | rfl | (simp; done) | (simp [*]; done), by repeat (first | exact Drawn0.refl _ | apply Drawn0.step)⟩
theorem Index_ev (l : List Int) (x : Int) (hl : l.length ≤ 1048576) : ∀ (cs pre : List Int), l = pre ++ cs → ∃ r : Int, Ev (fun k => slices_Index_int64.l0 k l x (l.length : Int) (pre.length : Int)) r ∧ decide (r ≥ 0) = cs.contains x := by
 intro cs
 induction cs with
 | nil =>
  intro pre hpre
  refine ⟨-1, Ev.step (fun k => by rw [slices_Index_int64.l0]) ?_, by simp⟩
  have : l.length = pre.length := by rw [hpre]; simp
  simp only [show ¬ (pre.length : Int) < (l.length : Int) by omega, ↓reduceIte]
  exact Ev.now _
 | cons c cs ih =>
  intro pre hpre
  have hlen : l.length = pre.length + cs.length + 1 := by rw [hpre]; simp; omega
  have hc : rd l (pre.length : Int) = c := by rw [hpre]; simp [rd, List.getD_eq_getElem?_getD]
  have hw : wrap64 ((pre.length : Int) + 1) = ((pre.length + 1 : Nat) : Int) := by unfold wrap64; omega
  obtain ⟨r, hr, hd⟩ := ih (pre ++ [c]) (by rw [hpre]; simp)
  simp only [List.length_append, List.length_cons, List.length_nil, Nat.zero_add] at hr
  by_cases h : x = c
  ·refine ⟨(pre.length : Int), Ev.step (fun k => by rw [slices_Index_int64.l0]) ?_, by simp [h]⟩
   simp only [show (pre.length : Int) < (l.length : Int) by omega, show (0 : Int) ≤ (pre.length : Int) by omega, ↓reduceIte, hc, h]
   exact Ev.now _
  ·refine ⟨r, Ev.step (fun k => by rw [slices_Index_int64.l0]) ?_, by rw [hd]; simp [h]⟩
   simp only [show (pre.length : Int) < (l.length : Int) by omega, show (0 : Int) ≤ (pre.length : Int) by omega, ↓reduceIte, hc, h, hw]
   exact hr
theorem Contains_some (l : List Int) (x : Int) (hl : l.length ≤ 1048576) : ∃ k, slices_Contains_int64.f k l x = some (l.contains x) := by
 obtain ⟨r, hr, hd⟩ := Index_ev l x hl l [] rfl
 refine Ev.rounds ?_
 unfold slices_Contains_int64.f slices_Index_int64.f
 exact Ev.bind hr (by rw [hd]; exact Ev.now _)
def updB (sc : List Int → Int) (o : List Int) (s : List Int × Int) : List Int × Int := if sc o ≥ 0 ∧ (s.2 < 0 ∨ sc o < s.2) then (o, sc o) else s
def dfsB (sc : List Int → Int) (n : Nat) : Nat → List Int → List Int × Int → List Int × Int
 | 0, o, s => updB sc o s
 | d + 1, o, s => (List.range n).foldl (fun (s : List Int × Int) (i : Nat) => if o.contains (i : Int) = true then s else dfsB sc n d (o ++ [(i : Int)]) s) s
def bestB (sc : List Int → Int) (n : Nat) : List Int × Int := dfsB sc n n [] ([], -1)
theorem C_new1 (w : World) (x : Int) : Kd.C (Kd.int .i64) (w.alloc (.cells #[.int .i64 x] 2)) (some ⟨w.heap.size, 0, none⟩) [x].length [x] := by
 refine Own.C_single [.int .i64 x] rfl (fun i u hu => ?_)
 rcases i with _ | i
 ·simp at hu
  subst hu
  simp [go_sem]
 ·simp at hu
def SetB (gl gb : Nat) : Nat → Prop := fun k => k = gl ∨ k = gb
def OkB (gl gb : Nat) : Nat → Prop := fun k => k ≠ gl ∧ k ≠ gb
structure StB (W0 W : World) (gn gs gl gb gc : Nat) (n : Nat) (vs vc : Value) (s : List Int × Int) : Prop where
 bel : Below W0.heap.size W0 W
 hn : W.heap[gn]? = some (.cells #[.int .i64 (n : Int)] 3 (0, 0))
 hs : W.heap[gs]? = some (.cells #[vs] 114 (0, 0))
 hl : W.heap[gl]? = some (.cells #[.int .i64 s.2] 2 (0, 0))
 hc : W.heap[gc]? = some (.cells #[vc] 129 (0, 0))
 hb : ∃ v : Value, W.heap[gb]? = some (.cells #[v] 30 (0, 0)) ∧ Kd.R (Kd.int .i64) 2 W W0.heap.size (OkB gl gb) v s.1
theorem StB.below {W0 W W' : World} {gn gs gl gb gc n : Nat} {vs vc : Value} {s : List Int × Int} (h : StB W0 W gn gs gl gb gc n vs vc s) (b : Below W.heap.size W W') : StB W0 W' gn gs gl gb gc n vs vc s := by
 obtain ⟨v, h1, h2⟩ := h.hb
 exact ⟨below_step h.bel b, blk_below h.hn b, blk_below h.hs b, blk_below h.hl b, blk_below h.hc b, v, blk_below h1 b, Kd.R_below h2 b⟩
theorem StB.store {W0 W : World} {gn gs gl gb gc n : Nat} {vs vc v : Value} {s : List Int × Int} {o : List Int} {m : Int} (h : StB W0 W gn gs gl gb gc n vs vc s) (hl : W0.heap.size ≤ gl) (hb : W0.heap.size ≤ gb)
  (ho : Kd.R (Kd.int .i64) 2 W W0.heap.size (OkB gl gb) v o) : StB W0 ((W.setCell ⟨gb, 0, none⟩ v).setCell ⟨gl, 0, none⟩ (.int .i64 m)) gn gs gl gb gc n vs vc (o, m) := by
 obtain ⟨v0, h1, h2⟩ := h.hb
 have n1 : gn ≠ gb := blk_ne h.hn h1 (by decide)
 have n2 : gn ≠ gl := blk_ne h.hn h.hl (by decide)
 have n3 : gs ≠ gb := blk_ne h.hs h1 (by decide)
 have n4 : gs ≠ gl := blk_ne h.hs h.hl (by decide)
 have n5 : gc ≠ gb := blk_ne h.hc h1 (by decide)
 have n6 : gc ≠ gl := blk_ne h.hc h.hl (by decide)
 have n7 : gl ≠ gb := blk_ne h.hl h1 (by decide)
 have hk : Kept W ((W.setCell ⟨gb, 0, none⟩ v).setCell ⟨gl, 0, none⟩ (.int .i64 m)) (SetB gl gb) := ((Kept.refl W _).setCell (.inl (.inr rfl)) v).setCell (.inl (.inl rfl)) _
 refine ⟨below_set (below_set h.bel hb) hl, blk_far (blk_far h.hn n1 _) n2 _, blk_far (blk_far h.hs n3 _) n4 _, ?_, blk_far (blk_far h.hc n5 _) n6 _, v, ?_, ?_⟩
 ·exact blk_put (blk_far h.hl n7 _) 0 _ rfl
 ·exact blk_far (blk_put h1 0 _ rfl) n7.symm _
 ·exact Kd.R_kept ho hk (fun k hk hS => by rcases hS with rfl | rfl; exact hk.1 rfl; exact hk.2 rfl)
def stepB (sc : List Int → Int) (n d : Nat) (o : List Int) (s : List Int × Int) (i : Nat) : List Int × Int := if o.contains (i : Int) = true then s else dfsB sc n d (o ++ [(i : Int)]) s
def ValidO (n : Nat) (o : List Int) : Prop := ∀ x ∈ o, 0 ≤ x ∧ x < (n : Int)
set_option maxHeartbeats 4000000 in
set_option maxRecDepth 100000 in
theorem choose_calls (W0 : World) (gn gs gl gb gc n : Nat) (g : Nat) (lb : Array Value) (sc : List Int → Int) (hn : n ≤ 1000)
  (hl : W0.heap.size ≤ gl) (hb : W0.heap.size ≤ gb)
  (eg : ∀ args w, (callFunc g args).run Try.prog w = .ok (.enter g args) w)
  (hsc : ∀ (W : World) (A : Option Addr) (c : Nat) (o : List Int), Below W0.heap.size W0 W → Kd.C (Kd.int .i64) W A o.length o → o.length ≤ c → o.length = n → ValidO n o →
   Calls Try.prog g (#[.slice A o.length c] ++ lb) W fun e w' => e = .returned (.int .i64 (sc o)) ∧ Below W.heap.size W w') :
  ∀ (d : Nat) (W : World) (v : Value) (o : List Int) (s : List Int × Int), o.length + d = n → ValidO n o → Kd.R (Kd.int .i64) 2 W W0.heap.size (OkB gl gb) v o →
   StB W0 W gn gs gl gb gc n (.func (.func g) #[] lb) (.func (.func 133) #[] #[.pointer (some ⟨gn, 0, none⟩), .pointer (some ⟨gs, 0, none⟩), .pointer (some ⟨gl, 0, none⟩), .pointer (some ⟨gb, 0, none⟩), .pointer (some ⟨gc, 0, none⟩)]) s →
   Calls Try.prog 133 #[v, .pointer (some ⟨gn, 0, none⟩), .pointer (some ⟨gs, 0, none⟩), .pointer (some ⟨gl, 0, none⟩), .pointer (some ⟨gb, 0, none⟩), .pointer (some ⟨gc, 0, none⟩)] W fun e w' =>
    e = .returned (.tuple #[]) ∧ Kept W w' (SetB gl gb) ∧ StB W0 w' gn gs gl gb gc n (.func (.func g) #[] lb) (.func (.func 133) #[] #[.pointer (some ⟨gn, 0, none⟩), .pointer (some ⟨gs, 0, none⟩), .pointer (some ⟨gl, 0, none⟩), .pointer (some ⟨gb, 0, none⟩), .pointer (some ⟨gc, 0, none⟩)]) (dfsB sc n d o s) := by
 intro d
 induction d with
 | zero =>
  intro W v o s hd hv hR hS
  have hR' := hR
  obtain ⟨A, c, rfl, hoc, hC⟩ := Kd.R_reads hR'
  clear hR'
  have q1 : W.cell? ⟨gn, 0, none⟩ = some (.int .i64 (n : Int)) := (blk_cell hS.hn 0).trans rfl
  have q2 : W.cell? ⟨gs, 0, none⟩ = some (.func (.func g) #[] lb) := (blk_cell hS.hs 0).trans rfl
  have e1 : ((o.length : Int) == (n : Int)) = true := by simp; omega
  have e2 : (o.length == n) = true := by simp; omega
  have HS := Aside0.mk hS
  have HR := Aside0.mk hR
  have hcall := hsc W A c o hS.bel hC hoc (by omega) hv
  have HU := Aside0.mk (show dfsB sc n 0 o s = updB sc o s from rfl)
  unfold updB at HU
  obtain ⟨x, hx⟩ : ∃ x, sc o = x := ⟨_, rfl⟩
  obtain ⟨m, hm⟩ : ∃ m, s.2 = m := ⟨_, rfl⟩
  rw [hx] at hcall HU
  rw [hm] at HU
  have HM := Aside0.mk hm
  have HSC := Aside0.mk hcall
  clear hS hR hC hsc hcall hx hm
  have fin : ∀ W' : World, Below W.heap.size W W' → StB W0 W' gn gs gl gb gc n (.func (.func g) #[] lb) (.func (.func 133) #[] #[.pointer (some ⟨gn, 0, none⟩), .pointer (some ⟨gs, 0, none⟩), .pointer (some ⟨gl, 0, none⟩), .pointer (some ⟨gb, 0, none⟩), .pointer (some ⟨gc, 0, none⟩)]) s := fun W' h => HS.out.below h
  have FIN := Aside0.mk fin
  clear fin
  by_cases h1 : x ≥ 0
  ·have c1 : decide (x ≥ 0) = true := decide_eq_true h1
   by_cases h2 : m < 0
   ·have c2 : decide (m < 0) = true := decide_eq_true h2
    have HU2 := Aside0.mk (HU.out.trans (if_pos ⟨h1, .inl h2⟩))
    clear h1 h2 HU
    go_enter Try.func133, Try.ntmps133
    go_wp2_with (go_at_fn g; refine HSC.out.mono ?_; rintro e w1 ⟨rfl, hb1⟩; have hS1 := FIN.out w1 hb1; have q3 : w1.cell? ⟨gl, 0, none⟩ = some (.int .i64 m) := (blk_cell hS1.hl 0).trans (by rw [HM.out]; rfl); obtain ⟨vb, hvb, _⟩ := hS1.hb; have q4 : w1.cell? ⟨gb, 0, none⟩ = some vb := (blk_cell hvb 0).trans rfl; have q5 := blk_frozen hvb 0; have n7 : gl ≠ gb := blk_ne hS1.hl hvb (by decide); have hl2 := blk_far (p := ⟨gb, 0, none⟩) hS1.hl n7 (.slice A o.length c); have q6 : (w1.setCell ⟨gb, 0, none⟩ (.slice A o.length c)).cell? ⟨gl, 0, none⟩ = some (.int .i64 m) := (blk_cell hl2 0).trans (by rw [HM.out]; rfl); have q7 := blk_frozen hl2 0; have HS1 := Aside0.mk hS1; have HB1 := Aside0.mk hb1; clear hS1 hb1 hvb hl2 n7)
    (try simp only [Exit.inBlock, Exit.then]); refine bodyPost_ret (results_none rfl _ _ _) rfl ?_
    rw [HU2.out]
    exact ⟨rfl, ((Kept.of_below HB1.out _).setCell (.inl (.inr rfl)) _).setCell (.inl (.inl rfl)) _, HS1.out.store hl hb (Kd.R_below HR.out HB1.out)⟩
   ·have c2 : decide (m < 0) = false := decide_eq_false h2
    by_cases h3 : x < m
    ·have c3 : decide (x < m) = true := decide_eq_true h3
     have HU2 := Aside0.mk (HU.out.trans (if_pos ⟨h1, .inr h3⟩))
     clear h1 h2 h3 HU
     go_enter Try.func133, Try.ntmps133
     go_wp2_with (go_at_fn g; refine HSC.out.mono ?_; rintro e w1 ⟨rfl, hb1⟩; have hS1 := FIN.out w1 hb1; have q3 : w1.cell? ⟨gl, 0, none⟩ = some (.int .i64 m) := (blk_cell hS1.hl 0).trans (by rw [HM.out]; rfl); obtain ⟨vb, hvb, _⟩ := hS1.hb; have q4 : w1.cell? ⟨gb, 0, none⟩ = some vb := (blk_cell hvb 0).trans rfl; have q5 := blk_frozen hvb 0; have n7 : gl ≠ gb := blk_ne hS1.hl hvb (by decide); have hl2 := blk_far (p := ⟨gb, 0, none⟩) hS1.hl n7 (.slice A o.length c); have q6 : (w1.setCell ⟨gb, 0, none⟩ (.slice A o.length c)).cell? ⟨gl, 0, none⟩ = some (.int .i64 m) := (blk_cell hl2 0).trans (by rw [HM.out]; rfl); have q7 := blk_frozen hl2 0; have HS1 := Aside0.mk hS1; have HB1 := Aside0.mk hb1; clear hS1 hb1 hvb hl2 n7)
     (try simp only [Exit.inBlock, Exit.then]); refine bodyPost_ret (results_none rfl _ _ _) rfl ?_
     rw [HU2.out]
     exact ⟨rfl, ((Kept.of_below HB1.out _).setCell (.inl (.inr rfl)) _).setCell (.inl (.inl rfl)) _, HS1.out.store hl hb (Kd.R_below HR.out HB1.out)⟩
    ·have c3 : decide (x < m) = false := decide_eq_false h3
     have HU2 := Aside0.mk (HU.out.trans (if_neg (fun h => h.2.elim h2 h3)))
     clear h1 h2 h3 HU
     go_enter Try.func133, Try.ntmps133
     go_wp2_with (go_at_fn g; refine HSC.out.mono ?_; rintro e w1 ⟨rfl, hb1⟩; have hS1 := FIN.out w1 hb1; have q3 : w1.cell? ⟨gl, 0, none⟩ = some (.int .i64 m) := (blk_cell hS1.hl 0).trans (by rw [HM.out]; rfl); obtain ⟨vb, hvb, _⟩ := hS1.hb; have q4 : w1.cell? ⟨gb, 0, none⟩ = some vb := (blk_cell hvb 0).trans rfl; have q5 := blk_frozen hvb 0; have n7 : gl ≠ gb := blk_ne hS1.hl hvb (by decide); have hl2 := blk_far (p := ⟨gb, 0, none⟩) hS1.hl n7 (.slice A o.length c); have q6 : (w1.setCell ⟨gb, 0, none⟩ (.slice A o.length c)).cell? ⟨gl, 0, none⟩ = some (.int .i64 m) := (blk_cell hl2 0).trans (by rw [HM.out]; rfl); have q7 := blk_frozen hl2 0; have HS1 := Aside0.mk hS1; have HB1 := Aside0.mk hb1; clear hS1 hb1 hvb hl2 n7)
     (try simp only [Exit.inBlock, Exit.then]); refine bodyPost_ret (results_none rfl _ _ _) rfl ?_
     rw [HU2.out]
     exact ⟨rfl, Kept.of_below HB1.out _, HS1.out⟩
  ·have c1 : decide (x ≥ 0) = false := decide_eq_false h1
   have HU2 := Aside0.mk (HU.out.trans (if_neg (fun h => h1 h.1)))
   clear h1 HU
   go_enter Try.func133, Try.ntmps133
   go_wp2_with (go_at_fn g; refine HSC.out.mono ?_; rintro e w1 ⟨rfl, hb1⟩; have hS1 := FIN.out w1 hb1; have q3 : w1.cell? ⟨gl, 0, none⟩ = some (.int .i64 m) := (blk_cell hS1.hl 0).trans (by rw [HM.out]; rfl); obtain ⟨vb, hvb, _⟩ := hS1.hb; have q4 : w1.cell? ⟨gb, 0, none⟩ = some vb := (blk_cell hvb 0).trans rfl; have q5 := blk_frozen hvb 0; have n7 : gl ≠ gb := blk_ne hS1.hl hvb (by decide); have hl2 := blk_far (p := ⟨gb, 0, none⟩) hS1.hl n7 (.slice A o.length c); have q6 : (w1.setCell ⟨gb, 0, none⟩ (.slice A o.length c)).cell? ⟨gl, 0, none⟩ = some (.int .i64 m) := (blk_cell hl2 0).trans (by rw [HM.out]; rfl); have q7 := blk_frozen hl2 0; have HS1 := Aside0.mk hS1; have HB1 := Aside0.mk hb1; clear hS1 hb1 hvb hl2 n7)
   (try simp only [Exit.inBlock, Exit.then]); refine bodyPost_ret (results_none rfl _ _ _) rfl ?_
   rw [HU2.out]
   exact ⟨rfl, Kept.of_below HB1.out _, HS1.out⟩
 | succ d ih =>
  intro W v o s hd hv hR hS
  have q1 : W.cell? ⟨gn, 0, none⟩ = some (.int .i64 (n : Int)) := (blk_cell hS.hn 0).trans rfl
  obtain ⟨A, c, rfl, hoc, _⟩ := Kd.R_reads hR
  have e1 : ((o.length : Int) == (n : Int)) = false := by simp; omega
  have e2 : (o.length == n) = false := by simp; omega
  have HS := Aside0.mk hS
  have HR := Aside0.mk hR
  have IH := Aside0.mk ih
  clear hS hR hsc ih
  go_enter Try.func133, Try.ntmps133
  go_wp2
  go_loopg [8, 30] n (fun gg _ v30 w' => ∃ kk : Nat, kk ≤ n ∧ n - kk ≤ gg ∧ v30 = .int .i64 (kk : Int) ∧ Aside0 (Kept W w' (SetB gl gb)) ∧ Aside0 (StB W0 w' gn gs gl gb gc n (.func (.func g) #[] lb) (.func (.func 133) #[] #[.pointer (some ⟨gn, 0, none⟩), .pointer (some ⟨gs, 0, none⟩), .pointer (some ⟨gl, 0, none⟩), .pointer (some ⟨gb, 0, none⟩), .pointer (some ⟨gc, 0, none⟩)]) ((List.range kk).foldl (stepB sc n d o) s)))
  case atStart => exact ⟨0, Nat.zero_le _, by omega, rfl, ⟨Kept.refl _ _⟩, HS⟩
  case round =>
   obtain ⟨kk, hkk, hg, rfl, KP, HSr⟩ := hrel
   by_cases hlt : kk < n
   ·have hlti : (kk : Int) < (n : Int) := by omega
    have hRr := Kd.R_kept HR.out KP.out (fun k hk hS => by rcases hS with rfl | rfl; exact hk.1 rfl; exact hk.2 rfl)
    obtain ⟨A2, c2, ee, _, hCr⟩ := Kd.R_reads hRr
    cases ee
    obtain ⟨r, hr⟩ := Contains_some o (kk : Int) (by omega)
    have HRr := Aside0.mk hRr
    have HCr := Aside0.mk hCr
    have HCO := Aside0.mk hr
    clear hRr hCr hr
    cases hcon : o.contains (kk : Int) with
    | true =>
     rw [hcon] at HCO
     have hfold : (List.range (kk + 1)).foldl (stepB sc n d o) s = stepB sc n d o ((List.range kk).foldl (stepB sc n d o) s) kk := by rw [List.range_succ, List.foldl_append]; rfl
     have HF := Aside0.mk (hfold.trans (if_pos hcon))
     clear hfold hcon
     go_wp2_with (go_at_call 134; refine (slices_Contains_int64.calls r A c o (kk : Int) true _ HCr.out hoc HCO.out).mono ?_; rintro e w1 ⟨rfl, ⟨nd, rfl⟩⟩)
     go_roundg (n - (kk + 1))
     case measure => omega
     case rel => exact ⟨kk + 1, by omega, by omega, by go_num, ⟨KP.out.drewN nd⟩, ⟨by rw [HF.out]; exact HSr.out.below (pw_below_drewN (Below.refl _ _) nd)⟩⟩
    | false =>
     rw [hcon] at HCO
     have hfold : (List.range (kk + 1)).foldl (stepB sc n d o) s = stepB sc n d o ((List.range kk).foldl (stepB sc n d o) s) kk := by rw [List.range_succ, List.foldl_append]; rfl
     have HF := Aside0.mk (hfold.trans (if_neg (by rw [hcon]; decide)))
     have hvn : ValidO n (o ++ [(kk : Int)]) := by
      intro x hx
      rcases List.mem_append.mp hx with hx | hx
      ·exact hv x hx
      ·rw [List.mem_singleton] at hx
       omega
     have q3 : wr.cell? ⟨gc, 0, none⟩ = some (.func (.func 133) #[] #[.pointer (some ⟨gn, 0, none⟩), .pointer (some ⟨gs, 0, none⟩), .pointer (some ⟨gl, 0, none⟩), .pointer (some ⟨gb, 0, none⟩), .pointer (some ⟨gc, 0, none⟩)]) := (blk_cell HSr.out.hc 0).trans rfl
     have lc : gc < wr.heap.size := blk_lt HSr.out.hc
     have LC := Aside0.mk lc
     have LL := Aside0.mk (show gl < wr.heap.size from blk_lt HSr.out.hl)
     have LB := Aside0.mk (show gb < wr.heap.size from by obtain ⟨_, hvb, _⟩ := HSr.out.hb; exact blk_lt hvb)
     have HVN := Aside0.mk hvn
     have HCL := Aside0.mk (show slices_Clone_int64.f o = some o from if_pos (by omega))
     have HOL := Aside0.mk (show o.length ≤ 1000 by omega)
     clear hfold hcon hvn lc
     go_wp2_with (go_at_call 134; refine (slices_Contains_int64.calls r A c o (kk : Int) false _ HCr.out hoc HCO.out).mono ?_; rintro e w1 ⟨rfl, ⟨nd, rfl⟩⟩)
     go_region_held3 (fun w' => w'.cell? ⟨gc, 0, none⟩ = some (.func (.func 133) #[] #[.pointer (some ⟨gn, 0, none⟩), .pointer (some ⟨gs, 0, none⟩), .pointer (some ⟨gl, 0, none⟩), .pointer (some ⟨gb, 0, none⟩), .pointer (some ⟨gc, 0, none⟩)]))
      (first
       | assumption
       | exact (pw_cell_below hb1 (by assumption))
       | exact pw_cell_below (below_alloc (Below.refl _ _) _) (by assumption)
       | exact pw_cell_below (below_alloc (Below.refl _ _) _) (pw_cell_below hb1 (by assumption))
       | exact pw_cell_below hb2 q3
       | exact (blk_cell hs3.hc 0).trans rfl)
      (first
       | (go_at_call 125; refine (slices_Clone_int64.calls A c o o _ (Kd.C_below HCr.out (by repeat (first | exact Below.refl _ _ | apply pw_below_drewN | apply below_drew | apply below_alloc))) hoc HCL.out).mono ?_; rintro e w1 ⟨v1, rfl, ho1, hb1⟩)
       | (have HB_ : Below wr.heap.size wr (w1.alloc (.cells #[.int .i64 (kk : Int)] 2)) := (by repeat (first | exact Below.refl _ _ | apply below_alloc | apply pw_below_drewN | apply below_drew | refine below_step ?_ hb1)); have HO_ : Kd.R (Kd.int .i64) 2 (w1.alloc (.cells #[.int .i64 (kk : Int)] 2)) wr.heap.size (fun _ => True) v1 o := (Kd.R_lower (Kd.R_below ho1 (below_alloc (Below.refl _ _) _)) (below_size (by repeat (first | exact Below.refl _ _ | apply below_alloc | apply pw_below_drewN | apply below_drew)))); have HR_ : Kd.C (Kd.int .i64) (w1.alloc (.cells #[.int .i64 (kk : Int)] 2)) _ [(kk : Int)].length [(kk : Int)] := C_new1 w1 kk; refine Kd.R_append_rows_step (Kd.int .i64) (w0 := wr) wr.heap.size ?hw (.tmp 39) (.tmp 41) 30 2 (.int .i64 0) 8 rfl Try.underlying30 info2 rfl (by decide) (by omega) v1 o [(kk : Int)] _ _ _ (fun _ => True) (fun _ => False) rfl rfl HO_ HR_ (fun _ _ h => h) (fun _ h => h.elim) (fun _ _ => trivial) HB_ HB_.size (by have := HOL.out; simp; omega) ?_; (case hw => first | rfl | kernel_rfl | decide); clear HO_ HR_ HB_; intro v2 w2 ho2 hb2 _ _)
       | (have HB_ : Below wr.heap.size wr (w1) := (by repeat (first | exact Below.refl _ _ | apply below_alloc | apply pw_below_drewN | apply below_drew | refine below_step ?_ hb1)); have HO_ : Kd.R (Kd.int .i64) 2 (w1) wr.heap.size (fun _ => True) v1 o := (Kd.R_lower ho1 (below_size (by repeat (first | exact Below.refl _ _ | apply below_alloc | apply pw_below_drewN | apply below_drew)))); have HR_ : Kd.C (Kd.int .i64) (w1) _ [(kk : Int)].length [(kk : Int)] := (Kd.C_below (C_new1 _ kk) hb1); refine Kd.R_append_rows_step (Kd.int .i64) (w0 := wr) wr.heap.size ?hw (.tmp 39) (.tmp 41) 30 2 (.int .i64 0) 8 rfl Try.underlying30 info2 rfl (by decide) (by omega) v1 o [(kk : Int)] _ _ _ (fun _ => True) (fun _ => False) rfl rfl HO_ HR_ (fun _ _ h => h) (fun _ h => h.elim) (fun _ _ => trivial) HB_ HB_.size (by have := HOL.out; simp; omega) ?_; (case hw => first | rfl | kernel_rfl | decide); clear HO_ HR_ HB_; intro v2 w2 ho2 hb2 _ _)
       | (go_at_call 133; refine (IH.out w2 v2 (o ++ [(kk : Int)]) _ (by simp; omega) HVN.out (Kd.R_lower (Kd.R_mono (Kd.R_bound ho2) (fun k hk => ⟨by have := hk.2.1; have := LL.out; omega, by have := hk.2.1; have := LB.out; omega⟩)) HSr.out.bel.size) (HSr.out.below hb2)).mono ?_; rintro e w3 ⟨rfl, hk3, hs3⟩))
     ·go_wp2
      go_roundg (n - (kk + 1))
      case measure => omega
      case rel => exact ⟨kk + 1, by omega, by omega, by go_num, ⟨KP.out.then_ ((Kept.of_below hb2 (SetB gl gb)).then_ hk3 (fun _ h => .inl h)) (fun _ h => .inl h)⟩, ⟨by rw [HF.out]; exact hs3⟩⟩
     ·go_wp2
      go_roundg (n - (kk + 1))
      case measure => omega
      case rel => exact ⟨kk + 1, by omega, by omega, by go_num, ⟨KP.out.then_ ((Kept.of_below hb2 (SetB gl gb)).then_ hk3 (fun _ h => .inl h)) (fun _ h => .inl h)⟩, ⟨by rw [HF.out]; exact hs3⟩⟩
   ·have hlti : ¬ (kk : Int) < (n : Int) := by omega
    go_wp2
    go_end0
    obtain rfl : kk = n := by omega
    exact ⟨rfl, KP.out, HSr.out⟩
set_option maxHeartbeats 4000000 in
set_option maxRecDepth 100000 in
theorem bestOrder_calls (W0 : World) (n : Nat) (g : Nat) (lb : Array Value) (sc : List Int → Int) (hn : n ≤ 1000)
  (eg : ∀ args w, (callFunc g args).run Try.prog w = .ok (.enter g args) w)
  (hsc : ∀ (W : World) (A : Option Addr) (c : Nat) (o : List Int), Below W0.heap.size W0 W → Kd.C (Kd.int .i64) W A o.length o → o.length ≤ c → o.length = n → ValidO n o →
   Calls Try.prog g (#[.slice A o.length c] ++ lb) W fun e w' => e = .returned (.int .i64 (sc o)) ∧ Below W.heap.size W w') :
  Calls Try.prog 112 #[.int .i64 (n : Int), .func (.func g) #[] lb] W0 fun e w' =>
    ∃ v : Value, e = .returned (.tuple #[v, .int .i64 (bestB sc n).2]) ∧ Kd.R (Kd.int .i64) 2 w' W0.heap.size (fun _ => True) v (bestB sc n).1 ∧ Below W0.heap.size W0 w' := by
 have CH := Aside0.mk (fun gn gs gl gb gc hl hb => choose_calls W0 gn gs gl gb gc n g lb sc hn hl hb eg hsc n)
 clear hsc
 have n0 : ∀ (w : World) (o : Obj) (k : Nat), w.heap.size = k → (w.alloc o).heap.size = k + 1 := fun w o k h => by rw [← h]; simp
 have nw : ∀ (w : World) (o : Obj) (k : Nat), w.heap.size = k → (w.alloc o).heap[k]? = some o := fun w o k h => h ▸ blk_new w o
 obtain ⟨W5, hW5⟩ : ∃ W5, W5 = (((((W0.alloc (.cells #[.int .i64 (n : Int)] 3)).alloc (.cells #[.func (.func g) #[] lb] 114)).alloc (.cells #[.slice none 0 0] 30)).alloc (.cells #[.int .i64 (-1)] 2)).alloc (.cells #[(.func (.func 133) #[] #[.pointer (some ⟨W0.heap.size, 0, none⟩), .pointer (some ⟨W0.heap.size + 1, 0, none⟩), .pointer (some ⟨W0.heap.size + 1 + 1 + 1, 0, none⟩), .pointer (some ⟨W0.heap.size + 1 + 1, 0, none⟩), .pointer (some ⟨W0.heap.size + 1 + 1 + 1 + 1, 0, none⟩)])] 129)) := ⟨_, rfl⟩
 have h1 : W5.heap[W0.heap.size]? = some (.cells #[.int .i64 (n : Int)] 3 (0, 0)) := by rw [hW5]; exact blk_alloc (blk_alloc (blk_alloc (blk_alloc (nw _ _ _ rfl) _) _) _) _
 have h2 : W5.heap[W0.heap.size + 1]? = some (.cells #[.func (.func g) #[] lb] 114 (0, 0)) := by rw [hW5]; exact blk_alloc (blk_alloc (blk_alloc (nw _ _ _ (n0 _ _ _ rfl)) _) _) _
 have h3 : W5.heap[W0.heap.size + 1 + 1]? = some (.cells #[.slice none 0 0] 30 (0, 0)) := by rw [hW5]; exact blk_alloc (blk_alloc (nw _ _ _ (n0 _ _ _ (n0 _ _ _ rfl))) _) _
 have h4 : W5.heap[W0.heap.size + 1 + 1 + 1]? = some (.cells #[.int .i64 (-1)] 2 (0, 0)) := by rw [hW5]; exact blk_alloc (nw _ _ _ (n0 _ _ _ (n0 _ _ _ (n0 _ _ _ rfl)))) _
 have h5 : W5.heap[W0.heap.size + 1 + 1 + 1 + 1]? = some (.cells #[(.func (.func 133) #[] #[.pointer (some ⟨W0.heap.size, 0, none⟩), .pointer (some ⟨W0.heap.size + 1, 0, none⟩), .pointer (some ⟨W0.heap.size + 1 + 1 + 1, 0, none⟩), .pointer (some ⟨W0.heap.size + 1 + 1, 0, none⟩), .pointer (some ⟨W0.heap.size + 1 + 1 + 1 + 1, 0, none⟩)])] 129 (0, 0)) := by rw [hW5]; exact nw _ _ _ (n0 _ _ _ (n0 _ _ _ (n0 _ _ _ (n0 _ _ _ rfl))))
 have hb : Below W0.heap.size W0 W5 := by rw [hW5]; exact below_alloc (below_alloc (below_alloc (below_alloc (below_alloc (Below.refl _ _) _) _) _) _) _
 have hst : StB W0 W5 W0.heap.size (W0.heap.size + 1) (W0.heap.size + 1 + 1 + 1) (W0.heap.size + 1 + 1) (W0.heap.size + 1 + 1 + 1 + 1) n (.func (.func g) #[] lb) (.func (.func 133) #[] #[.pointer (some ⟨W0.heap.size, 0, none⟩), .pointer (some ⟨W0.heap.size + 1, 0, none⟩), .pointer (some ⟨W0.heap.size + 1 + 1 + 1, 0, none⟩), .pointer (some ⟨W0.heap.size + 1 + 1, 0, none⟩), .pointer (some ⟨W0.heap.size + 1 + 1 + 1 + 1, 0, none⟩)]) ([], -1) :=
  ⟨hb, h1, h2, h4, h5, _, h3, Kd.R_nil _ _ _ _ _⟩
 have HST := Aside0.mk hst
 rw [hW5] at HST
 clear hst h1 h2 h3 h4 h5 hb hW5 n0 nw
 go_enter Try.func112, Try.ntmps112
 go_wp2_with ((go_at_call 133; refine (CH.out W0.heap.size (W0.heap.size + 1) (W0.heap.size + 1 + 1 + 1) (W0.heap.size + 1 + 1) (W0.heap.size + 1 + 1 + 1 + 1) (by omega) (by omega) _ (.slice none 0 0) [] ([], -1) (by simp) (by intro x hx; cases hx) (Kd.R_nil _ _ _ _ _) HST.out).mono ?_; rintro e w1 ⟨rfl, hk, hs⟩; have q4 : w1.cell? ⟨W0.heap.size + 1 + 1 + 1, 0, none⟩ = some (.int .i64 (bestB sc n).2) := (blk_cell hs.hl 0).trans rfl; obtain ⟨vb, hvb, hrb⟩ := hs.hb; have q5 : w1.cell? ⟨W0.heap.size + 1 + 1, 0, none⟩ = some vb := (blk_cell hvb 0).trans rfl; have HS1 := Aside0.mk hs; have HR1 := Aside0.mk hrb; clear hk hs hvb hrb))
 go_quiet (fail)
 go_wp2
 go_ret2
 exact ⟨vb, rfl, Kd.R_mono HR1.out (fun _ _ => trivial), pw_below_drewN HS1.out.bel _⟩
def impl_share.f (a0_0 : Int) (a0_1 : Int) (a1_0 : Int) (a1_1 : Int) : Option (Bool) := some (decide ((wrap64 ((wrap64 (a0_1)) + (wrap64 (a1_1)))) ≤ 120))
set_option maxHeartbeats 8000000 in
set_option maxRecDepth 100000 in
theorem impl_share.calls (a0_0 : Int) (a0_1 : Int) (a1_0 : Int) (a1_1 : Int) (r : Bool) (w : World) (h : impl_share.f a0_0 a0_1 a1_0 a1_1 = some r) :
  Calls Try.prog 103 #[.agg #[.int .i16 a0_0, .int .i16 a0_1], .agg #[.int .i16 a1_0, .int .i16 a1_1]] w fun e w' => e = .returned (.bool r) ∧ Below w.heap.size w w' := by
 have hu38 := Try.underlying38
 have HB := Aside0.mk (Below.refl w.heap.size w)
 have H : (some (decide ((wrap64 ((wrap64 (a0_1)) + (wrap64 (a1_1)))) ≤ 120))) = some r := h
 clear h
 obtain rfl := Option.some.inj H
 go_enter Try.func103, Try.ntmps103
 go_wp2_with (first | ((with_reducible refine gate_dst (N := 2) rfl ?_); refine box_event ?hg (N := 2) ?hd (cs := #[.int .i16 a0_0, .int .i16 a0_1]) (t := 38) ?hr ?_; (case hd => rfl); (case hg => rfl); (case hr => first | (go_simp; done) | (go_simp; rfl)); intro gb244 hg w3 hbox hb; have n0_ := Aside0.mk (below_step (by repeat (first | (with_reducible first | exact HB.out | apply below_alloc | apply pw_below_drewN | apply below_drew1) | exact HB.out)) hb); have n1_ := Aside0.mk (hbox); have n2_ := Aside0.mk ((by rw [hg]; exact (below_size (by repeat (first | (with_reducible first | exact HB.out | apply below_alloc | apply pw_below_drewN | apply below_drew1) | exact HB.out))) : w.heap.size ≤ gb244)); have n3_ := Aside0.mk ((by rw [hg]; exact (below_size (by repeat (first | (with_reducible first | exact HB.out | apply below_alloc | apply pw_below_drewN | apply below_drew1) | exact HB.out))) : w.heap.size ≤ gb244)); clear HB; have HB := n0_; have BK244 := n1_; have GW244 := n2_; have GE244 := n3_; clear n0_ n1_ n2_ n3_; clear hb hbox hg) | ((with_reducible refine gate_dst (N := 3) rfl ?_); refine box_event ?hg (N := 3) ?hd (cs := #[.int .i16 a1_0, .int .i16 a1_1]) (t := 38) ?hr ?_; (case hd => rfl); (case hg => rfl); (case hr => first | (go_simp; done) | (go_simp; rfl)); intro gb245 hg w4 hbox hb; have n0_ := Aside0.mk (blk_below (g := gb244) (o := .cells #[.int .i16 a0_0, .int .i16 a0_1] 38 (0, 0)) (by (with_reducible repeat (first | refine blk_drewN ?_ _ | refine blk_drew ?_ | refine blk_alloc ?_ _)); exact BK244.out) hb); have n1_ := Aside0.mk (below_step (by repeat (first | (with_reducible first | exact HB.out | apply below_alloc | apply pw_below_drewN | apply below_drew1 | refine below_set ?_ GE244.out) | exact HB.out)) hb); have n2_ := Aside0.mk (hbox); have n3_ := Aside0.mk ((by rw [hg]; exact (below_size (by repeat (first | (with_reducible first | exact HB.out | apply below_alloc | apply pw_below_drewN | apply below_drew1 | refine below_set ?_ GE244.out) | exact HB.out))) : w.heap.size ≤ gb245)); have n4_ := Aside0.mk ((by rw [hg]; exact (below_size (by repeat (first | (with_reducible first | exact HB.out | apply below_alloc | apply pw_below_drewN | apply below_drew1 | refine below_set ?_ GE244.out) | exact HB.out))) : w.heap.size ≤ gb245)); have n5_ := Aside0.mk ((by rw [hg]; exact Nat.ne_of_lt (blk_lt (g := gb244) (o := .cells #[.int .i16 a0_0, .int .i16 a0_1] 38 (0, 0)) (by (with_reducible repeat (first | refine blk_drewN ?_ _ | refine blk_drew ?_ | refine blk_alloc ?_ _)); exact BK244.out)) : gb244 ≠ gb245)); have n6_ := Aside0.mk ((by rw [hg]; exact Nat.ne_of_gt (blk_lt (g := gb244) (o := .cells #[.int .i16 a0_0, .int .i16 a0_1] 38 (0, 0)) (by (with_reducible repeat (first | refine blk_drewN ?_ _ | refine blk_drew ?_ | refine blk_alloc ?_ _)); exact BK244.out)) : gb245 ≠ gb244)); clear BK244; clear HB; have BK244 := n0_; have HB := n1_; have BK245 := n2_; have GW245 := n3_; have GE245 := n4_; have NB244_245 := n5_; have NB245_244 := n6_; clear n0_ n1_ n2_ n3_ n4_ n5_ n6_; clear hb hbox hg; have hnb5 := NB244_245.out; have hnc5 := NB245_244.out; have hcz6_0 : w4.cell? ⟨gb244, 0, none⟩ = some (.int .i16 a0_0) := (blk_cell BK244.out 0).trans rfl; have hcz6_1 : w4.cell? ⟨gb244, 1, none⟩ = some (.int .i16 a0_1) := (blk_cell BK244.out 1).trans rfl; have hfz6_0 := blk_frozen BK244.out 0; have hfz6_1 := blk_frozen BK244.out 1; have hcz7_0 : w4.cell? ⟨gb245, 0, none⟩ = some (.int .i16 a1_0) := (blk_cell BK245.out 0).trans rfl; have hcz7_1 : w4.cell? ⟨gb245, 1, none⟩ = some (.int .i16 a1_1) := (blk_cell BK245.out 1).trans rfl; have hfz7_0 := blk_frozen BK245.out 0; have hfz7_1 := blk_frozen BK245.out 1))
 go_ret
 exact ⟨by first | rfl | (simp [errW_none, errW_some] <;> rfl) | (simp [*, errW_none, errW_some] <;> rfl), by repeat (first | (with_reducible first | exact HB.out | apply below_alloc | apply pw_below_drewN | apply below_drew1 | refine below_set ?_ GE244.out | refine below_set ?_ GE245.out) | exact HB.out)⟩
end Go.Proofs.Ytlkpgpnieodifaa.Or
