/- Words and walks for the law FnOrders. -/
import Derived.Test.YtlkpgpnieodifaaTOr24
import Derived.Test.YtlkpgpnieodifaaTOr25
import Derived.Test.YtlkpgpnieodifaaTOr27
import Derived.Test.YtlkpgpnieodifaaTOr29
import Derived.Test.YtlkpgpnieodifaaTOr30
namespace Go.Proofs.Ytlkpgpnieodifaa.Or
open Go.RowKit Go.Proofs.YtlkpgpnieodifaaW.PrintWords Go.Proofs.YtlkpgpnieodifaaW.PrintLast Go.Proofs.YtlkpgpnieodifaaW.PrintMore
attribute [local go_sem] max2_int min2_int max_two min_two max_three min_three max_four min_four   -- for this text's walks alone
set_option linter.unusedVariables false
set_option linter.unusedSimpArgs false
attribute [local go_sem high] eqA38
def spec_A2SameCloths.l0 : Nat → List (S38) → List (S38) → Int → Option (Bool)
 | 0, _, _, _ => none
 | k + 1, x0, x1, x5 => if x5 < (x0.length : Int) then (if 0 ≤ x5 then (if x5 < (x1.length : Int) then (if (!(((rd_T38 x0 x5).f0) == ((rd_T38 x1 x5).f0)) || (!(((rd_T38 x0 x5).f1) == ((rd_T38 x1 x5).f1)))) = true then (some false) else (spec_A2SameCloths.l0 k x0 x1 (wrap64 (x5 + 1)))) else (none)) else (none)) else (some true)
def spec_A2SameCloths.f (k : Nat) (l0 : List (S38)) (l1 : List (S38)) : Option (Bool) := if (l0.length : Int) = (l1.length : Int) then (spec_A2SameCloths.l0 k l0 l1 0) else (some false)
set_option maxHeartbeats 8000000 in
set_option maxRecDepth 100000 in
theorem spec_A2SameCloths.calls (k : Nat) (A0 : Option Addr) (c0 : Nat) (l0 : List (S38)) (A1 : Option Addr) (c1 : Nat) (l1 : List (S38)) (r : Bool) (w : World) (hr0 : Kd.C k38 w A0 l0.length l0) (hc0 : l0.length ≤ c0) (hr1 : Kd.C k38 w A1 l1.length l1) (hc1 : l1.length ≤ c1) (h : spec_A2SameCloths.f k l0 l1 = some r) :
  Calls Try.prog 47 #[.slice A0 l0.length c0, .slice A1 l1.length c1] w fun e w' => e = .returned (.bool r) ∧ Drawn0 w w' := by
 have hu38 := Try.underlying38
 have HR0 := Aside0.mk hr0
 have HC0 := Aside0.mk hc0
 clear hr0 hc0
 have HR1 := Aside0.mk hr1
 have HC1 := Aside0.mk hc1
 clear hr1 hc1
 have H : (if (l0.length : Int) = (l1.length : Int) then (spec_A2SameCloths.l0 k l0 l1 0) else (some false)) = some r := h
 clear h
 by_cases c3 : (l0.length : Int) = (l1.length : Int)
 ·rw [if_pos c3] at H
  have c3b0 : ((l0.length : Int) == (l1.length : Int)) = true := beq_iff_eq.mpr c3
  have c3b1 : ((l0.length : Int) != (l1.length : Int)) = false := bne_eq_false_iff_eq.mpr c3
  have c3b2 : (l0.length == l1.length) = true := by first | simpa using c3 | (simp at c3 ⊢; omega)
  clear c3
  have H' := Aside0.mk H
  clear H
  go_enter Try.func47, Try.ntmps47
  go_wp2
  repeat (go_quiet (fail); try go_wp2)
  go_loopg [5] k (fun kq v5 w' => ∃ (x5_1 : Int), v5 = .int .i64 x5_1 ∧ Aside0 (spec_A2SameCloths.l0 kq l0 l1 x5_1 = some r) ∧ Aside0 (kq ≤ k) ∧ Drawn0 w w')
  case atStart => exact ⟨(0), (by first | rfl | (simp; done) | (simp [*]; done)), H', ⟨Nat.le_refl _⟩, by repeat (first | exact Drawn0.refl _ | apply Drawn0.step)⟩
  case round =>
   clear H'
   try clear c1
   try clear p2
   try clear c3
   try clear c3b0
   try clear c3b1
   try clear c3b2
   obtain ⟨x5_1, rfl, HA, HK1, ⟨m1, rfl⟩⟩ := hrel
   cases gk with
   | zero => exact absurd HA.out (by simp [spec_A2SameCloths.l0])
   | succ k1 =>
    have H := HA.out
    clear HA
    simp only [spec_A2SameCloths.l0] at H
    by_cases c4 : x5_1 < (l0.length : Int)
    ·rw [if_pos c4] at H
     have c4b0 : decide (x5_1 < (l0.length : Int)) = true := decide_eq_true c4
     clear c4
     by_cases c5 : 0 ≤ x5_1
     ·rw [if_pos c5] at H
      have c5b0 : decide (0 ≤ x5_1) = true := decide_eq_true c5
      clear c5
      by_cases c6 : x5_1 < (l1.length : Int)
      ·rw [if_pos c6] at H
       have c6b0 : decide (x5_1 < (l1.length : Int)) = true := decide_eq_true c6
       clear c6
       by_cases c7 : (!(((rd_T38 l0 x5_1).f0) == ((rd_T38 l1 x5_1).f0)) || (!(((rd_T38 l0 x5_1).f1) == ((rd_T38 l1 x5_1).f1)))) = true
       ·rw [if_pos c7] at H
        have c7b0 : (!(((rd_T38 l0 x5_1).f0) == ((rd_T38 l1 x5_1).f0)) || (!(((rd_T38 l0 x5_1).f1) == ((rd_T38 l1 x5_1).f1)))) = true := c7
        clear c7
        obtain rfl := Option.some.inj H
        have p355 : 0 ≤ (x5_1 : Int) := of_decide_eq_true (by first | (with_reducible assumption) | assumption)
        have q355 : x5_1 < (l0.length : Int) := of_decide_eq_true (by first | (with_reducible assumption) | assumption)
        obtain ⟨ad355, e355, hx355_0, hx355_1⟩ := at_T38 HR0.out x5_1 p355 q355
        cases e355
        replace p355 := eq_true p355
        replace q355 := eq_true q355
        have p356 : 0 ≤ (x5_1 : Int) := of_decide_eq_true (by first | (with_reducible assumption) | assumption)
        have q356 : x5_1 < (l1.length : Int) := of_decide_eq_true (by first | (with_reducible assumption) | assumption)
        obtain ⟨ad356, e356, hx356_0, hx356_1⟩ := at_T38 HR1.out x5_1 p356 q356
        cases e356
        replace p356 := eq_true p356
        replace q356 := eq_true q356
        go_wp2
        repeat (go_quiet (fail); try go_wp2)
        go_ret
        exact ⟨by first | rfl | (simp; done) | (simp [*]; done), by repeat (first | exact Drawn0.refl _ | apply Drawn0.step)⟩
       ·rw [if_neg c7] at H
        have c7b0 : (!(((rd_T38 l0 x5_1).f0) == ((rd_T38 l1 x5_1).f0)) || (!(((rd_T38 l0 x5_1).f1) == ((rd_T38 l1 x5_1).f1)))) = false := by simpa using c7
        clear c7
        have H' := Aside0.mk H
        clear H
        have p355 : 0 ≤ (x5_1 : Int) := of_decide_eq_true (by first | (with_reducible assumption) | assumption)
        have q355 : x5_1 < (l0.length : Int) := of_decide_eq_true (by first | (with_reducible assumption) | assumption)
        obtain ⟨ad355, e355, hx355_0, hx355_1⟩ := at_T38 HR0.out x5_1 p355 q355
        cases e355
        replace p355 := eq_true p355
        replace q355 := eq_true q355
        have p356 : 0 ≤ (x5_1 : Int) := of_decide_eq_true (by first | (with_reducible assumption) | assumption)
        have q356 : x5_1 < (l1.length : Int) := of_decide_eq_true (by first | (with_reducible assumption) | assumption)
        obtain ⟨ad356, e356, hx356_0, hx356_1⟩ := at_T38 HR1.out x5_1 p356 q356
        cases e356
        replace p356 := eq_true p356
        replace q356 := eq_true q356
        go_wp2
        repeat (go_quiet (fail); try go_wp2)
        go_roundg k1
        case measure => have := HK1.out; omega
        case rel => exact ⟨(wrap64 (x5_1 + 1)), (by first | rfl | (simp; done) | (simp [*]; done)), H', ⟨by have := HK1.out; omega⟩, by repeat (first | exact Drawn0.refl _ | apply Drawn0.step)⟩
      ·rw [if_neg c6] at H
       exact absurd H (by simp)
     ·rw [if_neg c5] at H
      exact absurd H (by simp)
    ·rw [if_neg c4] at H
     have c4b0 : decide (x5_1 < (l0.length : Int)) = false := decide_eq_false c4
     clear c4
     obtain rfl := Option.some.inj H
     go_wp2
     repeat (go_quiet (fail); try go_wp2)
     go_ret
     exact ⟨by first | rfl | (simp; done) | (simp [*]; done), by repeat (first | exact Drawn0.refl _ | apply Drawn0.step)⟩
 ·rw [if_neg c3] at H
  have c3b0 : ((l0.length : Int) == (l1.length : Int)) = false := beq_eq_false_iff_ne.mpr c3
  have c3b1 : ((l0.length : Int) != (l1.length : Int)) = true := bne_iff_ne.mpr c3
  have c3b2 : (l0.length == l1.length) = false := by first | simpa using c3 | (simp at c3 ⊢; omega)
  obtain rfl := Option.some.inj H
  go_enter Try.func47, Try.ntmps47
  go_wp2
  repeat (go_quiet (fail); try go_wp2)
  go_ret
  exact ⟨by first | rfl | (simp; done) | (simp [*]; done), by repeat (first | exact Drawn0.refl _ | apply Drawn0.step)⟩
def impl_PegsFor.f (k : Nat) (l0 : List (S38)) : Option (Int × Int) := (impl_clothCode.f k l0 100).bind fun t357 => (if t357 = 0 then ((impl_hungw.f l0).bind fun bt358 => (some (bt358.1, 0))) else (some (0, t357)))
set_option maxHeartbeats 8000000 in
set_option maxRecDepth 100000 in
theorem impl_PegsFor.calls (k : Nat) (A0 : Option Addr) (c0 : Nat) (l0 : List (S38)) (r1 : Int) (r2 : Int) (w : World) (hr0 : Kd.C k38 w A0 l0.length l0) (hc0 : l0.length ≤ c0) (h : impl_PegsFor.f k l0 = some (r1, r2)) :
  Calls Try.prog 48 #[.slice A0 l0.length c0] w fun e w' => e = .returned (.tuple #[.int .i64 r1, .int .i64 r2]) ∧ Below w.heap.size w w' := by
 have HR0 := Aside0.mk hr0
 have HC0 := Aside0.mk hc0
 clear hr0 hc0
 have HB := Aside0.mk (Below.refl w.heap.size w)
 have H : ((impl_clothCode.f k l0 100).bind fun t357 => (if t357 = 0 then ((impl_hungw.f l0).bind fun bt358 => (some (bt358.1, 0))) else (some (0, t357)))) = some (r1, r2) := h
 clear h
 replace H := Option.bind_eq_some_iff.mp H
 obtain ⟨t357, A20, H⟩ := H
 replace H : (if t357 = 0 then ((impl_hungw.f l0).bind fun bt358 => (some (bt358.1, 0))) else (some (0, t357))) = some (r1, r2) := H
 have A2 := Aside0.mk A20
 clear A20
 by_cases c3 : t357 = 0
 ·rw [if_pos c3] at H
  have c3b0 : (t357 == 0) = true := beq_iff_eq.mpr c3
  have c3b1 : (t357 != 0) = false := bne_eq_false_iff_eq.mpr c3
  clear c3
  replace H := Option.bind_eq_some_iff.mp H
  obtain ⟨⟨t358, t359, t360⟩, A40, H⟩ := H
  replace H : (some (t358, 0)) = some (r1, r2) := H
  have A4 := Aside0.mk A40
  clear A40
  simp only [Option.some.injEq, Prod.mk.injEq] at H
  obtain ⟨rfl, rfl⟩ := H
  go_enter Try.func48, Try.ntmps48
  go_wp2_with (first | ((with_reducible refine gate_callee (f := 96) rfl ?_); refine goesL_ (some 9) rfl rfl Try.func96 (by kernel_rfl) rfl #[.slice A0 l0.length c0, .int .i64 100] rfl (by (try simp only [List.map_toArray, List.map_cons, List.map_nil]); first | done | rfl | (simp only [List.length_drop, List.length_take]; rfl)) ?_; (with_reducible refine (impl_clothCode.calls k _ _ l0 100 t357 _ ?side1 ?side2 A2.out).mono ?_); (case side1 => repeat (first | exact HR0.out | (with_reducible refine Kd.C_alloc ?_ _) | (with_reducible refine Kd.C_drewN ?_ _) | (with_reducible refine Kd.C_drew ?_))); (case side2 => exact HC0.out); rintro e w5 ⟨rfl, hb⟩; refine ⟨_, rfl, ?_⟩; have n0_ := Aside0.mk (below_step (by repeat (first | (with_reducible first | exact HB.out | apply below_alloc | apply pw_below_drewN | apply below_drew1) | exact HB.out)) hb); clear HB; have HB := n0_; clear n0_; (try clear hb); (try clear hb2); (try clear hk); (try clear hi)) | ((with_reducible refine gate_callee (f := 114) rfl ?_); refine goesL_ (some 15) rfl rfl Try.func114 (by kernel_rfl) rfl #[.slice A0 l0.length c0] rfl (by (try simp only [List.map_toArray, List.map_cons, List.map_nil]); first | done | rfl | (simp only [List.length_drop, List.length_take]; rfl)) ?_; (with_reducible refine (impl_hungw.calls _ _ l0 t358 t359 t360 _ ?side1 ?side2 A4.out).mono ?_); (case side1 => repeat (first | exact (Kd.C_below HR0.out HB.out) | (with_reducible refine Kd.C_alloc ?_ _) | (with_reducible refine Kd.C_drewN ?_ _) | (with_reducible refine Kd.C_drew ?_))); (case side2 => exact HC0.out); rintro e w6 ⟨v361, rfl, ho0, hb⟩; refine ⟨_, rfl, ?_⟩; have n0_ := Aside0.mk (Kd.R_lower ho0 (below_size (by repeat (first | (with_reducible first | exact HB.out | apply below_alloc | apply pw_below_drewN | apply below_drew1) | exact HB.out)))); have n1_ := Aside0.mk (below_step (by repeat (first | (with_reducible first | exact HB.out | apply below_alloc | apply pw_below_drewN | apply below_drew1) | exact HB.out)) hb); clear HB; have HO362 := n0_; have HB := n1_; clear n0_ n1_; (try clear hb); (try clear hb2); (try clear hk); (try clear hi); (try clear ho0)))
  go_ret2
  exact ⟨by first | rfl | (simp [errW_none, errW_some] <;> rfl) | (simp [*, errW_none, errW_some] <;> rfl), by repeat (first | (with_reducible first | exact HB.out | apply below_alloc | apply pw_below_drewN | apply below_drew1) | exact HB.out)⟩
 ·rw [if_neg c3] at H
  have c3b0 : (t357 == 0) = false := beq_eq_false_iff_ne.mpr c3
  have c3b1 : (t357 != 0) = true := bne_iff_ne.mpr c3
  simp only [Option.some.injEq, Prod.mk.injEq] at H
  obtain ⟨rfl, rfl⟩ := H
  go_enter Try.func48, Try.ntmps48
  go_wp2_with (first | ((with_reducible refine gate_callee (f := 96) rfl ?_); refine goesL_ (some 9) rfl rfl Try.func96 (by kernel_rfl) rfl #[.slice A0 l0.length c0, .int .i64 100] rfl (by (try simp only [List.map_toArray, List.map_cons, List.map_nil]); first | done | rfl | (simp only [List.length_drop, List.length_take]; rfl)) ?_; (with_reducible refine (impl_clothCode.calls k _ _ l0 100 t357 _ ?side1 ?side2 A2.out).mono ?_); (case side1 => repeat (first | exact HR0.out | (with_reducible refine Kd.C_alloc ?_ _) | (with_reducible refine Kd.C_drewN ?_ _) | (with_reducible refine Kd.C_drew ?_))); (case side2 => exact HC0.out); rintro e w7 ⟨rfl, hb⟩; refine ⟨_, rfl, ?_⟩; have n0_ := Aside0.mk (below_step (by repeat (first | (with_reducible first | exact HB.out | apply below_alloc | apply pw_below_drewN | apply below_drew1) | exact HB.out)) hb); clear HB; have HB := n0_; clear n0_; (try clear hb); (try clear hb2); (try clear hk); (try clear hi)))
  go_ret2
  exact ⟨by first | rfl | (simp [errW_none, errW_some] <;> rfl) | (simp [*, errW_none, errW_some] <;> rfl), by repeat (first | (with_reducible first | exact HB.out | apply below_alloc | apply pw_below_drewN | apply below_drew1) | exact HB.out)⟩
def impl_WidthFor.f (k : Nat) (l0 : List (S38)) : Option (Int × Int) := (impl_clothCode.f k l0 100).bind fun t363 => (if t363 = 0 then ((impl_hungw.f l0).bind fun bt364 => (some (bt364.2.2, 0))) else (some (0, t363)))
set_option maxHeartbeats 8000000 in
set_option maxRecDepth 100000 in
theorem impl_WidthFor.calls (k : Nat) (A0 : Option Addr) (c0 : Nat) (l0 : List (S38)) (r1 : Int) (r2 : Int) (w : World) (hr0 : Kd.C k38 w A0 l0.length l0) (hc0 : l0.length ≤ c0) (h : impl_WidthFor.f k l0 = some (r1, r2)) :
  Calls Try.prog 49 #[.slice A0 l0.length c0] w fun e w' => e = .returned (.tuple #[.int .i64 r1, .int .i64 r2]) ∧ Below w.heap.size w w' := by
 have HR0 := Aside0.mk hr0
 have HC0 := Aside0.mk hc0
 clear hr0 hc0
 have HB := Aside0.mk (Below.refl w.heap.size w)
 have H : ((impl_clothCode.f k l0 100).bind fun t363 => (if t363 = 0 then ((impl_hungw.f l0).bind fun bt364 => (some (bt364.2.2, 0))) else (some (0, t363)))) = some (r1, r2) := h
 clear h
 replace H := Option.bind_eq_some_iff.mp H
 obtain ⟨t363, A20, H⟩ := H
 replace H : (if t363 = 0 then ((impl_hungw.f l0).bind fun bt364 => (some (bt364.2.2, 0))) else (some (0, t363))) = some (r1, r2) := H
 have A2 := Aside0.mk A20
 clear A20
 by_cases c3 : t363 = 0
 ·rw [if_pos c3] at H
  have c3b0 : (t363 == 0) = true := beq_iff_eq.mpr c3
  have c3b1 : (t363 != 0) = false := bne_eq_false_iff_eq.mpr c3
  clear c3
  replace H := Option.bind_eq_some_iff.mp H
  obtain ⟨⟨t364, t365, t366⟩, A40, H⟩ := H
  replace H : (some (t366, 0)) = some (r1, r2) := H
  have A4 := Aside0.mk A40
  clear A40
  simp only [Option.some.injEq, Prod.mk.injEq] at H
  obtain ⟨rfl, rfl⟩ := H
  go_enter Try.func49, Try.ntmps49
  go_wp2_with (first | ((with_reducible refine gate_callee (f := 96) rfl ?_); refine goesL_ (some 9) rfl rfl Try.func96 (by kernel_rfl) rfl #[.slice A0 l0.length c0, .int .i64 100] rfl (by (try simp only [List.map_toArray, List.map_cons, List.map_nil]); first | done | rfl | (simp only [List.length_drop, List.length_take]; rfl)) ?_; (with_reducible refine (impl_clothCode.calls k _ _ l0 100 t363 _ ?side1 ?side2 A2.out).mono ?_); (case side1 => repeat (first | exact HR0.out | (with_reducible refine Kd.C_alloc ?_ _) | (with_reducible refine Kd.C_drewN ?_ _) | (with_reducible refine Kd.C_drew ?_))); (case side2 => exact HC0.out); rintro e w5 ⟨rfl, hb⟩; refine ⟨_, rfl, ?_⟩; have n0_ := Aside0.mk (below_step (by repeat (first | (with_reducible first | exact HB.out | apply below_alloc | apply pw_below_drewN | apply below_drew1) | exact HB.out)) hb); clear HB; have HB := n0_; clear n0_; (try clear hb); (try clear hb2); (try clear hk); (try clear hi)) | ((with_reducible refine gate_callee (f := 114) rfl ?_); refine goesL_ (some 15) rfl rfl Try.func114 (by kernel_rfl) rfl #[.slice A0 l0.length c0] rfl (by (try simp only [List.map_toArray, List.map_cons, List.map_nil]); first | done | rfl | (simp only [List.length_drop, List.length_take]; rfl)) ?_; (with_reducible refine (impl_hungw.calls _ _ l0 t364 t365 t366 _ ?side1 ?side2 A4.out).mono ?_); (case side1 => repeat (first | exact (Kd.C_below HR0.out HB.out) | (with_reducible refine Kd.C_alloc ?_ _) | (with_reducible refine Kd.C_drewN ?_ _) | (with_reducible refine Kd.C_drew ?_))); (case side2 => exact HC0.out); rintro e w6 ⟨v367, rfl, ho0, hb⟩; refine ⟨_, rfl, ?_⟩; have n0_ := Aside0.mk (Kd.R_lower ho0 (below_size (by repeat (first | (with_reducible first | exact HB.out | apply below_alloc | apply pw_below_drewN | apply below_drew1) | exact HB.out)))); have n1_ := Aside0.mk (below_step (by repeat (first | (with_reducible first | exact HB.out | apply below_alloc | apply pw_below_drewN | apply below_drew1) | exact HB.out)) hb); clear HB; have HO368 := n0_; have HB := n1_; clear n0_ n1_; (try clear hb); (try clear hb2); (try clear hk); (try clear hi); (try clear ho0)))
  go_ret2
  exact ⟨by first | rfl | (simp [errW_none, errW_some] <;> rfl) | (simp [*, errW_none, errW_some] <;> rfl), by repeat (first | (with_reducible first | exact HB.out | apply below_alloc | apply pw_below_drewN | apply below_drew1) | exact HB.out)⟩
 ·rw [if_neg c3] at H
  have c3b0 : (t363 == 0) = false := beq_eq_false_iff_ne.mpr c3
  have c3b1 : (t363 != 0) = true := bne_iff_ne.mpr c3
  simp only [Option.some.injEq, Prod.mk.injEq] at H
  obtain ⟨rfl, rfl⟩ := H
  go_enter Try.func49, Try.ntmps49
  go_wp2_with (first | ((with_reducible refine gate_callee (f := 96) rfl ?_); refine goesL_ (some 9) rfl rfl Try.func96 (by kernel_rfl) rfl #[.slice A0 l0.length c0, .int .i64 100] rfl (by (try simp only [List.map_toArray, List.map_cons, List.map_nil]); first | done | rfl | (simp only [List.length_drop, List.length_take]; rfl)) ?_; (with_reducible refine (impl_clothCode.calls k _ _ l0 100 t363 _ ?side1 ?side2 A2.out).mono ?_); (case side1 => repeat (first | exact HR0.out | (with_reducible refine Kd.C_alloc ?_ _) | (with_reducible refine Kd.C_drewN ?_ _) | (with_reducible refine Kd.C_drew ?_))); (case side2 => exact HC0.out); rintro e w7 ⟨rfl, hb⟩; refine ⟨_, rfl, ?_⟩; have n0_ := Aside0.mk (below_step (by repeat (first | (with_reducible first | exact HB.out | apply below_alloc | apply pw_below_drewN | apply below_drew1) | exact HB.out)) hb); clear HB; have HB := n0_; clear n0_; (try clear hb); (try clear hb2); (try clear hk); (try clear hi)))
  go_ret2
  exact ⟨by first | rfl | (simp [errW_none, errW_some] <;> rfl) | (simp [*, errW_none, errW_some] <;> rfl), by repeat (first | (with_reducible first | exact HB.out | apply below_alloc | apply pw_below_drewN | apply below_drew1) | exact HB.out)⟩
def impl_ValidLine.f (a0_0 : Int) (a0_1 : Int) : Option (Bool) := (impl_within.f (wrap64 (a0_0)) 4 2000).bind fun t370 => (if t370 = true then ((impl_within.f (wrap64 (a0_1)) 1 2000).bind fun t371 => (some t371)) else (some false))
set_option maxHeartbeats 8000000 in
set_option maxRecDepth 100000 in
theorem impl_ValidLine.calls (a0_0 : Int) (a0_1 : Int) (r : Bool) (w : World) (h : impl_ValidLine.f a0_0 a0_1 = some r) :
  Calls Try.prog 95 #[.agg #[.int .i16 a0_0, .int .i16 a0_1]] w fun e w' => e = .returned (.bool r) ∧ Below w.heap.size w w' := by
 have hu28 := Try.underlying28
 have HB := Aside0.mk (Below.refl w.heap.size w)
 have H : ((impl_within.f (wrap64 (a0_0)) 4 2000).bind fun t370 => (if t370 = true then ((impl_within.f (wrap64 (a0_1)) 1 2000).bind fun t371 => (some t371)) else (some false))) = some r := h
 clear h
 replace H := Option.bind_eq_some_iff.mp H
 obtain ⟨t370, A20, H⟩ := H
 replace H : (if t370 = true then ((impl_within.f (wrap64 (a0_1)) 1 2000).bind fun t371 => (some t371)) else (some false)) = some r := H
 have A2 := Aside0.mk A20
 clear A20
 by_cases c3 : t370 = true
 ·subst c3
  have H1 : ((impl_within.f (wrap64 (a0_1)) 1 2000).bind fun t371 => (some t371)) = some r := by rw [if_pos rfl] at H; exact H
  clear H
  have H := H1
  clear H1
  replace H := Option.bind_eq_some_iff.mp H
  obtain ⟨t371, A40, H⟩ := H
  replace H : (some t371) = some r := H
  have A4 := Aside0.mk A40
  clear A40
  obtain rfl := Option.some.inj H
  go_enter Try.func95, Try.ntmps95
  go_wp2_with (first | ((with_reducible refine gate_dst (N := 1) rfl ?_); refine box_event ?hg (N := 1) ?hd (cs := #[.int .i16 a0_0, .int .i16 a0_1]) (t := 28) ?hr ?_; (case hd => rfl); (case hg => rfl); (case hr => first | (go_simp; done) | (go_simp; rfl)); intro gb369 hg w5 hbox hb; have n0_ := Aside0.mk (below_step (by repeat (first | (with_reducible first | exact HB.out | apply below_alloc | apply pw_below_drewN | apply below_drew1) | exact HB.out)) hb); have n1_ := Aside0.mk (hbox); have n2_ := Aside0.mk ((by rw [hg]; exact (below_size (by repeat (first | (with_reducible first | exact HB.out | apply below_alloc | apply pw_below_drewN | apply below_drew1) | exact HB.out))) : w.heap.size ≤ gb369)); have n3_ := Aside0.mk ((by rw [hg]; exact (below_size (by repeat (first | (with_reducible first | exact HB.out | apply below_alloc | apply pw_below_drewN | apply below_drew1) | exact HB.out))) : w.heap.size ≤ gb369)); clear HB; have HB := n0_; have BK369 := n1_; have GW369 := n2_; have GE369 := n3_; clear n0_ n1_ n2_ n3_; clear hb hbox hg; have hcz6_0 : w5.cell? ⟨gb369, 0, none⟩ = some (.int .i16 a0_0) := (blk_cell BK369.out 0).trans rfl; have hcz6_1 : w5.cell? ⟨gb369, 1, none⟩ = some (.int .i16 a0_1) := (blk_cell BK369.out 1).trans rfl; have hfz6_0 := blk_frozen BK369.out 0; have hfz6_1 := blk_frozen BK369.out 1) | ((with_reducible refine gate_callee (f := 83) rfl ?_); refine goesL_ (some 6) rfl rfl Try.func83 (by kernel_rfl) rfl #[.int .i64 (wrap64 (a0_0)), .int .i64 4, .int .i64 2000] rfl (by (try simp only [List.map_toArray, List.map_cons, List.map_nil]); first | done | rfl | (simp only [List.length_drop, List.length_take]; rfl)) ?_; (with_reducible refine (impl_within.calls (wrap64 (a0_0)) 4 2000 true _ A2.out).mono ?_); rintro e w' ⟨rfl, ⟨nd, rfl⟩⟩; refine ⟨_, rfl, ?_⟩) | (go_at_call 83; (with_reducible refine (impl_within.calls (wrap64 (a0_1)) 1 2000 t371 _ A4.out).mono ?_); rintro e w' ⟨rfl, ⟨nd, rfl⟩⟩))
  go_ret
  exact ⟨by first | rfl | (simp [errW_none, errW_some] <;> rfl) | (simp [*, errW_none, errW_some] <;> rfl), by repeat (first | (with_reducible first | exact HB.out | apply below_alloc | apply pw_below_drewN | apply below_drew1 | refine below_set ?_ GE369.out) | exact HB.out)⟩
 ·replace c3 := Bool.eq_false_iff.mpr c3
  subst c3
  have H1 : (some false) = some r := by rw [if_neg (show ¬ (false = true) by decide)] at H; exact H
  clear H
  have H := H1
  clear H1
  obtain rfl := Option.some.inj H
  go_enter Try.func95, Try.ntmps95
  go_wp2_with (first | ((with_reducible refine gate_dst (N := 1) rfl ?_); refine box_event ?hg (N := 1) ?hd (cs := #[.int .i16 a0_0, .int .i16 a0_1]) (t := 28) ?hr ?_; (case hd => rfl); (case hg => rfl); (case hr => first | (go_simp; done) | (go_simp; rfl)); intro gb369 hg w7 hbox hb; have n0_ := Aside0.mk (below_step (by repeat (first | (with_reducible first | exact HB.out | apply below_alloc | apply pw_below_drewN | apply below_drew1) | exact HB.out)) hb); have n1_ := Aside0.mk (hbox); have n2_ := Aside0.mk ((by rw [hg]; exact (below_size (by repeat (first | (with_reducible first | exact HB.out | apply below_alloc | apply pw_below_drewN | apply below_drew1) | exact HB.out))) : w.heap.size ≤ gb369)); have n3_ := Aside0.mk ((by rw [hg]; exact (below_size (by repeat (first | (with_reducible first | exact HB.out | apply below_alloc | apply pw_below_drewN | apply below_drew1) | exact HB.out))) : w.heap.size ≤ gb369)); clear HB; have HB := n0_; have BK369 := n1_; have GW369 := n2_; have GE369 := n3_; clear n0_ n1_ n2_ n3_; clear hb hbox hg; have hcz8_0 : w7.cell? ⟨gb369, 0, none⟩ = some (.int .i16 a0_0) := (blk_cell BK369.out 0).trans rfl; have hcz8_1 : w7.cell? ⟨gb369, 1, none⟩ = some (.int .i16 a0_1) := (blk_cell BK369.out 1).trans rfl; have hfz8_0 := blk_frozen BK369.out 0; have hfz8_1 := blk_frozen BK369.out 1) | ((with_reducible refine gate_callee (f := 83) rfl ?_); refine goesL_ (some 6) rfl rfl Try.func83 (by kernel_rfl) rfl #[.int .i64 (wrap64 (a0_0)), .int .i64 4, .int .i64 2000] rfl (by (try simp only [List.map_toArray, List.map_cons, List.map_nil]); first | done | rfl | (simp only [List.length_drop, List.length_take]; rfl)) ?_; (with_reducible refine (impl_within.calls (wrap64 (a0_0)) 4 2000 false _ A2.out).mono ?_); rintro e w' ⟨rfl, ⟨nd, rfl⟩⟩; refine ⟨_, rfl, ?_⟩))
  go_ret
  exact ⟨by first | rfl | (simp [errW_none, errW_some] <;> rfl) | (simp [*, errW_none, errW_some] <;> rfl), by repeat (first | (with_reducible first | exact HB.out | apply below_alloc | apply pw_below_drewN | apply below_drew1 | refine below_set ?_ GE369.out) | exact HB.out)⟩
def impl_lineCode.f (k : Nat) (a0_0 : Int) (a0_1 : Int) (l1 : List (S38)) : Option (Int) := (impl_ValidLine.f a0_0 a0_1).bind fun t373 => ((impl_unless.f t373 1).bind fun t374 => ((impl_clothCode.f k l1 7).bind fun t375 => ((impl_firstOf.f k (([t374, t375] : List Int))).bind fun t379 => (some t379))))
set_option maxHeartbeats 8000000 in
set_option maxRecDepth 100000 in
theorem impl_lineCode.calls (k : Nat) (a0_0 : Int) (a0_1 : Int) (A1 : Option Addr) (c1 : Nat) (l1 : List (S38)) (r : Int) (w : World) (hr1 : Kd.C k38 w A1 l1.length l1) (hc1 : l1.length ≤ c1) (h : impl_lineCode.f k a0_0 a0_1 l1 = some r) :
  Calls Try.prog 74 #[.agg #[.int .i16 a0_0, .int .i16 a0_1], .slice A1 l1.length c1] w fun e w' => e = .returned (.int .i64 r) ∧ Below w.heap.size w w' := by
 have hu28 := Try.underlying28
 have HR1 := Aside0.mk hr1
 have HC1 := Aside0.mk hc1
 clear hr1 hc1
 have HB := Aside0.mk (Below.refl w.heap.size w)
 have H : ((impl_ValidLine.f a0_0 a0_1).bind fun t373 => ((impl_unless.f t373 1).bind fun t374 => ((impl_clothCode.f k l1 7).bind fun t375 => ((impl_firstOf.f k (([t374, t375] : List Int))).bind fun t379 => (some t379))))) = some r := h
 clear h
 replace H := Option.bind_eq_some_iff.mp H
 obtain ⟨t373, A30, H⟩ := H
 replace H : ((impl_unless.f t373 1).bind fun t374 => ((impl_clothCode.f k l1 7).bind fun t375 => ((impl_firstOf.f k (([t374, t375] : List Int))).bind fun t379 => (some t379)))) = some r := H
 have A3 := Aside0.mk A30
 clear A30
 replace H := Option.bind_eq_some_iff.mp H
 obtain ⟨t374, A40, H⟩ := H
 replace H : ((impl_clothCode.f k l1 7).bind fun t375 => ((impl_firstOf.f k (([t374, t375] : List Int))).bind fun t379 => (some t379))) = some r := H
 have A4 := Aside0.mk A40
 clear A40
 replace H := Option.bind_eq_some_iff.mp H
 obtain ⟨t375, A50, H⟩ := H
 replace H : ((impl_firstOf.f k (([t374, t375] : List Int))).bind fun t379 => (some t379)) = some r := H
 have A5 := Aside0.mk A50
 clear A50
 obtain ⟨y376, hy376⟩ : ∃ y_ : List Int, y_ = (([t374, t375] : List Int)) := ⟨_, rfl⟩
 replace H : ((impl_firstOf.f k y376).bind fun t379 => (some t379)) = some r := by first | (rw [hy376]; with_reducible exact H) | (have H2_ := (Option.bind_some _ _).symm.trans H; rw [hy376]; with_reducible exact H2_) | (have H2_ := (Option.bind_some _ _).symm.trans H; with_reducible exact H2_) | with_reducible exact H | (rw [hy376]; exact H) | exact H
 have Ny376 := Aside0.mk hy376
 clear hy376
 replace H := Option.bind_eq_some_iff.mp H
 obtain ⟨t379, A60, H⟩ := H
 replace H : (some t379) = some r := H
 have A6 := Aside0.mk A60
 clear A60
 obtain rfl := Option.some.inj H
 go_enter Try.func74, Try.ntmps74
 go_wp2_with (first | ((with_reducible refine gate_dst (N := 2) rfl ?_); refine box_event ?hg (N := 2) ?hd (cs := #[.int .i16 a0_0, .int .i16 a0_1]) (t := 28) ?hr ?_; (case hd => rfl); (case hg => rfl); (case hr => first | (go_simp; done) | (go_simp; rfl)); intro gb372 hg w7 hbox hb; have n0_ := Aside0.mk (below_step (by repeat (first | (with_reducible first | exact HB.out | apply below_alloc | apply pw_below_drewN | apply below_drew1) | exact HB.out)) hb); have n1_ := Aside0.mk (hbox); have n2_ := Aside0.mk ((by rw [hg]; exact (below_size (by repeat (first | (with_reducible first | exact HB.out | apply below_alloc | apply pw_below_drewN | apply below_drew1) | exact HB.out))) : w.heap.size ≤ gb372)); have n3_ := Aside0.mk ((by rw [hg]; exact (below_size (by repeat (first | (with_reducible first | exact HB.out | apply below_alloc | apply pw_below_drewN | apply below_drew1) | exact HB.out))) : w.heap.size ≤ gb372)); clear HB; have HB := n0_; have BK372 := n1_; have GW372 := n2_; have GE372 := n3_; clear n0_ n1_ n2_ n3_; clear hb hbox hg; have hcz8_0 : w7.cell? ⟨gb372, 0, none⟩ = some (.int .i16 a0_0) := (blk_cell BK372.out 0).trans rfl; have hcz8_1 : w7.cell? ⟨gb372, 1, none⟩ = some (.int .i16 a0_1) := (blk_cell BK372.out 1).trans rfl; have hfz8_0 := blk_frozen BK372.out 0; have hfz8_1 := blk_frozen BK372.out 1) | ((with_reducible refine gate_callee (f := 95) rfl ?_); refine goesL_ (some 6) rfl rfl Try.func95 (by kernel_rfl) rfl #[.agg #[.int .i16 a0_0, .int .i16 a0_1]] rfl (by (try simp only [List.map_toArray, List.map_cons, List.map_nil]); first | done | rfl | (simp only [List.length_drop, List.length_take]; rfl)) ?_; (with_reducible refine (impl_ValidLine.calls a0_0 a0_1 t373 _ A3.out).mono ?_); rintro e w9 ⟨rfl, hb⟩; refine ⟨_, rfl, ?_⟩; have n0_ := Aside0.mk (blk_below (g := gb372) (o := .cells #[.int .i16 a0_0, .int .i16 a0_1] 28 (0, 0)) (by (with_reducible repeat (first | refine blk_drewN ?_ _ | refine blk_drew ?_ | refine blk_alloc ?_ _)); exact BK372.out) hb); have n1_ := Aside0.mk (below_step (by repeat (first | (with_reducible first | exact HB.out | apply below_alloc | apply pw_below_drewN | apply below_drew1 | refine below_set ?_ GE372.out) | exact HB.out)) hb); clear BK372; clear HB; have BK372 := n0_; have HB := n1_; clear n0_ n1_; (try clear hb); (try clear hb2); (try clear hk); (try clear hi)) | ((with_reducible refine gate_callee (f := 82) rfl ?_); refine goesL_ (some 7) rfl rfl Try.func82 (by kernel_rfl) rfl #[.bool t373, .int .i64 1] rfl (by (try simp only [List.map_toArray, List.map_cons, List.map_nil]); first | done | rfl | (simp only [List.length_drop, List.length_take]; rfl)) ?_; (with_reducible refine (impl_unless.calls t373 1 t374 _ A4.out).mono ?_); rintro e w' ⟨rfl, ⟨nd, rfl⟩⟩; refine ⟨_, rfl, ?_⟩) | ((with_reducible refine gate_callee (f := 96) rfl ?_); refine goesL_ (some 9) rfl rfl Try.func96 (by kernel_rfl) rfl #[.slice A1 l1.length c1, .int .i64 7] rfl (by (try simp only [List.map_toArray, List.map_cons, List.map_nil]); first | done | rfl | (simp only [List.length_drop, List.length_take]; rfl)) ?_; (with_reducible refine (impl_clothCode.calls k _ _ l1 7 t375 _ ?side1 ?side2 A5.out).mono ?_); (case side1 => repeat (first | exact (Kd.C_below HR1.out (by repeat (first | (with_reducible first | exact HB.out | apply below_alloc | apply pw_below_drewN | apply below_drew1 | refine below_set ?_ GE372.out) | exact HB.out))) | (with_reducible refine Kd.C_alloc ?_ _) | (with_reducible refine Kd.C_drewN ?_ _) | (with_reducible refine Kd.C_drew ?_))); (case side2 => exact HC1.out); rintro e w10 ⟨rfl, hb⟩; refine ⟨_, rfl, ?_⟩; have n0_ := Aside0.mk (blk_below (g := gb372) (o := .cells #[.int .i16 a0_0, .int .i16 a0_1] 28 (0, 0)) (by (with_reducible repeat (first | refine blk_drewN ?_ _ | refine blk_drew ?_ | refine blk_alloc ?_ _)); exact BK372.out) hb); have n1_ := Aside0.mk (below_step (by repeat (first | (with_reducible first | exact HB.out | apply below_alloc | apply pw_below_drewN | apply below_drew1 | refine below_set ?_ GE372.out) | exact HB.out)) hb); clear BK372; clear HB; have BK372 := n0_; have HB := n1_; clear n0_ n1_; (try clear hb); (try clear hb2); (try clear hk); (try clear hi)) | ((with_reducible refine gate_dst (N := 10) rfl ?_); refine Kd.R_lit (Kd.int .i64) _ 2 ?hg (N := 10) ?hd (xs := ([t374, t375] : List Int)) (inner := [.int .i64 t374, .int .i64 t375]) (ok := fun _ => True) (okp := fun _ => True) ?hr ?hp (fun _ hk => hk) trivial (Below.refl _ _) (Nat.le_refl _) (by simp) ?_; (case hd => rfl); (case hg => rfl); (case hr => first | (go_simp; done) | (go_simp; rfl)); (case hp => exact (Reps.one (show Kd.M (Kd.int .i64) _ _ _ t374 [.int .i64 t374] from rfl) (Reps.one (show Kd.M (Kd.int .i64) _ _ _ t375 [.int .i64 t375] from rfl) (Reps.none _ _)))); intro v377 w11 ho12 hb hg_ hnew_; clear hg_ hnew_; (first | rw [← Ny376.out] at ho12 | (simp only [Int.reduceToNat] at ho12; rw [← Ny376.out] at ho12)); have n0_ := Aside0.mk (Kd.R_lower ho12 (below_size (by repeat (first | (with_reducible first | exact HB.out | apply below_alloc | apply pw_below_drewN | apply below_drew1 | refine below_set ?_ GE372.out) | exact HB.out)))); have n1_ := Aside0.mk (blk_below (g := gb372) (o := .cells #[.int .i16 a0_0, .int .i16 a0_1] 28 (0, 0)) (by (with_reducible repeat (first | refine blk_drewN ?_ _ | refine blk_drew ?_ | refine blk_alloc ?_ _)); exact BK372.out) hb); have n2_ := Aside0.mk (below_step (by repeat (first | (with_reducible first | exact HB.out | apply below_alloc | apply pw_below_drewN | apply below_drew1 | refine below_set ?_ GE372.out) | exact HB.out)) hb); clear BK372; clear HB; have HO378 := n0_; have BK372 := n1_; have HB := n2_; clear n0_ n1_ n2_; clear hb ho12; obtain ⟨Ao13, co13, eo13⟩ := Kd.R_slice HO378.out; subst eo13) | ((with_reducible refine gate_callee (f := 73) rfl ?_); refine goesL_ (some 11) rfl rfl Try.func73 (by kernel_rfl) rfl #[.slice Ao13 y376.length co13] rfl (by (try simp only [List.map_toArray, List.map_cons, List.map_nil]); first | done | rfl | (simp only [List.length_drop, List.length_take]; rfl)) ?_; (with_reducible refine (impl_firstOf.calls k _ _ y376 t379 _ ?side1 ?side2 A6.out).mono ?_); (case side1 => repeat (first | exact (Kd.R_reads' HO378.out).2.2 | (with_reducible refine Kd.C_alloc ?_ _) | (with_reducible refine Kd.C_drewN ?_ _) | (with_reducible refine Kd.C_drew ?_))); (case side2 => exact (Kd.R_reads' HO378.out).2.1); rintro e w' ⟨rfl, ⟨nd, rfl⟩⟩; refine ⟨_, rfl, ?_⟩))
 go_ret
 exact ⟨by first | rfl | (simp [errW_none, errW_some] <;> rfl) | (simp [*, errW_none, errW_some] <;> rfl), by repeat (first | (with_reducible first | exact HB.out | apply below_alloc | apply pw_below_drewN | apply below_drew1 | refine below_set ?_ GE372.out) | exact HB.out)⟩
def impl_Line_holds.l0 : Nat → Int → Int → List (S38) → Int → Int → Int → Int → Option (Bool)
 | 0, _, _, _, _, _, _, _ => none
 | k + 1, x7, x8, x17, x18, x19, x381000, x381001 => if x19 < x18 then (if 0 ≤ x19 then (if x19 < (x17.length : Int) then (impl_Line_holds.l0 k x7 (wrap64 (x8 + (wrap64 ((rd_T38 x17 x19).f1)))) x17 x18 (wrap64 (x19 + 1)) x381000 x381001) else (none)) else (none)) else (if x7 ≤ (wrap64 (x381000)) then (some (decide (x8 ≤ (wrap64 (x381001))))) else (some false))
def impl_Line_holds.f (k : Nat) (a0_0 : Int) (a0_1 : Int) (l1 : List (S38)) : Option (Bool) := (impl_hungw.f l1).bind fun bt381 => (impl_Line_holds.l0 k bt381.2.2 0 l1 (l1.length : Int) 0 a0_0 a0_1)
set_option maxHeartbeats 8000000 in
set_option maxRecDepth 100000 in
theorem impl_Line_holds.calls (k : Nat) (a0_0 : Int) (a0_1 : Int) (A1 : Option Addr) (c1 : Nat) (l1 : List (S38)) (r : Bool) (w : World) (hr1 : Kd.C k38 w A1 l1.length l1) (hc1 : l1.length ≤ c1) (h : impl_Line_holds.f k a0_0 a0_1 l1 = some r) :
  Calls Try.prog 88 #[.agg #[.int .i16 a0_0, .int .i16 a0_1], .slice A1 l1.length c1] w fun e w' => e = .returned (.bool r) ∧ Below w.heap.size w w' := by
 have hu28 := Try.underlying28
 have hu38 := Try.underlying38
 have HR1 := Aside0.mk hr1
 have HC1 := Aside0.mk hc1
 clear hr1 hc1
 have HB := Aside0.mk (Below.refl w.heap.size w)
 have H : ((impl_hungw.f l1).bind fun bt381 => (impl_Line_holds.l0 k bt381.2.2 0 l1 (l1.length : Int) 0 a0_0 a0_1)) = some r := h
 clear h
 replace H := Option.bind_eq_some_iff.mp H
 obtain ⟨⟨t381, t382, t383⟩, A30, H⟩ := H
 replace H : (impl_Line_holds.l0 k t383 0 l1 (l1.length : Int) 0 a0_0 a0_1) = some r := H
 have A3 := Aside0.mk A30
 clear A30
 have H' := Aside0.mk H
 clear H
 go_enter Try.func88, Try.ntmps88
 go_wp2_with (first | ((with_reducible refine gate_dst (N := 2) rfl ?_); refine box_event ?hg (N := 2) ?hd (cs := #[.int .i16 a0_0, .int .i16 a0_1]) (t := 28) ?hr ?_; (case hd => rfl); (case hg => rfl); (case hr => first | (go_simp; done) | (go_simp; rfl)); intro gb380 hg w4 hbox hb; have n0_ := Aside0.mk (below_step (by repeat (first | (with_reducible first | exact HB.out | apply below_alloc | apply pw_below_drewN | apply below_drew1) | exact HB.out)) hb); have n1_ := Aside0.mk (hbox); have n2_ := Aside0.mk ((by rw [hg]; exact (below_size (by repeat (first | (with_reducible first | exact HB.out | apply below_alloc | apply pw_below_drewN | apply below_drew1) | exact HB.out))) : w.heap.size ≤ gb380)); have n3_ := Aside0.mk ((by rw [hg]; exact (below_size (by repeat (first | (with_reducible first | exact HB.out | apply below_alloc | apply pw_below_drewN | apply below_drew1) | exact HB.out))) : w.heap.size ≤ gb380)); clear HB; have HB := n0_; have BK380 := n1_; have GW380 := n2_; have GE380 := n3_; clear n0_ n1_ n2_ n3_; clear hb hbox hg) | ((with_reducible refine gate_callee (f := 114) rfl ?_); refine goesL_ (some 13) rfl rfl Try.func114 (by kernel_rfl) rfl #[.slice A1 l1.length c1] rfl (by (try simp only [List.map_toArray, List.map_cons, List.map_nil]); first | done | rfl | (simp only [List.length_drop, List.length_take]; rfl)) ?_; (with_reducible refine (impl_hungw.calls _ _ l1 t381 t382 t383 _ ?side1 ?side2 A3.out).mono ?_); (case side1 => repeat (first | exact (Kd.C_below HR1.out HB.out) | (with_reducible refine Kd.C_alloc ?_ _) | (with_reducible refine Kd.C_drewN ?_ _) | (with_reducible refine Kd.C_drew ?_))); (case side2 => exact HC1.out); rintro e w5 ⟨v384, rfl, ho0, hb⟩; refine ⟨_, rfl, ?_⟩; have n0_ := Aside0.mk (Kd.R_lower ho0 (below_size (by repeat (first | (with_reducible first | exact HB.out | apply below_alloc | apply pw_below_drewN | apply below_drew1 | refine below_set ?_ GE380.out) | exact HB.out)))); have n1_ := Aside0.mk (blk_below (g := gb380) (o := .cells #[.int .i16 a0_0, .int .i16 a0_1] 28 (0, 0)) (by (with_reducible repeat (first | refine blk_drewN ?_ _ | refine blk_drew ?_ | refine blk_alloc ?_ _)); exact BK380.out) hb); have n2_ := Aside0.mk (below_step (by repeat (first | (with_reducible first | exact HB.out | apply below_alloc | apply pw_below_drewN | apply below_drew1 | refine below_set ?_ GE380.out) | exact HB.out)) hb); clear BK380; clear HB; have HO385 := n0_; have BK380 := n1_; have HB := n2_; clear n0_ n1_ n2_; (try clear hb); (try clear hb2); (try clear hk); (try clear hi); (try clear ho0)))
 go_loopg [8, 19] k (fun kq v8 v19 w' => ∃ (x8_1 : Int) (x19_1 : Int), v8 = .int .i64 x8_1 ∧ v19 = .int .i64 x19_1 ∧ Aside0 (impl_Line_holds.l0 kq t383 x8_1 l1 (l1.length : Int) x19_1 a0_0 a0_1 = some r) ∧ Aside0 (kq ≤ k) ∧ Aside0 (w'.heap[gb380]? = some (.cells #[.int .i16 a0_0, .int .i16 a0_1] 28 (0, 0))) ∧ Aside0 (Below w.heap.size w w'))
 case atStart => exact ⟨(0), (0), (by first | rfl | (simp; done) | (simp [*]; done)), (by first | rfl | (simp; done) | (simp [*]; done)), H', ⟨Nat.le_refl _⟩, ⟨by (with_reducible repeat (first | refine blk_drewN ?_ _ | refine blk_drew ?_ | refine blk_alloc ?_ _)); exact BK380.out⟩, ⟨by repeat (first | (with_reducible first | exact HB.out | apply below_alloc | apply pw_below_drewN | apply below_drew1 | refine below_set ?_ GE380.out) | exact HB.out)⟩⟩
 case round =>
  clear H'
  try clear c1
  try clear p2
  obtain ⟨x8_1, x19_1, rfl, rfl, HA, HK1, BK380, HB⟩ := hrel
  cases gk with
  | zero => exact absurd HA.out (by simp [impl_Line_holds.l0])
  | succ k1 =>
   have H := HA.out
   clear HA
   simp only [impl_Line_holds.l0] at H
   by_cases c6 : x19_1 < (l1.length : Int)
   ·rw [if_pos c6] at H
    have c6b0 : decide (x19_1 < (l1.length : Int)) = true := decide_eq_true c6
    clear c6
    by_cases c7 : 0 ≤ x19_1
    ·rw [if_pos c7] at H
     have c7b0 : decide (0 ≤ x19_1) = true := decide_eq_true c7
     clear c7
     by_cases c8 : x19_1 < (l1.length : Int)
     ·rw [if_pos c8] at H
      have c8b0 : decide (x19_1 < (l1.length : Int)) = true := decide_eq_true c8
      clear c8
      have H' := Aside0.mk H
      clear H
      have p386 : 0 ≤ (x19_1 : Int) := of_decide_eq_true (by first | (with_reducible assumption) | assumption)
      have q386 : x19_1 < (l1.length : Int) := of_decide_eq_true (by first | (with_reducible assumption) | assumption)
      obtain ⟨ad386, e386, hx386_0, hx386_1⟩ := at_T38 HR1.out x19_1 p386 q386
      cases e386
      replace hx386_0 := (HB.out.cell (World.block_lt_of_cell? w _ hx386_0)).trans hx386_0
      replace hx386_1 := (HB.out.cell (World.block_lt_of_cell? w _ hx386_1)).trans hx386_1
      replace p386 := eq_true p386
      replace q386 := eq_true q386
      go_wp2_with (first | ((with_reducible refine gate_dst (N := 10) rfl ?_); refine box_event ?hg (N := 10) ?hd (cs := #[.int .i16 0, .int .i16 0]) (t := 38) ?hr ?_; (case hd => rfl); (case hg => rfl); (case hr => first | (go_simp; done) | (go_simp; rfl)); intro gb387 hg w9 hbox hb; have n0_ := Aside0.mk (blk_below (g := gb380) (o := .cells #[.int .i16 a0_0, .int .i16 a0_1] 28 (0, 0)) (by (with_reducible repeat (first | refine blk_drewN ?_ _ | refine blk_drew ?_ | refine blk_alloc ?_ _)); exact BK380.out) hb); have n1_ := Aside0.mk (below_step (by repeat (first | (with_reducible first | exact HB.out | apply below_alloc | apply pw_below_drewN | apply below_drew1 | refine below_set ?_ GE380.out) | exact HB.out)) hb); have n2_ := Aside0.mk (hbox); have n3_ := Aside0.mk ((by rw [hg]; exact (below_size (by repeat (first | (with_reducible first | exact HB.out | apply below_alloc | apply pw_below_drewN | apply below_drew1 | refine below_set ?_ GE380.out) | exact HB.out))) : w.heap.size ≤ gb387)); have n4_ := Aside0.mk ((by rw [hg]; exact (below_size (by repeat (first | (with_reducible first | exact HB.out | apply below_alloc | apply pw_below_drewN | apply below_drew1 | refine below_set ?_ GE380.out) | exact HB.out))) : w.heap.size ≤ gb387)); have n5_ := Aside0.mk ((by rw [hg]; exact Nat.ne_of_lt (blk_lt (g := gb380) (o := .cells #[.int .i16 a0_0, .int .i16 a0_1] 28 (0, 0)) (by (with_reducible repeat (first | refine blk_drewN ?_ _ | refine blk_drew ?_ | refine blk_alloc ?_ _)); exact BK380.out)) : gb380 ≠ gb387)); have n6_ := Aside0.mk ((by rw [hg]; exact Nat.ne_of_gt (blk_lt (g := gb380) (o := .cells #[.int .i16 a0_0, .int .i16 a0_1] 28 (0, 0)) (by (with_reducible repeat (first | refine blk_drewN ?_ _ | refine blk_drew ?_ | refine blk_alloc ?_ _)); exact BK380.out)) : gb387 ≠ gb380)); clear BK380; clear HB; have BK380 := n0_; have HB := n1_; have BK387 := n2_; have GW387 := n3_; have GE387 := n4_; have NB380_387 := n5_; have NB387_380 := n6_; clear n0_ n1_ n2_ n3_ n4_ n5_ n6_; clear hb hbox hg; have hnb10 := NB387_380.out; have hnc10 := NB380_387.out; have hcz11_0 : w9.cell? ⟨gb387, 0, none⟩ = some (.int .i16 0) := (blk_cell BK387.out 0).trans rfl; have hcz11_1 : w9.cell? ⟨gb387, 1, none⟩ = some (.int .i16 0) := (blk_cell BK387.out 1).trans rfl; have hfz11_0 := blk_frozen BK387.out 0; have hfz11_1 := blk_frozen BK387.out 1))
      go_roundg k1
      case measure => have := HK1.out; omega
      case rel => exact ⟨(wrap64 (x8_1 + (wrap64 ((rd_T38 l1 x19_1).f1)))), (wrap64 (x19_1 + 1)), (by first | rfl | (simp; done) | (simp [*]; done)), (by first | rfl | (simp; done) | (simp [*]; done)), H', ⟨by have := HK1.out; omega⟩, ⟨by (with_reducible repeat (first | refine blk_drewN ?_ _ | refine blk_drew ?_ | refine blk_alloc ?_ _)); refine blk_far ?_ NB380_387.out _; (with_reducible repeat (first | refine blk_drewN ?_ _ | refine blk_drew ?_ | refine blk_alloc ?_ _)); refine blk_far ?_ NB380_387.out _; (with_reducible repeat (first | refine blk_drewN ?_ _ | refine blk_drew ?_ | refine blk_alloc ?_ _)); exact BK380.out⟩, ⟨by repeat (first | (with_reducible first | exact HB.out | apply below_alloc | apply pw_below_drewN | apply below_drew1 | refine below_set ?_ GE380.out | refine below_set ?_ GE387.out) | exact HB.out)⟩⟩
     ·rw [if_neg c8] at H
      exact absurd H (by simp)
    ·rw [if_neg c7] at H
     exact absurd H (by simp)
   ·rw [if_neg c6] at H
    have c6b0 : decide (x19_1 < (l1.length : Int)) = false := decide_eq_false c6
    clear c6
    by_cases c12 : t383 ≤ (wrap64 (a0_0))
    ·rw [if_pos c12] at H
     have c12b0 : decide (t383 ≤ (wrap64 (a0_0))) = true := decide_eq_true c12
     clear c12
     obtain rfl := Option.some.inj H
     have hcz13_0 : wr.cell? ⟨gb380, 0, none⟩ = some (.int .i16 a0_0) := (blk_cell BK380.out 0).trans rfl
     have hcz13_1 : wr.cell? ⟨gb380, 1, none⟩ = some (.int .i16 a0_1) := (blk_cell BK380.out 1).trans rfl
     have hfz13_0 := blk_frozen BK380.out 0
     have hfz13_1 := blk_frozen BK380.out 1
     go_wp2
     go_ret
     exact ⟨by first | rfl | (simp [errW_none, errW_some] <;> rfl) | (simp [*, errW_none, errW_some] <;> rfl), by repeat (first | (with_reducible first | exact HB.out | apply below_alloc | apply pw_below_drewN | apply below_drew1 | refine below_set ?_ GE380.out) | exact HB.out)⟩
    ·rw [if_neg c12] at H
     have c12b0 : decide (t383 ≤ (wrap64 (a0_0))) = false := decide_eq_false c12
     clear c12
     obtain rfl := Option.some.inj H
     have hcz14_0 : wr.cell? ⟨gb380, 0, none⟩ = some (.int .i16 a0_0) := (blk_cell BK380.out 0).trans rfl
     have hcz14_1 : wr.cell? ⟨gb380, 1, none⟩ = some (.int .i16 a0_1) := (blk_cell BK380.out 1).trans rfl
     have hfz14_0 := blk_frozen BK380.out 0
     have hfz14_1 := blk_frozen BK380.out 1
     go_wp2
     go_ret
     exact ⟨by first | rfl | (simp [errW_none, errW_some] <;> rfl) | (simp [*, errW_none, errW_some] <;> rfl), by repeat (first | (with_reducible first | exact HB.out | apply below_alloc | apply pw_below_drewN | apply below_drew1 | refine below_set ?_ GE380.out) | exact HB.out)⟩
def heavyFrom : Int → List S38 → Int
 | x, [] => x
 | x, c :: cs => heavyFrom (wrap64 (x + wrap64 c.f1)) cs
def holdsB (long most : Int) (l : List S38) : Bool := decide ((hungOf l).2.2 ≤ wrap64 long) && decide (heavyFrom 0 l ≤ wrap64 most)
theorem holds_l0 (l : List S38) (hl : l.length ≤ 1048576) (wide long most : Int) : ∀ (cs pre : List S38), l = pre ++ cs → ∀ x : Int,
  Ev (fun k => impl_Line_holds.l0 k wide x l (l.length : Int) (pre.length : Int) long most) (decide (wide ≤ wrap64 long) && decide (heavyFrom x cs ≤ wrap64 most)) := by
 intro cs
 induction cs with
 | nil =>
  intro pre hpre x
  refine Ev.step (fun k => by rw [impl_Line_holds.l0]) ?_
  have : l.length = pre.length := by rw [hpre]; simp
  simp only [show ¬ (pre.length : Int) < (l.length : Int) by omega, ↓reduceIte]
  by_cases h : wide ≤ wrap64 long
  ·simp only [h, ↓reduceIte, decide_true, Bool.true_and, heavyFrom]; exact Ev.now _
  ·simp only [h, ↓reduceIte, decide_false, Bool.false_and]; exact Ev.now _
 | cons c cs ih =>
  intro pre hpre x
  have hlen : l.length = pre.length + cs.length + 1 := by rw [hpre]; simp; omega
  have hc : rd_T38 l (pre.length : Int) = c := by rw [hpre]; exact rd_mid pre c cs
  have hnext := ih (pre ++ [c]) (by rw [hpre]; simp)
  simp only [List.length_append, List.length_cons, List.length_nil, Nat.zero_add] at hnext
  refine Ev.step (fun k => by rw [impl_Line_holds.l0]) ?_
  simp only [show (pre.length : Int) < (l.length : Int) by omega, show (0 : Int) ≤ (pre.length : Int) by omega, ↓reduceIte, hc, w_succ (show pre.length < l.length by omega) hl]
  rw [heavyFrom]
  exact hnext _
theorem holds_ev (long most : Int) (l : List S38) (hl : l.length ≤ 1048576) : Ev (fun k => impl_Line_holds.f k long most l) (holdsB long most l) := by
 unfold impl_Line_holds.f impl_hungw.f
 rw [if_pos hl]
 simp only [Option.bind_some]
 exact holds_l0 l hl _ long most l [] rfl 0
def impl_Line_holdsw.f (a0_0 : Int) (a0_1 : Int) (l1 : List S38) : Option Bool := if l1.length ≤ 1048576 then some (holdsB a0_0 a0_1 l1) else none
theorem impl_Line_holdsw.spec (a0_0 : Int) (a0_1 : Int) (l1 : List S38) (r : Bool) (h : impl_Line_holdsw.f a0_0 a0_1 l1 = some r) : ∃ k, impl_Line_holds.f k a0_0 a0_1 l1 = some r := by
 unfold impl_Line_holdsw.f at h
 by_cases hc : l1.length ≤ 1048576
 ·rw [if_pos hc] at h
  obtain rfl := Option.some.inj h
  exact Ev.rounds (holds_ev a0_0 a0_1 l1 hc)
 ·rw [if_neg hc] at h
  cases h
theorem impl_Line_holdsw.calls (a0_0 : Int) (a0_1 : Int) (A1 : Option Addr) (c1 : Nat) (l1 : List (S38)) (r : Bool) (w : World) (hr1 : Kd.C k38 w A1 l1.length l1) (hc1 : l1.length ≤ c1) (h : impl_Line_holdsw.f a0_0 a0_1 l1 = some r) :
  Calls Try.prog 88 #[.agg #[.int .i16 a0_0, .int .i16 a0_1], .slice A1 l1.length c1] w fun e w' => e = .returned (.bool r) ∧ Below w.heap.size w w' := by
 obtain ⟨k, hk⟩ := impl_Line_holdsw.spec a0_0 a0_1 l1 _ h
 exact impl_Line_holds.calls k a0_0 a0_1 A1 c1 l1 r w hr1 hc1 hk
def impl_Line_sag.l0 : Nat → Int → List Int → List (S38) → Int → Int → Int → Int → Option (Int)
 | 0, _, _, _, _, _, _, _ => none
 | k + 1, x5, x7, x18, x19, x20, x389000, x389001 => if x20 < x19 then (if 0 ≤ x20 then (if x20 < (x18.length : Int) then (if x20 < (x7.length : Int) then (if (wrap64 (2 * (wrap64 (x389000)))) = 0 then (none) else (impl_Line_sag.l0 k (wrap64 (x5 + (wrap64 (Int.tdiv (wrap64 ((wrap64 ((rd_T38 x18 x20).f1)) * (mn (wrap64 ((wrap64 (2 * (rd x7 x20))) + (wrap64 ((rd_T38 x18 x20).f0)))) (wrap64 ((wrap64 (2 * (wrap64 (x389000)))) - (wrap64 ((wrap64 (2 * (rd x7 x20))) + (wrap64 ((rd_T38 x18 x20).f0))))))))) (wrap64 (2 * (wrap64 (x389000)))))))) x7 x18 x19 (wrap64 (x20 + 1)) x389000 x389001)) else (none)) else (none)) else (none)) else (some x5)
def impl_Line_sag.f (k : Nat) (a0_0 : Int) (a0_1 : Int) (l1 : List (S38)) : Option (Int) := (impl_hungw.f l1).bind fun bt389 => (impl_Line_sag.l0 k 0 bt389.2.1 l1 (l1.length : Int) 0 a0_0 a0_1)
set_option maxHeartbeats 8000000 in
set_option maxRecDepth 100000 in
theorem impl_Line_sag.calls (k : Nat) (a0_0 : Int) (a0_1 : Int) (A1 : Option Addr) (c1 : Nat) (l1 : List (S38)) (r : Int) (w : World) (hr1 : Kd.C k38 w A1 l1.length l1) (hc1 : l1.length ≤ c1) (h : impl_Line_sag.f k a0_0 a0_1 l1 = some r) :
  Calls Try.prog 120 #[.agg #[.int .i16 a0_0, .int .i16 a0_1], .slice A1 l1.length c1] w fun e w' => e = .returned (.int .i64 r) ∧ Below w.heap.size w w' := by
 have hu28 := Try.underlying28
 have hu38 := Try.underlying38
 have HR1 := Aside0.mk hr1
 have HC1 := Aside0.mk hc1
 clear hr1 hc1
 have HB := Aside0.mk (Below.refl w.heap.size w)
 have H : ((impl_hungw.f l1).bind fun bt389 => (impl_Line_sag.l0 k 0 bt389.2.1 l1 (l1.length : Int) 0 a0_0 a0_1)) = some r := h
 clear h
 replace H := Option.bind_eq_some_iff.mp H
 obtain ⟨⟨t389, t390, t391⟩, A30, H⟩ := H
 replace H : (impl_Line_sag.l0 k 0 t390 l1 (l1.length : Int) 0 a0_0 a0_1) = some r := H
 have A3 := Aside0.mk A30
 clear A30
 have H' := Aside0.mk H
 clear H
 go_enter Try.func120, Try.ntmps120
 go_wp2_with (first | ((with_reducible refine gate_dst (N := 2) rfl ?_); refine box_event ?hg (N := 2) ?hd (cs := #[.int .i16 a0_0, .int .i16 a0_1]) (t := 28) ?hr ?_; (case hd => rfl); (case hg => rfl); (case hr => first | (go_simp; done) | (go_simp; rfl)); intro gb388 hg w4 hbox hb; have n0_ := Aside0.mk (below_step (by repeat (first | (with_reducible first | exact HB.out | apply below_alloc | apply pw_below_drewN | apply below_drew1) | exact HB.out)) hb); have n1_ := Aside0.mk (hbox); have n2_ := Aside0.mk ((by rw [hg]; exact (below_size (by repeat (first | (with_reducible first | exact HB.out | apply below_alloc | apply pw_below_drewN | apply below_drew1) | exact HB.out))) : w.heap.size ≤ gb388)); have n3_ := Aside0.mk ((by rw [hg]; exact (below_size (by repeat (first | (with_reducible first | exact HB.out | apply below_alloc | apply pw_below_drewN | apply below_drew1) | exact HB.out))) : w.heap.size ≤ gb388)); clear HB; have HB := n0_; have BK388 := n1_; have GW388 := n2_; have GE388 := n3_; clear n0_ n1_ n2_ n3_; clear hb hbox hg) | (go_at_call 114; (with_reducible refine (impl_hungw.calls _ _ l1 t389 t390 t391 _ ?side1 ?side2 A3.out).mono ?_); (case side1 => repeat (first | exact (Kd.C_below HR1.out HB.out) | (with_reducible refine Kd.C_alloc ?_ _) | (with_reducible refine Kd.C_drewN ?_ _) | (with_reducible refine Kd.C_drew ?_))); (case side2 => exact HC1.out); rintro e w5 ⟨v392, rfl, ho0, hb⟩; have n0_ := Aside0.mk (Kd.R_lower ho0 (below_size (by repeat (first | (with_reducible first | exact HB.out | apply below_alloc | apply pw_below_drewN | apply below_drew1 | refine below_set ?_ GE388.out) | exact HB.out)))); have n1_ := Aside0.mk (blk_below (g := gb388) (o := .cells #[.int .i16 a0_0, .int .i16 a0_1] 28 (0, 0)) (by (with_reducible repeat (first | refine blk_drewN ?_ _ | refine blk_drew ?_ | refine blk_alloc ?_ _)); exact BK388.out) hb); have n2_ := Aside0.mk (below_step (by repeat (first | (with_reducible first | exact HB.out | apply below_alloc | apply pw_below_drewN | apply below_drew1 | refine below_set ?_ GE388.out) | exact HB.out)) hb); clear BK388; clear HB; have HO393 := n0_; have BK388 := n1_; have HB := n2_; clear n0_ n1_ n2_; (try clear hb); (try clear hb2); (try clear hk); (try clear hi); (try clear ho0)))
 repeat (go_quiet (first | ((with_reducible refine gate_dst (N := 2) rfl ?_); refine box_event ?hg (N := 2) ?hd (cs := #[.int .i16 a0_0, .int .i16 a0_1]) (t := 28) ?hr ?_; (case hd => rfl); (case hg => rfl); (case hr => first | (go_simp; done) | (go_simp; rfl)); intro gb388 hg w4 hbox hb; have n0_ := Aside0.mk (below_step (by repeat (first | (with_reducible first | exact HB.out | apply below_alloc | apply pw_below_drewN | apply below_drew1) | exact HB.out)) hb); have n1_ := Aside0.mk (hbox); have n2_ := Aside0.mk ((by rw [hg]; exact (below_size (by repeat (first | (with_reducible first | exact HB.out | apply below_alloc | apply pw_below_drewN | apply below_drew1) | exact HB.out))) : w.heap.size ≤ gb388)); have n3_ := Aside0.mk ((by rw [hg]; exact (below_size (by repeat (first | (with_reducible first | exact HB.out | apply below_alloc | apply pw_below_drewN | apply below_drew1) | exact HB.out))) : w.heap.size ≤ gb388)); clear HB; have HB := n0_; have BK388 := n1_; have GW388 := n2_; have GE388 := n3_; clear n0_ n1_ n2_ n3_; clear hb hbox hg) | (go_at_call 114; (with_reducible refine (impl_hungw.calls _ _ l1 t389 t390 t391 _ ?side1 ?side2 A3.out).mono ?_); (case side1 => repeat (first | exact (Kd.C_below HR1.out HB.out) | (with_reducible refine Kd.C_alloc ?_ _) | (with_reducible refine Kd.C_drewN ?_ _) | (with_reducible refine Kd.C_drew ?_))); (case side2 => exact HC1.out); rintro e w5 ⟨v392, rfl, ho0, hb⟩; have n0_ := Aside0.mk (Kd.R_lower ho0 (below_size (by repeat (first | (with_reducible first | exact HB.out | apply below_alloc | apply pw_below_drewN | apply below_drew1 | refine below_set ?_ GE388.out) | exact HB.out)))); have n1_ := Aside0.mk (blk_below (g := gb388) (o := .cells #[.int .i16 a0_0, .int .i16 a0_1] 28 (0, 0)) (by (with_reducible repeat (first | refine blk_drewN ?_ _ | refine blk_drew ?_ | refine blk_alloc ?_ _)); exact BK388.out) hb); have n2_ := Aside0.mk (below_step (by repeat (first | (with_reducible first | exact HB.out | apply below_alloc | apply pw_below_drewN | apply below_drew1 | refine below_set ?_ GE388.out) | exact HB.out)) hb); clear BK388; clear HB; have HO393 := n0_; have BK388 := n1_; have HB := n2_; clear n0_ n1_ n2_; (try clear hb); (try clear hb2); (try clear hk); (try clear hi); (try clear ho0))); try go_wp2_with (first | ((with_reducible refine gate_dst (N := 2) rfl ?_); refine box_event ?hg (N := 2) ?hd (cs := #[.int .i16 a0_0, .int .i16 a0_1]) (t := 28) ?hr ?_; (case hd => rfl); (case hg => rfl); (case hr => first | (go_simp; done) | (go_simp; rfl)); intro gb388 hg w4 hbox hb; have n0_ := Aside0.mk (below_step (by repeat (first | (with_reducible first | exact HB.out | apply below_alloc | apply pw_below_drewN | apply below_drew1) | exact HB.out)) hb); have n1_ := Aside0.mk (hbox); have n2_ := Aside0.mk ((by rw [hg]; exact (below_size (by repeat (first | (with_reducible first | exact HB.out | apply below_alloc | apply pw_below_drewN | apply below_drew1) | exact HB.out))) : w.heap.size ≤ gb388)); have n3_ := Aside0.mk ((by rw [hg]; exact (below_size (by repeat (first | (with_reducible first | exact HB.out | apply below_alloc | apply pw_below_drewN | apply below_drew1) | exact HB.out))) : w.heap.size ≤ gb388)); clear HB; have HB := n0_; have BK388 := n1_; have GW388 := n2_; have GE388 := n3_; clear n0_ n1_ n2_ n3_; clear hb hbox hg) | (go_at_call 114; (with_reducible refine (impl_hungw.calls _ _ l1 t389 t390 t391 _ ?side1 ?side2 A3.out).mono ?_); (case side1 => repeat (first | exact (Kd.C_below HR1.out HB.out) | (with_reducible refine Kd.C_alloc ?_ _) | (with_reducible refine Kd.C_drewN ?_ _) | (with_reducible refine Kd.C_drew ?_))); (case side2 => exact HC1.out); rintro e w5 ⟨v392, rfl, ho0, hb⟩; have n0_ := Aside0.mk (Kd.R_lower ho0 (below_size (by repeat (first | (with_reducible first | exact HB.out | apply below_alloc | apply pw_below_drewN | apply below_drew1 | refine below_set ?_ GE388.out) | exact HB.out)))); have n1_ := Aside0.mk (blk_below (g := gb388) (o := .cells #[.int .i16 a0_0, .int .i16 a0_1] 28 (0, 0)) (by (with_reducible repeat (first | refine blk_drewN ?_ _ | refine blk_drew ?_ | refine blk_alloc ?_ _)); exact BK388.out) hb); have n2_ := Aside0.mk (below_step (by repeat (first | (with_reducible first | exact HB.out | apply below_alloc | apply pw_below_drewN | apply below_drew1 | refine below_set ?_ GE388.out) | exact HB.out)) hb); clear BK388; clear HB; have HO393 := n0_; have BK388 := n1_; have HB := n2_; clear n0_ n1_ n2_; (try clear hb); (try clear hb2); (try clear hk); (try clear hi); (try clear ho0))))
 go_loopg [5, 20] k (fun kq v5 v20 w' => ∃ (x5_1 : Int) (x20_1 : Int), v5 = .int .i64 x5_1 ∧ v20 = .int .i64 x20_1 ∧ Aside0 (impl_Line_sag.l0 kq x5_1 t390 l1 (l1.length : Int) x20_1 a0_0 a0_1 = some r) ∧ Aside0 (kq ≤ k) ∧ Aside0 (Kd.R (Kd.int .i64) 2 w' w.heap.size (fun _ => True) v392 t390) ∧ Aside0 (w'.heap[gb388]? = some (.cells #[.int .i16 a0_0, .int .i16 a0_1] 28 (0, 0))) ∧ Aside0 (Below w.heap.size w w'))
 case atStart => exact ⟨(0), (0), (by first | rfl | (simp; done) | (simp [*]; done)), (by first | rfl | (simp; done) | (simp [*]; done)), H', ⟨Nat.le_refl _⟩, ⟨by (with_reducible repeat (first | apply Kd.R_alloc | apply Kd.R_drewN | apply Kd.R_drew)); exact HO393.out⟩, ⟨by (with_reducible repeat (first | refine blk_drewN ?_ _ | refine blk_drew ?_ | refine blk_alloc ?_ _)); exact BK388.out⟩, ⟨by repeat (first | (with_reducible first | exact HB.out | apply below_alloc | apply pw_below_drewN | apply below_drew1 | refine below_set ?_ GE388.out) | exact HB.out)⟩⟩
 case round =>
  clear H'
  try clear c1
  try clear p2
  obtain ⟨x5_1, x20_1, rfl, rfl, HA, HK1, HO_7, BK388, HB⟩ := hrel
  cases gk with
  | zero => exact absurd HA.out (by simp [impl_Line_sag.l0])
  | succ k1 =>
   have H := HA.out
   clear HA
   simp only [impl_Line_sag.l0] at H
   by_cases c6 : x20_1 < (l1.length : Int)
   ·rw [if_pos c6] at H
    have c6b0 : decide (x20_1 < (l1.length : Int)) = true := decide_eq_true c6
    clear c6
    by_cases c7 : 0 ≤ x20_1
    ·rw [if_pos c7] at H
     have c7b0 : decide (0 ≤ x20_1) = true := decide_eq_true c7
     clear c7
     by_cases c8 : x20_1 < (l1.length : Int)
     ·rw [if_pos c8] at H
      have c8b0 : decide (x20_1 < (l1.length : Int)) = true := decide_eq_true c8
      clear c8
      by_cases c9 : x20_1 < (t390.length : Int)
      ·rw [if_pos c9] at H
       have c9b0 : decide (x20_1 < (t390.length : Int)) = true := decide_eq_true c9
       clear c9
       obtain ⟨ji10, hji10⟩ : ∃ j_ : Int, (mn (wrap64 ((wrap64 (2 * (rd t390 x20_1))) + (wrap64 ((rd_T38 l1 x20_1).f0)))) (wrap64 ((wrap64 (2 * (wrap64 (a0_0)))) - (wrap64 ((wrap64 (2 * (rd t390 x20_1))) + (wrap64 ((rd_T38 l1 x20_1).f0))))))) = j_ := ⟨_, rfl⟩
       replace H : (if (wrap64 (2 * (wrap64 (a0_0)))) = 0 then (none) else (impl_Line_sag.l0 k1 (wrap64 (x5_1 + (wrap64 (Int.tdiv (wrap64 ((wrap64 ((rd_T38 l1 x20_1).f1)) * (ji10))) (wrap64 (2 * (wrap64 (a0_0)))))))) t390 l1 (l1.length : Int) (wrap64 (x20_1 + 1)) a0_0 a0_1)) = some r := by first | (rw [hji10] at H; exact H) | (simp only [hji10] at H ⊢; exact H)
       have hji10_ : (if (wrap64 ((wrap64 (2 * (wrap64 (a0_0)))) - (wrap64 ((wrap64 (2 * (rd t390 x20_1))) + (wrap64 ((rd_T38 l1 x20_1).f0)))))) < (wrap64 ((wrap64 (2 * (rd t390 x20_1))) + (wrap64 ((rd_T38 l1 x20_1).f0)))) then (wrap64 ((wrap64 (2 * (wrap64 (a0_0)))) - (wrap64 ((wrap64 (2 * (rd t390 x20_1))) + (wrap64 ((rd_T38 l1 x20_1).f0)))))) else (wrap64 ((wrap64 (2 * (rd t390 x20_1))) + (wrap64 ((rd_T38 l1 x20_1).f0))))) = ji10 := hji10
       by_cases c11 : (wrap64 (2 * (wrap64 (a0_0)))) = 0
       ·rw [if_pos c11] at H
        exact absurd H (by simp)
       ·rw [if_neg c11] at H
        have c11b0 : ((wrap64 (2 * (wrap64 (a0_0)))) == 0) = false := beq_eq_false_iff_ne.mpr c11
        have c11b1 : ((wrap64 (2 * (wrap64 (a0_0)))) != 0) = true := bne_iff_ne.mpr c11
        have H' := Aside0.mk H
        clear H
        have p394 : 0 ≤ (x20_1 : Int) := of_decide_eq_true (by first | (with_reducible assumption) | assumption)
        have q394 : x20_1 < (l1.length : Int) := of_decide_eq_true (by first | (with_reducible assumption) | assumption)
        obtain ⟨ad394, e394, hx394_0, hx394_1⟩ := at_T38 HR1.out x20_1 p394 q394
        cases e394
        replace hx394_0 := (HB.out.cell (World.block_lt_of_cell? w _ hx394_0)).trans hx394_0
        replace hx394_1 := (HB.out.cell (World.block_lt_of_cell? w _ hx394_1)).trans hx394_1
        replace p394 := eq_true p394
        replace q394 := eq_true q394
        go_wp2_with (first | ((with_reducible refine gate_dst (N := 10) rfl ?_); refine box_event ?hg (N := 10) ?hd (cs := #[.int .i16 0, .int .i16 0]) (t := 38) ?hr ?_; (case hd => rfl); (case hg => rfl); (case hr => first | (go_simp; done) | (go_simp; rfl)); intro gb395 hg w12 hbox hb; have n0_ := Aside0.mk (Kd.R_below (by (with_reducible repeat (first | apply Kd.R_alloc | apply Kd.R_drewN | apply Kd.R_drew)); exact HO_7.out) hb); have n1_ := Aside0.mk (blk_below (g := gb388) (o := .cells #[.int .i16 a0_0, .int .i16 a0_1] 28 (0, 0)) (by (with_reducible repeat (first | refine blk_drewN ?_ _ | refine blk_drew ?_ | refine blk_alloc ?_ _)); exact BK388.out) hb); have n2_ := Aside0.mk (below_step (by repeat (first | (with_reducible first | exact HB.out | apply below_alloc | apply pw_below_drewN | apply below_drew1 | refine below_set ?_ GE388.out) | exact HB.out)) hb); have n3_ := Aside0.mk (hbox); have n4_ := Aside0.mk ((by rw [hg]; exact (below_size (by repeat (first | (with_reducible first | exact HB.out | apply below_alloc | apply pw_below_drewN | apply below_drew1 | refine below_set ?_ GE388.out) | exact HB.out))) : w.heap.size ≤ gb395)); have n5_ := Aside0.mk ((by rw [hg]; exact (below_size (by repeat (first | (with_reducible first | exact HB.out | apply below_alloc | apply pw_below_drewN | apply below_drew1 | refine below_set ?_ GE388.out) | exact HB.out))) : w.heap.size ≤ gb395)); have n6_ := Aside0.mk ((by rw [hg]; exact Nat.ne_of_lt (blk_lt (g := gb388) (o := .cells #[.int .i16 a0_0, .int .i16 a0_1] 28 (0, 0)) (by (with_reducible repeat (first | refine blk_drewN ?_ _ | refine blk_drew ?_ | refine blk_alloc ?_ _)); exact BK388.out)) : gb388 ≠ gb395)); have n7_ := Aside0.mk ((by rw [hg]; exact Nat.ne_of_gt (blk_lt (g := gb388) (o := .cells #[.int .i16 a0_0, .int .i16 a0_1] 28 (0, 0)) (by (with_reducible repeat (first | refine blk_drewN ?_ _ | refine blk_drew ?_ | refine blk_alloc ?_ _)); exact BK388.out)) : gb395 ≠ gb388)); clear HO_7; clear BK388; clear HB; have HO_7 := n0_; have BK388 := n1_; have HB := n2_; have BK395 := n3_; have GW395 := n4_; have GE395 := n5_; have NB388_395 := n6_; have NB395_388 := n7_; clear n0_ n1_ n2_ n3_ n4_ n5_ n6_ n7_; clear hb hbox hg; have hnb13 := NB395_388.out; have hnc13 := NB388_395.out; have hcz14_0 : w12.cell? ⟨gb395, 0, none⟩ = some (.int .i16 0) := (blk_cell BK395.out 0).trans rfl; have hcz14_1 : w12.cell? ⟨gb395, 1, none⟩ = some (.int .i16 0) := (blk_cell BK395.out 1).trans rfl; have hfz14_0 := blk_frozen BK395.out 0; have hfz14_1 := blk_frozen BK395.out 1; obtain ⟨Ao15, co15, eo15⟩ := Kd.R_slice HO_7.out; subst eo15; have p396 : 0 ≤ (x20_1 : Int) := of_decide_eq_true (by first | (with_reducible assumption) | assumption); have q396 : x20_1 < (t390.length : Int) := of_decide_eq_true (by first | (with_reducible assumption) | assumption); obtain ⟨ad396, e396, hx396_0⟩ := Kd.at_int (Kd.R_reads' HO_7.out).2.2 x20_1 p396 q396; cases e396; have hn396_0 : ad396.block ≠ gb395 := Kd.own_blk (Kd.R_ne HO_7.out BK395.out (by decide)); have hn396_1 : ad396.block ≠ gb395 := Kd.own_blk (Kd.R_ne HO_7.out BK395.out (by decide)); replace hx396_0 := (cell_far (p := ⟨gb395, 0, none⟩) (by first | (rw [add_block]; exact hn396_0) | (show (Addr.add _ _).block ≠ _; rw [add_block]; exact hn396_0) | exact hn396_0) (.int .i16 ((rd_T38 l1 x20_1).f0))).trans hx396_0; replace hx396_0 := (cell_far (p := ⟨gb395, 1, none⟩) (by first | (rw [add_block]; exact hn396_1) | (show (Addr.add _ _).block ≠ _; rw [add_block]; exact hn396_1) | exact hn396_1) (.int .i16 ((rd_T38 l1 x20_1).f1))).trans hx396_0; (try have hy396_0 := fun (n_ : Nat) => (show ((((w12.drewN n_).setCell ⟨gb395, 0, none⟩ (.int .i16 ((rd_T38 l1 x20_1).f0))).setCell ⟨gb395, 1, none⟩ (.int .i16 ((rd_T38 l1 x20_1).f1)))).cell? _ = some _ from hx396_0)); clear hn396_0; clear hn396_1; replace p396 := eq_true p396; replace q396 := eq_true q396; have hcz16_0 : w12.cell? ⟨gb388, 0, none⟩ = some (.int .i16 a0_0) := (blk_cell BK388.out 0).trans rfl; have hcz16_1 : w12.cell? ⟨gb388, 1, none⟩ = some (.int .i16 a0_1) := (blk_cell BK388.out 1).trans rfl; have hfz16_0 := blk_frozen BK388.out 0; have hfz16_1 := blk_frozen BK388.out 1))
        repeat (go_quiet (first | ((with_reducible refine gate_dst (N := 10) rfl ?_); refine box_event ?hg (N := 10) ?hd (cs := #[.int .i16 0, .int .i16 0]) (t := 38) ?hr ?_; (case hd => rfl); (case hg => rfl); (case hr => first | (go_simp; done) | (go_simp; rfl)); intro gb395 hg w12 hbox hb; have n0_ := Aside0.mk (Kd.R_below (by (with_reducible repeat (first | apply Kd.R_alloc | apply Kd.R_drewN | apply Kd.R_drew)); exact HO_7.out) hb); have n1_ := Aside0.mk (blk_below (g := gb388) (o := .cells #[.int .i16 a0_0, .int .i16 a0_1] 28 (0, 0)) (by (with_reducible repeat (first | refine blk_drewN ?_ _ | refine blk_drew ?_ | refine blk_alloc ?_ _)); exact BK388.out) hb); have n2_ := Aside0.mk (below_step (by repeat (first | (with_reducible first | exact HB.out | apply below_alloc | apply pw_below_drewN | apply below_drew1 | refine below_set ?_ GE388.out) | exact HB.out)) hb); have n3_ := Aside0.mk (hbox); have n4_ := Aside0.mk ((by rw [hg]; exact (below_size (by repeat (first | (with_reducible first | exact HB.out | apply below_alloc | apply pw_below_drewN | apply below_drew1 | refine below_set ?_ GE388.out) | exact HB.out))) : w.heap.size ≤ gb395)); have n5_ := Aside0.mk ((by rw [hg]; exact (below_size (by repeat (first | (with_reducible first | exact HB.out | apply below_alloc | apply pw_below_drewN | apply below_drew1 | refine below_set ?_ GE388.out) | exact HB.out))) : w.heap.size ≤ gb395)); have n6_ := Aside0.mk ((by rw [hg]; exact Nat.ne_of_lt (blk_lt (g := gb388) (o := .cells #[.int .i16 a0_0, .int .i16 a0_1] 28 (0, 0)) (by (with_reducible repeat (first | refine blk_drewN ?_ _ | refine blk_drew ?_ | refine blk_alloc ?_ _)); exact BK388.out)) : gb388 ≠ gb395)); have n7_ := Aside0.mk ((by rw [hg]; exact Nat.ne_of_gt (blk_lt (g := gb388) (o := .cells #[.int .i16 a0_0, .int .i16 a0_1] 28 (0, 0)) (by (with_reducible repeat (first | refine blk_drewN ?_ _ | refine blk_drew ?_ | refine blk_alloc ?_ _)); exact BK388.out)) : gb395 ≠ gb388)); clear HO_7; clear BK388; clear HB; have HO_7 := n0_; have BK388 := n1_; have HB := n2_; have BK395 := n3_; have GW395 := n4_; have GE395 := n5_; have NB388_395 := n6_; have NB395_388 := n7_; clear n0_ n1_ n2_ n3_ n4_ n5_ n6_ n7_; clear hb hbox hg; have hnb13 := NB395_388.out; have hnc13 := NB388_395.out; have hcz14_0 : w12.cell? ⟨gb395, 0, none⟩ = some (.int .i16 0) := (blk_cell BK395.out 0).trans rfl; have hcz14_1 : w12.cell? ⟨gb395, 1, none⟩ = some (.int .i16 0) := (blk_cell BK395.out 1).trans rfl; have hfz14_0 := blk_frozen BK395.out 0; have hfz14_1 := blk_frozen BK395.out 1; obtain ⟨Ao15, co15, eo15⟩ := Kd.R_slice HO_7.out; subst eo15; have p396 : 0 ≤ (x20_1 : Int) := of_decide_eq_true (by first | (with_reducible assumption) | assumption); have q396 : x20_1 < (t390.length : Int) := of_decide_eq_true (by first | (with_reducible assumption) | assumption); obtain ⟨ad396, e396, hx396_0⟩ := Kd.at_int (Kd.R_reads' HO_7.out).2.2 x20_1 p396 q396; cases e396; have hn396_0 : ad396.block ≠ gb395 := Kd.own_blk (Kd.R_ne HO_7.out BK395.out (by decide)); have hn396_1 : ad396.block ≠ gb395 := Kd.own_blk (Kd.R_ne HO_7.out BK395.out (by decide)); replace hx396_0 := (cell_far (p := ⟨gb395, 0, none⟩) (by first | (rw [add_block]; exact hn396_0) | (show (Addr.add _ _).block ≠ _; rw [add_block]; exact hn396_0) | exact hn396_0) (.int .i16 ((rd_T38 l1 x20_1).f0))).trans hx396_0; replace hx396_0 := (cell_far (p := ⟨gb395, 1, none⟩) (by first | (rw [add_block]; exact hn396_1) | (show (Addr.add _ _).block ≠ _; rw [add_block]; exact hn396_1) | exact hn396_1) (.int .i16 ((rd_T38 l1 x20_1).f1))).trans hx396_0; (try have hy396_0 := fun (n_ : Nat) => (show ((((w12.drewN n_).setCell ⟨gb395, 0, none⟩ (.int .i16 ((rd_T38 l1 x20_1).f0))).setCell ⟨gb395, 1, none⟩ (.int .i16 ((rd_T38 l1 x20_1).f1)))).cell? _ = some _ from hx396_0)); clear hn396_0; clear hn396_1; replace p396 := eq_true p396; replace q396 := eq_true q396; have hcz16_0 : w12.cell? ⟨gb388, 0, none⟩ = some (.int .i16 a0_0) := (blk_cell BK388.out 0).trans rfl; have hcz16_1 : w12.cell? ⟨gb388, 1, none⟩ = some (.int .i16 a0_1) := (blk_cell BK388.out 1).trans rfl; have hfz16_0 := blk_frozen BK388.out 0; have hfz16_1 := blk_frozen BK388.out 1)); try go_wp2_with (first | ((with_reducible refine gate_dst (N := 10) rfl ?_); refine box_event ?hg (N := 10) ?hd (cs := #[.int .i16 0, .int .i16 0]) (t := 38) ?hr ?_; (case hd => rfl); (case hg => rfl); (case hr => first | (go_simp; done) | (go_simp; rfl)); intro gb395 hg w12 hbox hb; have n0_ := Aside0.mk (Kd.R_below (by (with_reducible repeat (first | apply Kd.R_alloc | apply Kd.R_drewN | apply Kd.R_drew)); exact HO_7.out) hb); have n1_ := Aside0.mk (blk_below (g := gb388) (o := .cells #[.int .i16 a0_0, .int .i16 a0_1] 28 (0, 0)) (by (with_reducible repeat (first | refine blk_drewN ?_ _ | refine blk_drew ?_ | refine blk_alloc ?_ _)); exact BK388.out) hb); have n2_ := Aside0.mk (below_step (by repeat (first | (with_reducible first | exact HB.out | apply below_alloc | apply pw_below_drewN | apply below_drew1 | refine below_set ?_ GE388.out) | exact HB.out)) hb); have n3_ := Aside0.mk (hbox); have n4_ := Aside0.mk ((by rw [hg]; exact (below_size (by repeat (first | (with_reducible first | exact HB.out | apply below_alloc | apply pw_below_drewN | apply below_drew1 | refine below_set ?_ GE388.out) | exact HB.out))) : w.heap.size ≤ gb395)); have n5_ := Aside0.mk ((by rw [hg]; exact (below_size (by repeat (first | (with_reducible first | exact HB.out | apply below_alloc | apply pw_below_drewN | apply below_drew1 | refine below_set ?_ GE388.out) | exact HB.out))) : w.heap.size ≤ gb395)); have n6_ := Aside0.mk ((by rw [hg]; exact Nat.ne_of_lt (blk_lt (g := gb388) (o := .cells #[.int .i16 a0_0, .int .i16 a0_1] 28 (0, 0)) (by (with_reducible repeat (first | refine blk_drewN ?_ _ | refine blk_drew ?_ | refine blk_alloc ?_ _)); exact BK388.out)) : gb388 ≠ gb395)); have n7_ := Aside0.mk ((by rw [hg]; exact Nat.ne_of_gt (blk_lt (g := gb388) (o := .cells #[.int .i16 a0_0, .int .i16 a0_1] 28 (0, 0)) (by (with_reducible repeat (first | refine blk_drewN ?_ _ | refine blk_drew ?_ | refine blk_alloc ?_ _)); exact BK388.out)) : gb395 ≠ gb388)); clear HO_7; clear BK388; clear HB; have HO_7 := n0_; have BK388 := n1_; have HB := n2_; have BK395 := n3_; have GW395 := n4_; have GE395 := n5_; have NB388_395 := n6_; have NB395_388 := n7_; clear n0_ n1_ n2_ n3_ n4_ n5_ n6_ n7_; clear hb hbox hg; have hnb13 := NB395_388.out; have hnc13 := NB388_395.out; have hcz14_0 : w12.cell? ⟨gb395, 0, none⟩ = some (.int .i16 0) := (blk_cell BK395.out 0).trans rfl; have hcz14_1 : w12.cell? ⟨gb395, 1, none⟩ = some (.int .i16 0) := (blk_cell BK395.out 1).trans rfl; have hfz14_0 := blk_frozen BK395.out 0; have hfz14_1 := blk_frozen BK395.out 1; obtain ⟨Ao15, co15, eo15⟩ := Kd.R_slice HO_7.out; subst eo15; have p396 : 0 ≤ (x20_1 : Int) := of_decide_eq_true (by first | (with_reducible assumption) | assumption); have q396 : x20_1 < (t390.length : Int) := of_decide_eq_true (by first | (with_reducible assumption) | assumption); obtain ⟨ad396, e396, hx396_0⟩ := Kd.at_int (Kd.R_reads' HO_7.out).2.2 x20_1 p396 q396; cases e396; have hn396_0 : ad396.block ≠ gb395 := Kd.own_blk (Kd.R_ne HO_7.out BK395.out (by decide)); have hn396_1 : ad396.block ≠ gb395 := Kd.own_blk (Kd.R_ne HO_7.out BK395.out (by decide)); replace hx396_0 := (cell_far (p := ⟨gb395, 0, none⟩) (by first | (rw [add_block]; exact hn396_0) | (show (Addr.add _ _).block ≠ _; rw [add_block]; exact hn396_0) | exact hn396_0) (.int .i16 ((rd_T38 l1 x20_1).f0))).trans hx396_0; replace hx396_0 := (cell_far (p := ⟨gb395, 1, none⟩) (by first | (rw [add_block]; exact hn396_1) | (show (Addr.add _ _).block ≠ _; rw [add_block]; exact hn396_1) | exact hn396_1) (.int .i16 ((rd_T38 l1 x20_1).f1))).trans hx396_0; (try have hy396_0 := fun (n_ : Nat) => (show ((((w12.drewN n_).setCell ⟨gb395, 0, none⟩ (.int .i16 ((rd_T38 l1 x20_1).f0))).setCell ⟨gb395, 1, none⟩ (.int .i16 ((rd_T38 l1 x20_1).f1)))).cell? _ = some _ from hx396_0)); clear hn396_0; clear hn396_1; replace p396 := eq_true p396; replace q396 := eq_true q396; have hcz16_0 : w12.cell? ⟨gb388, 0, none⟩ = some (.int .i16 a0_0) := (blk_cell BK388.out 0).trans rfl; have hcz16_1 : w12.cell? ⟨gb388, 1, none⟩ = some (.int .i16 a0_1) := (blk_cell BK388.out 1).trans rfl; have hfz16_0 := blk_frozen BK388.out 0; have hfz16_1 := blk_frozen BK388.out 1)))
        go_roundg k1
        case measure => have := HK1.out; omega
        case rel => exact ⟨(wrap64 (x5_1 + (wrap64 (Int.tdiv (wrap64 ((wrap64 ((rd_T38 l1 x20_1).f1)) * (ji10))) (wrap64 (2 * (wrap64 (a0_0)))))))), (wrap64 (x20_1 + 1)), (by first | rfl | (simp; done) | (simp only [← hji10] <;> (first | rfl | simp)) | (simp [*]; done)), (by first | rfl | (simp; done) | (simp [*]; done)), H', ⟨by have := HK1.out; omega⟩, ⟨by (with_reducible repeat (first | apply Kd.R_alloc | apply Kd.R_drewN | apply Kd.R_drew)); exact Kd.R_mono (Kd.R_far (p := ⟨gb395, 1, none⟩) (Kd.R_far (p := ⟨gb395, 0, none⟩) (Kd.R_types HO_7.out BK395.out (by decide)) (fun _ hk => hk.2) (.int .i16 ((rd_T38 l1 x20_1).f0))) (fun _ hk => hk.2) (.int .i16 ((rd_T38 l1 x20_1).f1))) (fun _ hk => trivial)⟩, ⟨by (with_reducible repeat (first | refine blk_drewN ?_ _ | refine blk_drew ?_ | refine blk_alloc ?_ _)); refine blk_far ?_ NB388_395.out _; (with_reducible repeat (first | refine blk_drewN ?_ _ | refine blk_drew ?_ | refine blk_alloc ?_ _)); refine blk_far ?_ NB388_395.out _; (with_reducible repeat (first | refine blk_drewN ?_ _ | refine blk_drew ?_ | refine blk_alloc ?_ _)); exact BK388.out⟩, ⟨by repeat (first | (with_reducible first | exact HB.out | apply below_alloc | apply pw_below_drewN | apply below_drew1 | refine below_set ?_ GE388.out | refine below_set ?_ GE395.out) | exact HB.out)⟩⟩
      ·rw [if_neg c9] at H
       exact absurd H (by simp)
     ·rw [if_neg c8] at H
      exact absurd H (by simp)
    ·rw [if_neg c7] at H
     exact absurd H (by simp)
   ·rw [if_neg c6] at H
    have c6b0 : decide (x20_1 < (l1.length : Int)) = false := decide_eq_false c6
    clear c6
    obtain rfl := Option.some.inj H
    go_wp2
    repeat (go_quiet (fail); try go_wp2)
    go_ret
    exact ⟨by first | rfl | (simp [errW_none, errW_some] <;> rfl) | (simp [*, errW_none, errW_some] <;> rfl), by repeat (first | (with_reducible first | exact HB.out | apply below_alloc | apply pw_below_drewN | apply below_drew1 | refine below_set ?_ GE388.out) | exact HB.out)⟩
def sagStep (lg : Int) (p : Int) (c : S38) : Int :=
 wrap64 (Int.tdiv (wrap64 ((wrap64 c.f1) * (mn (wrap64 ((wrap64 (2 * p)) + (wrap64 c.f0))) (wrap64 (lg - (wrap64 ((wrap64 (2 * p)) + (wrap64 c.f0)))))))) lg)
def sagFrom (lg : Int) : Int → List Int → List S38 → Int
 | x, p :: ps, c :: cs => sagFrom lg (wrap64 (x + sagStep lg p c)) ps cs
 | x, _, _ => x
def sagB (long : Int) (l : List S38) : Int := sagFrom (wrap64 (2 * wrap64 long)) 0 (hungOf l).2.1 l
theorem hungFrom_len : ∀ (cs : List S38) (o : Option S38) (p : Int) (pl : List Int) (e : Int), (hungFrom o p pl e cs).2.1.length = pl.length + cs.length
 | [], o, p, pl, e => by cases o <;> simp [hungFrom]
 | c :: cs, none, p, pl, e => by rw [hungFrom, hungFrom_len]; simp; omega
 | c :: cs, some b, p, pl, e => by
  rw [hungFrom]
  split <;> (rw [hungFrom_len]; simp; omega)
theorem sag_l0 (l : List S38) (hl : l.length ≤ 1048576) (places : List Int) (hp : places.length = l.length) (long most : Int) (h0 : wrap64 (2 * wrap64 long) ≠ 0) :
  ∀ (cs pre : List S38) (ps pp : List Int), l = pre ++ cs → places = pp ++ ps → pp.length = pre.length → ∀ x : Int,
  Ev (fun k => impl_Line_sag.l0 k x places l (l.length : Int) (pre.length : Int) long most) (sagFrom (wrap64 (2 * wrap64 long)) x ps cs) := by
 intro cs
 induction cs with
 | nil =>
  intro pre ps pp hpre hpp hlp x
  refine Ev.step (fun k => by rw [impl_Line_sag.l0]) ?_
  have : l.length = pre.length := by rw [hpre]; simp
  simp only [show ¬ (pre.length : Int) < (l.length : Int) by omega, ↓reduceIte]
  cases ps <;> exact Ev.now _
 | cons c cs ih =>
  intro pre ps pp hpre hpp hlp x
  have hlen : l.length = pre.length + cs.length + 1 := by rw [hpre]; simp; omega
  have hplen : places.length = pp.length + ps.length := by rw [hpp]; simp
  match ps, hpp, hplen with
  | [], _, h => simp at h; omega
  | q :: ps, hpp, _ =>
  have hc : rd_T38 l (pre.length : Int) = c := by rw [hpre]; exact rd_mid pre c cs
  have hq : rd places (pre.length : Int) = q := by rw [hpp, ← hlp]; exact rdi_mid pp q ps
  have hnext := ih (pre ++ [c]) ps (pp ++ [q]) (by rw [hpre]; simp) (by rw [hpp]; simp) (by simp [hlp])
  simp only [List.length_append, List.length_cons, List.length_nil, Nat.zero_add] at hnext
  refine Ev.step (fun k => by rw [impl_Line_sag.l0]) ?_
  simp only [show (pre.length : Int) < (l.length : Int) by omega, show (pre.length : Int) < (places.length : Int) by omega, show (0 : Int) ≤ (pre.length : Int) by omega, ↓reduceIte, hc, hq, h0, w_succ (show pre.length < l.length by omega) hl]
  rw [sagFrom, sagStep]
  exact hnext _
theorem sag_ev (long most : Int) (l : List S38) (hl : l.length ≤ 1048576) (h0 : wrap64 (2 * wrap64 long) ≠ 0) : Ev (fun k => impl_Line_sag.f k long most l) (sagB long l) := by
 unfold impl_Line_sag.f impl_hungw.f
 rw [if_pos hl]
 simp only [Option.bind_some]
 exact (sag_l0 l hl _ (by rw [List.nil_append, hungOf, hungFrom_len]; simp) long most h0 l [] _ [] rfl rfl rfl 0)
def impl_Line_sagw.f (a0_0 : Int) (a0_1 : Int) (l1 : List S38) : Option Int := if l1.length ≤ 1048576 ∧ wrap64 (2 * wrap64 a0_0) ≠ 0 then some (sagB a0_0 l1) else none
theorem impl_Line_sagw.spec (a0_0 : Int) (a0_1 : Int) (l1 : List S38) (r : Int) (h : impl_Line_sagw.f a0_0 a0_1 l1 = some r) : ∃ k, impl_Line_sag.f k a0_0 a0_1 l1 = some r := by
 unfold impl_Line_sagw.f at h
 by_cases hc : l1.length ≤ 1048576 ∧ wrap64 (2 * wrap64 a0_0) ≠ 0
 ·rw [if_pos hc] at h
  obtain rfl := Option.some.inj h
  exact Ev.rounds (sag_ev a0_0 a0_1 l1 hc.1 hc.2)
 ·rw [if_neg hc] at h
  cases h
theorem impl_Line_sagw.calls (a0_0 : Int) (a0_1 : Int) (A1 : Option Addr) (c1 : Nat) (l1 : List (S38)) (r : Int) (w : World) (hr1 : Kd.C k38 w A1 l1.length l1) (hc1 : l1.length ≤ c1) (h : impl_Line_sagw.f a0_0 a0_1 l1 = some r) :
  Calls Try.prog 120 #[.agg #[.int .i16 a0_0, .int .i16 a0_1], .slice A1 l1.length c1] w fun e w' => e = .returned (.int .i64 r) ∧ Below w.heap.size w w' := by
 obtain ⟨k, hk⟩ := impl_Line_sagw.spec a0_0 a0_1 l1 _ h
 exact impl_Line_sag.calls k a0_0 a0_1 A1 c1 l1 r w hr1 hc1 hk
def sagSc (a b : Int) (l : List S38) (o : List Int) : Int := if holdsB a b (pickedB l o) = true then sagB a (pickedB l o) else -1
def impl_LeastSag.f (k : Nat) (a0_0 : Int) (a0_1 : Int) (l1 : List S38) : Option (List Int × Int × Int) :=
 (impl_lineCode.f k a0_0 a0_1 l1).bind fun c => if c = 0 then (if l1.length ≤ 1000 ∧ wrap64 (2 * wrap64 a0_0) ≠ 0 then (if (bestB (sagSc a0_0 a0_1 l1) l1.length).2 < 0 then some ([], 0, 6) else some ((bestB (sagSc a0_0 a0_1 l1) l1.length).1, (bestB (sagSc a0_0 a0_1 l1) l1.length).2, 0)) else none) else some ([], 0, c)
theorem inRange_ls (l : List S38) (o : List Int) (h : ValidO l.length o) : inRange l.length o = true := by
 unfold inRange
 rw [List.all_eq_true]
 intro x hx
 have := h x hx
 simp [this.1, this.2]
set_option maxHeartbeats 4000000 in
set_option maxRecDepth 100000 in
theorem LeastSag_1 (a b : Int) (l0 : List S38) (A0 : Option Addr) (c0 : Nat) (g1 g2 : Nat) (W : World) (A : Option Addr) (c : Nat) (o : List Int) (hn : l0.length ≤ 1000) (hz : wrap64 (2 * wrap64 a) ≠ 0) (hr0 : Kd.C k38 W A0 l0.length l0) (hc0 : l0.length ≤ c0)
  (h1 : W.cell? ⟨g1, 0, none⟩ = some (.slice A0 l0.length c0)) (h20 : W.cell? ⟨g2, 0, none⟩ = some (.int .i16 a)) (h21 : W.cell? ⟨g2, 1, none⟩ = some (.int .i16 b)) (ho : Kd.C (Kd.int .i64) W A o.length o) (hoc : o.length ≤ c) (hol : o.length = l0.length) (hv : ValidO l0.length o) :
  Calls Try.prog 119 #[.slice A o.length c, .pointer (some ⟨g1, 0, none⟩), .pointer (some ⟨g2, 0, none⟩)] W fun e w' => e = .returned (.int .i64 (sagSc a b l0 o)) ∧ Below W.heap.size W w' := by
 have hp : impl_picked_impl_Clothw.f l0 o = some (pickedB l0 o) := by unfold impl_picked_impl_Clothw.f; rw [if_pos ⟨by omega, inRange_ls l0 o hv⟩]
 have hlen : (pickedB l0 o).length ≤ 1048576 := by unfold pickedB; rw [List.length_map]; omega
 have hh : impl_Line_holdsw.f a b (pickedB l0 o) = some (holdsB a b (pickedB l0 o)) := by unfold impl_Line_holdsw.f; rw [if_pos hlen]
 have hs : impl_Line_sagw.f a b (pickedB l0 o) = some (sagB a (pickedB l0 o)) := by unfold impl_Line_sagw.f; rw [if_pos ⟨hlen, hz⟩]
 unfold sagSc
 obtain ⟨y, hy⟩ : ∃ y, pickedB l0 o = y := ⟨_, rfl⟩
 rw [hy] at hp hh hs ⊢
 obtain ⟨z, hzz⟩ : ∃ z, sagB a y = z := ⟨_, rfl⟩
 rw [hzz] at hs ⊢
 have HP := Aside0.mk hp
 have HS := Aside0.mk hs
 have HR0 := Aside0.mk hr0
 have HO := Aside0.mk ho
 cases hq : holdsB a b y with
 | false =>
  rw [hq] at hh
  have HH := Aside0.mk hh
  clear hq hzz hy hp hh hs hr0 ho hv hol hn hz hlen
  simp only [Bool.false_eq_true, ↓reduceIte]
  go_enter Try.func119, Try.ntmps119
  go_wp2_with (first | (go_at_call 109; refine (impl_picked_impl_Clothw.calls A0 c0 l0 A c o y _ HR0.out hc0 HO.out hoc HP.out).mono ?_; rintro e w1 ⟨v1, rfl, ho1, hb1⟩; obtain ⟨B1, d1, rfl, hd1, hC1⟩ := Kd.R_reads ho1; have k0 := pw_cell_below hb1 h20; have k1 := pw_cell_below hb1 h21; have HB1 := Aside0.mk hb1; have HC1 := Aside0.mk hC1; clear ho1 hC1 hb1) | (go_at_call 88; refine (impl_Line_holdsw.calls a b B1 d1 y false _ HC1.out hd1 HH.out).mono ?_; rintro e w2 ⟨rfl, hb2⟩; have HB2 := Aside0.mk hb2; clear hb2))
  go_ret
  exact ⟨rfl, below_step HB1.out HB2.out⟩
 | true =>
  rw [hq] at hh
  have HH := Aside0.mk hh
  clear hq hzz hy hp hh hs hr0 ho hv hol hn hz hlen
  simp only [↓reduceIte]
  go_enter Try.func119, Try.ntmps119
  go_wp2_with (first | (go_at_call 109; refine (impl_picked_impl_Clothw.calls A0 c0 l0 A c o y _ HR0.out hc0 HO.out hoc HP.out).mono ?_; rintro e w1 ⟨v1, rfl, ho1, hb1⟩; obtain ⟨B1, d1, rfl, hd1, hC1⟩ := Kd.R_reads ho1; have k0 := pw_cell_below hb1 h20; have k1 := pw_cell_below hb1 h21; have HB1 := Aside0.mk hb1; have HC1 := Aside0.mk hC1; clear ho1 hC1 hb1) | (go_at_call 88; refine (impl_Line_holdsw.calls a b B1 d1 y true _ HC1.out hd1 HH.out).mono ?_; rintro e w2 ⟨rfl, hb2⟩; have k2 := pw_cell_below hb2 k0; have k3 := pw_cell_below hb2 k1; have HB2 := Aside0.mk (below_step HB1.out hb2); have HC2 := Aside0.mk (Kd.C_below HC1.out hb2); clear hb2) | (go_at_call 120; refine (impl_Line_sagw.calls a b B1 d1 y z _ HC2.out hd1 HS.out).mono ?_; rintro e w3 ⟨rfl, hb3⟩; have HB3 := Aside0.mk hb3; clear hb3))
  go_ret
  exact ⟨rfl, below_step HB2.out HB3.out⟩
set_option maxHeartbeats 4000000 in
set_option maxRecDepth 100000 in
theorem impl_LeastSag.calls (k : Nat) (a0_0 : Int) (a0_1 : Int) (A1 : Option Addr) (c1 : Nat) (l1 : List S38) (r1 : List Int) (r2 : Int) (r3 : Int) (w : World) (hr1 : Kd.C k38 w A1 l1.length l1) (hc1 : l1.length ≤ c1) (h : impl_LeastSag.f k a0_0 a0_1 l1 = some (r1, r2, r3)) :
  Calls Try.prog 50 #[.agg #[.int .i16 a0_0, .int .i16 a0_1], .slice A1 l1.length c1] w fun e w' => ∃ v0_ : Value, e = .returned (.tuple #[v0_, .int .i64 r2, .int .i64 r3]) ∧ Kd.R (Kd.int .i64) 2 w' w.heap.size (fun _ => True) v0_ r1 ∧ Below w.heap.size w w' := by
 obtain ⟨cd, hcd, h⟩ := Option.bind_eq_some_iff.mp h
 have HCD := Aside0.mk hcd
 have HR1 := Aside0.mk hr1
 clear hcd hr1
 by_cases h0 : cd = 0
 ·subst h0
  rw [if_pos rfl] at h
  by_cases hl : l1.length ≤ 1000 ∧ wrap64 (2 * wrap64 a0_0) ≠ 0
  ·rw [if_pos hl] at h
   have HC := Aside0.mk (fun (W : World) (g1 g2 : Nat) (hB : Below w.heap.size w W) (h1 : W.cell? ⟨g1, 0, none⟩ = some (.slice A1 l1.length c1)) (h20 : W.cell? ⟨g2, 0, none⟩ = some (.int .i16 a0_0)) (h21 : W.cell? ⟨g2, 1, none⟩ = some (.int .i16 a0_1)) =>
    bestOrder_calls W l1.length 119 #[.pointer (some ⟨g1, 0, none⟩), .pointer (some ⟨g2, 0, none⟩)] (sagSc a0_0 a0_1 l1) hl.1 (enters_of Try.func119 (by kernel_rfl) rfl)
     (fun W' A c o hB' hC hoc hol hv => LeastSag_1 a0_0 a0_1 l1 A1 c1 g1 g2 W' A c o hl.1 hl.2 (Kd.C_below HR1.out (below_step hB hB')) hc1 (pw_cell_below hB' h1) (pw_cell_below hB' h20) (pw_cell_below hB' h21) hC hoc hol hv))
   clear hl
   obtain ⟨best, hbest⟩ : ∃ s, bestB (sagSc a0_0 a0_1 l1) l1.length = s := ⟨_, rfl⟩
   rw [hbest] at h HC
   clear hbest
   obtain ⟨b1, b2⟩ := best
   simp only at h HC
   by_cases hneg : b2 < 0
   ·rw [if_pos hneg] at h
    have n1 : decide (b2 < 0) = true := decide_eq_true hneg
    clear hneg
    simp only [Option.some.injEq, Prod.mk.injEq] at h
    obtain ⟨rfl, rfl, rfl⟩ := h
    go_enter Try.func50, Try.ntmps50
    go_wp2_with (first | (go_at_call 74; refine (impl_lineCode.calls k a0_0 a0_1 A1 c1 l1 0 _ (Kd.C_below HR1.out (by repeat (first | exact Below.refl _ _ | apply below_alloc))) hc1 HCD.out).mono ?_; rintro e w1 ⟨rfl, hb1⟩; have k0 := pw_cell_below hb1 (a := ⟨w.heap.size, 0, none⟩) (v := .int .i16 a0_0) (by simp [go_sem]); have k1 := pw_cell_below hb1 (a := ⟨w.heap.size, 1, none⟩) (v := .int .i16 a0_1) (by simp [go_sem]); have k2 := pw_cell_below hb1 (a := ⟨w.heap.size + 1, 0, none⟩) (v := .slice A1 l1.length c1) (by simp [go_sem]); have HB := Aside0.mk (show Below w.heap.size w w1 from below_step (below_alloc (below_alloc (Below.refl _ _) _) _) hb1); clear hb1) | (go_at_call 112; refine (HC.out _ _ _ HB.out k2 k0 k1).mono ?_; rintro e w2 ⟨v2, rfl, ho2, hb2⟩; have HB2 := Aside0.mk hb2; clear ho2 hb2))
    go_ret3
    exact ⟨_, rfl, Kd.R_nil _ _ _ _ _, below_step HB.out HB2.out⟩
   ·rw [if_neg hneg] at h
    have n1 : decide (b2 < 0) = false := decide_eq_false hneg
    clear hneg
    simp only [Option.some.injEq, Prod.mk.injEq] at h
    obtain ⟨rfl, rfl, rfl⟩ := h
    go_enter Try.func50, Try.ntmps50
    go_wp2_with (first | (go_at_call 74; refine (impl_lineCode.calls k a0_0 a0_1 A1 c1 l1 0 _ (Kd.C_below HR1.out (by repeat (first | exact Below.refl _ _ | apply below_alloc))) hc1 HCD.out).mono ?_; rintro e w1 ⟨rfl, hb1⟩; have k0 := pw_cell_below hb1 (a := ⟨w.heap.size, 0, none⟩) (v := .int .i16 a0_0) (by simp [go_sem]); have k1 := pw_cell_below hb1 (a := ⟨w.heap.size, 1, none⟩) (v := .int .i16 a0_1) (by simp [go_sem]); have k2 := pw_cell_below hb1 (a := ⟨w.heap.size + 1, 0, none⟩) (v := .slice A1 l1.length c1) (by simp [go_sem]); have HB := Aside0.mk (show Below w.heap.size w w1 from below_step (below_alloc (below_alloc (Below.refl _ _) _) _) hb1); clear hb1) | (go_at_call 112; refine (HC.out _ _ _ HB.out k2 k0 k1).mono ?_; rintro e w2 ⟨v2, rfl, ho2, hb2⟩; have HO2 := Aside0.mk ho2; have HB2 := Aside0.mk hb2; clear ho2 hb2))
    go_ret3
    exact ⟨_, rfl, Kd.R_lower HO2.out HB.out.size, below_step HB.out HB2.out⟩
  ·rw [if_neg hl] at h
   cases h
 ·rw [if_neg h0] at h
  simp only [Option.some.injEq, Prod.mk.injEq] at h
  obtain ⟨rfl, rfl, rfl⟩ := h
  have hc1' : (cd != 0) = true := by simp [h0]
  have hc2' : (cd == 0) = false := by simp [h0]
  clear h0
  go_enter Try.func50, Try.ntmps50
  go_wp2_with (first | (go_at_call 74; refine (impl_lineCode.calls k a0_0 a0_1 A1 c1 l1 cd _ (Kd.C_below HR1.out (by repeat (first | exact Below.refl _ _ | apply below_alloc))) hc1 HCD.out).mono ?_; rintro e w1 ⟨rfl, hb1⟩; have HB := Aside0.mk (show Below w.heap.size w w1 from below_step (below_alloc (below_alloc (Below.refl _ _) _) _) hb1); clear hb1))
  go_ret3
  exact ⟨_, rfl, Kd.R_nil _ _ _ _ _, HB.out⟩
def spec_l02Line.f (a0_0 : Int) (a0_1 : Int) : Option (Bool) := (spec_l00In.f (wrap64 (a0_0)) 4 2000).bind fun t398 => (if t398 = true then ((spec_l00In.f (wrap64 (a0_1)) 1 2000).bind fun t399 => (some t399)) else (some false))
set_option maxHeartbeats 8000000 in
set_option maxRecDepth 100000 in
theorem spec_l02Line.calls (a0_0 : Int) (a0_1 : Int) (r : Bool) (w : World) (h : spec_l02Line.f a0_0 a0_1 = some r) :
  Calls Try.prog 99 #[.agg #[.int .i16 a0_0, .int .i16 a0_1]] w fun e w' => e = .returned (.bool r) ∧ Below w.heap.size w w' := by
 have hu28 := Try.underlying28
 have HB := Aside0.mk (Below.refl w.heap.size w)
 have H : ((spec_l00In.f (wrap64 (a0_0)) 4 2000).bind fun t398 => (if t398 = true then ((spec_l00In.f (wrap64 (a0_1)) 1 2000).bind fun t399 => (some t399)) else (some false))) = some r := h
 clear h
 replace H := Option.bind_eq_some_iff.mp H
 obtain ⟨t398, A20, H⟩ := H
 replace H : (if t398 = true then ((spec_l00In.f (wrap64 (a0_1)) 1 2000).bind fun t399 => (some t399)) else (some false)) = some r := H
 have A2 := Aside0.mk A20
 clear A20
 by_cases c3 : t398 = true
 ·subst c3
  have H1 : ((spec_l00In.f (wrap64 (a0_1)) 1 2000).bind fun t399 => (some t399)) = some r := by rw [if_pos rfl] at H; exact H
  clear H
  have H := H1
  clear H1
  replace H := Option.bind_eq_some_iff.mp H
  obtain ⟨t399, A40, H⟩ := H
  replace H : (some t399) = some r := H
  have A4 := Aside0.mk A40
  clear A40
  obtain rfl := Option.some.inj H
  go_enter Try.func99, Try.ntmps99
  go_wp2_with (first | ((with_reducible refine gate_dst (N := 1) rfl ?_); refine box_event ?hg (N := 1) ?hd (cs := #[.int .i16 a0_0, .int .i16 a0_1]) (t := 28) ?hr ?_; (case hd => rfl); (case hg => rfl); (case hr => first | (go_simp; done) | (go_simp; rfl)); intro gb397 hg w5 hbox hb; have n0_ := Aside0.mk (below_step (by repeat (first | (with_reducible first | exact HB.out | apply below_alloc | apply pw_below_drewN | apply below_drew1) | exact HB.out)) hb); have n1_ := Aside0.mk (hbox); have n2_ := Aside0.mk ((by rw [hg]; exact (below_size (by repeat (first | (with_reducible first | exact HB.out | apply below_alloc | apply pw_below_drewN | apply below_drew1) | exact HB.out))) : w.heap.size ≤ gb397)); have n3_ := Aside0.mk ((by rw [hg]; exact (below_size (by repeat (first | (with_reducible first | exact HB.out | apply below_alloc | apply pw_below_drewN | apply below_drew1) | exact HB.out))) : w.heap.size ≤ gb397)); clear HB; have HB := n0_; have BK397 := n1_; have GW397 := n2_; have GE397 := n3_; clear n0_ n1_ n2_ n3_; clear hb hbox hg; have hcz6_0 : w5.cell? ⟨gb397, 0, none⟩ = some (.int .i16 a0_0) := (blk_cell BK397.out 0).trans rfl; have hcz6_1 : w5.cell? ⟨gb397, 1, none⟩ = some (.int .i16 a0_1) := (blk_cell BK397.out 1).trans rfl; have hfz6_0 := blk_frozen BK397.out 0; have hfz6_1 := blk_frozen BK397.out 1) | ((with_reducible refine gate_callee (f := 85) rfl ?_); refine goesL_ (some 6) rfl rfl Try.func85 (by kernel_rfl) rfl #[.int .i64 (wrap64 (a0_0)), .int .i64 4, .int .i64 2000] rfl (by (try simp only [List.map_toArray, List.map_cons, List.map_nil]); first | done | rfl | (simp only [List.length_drop, List.length_take]; rfl)) ?_; (with_reducible refine (spec_l00In.calls (wrap64 (a0_0)) 4 2000 true _ A2.out).mono ?_); rintro e w' ⟨rfl, ⟨nd, rfl⟩⟩; refine ⟨_, rfl, ?_⟩) | (go_at_call 85; (with_reducible refine (spec_l00In.calls (wrap64 (a0_1)) 1 2000 t399 _ A4.out).mono ?_); rintro e w' ⟨rfl, ⟨nd, rfl⟩⟩))
  go_ret
  exact ⟨by first | rfl | (simp [errW_none, errW_some] <;> rfl) | (simp [*, errW_none, errW_some] <;> rfl), by repeat (first | (with_reducible first | exact HB.out | apply below_alloc | apply pw_below_drewN | apply below_drew1 | refine below_set ?_ GE397.out) | exact HB.out)⟩
 ·replace c3 := Bool.eq_false_iff.mpr c3
  subst c3
  have H1 : (some false) = some r := by rw [if_neg (show ¬ (false = true) by decide)] at H; exact H
  clear H
  have H := H1
  clear H1
  obtain rfl := Option.some.inj H
  go_enter Try.func99, Try.ntmps99
  go_wp2_with (first | ((with_reducible refine gate_dst (N := 1) rfl ?_); refine box_event ?hg (N := 1) ?hd (cs := #[.int .i16 a0_0, .int .i16 a0_1]) (t := 28) ?hr ?_; (case hd => rfl); (case hg => rfl); (case hr => first | (go_simp; done) | (go_simp; rfl)); intro gb397 hg w7 hbox hb; have n0_ := Aside0.mk (below_step (by repeat (first | (with_reducible first | exact HB.out | apply below_alloc | apply pw_below_drewN | apply below_drew1) | exact HB.out)) hb); have n1_ := Aside0.mk (hbox); have n2_ := Aside0.mk ((by rw [hg]; exact (below_size (by repeat (first | (with_reducible first | exact HB.out | apply below_alloc | apply pw_below_drewN | apply below_drew1) | exact HB.out))) : w.heap.size ≤ gb397)); have n3_ := Aside0.mk ((by rw [hg]; exact (below_size (by repeat (first | (with_reducible first | exact HB.out | apply below_alloc | apply pw_below_drewN | apply below_drew1) | exact HB.out))) : w.heap.size ≤ gb397)); clear HB; have HB := n0_; have BK397 := n1_; have GW397 := n2_; have GE397 := n3_; clear n0_ n1_ n2_ n3_; clear hb hbox hg; have hcz8_0 : w7.cell? ⟨gb397, 0, none⟩ = some (.int .i16 a0_0) := (blk_cell BK397.out 0).trans rfl; have hcz8_1 : w7.cell? ⟨gb397, 1, none⟩ = some (.int .i16 a0_1) := (blk_cell BK397.out 1).trans rfl; have hfz8_0 := blk_frozen BK397.out 0; have hfz8_1 := blk_frozen BK397.out 1) | ((with_reducible refine gate_callee (f := 85) rfl ?_); refine goesL_ (some 6) rfl rfl Try.func85 (by kernel_rfl) rfl #[.int .i64 (wrap64 (a0_0)), .int .i64 4, .int .i64 2000] rfl (by (try simp only [List.map_toArray, List.map_cons, List.map_nil]); first | done | rfl | (simp only [List.length_drop, List.length_take]; rfl)) ?_; (with_reducible refine (spec_l00In.calls (wrap64 (a0_0)) 4 2000 false _ A2.out).mono ?_); rintro e w' ⟨rfl, ⟨nd, rfl⟩⟩; refine ⟨_, rfl, ?_⟩))
  go_ret
  exact ⟨by first | rfl | (simp [errW_none, errW_some] <;> rfl) | (simp [*, errW_none, errW_some] <;> rfl), by repeat (first | (with_reducible first | exact HB.out | apply below_alloc | apply pw_below_drewN | apply below_drew1 | refine below_set ?_ GE397.out) | exact HB.out)⟩
end Go.Proofs.Ytlkpgpnieodifaa.Or
