/- Words and walks for the law FnLines. -/
import Derived.Test.YtlkpgpnieodifaaTLn22
import Derived.Test.YtlkpgpnieodifaaTLn23
import Derived.Test.YtlkpgpnieodifaaTLn24
import Derived.Test.YtlkpgpnieodifaaTLn25
namespace Go.Proofs.Ytlkpgpnieodifaa.Ln
open Go.RowKit Go.Proofs.YtlkpgpnieodifaaW.PrintWords Go.Proofs.YtlkpgpnieodifaaW.PrintLast Go.Proofs.YtlkpgpnieodifaaW.PrintMore
attribute [local go_sem] max2_int min2_int max_two min_two max_three min_three max_four min_four   -- for this text's walks alone
set_option linter.unusedVariables false
set_option linter.unusedSimpArgs false
def spec_l00Same.l0 : Nat → List Int → List Int → Int → Option (Bool)
 | 0, _, _, _ => none
 | k + 1, x0, x1, x5 => if x5 < (x0.length : Int) then (if 0 ≤ x5 then (if x5 < (x1.length : Int) then (if (rd x0 x5) = (rd x1 x5) then (spec_l00Same.l0 k x0 x1 (wrap64 (x5 + 1))) else (some false)) else (none)) else (none)) else (some true)
def spec_l00Same.f (k : Nat) (l0 : List Int) (l1 : List Int) : Option (Bool) := if (l0.length : Int) = (l1.length : Int) then (spec_l00Same.l0 k l0 l1 0) else (some false)
set_option maxHeartbeats 8000000 in
set_option maxRecDepth 100000 in
theorem spec_l00Same.calls (k : Nat) (A0 : Option Addr) (c0 : Nat) (l0 : List Int) (A1 : Option Addr) (c1 : Nat) (l1 : List Int) (r : Bool) (w : World) (hr0 : Kd.C (Kd.int .i64) w A0 l0.length l0) (hc0 : l0.length ≤ c0) (hr1 : Kd.C (Kd.int .i64) w A1 l1.length l1) (hc1 : l1.length ≤ c1) (h : spec_l00Same.f k l0 l1 = some r) :
  Calls Try.prog 87 #[.slice A0 l0.length c0, .slice A1 l1.length c1] w fun e w' => e = .returned (.bool r) ∧ Drawn0 w w' := by
 have HR0 := Aside0.mk hr0
 have HC0 := Aside0.mk hc0
 clear hr0 hc0
 have HR1 := Aside0.mk hr1
 have HC1 := Aside0.mk hc1
 clear hr1 hc1
 have H : (if (l0.length : Int) = (l1.length : Int) then (spec_l00Same.l0 k l0 l1 0) else (some false)) = some r := h
 clear h
 by_cases c3 : (l0.length : Int) = (l1.length : Int)
 ·rw [if_pos c3] at H
  have c3b0 : ((l0.length : Int) == (l1.length : Int)) = true := beq_iff_eq.mpr c3
  have c3b1 : ((l0.length : Int) != (l1.length : Int)) = false := bne_eq_false_iff_eq.mpr c3
  have c3b2 : (l0.length == l1.length) = true := by first | simpa using c3 | (simp at c3 ⊢; omega)
  clear c3
  have H' := Aside0.mk H
  clear H
  go_enter Try.func87, Try.ntmps87
  go_wp2
  repeat (go_quiet (fail); try go_wp2)
  go_loopg [5] k (fun kq v5 w' => ∃ (x5_1 : Int), v5 = .int .i64 x5_1 ∧ Aside0 (spec_l00Same.l0 kq l0 l1 x5_1 = some r) ∧ Aside0 (kq ≤ k) ∧ Drawn0 w w')
  case atStart => exact ⟨(0), (by first | rfl | (simp; done) | (simp [*]; done)), H', ⟨Nat.le_refl _⟩, by repeat (first | exact Drawn0.refl _ | apply Drawn0.step)⟩
  case round =>
   clear H'
   try clear c1
   try clear p2
   try clear c3
   try clear c3b0
   try clear c3b1
   try clear c3b2
   obtain ⟨x5_1, rfl, HA, HK1, ⟨m1, rfl⟩⟩ := hrel
   cases gk with
   | zero => exact absurd HA.out (by simp [spec_l00Same.l0])
   | succ k1 =>
    have H := HA.out
    clear HA
    simp only [spec_l00Same.l0] at H
    by_cases c4 : x5_1 < (l0.length : Int)
    ·rw [if_pos c4] at H
     have c4b0 : decide (x5_1 < (l0.length : Int)) = true := decide_eq_true c4
     clear c4
     by_cases c5 : 0 ≤ x5_1
     ·rw [if_pos c5] at H
      have c5b0 : decide (0 ≤ x5_1) = true := decide_eq_true c5
      clear c5
      by_cases c6 : x5_1 < (l1.length : Int)
      ·rw [if_pos c6] at H
       have c6b0 : decide (x5_1 < (l1.length : Int)) = true := decide_eq_true c6
       clear c6
       by_cases c7 : (rd l0 x5_1) = (rd l1 x5_1)
       ·rw [if_pos c7] at H
        have c7b0 : ((rd l0 x5_1) == (rd l1 x5_1)) = true := beq_iff_eq.mpr c7
        have c7b1 : ((rd l0 x5_1) != (rd l1 x5_1)) = false := bne_eq_false_iff_eq.mpr c7
        clear c7
        have H' := Aside0.mk H
        clear H
        have p312 : 0 ≤ (x5_1 : Int) := of_decide_eq_true (by first | (with_reducible assumption) | assumption)
        have q312 : x5_1 < (l0.length : Int) := of_decide_eq_true (by first | (with_reducible assumption) | assumption)
        obtain ⟨ad312, e312, hx312_0⟩ := Kd.at_int HR0.out x5_1 p312 q312
        cases e312
        replace p312 := eq_true p312
        replace q312 := eq_true q312
        have p313 : 0 ≤ (x5_1 : Int) := of_decide_eq_true (by first | (with_reducible assumption) | assumption)
        have q313 : x5_1 < (l1.length : Int) := of_decide_eq_true (by first | (with_reducible assumption) | assumption)
        obtain ⟨ad313, e313, hx313_0⟩ := Kd.at_int HR1.out x5_1 p313 q313
        cases e313
        replace p313 := eq_true p313
        replace q313 := eq_true q313
        go_wp2
        repeat (go_quiet (fail); try go_wp2)
        go_roundg k1
        case measure => have := HK1.out; omega
        case rel => exact ⟨(wrap64 (x5_1 + 1)), (by first | rfl | (simp; done) | (simp [*]; done)), H', ⟨by have := HK1.out; omega⟩, by repeat (first | exact Drawn0.refl _ | apply Drawn0.step)⟩
       ·rw [if_neg c7] at H
        have c7b0 : ((rd l0 x5_1) == (rd l1 x5_1)) = false := beq_eq_false_iff_ne.mpr c7
        have c7b1 : ((rd l0 x5_1) != (rd l1 x5_1)) = true := bne_iff_ne.mpr c7
        obtain rfl := Option.some.inj H
        have p312 : 0 ≤ (x5_1 : Int) := of_decide_eq_true (by first | (with_reducible assumption) | assumption)
        have q312 : x5_1 < (l0.length : Int) := of_decide_eq_true (by first | (with_reducible assumption) | assumption)
        obtain ⟨ad312, e312, hx312_0⟩ := Kd.at_int HR0.out x5_1 p312 q312
        cases e312
        replace p312 := eq_true p312
        replace q312 := eq_true q312
        have p313 : 0 ≤ (x5_1 : Int) := of_decide_eq_true (by first | (with_reducible assumption) | assumption)
        have q313 : x5_1 < (l1.length : Int) := of_decide_eq_true (by first | (with_reducible assumption) | assumption)
        obtain ⟨ad313, e313, hx313_0⟩ := Kd.at_int HR1.out x5_1 p313 q313
        cases e313
        replace p313 := eq_true p313
        replace q313 := eq_true q313
        go_wp2
        repeat (go_quiet (fail); try go_wp2)
        go_ret
        exact ⟨by first | rfl | (simp; done) | (simp [*]; done), by repeat (first | exact Drawn0.refl _ | apply Drawn0.step)⟩
      ·rw [if_neg c6] at H
       exact absurd H (by simp)
     ·rw [if_neg c5] at H
      exact absurd H (by simp)
    ·rw [if_neg c4] at H
     have c4b0 : decide (x5_1 < (l0.length : Int)) = false := decide_eq_false c4
     clear c4
     obtain rfl := Option.some.inj H
     go_wp2
     repeat (go_quiet (fail); try go_wp2)
     go_ret
     exact ⟨by first | rfl | (simp; done) | (simp [*]; done), by repeat (first | exact Drawn0.refl _ | apply Drawn0.step)⟩
 ·rw [if_neg c3] at H
  have c3b0 : ((l0.length : Int) == (l1.length : Int)) = false := beq_eq_false_iff_ne.mpr c3
  have c3b1 : ((l0.length : Int) != (l1.length : Int)) = true := bne_iff_ne.mpr c3
  have c3b2 : (l0.length == l1.length) = false := by first | simpa using c3 | (simp at c3 ⊢; omega)
  obtain rfl := Option.some.inj H
  go_enter Try.func87, Try.ntmps87
  go_wp2
  repeat (go_quiet (fail); try go_wp2)
  go_ret
  exact ⟨by first | rfl | (simp; done) | (simp [*]; done), by repeat (first | exact Drawn0.refl _ | apply Drawn0.step)⟩
def spec_A2Same.f (k : Nat) (l0 : List Int) (l1 : List Int) : Option (Bool) := (spec_l00Same.f k l0 l1).bind fun t314 => (some t314)
set_option maxHeartbeats 8000000 in
set_option maxRecDepth 100000 in
theorem spec_A2Same.calls (k : Nat) (A0 : Option Addr) (c0 : Nat) (l0 : List Int) (A1 : Option Addr) (c1 : Nat) (l1 : List Int) (r : Bool) (w : World) (hr0 : Kd.C (Kd.int .i64) w A0 l0.length l0) (hc0 : l0.length ≤ c0) (hr1 : Kd.C (Kd.int .i64) w A1 l1.length l1) (hc1 : l1.length ≤ c1) (h : spec_A2Same.f k l0 l1 = some r) :
  Calls Try.prog 27 #[.slice A0 l0.length c0, .slice A1 l1.length c1] w fun e w' => e = .returned (.bool r) ∧ Drawn0 w w' := by
 have HR0 := Aside0.mk hr0
 have HC0 := Aside0.mk hc0
 clear hr0 hc0
 have HR1 := Aside0.mk hr1
 have HC1 := Aside0.mk hc1
 clear hr1 hc1
 have H : ((spec_l00Same.f k l0 l1).bind fun t314 => (some t314)) = some r := h
 clear h
 replace H := Option.bind_eq_some_iff.mp H
 obtain ⟨t314, A30, H⟩ := H
 replace H : (some t314) = some r := H
 have A3 := Aside0.mk A30
 clear A30
 obtain rfl := Option.some.inj H
 go_enter Try.func27, Try.ntmps27
 go_wp2_with (first | ((with_reducible refine gate_callee (f := 87) rfl ?_); refine goesL_ (some 7) rfl rfl Try.func87 (by kernel_rfl) rfl #[.slice A0 l0.length c0, .slice A1 l1.length c1] rfl (by (try simp only [List.map_toArray, List.map_cons, List.map_nil]); first | done | rfl | (simp only [List.length_drop, List.length_take]; rfl)) ?_; (with_reducible refine (spec_l00Same.calls k _ _ l0 _ _ l1 t314 _ ?side1 ?side2 ?side3 ?side4 A3.out).mono ?_); (case side1 => repeat (first | exact HR0.out | (with_reducible refine Kd.C_alloc ?_ _) | (with_reducible refine Kd.C_drewN ?_ _) | (with_reducible refine Kd.C_drew ?_))); (case side2 => exact HC0.out); (case side3 => repeat (first | exact HR1.out | (with_reducible refine Kd.C_alloc ?_ _) | (with_reducible refine Kd.C_drewN ?_ _) | (with_reducible refine Kd.C_drew ?_))); (case side4 => exact HC1.out); rintro e w' ⟨rfl, ⟨nd, rfl⟩⟩; refine ⟨_, rfl, ?_⟩))
 go_ret
 exact ⟨by first | rfl | (simp; done) | (simp [*]; done), by repeat (first | exact Drawn0.refl _ | apply Drawn0.step)⟩
def impl_FitsLine.f (k : Nat) (a0_0 : Int) (a0_1 : Int) (l1 : List (S38)) : Option (Bool × Int) := (impl_lineCode.f k a0_0 a0_1 l1).bind fun t316 => (if t316 = 0 then ((impl_Line_holdsw.f a0_0 a0_1 l1).bind fun t317 => (some (t317, 0))) else (some (false, t316)))
set_option maxHeartbeats 8000000 in
set_option maxRecDepth 100000 in
theorem impl_FitsLine.calls (k : Nat) (a0_0 : Int) (a0_1 : Int) (A1 : Option Addr) (c1 : Nat) (l1 : List (S38)) (r1 : Bool) (r2 : Int) (w : World) (hr1 : Kd.C k38 w A1 l1.length l1) (hc1 : l1.length ≤ c1) (h : impl_FitsLine.f k a0_0 a0_1 l1 = some (r1, r2)) :
  Calls Try.prog 28 #[.agg #[.int .i16 a0_0, .int .i16 a0_1], .slice A1 l1.length c1] w fun e w' => e = .returned (.tuple #[.bool r1, .int .i64 r2]) ∧ Below w.heap.size w w' := by
 have hu28 := Try.underlying28
 have HR1 := Aside0.mk hr1
 have HC1 := Aside0.mk hc1
 clear hr1 hc1
 have HB := Aside0.mk (Below.refl w.heap.size w)
 have H : ((impl_lineCode.f k a0_0 a0_1 l1).bind fun t316 => (if t316 = 0 then ((impl_Line_holdsw.f a0_0 a0_1 l1).bind fun t317 => (some (t317, 0))) else (some (false, t316)))) = some (r1, r2) := h
 clear h
 replace H := Option.bind_eq_some_iff.mp H
 obtain ⟨t316, A30, H⟩ := H
 replace H : (if t316 = 0 then ((impl_Line_holdsw.f a0_0 a0_1 l1).bind fun t317 => (some (t317, 0))) else (some (false, t316))) = some (r1, r2) := H
 have A3 := Aside0.mk A30
 clear A30
 by_cases c4 : t316 = 0
 ·rw [if_pos c4] at H
  have c4b0 : (t316 == 0) = true := beq_iff_eq.mpr c4
  have c4b1 : (t316 != 0) = false := bne_eq_false_iff_eq.mpr c4
  clear c4
  replace H := Option.bind_eq_some_iff.mp H
  obtain ⟨t317, A50, H⟩ := H
  replace H : (some (t317, 0)) = some (r1, r2) := H
  have A5 := Aside0.mk A50
  clear A50
  simp only [Option.some.injEq, Prod.mk.injEq] at H
  obtain ⟨rfl, rfl⟩ := H
  go_enter Try.func28, Try.ntmps28
  go_wp2_with (first | ((with_reducible refine gate_dst (N := 2) rfl ?_); refine box_event ?hg (N := 2) ?hd (cs := #[.int .i16 a0_0, .int .i16 a0_1]) (t := 28) ?hr ?_; (case hd => rfl); (case hg => rfl); (case hr => first | (go_simp; done) | (go_simp; rfl)); intro gb315 hg w6 hbox hb; have n0_ := Aside0.mk (below_step (by repeat (first | (with_reducible first | exact HB.out | apply below_alloc | apply pw_below_drewN | apply below_drew1) | exact HB.out)) hb); have n1_ := Aside0.mk (hbox); have n2_ := Aside0.mk ((by rw [hg]; exact (below_size (by repeat (first | (with_reducible first | exact HB.out | apply below_alloc | apply pw_below_drewN | apply below_drew1) | exact HB.out))) : w.heap.size ≤ gb315)); have n3_ := Aside0.mk ((by rw [hg]; exact (below_size (by repeat (first | (with_reducible first | exact HB.out | apply below_alloc | apply pw_below_drewN | apply below_drew1) | exact HB.out))) : w.heap.size ≤ gb315)); clear HB; have HB := n0_; have BK315 := n1_; have GW315 := n2_; have GE315 := n3_; clear n0_ n1_ n2_ n3_; clear hb hbox hg; have hcz7_0 : w6.cell? ⟨gb315, 0, none⟩ = some (.int .i16 a0_0) := (blk_cell BK315.out 0).trans rfl; have hcz7_1 : w6.cell? ⟨gb315, 1, none⟩ = some (.int .i16 a0_1) := (blk_cell BK315.out 1).trans rfl; have hfz7_0 := blk_frozen BK315.out 0; have hfz7_1 := blk_frozen BK315.out 1) | ((with_reducible refine gate_callee (f := 74) rfl ?_); refine goesL_ (some 9) rfl rfl Try.func74 (by kernel_rfl) rfl #[.agg #[.int .i16 a0_0, .int .i16 a0_1], .slice A1 l1.length c1] rfl (by (try simp only [List.map_toArray, List.map_cons, List.map_nil]); first | done | rfl | (simp only [List.length_drop, List.length_take]; rfl)) ?_; (with_reducible refine (impl_lineCode.calls k a0_0 a0_1 _ _ l1 t316 _ ?side1 ?side2 A3.out).mono ?_); (case side1 => repeat (first | exact (Kd.C_below HR1.out HB.out) | (with_reducible refine Kd.C_alloc ?_ _) | (with_reducible refine Kd.C_drewN ?_ _) | (with_reducible refine Kd.C_drew ?_))); (case side2 => exact HC1.out); rintro e w8 ⟨rfl, hb⟩; refine ⟨_, rfl, ?_⟩; have n0_ := Aside0.mk (blk_below (g := gb315) (o := .cells #[.int .i16 a0_0, .int .i16 a0_1] 28 (0, 0)) (by (with_reducible repeat (first | refine blk_drewN ?_ _ | refine blk_drew ?_ | refine blk_alloc ?_ _)); exact BK315.out) hb); have n1_ := Aside0.mk (below_step (by repeat (first | (with_reducible first | exact HB.out | apply below_alloc | apply pw_below_drewN | apply below_drew1 | refine below_set ?_ GE315.out) | exact HB.out)) hb); clear BK315; clear HB; have BK315 := n0_; have HB := n1_; clear n0_ n1_; (try clear hb); (try clear hb2); (try clear hk); (try clear hi); have hcz9_0 : w8.cell? ⟨gb315, 0, none⟩ = some (.int .i16 a0_0) := (blk_cell BK315.out 0).trans rfl; have hcz9_1 : w8.cell? ⟨gb315, 1, none⟩ = some (.int .i16 a0_1) := (blk_cell BK315.out 1).trans rfl; have hfz9_0 := blk_frozen BK315.out 0; have hfz9_1 := blk_frozen BK315.out 1) | ((with_reducible refine gate_callee (f := 88) rfl ?_); refine goesL_ (some 15) rfl rfl Try.func88 (by kernel_rfl) rfl #[.agg #[.int .i16 a0_0, .int .i16 a0_1], .slice A1 l1.length c1] rfl (by (try simp only [List.map_toArray, List.map_cons, List.map_nil]); first | done | rfl | (simp only [List.length_drop, List.length_take]; rfl)) ?_; (with_reducible refine (impl_Line_holdsw.calls a0_0 a0_1 _ _ l1 t317 _ ?side1 ?side2 A5.out).mono ?_); (case side1 => repeat (first | exact (Kd.C_below HR1.out HB.out) | (with_reducible refine Kd.C_alloc ?_ _) | (with_reducible refine Kd.C_drewN ?_ _) | (with_reducible refine Kd.C_drew ?_))); (case side2 => exact HC1.out); rintro e w10 ⟨rfl, hb⟩; refine ⟨_, rfl, ?_⟩; have n0_ := Aside0.mk (blk_below (g := gb315) (o := .cells #[.int .i16 a0_0, .int .i16 a0_1] 28 (0, 0)) (by (with_reducible repeat (first | refine blk_drewN ?_ _ | refine blk_drew ?_ | refine blk_alloc ?_ _)); exact BK315.out) hb); have n1_ := Aside0.mk (below_step (by repeat (first | (with_reducible first | exact HB.out | apply below_alloc | apply pw_below_drewN | apply below_drew1 | refine below_set ?_ GE315.out) | exact HB.out)) hb); clear BK315; clear HB; have BK315 := n0_; have HB := n1_; clear n0_ n1_; (try clear hb); (try clear hb2); (try clear hk); (try clear hi)))
  go_ret2
  exact ⟨by first | rfl | (simp [errW_none, errW_some] <;> rfl) | (simp [*, errW_none, errW_some] <;> rfl), by repeat (first | (with_reducible first | exact HB.out | apply below_alloc | apply pw_below_drewN | apply below_drew1 | refine below_set ?_ GE315.out) | exact HB.out)⟩
 ·rw [if_neg c4] at H
  have c4b0 : (t316 == 0) = false := beq_eq_false_iff_ne.mpr c4
  have c4b1 : (t316 != 0) = true := bne_iff_ne.mpr c4
  simp only [Option.some.injEq, Prod.mk.injEq] at H
  obtain ⟨rfl, rfl⟩ := H
  go_enter Try.func28, Try.ntmps28
  go_wp2_with (first | ((with_reducible refine gate_dst (N := 2) rfl ?_); refine box_event ?hg (N := 2) ?hd (cs := #[.int .i16 a0_0, .int .i16 a0_1]) (t := 28) ?hr ?_; (case hd => rfl); (case hg => rfl); (case hr => first | (go_simp; done) | (go_simp; rfl)); intro gb315 hg w11 hbox hb; have n0_ := Aside0.mk (below_step (by repeat (first | (with_reducible first | exact HB.out | apply below_alloc | apply pw_below_drewN | apply below_drew1) | exact HB.out)) hb); have n1_ := Aside0.mk (hbox); have n2_ := Aside0.mk ((by rw [hg]; exact (below_size (by repeat (first | (with_reducible first | exact HB.out | apply below_alloc | apply pw_below_drewN | apply below_drew1) | exact HB.out))) : w.heap.size ≤ gb315)); have n3_ := Aside0.mk ((by rw [hg]; exact (below_size (by repeat (first | (with_reducible first | exact HB.out | apply below_alloc | apply pw_below_drewN | apply below_drew1) | exact HB.out))) : w.heap.size ≤ gb315)); clear HB; have HB := n0_; have BK315 := n1_; have GW315 := n2_; have GE315 := n3_; clear n0_ n1_ n2_ n3_; clear hb hbox hg; have hcz12_0 : w11.cell? ⟨gb315, 0, none⟩ = some (.int .i16 a0_0) := (blk_cell BK315.out 0).trans rfl; have hcz12_1 : w11.cell? ⟨gb315, 1, none⟩ = some (.int .i16 a0_1) := (blk_cell BK315.out 1).trans rfl; have hfz12_0 := blk_frozen BK315.out 0; have hfz12_1 := blk_frozen BK315.out 1) | ((with_reducible refine gate_callee (f := 74) rfl ?_); refine goesL_ (some 9) rfl rfl Try.func74 (by kernel_rfl) rfl #[.agg #[.int .i16 a0_0, .int .i16 a0_1], .slice A1 l1.length c1] rfl (by (try simp only [List.map_toArray, List.map_cons, List.map_nil]); first | done | rfl | (simp only [List.length_drop, List.length_take]; rfl)) ?_; (with_reducible refine (impl_lineCode.calls k a0_0 a0_1 _ _ l1 t316 _ ?side1 ?side2 A3.out).mono ?_); (case side1 => repeat (first | exact (Kd.C_below HR1.out HB.out) | (with_reducible refine Kd.C_alloc ?_ _) | (with_reducible refine Kd.C_drewN ?_ _) | (with_reducible refine Kd.C_drew ?_))); (case side2 => exact HC1.out); rintro e w13 ⟨rfl, hb⟩; refine ⟨_, rfl, ?_⟩; have n0_ := Aside0.mk (blk_below (g := gb315) (o := .cells #[.int .i16 a0_0, .int .i16 a0_1] 28 (0, 0)) (by (with_reducible repeat (first | refine blk_drewN ?_ _ | refine blk_drew ?_ | refine blk_alloc ?_ _)); exact BK315.out) hb); have n1_ := Aside0.mk (below_step (by repeat (first | (with_reducible first | exact HB.out | apply below_alloc | apply pw_below_drewN | apply below_drew1 | refine below_set ?_ GE315.out) | exact HB.out)) hb); clear BK315; clear HB; have BK315 := n0_; have HB := n1_; clear n0_ n1_; (try clear hb); (try clear hb2); (try clear hk); (try clear hi)))
  go_ret2
  exact ⟨by first | rfl | (simp [errW_none, errW_some] <;> rfl) | (simp [*, errW_none, errW_some] <;> rfl), by repeat (first | (with_reducible first | exact HB.out | apply below_alloc | apply pw_below_drewN | apply below_drew1 | refine below_set ?_ GE315.out) | exact HB.out)⟩
set_option maxHeartbeats 2000000 in
theorem IndexFunc_i64 (A0 : Option Addr) (c0 : Nat) (l0 : List Int) (g : Nat) (lb : Array Value) (p : Int → Bool) (w : World) (hr0 : Kd.C (Kd.int .i64) w A0 l0.length l0)
  (eg : ∀ args w, (callFunc g args).run Try.prog w = .ok (.enter g args) w)
  (hp : ∀ (W : World) (x : Int), x ∈ l0 → Below w.heap.size w W → Calls Try.prog g (#[.int .i64 x] ++ lb) W fun e w' => e = .returned (.bool (p x)) ∧ Below W.heap.size W w') :
  Calls Try.prog 127 #[.slice A0 l0.length c0, .func (.func g) #[] lb] w fun e w' => e = .returned (.int .i64 (Own.firstIdx p l0)) ∧ Below w.heap.size w w' := by
 have HR0 := Aside0.mk hr0
 have hn : l0.length ≤ 9223372036854775807 := hr0.2.1
 have HP := Aside0.mk hp
 clear hr0 hp
 go_enter Try.func127, Try.ntmps127
 go_wp2
 go_loopg [5, 8] l0.length (fun gg _ v8 w' => ∃ kk : Nat, kk ≤ l0.length ∧ l0.length - kk ≤ gg ∧ v8 = .int .i64 kk ∧ Aside0 (Below w.heap.size w w') ∧ Aside0 (∀ j, (h : j < kk) → (h2 : j < l0.length) → p l0[j] = false))
 case atStart => exact ⟨0, Nat.zero_le _, by omega, rfl, ⟨Below.refl _ w⟩, ⟨fun j hj => absurd hj (Nat.not_lt_zero _)⟩⟩
 case round =>
  obtain ⟨kk, hkk, hg, rfl, BW, AF⟩ := hrel
  by_cases hlt : kk < l0.length
  ·have hlti : (kk : Int) < (l0.length : Int) := by omega
   have hcall := HP.out wr l0[kk] (List.getElem_mem hlt) BW.out
   obtain ⟨ad, e1, hx0⟩ := Kd.at_int (Kd.C_below HR0.out BW.out) (kk : Int) (by omega) hlti
   cases e1
   have ey : rd l0 (kk : Int) = l0[kk] := by simp [rd, List.getD_eq_getElem?_getD, List.getElem?_eq_getElem hlt]
   rw [ey] at hx0
   simp only [Int.toNat_natCast] at hx0
   obtain ⟨y, hy⟩ : ∃ y, l0[kk] = y := ⟨_, rfl⟩
   rw [hy] at hx0 hcall
   have HY := Aside0.mk hy
   clear hy ey
   cases hq : p y with
   | true =>
    rw [hq] at hcall
    have HQ := Aside0.mk hq
    clear hq
    go_wp2_with (go_at_fn g; refine hcall.mono ?_; rintro e w1 ⟨rfl, hb1⟩)
    go_ret
    refine ⟨?_, below_step BW.out hb1⟩
    rw [Own.firstIdx_hit hlt (fun j hj => AF.out j hj (by omega)) (by rw [HY.out]; exact HQ.out)]
    rfl
   | false =>
    rw [hq] at hcall
    have HQ := Aside0.mk hq
    clear hq
    go_wp2_with (go_at_fn g; refine hcall.mono ?_; rintro e w1 ⟨rfl, hb1⟩)
    go_roundg (l0.length - (kk + 1))
    case measure => omega
    case rel =>
     refine ⟨kk + 1, by omega, by omega, by go_num, ⟨below_step BW.out hb1⟩, ⟨fun j hj h2 => ?_⟩⟩
     by_cases e : j = kk
     ·subst e
      rw [HY.out]; exact HQ.out
     ·exact AF.out j (by omega) h2
  ·have hlti : ¬ (kk : Int) < (l0.length : Int) := by omega
   go_wp2
   go_ret
   refine ⟨?_, BW.out⟩
   rw [Own.firstIdx_miss (fun j hj => AF.out j (by omega) hj)]
   rfl
set_option maxHeartbeats 2000000 in
theorem ContainsFunc_i64 (A0 : Option Addr) (c0 : Nat) (l0 : List Int) (g : Nat) (lb : Array Value) (p : Int → Bool) (w : World) (hr0 : Kd.C (Kd.int .i64) w A0 l0.length l0)
  (eg : ∀ args w, (callFunc g args).run Try.prog w = .ok (.enter g args) w)
  (hp : ∀ (W : World) (x : Int), x ∈ l0 → Below w.heap.size w W → Calls Try.prog g (#[.int .i64 x] ++ lb) W fun e w' => e = .returned (.bool (p x)) ∧ Below W.heap.size W w') :
  Calls Try.prog 90 #[.slice A0 l0.length c0, .func (.func g) #[] lb] w fun e w' => e = .returned (.bool (l0.any p)) ∧ Below w.heap.size w w' := by
 have hi := IndexFunc_i64 A0 c0 l0 g lb p w hr0 eg hp
 have HN := Aside0.mk (Own.firstIdx_nonneg p l0)
 clear hp hr0
 obtain ⟨x, hx⟩ : ∃ x, Own.firstIdx p l0 = x := ⟨_, rfl⟩
 rw [hx] at hi
 have HX := Aside0.mk hx
 clear hx
 go_enter Try.func90, Try.ntmps90
 go_wp2_with (go_at_call 127; refine hi.mono ?_; rintro e w1 ⟨rfl, hb1⟩)
 go_ret
 exact ⟨by rw [← HN.out, HX.out]; rfl, hb1⟩
def impl_areWithin.f (l0 : List Int) (a1 : Int) (a2 : Int) : Option Bool := some (l0.all fun n => decide (a1 ≤ n ∧ n ≤ a2))
theorem within_some (a b c : Int) : impl_within.f a b c = some (decide (b ≤ a ∧ a ≤ c)) := by
 unfold impl_within.f
 by_cases h : b ≤ a <;> simp [h]
set_option maxHeartbeats 2000000 in
theorem areWithin_1 (n a b : Int) (g1 g2 : Nat) (w : World) (h1 : w.cell? ⟨g1, 0, none⟩ = some (.int .i64 a)) (h2 : w.cell? ⟨g2, 0, none⟩ = some (.int .i64 b)) :
  Calls Try.prog 126 #[.int .i64 n, .pointer (some ⟨g1, 0, none⟩), .pointer (some ⟨g2, 0, none⟩)] w fun e w' => e = .returned (.bool (!decide (a ≤ n ∧ n ≤ b))) ∧ Below w.heap.size w w' := by
 have hw := impl_within.calls n a b _ w (within_some n a b)
 obtain ⟨x, hx⟩ : ∃ x, decide (a ≤ n ∧ n ≤ b) = x := ⟨_, rfl⟩
 rw [hx] at hw
 rw [hx]
 clear hx
 go_enter Try.func126, Try.ntmps126
 go_wp2_with (go_at_call 83; refine hw.mono ?_; rintro e w1 ⟨rfl, ⟨nd, rfl⟩⟩)
 go_ret
 exact ⟨rfl, pw_below_drewN (Below.refl _ _) _⟩
set_option maxHeartbeats 2000000 in
theorem impl_areWithin.calls (A0 : Option Addr) (c0 : Nat) (l0 : List Int) (a1 : Int) (a2 : Int) (r : Bool) (w : World) (hr0 : Kd.C (Kd.int .i64) w A0 l0.length l0) (hc0 : l0.length ≤ c0) (h : impl_areWithin.f l0 a1 a2 = some r) :
  Calls Try.prog 89 #[.slice A0 l0.length c0, .int .i64 a1, .int .i64 a2] w fun e w' => e = .returned (.bool r) ∧ Below w.heap.size w w' := by
 have hr := Option.some.inj h
 have hany : l0.any (fun x => !decide (a1 ≤ x ∧ x ≤ a2)) = !r := by rw [← hr, List.all_eq_not_any_not]; simp
 have hC : ∀ (W : World) (g1 g2 : Nat), Below w.heap.size w W → g1 < W.heap.size → g2 < W.heap.size → W.cell? ⟨g1, 0, none⟩ = some (.int .i64 a1) → W.cell? ⟨g2, 0, none⟩ = some (.int .i64 a2) →
   Calls Try.prog 90 #[.slice A0 l0.length c0, .func (.func 126) #[] #[.pointer (some ⟨g1, 0, none⟩), .pointer (some ⟨g2, 0, none⟩)]] W fun e w' => e = .returned (.bool (!r)) ∧ Below W.heap.size W w' := by
  intro W g1 g2 hB l1 l2 h1 h2
  rw [← hany]
  exact ContainsFunc_i64 A0 c0 l0 126 _ (fun x => !decide (a1 ≤ x ∧ x ≤ a2)) W (Kd.C_below hr0 hB) (enters_of Try.func126 (by kernel_rfl) rfl)
   (fun W' x _ hB' => areWithin_1 x a1 a2 g1 g2 W' ((hB'.cell (p := ⟨g1, 0, none⟩) l1).trans h1) ((hB'.cell (p := ⟨g2, 0, none⟩) l2).trans h2))
 have HC := Aside0.mk hC
 clear h hr hany hr0 hC
 go_enter Try.func89, Try.ntmps89
 go_wp2_with (go_at_call 90; refine (HC.out _ _ _ (below_alloc (below_alloc (Below.refl _ _) _) _) (by first | (simp; done) | (simp; omega)) (by first | (simp; done) | (simp; omega)) (by simp; done) (by simp; done)).mono ?_; rintro e w1 ⟨rfl, hb1⟩)
 go_ret
 exact ⟨by simp, below_step (below_alloc (below_alloc (Below.refl _ _) _) _) hb1⟩
def linesRight (long most : Int) (l1 : List S38) (l2 : List Int) : Bool := decide (l2.length = l1.length) && (l2.all fun n => decide (0 ≤ n ∧ n ≤ 6)) && l2.all fun n => holdsB long most (withB l1 l2 n)
def impl_CheckLines.f (k : Nat) (a0_0 : Int) (a0_1 : Int) (l1 : List S38) (l2 : List Int) : Option (Bool × Int) :=
 (impl_lineCode.f k a0_0 a0_1 l1).bind fun c => if c = 0 then (if l1.length ≤ 1048576 then some (linesRight a0_0 a0_1 l1 l2, 0) else none) else some (false, c)
theorem withB_length (l : List S38) (ns : List Int) (n : Int) : (withB l ns n).length ≤ ns.length := by
 unfold withB
 rw [List.length_map]
 exact Nat.le_trans (List.length_filter_le _ _) (by rw [List.length_zip]; exact Nat.min_le_left _ _)
set_option maxHeartbeats 4000000 in
theorem CheckLines_1 (n : Int) (long most : Int) (l1 : List S38) (l2 : List Int) (A1 A2 : Option Addr) (c1 c2 : Nat) (g1 g2 g3 : Nat) (w : World)
  (hb1 : l2.length ≤ 1048576) (hb2 : l2.length ≤ l1.length) (hr1 : Kd.C k38 w A1 l1.length l1) (hc1 : l1.length ≤ c1) (hr2 : Kd.C (Kd.int .i64) w A2 l2.length l2) (hc2 : l2.length ≤ c2)
  (h10 : w.cell? ⟨g1, 0, none⟩ = some (.int .i16 long)) (h11 : w.cell? ⟨g1, 1, none⟩ = some (.int .i16 most)) (h2 : w.cell? ⟨g2, 0, none⟩ = some (.slice A1 l1.length c1)) (h3 : w.cell? ⟨g3, 0, none⟩ = some (.slice A2 l2.length c2))
  (l_1 : g1 < w.heap.size) (l_2 : g2 < w.heap.size) (l_3 : g3 < w.heap.size) :
  Calls Try.prog 91 #[.int .i64 n, .pointer (some ⟨g1, 0, none⟩), .pointer (some ⟨g2, 0, none⟩), .pointer (some ⟨g3, 0, none⟩)] w fun e w' => e = .returned (.bool (!holdsB long most (withB l1 l2 n))) ∧ Below w.heap.size w w' := by
 have hw : impl_withNumber_impl_Clothw.f l1 l2 n = some (withB l1 l2 n) := by unfold impl_withNumber_impl_Clothw.f; rw [if_pos ⟨hb1, hb2⟩]
 have hlen := withB_length l1 l2 n
 have hh : impl_Line_holdsw.f long most (withB l1 l2 n) = some (holdsB long most (withB l1 l2 n)) := by unfold impl_Line_holdsw.f; rw [if_pos (by omega)]
 obtain ⟨y, hy⟩ : ∃ y, withB l1 l2 n = y := ⟨_, rfl⟩
 rw [hy] at hw hh ⊢
 obtain ⟨x, hx⟩ : ∃ x, holdsB long most y = x := ⟨_, rfl⟩
 rw [hx] at hh ⊢
 have HW := Aside0.mk hw
 have HH := Aside0.mk hh
 have HR1 := Aside0.mk hr1
 have HR2 := Aside0.mk hr2
 clear hx hy hh hw hlen hr1 hr2 hb1 hb2
 go_enter Try.func91, Try.ntmps91
 go_wp2
 go_region_held3 (fun w' => w'.cell? ⟨g1, 0, none⟩ = some (.int .i16 long) ∧ w'.cell? ⟨g1, 1, none⟩ = some (.int .i16 most) ∧ w'.cell? ⟨g2, 0, none⟩ = some (.slice A1 l1.length c1) ∧ w'.cell? ⟨g3, 0, none⟩ = some (.slice A2 l2.length c2))
  (first
   | go_keep
   | exact ⟨(hb1.cell (p := ⟨g1, 0, none⟩) l_1).trans h10, (hb1.cell (p := ⟨g1, 1, none⟩) l_1).trans h11, (hb1.cell (p := ⟨g2, 0, none⟩) l_2).trans h2, (hb1.cell (p := ⟨g3, 0, none⟩) l_3).trans h3⟩
   | exact ⟨((hb1.trans (hb2.mono hb1.size)).cell (p := ⟨g1, 0, none⟩) l_1).trans h10, ((hb1.trans (hb2.mono hb1.size)).cell (p := ⟨g1, 1, none⟩) l_1).trans h11, ((hb1.trans (hb2.mono hb1.size)).cell (p := ⟨g2, 0, none⟩) l_2).trans h2, ((hb1.trans (hb2.mono hb1.size)).cell (p := ⟨g3, 0, none⟩) l_3).trans h3⟩)
  (first
   | (go_at_call 92; refine (impl_withNumber_impl_Clothw.calls A1 c1 l1 A2 c2 l2 n y _ (Kd.C_below HR1.out (by repeat (first | exact Below.refl _ _ | apply pw_below_drewN | apply below_drew | apply below_alloc))) hc1 (Kd.C_below HR2.out (by repeat (first | exact Below.refl _ _ | apply pw_below_drewN | apply below_drew | apply below_alloc))) hc2 HW.out).mono ?_; rintro e w1 ⟨v1, rfl, ho1, hb1⟩; obtain ⟨B1, d1, rfl, hd1, hC1⟩ := Kd.R_reads ho1)
   | (go_at_call 88; refine (impl_Line_holdsw.calls long most B1 d1 y x _ hC1 hd1 HH.out).mono ?_; rintro e w2 ⟨rfl, hb2⟩))
 go_wp2
 go_ret
 exact ⟨rfl, below_step (below_step (by repeat (first | exact Below.refl _ _ | apply pw_below_drewN | apply below_drew)) hb1) hb2⟩
set_option maxHeartbeats 4000000 in
theorem impl_CheckLines.calls (k : Nat) (a0_0 : Int) (a0_1 : Int) (A1 : Option Addr) (c1 : Nat) (l1 : List S38) (A2 : Option Addr) (c2 : Nat) (l2 : List Int) (r1 : Bool) (r2 : Int) (w : World) (hr1 : Kd.C k38 w A1 l1.length l1) (hc1 : l1.length ≤ c1) (hr2 : Kd.C (Kd.int .i64) w A2 l2.length l2) (hc2 : l2.length ≤ c2) (h : impl_CheckLines.f k a0_0 a0_1 l1 l2 = some (r1, r2)) :
  Calls Try.prog 29 #[.agg #[.int .i16 a0_0, .int .i16 a0_1], .slice A1 l1.length c1, .slice A2 l2.length c2] w fun e w' => e = .returned (.tuple #[.bool r1, .int .i64 r2]) ∧ Below w.heap.size w w' := by
 obtain ⟨cd, hcd, h⟩ := Option.bind_eq_some_iff.mp h
 have HCD := Aside0.mk hcd
 have HR1 := Aside0.mk hr1
 have HR2 := Aside0.mk hr2
 have hn2 : l2.length ≤ 9223372036854775807 := hr2.2.1
 have hn1 : l1.length ≤ 9223372036854775807 := hr1.2.1
 clear hcd hr1 hr2
 by_cases h0 : cd = 0
 ·subst h0
  rw [if_pos rfl] at h
  by_cases hl : l1.length ≤ 1048576
  ·rw [if_pos hl] at h
   have hres := Option.some.inj h
   obtain ⟨hr1, rfl⟩ : linesRight a0_0 a0_1 l1 l2 = r1 ∧ 0 = r2 := by simpa using hres
   clear h hres
   by_cases hlen : l2.length = l1.length
   ·cases hw : (l2.all fun n => decide (0 ≤ n ∧ n ≤ 6)) with
    | false =>
     have hrf : r1 = false := by rw [← hr1, linesRight, hw]; simp
     subst hrf
     have HWI := Aside0.mk (show impl_areWithin.f l2 0 6 = some false from by unfold impl_areWithin.f; rw [hw])
     have hlen1 : ((l2.length : Int) != (l1.length : Int)) = false := by first | (simp [hlen]; done) | (simp; omega)
     have hlen2 : ((l2.length : Int) == (l1.length : Int)) = true := by first | (simp [hlen]; done) | (simp; omega)
     have hlen3 : (l2.length == l1.length) = true := by simp [hlen]
     have hlen4 : (l2.length != l1.length) = false := by simp [hlen]
     clear hr1 hw hlen
     go_enter Try.func29, Try.ntmps29
     go_wp2_with (first | (go_at_call 74; refine (impl_lineCode.calls k a0_0 a0_1 A1 c1 l1 0 _ (Kd.C_below HR1.out (by repeat (first | exact Below.refl _ _ | apply below_alloc))) hc1 HCD.out).mono ?_; rintro e w1 ⟨rfl, hb1⟩; have k0 := pw_cell_below hb1 (a := ⟨w.heap.size, 0, none⟩) (v := .int .i16 a0_0) (by simp [go_sem]); have k1 := pw_cell_below hb1 (a := ⟨w.heap.size, 1, none⟩) (v := .int .i16 a0_1) (by simp [go_sem]); have k2 := pw_cell_below hb1 (a := ⟨w.heap.size + 1, 0, none⟩) (v := .slice A1 l1.length c1) (by simp [go_sem]); have k3 := pw_cell_below hb1 (a := ⟨w.heap.size + 1 + 1, 0, none⟩) (v := .slice A2 l2.length c2) (by simp [go_sem]); have HB := Aside0.mk (show Below w.heap.size w w1 from below_step (below_alloc (below_alloc (below_alloc (Below.refl _ _) _) _) _) hb1); have HZ := Aside0.mk (show w.heap.size + 1 + 1 < w1.heap.size from Nat.lt_of_lt_of_le (by simp) hb1.size); clear hb1) | (go_at_call 89; refine (impl_areWithin.calls A2 c2 l2 0 6 false _ (Kd.C_below HR2.out HB.out) hc2 HWI.out).mono ?_; rintro e w2 ⟨rfl, hb2⟩; have HB2 := Aside0.mk (below_step HB.out hb2); have q0 := pw_cell_below hb2 k0; have q1 := pw_cell_below hb2 k1; have q2 := pw_cell_below hb2 k2; have q3 := pw_cell_below hb2 k3; have HZ2 := Aside0.mk (Nat.lt_of_lt_of_le HZ.out hb2.size); clear hb2 k0 k1 k2 k3 HZ HB))
     go_ret2
     exact ⟨rfl, HB2.out⟩
    | true =>
     have HWI := Aside0.mk (show impl_areWithin.f l2 0 6 = some true from by unfold impl_areWithin.f; rw [hw])
     have hlen1 : ((l2.length : Int) != (l1.length : Int)) = false := by first | (simp [hlen]; done) | (simp; omega)
     have hlen2 : ((l2.length : Int) == (l1.length : Int)) = true := by first | (simp [hlen]; done) | (simp; omega)
     have hlen3 : (l2.length == l1.length) = true := by simp [hlen]
     have hlen4 : (l2.length != l1.length) = false := by simp [hlen]
     have hany : (l2.any fun n => !holdsB a0_0 a0_1 (withB l1 l2 n)) = !r1 := by rw [← hr1, linesRight, hw, List.all_eq_not_any_not (p := fun n => holdsB a0_0 a0_1 (withB l1 l2 n))]; simp [hlen]
     have hC : ∀ (W : World) (g1 g2 g3 : Nat), Below w.heap.size w W → g1 < W.heap.size → g2 < W.heap.size → g3 < W.heap.size → W.cell? ⟨g1, 0, none⟩ = some (.int .i16 a0_0) → W.cell? ⟨g1, 1, none⟩ = some (.int .i16 a0_1) →
       W.cell? ⟨g2, 0, none⟩ = some (.slice A1 l1.length c1) → W.cell? ⟨g3, 0, none⟩ = some (.slice A2 l2.length c2) →
       Calls Try.prog 90 #[.slice A2 l2.length c2, .func (.func 91) #[] #[.pointer (some ⟨g1, 0, none⟩), .pointer (some ⟨g2, 0, none⟩), .pointer (some ⟨g3, 0, none⟩)]] W fun e w' => e = .returned (.bool (!r1)) ∧ Below W.heap.size W w' := by
      intro W g1 g2 g3 hB l_1 l_2 l_3 h10 h11 h2 h3
      rw [← hany]
      exact ContainsFunc_i64 A2 c2 l2 91 _ (fun n => !holdsB a0_0 a0_1 (withB l1 l2 n)) W (Kd.C_below HR2.out hB) (enters_of Try.func91 (by kernel_rfl) rfl)
       (fun W' x _ hB' => CheckLines_1 x a0_0 a0_1 l1 l2 A1 A2 c1 c2 g1 g2 g3 W' (by omega) (by omega) (Kd.C_below HR1.out (below_step hB hB')) hc1 (Kd.C_below HR2.out (below_step hB hB')) hc2
        (pw_cell_below hB' h10) (pw_cell_below hB' h11) (pw_cell_below hB' h2) (pw_cell_below hB' h3) (Nat.lt_of_lt_of_le l_1 hB'.size) (Nat.lt_of_lt_of_le l_2 hB'.size) (Nat.lt_of_lt_of_le l_3 hB'.size))
     have HC := Aside0.mk hC
     clear hr1 hw hlen hany hC
     go_enter Try.func29, Try.ntmps29
     go_wp2_with (first | (go_at_call 74; refine (impl_lineCode.calls k a0_0 a0_1 A1 c1 l1 0 _ (Kd.C_below HR1.out (by repeat (first | exact Below.refl _ _ | apply below_alloc))) hc1 HCD.out).mono ?_; rintro e w1 ⟨rfl, hb1⟩; have k0 := pw_cell_below hb1 (a := ⟨w.heap.size, 0, none⟩) (v := .int .i16 a0_0) (by simp [go_sem]); have k1 := pw_cell_below hb1 (a := ⟨w.heap.size, 1, none⟩) (v := .int .i16 a0_1) (by simp [go_sem]); have k2 := pw_cell_below hb1 (a := ⟨w.heap.size + 1, 0, none⟩) (v := .slice A1 l1.length c1) (by simp [go_sem]); have k3 := pw_cell_below hb1 (a := ⟨w.heap.size + 1 + 1, 0, none⟩) (v := .slice A2 l2.length c2) (by simp [go_sem]); have HB := Aside0.mk (show Below w.heap.size w w1 from below_step (below_alloc (below_alloc (below_alloc (Below.refl _ _) _) _) _) hb1); have HZ := Aside0.mk (show w.heap.size + 1 + 1 < w1.heap.size from Nat.lt_of_lt_of_le (by simp) hb1.size); clear hb1) | (go_at_call 89; refine (impl_areWithin.calls A2 c2 l2 0 6 true _ (Kd.C_below HR2.out HB.out) hc2 HWI.out).mono ?_; rintro e w2 ⟨rfl, hb2⟩; have HB2 := Aside0.mk (below_step HB.out hb2); have q0 := pw_cell_below hb2 k0; have q1 := pw_cell_below hb2 k1; have q2 := pw_cell_below hb2 k2; have q3 := pw_cell_below hb2 k3; have HZ2 := Aside0.mk (Nat.lt_of_lt_of_le HZ.out hb2.size); clear hb2 k0 k1 k2 k3 HZ HB) | (go_at_call 90; refine (HC.out _ _ _ _ HB2.out (by have := HZ2.out; omega) (by have := HZ2.out; omega) (by have := HZ2.out; omega) q0 q1 q2 q3).mono ?_; rintro e w3 ⟨rfl, hb3⟩))
     go_ret2
     exact ⟨by simp, below_step HB2.out hb3⟩
   ·have hrf : r1 = false := by rw [← hr1, linesRight]; simp [hlen]
    subst hrf
    have hlen1 : ((l2.length : Int) != (l1.length : Int)) = true := by first | (simp [hlen]; done) | (simp; omega)
    have hlen2 : ((l2.length : Int) == (l1.length : Int)) = false := by first | (simp [hlen]; done) | (simp; omega)
    have hlen3 : (l2.length == l1.length) = false := by simp [hlen]
    have hlen4 : (l2.length != l1.length) = true := by simp [hlen]
    clear hr1 hlen
    go_enter Try.func29, Try.ntmps29
    go_wp2_with (first | (go_at_call 74; refine (impl_lineCode.calls k a0_0 a0_1 A1 c1 l1 0 _ (Kd.C_below HR1.out (by repeat (first | exact Below.refl _ _ | apply below_alloc))) hc1 HCD.out).mono ?_; rintro e w1 ⟨rfl, hb1⟩; have k0 := pw_cell_below hb1 (a := ⟨w.heap.size, 0, none⟩) (v := .int .i16 a0_0) (by simp [go_sem]); have k1 := pw_cell_below hb1 (a := ⟨w.heap.size, 1, none⟩) (v := .int .i16 a0_1) (by simp [go_sem]); have k2 := pw_cell_below hb1 (a := ⟨w.heap.size + 1, 0, none⟩) (v := .slice A1 l1.length c1) (by simp [go_sem]); have k3 := pw_cell_below hb1 (a := ⟨w.heap.size + 1 + 1, 0, none⟩) (v := .slice A2 l2.length c2) (by simp [go_sem]); have HB := Aside0.mk (show Below w.heap.size w w1 from below_step (below_alloc (below_alloc (below_alloc (Below.refl _ _) _) _) _) hb1); have HZ := Aside0.mk (show w.heap.size + 1 + 1 < w1.heap.size from Nat.lt_of_lt_of_le (by simp) hb1.size); clear hb1))
    go_ret2
    exact ⟨rfl, HB.out⟩
  ·rw [if_neg hl] at h
   cases h
 ·rw [if_neg h0] at h
  obtain ⟨rfl, rfl⟩ : false = r1 ∧ cd = r2 := by simpa using h
  clear h
  have hc0 : (cd != 0) = true := by simp [h0]
  clear h0
  go_enter Try.func29, Try.ntmps29
  go_wp2_with (first | (go_at_call 74; refine (impl_lineCode.calls k a0_0 a0_1 A1 c1 l1 cd _ (Kd.C_below HR1.out (by repeat (first | exact Below.refl _ _ | apply below_alloc))) hc1 HCD.out).mono ?_; rintro e w1 ⟨rfl, hb1⟩; have k0 := pw_cell_below hb1 (a := ⟨w.heap.size, 0, none⟩) (v := .int .i16 a0_0) (by simp [go_sem]); have k1 := pw_cell_below hb1 (a := ⟨w.heap.size, 1, none⟩) (v := .int .i16 a0_1) (by simp [go_sem]); have k2 := pw_cell_below hb1 (a := ⟨w.heap.size + 1, 0, none⟩) (v := .slice A1 l1.length c1) (by simp [go_sem]); have k3 := pw_cell_below hb1 (a := ⟨w.heap.size + 1 + 1, 0, none⟩) (v := .slice A2 l2.length c2) (by simp [go_sem]); have HB := Aside0.mk (show Below w.heap.size w w1 from below_step (below_alloc (below_alloc (below_alloc (Below.refl _ _) _) _) _) hb1); have HZ := Aside0.mk (show w.heap.size + 1 + 1 < w1.heap.size from Nat.lt_of_lt_of_le (by simp) hb1.size); clear hb1))
  go_ret2
  exact ⟨rfl, HB.out⟩
set_option maxHeartbeats 2000000 in
theorem IndexFunc_28 (A0 : Option Addr) (c0 : Nat) (l0 : List S28) (g : Nat) (lb : Array Value) (p : S28 → Bool) (w : World) (hr0 : Kd.C k28 w A0 l0.length l0)
  (eg : ∀ args w, (callFunc g args).run Try.prog w = .ok (.enter g args) w)
  (hp : ∀ (W : World) (x : S28), x ∈ l0 → Below w.heap.size w W → Calls Try.prog g (#[.agg #[.int .i16 x.f0, .int .i16 x.f1]] ++ lb) W fun e w' => e = .returned (.bool (p x)) ∧ Below W.heap.size W w') :
  Calls Try.prog 97 #[.slice A0 l0.length c0, .func (.func g) #[] lb] w fun e w' => e = .returned (.int .i64 (Own.firstIdx p l0)) ∧ Below w.heap.size w w' := by
 have HR0 := Aside0.mk hr0
 have hn : l0.length ≤ 9223372036854775807 := hr0.2.1
 have HP := Aside0.mk hp
 clear hr0 hp
 go_enter Try.func97, Try.ntmps97
 go_wp2
 go_loopg [5, 8] l0.length (fun gg _ v8 w' => ∃ kk : Nat, kk ≤ l0.length ∧ l0.length - kk ≤ gg ∧ v8 = .int .i64 kk ∧ Aside0 (Below w.heap.size w w') ∧ Aside0 (∀ j, (h : j < kk) → (h2 : j < l0.length) → p l0[j] = false))
 case atStart => exact ⟨0, Nat.zero_le _, by omega, rfl, ⟨Below.refl _ w⟩, ⟨fun j hj => absurd hj (Nat.not_lt_zero _)⟩⟩
 case round =>
  obtain ⟨kk, hkk, hg, rfl, BW, AF⟩ := hrel
  by_cases hlt : kk < l0.length
  ·have hlti : (kk : Int) < (l0.length : Int) := by omega
   have hcall := HP.out wr l0[kk] (List.getElem_mem hlt) BW.out
   obtain ⟨ad, e1, hx0, hx1⟩ := at_T28 (Kd.C_below HR0.out BW.out) (kk : Int) (by omega) hlti
   cases e1
   have ey : rd_T28 l0 (kk : Int) = l0[kk] := by simp [rd_T28, List.getD_eq_getElem?_getD, List.getElem?_eq_getElem hlt]
   rw [ey] at hx0 hx1
   simp only [Int.toNat_natCast] at hx0 hx1
   obtain ⟨y, hy⟩ : ∃ y, l0[kk] = y := ⟨_, rfl⟩
   rw [hy] at hx0 hx1 hcall
   have HY := Aside0.mk hy
   clear hy ey
   cases hq : p y with
   | true =>
    rw [hq] at hcall
    have HQ := Aside0.mk hq
    clear hq
    go_wp2_with (go_at_fn g; refine hcall.mono ?_; rintro e w1 ⟨rfl, hb1⟩)
    go_ret
    refine ⟨?_, below_step BW.out hb1⟩
    rw [Own.firstIdx_hit hlt (fun j hj => AF.out j hj (by omega)) (by rw [HY.out]; exact HQ.out)]
    rfl
   | false =>
    rw [hq] at hcall
    have HQ := Aside0.mk hq
    clear hq
    go_wp2_with (go_at_fn g; refine hcall.mono ?_; rintro e w1 ⟨rfl, hb1⟩)
    go_roundg (l0.length - (kk + 1))
    case measure => omega
    case rel =>
     refine ⟨kk + 1, by omega, by omega, by go_num, ⟨below_step BW.out hb1⟩, ⟨fun j hj h2 => ?_⟩⟩
     by_cases e : j = kk
     ·subst e
      rw [HY.out]; exact HQ.out
     ·exact AF.out j (by omega) h2
  ·have hlti : ¬ (kk : Int) < (l0.length : Int) := by omega
   go_wp2
   go_ret
   refine ⟨?_, BW.out⟩
   rw [Own.firstIdx_miss (fun j hj => AF.out j (by omega) hj)]
   rfl
set_option maxHeartbeats 2000000 in
theorem ContainsFunc_28 (A0 : Option Addr) (c0 : Nat) (l0 : List S28) (g : Nat) (lb : Array Value) (p : S28 → Bool) (w : World) (hr0 : Kd.C k28 w A0 l0.length l0)
  (eg : ∀ args w, (callFunc g args).run Try.prog w = .ok (.enter g args) w)
  (hp : ∀ (W : World) (x : S28), x ∈ l0 → Below w.heap.size w W → Calls Try.prog g (#[.agg #[.int .i16 x.f0, .int .i16 x.f1]] ++ lb) W fun e w' => e = .returned (.bool (p x)) ∧ Below W.heap.size W w') :
  Calls Try.prog 93 #[.slice A0 l0.length c0, .func (.func g) #[] lb] w fun e w' => e = .returned (.bool (l0.any p)) ∧ Below w.heap.size w w' := by
 have hi := IndexFunc_28 A0 c0 l0 g lb p w hr0 eg hp
 have HN := Aside0.mk (Own.firstIdx_nonneg p l0)
 clear hp hr0
 obtain ⟨x, hx⟩ : ∃ x, Own.firstIdx p l0 = x := ⟨_, rfl⟩
 rw [hx] at hi
 have HX := Aside0.mk hx
 clear hx
 go_enter Try.func93, Try.ntmps93
 go_wp2_with (go_at_call 97; refine hi.mono ?_; rintro e w1 ⟨rfl, hb1⟩)
 go_ret
 exact ⟨by rw [← HN.out, HX.out]; rfl, hb1⟩
def impl_WhichLine_1.f (a0_0 : Int) (a0_1 : Int) : Option (Bool) := (impl_ValidLine.f a0_0 a0_1).bind fun t319 => (some (!t319))
set_option maxHeartbeats 8000000 in
set_option maxRecDepth 100000 in
theorem impl_WhichLine_1.calls (a0_0 : Int) (a0_1 : Int) (r : Bool) (w : World) (h : impl_WhichLine_1.f a0_0 a0_1 = some r) :
  Calls Try.prog 94 #[.agg #[.int .i16 a0_0, .int .i16 a0_1]] w fun e w' => e = .returned (.bool r) ∧ Below w.heap.size w w' := by
 have hu28 := Try.underlying28
 have HB := Aside0.mk (Below.refl w.heap.size w)
 have H : ((impl_ValidLine.f a0_0 a0_1).bind fun t319 => (some (!t319))) = some r := h
 clear h
 replace H := Option.bind_eq_some_iff.mp H
 obtain ⟨t319, A20, H⟩ := H
 replace H : (some (!t319)) = some r := H
 have A2 := Aside0.mk A20
 clear A20
 obtain rfl := Option.some.inj H
 go_enter Try.func94, Try.ntmps94
 go_wp2_with (first | ((with_reducible refine gate_dst (N := 1) rfl ?_); refine box_event ?hg (N := 1) ?hd (cs := #[.int .i16 a0_0, .int .i16 a0_1]) (t := 28) ?hr ?_; (case hd => rfl); (case hg => rfl); (case hr => first | (go_simp; done) | (go_simp; rfl)); intro gb318 hg w3 hbox hb; have n0_ := Aside0.mk (below_step (by repeat (first | (with_reducible first | exact HB.out | apply below_alloc | apply pw_below_drewN | apply below_drew1) | exact HB.out)) hb); have n1_ := Aside0.mk (hbox); have n2_ := Aside0.mk ((by rw [hg]; exact (below_size (by repeat (first | (with_reducible first | exact HB.out | apply below_alloc | apply pw_below_drewN | apply below_drew1) | exact HB.out))) : w.heap.size ≤ gb318)); have n3_ := Aside0.mk ((by rw [hg]; exact (below_size (by repeat (first | (with_reducible first | exact HB.out | apply below_alloc | apply pw_below_drewN | apply below_drew1) | exact HB.out))) : w.heap.size ≤ gb318)); clear HB; have HB := n0_; have BK318 := n1_; have GW318 := n2_; have GE318 := n3_; clear n0_ n1_ n2_ n3_; clear hb hbox hg; have hcz4_0 : w3.cell? ⟨gb318, 0, none⟩ = some (.int .i16 a0_0) := (blk_cell BK318.out 0).trans rfl; have hcz4_1 : w3.cell? ⟨gb318, 1, none⟩ = some (.int .i16 a0_1) := (blk_cell BK318.out 1).trans rfl; have hfz4_0 := blk_frozen BK318.out 0; have hfz4_1 := blk_frozen BK318.out 1) | ((with_reducible refine gate_callee (f := 95) rfl ?_); refine goesL_ (some 4) rfl rfl Try.func95 (by kernel_rfl) rfl #[.agg #[.int .i16 a0_0, .int .i16 a0_1]] rfl (by (try simp only [List.map_toArray, List.map_cons, List.map_nil]); first | done | rfl | (simp only [List.length_drop, List.length_take]; rfl)) ?_; (with_reducible refine (impl_ValidLine.calls a0_0 a0_1 t319 _ A2.out).mono ?_); rintro e w5 ⟨rfl, hb⟩; refine ⟨_, rfl, ?_⟩; have n0_ := Aside0.mk (blk_below (g := gb318) (o := .cells #[.int .i16 a0_0, .int .i16 a0_1] 28 (0, 0)) (by (with_reducible repeat (first | refine blk_drewN ?_ _ | refine blk_drew ?_ | refine blk_alloc ?_ _)); exact BK318.out) hb); have n1_ := Aside0.mk (below_step (by repeat (first | (with_reducible first | exact HB.out | apply below_alloc | apply pw_below_drewN | apply below_drew1 | refine below_set ?_ GE318.out) | exact HB.out)) hb); clear BK318; clear HB; have BK318 := n0_; have HB := n1_; clear n0_ n1_; (try clear hb); (try clear hb2); (try clear hk); (try clear hi)))
 go_ret
 exact ⟨by first | rfl | (simp [errW_none, errW_some] <;> rfl) | (simp [*, errW_none, errW_some] <;> rfl), by repeat (first | (with_reducible first | exact HB.out | apply below_alloc | apply pw_below_drewN | apply below_drew1 | refine below_set ?_ GE318.out) | exact HB.out)⟩
def line_ok (x : S28) : Bool := decide (4 ≤ x.f0 ∧ x.f0 ≤ 2000) && decide (1 ≤ x.f1 ∧ x.f1 ≤ 2000)
def line_fits (l1 : List S38) (x : S28) : Bool := holdsB x.f0 x.f1 l1
def impl_WhichLine.f (k : Nat) (l0 : List S28) (l1 : List S38) : Option (Int × Int) :=
 if l0.all (fun x => decide (-32768 ≤ x.f0 ∧ x.f0 ≤ 32767 ∧ -32768 ≤ x.f1 ∧ x.f1 ≤ 32767)) = true then
  (if l0.all line_ok = true then
   ((impl_clothCode.f k l1 7).bind fun c => if c = 0 then (if l1.length ≤ 1048576 then some (if l0.any (line_fits l1) = true then (Own.firstIdx (line_fits l1) l0, 0) else (0, 6)) else none) else some (0, c))
  else some (0, 1))
 else none
theorem WhichLine_1_total (x : S28) (h : -32768 ≤ x.f0 ∧ x.f0 ≤ 32767 ∧ -32768 ≤ x.f1 ∧ x.f1 ≤ 32767) : impl_WhichLine_1.f x.f0 x.f1 = some (!line_ok x) := by
 have e0 : wrap64 x.f0 = x.f0 := by unfold wrap64; omega
 have e1 : wrap64 x.f1 = x.f1 := by unfold wrap64; omega
 have hw : ∀ a b c : Int, impl_within.f a b c = some (decide (b ≤ a ∧ a ≤ c)) := by
  intro a b c
  unfold impl_within.f
  by_cases h : b ≤ a <;> simp [h]
 unfold impl_WhichLine_1.f impl_ValidLine.f line_ok
 simp only [e0, e1, hw, Option.bind_some]
 by_cases h1 : 4 ≤ x.f0 ∧ x.f0 ≤ 2000 <;> by_cases h2 : 1 ≤ x.f1 ∧ x.f1 ≤ 2000 <;> simp [h1, h2]
set_option maxHeartbeats 4000000 in
theorem WhichLine_2 (x : S28) (l1 : List S38) (A1 : Option Addr) (c1 : Nat) (g : Nat) (w : World) (hb1 : l1.length ≤ 1048576) (hr1 : Kd.C k38 w A1 l1.length l1) (hc1 : l1.length ≤ c1)
  (h0 : w.cell? ⟨g, 0, none⟩ = some (.slice A1 l1.length c1)) (hg : g < w.heap.size) :
  Calls Try.prog 98 #[.agg #[.int .i16 x.f0, .int .i16 x.f1], .pointer (some ⟨g, 0, none⟩)] w fun e w' => e = .returned (.bool (line_fits l1 x)) ∧ Below w.heap.size w w' := by
 have hh : impl_Line_holdsw.f x.f0 x.f1 l1 = some (line_fits l1 x) := by unfold impl_Line_holdsw.f line_fits; rw [if_pos hb1]
 obtain ⟨y, hy⟩ : ∃ y, line_fits l1 x = y := ⟨_, rfl⟩
 rw [hy] at hh ⊢
 have HH := Aside0.mk hh
 have HR1 := Aside0.mk hr1
 have hz : g ≠ w.heap.size := Nat.ne_of_lt hg
 clear hh hy hr1 hb1
 go_enter Try.func98, Try.ntmps98
 go_wp2_with (go_at_call 88; refine (impl_Line_holdsw.calls x.f0 x.f1 A1 c1 l1 y _ (Kd.C_below HR1.out (by repeat (first | exact Below.refl _ _ | apply pw_below_drewN | apply below_drew | apply below_alloc))) hc1 HH.out).mono ?_; rintro e w1 ⟨rfl, hb1⟩)
 go_ret
 exact ⟨rfl, below_step (by repeat (first | exact Below.refl _ _ | apply pw_below_drewN | apply below_drew | apply below_alloc)) hb1⟩
set_option maxHeartbeats 4000000 in
theorem impl_WhichLine.calls (k : Nat) (A0 : Option Addr) (c0 : Nat) (l0 : List S28) (A1 : Option Addr) (c1 : Nat) (l1 : List S38) (r1 : Int) (r2 : Int) (w : World) (hr0 : Kd.C k28 w A0 l0.length l0) (hc0 : l0.length ≤ c0) (hr1 : Kd.C k38 w A1 l1.length l1) (hc1 : l1.length ≤ c1) (h : impl_WhichLine.f k l0 l1 = some (r1, r2)) :
  Calls Try.prog 30 #[.slice A0 l0.length c0, .slice A1 l1.length c1] w fun e w' => e = .returned (.tuple #[.int .i64 r1, .int .i64 r2]) ∧ Below w.heap.size w w' := by
 unfold impl_WhichLine.f at h
 by_cases hb : l0.all (fun x => decide (-32768 ≤ x.f0 ∧ x.f0 ≤ 32767 ∧ -32768 ≤ x.f1 ∧ x.f1 ≤ 32767)) = true
 case neg => rw [if_neg hb] at h; cases h
 rw [if_pos hb] at h
 have hA : ∀ (W : World), Below w.heap.size w W → Calls Try.prog 93 #[.slice A0 l0.length c0, .func (.func 94) #[] #[]] W
   fun e w' => e = .returned (.bool (!l0.all line_ok)) ∧ Below W.heap.size W w' := by
  intro W hB
  rw [List.all_eq_not_any_not, Bool.not_not]
  exact ContainsFunc_28 A0 c0 l0 94 #[] (fun x => !line_ok x) W (Kd.C_below hr0 hB) (enters_of Try.func94 (by kernel_rfl) rfl)
   (fun W' x hx hB' => impl_WhichLine_1.calls x.f0 x.f1 _ W' (WhichLine_1_total x (by have := List.all_eq_true.mp hb x hx; simpa using this)))
 obtain ⟨ok, hok⟩ : ∃ ok, l0.all line_ok = ok := ⟨_, rfl⟩
 rw [hok] at h hA
 clear hok hb
 have HA := Aside0.mk hA
 have HR0 := Aside0.mk hr0
 have HR1 := Aside0.mk hr1
 cases ok with
 | false =>
  obtain ⟨rfl, rfl⟩ : 0 = r1 ∧ 1 = r2 := by simpa using h
  clear h hA hr0 hr1
  go_enter Try.func30, Try.ntmps30
  go_wp2_with (go_at_call 93; refine (HA.out _ (by repeat (first | exact Below.refl _ _ | apply below_alloc))).mono ?_; rintro e w1 ⟨rfl, hb1⟩)
  go_ret2
  exact ⟨rfl, below_step (by repeat (first | exact Below.refl _ _ | apply below_alloc)) hb1⟩
 | true =>
  simp only [↓reduceIte] at h
  obtain ⟨cd, hcd, h⟩ := Option.bind_eq_some_iff.mp h
  have HCD := Aside0.mk hcd
  clear hcd hA hr0 hr1
  by_cases h0 : cd = 0
  ·subst h0
   rw [if_pos rfl] at h
   by_cases hl : l1.length ≤ 1048576
   case neg => rw [if_neg hl] at h; cases h
   rw [if_pos hl] at h
   have hI : ∀ (W : World) (g : Nat), Below w.heap.size w W → g < W.heap.size → W.cell? ⟨g, 0, none⟩ = some (.slice A1 l1.length c1) →
     Calls Try.prog 97 #[.slice A0 l0.length c0, .func (.func 98) #[] #[.pointer (some ⟨g, 0, none⟩)]] W
     fun e w' => e = .returned (.int .i64 (Own.firstIdx (line_fits l1) l0)) ∧ Below W.heap.size W w' := by
    intro W g hB lg hg
    exact IndexFunc_28 A0 c0 l0 98 _ (line_fits l1) W (Kd.C_below HR0.out hB) (enters_of Try.func98 (by kernel_rfl) rfl)
     (fun W' x hx hB' => WhichLine_2 x l1 A1 c1 g W' hl (Kd.C_below HR1.out (below_step hB hB')) hc1 (pw_cell_below hB' hg) (Nat.lt_of_lt_of_le lg hB'.size))
   have hn := Own.firstIdx_nonneg (line_fits l1) l0
   obtain ⟨ix, hix⟩ : ∃ ix, Own.firstIdx (line_fits l1) l0 = ix := ⟨_, rfl⟩
   rw [hix] at hI hn h
   have HI := Aside0.mk hI
   cases ha : l0.any (line_fits l1) with
   | true =>
    rw [ha] at h hn
    obtain ⟨rfl, rfl⟩ : ix = r1 ∧ 0 = r2 := by simpa using h
    have hn1 : ¬ ix < 0 := by have := of_decide_eq_true hn; omega
    have hn2 : decide (ix < 0) = false := decide_eq_false hn1
    clear h hI hn hix ha hl hn1
    go_enter Try.func30, Try.ntmps30
    go_wp2_with (first | (go_at_call 93; refine (HA.out _ (by repeat (first | exact Below.refl _ _ | apply below_alloc))).mono ?_; rintro e w1 ⟨rfl, hb1⟩; have k0 := pw_cell_below hb1 (a := ⟨w.heap.size, 0, none⟩) (v := .slice A1 l1.length c1) (by simp [go_sem]); have HB1 := Aside0.mk (show Below w.heap.size w w1 from below_step (below_alloc (Below.refl _ _) _) hb1); have HZ := Aside0.mk (show w.heap.size < w1.heap.size from Nat.lt_of_lt_of_le (by simp) hb1.size); clear hb1) | (go_at_call 96; refine (impl_clothCode.calls k A1 c1 l1 7 0 _ (Kd.C_below HR1.out HB1.out) hc1 HCD.out).mono ?_; rintro e w2 ⟨rfl, hb2⟩; have q0 := pw_cell_below hb2 k0; have HB2 := Aside0.mk (below_step HB1.out hb2); have HZ2 := Aside0.mk (Nat.lt_of_lt_of_le HZ.out hb2.size); clear hb2 k0 HZ HB1) | (go_at_call 97; refine (HI.out _ _ HB2.out HZ2.out q0).mono ?_; rintro e w3 ⟨rfl, hb3⟩))
    go_ret2
    exact ⟨rfl, below_step HB2.out hb3⟩
   | false =>
    rw [ha] at h hn
    obtain ⟨rfl, rfl⟩ : 0 = r1 ∧ 6 = r2 := by simpa using h
    have hn1 : ix < 0 := by have := of_decide_eq_false hn; omega
    have hn2 : decide (ix < 0) = true := decide_eq_true hn1
    clear h hI hn hix ha hl hn1
    go_enter Try.func30, Try.ntmps30
    go_wp2_with (first | (go_at_call 93; refine (HA.out _ (by repeat (first | exact Below.refl _ _ | apply below_alloc))).mono ?_; rintro e w1 ⟨rfl, hb1⟩; have k0 := pw_cell_below hb1 (a := ⟨w.heap.size, 0, none⟩) (v := .slice A1 l1.length c1) (by simp [go_sem]); have HB1 := Aside0.mk (show Below w.heap.size w w1 from below_step (below_alloc (Below.refl _ _) _) hb1); have HZ := Aside0.mk (show w.heap.size < w1.heap.size from Nat.lt_of_lt_of_le (by simp) hb1.size); clear hb1) | (go_at_call 96; refine (impl_clothCode.calls k A1 c1 l1 7 0 _ (Kd.C_below HR1.out HB1.out) hc1 HCD.out).mono ?_; rintro e w2 ⟨rfl, hb2⟩; have q0 := pw_cell_below hb2 k0; have HB2 := Aside0.mk (below_step HB1.out hb2); have HZ2 := Aside0.mk (Nat.lt_of_lt_of_le HZ.out hb2.size); clear hb2 k0 HZ HB1) | (go_at_call 97; refine (HI.out _ _ HB2.out HZ2.out q0).mono ?_; rintro e w3 ⟨rfl, hb3⟩))
    go_ret2
    exact ⟨rfl, below_step HB2.out hb3⟩
  ·rw [if_neg h0] at h
   obtain ⟨rfl, rfl⟩ : 0 = r1 ∧ cd = r2 := by simpa using h
   clear h
   have hc0 : (cd != 0) = true := by simp [h0]
   clear h0
   go_enter Try.func30, Try.ntmps30
   go_wp2_with (first | (go_at_call 93; refine (HA.out _ (by repeat (first | exact Below.refl _ _ | apply below_alloc))).mono ?_; rintro e w1 ⟨rfl, hb1⟩; have k0 := pw_cell_below hb1 (a := ⟨w.heap.size, 0, none⟩) (v := .slice A1 l1.length c1) (by simp [go_sem]); have HB1 := Aside0.mk (show Below w.heap.size w w1 from below_step (below_alloc (Below.refl _ _) _) hb1); have HZ := Aside0.mk (show w.heap.size < w1.heap.size from Nat.lt_of_lt_of_le (by simp) hb1.size); clear hb1) | (go_at_call 96; refine (impl_clothCode.calls k A1 c1 l1 7 cd _ (Kd.C_below HR1.out HB1.out) hc1 HCD.out).mono ?_; rintro e w2 ⟨rfl, hb2⟩; have q0 := pw_cell_below hb2 k0; have HB2 := Aside0.mk (below_step HB1.out hb2); have HZ2 := Aside0.mk (Nat.lt_of_lt_of_le HZ.out hb2.size); clear hb2 k0 HZ HB1))
   go_ret2
   exact ⟨rfl, HB2.out⟩
end Go.Proofs.Ytlkpgpnieodifaa.Ln
