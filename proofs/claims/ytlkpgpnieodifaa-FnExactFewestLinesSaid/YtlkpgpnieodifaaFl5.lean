/- Functions of the program as Lean functions; of each a proof that the machine's call does what its Lean function says. -/
import Derived.Test.YtlkpgpnieodifaaFl0
import Derived.Test.YtlkpgpnieodifaaFl3
import Derived.Test.YtlkpgpnieodifaaFl4
namespace Go.Proofs.Ytlkpgpnieodifaa.Fl
open Go.RowKit Go.Proofs.YtlkpgpnieodifaaW.PrintWords Go.Proofs.YtlkpgpnieodifaaW.PrintLast Go.Proofs.YtlkpgpnieodifaaW.PrintMore
attribute [local go_sem] max2_int min2_int max_two min_two max_three min_three max_four min_four   -- for this text's walks alone
set_option linter.unusedVariables false
set_option linter.unusedSimpArgs false

/-! ### spec_l02Fits: function 79 -/
def spec_l02Fits.l0 : Nat → List (S38) → Int → Int → Int → Int → Option (Bool)
 | 0, _, _, _, _, _ => none
 | k + 1, x1, x5, x6, x201000, x201001 => if x6 < (x1.length : Int) then (if 0 ≤ x6 then (spec_l02Fits.l0 k x1 (wrap64 (x5 + (wrap64 ((rd_T38 x1 x6).f1)))) (wrap64 (x6 + 1)) x201000 x201001) else (none)) else ((spec_l02Places.f k x1).bind fun bt202 => (if bt202.2 ≤ (wrap64 (x201000)) then (some (decide (x5 ≤ (wrap64 (x201001))))) else (some false)))
def spec_l02Fits.f (k : Nat) (a0_0 : Int) (a0_1 : Int) (l1 : List (S38)) : Option (Bool) := spec_l02Fits.l0 k l1 0 0 a0_0 a0_1
theorem spec_l02Fits.mono_l : ∀ k, (∀ y0 y1 y2 y3 y4, LeO (spec_l02Fits.l0 k y0 y1 y2 y3 y4) (spec_l02Fits.l0 (k + 1) y0 y1 y2 y3 y4))
 | 0 => fun _ _ _ _ _ r h => by simp [spec_l02Fits.l0] at h
 | k + 1 => by
  have ih0 := spec_l02Fits.mono_l k
  ·intro y0 y1 y2 y3 y4
   unfold spec_l02Fits.l0
   repeat' first
   | (with_reducible exact ih0 _ _ _ _ _)
   | (with_reducible exact spec_l02Places.mono _ _)
   | (with_reducible exact LeO.refl _)
   | (with_reducible exact LeO.none _)
   | (with_reducible refine LeO.ite ?_ ?_)
   | (with_reducible refine LeO.bind ?_ (fun _ => ?_))
   | exact ih0 _ _ _ _ _
   | exact spec_l02Places.mono _ _
   | exact LeO.none _
   | refine LeO.ite ?_ ?_
   | refine LeO.bind ?_ (fun _ => ?_)
theorem spec_l02Fits.mono : ∀ a0 a1 a2 k, LeO (spec_l02Fits.f k a0 a1 a2) (spec_l02Fits.f (k + 1) a0 a1 a2) := by
 intro a0 a1 a2 k
 have ih0 := spec_l02Fits.mono_l k
 unfold spec_l02Fits.f
 repeat' first
   | (with_reducible exact ih0 _ _ _ _ _)
   | (with_reducible exact spec_l02Places.mono _ _)
   | (with_reducible exact LeO.refl _)
   | (with_reducible exact LeO.none _)
   | (with_reducible refine LeO.ite ?_ ?_)
   | (with_reducible refine LeO.bind ?_ (fun _ => ?_))
   | exact ih0 _ _ _ _ _
   | exact spec_l02Places.mono _ _
   | exact LeO.none _
   | refine LeO.ite ?_ ?_
   | refine LeO.bind ?_ (fun _ => ?_)
set_option maxHeartbeats 8000000 in
set_option maxRecDepth 100000 in
theorem spec_l02Fits.calls (k : Nat) (a0_0 : Int) (a0_1 : Int) (A1 : Option Addr) (c1 : Nat) (l1 : List (S38)) (r : Bool) (w : World) (hr1 : Kd.C k38 w A1 l1.length l1) (hc1 : l1.length ≤ c1) (h : spec_l02Fits.f k a0_0 a0_1 l1 = some r) :
  Calls Try.prog 79 #[.agg #[.int .i16 a0_0, .int .i16 a0_1], .slice A1 l1.length c1] w fun e w' => e = .returned (.bool r) ∧ Below w.heap.size w w' := by
 have hu28 := Try.underlying28
 have HR1 := Aside0.mk hr1
 have HC1 := Aside0.mk hc1
 clear hr1 hc1
 have HB := Aside0.mk (Below.refl w.heap.size w)
 have H : (spec_l02Fits.l0 k l1 0 0 a0_0 a0_1) = some r := h
 clear h
 have H' := Aside0.mk H
 clear H
 go_enter Try.func79, Try.ntmps79
 go_wp2_with (first | ((with_reducible refine gate_dst (N := 2) rfl ?_); refine box_event ?hg (N := 2) ?hd (cs := #[.int .i16 a0_0, .int .i16 a0_1]) (t := 28) ?hr ?_; (case hd => rfl); (case hg => rfl); (case hr => first | (go_simp; done) | (go_simp; rfl)); intro gb200 hg w3 hbox hb; have n0_ := Aside0.mk (below_step (by repeat (first | (with_reducible first | exact HB.out | apply below_alloc | apply pw_below_drewN | apply below_drew1) | exact HB.out)) hb); have n1_ := Aside0.mk (hbox); have n2_ := Aside0.mk ((by rw [hg]; exact (below_size (by repeat (first | (with_reducible first | exact HB.out | apply below_alloc | apply pw_below_drewN | apply below_drew1) | exact HB.out))) : w.heap.size ≤ gb200)); have n3_ := Aside0.mk ((by rw [hg]; exact (below_size (by repeat (first | (with_reducible first | exact HB.out | apply below_alloc | apply pw_below_drewN | apply below_drew1) | exact HB.out))) : w.heap.size ≤ gb200)); clear HB; have HB := n0_; have BK200 := n1_; have GW200 := n2_; have GE200 := n3_; clear n0_ n1_ n2_ n3_; clear hb hbox hg))
 go_loopg [5, 6] k (fun kq v5 v6 w' => ∃ (x5_1 : Int) (x6_1 : Int), v5 = .int .i64 x5_1 ∧ v6 = .int .i64 x6_1 ∧ Aside0 (spec_l02Fits.l0 kq l1 x5_1 x6_1 a0_0 a0_1 = some r) ∧ Aside0 (kq ≤ k) ∧ Aside0 (w'.heap[gb200]? = some (.cells #[.int .i16 a0_0, .int .i16 a0_1] 28 (0, 0))) ∧ Aside0 (Below w.heap.size w w'))
 case atStart => exact ⟨(0), (0), (by first | rfl | (simp; done) | (simp [*]; done)), (by first | rfl | (simp; done) | (simp [*]; done)), H', ⟨Nat.le_refl _⟩, ⟨by (with_reducible repeat (first | refine blk_drewN ?_ _ | refine blk_drew ?_ | refine blk_alloc ?_ _)); exact BK200.out⟩, ⟨by repeat (first | (with_reducible first | exact HB.out | apply below_alloc | apply pw_below_drewN | apply below_drew1 | refine below_set ?_ GE200.out) | exact HB.out)⟩⟩
 case round =>
  clear H'
  try clear c1
  try clear p2
  obtain ⟨x5_1, x6_1, rfl, rfl, HA, HK1, BK200, HB⟩ := hrel
  cases gk with
  | zero => exact absurd HA.out (by simp [spec_l02Fits.l0])
  | succ k1 =>
   have H := HA.out
   clear HA
   simp only [spec_l02Fits.l0] at H
   by_cases c4 : x6_1 < (l1.length : Int)
   ·rw [if_pos c4] at H
    have c4b0 : decide (x6_1 < (l1.length : Int)) = true := decide_eq_true c4
    clear c4
    by_cases c5 : 0 ≤ x6_1
    ·rw [if_pos c5] at H
     have c5b0 : decide (0 ≤ x6_1) = true := decide_eq_true c5
     clear c5
     have H' := Aside0.mk H
     clear H
     have p201 : 0 ≤ (x6_1 : Int) := of_decide_eq_true (by first | (with_reducible assumption) | assumption)
     have q201 : x6_1 < (l1.length : Int) := of_decide_eq_true (by first | (with_reducible assumption) | assumption)
     obtain ⟨ad201, e201, hx201_0, hx201_1⟩ := at_T38 HR1.out x6_1 p201 q201
     cases e201
     replace hx201_0 := (HB.out.cell (World.block_lt_of_cell? w _ hx201_0)).trans hx201_0
     replace hx201_1 := (HB.out.cell (World.block_lt_of_cell? w _ hx201_1)).trans hx201_1
     replace p201 := eq_true p201
     replace q201 := eq_true q201
     go_wp2
     go_roundg k1
     case measure => have := HK1.out; omega
     case rel => exact ⟨(wrap64 (x5_1 + (wrap64 ((rd_T38 l1 x6_1).f1)))), (wrap64 (x6_1 + 1)), (by first | rfl | (simp; done) | (simp [*]; done)), (by first | rfl | (simp; done) | (simp [*]; done)), H', ⟨by have := HK1.out; omega⟩, ⟨by (with_reducible repeat (first | refine blk_drewN ?_ _ | refine blk_drew ?_ | refine blk_alloc ?_ _)); exact BK200.out⟩, ⟨by repeat (first | (with_reducible first | exact HB.out | apply below_alloc | apply pw_below_drewN | apply below_drew1 | refine below_set ?_ GE200.out) | exact HB.out)⟩⟩
    ·rw [if_neg c5] at H
     exact absurd H (by simp)
   ·rw [if_neg c4] at H
    have c4b0 : decide (x6_1 < (l1.length : Int)) = false := decide_eq_false c4
    clear c4
    replace H := Option.bind_eq_some_iff.mp H
    obtain ⟨⟨t202, t203⟩, A60, H⟩ := H
    replace H : (if t203 ≤ (wrap64 (a0_0)) then (some (decide (x5_1 ≤ (wrap64 (a0_1))))) else (some false)) = some r := H
    have A6 := Aside0.mk A60
    clear A60
    by_cases c7 : t203 ≤ (wrap64 (a0_0))
    ·rw [if_pos c7] at H
     have c7b0 : decide (t203 ≤ (wrap64 (a0_0))) = true := decide_eq_true c7
     clear c7
     obtain rfl := Option.some.inj H
     go_wp2_with (first | ((with_reducible refine gate_callee (f := 118) rfl ?_); refine goesL_ (some 25) rfl rfl Try.func118 (by kernel_rfl) rfl #[.slice A1 l1.length c1] rfl (by (try simp only [List.map_toArray, List.map_cons, List.map_nil]); first | done | rfl | (simp only [List.length_drop, List.length_take]; rfl)) ?_; (with_reducible refine (spec_l02Places.calls k1 _ _ l1 t202 t203 _ ?side1 ?side2 A6.out).mono ?_); (case side1 => repeat (first | exact (Kd.C_below HR1.out HB.out) | (with_reducible refine Kd.C_alloc ?_ _) | (with_reducible refine Kd.C_drewN ?_ _) | (with_reducible refine Kd.C_drew ?_))); (case side2 => exact HC1.out); rintro e w8 ⟨v204, rfl, ho0, hb⟩; refine ⟨_, rfl, ?_⟩; have n0_ := Aside0.mk (Kd.R_lower ho0 (below_size (by repeat (first | (with_reducible first | exact HB.out | apply below_alloc | apply pw_below_drewN | apply below_drew1 | refine below_set ?_ GE200.out) | exact HB.out)))); have n1_ := Aside0.mk (blk_below (g := gb200) (o := .cells #[.int .i16 a0_0, .int .i16 a0_1] 28 (0, 0)) (by (with_reducible repeat (first | refine blk_drewN ?_ _ | refine blk_drew ?_ | refine blk_alloc ?_ _)); exact BK200.out) hb); have n2_ := Aside0.mk (below_step (by repeat (first | (with_reducible first | exact HB.out | apply below_alloc | apply pw_below_drewN | apply below_drew1 | refine below_set ?_ GE200.out) | exact HB.out)) hb); clear BK200; clear HB; have HO205 := n0_; have BK200 := n1_; have HB := n2_; clear n0_ n1_ n2_; (try clear hb); (try clear hb2); (try clear hk); (try clear hi); (try clear ho0); have hcz9_0 : w8.cell? ⟨gb200, 0, none⟩ = some (.int .i16 a0_0) := (blk_cell BK200.out 0).trans rfl; have hcz9_1 : w8.cell? ⟨gb200, 1, none⟩ = some (.int .i16 a0_1) := (blk_cell BK200.out 1).trans rfl; have hfz9_0 := blk_frozen BK200.out 0; have hfz9_1 := blk_frozen BK200.out 1))
     go_ret
     exact ⟨by first | rfl | (simp [errW_none, errW_some] <;> rfl) | (simp [*, errW_none, errW_some] <;> rfl), by repeat (first | (with_reducible first | exact HB.out | apply below_alloc | apply pw_below_drewN | apply below_drew1 | refine below_set ?_ GE200.out) | exact HB.out)⟩
    ·rw [if_neg c7] at H
     have c7b0 : decide (t203 ≤ (wrap64 (a0_0))) = false := decide_eq_false c7
     clear c7
     obtain rfl := Option.some.inj H
     go_wp2_with (first | ((with_reducible refine gate_callee (f := 118) rfl ?_); refine goesL_ (some 25) rfl rfl Try.func118 (by kernel_rfl) rfl #[.slice A1 l1.length c1] rfl (by (try simp only [List.map_toArray, List.map_cons, List.map_nil]); first | done | rfl | (simp only [List.length_drop, List.length_take]; rfl)) ?_; (with_reducible refine (spec_l02Places.calls k1 _ _ l1 t202 t203 _ ?side1 ?side2 A6.out).mono ?_); (case side1 => repeat (first | exact (Kd.C_below HR1.out HB.out) | (with_reducible refine Kd.C_alloc ?_ _) | (with_reducible refine Kd.C_drewN ?_ _) | (with_reducible refine Kd.C_drew ?_))); (case side2 => exact HC1.out); rintro e w10 ⟨v204, rfl, ho0, hb⟩; refine ⟨_, rfl, ?_⟩; have n0_ := Aside0.mk (Kd.R_lower ho0 (below_size (by repeat (first | (with_reducible first | exact HB.out | apply below_alloc | apply pw_below_drewN | apply below_drew1 | refine below_set ?_ GE200.out) | exact HB.out)))); have n1_ := Aside0.mk (blk_below (g := gb200) (o := .cells #[.int .i16 a0_0, .int .i16 a0_1] 28 (0, 0)) (by (with_reducible repeat (first | refine blk_drewN ?_ _ | refine blk_drew ?_ | refine blk_alloc ?_ _)); exact BK200.out) hb); have n2_ := Aside0.mk (below_step (by repeat (first | (with_reducible first | exact HB.out | apply below_alloc | apply pw_below_drewN | apply below_drew1 | refine below_set ?_ GE200.out) | exact HB.out)) hb); clear BK200; clear HB; have HO205 := n0_; have BK200 := n1_; have HB := n2_; clear n0_ n1_ n2_; (try clear hb); (try clear hb2); (try clear hk); (try clear hi); (try clear ho0); have hcz11_0 : w10.cell? ⟨gb200, 0, none⟩ = some (.int .i16 a0_0) := (blk_cell BK200.out 0).trans rfl; have hcz11_1 : w10.cell? ⟨gb200, 1, none⟩ = some (.int .i16 a0_1) := (blk_cell BK200.out 1).trans rfl; have hfz11_0 := blk_frozen BK200.out 0; have hfz11_1 := blk_frozen BK200.out 1))
     go_ret
     exact ⟨by first | rfl | (simp [errW_none, errW_some] <;> rfl) | (simp [*, errW_none, errW_some] <;> rfl), by repeat (first | (with_reducible first | exact HB.out | apply below_alloc | apply pw_below_drewN | apply below_drew1 | refine below_set ?_ GE200.out) | exact HB.out)⟩

/-! ### spec_l02Alone: function 78 -/
def spec_l02Alone.l0 : Nat → List (S38) → Int → Int → Int → Option (Bool)
 | 0, _, _, _, _ => none
 | k + 1, x1, x5, x207000, x207001 => if x5 < (x1.length : Int) then (if 0 ≤ x5 then (if x5 ≤ (wrap64 (x5 + 1)) then (if (wrap64 (x5 + 1)) ≤ (x1.length : Int) then ((spec_l02Fits.f k x207000 x207001 ((x1.take ((wrap64 (x5 + 1)) : Int).toNat).drop (x5 : Int).toNat)).bind fun t211 => (if t211 = true then (spec_l02Alone.l0 k x1 (wrap64 (x5 + 1)) x207000 x207001) else (some false))) else (none)) else (none)) else (none)) else (some true)
def spec_l02Alone.f (k : Nat) (a0_0 : Int) (a0_1 : Int) (l1 : List (S38)) : Option (Bool) := spec_l02Alone.l0 k l1 0 a0_0 a0_1
theorem spec_l02Alone.mono_l : ∀ k, (∀ y0 y1 y2 y3, LeO (spec_l02Alone.l0 k y0 y1 y2 y3) (spec_l02Alone.l0 (k + 1) y0 y1 y2 y3))
 | 0 => fun _ _ _ _ r h => by simp [spec_l02Alone.l0] at h
 | k + 1 => by
  have ih0 := spec_l02Alone.mono_l k
  ·intro y0 y1 y2 y3
   unfold spec_l02Alone.l0
   repeat' first
   | (with_reducible exact ih0 _ _ _ _)
   | (with_reducible exact spec_l02Fits.mono _ _ _ _)
   | (with_reducible exact LeO.refl _)
   | (with_reducible exact LeO.none _)
   | (with_reducible refine LeO.ite ?_ ?_)
   | (with_reducible refine LeO.bind ?_ (fun _ => ?_))
   | exact ih0 _ _ _ _
   | exact spec_l02Fits.mono _ _ _ _
   | exact LeO.none _
   | refine LeO.ite ?_ ?_
   | refine LeO.bind ?_ (fun _ => ?_)
theorem spec_l02Alone.mono : ∀ a0 a1 a2 k, LeO (spec_l02Alone.f k a0 a1 a2) (spec_l02Alone.f (k + 1) a0 a1 a2) := by
 intro a0 a1 a2 k
 have ih0 := spec_l02Alone.mono_l k
 unfold spec_l02Alone.f
 repeat' first
   | (with_reducible exact ih0 _ _ _ _)
   | (with_reducible exact spec_l02Fits.mono _ _ _ _)
   | (with_reducible exact LeO.refl _)
   | (with_reducible exact LeO.none _)
   | (with_reducible refine LeO.ite ?_ ?_)
   | (with_reducible refine LeO.bind ?_ (fun _ => ?_))
   | exact ih0 _ _ _ _
   | exact spec_l02Fits.mono _ _ _ _
   | exact LeO.none _
   | refine LeO.ite ?_ ?_
   | refine LeO.bind ?_ (fun _ => ?_)
def spec_l02Alone.T4 : Bool × List (List Nat × List Nat) := (true, [([], []), ([], []), ([], []), ([], []), ([3], [3]), ([1, 2, 4], [1, 2, 4]), ([0, 5], [0, 5]), ([6], [6])])
def spec_l02Alone.B4 : List Nat := [0, 0, 0, 0, 8, 30, 63, 127]
theorem spec_l02Alone.tab4 : rtab .any (opsOf Try.f78 4) = spec_l02Alone.T4 := by kernel_rfl
theorem spec_l02Alone.bits4 : waitsOk spec_l02Alone.T4.2 spec_l02Alone.B4 = true := by kernel_rfl
set_option maxHeartbeats 8000000 in
set_option maxRecDepth 100000 in
theorem spec_l02Alone.calls (k : Nat) (a0_0 : Int) (a0_1 : Int) (A1 : Option Addr) (c1 : Nat) (l1 : List (S38)) (r : Bool) (w : World) (hr1 : Kd.C k38 w A1 l1.length l1) (hc1 : l1.length ≤ c1) (h : spec_l02Alone.f k a0_0 a0_1 l1 = some r) :
  Calls Try.prog 78 #[.agg #[.int .i16 a0_0, .int .i16 a0_1], .slice A1 l1.length c1] w fun e w' => e = .returned (.bool r) ∧ Below w.heap.size w w' := by
 have hu28 := Try.underlying28
 have HR1 := Aside0.mk hr1
 have HC1 := Aside0.mk hc1
 clear hr1 hc1
 have HB := Aside0.mk (Below.refl w.heap.size w)
 have H : (spec_l02Alone.l0 k l1 0 a0_0 a0_1) = some r := h
 clear h
 have H' := Aside0.mk H
 clear H
 go_enter Try.func78, Try.ntmps78
 go_wp2_with (first | ((with_reducible refine gate_dst (N := 2) rfl ?_); refine box_event ?hg (N := 2) ?hd (cs := #[.int .i16 a0_0, .int .i16 a0_1]) (t := 28) ?hr ?_; (case hd => rfl); (case hg => rfl); (case hr => first | (go_simp; done) | (go_simp; rfl)); intro gb206 hg w3 hbox hb; have n0_ := Aside0.mk (below_step (by repeat (first | (with_reducible first | exact HB.out | apply below_alloc | apply pw_below_drewN | apply below_drew1) | exact HB.out)) hb); have n1_ := Aside0.mk (hbox); have n2_ := Aside0.mk ((by rw [hg]; exact (below_size (by repeat (first | (with_reducible first | exact HB.out | apply below_alloc | apply pw_below_drewN | apply below_drew1) | exact HB.out))) : w.heap.size ≤ gb206)); have n3_ := Aside0.mk ((by rw [hg]; exact (below_size (by repeat (first | (with_reducible first | exact HB.out | apply below_alloc | apply pw_below_drewN | apply below_drew1) | exact HB.out))) : w.heap.size ≤ gb206)); clear HB; have HB := n0_; have BK206 := n1_; have GW206 := n2_; have GE206 := n3_; clear n0_ n1_ n2_ n3_; clear hb hbox hg))
 go_loopg [5] k (fun kq v5 w' => ∃ (x5_1 : Int), v5 = .int .i64 x5_1 ∧ Aside0 (spec_l02Alone.l0 kq l1 x5_1 a0_0 a0_1 = some r) ∧ Aside0 (kq ≤ k) ∧ Aside0 (w'.heap[gb206]? = some (.cells #[.int .i16 a0_0, .int .i16 a0_1] 28 (0, 0))) ∧ Aside0 (Below w.heap.size w w'))
 case atStart => exact ⟨(0), (by first | rfl | (simp; done) | (simp [*]; done)), H', ⟨Nat.le_refl _⟩, ⟨by (with_reducible repeat (first | refine blk_drewN ?_ _ | refine blk_drew ?_ | refine blk_alloc ?_ _)); exact BK206.out⟩, ⟨by repeat (first | (with_reducible first | exact HB.out | apply below_alloc | apply pw_below_drewN | apply below_drew1 | refine below_set ?_ GE206.out) | exact HB.out)⟩⟩
 case round =>
  clear H'
  try clear c1
  try clear p2
  obtain ⟨x5_1, rfl, HA, HK1, BK206, HB⟩ := hrel
  cases gk with
  | zero => exact absurd HA.out (by simp [spec_l02Alone.l0])
  | succ k1 =>
   have H := HA.out
   clear HA
   simp only [spec_l02Alone.l0] at H
   by_cases c4 : x5_1 < (l1.length : Int)
   ·rw [if_pos c4] at H
    have c4b0 : decide (x5_1 < (l1.length : Int)) = true := decide_eq_true c4
    clear c4
    by_cases c5 : 0 ≤ x5_1
    ·rw [if_pos c5] at H
     have c5b0 := eq_true c5
     have c5b1 : decide (0 ≤ x5_1) = true := decide_eq_true c5
     clear c5
     by_cases c6 : x5_1 ≤ (wrap64 (x5_1 + 1))
     ·rw [if_pos c6] at H
      have c6b0 := eq_true c6
      have c6b1 : decide (x5_1 ≤ (wrap64 (x5_1 + 1))) = true := decide_eq_true c6
      by_cases c7 : (wrap64 (x5_1 + 1)) ≤ (l1.length : Int)
      ·rw [if_pos c7] at H
       have c7b0 := eq_true c7
       have c7b1 : decide ((wrap64 (x5_1 + 1)) ≤ (l1.length : Int)) = true := decide_eq_true c7
       obtain ⟨y207, hy207⟩ : ∃ y_ : List (S38), y_ = ((l1.take ((wrap64 (x5_1 + 1)) : Int).toNat).drop (x5_1 : Int).toNat) := ⟨_, rfl⟩
       replace H : ((spec_l02Fits.f k1 a0_0 a0_1 y207).bind fun t211 => (if t211 = true then (spec_l02Alone.l0 k1 l1 (wrap64 (x5_1 + 1)) a0_0 a0_1) else (some false))) = some r := by first | (rw [hy207]; with_reducible exact H) | (have H2_ := (Option.bind_some _ _).symm.trans H; rw [hy207]; with_reducible exact H2_) | (have H2_ := (Option.bind_some _ _).symm.trans H; with_reducible exact H2_) | with_reducible exact H | (rw [hy207]; exact H) | exact H
       have Ny207 := Aside0.mk hy207
       clear hy207
       replace H := Option.bind_eq_some_iff.mp H
       obtain ⟨t211, A80, H⟩ := H
       replace H : (if t211 = true then (spec_l02Alone.l0 k1 l1 (wrap64 (x5_1 + 1)) a0_0 a0_1) else (some false)) = some r := H
       have A8 := Aside0.mk A80
       clear A80
       by_cases c9 : t211 = true
       ·subst c9
        have H1 : (spec_l02Alone.l0 k1 l1 (wrap64 (x5_1 + 1)) a0_0 a0_1) = some r := by rw [if_pos rfl] at H; exact H
        clear H
        have H := H1
        clear H1
        have H' := Aside0.mk H
        clear H
        try go_wp2
        have n0_ := Aside0.mk (blk_drew BK206.out)
        have n1_ := Aside0.mk (below_drew1 HB.out)
        clear BK206
        clear HB
        have BK206 := n0_
        have HB := n1_
        clear n0_ n1_
        have q11 : ((wrap64 (x5_1 + 1)) : Int) ≤ ((l1.length : Int) : Int) := of_decide_eq_true (by first | (with_reducible assumption) | assumption)
        obtain ⟨i011, hi011, _, hsz11, _⟩ := info_parts info38
        have hroom11 : l1.length ≤ c1 := HC1.out
        have hC11 : Kd.C k38 _ A1 l1.length l1 := HR1.out
        have ql11 : (x5_1 : Int) ≤ ((wrap64 (x5_1 + 1)) : Int) := of_decide_eq_true (by first | (with_reducible assumption) | assumption)
        have q011 : (0 : Int) ≤ (x5_1 : Int) := of_decide_eq_true (by first | (with_reducible assumption) | assumption)
        have hcut11 := cut_mid (P := Try.prog) 24 38 .i64 .i64 Try.underlying24 hi011 2 hsz11 A1 l1.length c1 x5_1 (wrap64 (x5_1 + 1)) q011 ql11 q11 hroom11
        have hr11 := Kd.C_mid (lo := (x5_1 : Int).toNat) (hi := ((wrap64 (x5_1 + 1)) : Int).toNat) (c := c1) hC11 (by omega) (by omega) hroom11
        obtain ⟨A11, hA11⟩ : ∃ A1_, A1_ = (if c1 = (x5_1 : Int).toNat then A1 else (A1 : Option Addr).map (·.add ((x5_1 : Int).toNat * 2))) := ⟨_, rfl⟩
        obtain ⟨c11, hc11⟩ : ∃ c1_, c1_ = c1 - (x5_1 : Int).toNat := ⟨_, rfl⟩
        have hy11 : y207.length = ((wrap64 (x5_1 + 1)) : Int).toNat - (x5_1 : Int).toNat := (by rw [Ny207.out, List.length_drop, List.length_take] <;> omega)
        rw [show ((l1).take ((wrap64 (x5_1 + 1)) : Int).toNat).drop (x5_1 : Int).toNat = y207 from Ny207.out.symm] at hr11
        replace hr11 : Kd.C k38 _ A11 y207.length y207 := (by rw [hA11]; exact hr11)
        rw [← hy11, ← hA11, ← hc11] at hcut11
        have HR210 := Aside0.mk hr11
        have HC210 := Aside0.mk (show y207.length ≤ c11 from by rw [hy11, hc11]; exact Nat.sub_le_sub_right (Nat.le_trans (by omega) hroom11) _)
        clear hr11 hC11 hroom11 hi011 hsz11 hc11
        have KY11 := Aside0.mk hy11
        have KA11 := Aside0.mk hA11
        clear hy11 hA11
        replace q11 := eq_true q11
        refine start_ (n := 8) (S := fun w' => w'.cell? ⟨gb206, 0, none⟩ = some (.int .i16 a0_0) ∧ w'.cell? ⟨gb206, 1, none⟩ = some (.int .i16 a0_1)) (ds := []) #[false, false, false, false, false, false, false, false] (by kernel_rfl) rfl rfl ⟨(blk_cell BK206.out 0).trans rfl, (blk_cell BK206.out 1).trans rfl⟩ (fun hHeld => ?_); refine with_tabW spec_l02Alone.tab4 spec_l02Alone.bits4 (fun HT_ HW_ => ?_)
        generalize wr.drew = w10 at BK206 HB HR210 hHeld ⊢
        refine pure_ (i := 1) (N := some 13) (v := ?_) (a' := ?_) #[false, true, false, false, false, false, false, false] rfl rfl (any_of HT_.out (by kernel_rfl)) (fun _ _ _ h => h) (Or.inl ⟨by rfl, ?_⟩) ?_ ?_
        rotate_left
        ·intro w'
         go_simp
         with_reducible rfl
        rotate_left
        ·simp only [Act.put, List.setIfInBounds_toArray, List.set_cons_zero, List.set_cons_succ, i64_w, i32_w]
         rfl
        refine pure_ (i := 2) (N := some 14) (v := ?_) (a' := ?_) #[false, true, true, false, false, false, false, false] rfl rfl (any_of HT_.out (by kernel_rfl)) (fun _ _ _ h => h) (Or.inl ⟨by rfl, ?_⟩) ?_ ?_
        rotate_left
        ·intro w'
         go_simp
         with_reducible rfl
        rotate_left
        ·simp only [Act.put, List.setIfInBounds_toArray, List.set_cons_zero, List.set_cons_succ, i64_w, i32_w]
         rfl
        refine pure_ (i := 3) (N := some 15) (v := ?_) (a' := ?_) #[false, true, true, true, false, false, false, false] rfl rfl (any_of HT_.out (by kernel_rfl)) (fun _ _ _ h => h) (Or.inl ⟨by rfl, ?_⟩) ?_ ?_
        rotate_left
        ·intro w'
         go_simp
         with_reducible rfl
        rotate_left
        ·simp only [Act.put, List.setIfInBounds_toArray, List.set_cons_zero, List.set_cons_succ, i64_w, i32_w]
         rfl
        refine pure_ (i := 4) (N := some 16) (v := ?_) (a' := ?_) #[false, true, true, true, true, false, false, false] rfl rfl (any_of HT_.out (by kernel_rfl)) (fun _ _ _ h => h) (Or.inl ⟨by rfl, ?_⟩) ?_ ?_
        rotate_left
        ·intro w'
         go_simp
         with_reducible rfl
        rotate_left
        ·simp only [Act.put, List.setIfInBounds_toArray, List.set_cons_zero, List.set_cons_succ, i64_w, i32_w]
         rfl
        refine pure_ (i := 5) (N := some 17) (v := ?_) (a' := ?_) #[false, true, true, true, true, true, false, false] rfl rfl (any_of HT_.out (by kernel_rfl)) (fun _ _ _ h => h) (Or.inl ⟨by rfl, ?_⟩) ?_ ?_
        rotate_left
        ·intro w'
         go_simp
         with_reducible rfl
        rotate_left
        ·simp only [Act.put, List.setIfInBounds_toArray, List.set_cons_zero, List.set_cons_succ, i64_w, i32_w]
         rfl
        refine take_ (i := 0) (N := some 12) (v := ?_) (a' := ?_) #[true, true, true, true, true, true, false, false] rfl rfl (take_ofW HT_.out HW_.out (by kernel_rfl)) (fun _ _ _ h => h) (Or.inl ⟨by rfl, ?_⟩) hHeld ?_ ?_
        rotate_left
        ·rintro w' ⟨s0, s1⟩
         go_simp
         with_reducible rfl
        rotate_left
        ·simp only [Act.put, List.setIfInBounds_toArray, List.set_cons_zero, List.set_cons_succ, i64_w, i32_w]
         rfl
        refine one_ (i := 6) (N := some 18) #[true, true, true, true, true, true, true, false] rfl rfl (one_of HT_.out (by kernel_rfl)) (by decide) (fun K hK => ?_)
        refine goes_ Try.func79 (by kernel_rfl) rfl #[.agg #[.int .i16 a0_0, .int .i16 a0_1], .slice A11 y207.length c11] (by rfl) rfl rfl (by (try simp only [List.map_toArray, List.map_cons, List.map_nil]); first | done | rfl | (simp only [List.length_drop, List.length_take]; rfl)) ?_
        with_reducible refine (spec_l02Fits.calls k1 a0_0 a0_1 _ _ y207 true _ ?side1 ?side2 A8.out).mono ?_
        (case side1 => repeat (first | exact (Kd.C_below HR210.out HB.out) | (with_reducible refine Kd.C_alloc ?_ _) | (with_reducible refine Kd.C_drewN ?_ _) | (with_reducible refine Kd.C_drew ?_)))
        (case side2 => exact HC210.out)
        rintro e w12 ⟨rfl, hb⟩
        refine ⟨_, rfl, ?_⟩
        have n0_ := Aside0.mk (blk_below (g := gb206) (o := .cells #[.int .i16 a0_0, .int .i16 a0_1] 28 (0, 0)) (by (with_reducible repeat (first | refine blk_drewN ?_ _ | refine blk_drew ?_ | refine blk_alloc ?_ _)); exact BK206.out) hb)
        have n1_ := Aside0.mk (below_step (by repeat (first | (with_reducible first | exact HB.out | apply below_alloc | apply pw_below_drewN | apply below_drew1 | refine below_set ?_ GE206.out) | exact HB.out)) hb)
        clear BK206
        clear HB
        have BK206 := n0_
        have HB := n1_
        clear n0_ n1_
        (try clear hb)
        (try clear hb2)
        (try clear hk)
        (try clear hi)
        refine hK.out _ _ ⟨(blk_cell BK206.out 0).trans rfl, (blk_cell BK206.out 1).trans rfl⟩ (fun hHeld => ?_)
        clear hK K
        refine norm_ (a' := ?_) ?_ ?_
        rotate_left
        ·show Act.put _ (some 18) _ = _
         simp only [Act.put, List.setIfInBounds_toArray, List.set_cons_zero, List.set_cons_succ, i64_w, i32_w]
         rfl
        refine pure_ (i := 7) (N := some 19) (v := ?_) (a' := ?_) #[true, true, true, true, true, true, true, true] rfl rfl (any_of HT_.out (by kernel_rfl)) (fun _ _ _ h => h) (Or.inl ⟨by rfl, ?_⟩) ?_ ?_
        rotate_left
        ·intro w'
         go_simp
         with_reducible rfl
        rotate_left
        ·simp only [Act.put, List.setIfInBounds_toArray, List.set_cons_zero, List.set_cons_succ, i64_w, i32_w]
         rfl
        refine done_ (done_of HT_.out (by kernel_rfl)) ?_
        try go_wp2
        go_roundg k1
        case measure => have := HK1.out; omega
        case rel => exact ⟨(wrap64 (x5_1 + 1)), (by first | rfl | (simp; done) | (simp [*]; done)), H', ⟨by have := HK1.out; omega⟩, ⟨by (with_reducible repeat (first | refine blk_drewN ?_ _ | refine blk_drew ?_ | refine blk_alloc ?_ _)); exact BK206.out⟩, ⟨by repeat (first | (with_reducible first | exact HB.out | apply below_alloc | apply pw_below_drewN | apply below_drew1 | refine below_set ?_ GE206.out) | exact HB.out)⟩⟩
       ·replace c9 := Bool.eq_false_iff.mpr c9
        subst c9
        have H1 : (some false) = some r := by rw [if_neg (show ¬ (false = true) by decide)] at H; exact H
        clear H
        have H := H1
        clear H1
        obtain rfl := Option.some.inj H
        try go_wp2
        have n0_ := Aside0.mk (blk_drew BK206.out)
        have n1_ := Aside0.mk (below_drew1 HB.out)
        clear BK206
        clear HB
        have BK206 := n0_
        have HB := n1_
        clear n0_ n1_
        have q14 : ((wrap64 (x5_1 + 1)) : Int) ≤ ((l1.length : Int) : Int) := of_decide_eq_true (by first | (with_reducible assumption) | assumption)
        obtain ⟨i014, hi014, _, hsz14, _⟩ := info_parts info38
        have hroom14 : l1.length ≤ c1 := HC1.out
        have hC14 : Kd.C k38 _ A1 l1.length l1 := HR1.out
        have ql14 : (x5_1 : Int) ≤ ((wrap64 (x5_1 + 1)) : Int) := of_decide_eq_true (by first | (with_reducible assumption) | assumption)
        have q014 : (0 : Int) ≤ (x5_1 : Int) := of_decide_eq_true (by first | (with_reducible assumption) | assumption)
        have hcut14 := cut_mid (P := Try.prog) 24 38 .i64 .i64 Try.underlying24 hi014 2 hsz14 A1 l1.length c1 x5_1 (wrap64 (x5_1 + 1)) q014 ql14 q14 hroom14
        have hr14 := Kd.C_mid (lo := (x5_1 : Int).toNat) (hi := ((wrap64 (x5_1 + 1)) : Int).toNat) (c := c1) hC14 (by omega) (by omega) hroom14
        obtain ⟨A14, hA14⟩ : ∃ A1_, A1_ = (if c1 = (x5_1 : Int).toNat then A1 else (A1 : Option Addr).map (·.add ((x5_1 : Int).toNat * 2))) := ⟨_, rfl⟩
        obtain ⟨c14, hc14⟩ : ∃ c1_, c1_ = c1 - (x5_1 : Int).toNat := ⟨_, rfl⟩
        have hy14 : y207.length = ((wrap64 (x5_1 + 1)) : Int).toNat - (x5_1 : Int).toNat := (by rw [Ny207.out, List.length_drop, List.length_take] <;> omega)
        rw [show ((l1).take ((wrap64 (x5_1 + 1)) : Int).toNat).drop (x5_1 : Int).toNat = y207 from Ny207.out.symm] at hr14
        replace hr14 : Kd.C k38 _ A14 y207.length y207 := (by rw [hA14]; exact hr14)
        rw [← hy14, ← hA14, ← hc14] at hcut14
        have HR210 := Aside0.mk hr14
        have HC210 := Aside0.mk (show y207.length ≤ c14 from by rw [hy14, hc14]; exact Nat.sub_le_sub_right (Nat.le_trans (by omega) hroom14) _)
        clear hr14 hC14 hroom14 hi014 hsz14 hc14
        have KY14 := Aside0.mk hy14
        have KA14 := Aside0.mk hA14
        clear hy14 hA14
        replace q14 := eq_true q14
        refine start_ (n := 8) (S := fun w' => w'.cell? ⟨gb206, 0, none⟩ = some (.int .i16 a0_0) ∧ w'.cell? ⟨gb206, 1, none⟩ = some (.int .i16 a0_1)) (ds := []) #[false, false, false, false, false, false, false, false] (by kernel_rfl) rfl rfl ⟨(blk_cell BK206.out 0).trans rfl, (blk_cell BK206.out 1).trans rfl⟩ (fun hHeld => ?_); refine with_tabW spec_l02Alone.tab4 spec_l02Alone.bits4 (fun HT_ HW_ => ?_)
        generalize wr.drew = w13 at BK206 HB HR210 hHeld ⊢
        refine pure_ (i := 1) (N := some 13) (v := ?_) (a' := ?_) #[false, true, false, false, false, false, false, false] rfl rfl (any_of HT_.out (by kernel_rfl)) (fun _ _ _ h => h) (Or.inl ⟨by rfl, ?_⟩) ?_ ?_
        rotate_left
        ·intro w'
         go_simp
         with_reducible rfl
        rotate_left
        ·simp only [Act.put, List.setIfInBounds_toArray, List.set_cons_zero, List.set_cons_succ, i64_w, i32_w]
         rfl
        refine pure_ (i := 2) (N := some 14) (v := ?_) (a' := ?_) #[false, true, true, false, false, false, false, false] rfl rfl (any_of HT_.out (by kernel_rfl)) (fun _ _ _ h => h) (Or.inl ⟨by rfl, ?_⟩) ?_ ?_
        rotate_left
        ·intro w'
         go_simp
         with_reducible rfl
        rotate_left
        ·simp only [Act.put, List.setIfInBounds_toArray, List.set_cons_zero, List.set_cons_succ, i64_w, i32_w]
         rfl
        refine pure_ (i := 3) (N := some 15) (v := ?_) (a' := ?_) #[false, true, true, true, false, false, false, false] rfl rfl (any_of HT_.out (by kernel_rfl)) (fun _ _ _ h => h) (Or.inl ⟨by rfl, ?_⟩) ?_ ?_
        rotate_left
        ·intro w'
         go_simp
         with_reducible rfl
        rotate_left
        ·simp only [Act.put, List.setIfInBounds_toArray, List.set_cons_zero, List.set_cons_succ, i64_w, i32_w]
         rfl
        refine pure_ (i := 4) (N := some 16) (v := ?_) (a' := ?_) #[false, true, true, true, true, false, false, false] rfl rfl (any_of HT_.out (by kernel_rfl)) (fun _ _ _ h => h) (Or.inl ⟨by rfl, ?_⟩) ?_ ?_
        rotate_left
        ·intro w'
         go_simp
         with_reducible rfl
        rotate_left
        ·simp only [Act.put, List.setIfInBounds_toArray, List.set_cons_zero, List.set_cons_succ, i64_w, i32_w]
         rfl
        refine pure_ (i := 5) (N := some 17) (v := ?_) (a' := ?_) #[false, true, true, true, true, true, false, false] rfl rfl (any_of HT_.out (by kernel_rfl)) (fun _ _ _ h => h) (Or.inl ⟨by rfl, ?_⟩) ?_ ?_
        rotate_left
        ·intro w'
         go_simp
         with_reducible rfl
        rotate_left
        ·simp only [Act.put, List.setIfInBounds_toArray, List.set_cons_zero, List.set_cons_succ, i64_w, i32_w]
         rfl
        refine take_ (i := 0) (N := some 12) (v := ?_) (a' := ?_) #[true, true, true, true, true, true, false, false] rfl rfl (take_ofW HT_.out HW_.out (by kernel_rfl)) (fun _ _ _ h => h) (Or.inl ⟨by rfl, ?_⟩) hHeld ?_ ?_
        rotate_left
        ·rintro w' ⟨s0, s1⟩
         go_simp
         with_reducible rfl
        rotate_left
        ·simp only [Act.put, List.setIfInBounds_toArray, List.set_cons_zero, List.set_cons_succ, i64_w, i32_w]
         rfl
        refine one_ (i := 6) (N := some 18) #[true, true, true, true, true, true, true, false] rfl rfl (one_of HT_.out (by kernel_rfl)) (by decide) (fun K hK => ?_)
        refine goes_ Try.func79 (by kernel_rfl) rfl #[.agg #[.int .i16 a0_0, .int .i16 a0_1], .slice A14 y207.length c14] (by rfl) rfl rfl (by (try simp only [List.map_toArray, List.map_cons, List.map_nil]); first | done | rfl | (simp only [List.length_drop, List.length_take]; rfl)) ?_
        with_reducible refine (spec_l02Fits.calls k1 a0_0 a0_1 _ _ y207 false _ ?side1 ?side2 A8.out).mono ?_
        (case side1 => repeat (first | exact (Kd.C_below HR210.out HB.out) | (with_reducible refine Kd.C_alloc ?_ _) | (with_reducible refine Kd.C_drewN ?_ _) | (with_reducible refine Kd.C_drew ?_)))
        (case side2 => exact HC210.out)
        rintro e w15 ⟨rfl, hb⟩
        refine ⟨_, rfl, ?_⟩
        have n0_ := Aside0.mk (blk_below (g := gb206) (o := .cells #[.int .i16 a0_0, .int .i16 a0_1] 28 (0, 0)) (by (with_reducible repeat (first | refine blk_drewN ?_ _ | refine blk_drew ?_ | refine blk_alloc ?_ _)); exact BK206.out) hb)
        have n1_ := Aside0.mk (below_step (by repeat (first | (with_reducible first | exact HB.out | apply below_alloc | apply pw_below_drewN | apply below_drew1 | refine below_set ?_ GE206.out) | exact HB.out)) hb)
        clear BK206
        clear HB
        have BK206 := n0_
        have HB := n1_
        clear n0_ n1_
        (try clear hb)
        (try clear hb2)
        (try clear hk)
        (try clear hi)
        refine hK.out _ _ ⟨(blk_cell BK206.out 0).trans rfl, (blk_cell BK206.out 1).trans rfl⟩ (fun hHeld => ?_)
        clear hK K
        refine norm_ (a' := ?_) ?_ ?_
        rotate_left
        ·show Act.put _ (some 18) _ = _
         simp only [Act.put, List.setIfInBounds_toArray, List.set_cons_zero, List.set_cons_succ, i64_w, i32_w]
         rfl
        refine pure_ (i := 7) (N := some 19) (v := ?_) (a' := ?_) #[true, true, true, true, true, true, true, true] rfl rfl (any_of HT_.out (by kernel_rfl)) (fun _ _ _ h => h) (Or.inl ⟨by rfl, ?_⟩) ?_ ?_
        rotate_left
        ·intro w'
         go_simp
         with_reducible rfl
        rotate_left
        ·simp only [Act.put, List.setIfInBounds_toArray, List.set_cons_zero, List.set_cons_succ, i64_w, i32_w]
         rfl
        refine done_ (done_of HT_.out (by kernel_rfl)) ?_
        try go_wp2
        go_ret
        exact ⟨by first | rfl | (simp [errW_none, errW_some] <;> rfl) | (simp [*, errW_none, errW_some] <;> rfl), by repeat (first | (with_reducible first | exact HB.out | apply below_alloc | apply pw_below_drewN | apply below_drew1 | refine below_set ?_ GE206.out) | exact HB.out)⟩
      ·rw [if_neg c7] at H
       exact absurd H (by simp)
     ·rw [if_neg c6] at H
      exact absurd H (by simp)
    ·rw [if_neg c5] at H
     exact absurd H (by simp)
   ·rw [if_neg c4] at H
    have c4b0 : decide (x5_1 < (l1.length : Int)) = false := decide_eq_false c4
    clear c4
    obtain rfl := Option.some.inj H
    go_wp2
    go_ret
    exact ⟨by first | rfl | (simp [errW_none, errW_some] <;> rfl) | (simp [*, errW_none, errW_some] <;> rfl), by repeat (first | (with_reducible first | exact HB.out | apply below_alloc | apply pw_below_drewN | apply below_drew1 | refine below_set ?_ GE206.out) | exact HB.out)⟩

/-! ### spec_l02On: function 80 -/
def spec_l02On.l0 : Nat → List (S38) → List Int → Int → List (S38) → Int → Option ((List (S38)))
 | 0, _, _, _, _, _ => none
 | k + 1, x0, x1, x2, x7, x8 => if x8 < (x1.length : Int) then (if 0 ≤ x8 then (if (rd x1 x8) = x2 then (if x8 < (x0.length : Int) then (if x7.length < 35184372088832 then (spec_l02On.l0 k x0 x1 x2 (x7 ++ [(⟨(rd_T38 x0 x8).f0, (rd_T38 x0 x8).f1⟩ : S38)]) (wrap64 (x8 + 1))) else (none)) else (none)) else (spec_l02On.l0 k x0 x1 x2 x7 (wrap64 (x8 + 1)))) else (none)) else (some x7)
def spec_l02On.f (k : Nat) (l0 : List (S38)) (l1 : List Int) (a2 : Int) : Option ((List (S38))) := spec_l02On.l0 k l0 l1 a2 (([] : List (S38))) 0
theorem spec_l02On.mono_l : ∀ k, (∀ y0 y1 y2 y3 y4, LeO (spec_l02On.l0 k y0 y1 y2 y3 y4) (spec_l02On.l0 (k + 1) y0 y1 y2 y3 y4))
 | 0 => fun _ _ _ _ _ r h => by simp [spec_l02On.l0] at h
 | k + 1 => by
  have ih0 := spec_l02On.mono_l k
  ·intro y0 y1 y2 y3 y4
   unfold spec_l02On.l0
   repeat' first
   | (with_reducible exact ih0 _ _ _ _ _)
   | (with_reducible exact LeO.refl _)
   | (with_reducible exact LeO.none _)
   | (with_reducible refine LeO.ite ?_ ?_)
   | (with_reducible refine LeO.bind ?_ (fun _ => ?_))
   | exact ih0 _ _ _ _ _
   | exact LeO.none _
   | refine LeO.ite ?_ ?_
   | refine LeO.bind ?_ (fun _ => ?_)
theorem spec_l02On.mono : ∀ a0 a1 a2 k, LeO (spec_l02On.f k a0 a1 a2) (spec_l02On.f (k + 1) a0 a1 a2) := by
 intro a0 a1 a2 k
 have ih0 := spec_l02On.mono_l k
 unfold spec_l02On.f
 repeat' first
   | (with_reducible exact ih0 _ _ _ _ _)
   | (with_reducible exact LeO.refl _)
   | (with_reducible exact LeO.none _)
   | (with_reducible refine LeO.ite ?_ ?_)
   | (with_reducible refine LeO.bind ?_ (fun _ => ?_))
   | exact ih0 _ _ _ _ _
   | exact LeO.none _
   | refine LeO.ite ?_ ?_
   | refine LeO.bind ?_ (fun _ => ?_)
set_option maxHeartbeats 8000000 in
set_option maxRecDepth 100000 in
theorem spec_l02On.calls (k : Nat) (A0 : Option Addr) (c0 : Nat) (l0 : List (S38)) (A1 : Option Addr) (c1 : Nat) (l1 : List Int) (a2 : Int) (r : List (S38)) (w : World) (hr0 : Kd.C k38 w A0 l0.length l0) (hc0 : l0.length ≤ c0) (hr1 : Kd.C (Kd.int .i64) w A1 l1.length l1) (hc1 : l1.length ≤ c1) (h : spec_l02On.f k l0 l1 a2 = some r) :
  Calls Try.prog 80 #[.slice A0 l0.length c0, .slice A1 l1.length c1, .int .i64 a2] w fun e w' => ∃ v0_ : Value, e = .returned (v0_) ∧ Kd.R k38 38 w' w.heap.size (fun _ => True) v0_ r ∧ Below w.heap.size w w' := by
 have hu38 := Try.underlying38
 have HR0 := Aside0.mk hr0
 have HC0 := Aside0.mk hc0
 clear hr0 hc0
 have HR1 := Aside0.mk hr1
 have HC1 := Aside0.mk hc1
 clear hr1 hc1
 have HB := Aside0.mk (Below.refl w.heap.size w)
 have H : (spec_l02On.l0 k l0 l1 a2 (([] : List (S38))) 0) = some r := h
 clear h
 obtain ⟨y212, hy212⟩ : ∃ y_ : List (S38), y_ = (([] : List (S38))) := ⟨_, rfl⟩
 replace H : (spec_l02On.l0 k l0 l1 a2 y212 0) = some r := by first | (rw [hy212]; with_reducible exact H) | (have H2_ := (Option.bind_some _ _).symm.trans H; rw [hy212]; with_reducible exact H2_) | (have H2_ := (Option.bind_some _ _).symm.trans H; with_reducible exact H2_) | with_reducible exact H | (rw [hy212]; exact H) | exact H
 have Ny212 := Aside0.mk hy212
 clear hy212
 have H' := Aside0.mk H
 clear H
 go_enter Try.func80, Try.ntmps80
 go_wp2_with (first | ((with_reducible refine gate_dst (N := 9) rfl ?_); refine Kd.R_lit k38 _ 38 ?hg (N := 9) ?hd (xs := ([] : List (S38))) (inner := []) (ok := fun _ => True) (okp := fun _ => True) ?hr ?hp (fun _ hk => hk) trivial (Below.refl _ _) (Nat.le_refl _) (by simp) ?_; (case hd => rfl); (case hg => rfl); (case hr => first | (go_simp; done) | (go_simp; rfl)); (case hp => exact (Reps.none _ _)); intro v213 w4 ho5 hb hg_ hnew_; clear hg_ hnew_; (first | rw [← Ny212.out] at ho5 | (simp only [Int.reduceToNat] at ho5; rw [← Ny212.out] at ho5)); have n0_ := Aside0.mk (Kd.R_lower ho5 (below_size (by repeat (first | (with_reducible first | exact HB.out | apply below_alloc | apply pw_below_drewN | apply below_drew1) | exact HB.out)))); have n1_ := Aside0.mk (below_step (by repeat (first | (with_reducible first | exact HB.out | apply below_alloc | apply pw_below_drewN | apply below_drew1) | exact HB.out)) hb); clear HB; have HO214 := n0_; have HB := n1_; clear n0_ n1_; clear hb ho5))
 go_loopg [7, 8] k (fun kq v7 v8 w' => ∃ (x7_1 : List (S38)) (x8_1 : Int), v8 = .int .i64 x8_1 ∧ Aside0 (spec_l02On.l0 kq l0 l1 a2 x7_1 x8_1 = some r) ∧ Aside0 (kq ≤ k) ∧ Aside0 (Kd.R k38 38 w' w.heap.size (fun _ => True) v7 x7_1) ∧ Aside0 (Below w.heap.size w w'))
 case atStart => exact ⟨(y212), (0), (by first | rfl | (simp; done) | (simp [*]; done)), H', ⟨Nat.le_refl _⟩, ⟨by (with_reducible repeat (first | apply Kd.R_alloc | apply Kd.R_drewN | apply Kd.R_drew)); exact HO214.out⟩, ⟨by repeat (first | (with_reducible first | exact HB.out | apply below_alloc | apply pw_below_drewN | apply below_drew1) | exact HB.out)⟩⟩
 case round =>
  clear H'
  try clear c1
  try clear p2
  obtain ⟨x7_1, x8_1, rfl, HA, HK1, HO_7, HB⟩ := hrel
  cases gk with
  | zero => exact absurd HA.out (by simp [spec_l02On.l0])
  | succ k1 =>
   have H := HA.out
   clear HA
   simp only [spec_l02On.l0] at H
   by_cases c6 : x8_1 < (l1.length : Int)
   ·rw [if_pos c6] at H
    have c6b0 : decide (x8_1 < (l1.length : Int)) = true := decide_eq_true c6
    clear c6
    by_cases c7 : 0 ≤ x8_1
    ·rw [if_pos c7] at H
     have c7b0 : decide (0 ≤ x8_1) = true := decide_eq_true c7
     clear c7
     by_cases c8 : (rd l1 x8_1) = a2
     ·rw [if_pos c8] at H
      have c8b0 : ((rd l1 x8_1) == a2) = true := beq_iff_eq.mpr c8
      have c8b1 : ((rd l1 x8_1) != a2) = false := bne_eq_false_iff_eq.mpr c8
      clear c8
      by_cases c9 : x8_1 < (l0.length : Int)
      ·rw [if_pos c9] at H
       have c9b0 : decide (x8_1 < (l0.length : Int)) = true := decide_eq_true c9
       clear c9
       by_cases c10 : x7_1.length < 35184372088832
       ·rw [if_pos c10] at H
        have LMc10 := Aside0.mk c10
        clear c10
        obtain ⟨y217, hy217⟩ : ∃ y_ : List (S38), y_ = (x7_1 ++ [(⟨(rd_T38 l0 x8_1).f0, (rd_T38 l0 x8_1).f1⟩ : S38)]) := ⟨_, rfl⟩
        replace H : (spec_l02On.l0 k1 l0 l1 a2 y217 (wrap64 (x8_1 + 1))) = some r := by first | (rw [hy217]; with_reducible exact H) | (have H2_ := (Option.bind_some _ _).symm.trans H; rw [hy217]; with_reducible exact H2_) | (have H2_ := (Option.bind_some _ _).symm.trans H; with_reducible exact H2_) | with_reducible exact H | (rw [hy217]; exact H) | exact H
        have Ny217 := Aside0.mk hy217
        clear hy217
        have H' := Aside0.mk H
        clear H
        have p215 : 0 ≤ (x8_1 : Int) := of_decide_eq_true (by first | (with_reducible assumption) | assumption)
        have q215 : x8_1 < (l1.length : Int) := of_decide_eq_true (by first | (with_reducible assumption) | assumption)
        obtain ⟨ad215, e215, hx215_0⟩ := Kd.at_int HR1.out x8_1 p215 q215
        cases e215
        replace hx215_0 := (HB.out.cell (World.block_lt_of_cell? w _ hx215_0)).trans hx215_0
        replace p215 := eq_true p215
        replace q215 := eq_true q215
        have p216 : 0 ≤ (x8_1 : Int) := of_decide_eq_true (by first | (with_reducible assumption) | assumption)
        have q216 : x8_1 < (l0.length : Int) := of_decide_eq_true (by first | (with_reducible assumption) | assumption)
        obtain ⟨ad216, e216, hx216_0, hx216_1⟩ := at_T38 HR0.out x8_1 p216 q216
        cases e216
        replace hx216_0 := (HB.out.cell (World.block_lt_of_cell? w _ hx216_0)).trans hx216_0
        replace hx216_1 := (HB.out.cell (World.block_lt_of_cell? w _ hx216_1)).trans hx216_1
        replace p216 := eq_true p216
        replace q216 := eq_true q216
        go_wp2_with (first | ((with_reducible refine gate_builtin (b := .append) (xs := #[.tmp 22, .tmp 27]) rfl ?_); at_builtin; refine Kd.R_append k38 (w0 := w) w.heap.size rfl (.tmp 22) (.tmp 27) 24 38 (.agg #[(.int .i16 0), (.int .i16 0)]) 4 rfl Try.underlying24 info38 rfl (by decide) (by omega) u7 x7_1 (⟨(rd_T38 l0 x8_1).f0, (rd_T38 l0 x8_1).f1⟩ : S38) [.int .i16 ((rd_T38 l0 x8_1).f0), .int .i16 ((rd_T38 l0 x8_1).f1)] (fun _ => True) (fun _ => False) rfl rfl ?aP (fun _ hk => hk.elim) ?aF ?aO ?aB ?aS ?aL ?_; (case aP => exact k38_mkM _ _ _ (⟨(rd_T38 l0 x8_1).f0, (rd_T38 l0 x8_1).f1⟩ : S38)); (case aB => exact (by repeat (first | (with_reducible first | exact HB.out | apply below_alloc | apply pw_below_drewN | apply below_drew1) | exact HB.out))); (case aF => exact (fun _ _ => trivial)); (case aO => exact (by (with_reducible repeat (first | apply Kd.R_alloc | apply Kd.R_drewN | apply Kd.R_drew)); exact HO_7.out)); (case aS => exact (below_size (by repeat (first | (with_reducible first | exact HB.out | apply below_alloc | apply pw_below_drewN | apply below_drew1) | exact HB.out)))); (case aL => have := LMc10.out; omega); intro v218 w11 ho hb hg hat; rw [← Ny217.out] at ho; have n0_ := Aside0.mk (hb); have n1_ := Aside0.mk (ho); clear HB; clear HO_7; have HB := n0_; have HO219 := n1_; clear n0_ n1_; clear ho hb hg hat))
        go_roundg k1
        case measure => have := HK1.out; omega
        case rel => exact ⟨(y217), (wrap64 (x8_1 + 1)), (by first | rfl | (simp; done) | (simp [*]; done)), H', ⟨by have := HK1.out; omega⟩, ⟨by (with_reducible repeat (first | apply Kd.R_alloc | apply Kd.R_drewN | apply Kd.R_drew)); exact HO219.out⟩, ⟨by repeat (first | (with_reducible first | exact HB.out | apply below_alloc | apply pw_below_drewN | apply below_drew1) | exact HB.out)⟩⟩
       ·rw [if_neg c10] at H
        exact absurd H (by simp)
      ·rw [if_neg c9] at H
       exact absurd H (by simp)
     ·rw [if_neg c8] at H
      have c8b0 : ((rd l1 x8_1) == a2) = false := beq_eq_false_iff_ne.mpr c8
      have c8b1 : ((rd l1 x8_1) != a2) = true := bne_iff_ne.mpr c8
      have H' := Aside0.mk H
      clear H
      have p215 : 0 ≤ (x8_1 : Int) := of_decide_eq_true (by first | (with_reducible assumption) | assumption)
      have q215 : x8_1 < (l1.length : Int) := of_decide_eq_true (by first | (with_reducible assumption) | assumption)
      obtain ⟨ad215, e215, hx215_0⟩ := Kd.at_int HR1.out x8_1 p215 q215
      cases e215
      replace hx215_0 := (HB.out.cell (World.block_lt_of_cell? w _ hx215_0)).trans hx215_0
      replace p215 := eq_true p215
      replace q215 := eq_true q215
      go_wp2
      go_roundg k1
      case measure => have := HK1.out; omega
      case rel => exact ⟨(x7_1), (wrap64 (x8_1 + 1)), (by first | rfl | (simp; done) | (simp [*]; done)), H', ⟨by have := HK1.out; omega⟩, ⟨by (with_reducible repeat (first | apply Kd.R_alloc | apply Kd.R_drewN | apply Kd.R_drew)); exact HO_7.out⟩, ⟨by repeat (first | (with_reducible first | exact HB.out | apply below_alloc | apply pw_below_drewN | apply below_drew1) | exact HB.out)⟩⟩
    ·rw [if_neg c7] at H
     exact absurd H (by simp)
   ·rw [if_neg c6] at H
    have c6b0 : decide (x8_1 < (l1.length : Int)) = false := decide_eq_false c6
    clear c6
    obtain rfl := Option.some.inj H
    go_wp2
    go_ret
    exact ⟨_, by first | rfl | (simp [errW_none, errW_some] <;> rfl) | (simp [*, errW_none, errW_some] <;> rfl), by (with_reducible repeat (first | apply Kd.R_alloc | apply Kd.R_drewN | apply Kd.R_drew)); exact HO_7.out, by repeat (first | (with_reducible first | exact HB.out | apply below_alloc | apply pw_below_drewN | apply below_drew1) | exact HB.out)⟩

/-! ### spec_l00Max: function 81 -/
def spec_l00Max.f (a0 : Int) (a1 : Int) : Option (Int) := if a0 > a1 then (some a0) else (some a1)
set_option maxHeartbeats 8000000 in
set_option maxRecDepth 100000 in
theorem spec_l00Max.calls (a0 : Int) (a1 : Int) (r : Int) (w : World) (h : spec_l00Max.f a0 a1 = some r) :
  Calls Try.prog 81 #[.int .i64 a0, .int .i64 a1] w fun e w' => e = .returned (.int .i64 r) ∧ Drawn0 w w' := by
 have H : (if a0 > a1 then (some a0) else (some a1)) = some r := h
 clear h
 by_cases c3 : a0 > a1
 ·rw [if_pos c3] at H
  have c3b0 : decide (a1 < a0) = true := decide_eq_true c3
  clear c3
  obtain rfl := Option.some.inj H
  go_enter Try.func81, Try.ntmps81
  go_wp2
  go_ret
  exact ⟨by first | rfl | (simp; done) | (simp [*]; done), by repeat (first | exact Drawn0.refl _ | apply Drawn0.step)⟩
 ·rw [if_neg c3] at H
  have c3b0 : decide (a1 < a0) = false := decide_eq_false c3
  clear c3
  obtain rfl := Option.some.inj H
  go_enter Try.func81, Try.ntmps81
  go_wp2
  go_ret
  exact ⟨by first | rfl | (simp; done) | (simp [*]; done), by repeat (first | exact Drawn0.refl _ | apply Drawn0.step)⟩

/-! ### spec_l02Try: function 86 (told by hand) -/
def fitT (K : Nat) (a0 a1 : Int) (l : List S38) (o : List Int) (k : Int) : Option Bool := (spec_l02On.f K l o k).bind fun p => if p.length ≤ 1048576 then spec_l02Fits.f K a0 a1 (p ++ [rd_T38 l (o.length : Int)]) else none
theorem putT3 {W : World} {gs : Nat} {a b c d e f : Value} (h1 : W.heap[gs]? = some (.cells #[a,b,c,d,e,f] 95 (0, 0))) (x : Value) : (W.setCell ⟨gs, 3, none⟩ x).heap[gs]? = some (.cells #[a,b,c,x,e,f] 95 (0, 0)) := blk_put h1 3 x rfl
theorem putT5 {W : World} {gs : Nat} {a b c d e f : Value} (h1 : W.heap[gs]? = some (.cells #[a,b,c,d,e,f] 95 (0, 0))) (x : Value) : (W.setCell ⟨gs, 5, none⟩ x).heap[gs]? = some (.cells #[a,b,c,d,e,x] 95 (0, 0)) := blk_put h1 5 x rfl
structure StT (W0 : World) (gs : Nat) (a0 a1 : Int) (l1 : List S38) (A1 : Option Addr) (c1 : Nat) (bud : Int) (W : World) (o : List Int) (t : Int) : Prop where
 bel : Below W0.heap.size W0 W
 hb : ∃ v : Value, W.heap[gs]? = some (.cells #[.int .i16 a0, .int .i16 a1, .slice A1 l1.length c1, v, .int .i64 bud, .int .i64 t] 95 (0, 0)) ∧ Kd.R (Kd.int .i64) 2 W W0.heap.size (fun k => k ≠ gs) v o
 ht : 0 ≤ t ∧ t ≤ bud
theorem StT.below {W0 W W' : World} {gs : Nat} {a0 a1 : Int} {l1 : List S38} {A1 : Option Addr} {c1 : Nat} {bud : Int} {o : List Int} {t : Int} (h : StT W0 gs a0 a1 l1 A1 c1 bud W o t) (b : Below W.heap.size W W') : StT W0 gs a0 a1 l1 A1 c1 bud W' o t := by
 obtain ⟨v, h1, h2⟩ := h.hb
 exact ⟨below_step h.bel b, ⟨v, blk_below h1 b, Kd.R_below h2 b⟩, h.ht⟩
theorem StT.next {W0 W : World} {gs : Nat} {a0 a1 : Int} {l1 : List S38} {A1 : Option Addr} {c1 : Nat} {bud : Int} {o : List Int} {t : Int} (h : StT W0 gs a0 a1 l1 A1 c1 bud W o t) (hg : W0.heap.size ≤ gs) (ht : t < bud) : StT W0 gs a0 a1 l1 A1 c1 bud (W.setCell ⟨gs, 5, none⟩ (.int .i64 (t + 1))) o (t + 1) := by
 obtain ⟨v, h1, h2⟩ := h.hb
 exact ⟨below_set h.bel hg, ⟨v, putT5 h1 _, Kd.R_kept h2 (keptH (Kept.refl W (fun k => k = gs)) 5 _) (fun k hk hS => hk hS)⟩, by have := h.ht; omega, by omega⟩
theorem StT.lines {W0 W : World} {gs : Nat} {a0 a1 : Int} {l1 : List S38} {A1 : Option Addr} {c1 : Nat} {bud : Int} {o o' : List Int} {t : Int} {v : Value} (h : StT W0 gs a0 a1 l1 A1 c1 bud W o t) (hg : W0.heap.size ≤ gs) (hv : Kd.R (Kd.int .i64) 2 W W0.heap.size (fun k => k ≠ gs) v o') : StT W0 gs a0 a1 l1 A1 c1 bud (W.setCell ⟨gs, 3, none⟩ v) o' t := by
 obtain ⟨v0, h1, h2⟩ := h.hb
 exact ⟨below_set h.bel hg, ⟨v, putT3 h1 _, Kd.R_kept hv (keptH (Kept.refl W (fun k => k = gs)) 3 _) (fun k hk hS => hk hS)⟩, h.ht⟩
def outT (x : List Int × Bool × Int × Bool) : Int := if x.2.1 = true then 1 else if x.2.2.2 = true then -1 else 0
set_option maxHeartbeats 2000000 in
set_option maxRecDepth 100000 in
theorem try_zero (K : Nat) (W0 : World) (gs : Nat) (a0 a1 : Int) (l1 : List S38) (A1 : Option Addr) (c1 : Nat) (bud : Int) (most : Nat) (hn : l1.length ≤ 1000) (W : World) (o : List Int) (u : Nat) (t : Int) (hd : o.length = l1.length) (hS : StT W0 gs a0 a1 l1 A1 c1 bud W o t) :
  Calls Try.prog 86 #[.pointer (some ⟨gs, 0, none⟩), .int .i64 (u : Int), .int .i64 (most : Int)] W fun e w' => e = .returned (.int .i64 1) ∧ StT W0 gs a0 a1 l1 A1 c1 bud w' o t := by
 obtain ⟨v, hblk, hR⟩ := hS.hb
 obtain ⟨A, c, rfl, hoc, hC⟩ := Kd.R_reads hR
 have q2 : W.cell? ⟨gs, 2, none⟩ = some (.slice A1 l1.length c1) := (blk_cell hblk 2).trans rfl
 have q3 : W.cell? ⟨gs, 3, none⟩ = some (.slice A o.length c) := (blk_cell hblk 3).trans rfl
 have hn0 : l1.length ≤ 9223372036854775807 := by omega
 have ho0 : o.length ≤ 9223372036854775807 := by omega
 have e1 : ((o.length : Int) == (l1.length : Int)) = true := by simp; omega
 have e2 : (o.length == l1.length) = true := by simp; omega
 have HS := Aside0.mk hS
 clear hS hR hC hblk hd hn
 go_enter Try.func86, Try.ntmps86
 go_wp2
 go_ret
 exact ⟨rfl, HS.out⟩
theorem C_newT (w : World) (x : S38) : Kd.C k38 (w.alloc (.cells #[.int .i16 x.f0, .int .i16 x.f1] 38)) (some ⟨w.heap.size, 0, none⟩) [x].length [x] := by
 refine Own.C_single [.int .i16 x.f0, .int .i16 x.f1] (k38_mk _ x) (fun i u hu => ?_)
 rcases i with _ | _ | i <;> simp at hu
 all_goals
  subst hu
  simp [go_sem]
set_option maxHeartbeats 2000000 in
set_option maxRecDepth 100000 in
theorem try_calls (K : Nat) (W0 : World) (gs : Nat) (a0 a1 : Int) (l1 : List S38) (A1 : Option Addr) (c1 : Nat) (bud : Int) (most : Nat) (hn : l1.length ≤ 1000) (hmost : most ≤ 1000) (hgs : W0.heap.size ≤ gs) (hbud : bud ≤ 1000000000000) (hr1 : Kd.C k38 W0 A1 l1.length l1) (hc1 : l1.length ≤ c1) :
  ∀ (d : Nat) (W : World) (o : List Int) (u : Nat) (t : Int) (x : List Int × Bool × Int × Bool), o.length + d = l1.length → u ≤ o.length → StT W0 gs a0 a1 l1 A1 c1 bud W o t → hangS (fitT K a0 a1 l1) bud most d o u t = some x →
   Calls Try.prog 86 #[.pointer (some ⟨gs, 0, none⟩), .int .i64 (u : Int), .int .i64 (most : Int)] W fun e w' => e = .returned (.int .i64 (outT x)) ∧ ∃ o', StT W0 gs a0 a1 l1 A1 c1 bud w' o' x.2.2.1 ∧ (x.2.1 = true → o' = x.1) ∧ (x.2.1 = false → x.2.2.2 = false → o' = o) := by
 intro d
 induction d with
 | zero =>
  intro W o u t x hd hu hS h
  rw [hangS] at h
  obtain rfl := Option.some.inj h
  exact (try_zero K W0 gs a0 a1 l1 A1 c1 bud most hn W o u t (by omega) hS).mono (fun e w' h => ⟨h.1, o, h.2, fun _ => rfl, fun _ _ => rfl⟩)
 | succ d ih =>
  intro W o u t x hd hu hS h
  rw [hangS] at h
  obtain ⟨v, hblk, hR⟩ := hS.hb
  obtain ⟨A, c, rfl, hoc, _⟩ := Kd.R_reads hR
  have q2' : W.cell? ⟨gs, 2, none⟩ = some (.slice A1 l1.length c1) := (blk_cell hblk 2).trans rfl
  have q3' : W.cell? ⟨gs, 3, none⟩ = some (.slice A o.length c) := (blk_cell hblk 3).trans rfl
  have hn0 : l1.length ≤ 9223372036854775807 := by omega
  have ho0 : o.length ≤ 9223372036854775807 := by omega
  have e1 : ((o.length : Int) == (l1.length : Int)) = false := by simp; omega
  have e2 : (o.length == l1.length) = false := by simp; omega
  have hu1 : (u : Int) ≤ 1000 := by omega
  have hm1 : (most : Int) ≤ 1000 := by omega
  have HOL := Aside0.mk (show o.length ≤ 1000 by omega)
  have HOLT := Aside0.mk (show o.length < l1.length by omega)
  have HUU := Aside0.mk hu
  have HD := Aside0.mk hd
  have HG := Aside0.mk hgs
  have HRW := Aside0.mk hr1
  have HS := Aside0.mk hS
  have IH := Aside0.mk ih
  have HF := Aside0.mk h
  clear hS hR h ih hgs hr1 hd hu hn hblk
  go_enter Try.func86, Try.ntmps86
  go_wp2
  go_loopg [8, 9] (min (u + 1) most) (fun gg v8 _ w' => ∃ (kk r : Nat) (tk : Int), kk + r = min (u + 1) most ∧ r ≤ gg ∧ v8 = .int .i64 (kk : Int) ∧ Aside0 (hangL (fun k t => (fitT K a0 a1 l1 o (k : Int)).bind fun b => if b = false then some ([], false, t, false) else if t = bud then some ([], false, t, true) else hangS (fitT K a0 a1 l1) bud most d (o ++ [(k : Int)]) (max u (k + 1)) (t + 1)) r kk tk = some x) ∧ Aside0 (StT W0 gs a0 a1 l1 A1 c1 bud w' o tk))
  case atStart => exact ⟨0, min (u + 1) most, t, by omega, by omega, rfl, HF, HS⟩
  case round =>
   obtain ⟨kk, r, tk, hkr, hrg, rfl, HFL, HSr⟩ := hrel
   rcases r with _ | r
   ·have hf := HFL.out
    rw [hangL] at hf
    obtain rfl := Option.some.inj hf
    have HST := Aside0.mk HSr.out
    by_cases hle : (kk : Int) ≤ (u : Int)
    ·have hlt : ¬ (kk : Int) < (most : Int) := by omega
     have d1 : decide ((kk : Int) < (most : Int)) = false := decide_eq_false hlt
     have d2 : decide ((kk : Int) ≤ (u : Int)) = true := decide_eq_true hle
     go_wp2
     go_ret
     first | exact ⟨rfl, o, HST.out, fun h => (by cases h), fun _ _ => rfl⟩ | exact ⟨rfl, HST.out⟩
    ·have d2 : decide ((kk : Int) ≤ (u : Int)) = false := decide_eq_false hle
     go_wp2
     go_ret
     first | exact ⟨rfl, o, HST.out, fun h => (by cases h), fun _ _ => rfl⟩ | exact ⟨rfl, HST.out⟩
   ·have hle : (kk : Int) ≤ (u : Int) := by omega
    have hlt : (kk : Int) < (most : Int) := by omega
    have d1 : decide ((kk : Int) < (most : Int)) = true := decide_eq_true hlt
    have d2 : decide ((kk : Int) ≤ (u : Int)) = true := decide_eq_true hle
    have hf := HFL.out
    rw [hangL] at hf
    obtain ⟨x1, hst, hrest⟩ := Option.bind_eq_some_iff.mp hf
    obtain ⟨b, hb, hs1⟩ := Option.bind_eq_some_iff.mp hst
    unfold fitT at hb
    obtain ⟨z, hz, hb⟩ := Option.bind_eq_some_iff.mp hb
    by_cases hzl : z.length ≤ 1048576
    case neg => rw [if_neg hzl] at hb; cases hb
    rw [if_pos hzl] at hb
    obtain ⟨v, hblk, hRr⟩ := HSr.out.hb
    obtain ⟨A, c, rfl, hoc, hCr⟩ := Kd.R_reads hRr
    have hr1r := Kd.C_below HRW.out HSr.out.bel
    obtain ⟨ad, e3, hx0, hx1⟩ := at_T38 hr1r (o.length : Int) (by omega) (by have := HOLT.out; omega)
    cases e3
    obtain ⟨y, hy⟩ : ∃ y, rd_T38 l1 (o.length : Int) = y := ⟨_, rfl⟩
    rw [hy] at hb hx0 hx1
    simp only [Int.toNat_natCast] at hx0 hx1
    obtain ⟨zy, hzy⟩ : ∃ zy, z ++ [y] = zy := ⟨_, rfl⟩
    rw [hzy] at hb
    have q0 : wr.cell? ⟨gs, 0, none⟩ = some (.int .i16 a0) := (blk_cell hblk 0).trans rfl
    have q1 : wr.cell? ⟨gs, 1, none⟩ = some (.int .i16 a1) := (blk_cell hblk 1).trans rfl
    have q2 : wr.cell? ⟨gs, 2, none⟩ = some (.slice (some ad) l1.length c1) := (blk_cell hblk 2).trans rfl
    have q3 : wr.cell? ⟨gs, 3, none⟩ = some (.slice A o.length c) := (blk_cell hblk 3).trans rfl
    have hol := HOLT.out
    have holi : (o.length : Int) < (l1.length : Int) := by omega
    have LG := Aside0.mk (show gs < wr.heap.size from blk_lt hblk)
    have LW := Aside0.mk (show W0.heap.size ≤ wr.heap.size from HSr.out.bel.size)
    have HZY := Aside0.mk hzy
    have HZL := Aside0.mk hzl
    have HLD := Aside0.mk hb
    have HW := Aside0.mk hz
    have HR2 := Aside0.mk hr1r
    have HCr := Aside0.mk hCr
    have HRr := Aside0.mk hRr
    have HBK := Aside0.mk hblk
    have HREST := Aside0.mk hrest
    have HWK := Aside0.mk (show IntKind.i64.wrap ((kk : Int) + 1) = (kk : Int) + 1 from IntWalk.i64_in _ (by omega))
    have HMX := Aside0.mk (show spec_l00Max.f (u : Int) ((kk : Int) + 1) = some ((max u (kk + 1) : Nat) : Int) from by unfold spec_l00Max.f; split <;> (congr 1; omega))
    clear hzy hzl hb hz hr1r hCr hrest hy hRr hblk hst hf hol
    cases b with
    | false =>
     rw [if_pos rfl] at hs1
     obtain rfl := Option.some.inj hs1
     have HRE := Aside0.mk ((if_neg (by simp)).symm.trans HREST.out)
     clear hs1
     go_wp2
     go_region_held3 (fun w' => w'.cell? ⟨gs, 0, none⟩ = some (.int .i16 a0) ∧ w'.cell? ⟨gs, 1, none⟩ = some (.int .i16 a1) ∧ w'.cell? ⟨gs, 2, none⟩ = some (.slice (some ad) l1.length c1) ∧ w'.cell? ⟨gs, 3, none⟩ = some (.slice A o.length c) ∧ w'.cell? (ad.add (o.length * 2)) = some (.int .i16 y.f0) ∧ w'.cell? ⟨(ad.add (o.length * 2)).block, (ad.add (o.length * 2)).off + 1, none⟩ = some (.int .i16 y.f1))
      (first | go_keep | exact ⟨pw_cell_below hb1 (by assumption), pw_cell_below hb1 (by assumption), pw_cell_below hb1 (by assumption), pw_cell_below hb1 (by assumption), pw_cell_below hb1 (by assumption), pw_cell_below hb1 (by assumption)⟩ | exact ⟨pw_cell_below hb1 (pw_cell_below (below_alloc (Below.refl _ _) _) (by assumption)), pw_cell_below hb1 (pw_cell_below (below_alloc (Below.refl _ _) _) (by assumption)), pw_cell_below hb1 (pw_cell_below (below_alloc (Below.refl _ _) _) (by assumption)), pw_cell_below hb1 (pw_cell_below (below_alloc (Below.refl _ _) _) (by assumption)), pw_cell_below hb1 (pw_cell_below (below_alloc (Below.refl _ _) _) (by assumption)), pw_cell_below hb1 (pw_cell_below (below_alloc (Below.refl _ _) _) (by assumption))⟩ | exact ⟨pw_cell_below (below_alloc (Below.refl _ _) _) (by assumption), pw_cell_below (below_alloc (Below.refl _ _) _) (by assumption), pw_cell_below (below_alloc (Below.refl _ _) _) (by assumption), pw_cell_below (below_alloc (Below.refl _ _) _) (by assumption), pw_cell_below (below_alloc (Below.refl _ _) _) (by assumption), pw_cell_below (below_alloc (Below.refl _ _) _) (by assumption)⟩ | exact ⟨pw_cell_below (below_alloc (Below.refl _ _) _) (pw_cell_below hb1 (by assumption)), pw_cell_below (below_alloc (Below.refl _ _) _) (pw_cell_below hb1 (by assumption)), pw_cell_below (below_alloc (Below.refl _ _) _) (pw_cell_below hb1 (by assumption)), pw_cell_below (below_alloc (Below.refl _ _) _) (pw_cell_below hb1 (by assumption)), pw_cell_below (below_alloc (Below.refl _ _) _) (pw_cell_below hb1 (by assumption)), pw_cell_below (below_alloc (Below.refl _ _) _) (pw_cell_below hb1 (by assumption))⟩ | exact ⟨pw_cell_below hb2 (by assumption), pw_cell_below hb2 (by assumption), pw_cell_below hb2 (by assumption), pw_cell_below hb2 (by assumption), pw_cell_below hb2 (by assumption), pw_cell_below hb2 (by assumption)⟩ | exact ⟨pw_cell_below hb3 (pw_cell_below hb2 (by assumption)), pw_cell_below hb3 (pw_cell_below hb2 (by assumption)), pw_cell_below hb3 (pw_cell_below hb2 (by assumption)), pw_cell_below hb3 (pw_cell_below hb2 (by assumption)), pw_cell_below hb3 (pw_cell_below hb2 (by assumption)), pw_cell_below hb3 (pw_cell_below hb2 (by assumption))⟩)
      (first
       | (go_at_call 80; refine (spec_l02On.calls K (some ad) c1 l1 A c o (kk : Int) z _ (Kd.C_below HR2.out (by repeat (first | exact Below.refl _ _ | apply pw_below_drewN | apply below_drew | apply below_alloc))) hc1 (Kd.C_below HCr.out (by repeat (first | exact Below.refl _ _ | apply pw_below_drewN | apply below_drew | apply below_alloc))) hoc HW.out).mono ?_; rintro e w1 ⟨v1, rfl, ho1, hb1⟩)
       | (have HB_ : Below wr.heap.size wr (w1.alloc (.cells #[.int .i16 y.f0, .int .i16 y.f1] 38)) := (by repeat (first | exact Below.refl _ _ | apply pw_below_drewN | apply below_drew | apply below_alloc | refine below_step ?_ hb1)); have HO_ : Kd.R k38 38 (w1.alloc (.cells #[.int .i16 y.f0, .int .i16 y.f1] 38)) wr.heap.size (fun _ => True) v1 z := (Kd.R_lower (Kd.R_below ho1 (below_alloc (Below.refl _ _) _)) (below_size (by repeat (first | exact Below.refl _ _ | apply below_alloc | apply pw_below_drewN | apply below_drew)))); have HR_ : Kd.C k38 (w1.alloc (.cells #[.int .i16 y.f0, .int .i16 y.f1] 38)) _ [y].length [y] := (by repeat (first | exact C_newT _ y | (with_reducible refine Kd.C_drewN ?_ _) | (with_reducible refine Kd.C_drew ?_))); refine Kd.R_append_rows_step k38 (w0 := wr) wr.heap.size ?hw (.tmp 45) (.tmp 53) 24 38 (.agg #[.int .i16 0, .int .i16 0]) 4 rfl Try.underlying24 info38 rfl (by decide) (by omega) v1 z [y] _ _ _ (fun _ => True) (fun _ => False) rfl rfl HO_ HR_ (fun _ _ h => h) (fun _ h => h.elim) (fun _ _ => trivial) HB_ HB_.size (by have := HZL.out; simp; omega) ?_; (case hw => first | rfl | kernel_rfl | decide); clear HO_ HR_ HB_; intro v2 w2 ho2 hb2 _ _; rw [HZY.out] at ho2; obtain ⟨B2, d2, rfl, hd2, hC2⟩ := Kd.R_reads ho2)
       | (have HB_ : Below wr.heap.size wr (w1) := (by repeat (first | exact Below.refl _ _ | apply pw_below_drewN | apply below_drew | apply below_alloc | refine below_step ?_ hb1)); have HO_ : Kd.R k38 38 (w1) wr.heap.size (fun _ => True) v1 z := (Kd.R_lower ho1 (below_size (by repeat (first | exact Below.refl _ _ | apply below_alloc | apply pw_below_drewN | apply below_drew)))); have HR_ : Kd.C k38 (w1) _ [y].length [y] := (Kd.C_below (by repeat (first | exact C_newT _ y | (with_reducible refine Kd.C_drewN ?_ _) | (with_reducible refine Kd.C_drew ?_))) hb1); refine Kd.R_append_rows_step k38 (w0 := wr) wr.heap.size ?hw (.tmp 45) (.tmp 53) 24 38 (.agg #[.int .i16 0, .int .i16 0]) 4 rfl Try.underlying24 info38 rfl (by decide) (by omega) v1 z [y] _ _ _ (fun _ => True) (fun _ => False) rfl rfl HO_ HR_ (fun _ _ h => h) (fun _ h => h.elim) (fun _ _ => trivial) HB_ HB_.size (by have := HZL.out; simp; omega) ?_; (case hw => first | rfl | kernel_rfl | decide); clear HO_ HR_ HB_; intro v2 w2 ho2 hb2 _ _; rw [HZY.out] at ho2; obtain ⟨B2, d2, rfl, hd2, hC2⟩ := Kd.R_reads ho2)
       | (go_at_call 79; refine (spec_l02Fits.calls K a0 a1 B2 d2 zy false _ hC2 hd2 HLD.out).mono ?_; rintro e w3 ⟨rfl, hb3⟩))
     all_goals
      have HB3 := Aside0.mk (below_step hb2 hb3)
      clear hb1 hb2 hb3 hC2 ho1
      go_wp2
      go_roundg r
      case measure => omega
      case rel => exact ⟨kk + 1, r, tk, by omega, by omega, by go_num, HRE, ⟨HSr.out.below HB3.out⟩⟩
    | true =>
     rw [if_neg (by decide)] at hs1
     go_wp2
     go_region_held3 (fun w' => w'.cell? ⟨gs, 0, none⟩ = some (.int .i16 a0) ∧ w'.cell? ⟨gs, 1, none⟩ = some (.int .i16 a1) ∧ w'.cell? ⟨gs, 2, none⟩ = some (.slice (some ad) l1.length c1) ∧ w'.cell? ⟨gs, 3, none⟩ = some (.slice A o.length c) ∧ w'.cell? (ad.add (o.length * 2)) = some (.int .i16 y.f0) ∧ w'.cell? ⟨(ad.add (o.length * 2)).block, (ad.add (o.length * 2)).off + 1, none⟩ = some (.int .i16 y.f1))
      (first | go_keep | exact ⟨pw_cell_below hb1 (by assumption), pw_cell_below hb1 (by assumption), pw_cell_below hb1 (by assumption), pw_cell_below hb1 (by assumption), pw_cell_below hb1 (by assumption), pw_cell_below hb1 (by assumption)⟩ | exact ⟨pw_cell_below hb1 (pw_cell_below (below_alloc (Below.refl _ _) _) (by assumption)), pw_cell_below hb1 (pw_cell_below (below_alloc (Below.refl _ _) _) (by assumption)), pw_cell_below hb1 (pw_cell_below (below_alloc (Below.refl _ _) _) (by assumption)), pw_cell_below hb1 (pw_cell_below (below_alloc (Below.refl _ _) _) (by assumption)), pw_cell_below hb1 (pw_cell_below (below_alloc (Below.refl _ _) _) (by assumption)), pw_cell_below hb1 (pw_cell_below (below_alloc (Below.refl _ _) _) (by assumption))⟩ | exact ⟨pw_cell_below (below_alloc (Below.refl _ _) _) (by assumption), pw_cell_below (below_alloc (Below.refl _ _) _) (by assumption), pw_cell_below (below_alloc (Below.refl _ _) _) (by assumption), pw_cell_below (below_alloc (Below.refl _ _) _) (by assumption), pw_cell_below (below_alloc (Below.refl _ _) _) (by assumption), pw_cell_below (below_alloc (Below.refl _ _) _) (by assumption)⟩ | exact ⟨pw_cell_below (below_alloc (Below.refl _ _) _) (pw_cell_below hb1 (by assumption)), pw_cell_below (below_alloc (Below.refl _ _) _) (pw_cell_below hb1 (by assumption)), pw_cell_below (below_alloc (Below.refl _ _) _) (pw_cell_below hb1 (by assumption)), pw_cell_below (below_alloc (Below.refl _ _) _) (pw_cell_below hb1 (by assumption)), pw_cell_below (below_alloc (Below.refl _ _) _) (pw_cell_below hb1 (by assumption)), pw_cell_below (below_alloc (Below.refl _ _) _) (pw_cell_below hb1 (by assumption))⟩ | exact ⟨pw_cell_below hb2 (by assumption), pw_cell_below hb2 (by assumption), pw_cell_below hb2 (by assumption), pw_cell_below hb2 (by assumption), pw_cell_below hb2 (by assumption), pw_cell_below hb2 (by assumption)⟩ | exact ⟨pw_cell_below hb3 (pw_cell_below hb2 (by assumption)), pw_cell_below hb3 (pw_cell_below hb2 (by assumption)), pw_cell_below hb3 (pw_cell_below hb2 (by assumption)), pw_cell_below hb3 (pw_cell_below hb2 (by assumption)), pw_cell_below hb3 (pw_cell_below hb2 (by assumption)), pw_cell_below hb3 (pw_cell_below hb2 (by assumption))⟩)
      (first
       | (go_at_call 80; refine (spec_l02On.calls K (some ad) c1 l1 A c o (kk : Int) z _ (Kd.C_below HR2.out (by repeat (first | exact Below.refl _ _ | apply pw_below_drewN | apply below_drew | apply below_alloc))) hc1 (Kd.C_below HCr.out (by repeat (first | exact Below.refl _ _ | apply pw_below_drewN | apply below_drew | apply below_alloc))) hoc HW.out).mono ?_; rintro e w1 ⟨v1, rfl, ho1, hb1⟩)
       | (have HB_ : Below wr.heap.size wr (w1.alloc (.cells #[.int .i16 y.f0, .int .i16 y.f1] 38)) := (by repeat (first | exact Below.refl _ _ | apply pw_below_drewN | apply below_drew | apply below_alloc | refine below_step ?_ hb1)); have HO_ : Kd.R k38 38 (w1.alloc (.cells #[.int .i16 y.f0, .int .i16 y.f1] 38)) wr.heap.size (fun _ => True) v1 z := (Kd.R_lower (Kd.R_below ho1 (below_alloc (Below.refl _ _) _)) (below_size (by repeat (first | exact Below.refl _ _ | apply below_alloc | apply pw_below_drewN | apply below_drew)))); have HR_ : Kd.C k38 (w1.alloc (.cells #[.int .i16 y.f0, .int .i16 y.f1] 38)) _ [y].length [y] := (by repeat (first | exact C_newT _ y | (with_reducible refine Kd.C_drewN ?_ _) | (with_reducible refine Kd.C_drew ?_))); refine Kd.R_append_rows_step k38 (w0 := wr) wr.heap.size ?hw (.tmp 45) (.tmp 53) 24 38 (.agg #[.int .i16 0, .int .i16 0]) 4 rfl Try.underlying24 info38 rfl (by decide) (by omega) v1 z [y] _ _ _ (fun _ => True) (fun _ => False) rfl rfl HO_ HR_ (fun _ _ h => h) (fun _ h => h.elim) (fun _ _ => trivial) HB_ HB_.size (by have := HZL.out; simp; omega) ?_; (case hw => first | rfl | kernel_rfl | decide); clear HO_ HR_ HB_; intro v2 w2 ho2 hb2 _ _; rw [HZY.out] at ho2; obtain ⟨B2, d2, rfl, hd2, hC2⟩ := Kd.R_reads ho2)
       | (have HB_ : Below wr.heap.size wr (w1) := (by repeat (first | exact Below.refl _ _ | apply pw_below_drewN | apply below_drew | apply below_alloc | refine below_step ?_ hb1)); have HO_ : Kd.R k38 38 (w1) wr.heap.size (fun _ => True) v1 z := (Kd.R_lower ho1 (below_size (by repeat (first | exact Below.refl _ _ | apply below_alloc | apply pw_below_drewN | apply below_drew)))); have HR_ : Kd.C k38 (w1) _ [y].length [y] := (Kd.C_below (by repeat (first | exact C_newT _ y | (with_reducible refine Kd.C_drewN ?_ _) | (with_reducible refine Kd.C_drew ?_))) hb1); refine Kd.R_append_rows_step k38 (w0 := wr) wr.heap.size ?hw (.tmp 45) (.tmp 53) 24 38 (.agg #[.int .i16 0, .int .i16 0]) 4 rfl Try.underlying24 info38 rfl (by decide) (by omega) v1 z [y] _ _ _ (fun _ => True) (fun _ => False) rfl rfl HO_ HR_ (fun _ _ h => h) (fun _ h => h.elim) (fun _ _ => trivial) HB_ HB_.size (by have := HZL.out; simp; omega) ?_; (case hw => first | rfl | kernel_rfl | decide); clear HO_ HR_ HB_; intro v2 w2 ho2 hb2 _ _; rw [HZY.out] at ho2; obtain ⟨B2, d2, rfl, hd2, hC2⟩ := Kd.R_reads ho2)
       | (go_at_call 79; refine (spec_l02Fits.calls K a0 a1 B2 d2 zy true _ hC2 hd2 HLD.out).mono ?_; rintro e w3 ⟨rfl, hb3⟩))
     all_goals
      have HB3 := Aside0.mk (below_step hb2 hb3)
      clear hb1 hb2 hb3 hC2 ho1
      have hb3_ := blk_below HBK.out HB3.out
      have p3 : w3.cell? ⟨gs, 3, none⟩ = some (.slice A o.length c) := (blk_cell hb3_ 3).trans rfl
      have p4 : w3.cell? ⟨gs, 4, none⟩ = some (.int .i64 bud) := (blk_cell hb3_ 4).trans rfl
      have p5 : w3.cell? ⟨gs, 5, none⟩ = some (.int .i64 tk) := (blk_cell hb3_ 5).trans rfl
      have f5 := blk_frozen hb3_ 5
      have htk := HSr.out.ht
      clear hb3_
      by_cases htb : tk = bud
      ·rw [if_pos htb] at hs1
       obtain rfl := Option.some.inj hs1
       have HXX := Aside0.mk (Option.some.inj ((if_pos (Or.inr rfl)).symm.trans HREST.out))
       have g1 : (tk == bud) = true := by simp [htb]
       clear hs1
       go_wp2
       go_quiet (fail)
       go_wp2
       go_ret
       obtain rfl := HXX.out
       exact ⟨rfl, o, (HSr.out.below HB3.out).below (pw_below_drewN (Below.refl _ _) _), fun h => (by cases h), fun _ h => (by cases h)⟩
      ·rw [if_neg htb] at hs1
       have HX1 := Aside0.mk hs1
       have g1 : (tk == bud) = false := by simp [htb]
       have htk1 : tk < bud := by omega
       clear hs1
       obtain ⟨htk0, _⟩ := htk
       obtain ⟨xo, xok, xt, xov⟩ := x1
       have HOLE := Aside0.mk (show kk ≤ u by omega)
       go_wp2
       go_quiet (fail)
       rename_i nq
       have HS2 := Aside0.mk (((HSr.out.below HB3.out).below (pw_below_drewN (Below.refl _ _) nq)).next HG.out htk1)
       have HBX := Aside0.mk (putT5 (blk_below (blk_below HBK.out HB3.out) (pw_below_drewN (Below.refl _ _) nq)) (.int .i64 (tk + 1)))
       have HRX := Aside0.mk (Kd.R_kept (Kd.R_below (Kd.R_below HRr.out HB3.out) (pw_below_drewN (Below.refl _ _) nq)) (keptH (Kept.refl (w3.drewN nq) (fun k => k = gs)) 5 (.int .i64 (tk + 1))) (fun k hk hS => hk hS))
       have y3 : ((w3.drewN nq).setCell ⟨gs, 5, none⟩ (.int .i64 (tk + 1))).cell? ⟨gs, 3, none⟩ = some (.slice A o.length c) := (blk_cell HBX.out 3).trans rfl
       cases xok with
       | true =>
        have HXX := Aside0.mk (Option.some.inj ((if_pos (Or.inl rfl)).symm.trans HREST.out))
        have ho_ : outT (xo, true, xt, xov) = 1 := rfl
        go_wp2_with (first | ((with_reducible refine gate_dst (N := 79) rfl ?_); refine Kd.R_lit (Kd.int .i64) _ 2 ?hg (N := 79) ?hd (xs := ([(kk : Int)] : List Int)) (inner := [.int .i64 (kk : Int)]) (ok := fun _ => True) (okp := fun _ => True) ?hr ?hp (fun _ hk => hk) trivial (Below.refl _ _) (Nat.le_refl _) (by simp) ?_; (case hd => rfl); (case hg => rfl); (case hr => first | (go_simp; done) | (go_simp; rfl)); (case hp => exact (Reps.one (show Kd.M (Kd.int .i64) _ _ _ (kk : Int) [.int .i64 (kk : Int)] from rfl) (Reps.none _ _))); intro v4 w4 ho4 hb4 hg_ hnew_; clear hg_ hnew_; obtain ⟨B4, d4, rfl, hd4, hC4⟩ := Kd.R_reads ho4; have HC4 := Aside0.mk hC4; have HO4 := Aside0.mk (Kd.R_below HRX.out hb4); have HB4 := Aside0.mk (below_step HS2.out.bel hb4); have HBK4 := Aside0.mk (blk_below HBX.out hb4); clear ho4 hb4 hC4 hd4) | ((with_reducible refine gate_builtin (b := .append) (xs := #[.tmp 77, .tmp 79]) rfl ?_); at_builtin; (refine Kd.R_append_rows (Kd.int .i64) (w0 := W0) W0.heap.size rfl (.tmp 77) (.tmp 79) 30 2 (.int .i64 0) 8 rfl Try.underlying30 info2 rfl (by decide) (by omega) (.slice A o.length c) o [(kk : Int)] _ _ _ (fun k => k ≠ gs) (fun _ => False) rfl rfl HO4.out HC4.out (fun _ _ h => h) (fun _ h => h.elim) (fun k_ hk => by have := blk_lt HBK4.out; omega) HB4.out HB4.out.size (by have := HOL.out; simp; omega) ?_; intro v5 w5 ho5 hb5 hg5 _; have b5 : w5.heap[gs]? = _ := (hg5.block gs (blk_lt HBK4.out) (fun he => HO4.out.1 _ he.symm rfl)).trans HBK4.out; obtain ⟨oo, hoo⟩ : ∃ oo, o ++ [(kk : Int)] = oo := ⟨_, rfl⟩; have hool : oo.length = o.length + 1 := (by rw [← hoo]; simp); rw [hoo] at ho5; obtain ⟨A5, c5, rfl, hc5, hC5⟩ := Kd.R_reads ho5; have z3 : w5.cell? ⟨gs, 3, none⟩ = some (.slice A o.length c) := (blk_cell b5 3).trans rfl; have z3f := blk_frozen b5 3; have HS6 := Aside0.mk (show StT W0 gs a0 a1 l1 (some ad) c1 bud (w5.setCell ⟨gs, 3, none⟩ (.slice A5 oo.length c5)) oo (tk + 1) from ⟨below_set hb5 HG.out, ⟨_, putT3 b5 _, Kd.R_kept ho5 (keptH (Kept.refl w5 (fun k => k = gs)) 3 _) (fun k hk hS => hk hS)⟩, HS2.out.ht⟩); have HOO := Aside0.mk hoo; have HOOL := Aside0.mk hool; clear ho5 hb5 hg5 b5 hC5 hoo hool)) | (go_at_call 81; (first | rw [HWK.out] | skip); refine (spec_l00Max.calls (u : Int) ((kk : Int) + 1) ((max u (kk + 1) : Nat) : Int) _ HMX.out).mono ?_; rintro e w9 ⟨rfl, ⟨nd, rfl⟩⟩) | (go_at_call 86; (refine (IH.out _ oo (max u (kk + 1)) (tk + 1) (xo, true, xt, xov) (by have := HD.out; have := HOOL.out; omega) (by have := HUU.out; have := HOOL.out; have := HOLE.out; omega) (HS6.out.below (pw_below_drewN (Below.refl _ _) nd)) (HOO.out ▸ HX1.out)).mono ?_; rintro e w10 ⟨rfl, o10, hs10, hf10, hn10⟩; have HS10 := Aside0.mk hs10; have HF10 := Aside0.mk hf10; have HN10 := Aside0.mk hn10; clear hs10 hf10 hn10)))
        go_ret
        obtain rfl := HXX.out
        exact ⟨rfl, o10, HS10.out, fun _ => (by first | exact HF10.out rfl | exact HF10.out trivial | exact HF10.out), fun h => (by cases h)⟩
       | false =>
        cases xov with
        | true =>
         have HXX := Aside0.mk (Option.some.inj ((if_pos (Or.inr rfl)).symm.trans HREST.out))
         have ho_ : outT (xo, false, xt, true) = -1 := rfl
         go_wp2_with (first | ((with_reducible refine gate_dst (N := 79) rfl ?_); refine Kd.R_lit (Kd.int .i64) _ 2 ?hg (N := 79) ?hd (xs := ([(kk : Int)] : List Int)) (inner := [.int .i64 (kk : Int)]) (ok := fun _ => True) (okp := fun _ => True) ?hr ?hp (fun _ hk => hk) trivial (Below.refl _ _) (Nat.le_refl _) (by simp) ?_; (case hd => rfl); (case hg => rfl); (case hr => first | (go_simp; done) | (go_simp; rfl)); (case hp => exact (Reps.one (show Kd.M (Kd.int .i64) _ _ _ (kk : Int) [.int .i64 (kk : Int)] from rfl) (Reps.none _ _))); intro v4 w4 ho4 hb4 hg_ hnew_; clear hg_ hnew_; obtain ⟨B4, d4, rfl, hd4, hC4⟩ := Kd.R_reads ho4; have HC4 := Aside0.mk hC4; have HO4 := Aside0.mk (Kd.R_below HRX.out hb4); have HB4 := Aside0.mk (below_step HS2.out.bel hb4); have HBK4 := Aside0.mk (blk_below HBX.out hb4); clear ho4 hb4 hC4 hd4) | ((with_reducible refine gate_builtin (b := .append) (xs := #[.tmp 77, .tmp 79]) rfl ?_); at_builtin; (refine Kd.R_append_rows (Kd.int .i64) (w0 := W0) W0.heap.size rfl (.tmp 77) (.tmp 79) 30 2 (.int .i64 0) 8 rfl Try.underlying30 info2 rfl (by decide) (by omega) (.slice A o.length c) o [(kk : Int)] _ _ _ (fun k => k ≠ gs) (fun _ => False) rfl rfl HO4.out HC4.out (fun _ _ h => h) (fun _ h => h.elim) (fun k_ hk => by have := blk_lt HBK4.out; omega) HB4.out HB4.out.size (by have := HOL.out; simp; omega) ?_; intro v5 w5 ho5 hb5 hg5 _; have b5 : w5.heap[gs]? = _ := (hg5.block gs (blk_lt HBK4.out) (fun he => HO4.out.1 _ he.symm rfl)).trans HBK4.out; obtain ⟨oo, hoo⟩ : ∃ oo, o ++ [(kk : Int)] = oo := ⟨_, rfl⟩; have hool : oo.length = o.length + 1 := (by rw [← hoo]; simp); rw [hoo] at ho5; obtain ⟨A5, c5, rfl, hc5, hC5⟩ := Kd.R_reads ho5; have z3 : w5.cell? ⟨gs, 3, none⟩ = some (.slice A o.length c) := (blk_cell b5 3).trans rfl; have z3f := blk_frozen b5 3; have HS6 := Aside0.mk (show StT W0 gs a0 a1 l1 (some ad) c1 bud (w5.setCell ⟨gs, 3, none⟩ (.slice A5 oo.length c5)) oo (tk + 1) from ⟨below_set hb5 HG.out, ⟨_, putT3 b5 _, Kd.R_kept ho5 (keptH (Kept.refl w5 (fun k => k = gs)) 3 _) (fun k hk hS => hk hS)⟩, HS2.out.ht⟩); have HOO := Aside0.mk hoo; have HOOL := Aside0.mk hool; clear ho5 hb5 hg5 b5 hC5 hoo hool)) | (go_at_call 81; (first | rw [HWK.out] | skip); refine (spec_l00Max.calls (u : Int) ((kk : Int) + 1) ((max u (kk + 1) : Nat) : Int) _ HMX.out).mono ?_; rintro e w9 ⟨rfl, ⟨nd, rfl⟩⟩) | (go_at_call 86; (refine (IH.out _ oo (max u (kk + 1)) (tk + 1) (xo, false, xt, true) (by have := HD.out; have := HOOL.out; omega) (by have := HUU.out; have := HOOL.out; have := HOLE.out; omega) (HS6.out.below (pw_below_drewN (Below.refl _ _) nd)) (HOO.out ▸ HX1.out)).mono ?_; rintro e w10 ⟨rfl, o10, hs10, hf10, hn10⟩; have HS10 := Aside0.mk hs10; have HF10 := Aside0.mk hf10; have HN10 := Aside0.mk hn10; clear hs10 hf10 hn10)))
         go_ret
         obtain rfl := HXX.out
         exact ⟨rfl, o10, HS10.out, fun h => (by cases h), fun _ h => (by cases h)⟩
        | false =>
         have HRE := Aside0.mk ((if_neg (by simp)).symm.trans HREST.out)
         have ho_ : outT (xo, false, xt, false) = 0 := rfl
         go_wp2_with (first | ((with_reducible refine gate_dst (N := 79) rfl ?_); refine Kd.R_lit (Kd.int .i64) _ 2 ?hg (N := 79) ?hd (xs := ([(kk : Int)] : List Int)) (inner := [.int .i64 (kk : Int)]) (ok := fun _ => True) (okp := fun _ => True) ?hr ?hp (fun _ hk => hk) trivial (Below.refl _ _) (Nat.le_refl _) (by simp) ?_; (case hd => rfl); (case hg => rfl); (case hr => first | (go_simp; done) | (go_simp; rfl)); (case hp => exact (Reps.one (show Kd.M (Kd.int .i64) _ _ _ (kk : Int) [.int .i64 (kk : Int)] from rfl) (Reps.none _ _))); intro v4 w4 ho4 hb4 hg_ hnew_; clear hg_ hnew_; obtain ⟨B4, d4, rfl, hd4, hC4⟩ := Kd.R_reads ho4; have HC4 := Aside0.mk hC4; have HO4 := Aside0.mk (Kd.R_below HRX.out hb4); have HB4 := Aside0.mk (below_step HS2.out.bel hb4); have HBK4 := Aside0.mk (blk_below HBX.out hb4); clear ho4 hb4 hC4 hd4) | ((with_reducible refine gate_builtin (b := .append) (xs := #[.tmp 77, .tmp 79]) rfl ?_); at_builtin; (refine Kd.R_append_rows (Kd.int .i64) (w0 := W0) W0.heap.size rfl (.tmp 77) (.tmp 79) 30 2 (.int .i64 0) 8 rfl Try.underlying30 info2 rfl (by decide) (by omega) (.slice A o.length c) o [(kk : Int)] _ _ _ (fun k => k ≠ gs) (fun _ => False) rfl rfl HO4.out HC4.out (fun _ _ h => h) (fun _ h => h.elim) (fun k_ hk => by have := blk_lt HBK4.out; omega) HB4.out HB4.out.size (by have := HOL.out; simp; omega) ?_; intro v5 w5 ho5 hb5 hg5 _; have b5 : w5.heap[gs]? = _ := (hg5.block gs (blk_lt HBK4.out) (fun he => HO4.out.1 _ he.symm rfl)).trans HBK4.out; obtain ⟨oo, hoo⟩ : ∃ oo, o ++ [(kk : Int)] = oo := ⟨_, rfl⟩; have hool : oo.length = o.length + 1 := (by rw [← hoo]; simp); rw [hoo] at ho5; obtain ⟨A5, c5, rfl, hc5, hC5⟩ := Kd.R_reads ho5; have z3 : w5.cell? ⟨gs, 3, none⟩ = some (.slice A o.length c) := (blk_cell b5 3).trans rfl; have z3f := blk_frozen b5 3; have HS6 := Aside0.mk (show StT W0 gs a0 a1 l1 (some ad) c1 bud (w5.setCell ⟨gs, 3, none⟩ (.slice A5 oo.length c5)) oo (tk + 1) from ⟨below_set hb5 HG.out, ⟨_, putT3 b5 _, Kd.R_kept ho5 (keptH (Kept.refl w5 (fun k => k = gs)) 3 _) (fun k hk hS => hk hS)⟩, HS2.out.ht⟩); have HOO := Aside0.mk hoo; have HOOL := Aside0.mk hool; clear ho5 hb5 hg5 b5 hC5 hoo hool)) | (go_at_call 81; (first | rw [HWK.out] | skip); refine (spec_l00Max.calls (u : Int) ((kk : Int) + 1) ((max u (kk + 1) : Nat) : Int) _ HMX.out).mono ?_; rintro e w9 ⟨rfl, ⟨nd, rfl⟩⟩) | (go_at_call 86; (refine (IH.out _ oo (max u (kk + 1)) (tk + 1) (xo, false, xt, false) (by have := HD.out; have := HOOL.out; omega) (by have := HUU.out; have := HOOL.out; have := HOLE.out; omega) (HS6.out.below (pw_below_drewN (Below.refl _ _) nd)) (HOO.out ▸ HX1.out)).mono ?_; rintro e w10 ⟨rfl, o10, hs10, hf10, hn10⟩; obtain rfl : oo = o10 := (show o10 = oo from (by first | exact hn10 rfl rfl | exact hn10 trivial trivial | exact hn10)).symm; obtain ⟨v10, hblk10, hR10⟩ := hs10.hb; obtain ⟨A10, c10, rfl, hc10, _⟩ := Kd.R_reads hR10; have hln := HOOL.out; have hc10b : (o.length : Int) ≤ (c10 : Int) := (by omega); have x3 : w10.cell? ⟨gs, 3, none⟩ = some (.slice A10 oo.length c10) := (blk_cell hblk10 3).trans rfl; have x3f := blk_frozen hblk10 3; have HS10 := Aside0.mk hs10; have HR10 := Aside0.mk (Kd.R_take (m := o.length) hR10 (by omega)); clear hs10 hf10 hblk10 hR10)))
         go_roundg r
         case measure => omega
         case rel => exact ⟨kk + 1, r, xt, by omega, by omega, by go_num, HRE, ⟨by have h := HS10.out.lines HG.out HR10.out; rw [← HOO.out] at h; simpa using h⟩⟩

end Go.Proofs.Ytlkpgpnieodifaa.Fl
