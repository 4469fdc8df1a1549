/- Functions of the program as Lean functions; of each a proof that the machine's call does what its Lean function says. -/
import Derived.Test.YtlkpgpnieodifaaFl0
import Derived.Test.YtlkpgpnieodifaaFl1
import Derived.Test.YtlkpgpnieodifaaFl2
namespace Go.Proofs.Ytlkpgpnieodifaa.Fl
open Go.RowKit Go.Proofs.YtlkpgpnieodifaaW.PrintWords Go.Proofs.YtlkpgpnieodifaaW.PrintLast Go.Proofs.YtlkpgpnieodifaaW.PrintMore
attribute [local go_sem] max2_int min2_int max_two min_two max_three min_three max_four min_four   -- for this text's walks alone
set_option linter.unusedVariables false
set_option linter.unusedSimpArgs false

/-! ### impl_Line_fitsBehind: function 76 -/
def impl_Line_fitsBehind.f (a0_0 : Int) (a0_1 : Int) (l1 : List (S38)) (l2 : List Int) (a3 : Int) : Option (Bool) := (impl_withNumber_impl_Clothw.f l1 l2 a3).bind fun t158 => (if 0 ≤ (l2.length : Int) then (if (l2.length : Int) < (l1.length : Int) then ((some (([(⟨(rd_T38 l1 (l2.length : Int)).f0, (rd_T38 l1 (l2.length : Int)).f1⟩ : S38)] : List (S38)) : List (S38))).bind fun y162 => (if t158.length + y162.length < 35184372088832 then ((impl_Line_holdsw.f a0_0 a0_1 (t158 ++ y162)).bind fun t168 => (some t168)) else (none))) else (none)) else (none))
def impl_Line_fitsBehind.T1 : Bool × List (List Nat × List Nat) := (true, [([], []), ([], []), ([], []), ([], []), ([1, 2, 3], [1, 2, 3]), ([], []), ([], []), ([6], [6]), ([5, 7], [5, 7]), ([8], [8]), ([9], [9]), ([4, 10, 4], [4, 10]), ([0, 11, 11], [0, 11]), ([12, 12, 0, 1, 2, 3, 4, 5, 6, 7, 8, 9, 10, 11, 12], [12])])
def impl_Line_fitsBehind.B1 : List Nat := [0, 0, 0, 0, 14, 0, 0, 64, 224, 480, 992, 2046, 4095, 8191]
theorem impl_Line_fitsBehind.tab1 : rtab .any (opsOf Try.f76 1) = impl_Line_fitsBehind.T1 := by kernel_rfl
theorem impl_Line_fitsBehind.bits1 : waitsOk impl_Line_fitsBehind.T1.2 impl_Line_fitsBehind.B1 = true := by kernel_rfl
set_option maxHeartbeats 8000000 in
set_option maxRecDepth 100000 in
theorem impl_Line_fitsBehind.calls (a0_0 : Int) (a0_1 : Int) (A1 : Option Addr) (c1 : Nat) (l1 : List (S38)) (A2 : Option Addr) (c2 : Nat) (l2 : List Int) (a3 : Int) (r : Bool) (w : World) (hr1 : Kd.C k38 w A1 l1.length l1) (hc1 : l1.length ≤ c1) (hr2 : Kd.C (Kd.int .i64) w A2 l2.length l2) (hc2 : l2.length ≤ c2) (h : impl_Line_fitsBehind.f a0_0 a0_1 l1 l2 a3 = some r) :
  Calls Try.prog 76 #[.agg #[.int .i16 a0_0, .int .i16 a0_1], .slice A1 l1.length c1, .slice A2 l2.length c2, .int .i64 a3] w fun e w' => e = .returned (.bool r) ∧ Below w.heap.size w w' := by
 have hu28 := Try.underlying28
 have hu38 := Try.underlying38
 have HR1 := Aside0.mk hr1
 have HC1 := Aside0.mk hc1
 clear hr1 hc1
 have HR2 := Aside0.mk hr2
 have HC2 := Aside0.mk hc2
 clear hr2 hc2
 have HB := Aside0.mk (Below.refl w.heap.size w)
 have H : ((impl_withNumber_impl_Clothw.f l1 l2 a3).bind fun t158 => (if 0 ≤ (l2.length : Int) then (if (l2.length : Int) < (l1.length : Int) then ((some (([(⟨(rd_T38 l1 (l2.length : Int)).f0, (rd_T38 l1 (l2.length : Int)).f1⟩ : S38)] : List (S38)) : List (S38))).bind fun y162 => (if t158.length + y162.length < 35184372088832 then ((impl_Line_holdsw.f a0_0 a0_1 (t158 ++ y162)).bind fun t168 => (some t168)) else (none))) else (none)) else (none))) = some r := h
 clear h
 replace H := Option.bind_eq_some_iff.mp H
 obtain ⟨t158, A50, H⟩ := H
 replace H : (if 0 ≤ (l2.length : Int) then (if (l2.length : Int) < (l1.length : Int) then ((some (([(⟨(rd_T38 l1 (l2.length : Int)).f0, (rd_T38 l1 (l2.length : Int)).f1⟩ : S38)] : List (S38)) : List (S38))).bind fun y162 => (if t158.length + y162.length < 35184372088832 then ((impl_Line_holdsw.f a0_0 a0_1 (t158 ++ y162)).bind fun t168 => (some t168)) else (none))) else (none)) else (none)) = some r := H
 have A5 := Aside0.mk A50
 clear A50
 by_cases c6 : 0 ≤ (l2.length : Int)
 ·rw [if_pos c6] at H
  have c6b0 : decide (0 ≤ (l2.length : Int)) = true := decide_eq_true c6
  have c6b1 : decide (0 ≤ l2.length) = true := decide_eq_true (by omega)
  clear c6
  by_cases c7 : (l2.length : Int) < (l1.length : Int)
  ·rw [if_pos c7] at H
   have c7b0 : decide ((l2.length : Int) < (l1.length : Int)) = true := decide_eq_true c7
   have c7b1 : decide (l2.length < l1.length) = true := decide_eq_true (Int.ofNat_lt.mp c7)
   clear c7
   obtain ⟨y162, hy162⟩ : ∃ y_ : List (S38), y_ = (([(⟨(rd_T38 l1 (l2.length : Int)).f0, (rd_T38 l1 (l2.length : Int)).f1⟩ : S38)] : List (S38))) := ⟨_, rfl⟩
   replace H : (if t158.length + y162.length < 35184372088832 then ((impl_Line_holdsw.f a0_0 a0_1 (t158 ++ y162)).bind fun t168 => (some t168)) else (none)) = some r := by first | (rw [hy162]; with_reducible exact H) | (have H2_ := (Option.bind_some _ _).symm.trans H; rw [hy162]; with_reducible exact H2_) | (have H2_ := (Option.bind_some _ _).symm.trans H; with_reducible exact H2_) | with_reducible exact H | (rw [hy162]; exact H) | exact H
   have Ny162 := Aside0.mk hy162
   clear hy162
   by_cases c8 : t158.length + y162.length < 35184372088832
   ·rw [if_pos c8] at H
    have LMc8 := Aside0.mk c8
    clear c8
    obtain ⟨y165, hy165⟩ : ∃ y_ : List (S38), y_ = (t158 ++ y162) := ⟨_, rfl⟩
    replace H : ((impl_Line_holdsw.f a0_0 a0_1 y165).bind fun t168 => (some t168)) = some r := by first | (rw [hy165]; with_reducible exact H) | (have H2_ := (Option.bind_some _ _).symm.trans H; rw [hy165]; with_reducible exact H2_) | (have H2_ := (Option.bind_some _ _).symm.trans H; with_reducible exact H2_) | with_reducible exact H | (rw [hy165]; exact H) | exact H
    have Ny165 := Aside0.mk hy165
    clear hy165
    replace H := Option.bind_eq_some_iff.mp H
    obtain ⟨t168, A90, H⟩ := H
    replace H : (some t168) = some r := H
    have A9 := Aside0.mk A90
    clear A90
    obtain rfl := Option.some.inj H
    go_enter Try.func76, Try.ntmps76
    try go_wp2_with (first | ((with_reducible refine gate_dst (N := 4) rfl ?_); refine box_event ?hg (N := 4) ?hd (cs := #[.int .i16 a0_0, .int .i16 a0_1]) (t := 28) ?hr ?_; (case hd => rfl); (case hg => rfl); (case hr => first | (go_simp; done) | (go_simp; rfl)); intro gb157 hg w10 hbox hb; have n0_ := Aside0.mk (below_step (by repeat (first | (with_reducible first | exact HB.out | apply below_alloc | apply pw_below_drewN | apply below_drew1) | exact HB.out)) hb); have n1_ := Aside0.mk (hbox); have n2_ := Aside0.mk ((by rw [hg]; exact (below_size (by repeat (first | (with_reducible first | exact HB.out | apply below_alloc | apply pw_below_drewN | apply below_drew1) | exact HB.out))) : w.heap.size ≤ gb157)); have n3_ := Aside0.mk ((by rw [hg]; exact (below_size (by repeat (first | (with_reducible first | exact HB.out | apply below_alloc | apply pw_below_drewN | apply below_drew1) | exact HB.out))) : w.heap.size ≤ gb157)); clear HB; have HB := n0_; have BK157 := n1_; have GW157 := n2_; have GE157 := n3_; clear n0_ n1_ n2_ n3_; clear hb hbox hg))
    have n0_ := Aside0.mk (blk_drew BK157.out)
    have n1_ := Aside0.mk (below_drew1 HB.out)
    clear BK157
    clear HB
    have BK157 := n0_
    have HB := n1_
    clear n0_ n1_
    have p161 : 0 ≤ ((l2.length : Int) : Int) := of_decide_eq_true (by first | (with_reducible assumption) | assumption)
    have q161 : (l2.length : Int) < (l1.length : Int) := of_decide_eq_true (by first | (with_reducible assumption) | assumption)
    obtain ⟨ad161, e161, hx161_0, hx161_1⟩ := at_T38 HR1.out (l2.length : Int) p161 q161
    have hw161_1 := hx161_1
    have hw161_0 := hx161_0
    cases e161
    replace hx161_0 := (HB.out.cell (World.block_lt_of_cell? w _ hx161_0)).trans hx161_0
    replace hx161_1 := (HB.out.cell (World.block_lt_of_cell? w _ hx161_1)).trans hx161_1
    (try simp only [Go.IntWalk.toNatUp] at hx161_0)
    (try simp only [Go.IntWalk.toNatUp] at hx161_1)
    replace p161 := eq_true p161
    replace q161 := eq_true q161
    refine start_ (n := 14) (S := fun w' => w'.cell? ⟨gb157, 0, none⟩ = some (.int .i16 a0_0) ∧ w'.cell? ⟨gb157, 1, none⟩ = some (.int .i16 a0_1) ∧ w'.cell? (ad161.add (l2.length * 2)) = some (.int .i16 ((rd_T38 l1 (l2.length : Int)).f0)) ∧ w'.cell? ⟨(ad161.add (l2.length * 2)).block, (ad161.add (l2.length * 2)).off + 1, none⟩ = some (.int .i16 ((rd_T38 l1 (l2.length : Int)).f1))) (ds := []) #[false, false, false, false, false, false, false, false, false, false, false, false, false, false] (by kernel_rfl) rfl rfl ⟨(blk_cell BK157.out 0).trans rfl, (blk_cell BK157.out 1).trans rfl, ((HB.out.cell (World.block_lt_of_cell? w _ hw161_0)).trans hw161_0), ((HB.out.cell (World.block_lt_of_cell? w _ hw161_1)).trans hw161_1)⟩ (fun hHeld => ?_); refine with_tabW impl_Line_fitsBehind.tab1 impl_Line_fitsBehind.bits1 (fun HT_ HW_ => ?_)
    generalize w10.drew = w11 at BK157 HB hx161_0 hx161_1 hHeld ⊢
    refine pure_ (i := 1) (N := some 10) (v := ?_) (a' := ?_) #[false, true, false, false, false, false, false, false, false, false, false, false, false, false] rfl rfl (any_of HT_.out (by kernel_rfl)) (fun _ _ _ h => h) (Or.inl ⟨by rfl, ?_⟩) ?_ ?_
    rotate_left
    ·intro w'
     go_simp
     with_reducible rfl
    rotate_left
    ·simp only [Act.put, List.setIfInBounds_toArray, List.set_cons_zero, List.set_cons_succ, i64_w, i32_w]
     rfl
    refine pure_ (i := 2) (N := some 11) (v := ?_) (a' := ?_) #[false, true, true, false, false, false, false, false, false, false, false, false, false, false] rfl rfl (any_of HT_.out (by kernel_rfl)) (fun _ _ _ h => h) (Or.inl ⟨by rfl, ?_⟩) ?_ ?_
    rotate_left
    ·intro w'
     go_simp
     with_reducible rfl
    rotate_left
    ·simp only [Act.put, List.setIfInBounds_toArray, List.set_cons_zero, List.set_cons_succ, i64_w, i32_w]
     rfl
    refine pure_ (i := 3) (N := some 12) (v := ?_) (a' := ?_) #[false, true, true, true, false, false, false, false, false, false, false, false, false, false] rfl rfl (any_of HT_.out (by kernel_rfl)) (fun _ _ _ h => h) (Or.inl ⟨by rfl, ?_⟩) ?_ ?_
    rotate_left
    ·intro w'
     go_simp
     with_reducible rfl
    rotate_left
    ·simp only [Act.put, List.setIfInBounds_toArray, List.set_cons_zero, List.set_cons_succ, i64_w, i32_w]
     rfl
    refine pure_ (i := 5) (N := some 14) (v := ?_) (a' := ?_) #[false, true, true, true, false, true, false, false, false, false, false, false, false, false] rfl rfl (any_of HT_.out (by kernel_rfl)) (fun _ _ _ h => h) (Or.inl ⟨by rfl, ?_⟩) ?_ ?_
    rotate_left
    ·intro w'
     go_simp
     with_reducible rfl
    rotate_left
    ·simp only [Act.put, List.setIfInBounds_toArray, List.set_cons_zero, List.set_cons_succ, i64_w, i32_w]
     rfl
    refine pure_ (i := 6) (N := some 15) (v := ?_) (a' := ?_) #[false, true, true, true, false, true, true, false, false, false, false, false, false, false] rfl rfl (any_of HT_.out (by kernel_rfl)) (fun _ _ _ h => h) (Or.inl ⟨by rfl, ?_⟩) ?_ ?_
    rotate_left
    ·intro w'
     go_simp
     with_reducible rfl
    rotate_left
    ·simp only [Act.put, List.setIfInBounds_toArray, List.set_cons_zero, List.set_cons_succ, i64_w, i32_w]
     rfl
    refine pure_ (i := 7) (N := some 16) (v := ?_) (a' := ?_) #[false, true, true, true, false, true, true, true, false, false, false, false, false, false] rfl rfl (any_of HT_.out (by kernel_rfl)) (fun _ _ _ h => h) (Or.inl ⟨by rfl, ?_⟩) ?_ ?_
    rotate_left
    ·intro w'
     go_simp
     with_reducible rfl
    rotate_left
    ·simp only [Act.put, List.setIfInBounds_toArray, List.set_cons_zero, List.set_cons_succ, i64_w, i32_w]
     rfl
    refine pure_ (i := 8) (N := some 17) (v := ?_) (a' := ?_) #[false, true, true, true, false, true, true, true, true, false, false, false, false, false] rfl rfl (any_of HT_.out (by kernel_rfl)) (fun _ _ _ h => h) (Or.inl ⟨by rfl, ?_⟩) ?_ ?_
    rotate_left
    ·intro w'
     go_simp
     with_reducible rfl
    rotate_left
    ·simp only [Act.put, List.setIfInBounds_toArray, List.set_cons_zero, List.set_cons_succ, i64_w, i32_w]
     rfl
    refine take_ (i := 0) (N := some 9) (v := ?_) (a' := ?_) #[true, true, true, true, false, true, true, true, true, false, false, false, false, false] rfl rfl (take_ofW HT_.out HW_.out (by kernel_rfl)) (fun _ _ _ h => h) (Or.inl ⟨by rfl, ?_⟩) hHeld ?_ ?_
    rotate_left
    ·rintro w' ⟨s0, s1, s2, s3⟩
     go_simp
     with_reducible rfl
    rotate_left
    ·simp only [Act.put, List.setIfInBounds_toArray, List.set_cons_zero, List.set_cons_succ, i64_w, i32_w]
     rfl
    refine take_ (i := 9) (N := some 18) (v := ?_) (a' := ?_) #[true, true, true, true, false, true, true, true, true, true, false, false, false, false] rfl rfl (take_ofW HT_.out HW_.out (by kernel_rfl)) (fun _ _ _ h => h) (Or.inl ⟨by rfl, ?_⟩) hHeld ?_ ?_
    rotate_left
    ·rintro w' ⟨s0, s1, s2, s3⟩
     go_simp
     with_reducible rfl
    rotate_left
    ·simp only [Act.put, List.setIfInBounds_toArray, List.set_cons_zero, List.set_cons_succ, i64_w, i32_w]
     rfl
    refine join_ (σ := Value × Value) 3 #[true, true, true, true, true, true, true, true, true, true, true, false, false, false] (fun s_ => [(13, s_.1), (19, s_.2)]) (fun s_ w' => (w'.cell? ⟨gb157, 0, none⟩ = some (.int .i16 a0_0) ∧ w'.cell? ⟨gb157, 1, none⟩ = some (.int .i16 a0_1) ∧ w'.cell? (ad161.add (l2.length * 2)) = some (.int .i16 ((rd_T38 l1 (l2.length : Int)).f0)) ∧ w'.cell? ⟨(ad161.add (l2.length * 2)).block, (ad161.add (l2.length * 2)).off + 1, none⟩ = some (.int .i16 ((rd_T38 l1 (l2.length : Int)).f1))) ∧ (Kd.R k38 38 w' w.heap.size (fun k_ => some k_ ≠ (s_.2 : Value).ownBlock) s_.1 t158) ∧ (Kd.R k38 38 w' w.heap.size (fun k_ => some k_ ≠ (s_.1 : Value).ownBlock) s_.2 y162) ∧ (w'.heap[gb157]? = some (.cells #[.int .i16 a0_0, .int .i16 a0_1] 28 (0, 0))) ∧ (Below w.heap.size w w')) ?_ ?_
    rotate_left
    ·intro hCont
     refine two_ (i := 4) (j := 10) (Ni := some 13) (Nj := some 19) #[true, true, true, true, true, true, true, true, true, true, false, false, false, false] #[true, true, true, true, false, true, true, true, true, true, true, false, false, false] rfl rfl rfl rfl (two_of HT_.out (by kernel_rfl)) (by decide) (by decide) (fun K hK => ?_) (fun K hK => ?_)
     ·skip
      refine goes_ Try.func92 (by kernel_rfl) rfl #[.slice (some ad161) l1.length c1, .slice A2 l2.length c2, .int .i64 a3] (by rfl) rfl rfl (by (try simp only [List.map_toArray, List.map_cons, List.map_nil]); first | done | rfl | (simp only [List.length_drop, List.length_take]; rfl)) ?_
      with_reducible refine (impl_withNumber_impl_Clothw.calls _ _ l1 _ _ l2 a3 t158 _ ?side1 ?side2 ?side3 ?side4 A5.out).mono ?_
      (case side1 => repeat (first | exact (Kd.C_below HR1.out HB.out) | (with_reducible refine Kd.C_alloc ?_ _) | (with_reducible refine Kd.C_drewN ?_ _) | (with_reducible refine Kd.C_drew ?_)))
      (case side2 => exact HC1.out)
      (case side3 => repeat (first | exact (Kd.C_below HR2.out HB.out) | (with_reducible refine Kd.C_alloc ?_ _) | (with_reducible refine Kd.C_drewN ?_ _) | (with_reducible refine Kd.C_drew ?_)))
      (case side4 => exact HC2.out)
      rintro e w12 ⟨v159, rfl, ho0, hb⟩
      refine ⟨_, rfl, ?_⟩
      have n0_ := Aside0.mk (Kd.R_lower ho0 (below_size (by repeat (first | (with_reducible first | exact HB.out | apply below_alloc | apply pw_below_drewN | apply below_drew1 | refine below_set ?_ GE157.out) | exact HB.out))))
      have n1_ := Aside0.mk (blk_below (g := gb157) (o := .cells #[.int .i16 a0_0, .int .i16 a0_1] 28 (0, 0)) (by (with_reducible repeat (first | refine blk_drewN ?_ _ | refine blk_drew ?_ | refine blk_alloc ?_ _)); exact BK157.out) hb)
      have n2_ := Aside0.mk (below_step (by repeat (first | (with_reducible first | exact HB.out | apply below_alloc | apply pw_below_drewN | apply below_drew1 | refine below_set ?_ GE157.out) | exact HB.out)) hb)
      clear BK157
      clear HB
      have HO160 := n0_
      have BK157 := n1_
      have HB := n2_
      clear n0_ n1_ n2_
      (try clear hb)
      (try clear hb2)
      (try clear hk)
      (try clear hi)
      (try clear ho0)
      refine hK.out _ _ ⟨(blk_cell BK157.out 0).trans rfl, (blk_cell BK157.out 1).trans rfl, ((HB.out.cell (World.block_lt_of_cell? w _ hw161_0)).trans hw161_0), ((HB.out.cell (World.block_lt_of_cell? w _ hw161_1)).trans hw161_1)⟩ (fun hHeld => ?_)
      clear hK K
      refine norm_ (a' := ?_) ?_ ?_
      rotate_left
      ·show Act.put _ (some 13) _ = _
       simp only [Act.put, List.setIfInBounds_toArray, List.set_cons_zero, List.set_cons_succ, i64_w, i32_w]
       rfl
      refine one_ (i := 10) (N := some 19) #[true, true, true, true, true, true, true, true, true, true, true, false, false, false] rfl rfl (one_of HT_.out (by kernel_rfl)) (by decide) (fun K hK => ?_)
      refine Kd.R_lit_step k38 _ 38 ?hg (N := 19) ?hd (xs := ([(⟨(rd_T38 l1 (l2.length : Int)).f0, (rd_T38 l1 (l2.length : Int)).f1⟩ : S38)] : List (S38))) (inner := [.int .i16 ((rd_T38 l1 (l2.length : Int)).f0), .int .i16 ((rd_T38 l1 (l2.length : Int)).f1)]) (ok := fun _ => True) (okp := fun _ => True) ?hr ?hp (fun _ hk => hk) trivial (Below.refl _ _) (Nat.le_refl _) (by simp) ?_; (case hd => rfl); (case hg => rfl); (case hr => first | (go_simp; done) | (go_simp; rfl)); (case hp => exact (Reps.c2 (show Kd.M k38 _ _ _ (⟨(rd_T38 l1 (l2.length : Int)).f0, (rd_T38 l1 (l2.length : Int)).f1⟩ : S38) [.int .i16 ((rd_T38 l1 (l2.length : Int)).f0), .int .i16 ((rd_T38 l1 (l2.length : Int)).f1)] from (k38_mkM _ _ _ (⟨(rd_T38 l1 (l2.length : Int)).f0, (rd_T38 l1 (l2.length : Int)).f1⟩ : S38) )) (Reps.none _ _)))
      intro v163 w13 ho14 hb hg_ hnew_
      clear hg_ hnew_
      (first | rw [← Ny162.out] at ho14 | (simp only [Int.reduceToNat] at ho14; rw [← Ny162.out] at ho14))
      have n0_ := Aside0.mk (Kd.R_elder' (by (with_reducible repeat (first | apply Kd.R_alloc | apply Kd.R_drewN | apply Kd.R_drew)); exact HO160.out) (Kd.R_base ho14) hb)
      have n1_ := Aside0.mk (Kd.R_lower (Kd.R_new' ho14 (Kd.R_lt (by (with_reducible repeat (first | apply Kd.R_alloc | apply Kd.R_drewN | apply Kd.R_drew)); exact HO160.out))) (below_size (by repeat (first | (with_reducible first | exact HB.out | apply below_alloc | apply pw_below_drewN | apply below_drew1 | refine below_set ?_ GE157.out) | exact HB.out))))
      have n2_ := Aside0.mk (blk_below (g := gb157) (o := .cells #[.int .i16 a0_0, .int .i16 a0_1] 28 (0, 0)) (by (with_reducible repeat (first | refine blk_drewN ?_ _ | refine blk_drew ?_ | refine blk_alloc ?_ _)); exact BK157.out) hb)
      have n3_ := Aside0.mk (below_step (by repeat (first | (with_reducible first | exact HB.out | apply below_alloc | apply pw_below_drewN | apply below_drew1 | refine below_set ?_ GE157.out) | exact HB.out)) hb)
      clear HO160
      clear BK157
      clear HB
      have HO160 := n0_
      have HO164 := n1_
      have BK157 := n2_
      have HB := n3_
      clear n0_ n1_ n2_ n3_
      clear hb ho14
      refine hK.out _ _ ⟨(blk_cell BK157.out 0).trans rfl, (blk_cell BK157.out 1).trans rfl, ((HB.out.cell (World.block_lt_of_cell? w _ hw161_0)).trans hw161_0), ((HB.out.cell (World.block_lt_of_cell? w _ hw161_1)).trans hw161_1)⟩ (fun hHeld => ?_)
      clear hK K
      refine norm_ (a' := ?_) ?_ ?_
      rotate_left
      ·show Act.put _ (some 19) _ = _
       simp only [Act.put, List.setIfInBounds_toArray, List.set_cons_zero, List.set_cons_succ, i64_w, i32_w]
       rfl
      exact norm_ (by simp only [putAll, Act.put, List.setIfInBounds_toArray, List.set_cons_zero, List.set_cons_succ]) (hCont (v159, v163) _ ⟨hHeld, (by (with_reducible repeat (first | apply Kd.R_alloc | apply Kd.R_drewN | apply Kd.R_drew)); exact Kd.R_mono HO160.out (fun _ hk => hk.2)), (by (with_reducible repeat (first | apply Kd.R_alloc | apply Kd.R_drewN | apply Kd.R_drew)); exact Kd.R_mono HO164.out (fun _ hk => hk.2)), (by (with_reducible repeat (first | refine blk_drewN ?_ _ | refine blk_drew ?_ | refine blk_alloc ?_ _)); exact BK157.out), (by repeat (first | (with_reducible first | exact HB.out | apply below_alloc | apply pw_below_drewN | apply below_drew1 | refine below_set ?_ GE157.out) | exact HB.out))⟩)
     ·skip
      refine Kd.R_lit_step k38 _ 38 ?hg (N := 19) ?hd (xs := ([(⟨(rd_T38 l1 (l2.length : Int)).f0, (rd_T38 l1 (l2.length : Int)).f1⟩ : S38)] : List (S38))) (inner := [.int .i16 ((rd_T38 l1 (l2.length : Int)).f0), .int .i16 ((rd_T38 l1 (l2.length : Int)).f1)]) (ok := fun _ => True) (okp := fun _ => True) ?hr ?hp (fun _ hk => hk) trivial (Below.refl _ _) (Nat.le_refl _) (by simp) ?_; (case hd => rfl); (case hg => rfl); (case hr => first | (go_simp; done) | (go_simp; rfl)); (case hp => exact (Reps.c2 (show Kd.M k38 _ _ _ (⟨(rd_T38 l1 (l2.length : Int)).f0, (rd_T38 l1 (l2.length : Int)).f1⟩ : S38) [.int .i16 ((rd_T38 l1 (l2.length : Int)).f0), .int .i16 ((rd_T38 l1 (l2.length : Int)).f1)] from (k38_mkM _ _ _ (⟨(rd_T38 l1 (l2.length : Int)).f0, (rd_T38 l1 (l2.length : Int)).f1⟩ : S38) )) (Reps.none _ _)))
      intro v163 w12 ho13 hb hg_ hnew_
      clear hg_ hnew_
      (first | rw [← Ny162.out] at ho13 | (simp only [Int.reduceToNat] at ho13; rw [← Ny162.out] at ho13))
      have n0_ := Aside0.mk (Kd.R_lower ho13 (below_size (by repeat (first | (with_reducible first | exact HB.out | apply below_alloc | apply pw_below_drewN | apply below_drew1 | refine below_set ?_ GE157.out) | exact HB.out))))
      have n1_ := Aside0.mk (blk_below (g := gb157) (o := .cells #[.int .i16 a0_0, .int .i16 a0_1] 28 (0, 0)) (by (with_reducible repeat (first | refine blk_drewN ?_ _ | refine blk_drew ?_ | refine blk_alloc ?_ _)); exact BK157.out) hb)
      have n2_ := Aside0.mk (below_step (by repeat (first | (with_reducible first | exact HB.out | apply below_alloc | apply pw_below_drewN | apply below_drew1 | refine below_set ?_ GE157.out) | exact HB.out)) hb)
      clear BK157
      clear HB
      have HO164 := n0_
      have BK157 := n1_
      have HB := n2_
      clear n0_ n1_ n2_
      clear hb ho13
      refine hK.out _ _ ⟨(blk_cell BK157.out 0).trans rfl, (blk_cell BK157.out 1).trans rfl, ((HB.out.cell (World.block_lt_of_cell? w _ hw161_0)).trans hw161_0), ((HB.out.cell (World.block_lt_of_cell? w _ hw161_1)).trans hw161_1)⟩ (fun hHeld => ?_)
      clear hK K
      refine norm_ (a' := ?_) ?_ ?_
      rotate_left
      ·show Act.put _ (some 19) _ = _
       simp only [Act.put, List.setIfInBounds_toArray, List.set_cons_zero, List.set_cons_succ, i64_w, i32_w]
       rfl
      refine one_ (i := 4) (N := some 13) #[true, true, true, true, true, true, true, true, true, true, true, false, false, false] rfl rfl (one_of HT_.out (by kernel_rfl)) (by decide) (fun K hK => ?_)
      refine goes_ Try.func92 (by kernel_rfl) rfl #[.slice (some ad161) l1.length c1, .slice A2 l2.length c2, .int .i64 a3] (by rfl) rfl rfl (by (try simp only [List.map_toArray, List.map_cons, List.map_nil]); first | done | rfl | (simp only [List.length_drop, List.length_take]; rfl)) ?_
      with_reducible refine (impl_withNumber_impl_Clothw.calls _ _ l1 _ _ l2 a3 t158 _ ?side1 ?side2 ?side3 ?side4 A5.out).mono ?_
      (case side1 => repeat (first | exact (Kd.C_below HR1.out HB.out) | (with_reducible refine Kd.C_alloc ?_ _) | (with_reducible refine Kd.C_drewN ?_ _) | (with_reducible refine Kd.C_drew ?_)))
      (case side2 => exact HC1.out)
      (case side3 => repeat (first | exact (Kd.C_below HR2.out HB.out) | (with_reducible refine Kd.C_alloc ?_ _) | (with_reducible refine Kd.C_drewN ?_ _) | (with_reducible refine Kd.C_drew ?_)))
      (case side4 => exact HC2.out)
      rintro e w14 ⟨v159, rfl, ho0, hb⟩
      refine ⟨_, rfl, ?_⟩
      have n0_ := Aside0.mk (Kd.R_elder' (by (with_reducible repeat (first | apply Kd.R_alloc | apply Kd.R_drewN | apply Kd.R_drew)); exact HO164.out) (Kd.R_base ho0) hb)
      have n1_ := Aside0.mk (Kd.R_lower (Kd.R_new' ho0 (Kd.R_lt (by (with_reducible repeat (first | apply Kd.R_alloc | apply Kd.R_drewN | apply Kd.R_drew)); exact HO164.out))) (below_size (by repeat (first | (with_reducible first | exact HB.out | apply below_alloc | apply pw_below_drewN | apply below_drew1 | refine below_set ?_ GE157.out) | exact HB.out))))
      have n2_ := Aside0.mk (blk_below (g := gb157) (o := .cells #[.int .i16 a0_0, .int .i16 a0_1] 28 (0, 0)) (by (with_reducible repeat (first | refine blk_drewN ?_ _ | refine blk_drew ?_ | refine blk_alloc ?_ _)); exact BK157.out) hb)
      have n3_ := Aside0.mk (below_step (by repeat (first | (with_reducible first | exact HB.out | apply below_alloc | apply pw_below_drewN | apply below_drew1 | refine below_set ?_ GE157.out) | exact HB.out)) hb)
      clear HO164
      clear BK157
      clear HB
      have HO164 := n0_
      have HO160 := n1_
      have BK157 := n2_
      have HB := n3_
      clear n0_ n1_ n2_ n3_
      (try clear hb)
      (try clear hb2)
      (try clear hk)
      (try clear hi)
      (try clear ho0)
      refine hK.out _ _ ⟨(blk_cell BK157.out 0).trans rfl, (blk_cell BK157.out 1).trans rfl, ((HB.out.cell (World.block_lt_of_cell? w _ hw161_0)).trans hw161_0), ((HB.out.cell (World.block_lt_of_cell? w _ hw161_1)).trans hw161_1)⟩ (fun hHeld => ?_)
      clear hK K
      refine norm_ (a' := ?_) ?_ ?_
      rotate_left
      ·show Act.put _ (some 13) _ = _
       simp only [Act.put, List.setIfInBounds_toArray, List.set_cons_zero, List.set_cons_succ, i64_w, i32_w]
       rfl
      exact norm_ (by simp only [putAll, Act.put, List.setIfInBounds_toArray, List.set_cons_zero, List.set_cons_succ]) (hCont (v159, v163) _ ⟨hHeld, (by (with_reducible repeat (first | apply Kd.R_alloc | apply Kd.R_drewN | apply Kd.R_drew)); exact Kd.R_mono HO160.out (fun _ hk => hk.2)), (by (with_reducible repeat (first | apply Kd.R_alloc | apply Kd.R_drewN | apply Kd.R_drew)); exact Kd.R_mono HO164.out (fun _ hk => hk.2)), (by (with_reducible repeat (first | refine blk_drewN ?_ _ | refine blk_drew ?_ | refine blk_alloc ?_ _)); exact BK157.out), (by repeat (first | (with_reducible first | exact HB.out | apply below_alloc | apply pw_below_drewN | apply below_drew1 | refine below_set ?_ GE157.out) | exact HB.out))⟩)
    rintro ⟨v159, v163⟩ w15 ⟨hS_, h0_, h1_, h2_, h3_⟩
    have n0_ : Aside0 (Kd.R k38 38 w15 w.heap.size (fun k_ => some k_ ≠ (v163 : Value).ownBlock) v159 t158) := ⟨h0_⟩
    have n1_ : Aside0 (Kd.R k38 38 w15 w.heap.size (fun k_ => some k_ ≠ (v159 : Value).ownBlock) v163 y162) := ⟨h1_⟩
    have n2_ : Aside0 (w15.heap[gb157]? = some (.cells #[.int .i16 a0_0, .int .i16 a0_1] 28 (0, 0))) := ⟨h2_⟩
    have n3_ : Aside0 (Below w.heap.size w w15) := ⟨h3_⟩
    clear BK157
    clear HB
    clear h0_ h1_ h2_ h3_
    have HO160 := n0_
    have HO164 := n1_
    have BK157 := n2_
    have HB := n3_
    clear n0_ n1_ n2_ n3_
    have hHeld : w15.cell? ⟨gb157, 0, none⟩ = some (.int .i16 a0_0) ∧ w15.cell? ⟨gb157, 1, none⟩ = some (.int .i16 a0_1) ∧ w15.cell? (ad161.add (l2.length * 2)) = some (.int .i16 ((rd_T38 l1 (l2.length : Int)).f0)) ∧ w15.cell? ⟨(ad161.add (l2.length * 2)).block, (ad161.add (l2.length * 2)).off + 1, none⟩ = some (.int .i16 ((rd_T38 l1 (l2.length : Int)).f1)) := hS_
    obtain ⟨Ao17, co17, eo17⟩ := Kd.R_slice HO164.out
    (first | subst eo17 | (injection eo17 with f1_ f2_ f3_; have f4_ := f1_.symm; have f5_ := f3_.symm; clear f1_ f2_ f3_; subst f4_; subst f5_))
    refine norm_ (a' := ?_) ?_ ?_
    rotate_left
    ·simp only [putAll, Act.put, List.setIfInBounds_toArray, List.set_cons_zero, List.set_cons_succ]
     rfl
    refine one_ (i := 11) (N := some 20) #[true, true, true, true, true, true, true, true, true, true, true, true, false, false] rfl rfl (one_of HT_.out (by kernel_rfl)) (by decide) (fun K hK => ?_)
    refine Kd.R_append_rows_step k38 (w0 := w) w.heap.size (by rfl) (.tmp 13) (.tmp 19) 24 38 (.agg #[(.int .i16 0), (.int .i16 0)]) 4 rfl Try.underlying24 info38 rfl (by decide) (by omega) v159 t158 y162 _ _ _ (fun k_ => some k_ ≠ (.slice Ao17 y162.length co17 : Value).ownBlock) (fun _ => False) rfl rfl ?aO ?aR (fun _ _ h => h) (fun _ h => h.elim) ?aF ?aB ?aS ?aL ?_
    (case aR => repeat (first | exact (Kd.R_reads' HO164.out).2.2 | (with_reducible refine Kd.C_alloc ?_ _) | (with_reducible refine Kd.C_drewN ?_ _) | (with_reducible refine Kd.C_drew ?_)))
    (case aB => exact (by repeat (first | (with_reducible first | exact HB.out | apply below_alloc | apply pw_below_drewN | apply below_drew1 | refine below_set ?_ GE157.out) | exact HB.out)))
    (case aF => exact (fun k_ hk => Kd.fresh' (Kd.R_lt (by (with_reducible repeat (first | apply Kd.R_alloc | apply Kd.R_drewN | apply Kd.R_drew)); exact HO164.out)) k_ hk))
    (case aO => exact (by (with_reducible repeat (first | apply Kd.R_alloc | apply Kd.R_drewN | apply Kd.R_drew)); exact HO160.out))
    (case aS => exact (below_size (by repeat (first | (with_reducible first | exact HB.out | apply below_alloc | apply pw_below_drewN | apply below_drew1 | refine below_set ?_ GE157.out) | exact HB.out))))
    (case aL => have := LMc8.out; omega)
    intro v166 w16 ho hb hg hat
    rw [← Ny165.out] at ho
    have n0_ := Aside0.mk (blk_grown (g := gb157) (o := .cells #[.int .i16 a0_0, .int .i16 a0_1] 28 (0, 0)) (by (with_reducible repeat (first | refine blk_drewN ?_ _ | refine blk_drew ?_ | refine blk_alloc ?_ _)); exact BK157.out) hg (Kd.R_ne HO160.out BK157.out (by decide)))
    have n1_ := Aside0.mk (Kd.R_after (ok := (fun _ => True)) (by (with_reducible repeat (first | apply Kd.R_alloc | apply Kd.R_drewN | apply Kd.R_drew)); exact Kd.R_mono HO164.out (fun _ hk => ⟨trivial, hk⟩)) hg hat)
    have n2_ := Aside0.mk (hb)
    have n3_ := Aside0.mk (ho)
    clear BK157
    clear HO164
    clear HB
    clear HO160
    have BK157 := n0_
    have HO164 := n1_
    have HB := n2_
    have HO167 := n3_
    clear n0_ n1_ n2_ n3_
    clear ho hb hg hat
    obtain ⟨Ao18, co18, eo18⟩ := Kd.R_slice HO167.out
    (first | subst eo18 | (injection eo18 with f1_ f2_ f3_; have f4_ := f1_.symm; have f5_ := f3_.symm; clear f1_ f2_ f3_; subst f4_; subst f5_))
    refine hK.out _ _ ⟨(blk_cell BK157.out 0).trans rfl, (blk_cell BK157.out 1).trans rfl, ((HB.out.cell (World.block_lt_of_cell? w _ hw161_0)).trans hw161_0), ((HB.out.cell (World.block_lt_of_cell? w _ hw161_1)).trans hw161_1)⟩ (fun hHeld => ?_)
    clear hK K
    refine norm_ (a' := ?_) ?_ ?_
    rotate_left
    ·show Act.put _ (some 20) _ = _
     simp only [Act.put, List.setIfInBounds_toArray, List.set_cons_zero, List.set_cons_succ, i64_w, i32_w]
     rfl
    refine one_ (i := 12) (N := some 21) #[true, true, true, true, true, true, true, true, true, true, true, true, true, false] rfl rfl (one_of HT_.out (by kernel_rfl)) (by decide) (fun K hK => ?_)
    refine goes_ Try.func88 (by kernel_rfl) rfl #[.agg #[.int .i16 a0_0, .int .i16 a0_1], .slice Ao18 y165.length co18] (by rfl) rfl rfl (by (try simp only [List.map_toArray, List.map_cons, List.map_nil]); first | done | rfl | (simp only [List.length_drop, List.length_take]; rfl)) ?_
    with_reducible refine (impl_Line_holdsw.calls a0_0 a0_1 _ _ y165 t168 _ ?side1 ?side2 A9.out).mono ?_
    (case side1 => repeat (first | exact (Kd.R_reads' HO167.out).2.2 | (with_reducible refine Kd.C_alloc ?_ _) | (with_reducible refine Kd.C_drewN ?_ _) | (with_reducible refine Kd.C_drew ?_)))
    (case side2 => exact (Kd.R_reads' HO167.out).2.1)
    rintro e w19 ⟨rfl, hb⟩
    refine ⟨_, rfl, ?_⟩
    have n0_ := Aside0.mk (Kd.R_below (by (with_reducible repeat (first | apply Kd.R_alloc | apply Kd.R_drewN | apply Kd.R_drew)); exact HO164.out) hb)
    have n1_ := Aside0.mk (Kd.R_below (by (with_reducible repeat (first | apply Kd.R_alloc | apply Kd.R_drewN | apply Kd.R_drew)); exact HO167.out) hb)
    have n2_ := Aside0.mk (blk_below (g := gb157) (o := .cells #[.int .i16 a0_0, .int .i16 a0_1] 28 (0, 0)) (by (with_reducible repeat (first | refine blk_drewN ?_ _ | refine blk_drew ?_ | refine blk_alloc ?_ _)); exact BK157.out) hb)
    have n3_ := Aside0.mk (below_step (by repeat (first | (with_reducible first | exact HB.out | apply below_alloc | apply pw_below_drewN | apply below_drew1 | refine below_set ?_ GE157.out) | exact HB.out)) hb)
    clear HO164
    clear HO167
    clear BK157
    clear HB
    have HO164 := n0_
    have HO167 := n1_
    have BK157 := n2_
    have HB := n3_
    clear n0_ n1_ n2_ n3_
    (try clear hb)
    (try clear hb2)
    (try clear hk)
    (try clear hi)
    refine hK.out _ _ ⟨(blk_cell BK157.out 0).trans rfl, (blk_cell BK157.out 1).trans rfl, ((HB.out.cell (World.block_lt_of_cell? w _ hw161_0)).trans hw161_0), ((HB.out.cell (World.block_lt_of_cell? w _ hw161_1)).trans hw161_1)⟩ (fun hHeld => ?_)
    clear hK K
    refine norm_ (a' := ?_) ?_ ?_
    rotate_left
    ·show Act.put _ (some 21) _ = _
     simp only [Act.put, List.setIfInBounds_toArray, List.set_cons_zero, List.set_cons_succ, i64_w, i32_w]
     rfl
    refine pure_ (i := 13) (N := some 8) (v := ?_) (a' := ?_) #[true, true, true, true, true, true, true, true, true, true, true, true, true, true] rfl rfl (any_of HT_.out (by kernel_rfl)) (fun _ _ _ h => h) (Or.inl ⟨by rfl, ?_⟩) ?_ ?_
    rotate_left
    ·intro w'
     go_simp
     with_reducible rfl
    rotate_left
    ·simp only [Act.put, List.setIfInBounds_toArray, List.set_cons_zero, List.set_cons_succ, i64_w, i32_w]
     rfl
    refine done_ (done_of HT_.out (by kernel_rfl)) ?_
    try go_wp2
    go_ret
    exact ⟨by first | rfl | (simp [errW_none, errW_some] <;> rfl) | (simp [*, errW_none, errW_some] <;> rfl), by repeat (first | (with_reducible first | exact HB.out | apply below_alloc | apply pw_below_drewN | apply below_drew1 | refine below_set ?_ GE157.out) | exact HB.out)⟩
   ·rw [if_neg c8] at H
    exact absurd H (by simp)
  ·rw [if_neg c7] at H
   exact absurd H (by simp)
 ·rw [if_neg c6] at H
  exact absurd H (by simp)

/-! ### slices_Clone_int64: function 125 (told by hand) -/
def slices_Clone_int64.f (l0 : List Int) : Option (List Int) := if l0.length ≤ 1048576 then some l0 else none
set_option maxHeartbeats 2000000 in
theorem slices_Clone_int64.calls (A0 : Option Addr) (c0 : Nat) (l0 : List Int) (r : List Int) (w : World) (hr0 : Kd.C (Kd.int .i64) w A0 l0.length l0) (hc0 : l0.length ≤ c0) (h : slices_Clone_int64.f l0 = some r) :
  Calls Try.prog 125 #[.slice A0 l0.length c0] w fun e w' => ∃ v0_ : Value, e = .returned v0_ ∧ Kd.R (Kd.int .i64) 2 w' w.heap.size (fun _ => True) v0_ r ∧ Below w.heap.size w w' := by
 unfold slices_Clone_int64.f at h
 by_cases hb : l0.length ≤ 1048576
 case neg => rw [if_neg hb] at h; cases h
 rw [if_pos hb] at h
 obtain rfl := Option.some.inj h
 clear h
 have HR0 := Aside0.mk hr0
 have HL := Aside0.mk hb
 clear hr0 hb
 rcases A0 with _ | ad
 ·have hnil : l0 = [] := by
   rcases l0 with _ | ⟨x, xs⟩
   ·rfl
   ·obtain ⟨ad, he, _⟩ := HR0.out.2.2 (by simp)
    cases he
  subst hnil
  have he := fun (W : World) => Lib.run_eql_slice_nil (P := Try.prog) W 30 2 none 0 c0 0 0 Try.underlying30
  simp only [List.length_nil]
  go_enter Try.func125, Try.ntmps125
  go_wp2
  go_ret
  exact ⟨_, rfl, Kd.R_nil _ _ _ _ _, Below.refl _ _⟩
 ·have he := fun (W : World) => Lib.run_eql_slice_nil (P := Try.prog) W 30 2 (some ad) l0.length c0 0 0 Try.underlying30
  go_enter Try.func125, Try.ntmps125
  go_wp2_with (first | ((with_reducible refine gate_dst (N := 5) rfl ?_); refine Kd.R_lit (Kd.int .i64) _ 2 ?hg (N := 5) ?hd (xs := ([] : List Int)) (inner := []) (ok := fun _ => True) (okp := fun _ => True) ?hr ?hp (fun _ hk => hk) trivial (Below.refl _ _) (Nat.le_refl _) (by simp) ?_; (case hd => rfl); (case hg => rfl); (case hr => first | (go_simp; done) | (go_simp; rfl)); (case hp => exact (Reps.none _ _)); intro v1 w1 ho1 hb1 hg_ hnew_; clear hg_ hnew_; have HO1 := Aside0.mk ho1; have HB1 := Aside0.mk hb1; clear ho1 hb1) | ((with_reducible refine gate_builtin (b := .append) (xs := #[.tmp 5, .tmp 6]) rfl ?_); at_builtin; refine Kd.R_append_rows (Kd.int .i64) (w0 := w) w.heap.size rfl (.tmp 5) (.tmp 6) 30 2 (.int .i64 0) 8 rfl Try.underlying30 info2 rfl (by decide) (by omega) v1 [] l0 _ _ _ (fun _ => True) (fun _ => False) rfl rfl HO1.out (Kd.C_below HR0.out HB1.out) (fun _ _ h => h) (fun _ h => h.elim) (fun _ _ => trivial) HB1.out HB1.out.size (by have := HL.out; simp; omega) ?_; intro v2 w2 ho2 hb2 hg2 hat2; have HO2 := Aside0.mk ho2; have HB2 := Aside0.mk hb2; clear ho2 hb2 hg2 hat2))
  go_ret
  exact ⟨_, rfl, by simpa using HO2.out, HB2.out⟩

/-! ### impl_hanger_hang: function 84 (told by hand) -/
def hangL (step : Nat → Int → Option (List Int × Bool × Int × Bool)) : Nat → Nat → Int → Option (List Int × Bool × Int × Bool)
 | 0, _, t => some ([], false, t, false)
 | r + 1, kk, t => (step kk t).bind fun x => if x.2.1 = true ∨ x.2.2.2 = true then some x else hangL step r (kk + 1) x.2.2.1
def hangS (fit : List Int → Int → Option Bool) (bud : Int) (most : Nat) : Nat → List Int → Nat → Int → Option (List Int × Bool × Int × Bool)
 | 0, o, _, t => some (o, true, t, false)
 | d + 1, o, u, t => hangL (fun k t => (fit o (k : Int)).bind fun b => if b = false then some ([], false, t, false) else if t = bud then some ([], false, t, true) else hangS fit bud most d (o ++ [(k : Int)]) (max u (k + 1)) (t + 1)) (min (u + 1) most) 0 t
theorem C_new1 (w : World) (x : Int) : Kd.C (Kd.int .i64) (w.alloc (.cells #[.int .i64 x] 2)) (some ⟨w.heap.size, 0, none⟩) [x].length [x] := by
 refine Own.C_single [.int .i64 x] rfl (fun i u hu => ?_)
 rcases i with _ | i
 ·simp at hu
  subst hu
  simp [go_sem]
 ·simp at hu
theorem putH4 {W : World} {gs : Nat} {a b c d e f : Value} (h1 : W.heap[gs]? = some (.cells #[a,b,c,d,e,f] 90 (0, 0))) (x : Value) : (W.setCell ⟨gs, 4, none⟩ x).heap[gs]? = some (.cells #[a,b,c,d,x,f] 90 (0, 0)) := blk_put h1 4 x rfl
theorem putH5 {W : World} {gs : Nat} {a b c d e f : Value} (h1 : W.heap[gs]? = some (.cells #[a,b,c,d,e,f] 90 (0, 0))) (x : Value) : (W.setCell ⟨gs, 5, none⟩ x).heap[gs]? = some (.cells #[a,b,c,d,e,x] 90 (0, 0)) := blk_put h1 5 x rfl
theorem keptH {w W : World} {gh : Nat} (h : Kept w W (fun k => k = gh)) (j : Nat) (v : Value) : Kept w (W.setCell ⟨gh, j, none⟩ v) (fun k => k = gh) := Kept.setCell h (p := ⟨gh, j, none⟩) (Or.inl (Eq.refl gh)) v
structure StH (W0 : World) (gh : Nat) (a0 a1 : Int) (l1 : List S38) (A1 : Option Addr) (c1 : Nat) (bud : Int) (W : World) (t : Int) (ov : Bool) : Prop where
 bel : Below W0.heap.size W0 W
 hb : W.heap[gh]? = some (.cells #[.int .i16 a0, .int .i16 a1, .slice A1 l1.length c1, .int .i64 bud, .int .i64 t, .bool ov] 90 (0, 0))
 ht : 0 ≤ t ∧ t ≤ bud
theorem StH.below {W0 W W' : World} {gh : Nat} {a0 a1 : Int} {l1 : List S38} {A1 : Option Addr} {c1 : Nat} {bud : Int} {t : Int} {ov : Bool} (h : StH W0 gh a0 a1 l1 A1 c1 bud W t ov) (b : Below W.heap.size W W') : StH W0 gh a0 a1 l1 A1 c1 bud W' t ov := ⟨below_step h.bel b, blk_below h.hb b, h.ht⟩
theorem StH.next {W0 W : World} {gh : Nat} {a0 a1 : Int} {l1 : List S38} {A1 : Option Addr} {c1 : Nat} {bud : Int} {t : Int} {ov : Bool} (h : StH W0 gh a0 a1 l1 A1 c1 bud W t ov) (hg : W0.heap.size ≤ gh) (ht : t < bud) : StH W0 gh a0 a1 l1 A1 c1 bud (W.setCell ⟨gh, 4, none⟩ (.int .i64 (t + 1))) (t + 1) ov :=
 ⟨below_set h.bel hg, putH4 h.hb _, by have := h.ht; omega, by omega⟩
theorem StH.over {W0 W : World} {gh : Nat} {a0 a1 : Int} {l1 : List S38} {A1 : Option Addr} {c1 : Nat} {bud : Int} {t : Int} {ov : Bool} (h : StH W0 gh a0 a1 l1 A1 c1 bud W t ov) (hg : W0.heap.size ≤ gh) : StH W0 gh a0 a1 l1 A1 c1 bud (W.setCell ⟨gh, 5, none⟩ (.bool true)) t true :=
 ⟨below_set h.bel hg, putH5 h.hb _, h.ht⟩
set_option maxHeartbeats 2000000 in
set_option maxRecDepth 100000 in
theorem hang_calls (W0 : World) (gh : Nat) (a0 a1 : Int) (l1 : List S38) (A1 : Option Addr) (c1 : Nat) (bud : Int) (most : Nat) (hn : l1.length ≤ 1000) (hmost : most ≤ 1000) (hgs : W0.heap.size ≤ gh) (hbud : bud ≤ 1000000000000) (hr1 : Kd.C k38 W0 A1 l1.length l1) (hc1 : l1.length ≤ c1) :
  ∀ (d : Nat) (W : World) (v : Value) (o : List Int) (u : Nat) (t : Int) (x : List Int × Bool × Int × Bool), o.length + d = l1.length → u ≤ o.length → Kd.R (Kd.int .i64) 2 W W0.heap.size (fun k => k ≠ gh) v o → StH W0 gh a0 a1 l1 A1 c1 bud W t false → hangS (impl_Line_fitsBehind.f a0 a1 l1) bud most d o u t = some x →
   Calls Try.prog 84 #[.pointer (some ⟨gh, 0, none⟩), .int .i64 (most : Int), v, .int .i64 (u : Int)] W fun e w' => ∃ v' : Value, e = .returned (.tuple #[v', .bool x.2.1]) ∧ Kept W w' (fun k => k = gh) ∧ StH W0 gh a0 a1 l1 A1 c1 bud w' x.2.2.1 x.2.2.2 ∧ Kd.R (Kd.int .i64) 2 w' W0.heap.size (fun k => k ≠ gh) v' x.1 := by
 intro d
 induction d with
 | zero =>
  intro W v o u t x hd hu hR hS h
  rw [hangS] at h
  obtain rfl := Option.some.inj h
  obtain ⟨A, c, rfl, hoc, _⟩ := Kd.R_reads hR
  have q2 : W.cell? ⟨gh, 2, none⟩ = some (.slice A1 l1.length c1) := (blk_cell hS.hb 2).trans rfl
  have hn0 : l1.length ≤ 9223372036854775807 := by omega
  have e1 : ((o.length : Int) == (l1.length : Int)) = true := by simp; omega
  have e2 : (o.length == l1.length) = true := by simp; omega
  have HS := Aside0.mk hS
  have HR := Aside0.mk hR
  clear hS hR hd hr1 hgs hn
  go_enter Try.func84, Try.ntmps84
  go_wp2
  go_ret2
  exact ⟨_, rfl, Kept.refl _ _, HS.out, HR.out⟩
 | succ d ih =>
  intro W v o u t x hd hu hR hS h
  obtain ⟨A, c, rfl, hoc, _⟩ := Kd.R_reads hR
  rw [hangS] at h
  have q2' : W.cell? ⟨gh, 2, none⟩ = some (.slice A1 l1.length c1) := (blk_cell hS.hb 2).trans rfl
  have hn0 : l1.length ≤ 9223372036854775807 := by omega
  have e1 : ((o.length : Int) == (l1.length : Int)) = false := by simp; omega
  have e2 : (o.length == l1.length) = false := by simp; omega
  have hu1 : (u : Int) ≤ 1000 := by omega
  have hm1 : (most : Int) ≤ 1000 := by omega
  have HOL := Aside0.mk (show o.length ≤ 1000 by omega)
  have HUU := Aside0.mk hu
  have HD := Aside0.mk hd
  have HG := Aside0.mk hgs
  have HRW := Aside0.mk hr1
  have HR := Aside0.mk hR
  have HS := Aside0.mk hS
  have IH := Aside0.mk ih
  have HCL := Aside0.mk (show slices_Clone_int64.f o = some o from if_pos (by omega))
  by_cases hmm : (most : Int) < (u : Int) + 1
  ·rw [show min (u + 1) most = most by omega] at h
   have HF := Aside0.mk h
   clear hS hR h ih hgs hr1 hd hu hn
   go_enter Try.func84, Try.ntmps84
   go_wp2
   go_loopg [10, 11, 12, 26] (most) (fun gg _ _ _ v26 w' => ∃ (kk r : Nat) (tk : Int), kk + r = most ∧ r ≤ gg ∧ v26 = .int .i64 (kk : Int) ∧ Aside0 (hangL (fun k t => (impl_Line_fitsBehind.f a0 a1 l1 o (k : Int)).bind fun b => if b = false then some ([], false, t, false) else if t = bud then some ([], false, t, true) else hangS (impl_Line_fitsBehind.f a0 a1 l1) bud most d (o ++ [(k : Int)]) (max u (k + 1)) (t + 1)) r kk tk = some x) ∧ Aside0 (Kept W w' (fun k => k = gh)) ∧ Aside0 (StH W0 gh a0 a1 l1 A1 c1 bud w' tk false))
   case atStart => exact ⟨0, most, t, by omega, by omega, rfl, HF, ⟨Kept.refl _ _⟩, HS⟩
   case round =>
    obtain ⟨kk, r, tk, hkr, hrg, rfl, HFL, KP, HSr⟩ := hrel
    rcases r with _ | r
    ·have hlti : ¬ (kk : Int) < (most : Int) := by omega
     go_wp2
     go_ret2
     have hf := HFL.out
     rw [hangL] at hf
     obtain rfl := Option.some.inj hf
     exact ⟨_, rfl, KP.out, HSr.out, Kd.R_nil _ _ _ _ _⟩
    ·have hlti : (kk : Int) < (most : Int) := by omega
     have hf := HFL.out
     rw [hangL] at hf
     obtain ⟨x1, hst, hrest⟩ := Option.bind_eq_some_iff.mp hf
     obtain ⟨b, hb, hs1⟩ := Option.bind_eq_some_iff.mp hst
     have hblk := HSr.out.hb
     have hRr := Kd.R_kept HR.out KP.out (fun k hk hS => hk hS)
     obtain ⟨A3, c3, ee_, _, hCr⟩ := Kd.R_reads hRr
     cases ee_
     have q0 : wr.cell? ⟨gh, 0, none⟩ = some (.int .i16 a0) := (blk_cell hblk 0).trans rfl
     have q1 : wr.cell? ⟨gh, 1, none⟩ = some (.int .i16 a1) := (blk_cell hblk 1).trans rfl
     have q2 : wr.cell? ⟨gh, 2, none⟩ = some (.slice A1 l1.length c1) := (blk_cell hblk 2).trans rfl
     have HR1 := Aside0.mk (Kd.C_below HRW.out HSr.out.bel)
     have HCr := Aside0.mk hCr
     have HRr := Aside0.mk hRr
     have HFIT := Aside0.mk hb
     have HREST := Aside0.mk hrest
     have HGW := Aside0.mk (show gh < wr.heap.size from blk_lt hblk)
     clear hf hst hb hrest hblk hRr hCr
     cases b with
     | false =>
      rw [if_pos rfl] at hs1
      obtain rfl := Option.some.inj hs1
      have HRE := Aside0.mk ((if_neg (by simp)).symm.trans HREST.out)
      clear hs1
      go_wp2
      go_region_held3 (fun w' => w'.cell? ⟨gh, 0, none⟩ = some (.int .i16 a0) ∧ w'.cell? ⟨gh, 1, none⟩ = some (.int .i16 a1) ∧ w'.cell? ⟨gh, 2, none⟩ = some (.slice A1 l1.length c1))
       (first | exact ⟨q0, q1, q2⟩ | exact ⟨pw_cell_below hb1 q0, pw_cell_below hb1 q1, pw_cell_below hb1 q2⟩)
       (first | (go_at_call 76; refine (impl_Line_fitsBehind.calls a0 a1 A1 c1 l1 A c o (kk : Int) false _ (Kd.C_below HR1.out (below_drew (Below.refl _ _))) hc1 (Kd.C_below HCr.out (below_drew (Below.refl _ _))) hoc HFIT.out).mono ?_; rintro e w1 ⟨rfl, hb1⟩))
      have HB1 := Aside0.mk (show Below wr.heap.size wr w1 from below_step (below_drew (Below.refl _ _)) hb1)
      clear hb1
      go_wp2
      go_roundg r
      case measure => omega
      case rel => exact ⟨kk + 1, r, tk, by omega, by omega, by go_num, HRE, ⟨KP.out.below HB1.out⟩, ⟨HSr.out.below HB1.out⟩⟩
     | true =>
      rw [if_neg (by decide)] at hs1
      go_wp2
      go_region_held3 (fun w' => w'.cell? ⟨gh, 0, none⟩ = some (.int .i16 a0) ∧ w'.cell? ⟨gh, 1, none⟩ = some (.int .i16 a1) ∧ w'.cell? ⟨gh, 2, none⟩ = some (.slice A1 l1.length c1))
       (first | exact ⟨q0, q1, q2⟩ | exact ⟨pw_cell_below hb1 q0, pw_cell_below hb1 q1, pw_cell_below hb1 q2⟩)
       (first | (go_at_call 76; refine (impl_Line_fitsBehind.calls a0 a1 A1 c1 l1 A c o (kk : Int) true _ (Kd.C_below HR1.out (below_drew (Below.refl _ _))) hc1 (Kd.C_below HCr.out (below_drew (Below.refl _ _))) hoc HFIT.out).mono ?_; rintro e w1 ⟨rfl, hb1⟩))
      have HB1 := Aside0.mk (show Below wr.heap.size wr w1 from below_step (below_drew (Below.refl _ _)) hb1)
      have hs1_ := HSr.out.below HB1.out
      have p3 : w1.cell? ⟨gh, 3, none⟩ = some (.int .i64 bud) := (blk_cell hs1_.hb 3).trans rfl
      have p4 : w1.cell? ⟨gh, 4, none⟩ = some (.int .i64 tk) := (blk_cell hs1_.hb 4).trans rfl
      have p5 : w1.cell? ⟨gh, 5, none⟩ = some (.bool false) := (blk_cell hs1_.hb 5).trans rfl
      have f4 := blk_frozen hs1_.hb 4
      have f5 := blk_frozen hs1_.hb 5
      have HSX := Aside0.mk hs1_
      clear hb1 hs1_
      by_cases htb : tk = bud
      ·rw [if_pos htb] at hs1
       obtain rfl := Option.some.inj hs1
       have hxx := (if_pos (Or.inr rfl)).symm.trans HREST.out
       have HXX := Aside0.mk (Option.some.inj hxx)
       have g1 : (tk == bud) = true := by simp [htb]
       clear hs1 hxx
       go_wp2
       go_quiet (fail)
       go_wp2
       go_ret2
       obtain rfl := HXX.out
       exact ⟨_, rfl, keptH ((KP.out.below HB1.out).below (pw_below_drewN (Below.refl _ _) _)) 5 _, (HSX.out.below (pw_below_drewN (Below.refl _ _) _)).over HG.out, Kd.R_nil _ _ _ _ _⟩
      ·rw [if_neg htb] at hs1
       have HX1 := Aside0.mk hs1
       have g1 : (tk == bud) = false := by simp [htb]
       clear hs1
       have htk := HSr.out.ht
       have htk1 : tk < bud := by omega
       obtain ⟨xo, xok, xt, xov⟩ := x1
       go_wp2
       go_quiet (fail)
       rename_i nq
       have HS2 := Aside0.mk ((HSX.out.below (pw_below_drewN (Below.refl _ _) nq)).next HG.out htk1)
       have HK2 := Aside0.mk (keptH ((Kept.of_below HB1.out (fun k => k = gh)).below (pw_below_drewN (Below.refl _ _) nq)) 4 (.int .i64 (tk + 1)))
       have HCW := Aside0.mk (Kd.R_reads' (Kd.R_kept HRr.out HK2.out (fun k hk hS => hk hS))).2.2
       have LG := Aside0.mk (Nat.lt_of_lt_of_le HGW.out HK2.out.1)
       have LW := Aside0.mk HS2.out.bel.size
       have HWK := Aside0.mk (show IntKind.i64.wrap ((kk : Int) + 1) = (kk : Int) + 1 from IntWalk.i64_in _ (by omega))
       have HMX := Aside0.mk (show (if (u : Int) < (kk : Int) + 1 then (kk : Int) + 1 else (u : Int)) = ((max u (kk + 1) : Nat) : Int) from by split <;> omega)
   
       cases xok with
       | true =>
        have HXX := Aside0.mk (Option.some.inj ((if_pos (Or.inl rfl)).symm.trans HREST.out))
        go_wp2_with (first | (go_at_call 125; refine (slices_Clone_int64.calls A c o o _ HCW.out hoc HCL.out).mono ?_; rintro e w3 ⟨v3, rfl, ho3, hb3⟩; have HO3 := Aside0.mk ho3; have HB3 := Aside0.mk hb3; clear ho3 hb3) | ((with_reducible refine gate_dst (N := 66) rfl ?_); refine Kd.R_lit (Kd.int .i64) _ 2 ?hg (N := 66) ?hd (xs := ([(kk : Int)] : List Int)) (inner := [.int .i64 (kk : Int)]) (ok := fun _ => True) (okp := fun _ => True) ?hr ?hp (fun _ hk => hk) trivial (Below.refl _ _) (Nat.le_refl _) (by simp) ?_; (case hd => rfl); (case hg => rfl); (case hr => first | (go_simp; done) | (go_simp; rfl)); (case hp => exact (Reps.one (show Kd.M (Kd.int .i64) _ _ _ (kk : Int) [.int .i64 (kk : Int)] from rfl) (Reps.none _ _))); intro v4 w4 ho4 hb4 hg_ hnew_; clear hg_ hnew_; obtain ⟨B4, d4, rfl, hd4, hC4⟩ := Kd.R_reads ho4; have HC4 := Aside0.mk hC4; have HO4 := Aside0.mk (Kd.R_below HO3.out hb4); have HB4 := Aside0.mk (below_step HB3.out hb4); clear ho4 hb4 hC4 hd4) | ((with_reducible refine gate_builtin (b := .append) (xs := #[.tmp 64, .tmp 66]) rfl ?_); at_builtin; refine Kd.R_append_rows (Kd.int .i64) (w0 := ((w1.drewN nq).setCell ⟨gh, 4, none⟩ (.int .i64 (tk + 1)))) ((w1.drewN nq).setCell ⟨gh, 4, none⟩ (.int .i64 (tk + 1))).heap.size rfl (.tmp 64) (.tmp 66) 30 2 (.int .i64 0) 8 rfl Try.underlying30 info2 rfl (by decide) (by omega) v3 o [(kk : Int)] _ _ _ (fun _ => True) (fun _ => False) rfl rfl HO4.out HC4.out (fun _ _ h => h) (fun _ h => h.elim) (fun _ _ => trivial) HB4.out HB4.out.size (by have := HOL.out; simp; omega) ?_; intro v5 w5 ho5 hb5 _ _; have HO5 := Aside0.mk ho5; have HB5 := Aside0.mk hb5; clear ho5 hb5) | (go_at_call 84; have hc_ := (IH.out w5 v5 (o ++ [(kk : Int)]) (max u (kk + 1)) (tk + 1) (xo, true, xt, xov) (by have := HD.out; simp; omega) (by have := HUU.out; simp; omega) (Kd.R_lower (Kd.R_mono (Kd.R_bound HO5.out) (fun k hk => by have := hk.2.1; have := LG.out; omega)) LW.out) (HS2.out.below HB5.out) HX1.out); (first | rw [show ((max u (kk + 1) : Nat) : Int) = (kk : Int) + 1 by omega] at hc_ | rw [show ((max u (kk + 1) : Nat) : Int) = (u : Int) by omega] at hc_ | rw [← HMX.out] at hc_); refine hc_.mono ?_; rintro e w6 ⟨v6, rfl, hk6, hs6, hr6⟩; have z5 : w6.cell? ⟨gh, 5, none⟩ = some (.bool xov) := (blk_cell hs6.hb 5).trans rfl; obtain ⟨A6, c6, rfl, hc6, _⟩ := Kd.R_reads hr6; have HK6 := Aside0.mk hk6; have HS6 := Aside0.mk hs6; have HR6 := Aside0.mk hr6; clear hk6 hs6 hr6))
        all_goals
         go_ret2
         obtain rfl := HXX.out
         exact ⟨_, rfl, ((KP.out.then_ HK2.out (fun _ h => .inl h)).below HB5.out).then_ HK6.out (fun _ h => .inl h), HS6.out, HR6.out⟩
       | false =>
        cases xov with
        | true =>
         have HXX := Aside0.mk (Option.some.inj ((if_pos (Or.inr rfl)).symm.trans HREST.out))
         go_wp2_with (first | (go_at_call 125; refine (slices_Clone_int64.calls A c o o _ HCW.out hoc HCL.out).mono ?_; rintro e w3 ⟨v3, rfl, ho3, hb3⟩; have HO3 := Aside0.mk ho3; have HB3 := Aside0.mk hb3; clear ho3 hb3) | ((with_reducible refine gate_dst (N := 66) rfl ?_); refine Kd.R_lit (Kd.int .i64) _ 2 ?hg (N := 66) ?hd (xs := ([(kk : Int)] : List Int)) (inner := [.int .i64 (kk : Int)]) (ok := fun _ => True) (okp := fun _ => True) ?hr ?hp (fun _ hk => hk) trivial (Below.refl _ _) (Nat.le_refl _) (by simp) ?_; (case hd => rfl); (case hg => rfl); (case hr => first | (go_simp; done) | (go_simp; rfl)); (case hp => exact (Reps.one (show Kd.M (Kd.int .i64) _ _ _ (kk : Int) [.int .i64 (kk : Int)] from rfl) (Reps.none _ _))); intro v4 w4 ho4 hb4 hg_ hnew_; clear hg_ hnew_; obtain ⟨B4, d4, rfl, hd4, hC4⟩ := Kd.R_reads ho4; have HC4 := Aside0.mk hC4; have HO4 := Aside0.mk (Kd.R_below HO3.out hb4); have HB4 := Aside0.mk (below_step HB3.out hb4); clear ho4 hb4 hC4 hd4) | ((with_reducible refine gate_builtin (b := .append) (xs := #[.tmp 64, .tmp 66]) rfl ?_); at_builtin; refine Kd.R_append_rows (Kd.int .i64) (w0 := ((w1.drewN nq).setCell ⟨gh, 4, none⟩ (.int .i64 (tk + 1)))) ((w1.drewN nq).setCell ⟨gh, 4, none⟩ (.int .i64 (tk + 1))).heap.size rfl (.tmp 64) (.tmp 66) 30 2 (.int .i64 0) 8 rfl Try.underlying30 info2 rfl (by decide) (by omega) v3 o [(kk : Int)] _ _ _ (fun _ => True) (fun _ => False) rfl rfl HO4.out HC4.out (fun _ _ h => h) (fun _ h => h.elim) (fun _ _ => trivial) HB4.out HB4.out.size (by have := HOL.out; simp; omega) ?_; intro v5 w5 ho5 hb5 _ _; have HO5 := Aside0.mk ho5; have HB5 := Aside0.mk hb5; clear ho5 hb5) | (go_at_call 84; have hc_ := (IH.out w5 v5 (o ++ [(kk : Int)]) (max u (kk + 1)) (tk + 1) (xo, false, xt, true) (by have := HD.out; simp; omega) (by have := HUU.out; simp; omega) (Kd.R_lower (Kd.R_mono (Kd.R_bound HO5.out) (fun k hk => by have := hk.2.1; have := LG.out; omega)) LW.out) (HS2.out.below HB5.out) HX1.out); (first | rw [show ((max u (kk + 1) : Nat) : Int) = (kk : Int) + 1 by omega] at hc_ | rw [show ((max u (kk + 1) : Nat) : Int) = (u : Int) by omega] at hc_ | rw [← HMX.out] at hc_); refine hc_.mono ?_; rintro e w6 ⟨v6, rfl, hk6, hs6, hr6⟩; have z5 : w6.cell? ⟨gh, 5, none⟩ = some (.bool true) := (blk_cell hs6.hb 5).trans rfl; obtain ⟨A6, c6, rfl, hc6, _⟩ := Kd.R_reads hr6; have HK6 := Aside0.mk hk6; have HS6 := Aside0.mk hs6; have HR6 := Aside0.mk hr6; clear hk6 hs6 hr6))
         all_goals
          go_ret2
          obtain rfl := HXX.out
          exact ⟨_, rfl, ((KP.out.then_ HK2.out (fun _ h => .inl h)).below HB5.out).then_ HK6.out (fun _ h => .inl h), HS6.out, HR6.out⟩
        | false =>
         have HRE := Aside0.mk ((if_neg (by simp)).symm.trans HREST.out)
         go_wp2_with (first | (go_at_call 125; refine (slices_Clone_int64.calls A c o o _ HCW.out hoc HCL.out).mono ?_; rintro e w3 ⟨v3, rfl, ho3, hb3⟩; have HO3 := Aside0.mk ho3; have HB3 := Aside0.mk hb3; clear ho3 hb3) | ((with_reducible refine gate_dst (N := 66) rfl ?_); refine Kd.R_lit (Kd.int .i64) _ 2 ?hg (N := 66) ?hd (xs := ([(kk : Int)] : List Int)) (inner := [.int .i64 (kk : Int)]) (ok := fun _ => True) (okp := fun _ => True) ?hr ?hp (fun _ hk => hk) trivial (Below.refl _ _) (Nat.le_refl _) (by simp) ?_; (case hd => rfl); (case hg => rfl); (case hr => first | (go_simp; done) | (go_simp; rfl)); (case hp => exact (Reps.one (show Kd.M (Kd.int .i64) _ _ _ (kk : Int) [.int .i64 (kk : Int)] from rfl) (Reps.none _ _))); intro v4 w4 ho4 hb4 hg_ hnew_; clear hg_ hnew_; obtain ⟨B4, d4, rfl, hd4, hC4⟩ := Kd.R_reads ho4; have HC4 := Aside0.mk hC4; have HO4 := Aside0.mk (Kd.R_below HO3.out hb4); have HB4 := Aside0.mk (below_step HB3.out hb4); clear ho4 hb4 hC4 hd4) | ((with_reducible refine gate_builtin (b := .append) (xs := #[.tmp 64, .tmp 66]) rfl ?_); at_builtin; refine Kd.R_append_rows (Kd.int .i64) (w0 := ((w1.drewN nq).setCell ⟨gh, 4, none⟩ (.int .i64 (tk + 1)))) ((w1.drewN nq).setCell ⟨gh, 4, none⟩ (.int .i64 (tk + 1))).heap.size rfl (.tmp 64) (.tmp 66) 30 2 (.int .i64 0) 8 rfl Try.underlying30 info2 rfl (by decide) (by omega) v3 o [(kk : Int)] _ _ _ (fun _ => True) (fun _ => False) rfl rfl HO4.out HC4.out (fun _ _ h => h) (fun _ h => h.elim) (fun _ _ => trivial) HB4.out HB4.out.size (by have := HOL.out; simp; omega) ?_; intro v5 w5 ho5 hb5 _ _; have HO5 := Aside0.mk ho5; have HB5 := Aside0.mk hb5; clear ho5 hb5) | (go_at_call 84; have hc_ := (IH.out w5 v5 (o ++ [(kk : Int)]) (max u (kk + 1)) (tk + 1) (xo, false, xt, false) (by have := HD.out; simp; omega) (by have := HUU.out; simp; omega) (Kd.R_lower (Kd.R_mono (Kd.R_bound HO5.out) (fun k hk => by have := hk.2.1; have := LG.out; omega)) LW.out) (HS2.out.below HB5.out) HX1.out); (first | rw [show ((max u (kk + 1) : Nat) : Int) = (kk : Int) + 1 by omega] at hc_ | rw [show ((max u (kk + 1) : Nat) : Int) = (u : Int) by omega] at hc_ | rw [← HMX.out] at hc_); refine hc_.mono ?_; rintro e w6 ⟨v6, rfl, hk6, hs6, hr6⟩; have z5 : w6.cell? ⟨gh, 5, none⟩ = some (.bool false) := (blk_cell hs6.hb 5).trans rfl; obtain ⟨A6, c6, rfl, hc6, _⟩ := Kd.R_reads hr6; have HK6 := Aside0.mk hk6; have HS6 := Aside0.mk hs6; have HR6 := Aside0.mk hr6; clear hk6 hs6 hr6))
         all_goals
          go_roundg r
          case measure => omega
          case rel => exact ⟨kk + 1, r, xt, by omega, by omega, by go_num, HRE, ⟨((KP.out.then_ HK2.out (fun _ h => .inl h)).below HB5.out).then_ HK6.out (fun _ h => .inl h)⟩, HS6⟩
  ·rw [show min (u + 1) most = u + 1 by omega] at h
   have HF := Aside0.mk h
   clear hS hR h ih hgs hr1 hd hu hn
   go_enter Try.func84, Try.ntmps84
   go_wp2
   go_loopg [10, 11, 12, 26] (u + 1) (fun gg _ _ _ v26 w' => ∃ (kk r : Nat) (tk : Int), kk + r = u + 1 ∧ r ≤ gg ∧ v26 = .int .i64 (kk : Int) ∧ Aside0 (hangL (fun k t => (impl_Line_fitsBehind.f a0 a1 l1 o (k : Int)).bind fun b => if b = false then some ([], false, t, false) else if t = bud then some ([], false, t, true) else hangS (impl_Line_fitsBehind.f a0 a1 l1) bud most d (o ++ [(k : Int)]) (max u (k + 1)) (t + 1)) r kk tk = some x) ∧ Aside0 (Kept W w' (fun k => k = gh)) ∧ Aside0 (StH W0 gh a0 a1 l1 A1 c1 bud w' tk false))
   case atStart => exact ⟨0, u + 1, t, by omega, by omega, rfl, HF, ⟨Kept.refl _ _⟩, HS⟩
   case round =>
    obtain ⟨kk, r, tk, hkr, hrg, rfl, HFL, KP, HSr⟩ := hrel
    rcases r with _ | r
    ·have hlti : ¬ (kk : Int) < (u : Int) + 1 := by omega
     go_wp2
     go_ret2
     have hf := HFL.out
     rw [hangL] at hf
     obtain rfl := Option.some.inj hf
     exact ⟨_, rfl, KP.out, HSr.out, Kd.R_nil _ _ _ _ _⟩
    ·have hlti : (kk : Int) < (u : Int) + 1 := by omega
     have hf := HFL.out
     rw [hangL] at hf
     obtain ⟨x1, hst, hrest⟩ := Option.bind_eq_some_iff.mp hf
     obtain ⟨b, hb, hs1⟩ := Option.bind_eq_some_iff.mp hst
     have hblk := HSr.out.hb
     have hRr := Kd.R_kept HR.out KP.out (fun k hk hS => hk hS)
     obtain ⟨A3, c3, ee_, _, hCr⟩ := Kd.R_reads hRr
     cases ee_
     have q0 : wr.cell? ⟨gh, 0, none⟩ = some (.int .i16 a0) := (blk_cell hblk 0).trans rfl
     have q1 : wr.cell? ⟨gh, 1, none⟩ = some (.int .i16 a1) := (blk_cell hblk 1).trans rfl
     have q2 : wr.cell? ⟨gh, 2, none⟩ = some (.slice A1 l1.length c1) := (blk_cell hblk 2).trans rfl
     have HR1 := Aside0.mk (Kd.C_below HRW.out HSr.out.bel)
     have HCr := Aside0.mk hCr
     have HRr := Aside0.mk hRr
     have HFIT := Aside0.mk hb
     have HREST := Aside0.mk hrest
     have HGW := Aside0.mk (show gh < wr.heap.size from blk_lt hblk)
     clear hf hst hb hrest hblk hRr hCr
     cases b with
     | false =>
      rw [if_pos rfl] at hs1
      obtain rfl := Option.some.inj hs1
      have HRE := Aside0.mk ((if_neg (by simp)).symm.trans HREST.out)
      clear hs1
      go_wp2
      go_region_held3 (fun w' => w'.cell? ⟨gh, 0, none⟩ = some (.int .i16 a0) ∧ w'.cell? ⟨gh, 1, none⟩ = some (.int .i16 a1) ∧ w'.cell? ⟨gh, 2, none⟩ = some (.slice A1 l1.length c1))
       (first | exact ⟨q0, q1, q2⟩ | exact ⟨pw_cell_below hb1 q0, pw_cell_below hb1 q1, pw_cell_below hb1 q2⟩)
       (first | (go_at_call 76; refine (impl_Line_fitsBehind.calls a0 a1 A1 c1 l1 A c o (kk : Int) false _ (Kd.C_below HR1.out (below_drew (Below.refl _ _))) hc1 (Kd.C_below HCr.out (below_drew (Below.refl _ _))) hoc HFIT.out).mono ?_; rintro e w1 ⟨rfl, hb1⟩))
      have HB1 := Aside0.mk (show Below wr.heap.size wr w1 from below_step (below_drew (Below.refl _ _)) hb1)
      clear hb1
      go_wp2
      go_roundg r
      case measure => omega
      case rel => exact ⟨kk + 1, r, tk, by omega, by omega, by go_num, HRE, ⟨KP.out.below HB1.out⟩, ⟨HSr.out.below HB1.out⟩⟩
     | true =>
      rw [if_neg (by decide)] at hs1
      go_wp2
      go_region_held3 (fun w' => w'.cell? ⟨gh, 0, none⟩ = some (.int .i16 a0) ∧ w'.cell? ⟨gh, 1, none⟩ = some (.int .i16 a1) ∧ w'.cell? ⟨gh, 2, none⟩ = some (.slice A1 l1.length c1))
       (first | exact ⟨q0, q1, q2⟩ | exact ⟨pw_cell_below hb1 q0, pw_cell_below hb1 q1, pw_cell_below hb1 q2⟩)
       (first | (go_at_call 76; refine (impl_Line_fitsBehind.calls a0 a1 A1 c1 l1 A c o (kk : Int) true _ (Kd.C_below HR1.out (below_drew (Below.refl _ _))) hc1 (Kd.C_below HCr.out (below_drew (Below.refl _ _))) hoc HFIT.out).mono ?_; rintro e w1 ⟨rfl, hb1⟩))
      have HB1 := Aside0.mk (show Below wr.heap.size wr w1 from below_step (below_drew (Below.refl _ _)) hb1)
      have hs1_ := HSr.out.below HB1.out
      have p3 : w1.cell? ⟨gh, 3, none⟩ = some (.int .i64 bud) := (blk_cell hs1_.hb 3).trans rfl
      have p4 : w1.cell? ⟨gh, 4, none⟩ = some (.int .i64 tk) := (blk_cell hs1_.hb 4).trans rfl
      have p5 : w1.cell? ⟨gh, 5, none⟩ = some (.bool false) := (blk_cell hs1_.hb 5).trans rfl
      have f4 := blk_frozen hs1_.hb 4
      have f5 := blk_frozen hs1_.hb 5
      have HSX := Aside0.mk hs1_
      clear hb1 hs1_
      by_cases htb : tk = bud
      ·rw [if_pos htb] at hs1
       obtain rfl := Option.some.inj hs1
       have hxx := (if_pos (Or.inr rfl)).symm.trans HREST.out
       have HXX := Aside0.mk (Option.some.inj hxx)
       have g1 : (tk == bud) = true := by simp [htb]
       clear hs1 hxx
       go_wp2
       go_quiet (fail)
       go_wp2
       go_ret2
       obtain rfl := HXX.out
       exact ⟨_, rfl, keptH ((KP.out.below HB1.out).below (pw_below_drewN (Below.refl _ _) _)) 5 _, (HSX.out.below (pw_below_drewN (Below.refl _ _) _)).over HG.out, Kd.R_nil _ _ _ _ _⟩
      ·rw [if_neg htb] at hs1
       have HX1 := Aside0.mk hs1
       have g1 : (tk == bud) = false := by simp [htb]
       clear hs1
       have htk := HSr.out.ht
       have htk1 : tk < bud := by omega
       obtain ⟨xo, xok, xt, xov⟩ := x1
       go_wp2
       go_quiet (fail)
       rename_i nq
       have HS2 := Aside0.mk ((HSX.out.below (pw_below_drewN (Below.refl _ _) nq)).next HG.out htk1)
       have HK2 := Aside0.mk (keptH ((Kept.of_below HB1.out (fun k => k = gh)).below (pw_below_drewN (Below.refl _ _) nq)) 4 (.int .i64 (tk + 1)))
       have HCW := Aside0.mk (Kd.R_reads' (Kd.R_kept HRr.out HK2.out (fun k hk hS => hk hS))).2.2
       have LG := Aside0.mk (Nat.lt_of_lt_of_le HGW.out HK2.out.1)
       have LW := Aside0.mk HS2.out.bel.size
       have HWK := Aside0.mk (show IntKind.i64.wrap ((kk : Int) + 1) = (kk : Int) + 1 from IntWalk.i64_in _ (by omega))
       have HMX := Aside0.mk (show (if (u : Int) < (kk : Int) + 1 then (kk : Int) + 1 else (u : Int)) = ((max u (kk + 1) : Nat) : Int) from by split <;> omega)
   
       cases xok with
       | true =>
        have HXX := Aside0.mk (Option.some.inj ((if_pos (Or.inl rfl)).symm.trans HREST.out))
        go_wp2_with (first | (go_at_call 125; refine (slices_Clone_int64.calls A c o o _ HCW.out hoc HCL.out).mono ?_; rintro e w3 ⟨v3, rfl, ho3, hb3⟩; have HO3 := Aside0.mk ho3; have HB3 := Aside0.mk hb3; clear ho3 hb3) | ((with_reducible refine gate_dst (N := 66) rfl ?_); refine Kd.R_lit (Kd.int .i64) _ 2 ?hg (N := 66) ?hd (xs := ([(kk : Int)] : List Int)) (inner := [.int .i64 (kk : Int)]) (ok := fun _ => True) (okp := fun _ => True) ?hr ?hp (fun _ hk => hk) trivial (Below.refl _ _) (Nat.le_refl _) (by simp) ?_; (case hd => rfl); (case hg => rfl); (case hr => first | (go_simp; done) | (go_simp; rfl)); (case hp => exact (Reps.one (show Kd.M (Kd.int .i64) _ _ _ (kk : Int) [.int .i64 (kk : Int)] from rfl) (Reps.none _ _))); intro v4 w4 ho4 hb4 hg_ hnew_; clear hg_ hnew_; obtain ⟨B4, d4, rfl, hd4, hC4⟩ := Kd.R_reads ho4; have HC4 := Aside0.mk hC4; have HO4 := Aside0.mk (Kd.R_below HO3.out hb4); have HB4 := Aside0.mk (below_step HB3.out hb4); clear ho4 hb4 hC4 hd4) | ((with_reducible refine gate_builtin (b := .append) (xs := #[.tmp 64, .tmp 66]) rfl ?_); at_builtin; refine Kd.R_append_rows (Kd.int .i64) (w0 := ((w1.drewN nq).setCell ⟨gh, 4, none⟩ (.int .i64 (tk + 1)))) ((w1.drewN nq).setCell ⟨gh, 4, none⟩ (.int .i64 (tk + 1))).heap.size rfl (.tmp 64) (.tmp 66) 30 2 (.int .i64 0) 8 rfl Try.underlying30 info2 rfl (by decide) (by omega) v3 o [(kk : Int)] _ _ _ (fun _ => True) (fun _ => False) rfl rfl HO4.out HC4.out (fun _ _ h => h) (fun _ h => h.elim) (fun _ _ => trivial) HB4.out HB4.out.size (by have := HOL.out; simp; omega) ?_; intro v5 w5 ho5 hb5 _ _; have HO5 := Aside0.mk ho5; have HB5 := Aside0.mk hb5; clear ho5 hb5) | (go_at_call 84; have hc_ := (IH.out w5 v5 (o ++ [(kk : Int)]) (max u (kk + 1)) (tk + 1) (xo, true, xt, xov) (by have := HD.out; simp; omega) (by have := HUU.out; simp; omega) (Kd.R_lower (Kd.R_mono (Kd.R_bound HO5.out) (fun k hk => by have := hk.2.1; have := LG.out; omega)) LW.out) (HS2.out.below HB5.out) HX1.out); (first | rw [show ((max u (kk + 1) : Nat) : Int) = (kk : Int) + 1 by omega] at hc_ | rw [show ((max u (kk + 1) : Nat) : Int) = (u : Int) by omega] at hc_ | rw [← HMX.out] at hc_); refine hc_.mono ?_; rintro e w6 ⟨v6, rfl, hk6, hs6, hr6⟩; have z5 : w6.cell? ⟨gh, 5, none⟩ = some (.bool xov) := (blk_cell hs6.hb 5).trans rfl; obtain ⟨A6, c6, rfl, hc6, _⟩ := Kd.R_reads hr6; have HK6 := Aside0.mk hk6; have HS6 := Aside0.mk hs6; have HR6 := Aside0.mk hr6; clear hk6 hs6 hr6))
        all_goals
         go_ret2
         obtain rfl := HXX.out
         exact ⟨_, rfl, ((KP.out.then_ HK2.out (fun _ h => .inl h)).below HB5.out).then_ HK6.out (fun _ h => .inl h), HS6.out, HR6.out⟩
       | false =>
        cases xov with
        | true =>
         have HXX := Aside0.mk (Option.some.inj ((if_pos (Or.inr rfl)).symm.trans HREST.out))
         go_wp2_with (first | (go_at_call 125; refine (slices_Clone_int64.calls A c o o _ HCW.out hoc HCL.out).mono ?_; rintro e w3 ⟨v3, rfl, ho3, hb3⟩; have HO3 := Aside0.mk ho3; have HB3 := Aside0.mk hb3; clear ho3 hb3) | ((with_reducible refine gate_dst (N := 66) rfl ?_); refine Kd.R_lit (Kd.int .i64) _ 2 ?hg (N := 66) ?hd (xs := ([(kk : Int)] : List Int)) (inner := [.int .i64 (kk : Int)]) (ok := fun _ => True) (okp := fun _ => True) ?hr ?hp (fun _ hk => hk) trivial (Below.refl _ _) (Nat.le_refl _) (by simp) ?_; (case hd => rfl); (case hg => rfl); (case hr => first | (go_simp; done) | (go_simp; rfl)); (case hp => exact (Reps.one (show Kd.M (Kd.int .i64) _ _ _ (kk : Int) [.int .i64 (kk : Int)] from rfl) (Reps.none _ _))); intro v4 w4 ho4 hb4 hg_ hnew_; clear hg_ hnew_; obtain ⟨B4, d4, rfl, hd4, hC4⟩ := Kd.R_reads ho4; have HC4 := Aside0.mk hC4; have HO4 := Aside0.mk (Kd.R_below HO3.out hb4); have HB4 := Aside0.mk (below_step HB3.out hb4); clear ho4 hb4 hC4 hd4) | ((with_reducible refine gate_builtin (b := .append) (xs := #[.tmp 64, .tmp 66]) rfl ?_); at_builtin; refine Kd.R_append_rows (Kd.int .i64) (w0 := ((w1.drewN nq).setCell ⟨gh, 4, none⟩ (.int .i64 (tk + 1)))) ((w1.drewN nq).setCell ⟨gh, 4, none⟩ (.int .i64 (tk + 1))).heap.size rfl (.tmp 64) (.tmp 66) 30 2 (.int .i64 0) 8 rfl Try.underlying30 info2 rfl (by decide) (by omega) v3 o [(kk : Int)] _ _ _ (fun _ => True) (fun _ => False) rfl rfl HO4.out HC4.out (fun _ _ h => h) (fun _ h => h.elim) (fun _ _ => trivial) HB4.out HB4.out.size (by have := HOL.out; simp; omega) ?_; intro v5 w5 ho5 hb5 _ _; have HO5 := Aside0.mk ho5; have HB5 := Aside0.mk hb5; clear ho5 hb5) | (go_at_call 84; have hc_ := (IH.out w5 v5 (o ++ [(kk : Int)]) (max u (kk + 1)) (tk + 1) (xo, false, xt, true) (by have := HD.out; simp; omega) (by have := HUU.out; simp; omega) (Kd.R_lower (Kd.R_mono (Kd.R_bound HO5.out) (fun k hk => by have := hk.2.1; have := LG.out; omega)) LW.out) (HS2.out.below HB5.out) HX1.out); (first | rw [show ((max u (kk + 1) : Nat) : Int) = (kk : Int) + 1 by omega] at hc_ | rw [show ((max u (kk + 1) : Nat) : Int) = (u : Int) by omega] at hc_ | rw [← HMX.out] at hc_); refine hc_.mono ?_; rintro e w6 ⟨v6, rfl, hk6, hs6, hr6⟩; have z5 : w6.cell? ⟨gh, 5, none⟩ = some (.bool true) := (blk_cell hs6.hb 5).trans rfl; obtain ⟨A6, c6, rfl, hc6, _⟩ := Kd.R_reads hr6; have HK6 := Aside0.mk hk6; have HS6 := Aside0.mk hs6; have HR6 := Aside0.mk hr6; clear hk6 hs6 hr6))
         all_goals
          go_ret2
          obtain rfl := HXX.out
          exact ⟨_, rfl, ((KP.out.then_ HK2.out (fun _ h => .inl h)).below HB5.out).then_ HK6.out (fun _ h => .inl h), HS6.out, HR6.out⟩
        | false =>
         have HRE := Aside0.mk ((if_neg (by simp)).symm.trans HREST.out)
         go_wp2_with (first | (go_at_call 125; refine (slices_Clone_int64.calls A c o o _ HCW.out hoc HCL.out).mono ?_; rintro e w3 ⟨v3, rfl, ho3, hb3⟩; have HO3 := Aside0.mk ho3; have HB3 := Aside0.mk hb3; clear ho3 hb3) | ((with_reducible refine gate_dst (N := 66) rfl ?_); refine Kd.R_lit (Kd.int .i64) _ 2 ?hg (N := 66) ?hd (xs := ([(kk : Int)] : List Int)) (inner := [.int .i64 (kk : Int)]) (ok := fun _ => True) (okp := fun _ => True) ?hr ?hp (fun _ hk => hk) trivial (Below.refl _ _) (Nat.le_refl _) (by simp) ?_; (case hd => rfl); (case hg => rfl); (case hr => first | (go_simp; done) | (go_simp; rfl)); (case hp => exact (Reps.one (show Kd.M (Kd.int .i64) _ _ _ (kk : Int) [.int .i64 (kk : Int)] from rfl) (Reps.none _ _))); intro v4 w4 ho4 hb4 hg_ hnew_; clear hg_ hnew_; obtain ⟨B4, d4, rfl, hd4, hC4⟩ := Kd.R_reads ho4; have HC4 := Aside0.mk hC4; have HO4 := Aside0.mk (Kd.R_below HO3.out hb4); have HB4 := Aside0.mk (below_step HB3.out hb4); clear ho4 hb4 hC4 hd4) | ((with_reducible refine gate_builtin (b := .append) (xs := #[.tmp 64, .tmp 66]) rfl ?_); at_builtin; refine Kd.R_append_rows (Kd.int .i64) (w0 := ((w1.drewN nq).setCell ⟨gh, 4, none⟩ (.int .i64 (tk + 1)))) ((w1.drewN nq).setCell ⟨gh, 4, none⟩ (.int .i64 (tk + 1))).heap.size rfl (.tmp 64) (.tmp 66) 30 2 (.int .i64 0) 8 rfl Try.underlying30 info2 rfl (by decide) (by omega) v3 o [(kk : Int)] _ _ _ (fun _ => True) (fun _ => False) rfl rfl HO4.out HC4.out (fun _ _ h => h) (fun _ h => h.elim) (fun _ _ => trivial) HB4.out HB4.out.size (by have := HOL.out; simp; omega) ?_; intro v5 w5 ho5 hb5 _ _; have HO5 := Aside0.mk ho5; have HB5 := Aside0.mk hb5; clear ho5 hb5) | (go_at_call 84; have hc_ := (IH.out w5 v5 (o ++ [(kk : Int)]) (max u (kk + 1)) (tk + 1) (xo, false, xt, false) (by have := HD.out; simp; omega) (by have := HUU.out; simp; omega) (Kd.R_lower (Kd.R_mono (Kd.R_bound HO5.out) (fun k hk => by have := hk.2.1; have := LG.out; omega)) LW.out) (HS2.out.below HB5.out) HX1.out); (first | rw [show ((max u (kk + 1) : Nat) : Int) = (kk : Int) + 1 by omega] at hc_ | rw [show ((max u (kk + 1) : Nat) : Int) = (u : Int) by omega] at hc_ | rw [← HMX.out] at hc_); refine hc_.mono ?_; rintro e w6 ⟨v6, rfl, hk6, hs6, hr6⟩; have z5 : w6.cell? ⟨gh, 5, none⟩ = some (.bool false) := (blk_cell hs6.hb 5).trans rfl; obtain ⟨A6, c6, rfl, hc6, _⟩ := Kd.R_reads hr6; have HK6 := Aside0.mk hk6; have HS6 := Aside0.mk hs6; have HR6 := Aside0.mk hr6; clear hk6 hs6 hr6))
         all_goals
          go_roundg r
          case measure => omega
          case rel => exact ⟨kk + 1, r, xt, by omega, by omega, by go_num, HRE, ⟨((KP.out.then_ HK2.out (fun _ h => .inl h)).below HB5.out).then_ HK6.out (fun _ h => .inl h)⟩, HS6⟩

/-! ### impl_FewestLines: function 25 (told by hand) -/
def hangM (S : Nat → Int → Option (List Int × Bool × Int × Bool)) : Nat → Nat → Int → Option (List Int × Int × Int)
 | 0, _, _ => none
 | r + 1, m, t => (S m t).bind fun x => if x.2.1 = true then some (x.1, x.2.2.1, 0) else if x.2.2.2 = true then some ([], 0, 7) else if m + 1 ≤ 1000 then hangM S r (m + 1) x.2.2.1 else none
theorem hangM_mono (S : Nat → Int → Option (List Int × Bool × Int × Bool)) : ∀ (r m : Nat) (t : Int), LeO (hangM S r m t) (hangM S (r + 1) m t) := by
 intro r
 induction r with
 | zero => exact fun m t r h => by simp [hangM] at h
 | succ r ih =>
  intro m t
  rw [hangM, hangM]
  exact LeO.bind (LeO.refl _) (fun _ => LeO.ite (LeO.refl _) (LeO.ite (LeO.refl _) (LeO.ite (ih _ _) (LeO.refl _))))
def impl_FewestLines.f (k : Nat) (a0_0 : Int) (a0_1 : Int) (l1 : List S38) (a2 : Int) : Option (List Int × Int × Int) :=
 (impl_lineCode.f k a0_0 a0_1 l1).bind fun c1 => (impl_within.f a2 0 20000).bind fun b => (impl_unless.f b 2).bind fun c2 => (impl_Line_fitAlone.f a0_0 a0_1 l1).bind fun c3 => (impl_firstOf.f k [c1, c2, c3]).bind fun c => if c = 0 then (if l1.length ≤ 1000 ∧ 0 ≤ a2 ∧ a2 ≤ 20000 then hangM (fun m t => hangS (impl_Line_fitsBehind.f a0_0 a0_1 l1) a2 m l1.length [] 0 t) k 0 0 else none) else some ([], 0, c)
theorem impl_FewestLines.mono : ∀ a0 a1 a2 a3 k, LeO (impl_FewestLines.f k a0 a1 a2 a3) (impl_FewestLines.f (k + 1) a0 a1 a2 a3) := by
 intro a0 a1 a2 a3 k
 unfold impl_FewestLines.f
 exact LeO.bind (impl_lineCode.mono a0 a1 a2 k) (fun _ => LeO.bind (LeO.refl _) (fun _ => LeO.bind (LeO.refl _) (fun _ => LeO.bind (LeO.refl _) (fun _ => LeO.bind (impl_firstOf.mono _ k) (fun _ => LeO.ite (LeO.ite (hangM_mono _ _ _ _) (LeO.refl _)) (LeO.refl _))))))
theorem C_new3 (w : World) (x y z : Int) : Kd.C (Kd.int .i64) (w.alloc (.cells #[.int .i64 x, .int .i64 y, .int .i64 z] 2)) (some ⟨w.heap.size, 0, none⟩) [x, y, z].length [x, y, z] := by
 refine ⟨rfl, by simp, fun _ => ⟨_, rfl, fun j p hj => ?_⟩⟩
 rcases j with _ | _ | _ | j
 ·simp at hj
  subst hj
  refine ⟨[.int .i64 x], rfl, rfl, fun i u hu => ?_⟩
  rcases i with _ | i
  ·simp at hu
   subst hu
   first | (simp [go_sem]; done) | (simp [go_sem]; rfl)
  ·simp at hu
 ·simp at hj
  subst hj
  refine ⟨[.int .i64 y], rfl, rfl, fun i u hu => ?_⟩
  rcases i with _ | i
  ·simp at hu
   subst hu
   first | (simp [go_sem]; done) | (simp [go_sem]; rfl)
  ·simp at hu
 ·simp at hj
  subst hj
  refine ⟨[.int .i64 z], rfl, rfl, fun i u hu => ?_⟩
  rcases i with _ | i
  ·simp at hu
   subst hu
   first | (simp [go_sem]; done) | (simp [go_sem]; rfl)
  ·simp at hu
 ·simp at hj
set_option maxHeartbeats 4000000 in
set_option maxRecDepth 100000 in
theorem impl_FewestLines.calls (k : Nat) (a0_0 : Int) (a0_1 : Int) (A1 : Option Addr) (c1 : Nat) (l1 : List S38) (a2 : Int) (r1 : List Int) (r2 : Int) (r3 : Int) (w : World) (hr1 : Kd.C k38 w A1 l1.length l1) (hc1 : l1.length ≤ c1) (h : impl_FewestLines.f k a0_0 a0_1 l1 a2 = some (r1, r2, r3)) :
  Calls Try.prog 25 #[.agg #[.int .i16 a0_0, .int .i16 a0_1], .slice A1 l1.length c1, .int .i64 a2] w fun e w' => ∃ v0_ : Value, e = .returned (.tuple #[v0_, .int .i64 r2, .int .i64 r3]) ∧ Kd.R (Kd.int .i64) 2 w' w.heap.size (fun _ => True) v0_ r1 ∧ Below w.heap.size w w' := by
 obtain ⟨cl, hcl, h⟩ := Option.bind_eq_some_iff.mp h
 obtain ⟨bw, hbw, h⟩ := Option.bind_eq_some_iff.mp h
 obtain ⟨cu, hcu, h⟩ := Option.bind_eq_some_iff.mp h
 obtain ⟨ca, hca, h⟩ := Option.bind_eq_some_iff.mp h
 obtain ⟨cd, hcd, h⟩ := Option.bind_eq_some_iff.mp h
 have HCL := Aside0.mk hcl
 have HBW := Aside0.mk hbw
 have HCU := Aside0.mk hcu
 have HCA := Aside0.mk hca
 have HFO := Aside0.mk hcd
 have HR1 := Aside0.mk hr1
 have HH := Aside0.mk h
 have hn : l1.length ≤ 9223372036854775807 := hr1.2.1
 have hblk : (w.alloc (.cells #[.int .i16 a0_0, .int .i16 a0_1] 28)).heap[w.heap.size]? = some (.cells #[.int .i16 a0_0, .int .i16 a0_1] 28 (0, 0)) := blk_new w _
 have q0 : (w.alloc (.cells #[.int .i16 a0_0, .int .i16 a0_1] 28)).cell? ⟨w.heap.size, 0, none⟩ = some (.int .i16 a0_0) := (blk_cell hblk 0).trans rfl
 have q1 : (w.alloc (.cells #[.int .i16 a0_0, .int .i16 a0_1] 28)).cell? ⟨w.heap.size, 1, none⟩ = some (.int .i16 a0_1) := (blk_cell hblk 1).trans rfl
 have HQ0 := Aside0.mk q0
 have HQ1 := Aside0.mk q1
 clear hcl hbw hcu hca hcd hr1 h hblk q0 q1
 go_enter Try.func25, Try.ntmps25
 go_upto_region 1 with fail
 go_cut [9] (fun s9 wx => s9 = .int .i64 cd ∧ Aside0 (Below (w.alloc (.cells #[.int .i16 a0_0, .int .i16 a0_1] 28)).heap.size (w.alloc (.cells #[.int .i16 a0_0, .int .i16 a0_1] 28)) wx))
 case first =>
  go_region_held3 (fun w' => w'.cell? ⟨w.heap.size, 0, none⟩ = some (.int .i16 a0_0) ∧ w'.cell? ⟨w.heap.size, 1, none⟩ = some (.int .i16 a0_1))
   (exact ⟨pw_cell_below (by repeat (first | exact Below.refl _ _ | apply pw_below_drewN | apply below_drew | apply below_alloc | refine below_step ?_ hb1 | refine below_step ?_ hb2 | refine below_step ?_ hb3 | refine below_step ?_ hb4 | refine below_step ?_ hb5)) HQ0.out, pw_cell_below (by repeat (first | exact Below.refl _ _ | apply pw_below_drewN | apply below_drew | apply below_alloc | refine below_step ?_ hb1 | refine below_step ?_ hb2 | refine below_step ?_ hb3 | refine below_step ?_ hb4 | refine below_step ?_ hb5)) HQ1.out⟩)
   (first
    | (go_at_call 74; refine (impl_lineCode.calls k a0_0 a0_1 A1 c1 l1 cl _ (Kd.C_below HR1.out (by repeat (first | exact Below.refl _ _ | apply pw_below_drewN | apply below_drew | apply below_alloc | refine below_step ?_ hb1 | refine below_step ?_ hb2 | refine below_step ?_ hb3 | refine below_step ?_ hb4 | refine below_step ?_ hb5))) hc1 HCL.out).mono ?_; rintro e w1 ⟨rfl, hb1⟩)
    | (go_at_call 75; refine (impl_Line_fitAlone.calls a0_0 a0_1 A1 c1 l1 ca _ (Kd.C_below HR1.out (by repeat (first | exact Below.refl _ _ | apply pw_below_drewN | apply below_drew | apply below_alloc | refine below_step ?_ hb1 | refine below_step ?_ hb2 | refine below_step ?_ hb3 | refine below_step ?_ hb4 | refine below_step ?_ hb5))) hc1 HCA.out).mono ?_; rintro e w2 ⟨rfl, hb2⟩)
    | (go_at_call 83; refine (impl_within.calls a2 0 20000 bw _ HBW.out).mono ?_; rintro e w3 ⟨rfl, hd3⟩; have hb3 := hd3.below; clear hd3)
    | (go_at_call 82; refine (impl_unless.calls bw 2 cu _ HCU.out).mono ?_; rintro e w4 ⟨rfl, hd4⟩; have hb4 := hd4.below; clear hd4)
    | (go_at_call 73; refine (impl_firstOf.calls k _ 3 [cl, cu, ca] cd _ (by repeat (first | exact C_new3 _ cl cu ca | (with_reducible refine Kd.C_drewN ?_ _) | (with_reducible refine Kd.C_drew ?_))) (Nat.le_refl _) HFO.out).mono ?_; rintro e w5 ⟨rfl, hd5⟩; have hb5 := hd5.below; clear hd5))
  all_goals
   go_wp2_with fail
   go_meet
   exact ⟨rfl, ⟨(by repeat (first | exact Below.refl _ _ | apply pw_below_drewN | apply below_drew | apply below_alloc | refine below_step ?_ hb1 | refine below_step ?_ hb2 | refine below_step ?_ hb3 | refine below_step ?_ hb4 | refine below_step ?_ hb5))⟩⟩
 case rest =>
  obtain ⟨rfl, HB1⟩ := hcut
  have HBC := Aside0.mk (show Below w.heap.size w wc from below_step (below_alloc (Below.refl _ _) _) HB1.out)
  have p0 : wc.cell? ⟨w.heap.size, 0, none⟩ = some (.int .i16 a0_0) := pw_cell_below HB1.out HQ0.out
  have p1 : wc.cell? ⟨w.heap.size, 1, none⟩ = some (.int .i16 a0_1) := pw_cell_below HB1.out HQ1.out
  have h := HH.out
  by_cases h0 : cd = 0
  ·subst h0
   rw [if_pos rfl] at h
   by_cases hq : l1.length ≤ 1000 ∧ 0 ≤ a2 ∧ a2 ≤ 20000
   case neg => rw [if_neg hq] at h; cases h
   rw [if_pos hq] at h
   have HM := Aside0.mk h
   have HN := Aside0.mk hq.1
   have HQ := Aside0.mk hq.2
   clear h hq
   go_wp2
   go_loopg [11, 12, 13] k (fun gg v11 _ _ w' => ∃ (m : Nat) (tk : Int), m ≤ 1000 ∧ v11 = .int .i64 (m : Int) ∧ Aside0 (hangM (fun m t => hangS (impl_Line_fitsBehind.f a0_0 a0_1 l1) a2 m l1.length [] 0 t) gg m tk = some (r1, r2, r3)) ∧ Aside0 (StH wc wc.heap.size a0_0 a0_1 l1 A1 c1 a2 w' tk false))
   case atStart => exact ⟨0, 0, by omega, rfl, HM, ⟨⟨below_alloc (Below.refl _ _) _, blk_new wc _, ⟨Int.le_refl _, HQ.out.1⟩⟩⟩⟩
   case round =>
    obtain ⟨m, tk, hm, rfl, HMr, HSr⟩ := hrel
    cases gk with
    | zero => exact absurd HMr.out (by simp [hangM])
    | succ r =>
     have hf := HMr.out
     rw [hangM] at hf
     obtain ⟨x1, hst, hrest⟩ := Option.bind_eq_some_iff.mp hf
     obtain ⟨xo, xok, xt, xov⟩ := x1
     have HST := Aside0.mk hst
     have HREST := Aside0.mk hrest
     clear hf hst hrest
     cases xok with
     | true =>
      have HX := Aside0.mk (Option.some.inj ((if_pos rfl).symm.trans HREST.out))
      go_wp2_with (go_at_call 84; refine (hang_calls wc wc.heap.size a0_0 a0_1 l1 A1 c1 a2 m HN.out hm (Nat.le_refl _) (by have := HQ.out.2; omega) (Kd.C_below HR1.out HBC.out) hc1 l1.length _ (.slice none 0 0) [] 0 tk (xo, true, xt, xov) (by simp) (Nat.le_refl _) (Kd.R_nil _ _ _ _ _) HSr.out HST.out).mono ?_; rintro e w6 ⟨v6, rfl, hk6, hs6, hr6⟩; obtain ⟨A6, c6, rfl, hc6, _⟩ := Kd.R_reads hr6; have z4 : w6.cell? ⟨wc.heap.size, 4, none⟩ = some (.int .i64 xt) := (blk_cell hs6.hb 4).trans rfl; have z5 : w6.cell? ⟨wc.heap.size, 5, none⟩ = some (.bool xov) := (blk_cell hs6.hb 5).trans rfl; have HK6 := Aside0.mk hk6; have HS6 := Aside0.mk hs6; have HR6 := Aside0.mk hr6; clear hk6 hs6 hr6)
      go_quiet (fail)
      go_wp2
      go_ret3
      have hx := HX.out
      simp only [Prod.mk.injEq] at hx
      obtain ⟨rfl, rfl, rfl⟩ := hx
      exact ⟨_, rfl, Kd.R_drewN (Kd.R_mono (Kd.R_lower HR6.out HBC.out.size) (fun _ _ => trivial)) _, pw_below_drewN (below_step HBC.out HS6.out.bel) _⟩
     | false =>
      cases xov with
      | true =>
       have HX := Aside0.mk (Option.some.inj ((if_pos rfl).symm.trans ((if_neg (by simp)).symm.trans HREST.out)))
       go_wp2_with (go_at_call 84; refine (hang_calls wc wc.heap.size a0_0 a0_1 l1 A1 c1 a2 m HN.out hm (Nat.le_refl _) (by have := HQ.out.2; omega) (Kd.C_below HR1.out HBC.out) hc1 l1.length _ (.slice none 0 0) [] 0 tk (xo, false, xt, true) (by simp) (Nat.le_refl _) (Kd.R_nil _ _ _ _ _) HSr.out HST.out).mono ?_; rintro e w6 ⟨v6, rfl, hk6, hs6, hr6⟩; obtain ⟨A6, c6, rfl, hc6, _⟩ := Kd.R_reads hr6; have z4 : w6.cell? ⟨wc.heap.size, 4, none⟩ = some (.int .i64 xt) := (blk_cell hs6.hb 4).trans rfl; have z5 : w6.cell? ⟨wc.heap.size, 5, none⟩ = some (.bool true) := (blk_cell hs6.hb 5).trans rfl; have HK6 := Aside0.mk hk6; have HS6 := Aside0.mk hs6; have HR6 := Aside0.mk hr6; clear hk6 hs6 hr6)
       go_ret3
       have hx := HX.out
       simp only [Prod.mk.injEq] at hx
       obtain ⟨rfl, rfl, rfl⟩ := hx
       exact ⟨_, rfl, Kd.R_nil _ _ _ _ _, below_step HBC.out HS6.out.bel⟩
      | false =>
       have hx := (if_neg (by simp)).symm.trans ((if_neg (by simp)).symm.trans HREST.out)
       by_cases hm1 : m + 1 ≤ 1000
       case neg => rw [if_neg hm1] at hx; cases hx
       rw [if_pos hm1] at hx
       have HX := Aside0.mk hx
       clear hx
       go_wp2_with (go_at_call 84; refine (hang_calls wc wc.heap.size a0_0 a0_1 l1 A1 c1 a2 m HN.out hm (Nat.le_refl _) (by have := HQ.out.2; omega) (Kd.C_below HR1.out HBC.out) hc1 l1.length _ (.slice none 0 0) [] 0 tk (xo, false, xt, false) (by simp) (Nat.le_refl _) (Kd.R_nil _ _ _ _ _) HSr.out HST.out).mono ?_; rintro e w6 ⟨v6, rfl, hk6, hs6, hr6⟩; obtain ⟨A6, c6, rfl, hc6, _⟩ := Kd.R_reads hr6; have z4 : w6.cell? ⟨wc.heap.size, 4, none⟩ = some (.int .i64 xt) := (blk_cell hs6.hb 4).trans rfl; have z5 : w6.cell? ⟨wc.heap.size, 5, none⟩ = some (.bool false) := (blk_cell hs6.hb 5).trans rfl; have HK6 := Aside0.mk hk6; have HS6 := Aside0.mk hs6; have HR6 := Aside0.mk hr6; clear hk6 hs6 hr6)
       go_roundg r
       case measure => omega
       case rel => exact ⟨m + 1, xt, hm1, by go_num, HX, HS6⟩
  ·rw [if_neg h0] at h
   simp only [Option.some.injEq, Prod.mk.injEq] at h
   obtain ⟨rfl, rfl, rfl⟩ := h
   have hc1' : (cd != 0) = true := by simp [h0]
   have hc2' : (cd == 0) = false := by simp [h0]
   clear h0
   go_wp2
   go_ret3
   exact ⟨_, rfl, Kd.R_nil _ _ _ _ _, HBC.out⟩

/-! ### spec_l00In: function 85 -/
def spec_l00In.f (a0 : Int) (a1 : Int) (a2 : Int) : Option (Bool) := if a0 ≥ a1 then (some (decide (a0 ≤ a2))) else (some false)
set_option maxHeartbeats 8000000 in
set_option maxRecDepth 100000 in
theorem spec_l00In.calls (a0 : Int) (a1 : Int) (a2 : Int) (r : Bool) (w : World) (h : spec_l00In.f a0 a1 a2 = some r) :
  Calls Try.prog 85 #[.int .i64 a0, .int .i64 a1, .int .i64 a2] w fun e w' => e = .returned (.bool r) ∧ Drawn0 w w' := by
 have H : (if a0 ≥ a1 then (some (decide (a0 ≤ a2))) else (some false)) = some r := h
 clear h
 by_cases c4 : a0 ≥ a1
 ·rw [if_pos c4] at H
  have c4b0 : decide (a1 ≤ a0) = true := decide_eq_true c4
  clear c4
  obtain rfl := Option.some.inj H
  go_enter Try.func85, Try.ntmps85
  go_wp2
  go_ret
  exact ⟨by first | rfl | (simp; done) | (simp [*]; done), by repeat (first | exact Drawn0.refl _ | apply Drawn0.step)⟩
 ·rw [if_neg c4] at H
  have c4b0 : decide (a1 ≤ a0) = false := decide_eq_false c4
  clear c4
  obtain rfl := Option.some.inj H
  go_enter Try.func85, Try.ntmps85
  go_wp2
  go_ret
  exact ⟨by first | rfl | (simp; done) | (simp [*]; done), by repeat (first | exact Drawn0.refl _ | apply Drawn0.step)⟩

end Go.Proofs.Ytlkpgpnieodifaa.Fl
