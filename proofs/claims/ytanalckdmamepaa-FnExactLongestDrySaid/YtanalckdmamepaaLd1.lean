/- Functions of the program as Lean functions; of each a proof that the machine's call does what its Lean function says. -/
import Derived.Test.YtanalckdmamepaaLd0
namespace Go.Proofs.Ytanalckdmamepaa.Ld
open Go.RowKit Go.Proofs.YtanalckdmamepaaW.PrintWords Go.Proofs.YtanalckdmamepaaW.PrintLast Go.Proofs.YtanalckdmamepaaW.PrintMore
attribute [local go_sem] max2_int min2_int max_two min_two max_three min_three max_four min_four   -- for this text's walks alone
set_option linter.unusedVariables false
set_option linter.unusedSimpArgs false

/-! ### laws_toWeather: function 13 -/
def laws_toWeather.f (a0_0 : Int) (a0_1 : Int) (a0_2 : Int) : Option (Int × Int × Int) := some (a0_0, a0_1, a0_2)
set_option maxHeartbeats 8000000 in
set_option maxRecDepth 100000 in
theorem laws_toWeather.calls (a0_0 : Int) (a0_1 : Int) (a0_2 : Int) (r1 : Int) (r2 : Int) (r3 : Int) (w : World) (h : laws_toWeather.f a0_0 a0_1 a0_2 = some (r1, r2, r3)) :
  Calls Try.prog 13 #[.agg #[.int .i8 a0_0, .int .i8 a0_1, .int .i8 a0_2]] w fun e w' => e = .returned (.agg #[.int .i8 r1, .int .i8 r2, .int .i8 r3]) ∧ Below w.heap.size w w' := by
 have hu24 := Try.underlying24
 have hu27 := Try.underlying27
 have HB := Aside0.mk (Below.refl w.heap.size w)
 have H : (some (a0_0, a0_1, a0_2)) = some (r1, r2, r3) := h
 clear h
 simp only [Option.some.injEq, Prod.mk.injEq] at H
 obtain ⟨rfl, rfl, rfl⟩ := H
 go_enter Try.func13, Try.ntmps13
 go_wp2_with (first | ((with_reducible refine gate_dst (N := 1) rfl ?_); refine box_event ?hg (N := 1) ?hd (cs := #[.int .i8 a0_0, .int .i8 a0_1, .int .i8 a0_2]) (t := 24) ?hr ?_; (case hd => rfl); (case hg => rfl); (case hr => first | (go_simp; done) | (go_simp; rfl)); intro gb101 hg w2 hbox hb; have n0_ := Aside0.mk (below_step (by repeat (first | (with_reducible first | exact HB.out | apply below_alloc | apply pw_below_drewN | apply below_drew1) | exact HB.out)) hb); have n1_ := Aside0.mk (hbox); have n2_ := Aside0.mk ((by rw [hg]; exact (below_size (by repeat (first | (with_reducible first | exact HB.out | apply below_alloc | apply pw_below_drewN | apply below_drew1) | exact HB.out))) : w.heap.size ≤ gb101)); have n3_ := Aside0.mk ((by rw [hg]; exact (below_size (by repeat (first | (with_reducible first | exact HB.out | apply below_alloc | apply pw_below_drewN | apply below_drew1) | exact HB.out))) : w.heap.size ≤ gb101)); clear HB; have HB := n0_; have BK101 := n1_; have GW101 := n2_; have GE101 := n3_; clear n0_ n1_ n2_ n3_; clear hb hbox hg) | ((with_reducible refine gate_dst (N := 2) rfl ?_); refine box_event ?hg (N := 2) ?hd (cs := #[.int .i8 0, .int .i8 0, .int .i8 0]) (t := 27) ?hr ?_; (case hd => rfl); (case hg => rfl); (case hr => first | (go_simp; done) | (go_simp; rfl)); intro gb102 hg w3 hbox hb; have n0_ := Aside0.mk (blk_below (g := gb101) (o := .cells #[.int .i8 a0_0, .int .i8 a0_1, .int .i8 a0_2] 24 (0, 0)) (by (with_reducible repeat (first | refine blk_drewN ?_ _ | refine blk_drew ?_ | refine blk_alloc ?_ _)); exact BK101.out) hb); have n1_ := Aside0.mk (below_step (by repeat (first | (with_reducible first | exact HB.out | apply below_alloc | apply pw_below_drewN | apply below_drew1 | refine below_set ?_ GE101.out) | exact HB.out)) hb); have n2_ := Aside0.mk (hbox); have n3_ := Aside0.mk ((by rw [hg]; exact (below_size (by repeat (first | (with_reducible first | exact HB.out | apply below_alloc | apply pw_below_drewN | apply below_drew1 | refine below_set ?_ GE101.out) | exact HB.out))) : w.heap.size ≤ gb102)); have n4_ := Aside0.mk ((by rw [hg]; exact (below_size (by repeat (first | (with_reducible first | exact HB.out | apply below_alloc | apply pw_below_drewN | apply below_drew1 | refine below_set ?_ GE101.out) | exact HB.out))) : w.heap.size ≤ gb102)); have n5_ := Aside0.mk ((by rw [hg]; exact Nat.ne_of_lt (blk_lt (g := gb101) (o := .cells #[.int .i8 a0_0, .int .i8 a0_1, .int .i8 a0_2] 24 (0, 0)) (by (with_reducible repeat (first | refine blk_drewN ?_ _ | refine blk_drew ?_ | refine blk_alloc ?_ _)); exact BK101.out)) : gb101 ≠ gb102)); have n6_ := Aside0.mk ((by rw [hg]; exact Nat.ne_of_gt (blk_lt (g := gb101) (o := .cells #[.int .i8 a0_0, .int .i8 a0_1, .int .i8 a0_2] 24 (0, 0)) (by (with_reducible repeat (first | refine blk_drewN ?_ _ | refine blk_drew ?_ | refine blk_alloc ?_ _)); exact BK101.out)) : gb102 ≠ gb101)); clear BK101; clear HB; have BK101 := n0_; have HB := n1_; have BK102 := n2_; have GW102 := n3_; have GE102 := n4_; have NB101_102 := n5_; have NB102_101 := n6_; clear n0_ n1_ n2_ n3_ n4_ n5_ n6_; clear hb hbox hg) | ((with_reducible refine gate_dst (N := 3) rfl ?_); refine box_event ?hg (N := 3) ?hd (cs := #[.int .i8 0, .int .i8 0, .int .i8 0]) (t := 27) ?hr ?_; (case hd => rfl); (case hg => rfl); (case hr => first | (go_simp; done) | (go_simp; rfl)); intro gb103 hg w4 hbox hb; have n0_ := Aside0.mk (blk_below (g := gb101) (o := .cells #[.int .i8 a0_0, .int .i8 a0_1, .int .i8 a0_2] 24 (0, 0)) (by (with_reducible repeat (first | refine blk_drewN ?_ _ | refine blk_drew ?_ | refine blk_alloc ?_ _)); exact BK101.out) hb); have n1_ := Aside0.mk (blk_below (g := gb102) (o := .cells #[.int .i8 0, .int .i8 0, .int .i8 0] 27 (0, 0)) (by (with_reducible repeat (first | refine blk_drewN ?_ _ | refine blk_drew ?_ | refine blk_alloc ?_ _)); exact BK102.out) hb); have n2_ := Aside0.mk (below_step (by repeat (first | (with_reducible first | exact HB.out | apply below_alloc | apply pw_below_drewN | apply below_drew1 | refine below_set ?_ GE101.out | refine below_set ?_ GE102.out) | exact HB.out)) hb); have n3_ := Aside0.mk (hbox); have n4_ := Aside0.mk ((by rw [hg]; exact (below_size (by repeat (first | (with_reducible first | exact HB.out | apply below_alloc | apply pw_below_drewN | apply below_drew1 | refine below_set ?_ GE101.out | refine below_set ?_ GE102.out) | exact HB.out))) : w.heap.size ≤ gb103)); have n5_ := Aside0.mk ((by rw [hg]; exact (below_size (by repeat (first | (with_reducible first | exact HB.out | apply below_alloc | apply pw_below_drewN | apply below_drew1 | refine below_set ?_ GE101.out | refine below_set ?_ GE102.out) | exact HB.out))) : w.heap.size ≤ gb103)); have n6_ := Aside0.mk ((by rw [hg]; exact Nat.ne_of_lt (blk_lt (g := gb101) (o := .cells #[.int .i8 a0_0, .int .i8 a0_1, .int .i8 a0_2] 24 (0, 0)) (by (with_reducible repeat (first | refine blk_drewN ?_ _ | refine blk_drew ?_ | refine blk_alloc ?_ _)); exact BK101.out)) : gb101 ≠ gb103)); have n7_ := Aside0.mk ((by rw [hg]; exact Nat.ne_of_gt (blk_lt (g := gb101) (o := .cells #[.int .i8 a0_0, .int .i8 a0_1, .int .i8 a0_2] 24 (0, 0)) (by (with_reducible repeat (first | refine blk_drewN ?_ _ | refine blk_drew ?_ | refine blk_alloc ?_ _)); exact BK101.out)) : gb103 ≠ gb101)); have n8_ := Aside0.mk ((by rw [hg]; exact Nat.ne_of_lt (blk_lt (g := gb102) (o := .cells #[.int .i8 0, .int .i8 0, .int .i8 0] 27 (0, 0)) (by (with_reducible repeat (first | refine blk_drewN ?_ _ | refine blk_drew ?_ | refine blk_alloc ?_ _)); exact BK102.out)) : gb102 ≠ gb103)); have n9_ := Aside0.mk ((by rw [hg]; exact Nat.ne_of_gt (blk_lt (g := gb102) (o := .cells #[.int .i8 0, .int .i8 0, .int .i8 0] 27 (0, 0)) (by (with_reducible repeat (first | refine blk_drewN ?_ _ | refine blk_drew ?_ | refine blk_alloc ?_ _)); exact BK102.out)) : gb103 ≠ gb102)); clear BK101; clear BK102; clear HB; have BK101 := n0_; have BK102 := n1_; have HB := n2_; have BK103 := n3_; have GW103 := n4_; have GE103 := n5_; have NB101_103 := n6_; have NB103_101 := n7_; have NB102_103 := n8_; have NB103_102 := n9_; clear n0_ n1_ n2_ n3_ n4_ n5_ n6_ n7_ n8_ n9_; clear hb hbox hg; have hnb5 := NB101_102.out; have hnc5 := NB102_101.out; have hnb6 := NB101_103.out; have hnc6 := NB103_101.out; have hcz7_0 : w4.cell? ⟨gb101, 0, none⟩ = some (.int .i8 a0_0) := (blk_cell BK101.out 0).trans rfl; have hcz7_1 : w4.cell? ⟨gb101, 1, none⟩ = some (.int .i8 a0_1) := (blk_cell BK101.out 1).trans rfl; have hcz7_2 : w4.cell? ⟨gb101, 2, none⟩ = some (.int .i8 a0_2) := (blk_cell BK101.out 2).trans rfl; have hfz7_0 := blk_frozen BK101.out 0; have hfz7_1 := blk_frozen BK101.out 1; have hfz7_2 := blk_frozen BK101.out 2; have hnb8 := NB103_102.out; have hnc8 := NB102_103.out; have hcz9_0 : w4.cell? ⟨gb103, 0, none⟩ = some (.int .i8 0) := (blk_cell BK103.out 0).trans rfl; have hcz9_1 : w4.cell? ⟨gb103, 1, none⟩ = some (.int .i8 0) := (blk_cell BK103.out 1).trans rfl; have hcz9_2 : w4.cell? ⟨gb103, 2, none⟩ = some (.int .i8 0) := (blk_cell BK103.out 2).trans rfl; have hfz9_0 := blk_frozen BK103.out 0; have hfz9_1 := blk_frozen BK103.out 1; have hfz9_2 := blk_frozen BK103.out 2; have hcz10_0 : w4.cell? ⟨gb102, 0, none⟩ = some (.int .i8 0) := (blk_cell BK102.out 0).trans rfl; have hcz10_1 : w4.cell? ⟨gb102, 1, none⟩ = some (.int .i8 0) := (blk_cell BK102.out 1).trans rfl; have hcz10_2 : w4.cell? ⟨gb102, 2, none⟩ = some (.int .i8 0) := (blk_cell BK102.out 2).trans rfl; have hfz10_0 := blk_frozen BK102.out 0; have hfz10_1 := blk_frozen BK102.out 1; have hfz10_2 := blk_frozen BK102.out 2))
 refine bodyPost_ret (results_cell_row rfl _ _ gb102 27 #[.int .i8 a0_0, .int .i8 a0_1, .int .i8 a0_2] (0, 0) _ rfl (by (with_reducible repeat (first | refine blk_drewN ?_ _ | refine blk_drew ?_ | refine blk_alloc ?_ _)); refine blk_put (cs := #[.int .i8 a0_0, .int .i8 a0_1, .int .i8 0]) ?_ 2 _ rfl; (with_reducible repeat (first | refine blk_drewN ?_ _ | refine blk_drew ?_ | refine blk_alloc ?_ _)); refine blk_put (cs := #[.int .i8 a0_0, .int .i8 0, .int .i8 0]) ?_ 1 _ rfl; (with_reducible repeat (first | refine blk_drewN ?_ _ | refine blk_drew ?_ | refine blk_alloc ?_ _)); refine blk_put (cs := #[.int .i8 0, .int .i8 0, .int .i8 0]) ?_ 0 _ rfl; (with_reducible repeat (first | refine blk_drewN ?_ _ | refine blk_drew ?_ | refine blk_alloc ?_ _)); refine blk_far ?_ NB102_103.out _; (with_reducible repeat (first | refine blk_drewN ?_ _ | refine blk_drew ?_ | refine blk_alloc ?_ _)); refine blk_far ?_ NB102_103.out _; (with_reducible repeat (first | refine blk_drewN ?_ _ | refine blk_drew ?_ | refine blk_alloc ?_ _)); refine blk_far ?_ NB102_103.out _; (with_reducible repeat (first | refine blk_drewN ?_ _ | refine blk_drew ?_ | refine blk_alloc ?_ _)); exact BK102.out) Try.underlying27 rfl (by kernel_rfl)) rfl ?_
 exact ⟨by first | rfl | (simp [errW_none, errW_some] <;> rfl) | (simp [*, errW_none, errW_some] <;> rfl), by repeat (first | (with_reducible first | exact HB.out | apply below_alloc | apply pw_below_drewN | apply below_drew1 | refine below_set ?_ GE101.out | refine below_set ?_ GE102.out | refine below_set ?_ GE103.out) | exact HB.out)⟩

/-! ### slices_IndexFunc_impl_Weather: function 25 (told by hand) -/
set_option maxHeartbeats 2000000 in
theorem IndexFunc_27 (A0 : Option Addr) (c0 : Nat) (l0 : List S27) (g : Nat) (lb : Array Value) (p : S27 → Bool) (w : World) (hr0 : Kd.C k27 w A0 l0.length l0)
  (eg : ∀ args w, (callFunc g args).run Try.prog w = .ok (.enter g args) w)
  (hp : ∀ (W : World) (x : S27), x ∈ l0 → Below w.heap.size w W → Calls Try.prog g (#[.agg #[.int .i8 x.f0, .int .i8 x.f1, .int .i8 x.f2]] ++ lb) W fun e w' => e = .returned (.bool (p x)) ∧ Below W.heap.size W w') :
  Calls Try.prog 25 #[.slice A0 l0.length c0, .func (.func g) #[] lb] w fun e w' => e = .returned (.int .i64 (Own.firstIdx p l0)) ∧ Below w.heap.size w w' := by
 have HR0 := Aside0.mk hr0
 have hn : l0.length ≤ 9223372036854775807 := hr0.2.1
 have HP := Aside0.mk hp
 clear hr0 hp
 go_enter Try.func25, Try.ntmps25
 go_wp2
 go_loopg [5, 8] l0.length (fun gg _ v8 w' => ∃ kk : Nat, kk ≤ l0.length ∧ l0.length - kk ≤ gg ∧ v8 = .int .i64 kk ∧ Aside0 (Below w.heap.size w w') ∧ Aside0 (∀ j, (h : j < kk) → (h2 : j < l0.length) → p l0[j] = false))
 case atStart => exact ⟨0, Nat.zero_le _, by omega, rfl, ⟨Below.refl _ w⟩, ⟨fun j hj => absurd hj (Nat.not_lt_zero _)⟩⟩
 case round =>
  obtain ⟨kk, hkk, hg, rfl, BW, AF⟩ := hrel
  by_cases hlt : kk < l0.length
  ·have hlti : (kk : Int) < (l0.length : Int) := by omega
   have hcall := HP.out wr l0[kk] (List.getElem_mem hlt) BW.out
   obtain ⟨ad, e1, hx0, hx1, hx2⟩ := at_T27 (Kd.C_below HR0.out BW.out) (kk : Int) (by omega) hlti
   cases e1
   have ey : rd_T27 l0 (kk : Int) = l0[kk] := by simp [rd_T27, List.getD_eq_getElem?_getD, List.getElem?_eq_getElem hlt]
   rw [ey] at hx0 hx1 hx2
   simp only [Int.toNat_natCast] at hx0 hx1 hx2
   obtain ⟨y, hy⟩ : ∃ y, l0[kk] = y := ⟨_, rfl⟩
   rw [hy] at hx0 hx1 hx2 hcall
   have HY := Aside0.mk hy
   clear hy ey
   cases hq : p y with
   | true =>
    rw [hq] at hcall
    have HQ := Aside0.mk hq
    clear hq
    go_wp2_with (go_at_fn g; refine hcall.mono ?_; rintro e w1 ⟨rfl, hb1⟩)
    go_ret
    refine ⟨?_, below_step BW.out hb1⟩
    rw [Own.firstIdx_hit hlt (fun j hj => AF.out j hj (by omega)) (by rw [HY.out]; exact HQ.out)]
    rfl
   | false =>
    rw [hq] at hcall
    have HQ := Aside0.mk hq
    clear hq
    go_wp2_with (go_at_fn g; refine hcall.mono ?_; rintro e w1 ⟨rfl, hb1⟩)
    go_roundg (l0.length - (kk + 1))
    case measure => omega
    case rel =>
     refine ⟨kk + 1, by omega, by omega, by go_num, ⟨below_step BW.out hb1⟩, ⟨fun j hj h2 => ?_⟩⟩
     by_cases e : j = kk
     ·subst e
      rw [HY.out]; exact HQ.out
     ·exact AF.out j (by omega) h2
  ·have hlti : ¬ (kk : Int) < (l0.length : Int) := by omega
   go_wp2
   go_ret
   refine ⟨?_, BW.out⟩
   rw [Own.firstIdx_miss (fun j hj => AF.out j (by omega) hj)]
   rfl

/-! ### laws_toDay: function 7 (told by hand) -/
def cs3 (x : S27) : List Value := [.int .i8 x.f0, .int .i8 x.f1, .int .i8 x.f2]
def dayC (ws : List S27) : List Value := ws.flatMap cs3
theorem dayC_len (ws : List S27) : (dayC ws).length = ws.length * 3 := by
 unfold dayC
 induction ws with
 | nil => rfl
 | cons x xs ih => rw [List.flatMap_cons, List.length_append, ih, List.length_cons]; simp [cs3]; omega
theorem dayC_size (ws : List S27) (h : ws.length = 24) : (dayC ws).toArray.size = 72 := by
 rw [List.size_toArray, dayC_len, h]
theorem dayC_get (ws : List S27) (i j : Nat) (h : i < ws.length) (hj : j < 3) : (dayC ws)[i * 3 + j]? = (cs3 ws[i])[j]? := by
 unfold dayC
 induction ws generalizing i with
 | nil => simp at h
 | cons x xs ih =>
  rw [List.flatMap_cons]
  rcases i with _ | i
  ·rw [List.getElem?_append_left (by simp [cs3]; omega)]
   simp
  ·rw [List.getElem?_append_right (by simp [cs3]; omega)]
   have := ih i (by simpa using h)
   simp only [List.getElem_cons_succ]
   rw [← this]
   congr 1
   simp [cs3]
   omega
theorem dayC_one (ws : List S27) : (dayC ws).toArray.all (·.oneCell') = true := by
 rw [List.all_toArray]
 unfold dayC
 rw [List.all_flatMap, List.all_eq_true]
 intro x _
 rfl
theorem dayC_append (a b : List S27) : dayC (a ++ b) = dayC a ++ dayC b := by unfold dayC; rw [List.flatMap_append]
theorem day_cell {W : World} {g t : Nat} {ws : List S27} (hg : W.heap[g]? = some (.cells (dayC ws).toArray t (0, 0))) (i j : Nat) (h : i < ws.length) (hj : j < 3) : W.cell? ⟨g, i * 3 + j, none⟩ = (cs3 ws[i])[j]? := by
 rw [cell_of_row _ g _ _ t (0, 0) hg, List.getElem?_toArray]
 exact dayC_get ws i j h hj
/-- The day with its first places taken. -/
def dayPart (ws : List S27) (k : Nat) : List S27 := ws.take k ++ List.replicate (ws.length - k) z27
theorem dayPart_len (ws : List S27) (k : Nat) (h : k ≤ ws.length) : (dayPart ws k).length = ws.length := by
 unfold dayPart
 rw [List.length_append, List.length_take, List.length_replicate]
 omega
theorem dayPart_all (ws : List S27) : dayPart ws ws.length = ws := by simp [dayPart]
theorem dayPart_zero (ws : List S27) : dayPart ws 0 = List.replicate ws.length z27 := by simp [dayPart]
theorem dayPart_set (ws : List S27) (k : Nat) (h : k < ws.length) : (((dayC (dayPart ws k)).set (k * 3) (.int .i8 ws[k].f0)).set (k * 3 + 1) (.int .i8 ws[k].f1)).set (k * 3 + 2) (.int .i8 ws[k].f2) = dayC (dayPart ws (k + 1)) := by
 have e1 : dayPart ws k = ws.take k ++ z27 :: List.replicate (ws.length - (k + 1)) z27 := by
  unfold dayPart
  rw [show ws.length - k = (ws.length - (k + 1)) + 1 by omega, List.replicate_succ]
 have e2 : dayPart ws (k + 1) = ws.take k ++ ws[k] :: List.replicate (ws.length - (k + 1)) z27 := by
  unfold dayPart
  rw [List.take_succ_eq_append_getElem h, List.append_assoc]
  rfl
 have hl : (dayC (ws.take k)).length = k * 3 := by rw [dayC_len, List.length_take]; congr 1; omega
 rw [e1, e2, dayC_append, dayC_append]
 rw [List.set_append_right _ _ (by omega), List.set_append_right _ _ (by omega), List.set_append_right _ _ (by omega), hl]
 congr 1
 simp [dayC, cs3]
theorem day_there {W : World} {g t : Nat} {ws : List S27} (hg : W.heap[g]? = some (.cells (dayC ws).toArray t (0, 0))) (i : Nat) (h : i < ws.length) : W.there g (i * 3) 3 := by
 intro j hj
 refine ⟨?_, blk_frozen hg _⟩
 rw [day_cell hg i j h hj, List.getElem?_eq_getElem (show j < (cs3 ws[i]).length from hj)]
 rfl
theorem day_put {W : World} {g t : Nat} {ws ws' : List S27} (hg : W.heap[g]? = some (.cells (dayC ws).toArray t (0, 0))) (i : Nat) (a b c : Int)
  (hs : (((dayC ws).set (i * 3) (.int .i8 a)).set (i * 3 + 1) (.int .i8 b)).set (i * 3 + 2) (.int .i8 c) = dayC ws') :
  (W.setCells g (i * 3) [.int .i8 a, .int .i8 b, .int .i8 c]).heap[g]? = some (.cells (dayC ws').toArray t (0, 0)) := by
 have h1 := blk_set hg (i * 3) (.int .i8 a)
 have h2 := blk_set h1 (i * 3 + 1) (.int .i8 b)
 have h3 := blk_set h2 (i * 3 + 2) (.int .i8 c)
 simp only [List.setIfInBounds_toArray] at h3
 rw [hs] at h3
 exact h3
theorem blk_cells_far {W : World} {g g' t : Nat} {cs : Array Value} (h : W.heap[g]? = some (.cells cs t (0, 0))) (hne : g ≠ g') : ∀ (o : Nat) (vs : List Value), (W.setCells g' o vs).heap[g]? = some (.cells cs t (0, 0)) := by
 intro o vs
 induction vs generalizing W o with
 | nil => exact h
 | cons v vs ih => exact ih (blk_far (p := ⟨g', o, none⟩) h hne v) (o + 1)
theorem below_cells {B : Nat} {W0 W : World} {g : Nat} (h : Below B W0 W) (hg : B ≤ g) : ∀ (o : Nat) (vs : List Value), Below B W0 (W.setCells g o vs) := by
 intro o vs
 induction vs generalizing W o with
 | nil => exact h
 | cons v vs ih => exact ih (h.setCell hg v) (o + 1)
set_option maxHeartbeats 8000000 in
set_option maxRecDepth 100000 in
theorem toDay_calls (ws : List S27) (hl : ws.length = 24) (w : World) :
  Calls Try.prog 7 #[.agg (dayC ws).toArray] w fun e w' => e = .returned (.agg (dayC ws).toArray) ∧ Below w.heap.size w w' := by
 have z29 := (zero_of_info (P := Try.prog) (t := 29) (v := .agg (dayC (List.replicate 24 z27)).toArray) (n := 72) (by kernel_rfl))
 have hz := z29.1
 have HI := Aside0.mk z29.2
 have HL := Aside0.mk hl
 clear z29 hl
 go_enter Try.func7, Try.ntmps7
 go_wp2_with (first
  | ((with_reducible refine gate_dst (N := 1) rfl ?_); refine box_event ?hg (N := 1) ?hd (cs := (dayC ws).toArray) (t := 25) ?hr ?_; (case hd => rfl); (case hg => rfl); (case hr => first | (go_simp; done) | (go_simp; rfl)); intro ga hga w1 h1 hb1; have B1 := Aside0.mk hb1; have K1 := Aside0.mk h1; have G1 := Aside0.mk hga; clear hga h1 hb1)
  | ((with_reducible refine gate_dst (N := 2) rfl ?_); refine box_event ?hg (N := 2) ?hd (cs := (dayC (List.replicate 24 z27)).toArray) (t := 29) ?hr ?_; (case hd => rfl); (case hg => rfl); (case hr => first | (go_simp; done) | (go_simp; rfl)); intro gr hgr w2 h2 hb2; have B2 := Aside0.mk (below_step B1.out hb2); have K2 := Aside0.mk h2; have K21 := Aside0.mk (blk_below K1.out hb2); have G2 := Aside0.mk hgr; clear hgr h2 hb2)
  | ((with_reducible refine gate_dst (N := 3) rfl ?_); refine box_event ?hg (N := 3) ?hd (cs := (dayC (List.replicate 24 z27)).toArray) (t := 29) ?hr ?_; (case hd => rfl); (case hg => rfl); (case hr => first | (go_simp; done) | (go_simp; rfl)); intro go hgo w3 h3 hb3; have B3 := Aside0.mk (below_step B2.out hb3); have K3 := Aside0.mk h3; have K32 := Aside0.mk (blk_below K2.out hb3); have K31 := Aside0.mk (blk_below K21.out hb3); have G3 := Aside0.mk hgo; clear hgo h3 hb3))
 go_loopg [4] 24 (fun gg v4 w' => ∃ kk : Nat, kk ≤ 24 ∧ 24 - kk ≤ gg ∧ v4 = .int .i64 (kk : Int) ∧ Aside0 (Below w.heap.size w w') ∧ Aside0 (w'.heap[ga]? = some (.cells (dayC ws).toArray 25 (0, 0))) ∧ Aside0 (w'.heap[gr]? = some (.cells (dayC (List.replicate 24 z27)).toArray 29 (0, 0))) ∧ Aside0 (w'.heap[go]? = some (.cells (dayC (dayPart ws kk)).toArray 29 (0, 0))))
 case atStart => exact ⟨0, Nat.zero_le _, by omega, rfl, B3, K31, K32, ⟨by rw [dayPart_zero, HL.out]; exact K3.out⟩⟩
 case round =>
  obtain ⟨kk, hkk, hg, rfl, BW, BA, BR, BO⟩ := hrel
  by_cases hlt : kk < 24
  ·have hlti : (kk : Int) < 24 := by omega
   have hlw : kk < ws.length := by rw [HL.out]; exact hlt
   have hx0 := day_cell BA.out kk 0 hlw (by omega)
   have hx1 := day_cell BA.out kk 1 hlw (by omega)
   have hx2 := day_cell BA.out kk 2 hlw (by omega)
   have hset := dayPart_set ws kk hlw
   obtain ⟨y, hy⟩ : ∃ y, ws[kk] = y := ⟨_, rfl⟩
   rw [hy] at hx0 hx1 hx2 hset
   simp only [cs3, List.getElem?_cons_zero, List.getElem?_cons_succ, Nat.add_zero] at hx0 hx1 hx2
   have HSET := Aside0.mk hset
   have HLW := Aside0.mk hlw
   clear hy hset hlw
   have HW3 := Aside0.mk (show (Try.prog.info? 27).map (·.size) = some 3 from by kernel_rfl)
   go_wp2_with (first
    | (go_at_call 13; refine (laws_toWeather.calls y.f0 y.f1 y.f2 y.f0 y.f1 y.f2 _ rfl).mono ?_; rintro e w4 ⟨rfl, hb4⟩; have B4 := Aside0.mk (below_step BW.out hb4); have BA4 := Aside0.mk (blk_below BA.out hb4); have BR4 := Aside0.mk (blk_below BR.out hb4); have BO4 := Aside0.mk (blk_below BO.out hb4); clear hb4)
    | ((with_reducible refine gate_store (t := 27) (p := 14) (v := .tmp 13) rfl ?_); refine wpList_store_mid rfl 27 (.tmp 14) (.tmp 13) rfl go (kk * 3) #[.int .i8 y.f0, .int .i8 y.f1, .int .i8 y.f2] rfl rfl (day_there BO4.out kk (by rw [dayPart_len _ _ (by have := HLW.out; omega)]; exact HLW.out)) HW3.out (all_oneCell_toArray (by intro v hv; simp only [List.mem_cons, List.not_mem_nil, or_false] at hv; rcases hv with rfl | rfl | rfl <;> rfl)) ?_; have BO5 := Aside0.mk (day_put BO4.out kk y.f0 y.f1 y.f2 HSET.out); have GO5 := Aside0.mk (show ga ≠ go ∧ gr ≠ go ∧ w.heap.size ≤ go from ⟨by have h1 := G1.out; have h2 := G3.out; have h3 := blk_lt K21.out; omega, by have h2 := G3.out; have h3 := blk_lt K2.out; omega, by have h2 := G3.out; have h3 := B2.out.size; omega⟩); have BA5 := Aside0.mk (blk_cells_far BA4.out GO5.out.1 (kk * 3) [.int .i8 y.f0, .int .i8 y.f1, .int .i8 y.f2]); have BR5 := Aside0.mk (blk_cells_far BR4.out GO5.out.2.1 (kk * 3) [.int .i8 y.f0, .int .i8 y.f1, .int .i8 y.f2]); have B5 := Aside0.mk (below_cells B4.out GO5.out.2.2 (kk * 3) [.int .i8 y.f0, .int .i8 y.f1, .int .i8 y.f2])))
   go_roundg (24 - (kk + 1))
   case measure => omega
   case rel => exact ⟨kk + 1, by omega, by omega, by go_num, B5, BA5, BR5, BO5⟩
  ·have hlti : ¬ (kk : Int) < 24 := by omega
   obtain rfl : kk = 24 := by omega
   have hall := BO.out
   have he : dayPart ws 24 = ws := by have := dayPart_all ws; rwa [HL.out] at this
   rw [he] at hall
   have BO2 := Aside0.mk hall
   have HI2 := Aside0.mk (show (Try.prog.info? 29).map (·.size) = some (dayC ws).toArray.size from by rw [dayC_size ws HL.out]; exact HI.out)
   have HZZ := Aside0.mk (show (dayC (List.replicate 24 z27)).toArray.size = (dayC ws).toArray.size from by rw [dayC_size ws HL.out, dayC_size _ (by simp)])
   have HG := Aside0.mk (show w.heap.size ≤ gr from by have h1 := G2.out; have h2 := B1.out.size; omega)
   clear hall he
   go_wp2_with (first
    | ((with_reducible refine gate_dst (N := 15) rfl ?_); refine wpList_load_row rfl 29 (.tmp 3) rfl go rfl 29 (dayC ws).toArray (0, 0) _ BO2.out Try.underlying29 rfl HI2.out ?_)
    | ((with_reducible refine gate_store (t := 29) (p := 2) (v := .tmp 15) rfl ?_); refine wpList_store_row rfl 29 (.tmp 2) (.tmp 15) rfl gr (dayC ws).toArray rfl rfl 29 _ BR.out HI2.out HZZ.out (dayC_one ws) ?_; have BF := Aside0.mk (setRow_heap _ gr _ (dayC ws).toArray _ _ BR.out); have BB := Aside0.mk (below_setRow BW.out HG.out (dayC ws).toArray)))
   refine bodyPost_ret (v := .agg (dayC ws).toArray) (results_cell_row (p := 2) (ty := 29) rfl _ _ gr 29 (dayC ws).toArray (0, 0) _ rfl BF.out Try.underlying29 rfl HI2.out) rfl ⟨rfl, BB.out⟩

/-! ### spec_l00In: function 27 -/
def spec_l00In.f (a0 : Int) (a1 : Int) (a2 : Int) : Option (Bool) := if a0 ≥ a1 then (some (decide (a0 ≤ a2))) else (some false)
set_option maxHeartbeats 8000000 in
set_option maxRecDepth 100000 in
theorem spec_l00In.calls (a0 : Int) (a1 : Int) (a2 : Int) (r : Bool) (w : World) (h : spec_l00In.f a0 a1 a2 = some r) :
  Calls Try.prog 27 #[.int .i64 a0, .int .i64 a1, .int .i64 a2] w fun e w' => e = .returned (.bool r) ∧ Drawn0 w w' := by
 have H : (if a0 ≥ a1 then (some (decide (a0 ≤ a2))) else (some false)) = some r := h
 clear h
 by_cases c4 : a0 ≥ a1
 ·rw [if_pos c4] at H
  have c4b0 : decide (a1 ≤ a0) = true := decide_eq_true c4
  clear c4
  obtain rfl := Option.some.inj H
  go_enter Try.func27, Try.ntmps27
  go_wp2
  go_ret
  exact ⟨by first | rfl | (simp; done) | (simp [*]; done), by repeat (first | exact Drawn0.refl _ | apply Drawn0.step)⟩
 ·rw [if_neg c4] at H
  have c4b0 : decide (a1 ≤ a0) = false := decide_eq_false c4
  clear c4
  obtain rfl := Option.some.inj H
  go_enter Try.func27, Try.ntmps27
  go_wp2
  go_ret
  exact ⟨by first | rfl | (simp; done) | (simp [*]; done), by repeat (first | exact Drawn0.refl _ | apply Drawn0.step)⟩

/-! ### spec_l03Weather: function 21 -/
def spec_l03Weather.f (a0_0 : Int) (a0_1 : Int) (a0_2 : Int) : Option (Bool) := (spec_l00In.f (wrap64 (a0_0)) 0 9).bind fun t105 => (if t105 = true then ((spec_l00In.f (wrap64 (a0_1)) 0 9).bind fun t106 => (if t106 = true then ((spec_l00In.f (wrap64 (a0_2)) 0 9).bind fun t107 => (some t107)) else (some false))) else (some false))
set_option maxHeartbeats 8000000 in
set_option maxRecDepth 100000 in
theorem spec_l03Weather.calls (a0_0 : Int) (a0_1 : Int) (a0_2 : Int) (r : Bool) (w : World) (h : spec_l03Weather.f a0_0 a0_1 a0_2 = some r) :
  Calls Try.prog 21 #[.agg #[.int .i8 a0_0, .int .i8 a0_1, .int .i8 a0_2]] w fun e w' => e = .returned (.bool r) ∧ Below w.heap.size w w' := by
 have hu27 := Try.underlying27
 have HB := Aside0.mk (Below.refl w.heap.size w)
 have H : ((spec_l00In.f (wrap64 (a0_0)) 0 9).bind fun t105 => (if t105 = true then ((spec_l00In.f (wrap64 (a0_1)) 0 9).bind fun t106 => (if t106 = true then ((spec_l00In.f (wrap64 (a0_2)) 0 9).bind fun t107 => (some t107)) else (some false))) else (some false))) = some r := h
 clear h
 replace H := Option.bind_eq_some_iff.mp H
 obtain ⟨t105, A20, H⟩ := H
 replace H : (if t105 = true then ((spec_l00In.f (wrap64 (a0_1)) 0 9).bind fun t106 => (if t106 = true then ((spec_l00In.f (wrap64 (a0_2)) 0 9).bind fun t107 => (some t107)) else (some false))) else (some false)) = some r := H
 have A2 := Aside0.mk A20
 clear A20
 by_cases c3 : t105 = true
 ·subst c3
  have H1 : ((spec_l00In.f (wrap64 (a0_1)) 0 9).bind fun t106 => (if t106 = true then ((spec_l00In.f (wrap64 (a0_2)) 0 9).bind fun t107 => (some t107)) else (some false))) = some r := by rw [if_pos rfl] at H; exact H
  clear H
  have H := H1
  clear H1
  replace H := Option.bind_eq_some_iff.mp H
  obtain ⟨t106, A40, H⟩ := H
  replace H : (if t106 = true then ((spec_l00In.f (wrap64 (a0_2)) 0 9).bind fun t107 => (some t107)) else (some false)) = some r := H
  have A4 := Aside0.mk A40
  clear A40
  by_cases c5 : t106 = true
  ·subst c5
   have H1 : ((spec_l00In.f (wrap64 (a0_2)) 0 9).bind fun t107 => (some t107)) = some r := by rw [if_pos rfl] at H; exact H
   clear H
   have H := H1
   clear H1
   replace H := Option.bind_eq_some_iff.mp H
   obtain ⟨t107, A60, H⟩ := H
   replace H : (some t107) = some r := H
   have A6 := Aside0.mk A60
   clear A60
   obtain rfl := Option.some.inj H
   go_enter Try.func21, Try.ntmps21
   go_wp2_with (first | ((with_reducible refine gate_dst (N := 1) rfl ?_); refine box_event ?hg (N := 1) ?hd (cs := #[.int .i8 a0_0, .int .i8 a0_1, .int .i8 a0_2]) (t := 27) ?hr ?_; (case hd => rfl); (case hg => rfl); (case hr => first | (go_simp; done) | (go_simp; rfl)); intro gb104 hg w7 hbox hb; have n0_ := Aside0.mk (below_step (by repeat (first | (with_reducible first | exact HB.out | apply below_alloc | apply pw_below_drewN | apply below_drew1) | exact HB.out)) hb); have n1_ := Aside0.mk (hbox); have n2_ := Aside0.mk ((by rw [hg]; exact (below_size (by repeat (first | (with_reducible first | exact HB.out | apply below_alloc | apply pw_below_drewN | apply below_drew1) | exact HB.out))) : w.heap.size ≤ gb104)); have n3_ := Aside0.mk ((by rw [hg]; exact (below_size (by repeat (first | (with_reducible first | exact HB.out | apply below_alloc | apply pw_below_drewN | apply below_drew1) | exact HB.out))) : w.heap.size ≤ gb104)); clear HB; have HB := n0_; have BK104 := n1_; have GW104 := n2_; have GE104 := n3_; clear n0_ n1_ n2_ n3_; clear hb hbox hg; have hcz8_0 : w7.cell? ⟨gb104, 0, none⟩ = some (.int .i8 a0_0) := (blk_cell BK104.out 0).trans rfl; have hcz8_1 : w7.cell? ⟨gb104, 1, none⟩ = some (.int .i8 a0_1) := (blk_cell BK104.out 1).trans rfl; have hcz8_2 : w7.cell? ⟨gb104, 2, none⟩ = some (.int .i8 a0_2) := (blk_cell BK104.out 2).trans rfl; have hfz8_0 := blk_frozen BK104.out 0; have hfz8_1 := blk_frozen BK104.out 1; have hfz8_2 := blk_frozen BK104.out 2) | ((with_reducible refine gate_callee (f := 27) rfl ?_); refine goesL_ (some 6) rfl rfl Try.func27 (by kernel_rfl) rfl #[.int .i64 (wrap64 (a0_0)), .int .i64 0, .int .i64 9] rfl (by (try simp only [List.map_toArray, List.map_cons, List.map_nil]); first | done | rfl | (simp only [List.length_drop, List.length_take]; rfl)) ?_; (with_reducible refine (spec_l00In.calls (wrap64 (a0_0)) 0 9 true _ A2.out).mono ?_); rintro e w' ⟨rfl, ⟨nd, rfl⟩⟩; refine ⟨_, rfl, ?_⟩) | (go_at_call 27; (with_reducible refine (spec_l00In.calls (wrap64 (a0_1)) 0 9 true _ A4.out).mono ?_); rintro e w' ⟨rfl, ⟨nd, rfl⟩⟩) | (go_at_call 27; (with_reducible refine (spec_l00In.calls (wrap64 (a0_2)) 0 9 t107 _ A6.out).mono ?_); rintro e w' ⟨rfl, ⟨nd, rfl⟩⟩))
   go_ret
   exact ⟨by first | rfl | (simp [errW_none, errW_some] <;> rfl) | (simp [*, errW_none, errW_some] <;> rfl), by repeat (first | (with_reducible first | exact HB.out | apply below_alloc | apply pw_below_drewN | apply below_drew1 | refine below_set ?_ GE104.out) | exact HB.out)⟩
  ·replace c5 := Bool.eq_false_iff.mpr c5
   subst c5
   have H1 : (some false) = some r := by rw [if_neg (show ¬ (false = true) by decide)] at H; exact H
   clear H
   have H := H1
   clear H1
   obtain rfl := Option.some.inj H
   go_enter Try.func21, Try.ntmps21
   go_wp2_with (first | ((with_reducible refine gate_dst (N := 1) rfl ?_); refine box_event ?hg (N := 1) ?hd (cs := #[.int .i8 a0_0, .int .i8 a0_1, .int .i8 a0_2]) (t := 27) ?hr ?_; (case hd => rfl); (case hg => rfl); (case hr => first | (go_simp; done) | (go_simp; rfl)); intro gb104 hg w9 hbox hb; have n0_ := Aside0.mk (below_step (by repeat (first | (with_reducible first | exact HB.out | apply below_alloc | apply pw_below_drewN | apply below_drew1) | exact HB.out)) hb); have n1_ := Aside0.mk (hbox); have n2_ := Aside0.mk ((by rw [hg]; exact (below_size (by repeat (first | (with_reducible first | exact HB.out | apply below_alloc | apply pw_below_drewN | apply below_drew1) | exact HB.out))) : w.heap.size ≤ gb104)); have n3_ := Aside0.mk ((by rw [hg]; exact (below_size (by repeat (first | (with_reducible first | exact HB.out | apply below_alloc | apply pw_below_drewN | apply below_drew1) | exact HB.out))) : w.heap.size ≤ gb104)); clear HB; have HB := n0_; have BK104 := n1_; have GW104 := n2_; have GE104 := n3_; clear n0_ n1_ n2_ n3_; clear hb hbox hg; have hcz10_0 : w9.cell? ⟨gb104, 0, none⟩ = some (.int .i8 a0_0) := (blk_cell BK104.out 0).trans rfl; have hcz10_1 : w9.cell? ⟨gb104, 1, none⟩ = some (.int .i8 a0_1) := (blk_cell BK104.out 1).trans rfl; have hcz10_2 : w9.cell? ⟨gb104, 2, none⟩ = some (.int .i8 a0_2) := (blk_cell BK104.out 2).trans rfl; have hfz10_0 := blk_frozen BK104.out 0; have hfz10_1 := blk_frozen BK104.out 1; have hfz10_2 := blk_frozen BK104.out 2) | ((with_reducible refine gate_callee (f := 27) rfl ?_); refine goesL_ (some 6) rfl rfl Try.func27 (by kernel_rfl) rfl #[.int .i64 (wrap64 (a0_0)), .int .i64 0, .int .i64 9] rfl (by (try simp only [List.map_toArray, List.map_cons, List.map_nil]); first | done | rfl | (simp only [List.length_drop, List.length_take]; rfl)) ?_; (with_reducible refine (spec_l00In.calls (wrap64 (a0_0)) 0 9 true _ A2.out).mono ?_); rintro e w' ⟨rfl, ⟨nd, rfl⟩⟩; refine ⟨_, rfl, ?_⟩) | (go_at_call 27; (with_reducible refine (spec_l00In.calls (wrap64 (a0_1)) 0 9 false _ A4.out).mono ?_); rintro e w' ⟨rfl, ⟨nd, rfl⟩⟩))
   go_ret
   exact ⟨by first | rfl | (simp [errW_none, errW_some] <;> rfl) | (simp [*, errW_none, errW_some] <;> rfl), by repeat (first | (with_reducible first | exact HB.out | apply below_alloc | apply pw_below_drewN | apply below_drew1 | refine below_set ?_ GE104.out) | exact HB.out)⟩
 ·replace c3 := Bool.eq_false_iff.mpr c3
  subst c3
  have H1 : (some false) = some r := by rw [if_neg (show ¬ (false = true) by decide)] at H; exact H
  clear H
  have H := H1
  clear H1
  obtain rfl := Option.some.inj H
  go_enter Try.func21, Try.ntmps21
  go_wp2_with (first | ((with_reducible refine gate_dst (N := 1) rfl ?_); refine box_event ?hg (N := 1) ?hd (cs := #[.int .i8 a0_0, .int .i8 a0_1, .int .i8 a0_2]) (t := 27) ?hr ?_; (case hd => rfl); (case hg => rfl); (case hr => first | (go_simp; done) | (go_simp; rfl)); intro gb104 hg w11 hbox hb; have n0_ := Aside0.mk (below_step (by repeat (first | (with_reducible first | exact HB.out | apply below_alloc | apply pw_below_drewN | apply below_drew1) | exact HB.out)) hb); have n1_ := Aside0.mk (hbox); have n2_ := Aside0.mk ((by rw [hg]; exact (below_size (by repeat (first | (with_reducible first | exact HB.out | apply below_alloc | apply pw_below_drewN | apply below_drew1) | exact HB.out))) : w.heap.size ≤ gb104)); have n3_ := Aside0.mk ((by rw [hg]; exact (below_size (by repeat (first | (with_reducible first | exact HB.out | apply below_alloc | apply pw_below_drewN | apply below_drew1) | exact HB.out))) : w.heap.size ≤ gb104)); clear HB; have HB := n0_; have BK104 := n1_; have GW104 := n2_; have GE104 := n3_; clear n0_ n1_ n2_ n3_; clear hb hbox hg; have hcz12_0 : w11.cell? ⟨gb104, 0, none⟩ = some (.int .i8 a0_0) := (blk_cell BK104.out 0).trans rfl; have hcz12_1 : w11.cell? ⟨gb104, 1, none⟩ = some (.int .i8 a0_1) := (blk_cell BK104.out 1).trans rfl; have hcz12_2 : w11.cell? ⟨gb104, 2, none⟩ = some (.int .i8 a0_2) := (blk_cell BK104.out 2).trans rfl; have hfz12_0 := blk_frozen BK104.out 0; have hfz12_1 := blk_frozen BK104.out 1; have hfz12_2 := blk_frozen BK104.out 2) | ((with_reducible refine gate_callee (f := 27) rfl ?_); refine goesL_ (some 6) rfl rfl Try.func27 (by kernel_rfl) rfl #[.int .i64 (wrap64 (a0_0)), .int .i64 0, .int .i64 9] rfl (by (try simp only [List.map_toArray, List.map_cons, List.map_nil]); first | done | rfl | (simp only [List.length_drop, List.length_take]; rfl)) ?_; (with_reducible refine (spec_l00In.calls (wrap64 (a0_0)) 0 9 false _ A2.out).mono ?_); rintro e w' ⟨rfl, ⟨nd, rfl⟩⟩; refine ⟨_, rfl, ?_⟩))
  go_ret
  exact ⟨by first | rfl | (simp [errW_none, errW_some] <;> rfl) | (simp [*, errW_none, errW_some] <;> rfl), by repeat (first | (with_reducible first | exact HB.out | apply below_alloc | apply pw_below_drewN | apply below_drew1 | refine below_set ?_ GE104.out) | exact HB.out)⟩

/-! ### spec_l03Ok: function 16 (told by hand) -/
def wokB (x : S27) : Bool := decide (0 ≤ wrap64 x.f0 ∧ wrap64 x.f0 ≤ 9) && (decide (0 ≤ wrap64 x.f1 ∧ wrap64 x.f1 ≤ 9) && decide (0 ≤ wrap64 x.f2 ∧ wrap64 x.f2 ≤ 9))
theorem in_tot (a b c : Int) : spec_l00In.f a b c = some (decide (b ≤ a ∧ a ≤ c)) := by
 unfold spec_l00In.f
 by_cases h : b ≤ a
 ·rw [if_pos (show a ≥ b from h)]; simp [h]
 ·rw [if_neg (show ¬ a ≥ b from h)]; simp [h]
theorem weather_tot (x : S27) : spec_l03Weather.f x.f0 x.f1 x.f2 = some (wokB x) := by
 unfold spec_l03Weather.f wokB
 simp only [in_tot, Option.bind_some]
 cases decide (0 ≤ wrap64 x.f0 ∧ wrap64 x.f0 ≤ 9) <;> cases decide (0 ≤ wrap64 x.f1 ∧ wrap64 x.f1 ≤ 9) <;> simp
theorem all_take_succ (ws : List S27) (k : Nat) (h : k < ws.length) : (ws.take (k + 1)).all wokB = ((ws.take k).all wokB && wokB ws[k]) := by
 rw [List.take_succ_eq_append_getElem h, List.all_append]
 simp
set_option maxHeartbeats 4000000 in
set_option maxRecDepth 100000 in
theorem l03Ok_calls (ws : List S27) (hl : ws.length = 24) (g t : Nat) (W : World) (hg : W.heap[g]? = some (.cells (dayC ws).toArray t (0, 0))) :
  Calls Try.prog 16 #[.pointer (some ⟨g, 0, none⟩)] W fun e w' => e = .returned (.bool (ws.all wokB)) ∧ Below W.heap.size W w' := by
 have HG := Aside0.mk hg
 have HL := Aside0.mk hl
 clear hg hl
 go_enter Try.func16, Try.ntmps16
 go_wp2
 go_loopg [3] 24 (fun gg v3 w' => ∃ kk : Nat, kk ≤ 24 ∧ 24 - kk ≤ gg ∧ v3 = .int .i64 (kk : Int) ∧ Aside0 (Below W.heap.size W w') ∧ Aside0 ((ws.take kk).all wokB = true))
 case atStart => exact ⟨0, Nat.zero_le _, by omega, rfl, ⟨Below.refl _ _⟩, ⟨rfl⟩⟩
 case round =>
  obtain ⟨kk, hkk, hgg, rfl, BW, AL⟩ := hrel
  by_cases hlt : kk < 24
  ·have hlti : (kk : Int) < 24 := by omega
   have hlw : kk < ws.length := by rw [HL.out]; exact hlt
   have hb := blk_below HG.out BW.out
   have hx0 := day_cell hb kk 0 hlw (by omega)
   have hx1 := day_cell hb kk 1 hlw (by omega)
   have hx2 := day_cell hb kk 2 hlw (by omega)
   have hall := all_take_succ ws kk hlw
   rw [AL.out, Bool.true_and] at hall
   have hany : wokB ws[kk] = false → ws.all wokB = false := by
    intro h
    rw [List.all_eq_false]
    exact ⟨_, List.getElem_mem hlw, by rw [h]; decide⟩
   obtain ⟨y, hy⟩ : ∃ y, ws[kk] = y := ⟨_, rfl⟩
   rw [hy] at hx0 hx1 hx2 hall hany
   simp only [cs3, List.getElem?_cons_zero, List.getElem?_cons_succ, Nat.add_zero] at hx0 hx1 hx2
   have HT := weather_tot y
   cases hq : wokB y with
   | true =>
    rw [hq] at HT hall
    have HT' := Aside0.mk HT
    have HALL := Aside0.mk hall
    clear hy hall hany hb hlw HT hq
    go_wp2_with (go_at_call 21; refine (spec_l03Weather.calls y.f0 y.f1 y.f2 true _ HT'.out).mono ?_; rintro e w1 ⟨rfl, hb1⟩)
    go_roundg (24 - (kk + 1))
    case measure => omega
    case rel => exact ⟨kk + 1, by omega, by omega, by go_num, ⟨below_step BW.out hb1⟩, HALL⟩
   | false =>
    rw [hq] at HT
    have HT' := Aside0.mk HT
    have HANY := Aside0.mk (hany hq)
    clear hy hall hany hb hlw HT hq
    go_wp2_with (go_at_call 21; refine (spec_l03Weather.calls y.f0 y.f1 y.f2 false _ HT'.out).mono ?_; rintro e w1 ⟨rfl, hb1⟩)
    go_ret
    exact ⟨by rw [HANY.out]; rfl, below_step BW.out hb1⟩
  ·have hlti : ¬ (kk : Int) < 24 := by omega
   have hall : ws.all wokB = true := by have := AL.out; rwa [List.take_of_length_le (by have := HL.out; omega)] at this
   have HALL := Aside0.mk hall
   clear hall
   go_wp2
   go_ret
   exact ⟨by rw [HALL.out]; rfl, BW.out⟩

/-! ### spec_LongestDry: function 9 (told by hand) -/
/-- One hour further: the run, the best begin, the longest. -/
structure DrySt where
 best : Int
 most : Int
 run : Int
def dryStep (s : DrySt) (i : Nat) (x : S27) : DrySt :=
 if (if x.f2 > 0 then 0 else wrap64 (s.run + 1)) > s.most then ⟨wrap64 (wrap64 ((i : Int) - (if x.f2 > 0 then 0 else wrap64 (s.run + 1))) + 1), (if x.f2 > 0 then 0 else wrap64 (s.run + 1)), (if x.f2 > 0 then 0 else wrap64 (s.run + 1))⟩
 else ⟨s.best, s.most, (if x.f2 > 0 then 0 else wrap64 (s.run + 1))⟩
def dryRun (ws : List S27) : Nat → DrySt
 | 0 => ⟨0, 0, 0⟩
 | k + 1 => dryStep (dryRun ws k) k (ws.getD k z27)
def dryOut (ws : List S27) : Int × Int × Int := if ws.all wokB = true then (if (dryRun ws 24).most = 0 then (0, 0, 6) else ((dryRun ws 24).best, (dryRun ws 24).most, 0)) else (0, 0, 1)
set_option maxHeartbeats 8000000 in
set_option maxRecDepth 100000 in
theorem specDry_calls (ws : List S27) (hl : ws.length = 24) (w : World) :
  Calls Try.prog 9 #[.agg (dayC ws).toArray] w fun e w' => e = .returned (.tuple #[.int .i64 (dryOut ws).1, .int .i64 (dryOut ws).2.1, .int .i64 (dryOut ws).2.2]) ∧ Below w.heap.size w w' := by
 have HL := Aside0.mk hl
 have HOK := Aside0.mk (fun g t W hg => l03Ok_calls ws hl g t W hg)
 clear hl
 cases hq : ws.all wokB with
 | false =>
  have ho : dryOut ws = (0, 0, 1) := by unfold dryOut; rw [hq]; rfl
  rw [ho]
  rw [hq] at HOK
  clear ho hq
  go_enter Try.func9, Try.ntmps9
  go_wp2_with (first
   | ((with_reducible refine gate_dst (N := 1) rfl ?_); refine box_event ?hg (N := 1) ?hd (cs := (dayC ws).toArray) (t := 29) ?hr ?_; (case hd => rfl); (case hg => rfl); (case hr => first | (go_simp; done) | (go_simp; rfl)); intro ga hga w1 h1 hb1; have B1 := Aside0.mk hb1; have K1 := Aside0.mk h1; clear hga h1 hb1)
   | (go_at_call 16; refine (HOK.out ga _ _ K1.out).mono ?_; rintro e w2 ⟨rfl, hb2⟩; have B2 := Aside0.mk (below_step B1.out hb2); clear hb2))
  go_ret3
  exact ⟨rfl, B2.out⟩
 | true =>
  have ho : dryOut ws = (if (dryRun ws 24).most = 0 then (0, 0, 6) else ((dryRun ws 24).best, (dryRun ws 24).most, 0)) := by unfold dryOut; rw [hq]; rfl
  have HO := Aside0.mk ho
  rw [hq] at HOK
  clear ho hq
  go_enter Try.func9, Try.ntmps9
  go_wp2_with (first
   | ((with_reducible refine gate_dst (N := 1) rfl ?_); refine box_event ?hg (N := 1) ?hd (cs := (dayC ws).toArray) (t := 29) ?hr ?_; (case hd => rfl); (case hg => rfl); (case hr => first | (go_simp; done) | (go_simp; rfl)); intro ga hga w1 h1 hb1; have B1 := Aside0.mk hb1; have K1 := Aside0.mk h1; clear hga h1 hb1)
   | (go_at_call 16; refine (HOK.out ga _ _ K1.out).mono ?_; rintro e w2 ⟨rfl, hb2⟩; have B2 := Aside0.mk (below_step B1.out hb2); have K2 := Aside0.mk (blk_below K1.out hb2); clear hb2))
  go_loopg [5, 6, 7, 8] 24 (fun gg v5 v6 v7 v8 w' => ∃ kk : Nat, kk ≤ 24 ∧ 24 - kk ≤ gg ∧ v8 = .int .i64 (kk : Int) ∧ v5 = .int .i64 (dryRun ws kk).best ∧ v6 = .int .i64 (dryRun ws kk).most ∧ v7 = .int .i64 (dryRun ws kk).run ∧ Aside0 (Below w.heap.size w w') ∧ Aside0 (w'.heap[ga]? = some (.cells (dayC ws).toArray 29 (0, 0))))
  case atStart => exact ⟨0, Nat.zero_le _, by omega, rfl, rfl, rfl, rfl, B2, K2⟩
  case round =>
   obtain ⟨kk, hkk, hgg, rfl, rfl, rfl, rfl, BW, BK⟩ := hrel
   by_cases hlt : kk < 24
   ·have hlti : (kk : Int) < 24 := by omega
    have hlw : kk < ws.length := by rw [HL.out]; exact hlt
    have hx2 := day_cell BK.out kk 2 hlw (by omega)
    have hst : dryRun ws (kk + 1) = dryStep (dryRun ws kk) kk ws[kk] := by rw [dryRun, List.getD_eq_getElem?_getD, List.getElem?_eq_getElem hlw]; rfl
    obtain ⟨y, hy⟩ : ∃ y, ws[kk] = y := ⟨_, rfl⟩
    obtain ⟨s, hs⟩ : ∃ s, dryRun ws kk = s := ⟨_, rfl⟩
    rw [hy] at hx2 hst
    rw [hs] at hst ⊢
    obtain ⟨b, m, r⟩ := s
    simp only [cs3, List.getElem?_cons_zero, List.getElem?_cons_succ] at hx2
    have HS := Aside0.mk hs
    clear hy hs hlw
    by_cases h1 : y.f2 > 0
    ·have hs1 : dryRun ws (kk + 1) = (if (0 : Int) > m then ⟨wrap64 (wrap64 ((kk : Int) - 0) + 1), 0, 0⟩ else ⟨b, m, 0⟩) := by rw [hst]; unfold dryStep; simp only [h1, ↓reduceIte]
     have c1 : decide (y.f2 > 0) = true := decide_eq_true h1
     have HS1 := Aside0.mk hs1
     clear hst hs1
     by_cases h2 : (0 : Int) > m
     ·have c2 : decide ((0 : Int) > m) = true := decide_eq_true h2
      have HS2 := Aside0.mk (HS1.out.trans (if_pos h2))
      clear h1 h2
      go_wp2
      go_roundg (24 - (kk + 1))
      case measure => omega
      case rel => exact ⟨kk + 1, by omega, by omega, by go_num, (by first | (rw [HS2.out]; done) | (rw [HS2.out]; rfl) | (rw [HS2.out]; show Value.int _ _ = Value.int _ _; congr 1; show _ = wrap64 (wrap64 ((kk : Int) - 0) + 1); unfold wrap64; omega)), (by first | (rw [HS2.out]; done) | (rw [HS2.out]; rfl) | (rw [HS2.out]; show Value.int _ _ = Value.int _ _; congr 1; show _ = wrap64 (wrap64 ((kk : Int) - 0) + 1); unfold wrap64; omega)), (by first | (rw [HS2.out]; done) | (rw [HS2.out]; rfl) | (rw [HS2.out]; show Value.int _ _ = Value.int _ _; congr 1; show _ = wrap64 (wrap64 ((kk : Int) - 0) + 1); unfold wrap64; omega)), BW, BK⟩
     ·have c2 : decide ((0 : Int) > m) = false := decide_eq_false h2
      have HS2 := Aside0.mk (HS1.out.trans (if_neg h2))
      clear h1 h2
      go_wp2
      go_roundg (24 - (kk + 1))
      case measure => omega
      case rel => exact ⟨kk + 1, by omega, by omega, by go_num, (by first | (rw [HS2.out]; done) | (rw [HS2.out]; rfl) | (rw [HS2.out]; show Value.int _ _ = Value.int _ _; congr 1; show _ = wrap64 (wrap64 ((kk : Int) - 0) + 1); unfold wrap64; omega)), (by first | (rw [HS2.out]; done) | (rw [HS2.out]; rfl) | (rw [HS2.out]; show Value.int _ _ = Value.int _ _; congr 1; show _ = wrap64 (wrap64 ((kk : Int) - 0) + 1); unfold wrap64; omega)), (by first | (rw [HS2.out]; done) | (rw [HS2.out]; rfl) | (rw [HS2.out]; show Value.int _ _ = Value.int _ _; congr 1; show _ = wrap64 (wrap64 ((kk : Int) - 0) + 1); unfold wrap64; omega)), BW, BK⟩
    ·have hs1 : dryRun ws (kk + 1) = (if wrap64 (r + 1) > m then ⟨wrap64 (wrap64 ((kk : Int) - wrap64 (r + 1)) + 1), wrap64 (r + 1), wrap64 (r + 1)⟩ else ⟨b, m, wrap64 (r + 1)⟩) := by rw [hst]; unfold dryStep; simp only [h1, ↓reduceIte]
     have c1 : decide (y.f2 > 0) = false := decide_eq_false h1
     have HS1 := Aside0.mk hs1
     clear hst hs1
     by_cases h2 : wrap64 (r + 1) > m
     ·have c2 : decide (wrap64 (r + 1) > m) = true := decide_eq_true h2
      have HS2 := Aside0.mk (HS1.out.trans (if_pos h2))
      clear h1 h2
      go_wp2
      go_roundg (24 - (kk + 1))
      case measure => omega
      case rel => exact ⟨kk + 1, by omega, by omega, by go_num, (by first | (rw [HS2.out]; done) | (rw [HS2.out]; rfl) | (rw [HS2.out]; show Value.int _ _ = Value.int _ _; congr 1; show _ = wrap64 (wrap64 ((kk : Int) - 0) + 1); unfold wrap64; omega)), (by first | (rw [HS2.out]; done) | (rw [HS2.out]; rfl) | (rw [HS2.out]; show Value.int _ _ = Value.int _ _; congr 1; show _ = wrap64 (wrap64 ((kk : Int) - 0) + 1); unfold wrap64; omega)), (by first | (rw [HS2.out]; done) | (rw [HS2.out]; rfl) | (rw [HS2.out]; show Value.int _ _ = Value.int _ _; congr 1; show _ = wrap64 (wrap64 ((kk : Int) - 0) + 1); unfold wrap64; omega)), BW, BK⟩
     ·have c2 : decide (wrap64 (r + 1) > m) = false := decide_eq_false h2
      have HS2 := Aside0.mk (HS1.out.trans (if_neg h2))
      clear h1 h2
      go_wp2
      go_roundg (24 - (kk + 1))
      case measure => omega
      case rel => exact ⟨kk + 1, by omega, by omega, by go_num, (by first | (rw [HS2.out]; done) | (rw [HS2.out]; rfl) | (rw [HS2.out]; show Value.int _ _ = Value.int _ _; congr 1; show _ = wrap64 (wrap64 ((kk : Int) - 0) + 1); unfold wrap64; omega)), (by first | (rw [HS2.out]; done) | (rw [HS2.out]; rfl) | (rw [HS2.out]; show Value.int _ _ = Value.int _ _; congr 1; show _ = wrap64 (wrap64 ((kk : Int) - 0) + 1); unfold wrap64; omega)), (by first | (rw [HS2.out]; done) | (rw [HS2.out]; rfl) | (rw [HS2.out]; show Value.int _ _ = Value.int _ _; congr 1; show _ = wrap64 (wrap64 ((kk : Int) - 0) + 1); unfold wrap64; omega)), BW, BK⟩
   ·have hlti : ¬ (kk : Int) < 24 := by omega
    obtain rfl : kk = 24 := by omega
    obtain ⟨s, hs⟩ : ∃ s, dryRun ws 24 = s := ⟨_, rfl⟩
    have ho := HO.out
    rw [hs] at ho ⊢
    obtain ⟨b, m, r⟩ := s
    by_cases hz : m = 0
    ·subst hz
     simp only [↓reduceIte] at ho
     have HOF := Aside0.mk ho
     clear ho hs
     go_wp2
     go_ret3
     exact ⟨by rw [HOF.out]; rfl, BW.out⟩
    ·have c3 : (m == 0) = false := beq_eq_false_iff_ne.mpr hz
     simp only [hz, ↓reduceIte] at ho
     have HOF := Aside0.mk ho
     clear ho hs hz
     go_wp2
     go_ret3
     exact ⟨by rw [HOF.out]; rfl, BW.out⟩

/-! ### slices_ContainsFunc_impl_Weather: function 17 (told by hand) -/
set_option maxHeartbeats 2000000 in
theorem ContainsFunc_27 (A0 : Option Addr) (c0 : Nat) (l0 : List S27) (g : Nat) (lb : Array Value) (p : S27 → Bool) (w : World) (hr0 : Kd.C k27 w A0 l0.length l0)
  (eg : ∀ args w, (callFunc g args).run Try.prog w = .ok (.enter g args) w)
  (hp : ∀ (W : World) (x : S27), x ∈ l0 → Below w.heap.size w W → Calls Try.prog g (#[.agg #[.int .i8 x.f0, .int .i8 x.f1, .int .i8 x.f2]] ++ lb) W fun e w' => e = .returned (.bool (p x)) ∧ Below W.heap.size W w') :
  Calls Try.prog 17 #[.slice A0 l0.length c0, .func (.func g) #[] lb] w fun e w' => e = .returned (.bool (l0.any p)) ∧ Below w.heap.size w w' := by
 have hi := IndexFunc_27 A0 c0 l0 g lb p w hr0 eg hp
 have HN := Aside0.mk (Own.firstIdx_nonneg p l0)
 clear hp hr0
 obtain ⟨x, hx⟩ : ∃ x, Own.firstIdx p l0 = x := ⟨_, rfl⟩
 rw [hx] at hi
 have HX := Aside0.mk hx
 clear hx
 go_enter Try.func17, Try.ntmps17
 go_wp2_with (go_at_call 25; refine hi.mono ?_; rintro e w1 ⟨rfl, hb1⟩)
 go_ret
 exact ⟨by rw [← HN.out, HX.out]; rfl, hb1⟩

/-! ### impl_within: function 30 -/
def impl_within.f (a0 : Int) (a1 : Int) (a2 : Int) : Option (Bool) := if a1 ≤ a0 then (some (decide (a0 ≤ a2))) else (some false)
set_option maxHeartbeats 8000000 in
set_option maxRecDepth 100000 in
theorem impl_within.calls (a0 : Int) (a1 : Int) (a2 : Int) (r : Bool) (w : World) (h : impl_within.f a0 a1 a2 = some r) :
  Calls Try.prog 30 #[.int .i64 a0, .int .i64 a1, .int .i64 a2] w fun e w' => e = .returned (.bool r) ∧ Drawn0 w w' := by
 have H : (if a1 ≤ a0 then (some (decide (a0 ≤ a2))) else (some false)) = some r := h
 clear h
 by_cases c4 : a1 ≤ a0
 ·rw [if_pos c4] at H
  have c4b0 : decide (a1 ≤ a0) = true := decide_eq_true c4
  clear c4
  obtain rfl := Option.some.inj H
  go_enter Try.func30, Try.ntmps30
  go_wp2
  go_ret
  exact ⟨by first | rfl | (simp; done) | (simp [*]; done), by repeat (first | exact Drawn0.refl _ | apply Drawn0.step)⟩
 ·rw [if_neg c4] at H
  have c4b0 : decide (a1 ≤ a0) = false := decide_eq_false c4
  clear c4
  obtain rfl := Option.some.inj H
  go_enter Try.func30, Try.ntmps30
  go_wp2
  go_ret
  exact ⟨by first | rfl | (simp; done) | (simp [*]; done), by repeat (first | exact Drawn0.refl _ | apply Drawn0.step)⟩

/-! ### slices_IndexFunc_int64: function 33 (told by hand) -/
set_option maxHeartbeats 2000000 in
theorem IndexFunc_i64 (A0 : Option Addr) (c0 : Nat) (l0 : List Int) (g : Nat) (lb : Array Value) (p : Int → Bool) (w : World) (hr0 : Kd.C (Kd.int .i64) w A0 l0.length l0)
  (eg : ∀ args w, (callFunc g args).run Try.prog w = .ok (.enter g args) w)
  (hp : ∀ (W : World) (x : Int), x ∈ l0 → Below w.heap.size w W → Calls Try.prog g (#[.int .i64 x] ++ lb) W fun e w' => e = .returned (.bool (p x)) ∧ Below W.heap.size W w') :
  Calls Try.prog 33 #[.slice A0 l0.length c0, .func (.func g) #[] lb] w fun e w' => e = .returned (.int .i64 (Own.firstIdx p l0)) ∧ Below w.heap.size w w' := by
 have HR0 := Aside0.mk hr0
 have hn : l0.length ≤ 9223372036854775807 := hr0.2.1
 have HP := Aside0.mk hp
 clear hr0 hp
 go_enter Try.func33, Try.ntmps33
 go_wp2
 go_loopg [5, 8] l0.length (fun gg _ v8 w' => ∃ kk : Nat, kk ≤ l0.length ∧ l0.length - kk ≤ gg ∧ v8 = .int .i64 kk ∧ Aside0 (Below w.heap.size w w') ∧ Aside0 (∀ j, (h : j < kk) → (h2 : j < l0.length) → p l0[j] = false))
 case atStart => exact ⟨0, Nat.zero_le _, by omega, rfl, ⟨Below.refl _ w⟩, ⟨fun j hj => absurd hj (Nat.not_lt_zero _)⟩⟩
 case round =>
  obtain ⟨kk, hkk, hg, rfl, BW, AF⟩ := hrel
  by_cases hlt : kk < l0.length
  ·have hlti : (kk : Int) < (l0.length : Int) := by omega
   have hcall := HP.out wr l0[kk] (List.getElem_mem hlt) BW.out
   obtain ⟨ad, e1, hx0⟩ := Kd.at_int (Kd.C_below HR0.out BW.out) (kk : Int) (by omega) hlti
   cases e1
   have ey : rd l0 (kk : Int) = l0[kk] := by simp [rd, List.getD_eq_getElem?_getD, List.getElem?_eq_getElem hlt]
   rw [ey] at hx0
   simp only [Int.toNat_natCast] at hx0
   obtain ⟨y, hy⟩ : ∃ y, l0[kk] = y := ⟨_, rfl⟩
   rw [hy] at hx0 hcall
   have HY := Aside0.mk hy
   clear hy ey
   cases hq : p y with
   | true =>
    rw [hq] at hcall
    have HQ := Aside0.mk hq
    clear hq
    go_wp2_with (go_at_fn g; refine hcall.mono ?_; rintro e w1 ⟨rfl, hb1⟩)
    go_ret
    refine ⟨?_, below_step BW.out hb1⟩
    rw [Own.firstIdx_hit hlt (fun j hj => AF.out j hj (by omega)) (by rw [HY.out]; exact HQ.out)]
    rfl
   | false =>
    rw [hq] at hcall
    have HQ := Aside0.mk hq
    clear hq
    go_wp2_with (go_at_fn g; refine hcall.mono ?_; rintro e w1 ⟨rfl, hb1⟩)
    go_roundg (l0.length - (kk + 1))
    case measure => omega
    case rel =>
     refine ⟨kk + 1, by omega, by omega, by go_num, ⟨below_step BW.out hb1⟩, ⟨fun j hj h2 => ?_⟩⟩
     by_cases e : j = kk
     ·subst e
      rw [HY.out]; exact HQ.out
     ·exact AF.out j (by omega) h2
  ·have hlti : ¬ (kk : Int) < (l0.length : Int) := by omega
   go_wp2
   go_ret
   refine ⟨?_, BW.out⟩
   rw [Own.firstIdx_miss (fun j hj => AF.out j (by omega) hj)]
   rfl

/-! ### slices_ContainsFunc_int64: function 31 (told by hand) -/
set_option maxHeartbeats 2000000 in
theorem ContainsFunc_i64 (A0 : Option Addr) (c0 : Nat) (l0 : List Int) (g : Nat) (lb : Array Value) (p : Int → Bool) (w : World) (hr0 : Kd.C (Kd.int .i64) w A0 l0.length l0)
  (eg : ∀ args w, (callFunc g args).run Try.prog w = .ok (.enter g args) w)
  (hp : ∀ (W : World) (x : Int), x ∈ l0 → Below w.heap.size w W → Calls Try.prog g (#[.int .i64 x] ++ lb) W fun e w' => e = .returned (.bool (p x)) ∧ Below W.heap.size W w') :
  Calls Try.prog 31 #[.slice A0 l0.length c0, .func (.func g) #[] lb] w fun e w' => e = .returned (.bool (l0.any p)) ∧ Below w.heap.size w w' := by
 have hi := IndexFunc_i64 A0 c0 l0 g lb p w hr0 eg hp
 have HN := Aside0.mk (Own.firstIdx_nonneg p l0)
 clear hp hr0
 obtain ⟨x, hx⟩ : ∃ x, Own.firstIdx p l0 = x := ⟨_, rfl⟩
 rw [hx] at hi
 have HX := Aside0.mk hx
 clear hx
 go_enter Try.func31, Try.ntmps31
 go_wp2_with (go_at_call 33; refine hi.mono ?_; rintro e w1 ⟨rfl, hb1⟩)
 go_ret
 exact ⟨by rw [← HN.out, HX.out]; rfl, hb1⟩

-- NOT PRINTED: function 32 (impl_areWithin_1)

/-! ### impl_areWithin: function 26 (told by hand) -/
def impl_areWithin.f (l0 : List Int) (a1 : Int) (a2 : Int) : Option Bool := some (l0.all fun n => decide (a1 ≤ n ∧ n ≤ a2))
theorem within_some (a b c : Int) : impl_within.f a b c = some (decide (b ≤ a ∧ a ≤ c)) := by
 unfold impl_within.f
 by_cases h : b ≤ a <;> simp [h]
set_option maxHeartbeats 2000000 in
theorem areWithin_1 (n a b : Int) (g1 g2 : Nat) (w : World) (h1 : w.cell? ⟨g1, 0, none⟩ = some (.int .i64 a)) (h2 : w.cell? ⟨g2, 0, none⟩ = some (.int .i64 b)) :
  Calls Try.prog 32 #[.int .i64 n, .pointer (some ⟨g1, 0, none⟩), .pointer (some ⟨g2, 0, none⟩)] w fun e w' => e = .returned (.bool (!decide (a ≤ n ∧ n ≤ b))) ∧ Below w.heap.size w w' := by
 have hw := impl_within.calls n a b _ w (within_some n a b)
 obtain ⟨x, hx⟩ : ∃ x, decide (a ≤ n ∧ n ≤ b) = x := ⟨_, rfl⟩
 rw [hx] at hw
 rw [hx]
 clear hx
 go_enter Try.func32, Try.ntmps32
 go_wp2_with (go_at_call 30; refine hw.mono ?_; rintro e w1 ⟨rfl, ⟨nd, rfl⟩⟩)
 go_ret
 exact ⟨rfl, pw_below_drewN (Below.refl _ _) _⟩
set_option maxHeartbeats 2000000 in
theorem impl_areWithin.calls (A0 : Option Addr) (c0 : Nat) (l0 : List Int) (a1 : Int) (a2 : Int) (r : Bool) (w : World) (hr0 : Kd.C (Kd.int .i64) w A0 l0.length l0) (hc0 : l0.length ≤ c0) (h : impl_areWithin.f l0 a1 a2 = some r) :
  Calls Try.prog 26 #[.slice A0 l0.length c0, .int .i64 a1, .int .i64 a2] w fun e w' => e = .returned (.bool r) ∧ Below w.heap.size w w' := by
 have hr := Option.some.inj h
 have hany : l0.any (fun x => !decide (a1 ≤ x ∧ x ≤ a2)) = !r := by rw [← hr, List.all_eq_not_any_not]; simp
 have hC : ∀ (W : World) (g1 g2 : Nat), Below w.heap.size w W → g1 < W.heap.size → g2 < W.heap.size → W.cell? ⟨g1, 0, none⟩ = some (.int .i64 a1) → W.cell? ⟨g2, 0, none⟩ = some (.int .i64 a2) →
   Calls Try.prog 31 #[.slice A0 l0.length c0, .func (.func 32) #[] #[.pointer (some ⟨g1, 0, none⟩), .pointer (some ⟨g2, 0, none⟩)]] W fun e w' => e = .returned (.bool (!r)) ∧ Below W.heap.size W w' := by
  intro W g1 g2 hB l1 l2 h1 h2
  rw [← hany]
  exact ContainsFunc_i64 A0 c0 l0 32 _ (fun x => !decide (a1 ≤ x ∧ x ≤ a2)) W (Kd.C_below hr0 hB) (enters_of Try.func32 (by kernel_rfl) rfl)
   (fun W' x _ hB' => areWithin_1 x a1 a2 g1 g2 W' ((hB'.cell (p := ⟨g1, 0, none⟩) l1).trans h1) ((hB'.cell (p := ⟨g2, 0, none⟩) l2).trans h2))
 have HC := Aside0.mk hC
 clear h hr hany hr0 hC
 go_enter Try.func26, Try.ntmps26
 go_wp2_with (go_at_call 31; refine (HC.out _ _ _ (below_alloc (below_alloc (Below.refl _ _) _) _) (by first | (simp; done) | (simp; omega)) (by first | (simp; done) | (simp; omega)) (by simp; done) (by simp; done)).mono ?_; rintro e w1 ⟨rfl, hb1⟩)
 go_ret
 exact ⟨by simp, below_step (below_alloc (below_alloc (Below.refl _ _) _) _) hb1⟩

/-! ### impl_isWeather: function 19 -/
def impl_isWeather.f (a0_0 : Int) (a0_1 : Int) (a0_2 : Int) : Option (Bool) := (impl_areWithin.f (([wrap64 (a0_0), wrap64 (a0_1), wrap64 (a0_2)] : List Int)) 0 9).bind fun t112 => (some t112)
set_option maxHeartbeats 8000000 in
set_option maxRecDepth 100000 in
theorem impl_isWeather.calls (a0_0 : Int) (a0_1 : Int) (a0_2 : Int) (r : Bool) (w : World) (h : impl_isWeather.f a0_0 a0_1 a0_2 = some r) :
  Calls Try.prog 19 #[.agg #[.int .i8 a0_0, .int .i8 a0_1, .int .i8 a0_2]] w fun e w' => e = .returned (.bool r) ∧ Below w.heap.size w w' := by
 have hu27 := Try.underlying27
 have HB := Aside0.mk (Below.refl w.heap.size w)
 have H : ((impl_areWithin.f (([wrap64 (a0_0), wrap64 (a0_1), wrap64 (a0_2)] : List Int)) 0 9).bind fun t112 => (some t112)) = some r := h
 clear h
 obtain ⟨y109, hy109⟩ : ∃ y_ : List Int, y_ = (([wrap64 (a0_0), wrap64 (a0_1), wrap64 (a0_2)] : List Int)) := ⟨_, rfl⟩
 replace H : ((impl_areWithin.f y109 0 9).bind fun t112 => (some t112)) = some r := by first | (rw [hy109]; with_reducible exact H) | (have H2_ := (Option.bind_some _ _).symm.trans H; rw [hy109]; with_reducible exact H2_) | (have H2_ := (Option.bind_some _ _).symm.trans H; with_reducible exact H2_) | with_reducible exact H | (rw [hy109]; exact H) | exact H
 have Ny109 := Aside0.mk hy109
 clear hy109
 replace H := Option.bind_eq_some_iff.mp H
 obtain ⟨t112, A20, H⟩ := H
 replace H : (some t112) = some r := H
 have A2 := Aside0.mk A20
 clear A20
 obtain rfl := Option.some.inj H
 go_enter Try.func19, Try.ntmps19
 go_wp2_with (first | ((with_reducible refine gate_dst (N := 1) rfl ?_); refine box_event ?hg (N := 1) ?hd (cs := #[.int .i8 a0_0, .int .i8 a0_1, .int .i8 a0_2]) (t := 27) ?hr ?_; (case hd => rfl); (case hg => rfl); (case hr => first | (go_simp; done) | (go_simp; rfl)); intro gb108 hg w3 hbox hb; have n0_ := Aside0.mk (below_step (by repeat (first | (with_reducible first | exact HB.out | apply below_alloc | apply pw_below_drewN | apply below_drew1) | exact HB.out)) hb); have n1_ := Aside0.mk (hbox); have n2_ := Aside0.mk ((by rw [hg]; exact (below_size (by repeat (first | (with_reducible first | exact HB.out | apply below_alloc | apply pw_below_drewN | apply below_drew1) | exact HB.out))) : w.heap.size ≤ gb108)); have n3_ := Aside0.mk ((by rw [hg]; exact (below_size (by repeat (first | (with_reducible first | exact HB.out | apply below_alloc | apply pw_below_drewN | apply below_drew1) | exact HB.out))) : w.heap.size ≤ gb108)); clear HB; have HB := n0_; have BK108 := n1_; have GW108 := n2_; have GE108 := n3_; clear n0_ n1_ n2_ n3_; clear hb hbox hg; have hcz4_0 : w3.cell? ⟨gb108, 0, none⟩ = some (.int .i8 a0_0) := (blk_cell BK108.out 0).trans rfl; have hcz4_1 : w3.cell? ⟨gb108, 1, none⟩ = some (.int .i8 a0_1) := (blk_cell BK108.out 1).trans rfl; have hcz4_2 : w3.cell? ⟨gb108, 2, none⟩ = some (.int .i8 a0_2) := (blk_cell BK108.out 2).trans rfl; have hfz4_0 := blk_frozen BK108.out 0; have hfz4_1 := blk_frozen BK108.out 1; have hfz4_2 := blk_frozen BK108.out 2) | ((with_reducible refine gate_dst (N := 12) rfl ?_); refine Kd.R_lit (Kd.int .i64) _ 2 ?hg (N := 12) ?hd (xs := ([wrap64 (a0_0), wrap64 (a0_1), wrap64 (a0_2)] : List Int)) (inner := [.int .i64 (wrap64 (a0_0)), .int .i64 (wrap64 (a0_1)), .int .i64 (wrap64 (a0_2))]) (ok := fun _ => True) (okp := fun _ => True) ?hr ?hp (fun _ hk => hk) trivial (Below.refl _ _) (Nat.le_refl _) (by simp) ?_; (case hd => rfl); (case hg => rfl); (case hr => first | (go_simp; done) | (go_simp; rfl)); (case hp => exact (Reps.one (show Kd.M (Kd.int .i64) _ _ _ (wrap64 (a0_0)) [.int .i64 (wrap64 (a0_0))] from rfl) (Reps.one (show Kd.M (Kd.int .i64) _ _ _ (wrap64 (a0_1)) [.int .i64 (wrap64 (a0_1))] from rfl) (Reps.one (show Kd.M (Kd.int .i64) _ _ _ (wrap64 (a0_2)) [.int .i64 (wrap64 (a0_2))] from rfl) (Reps.none _ _))))); intro v110 w5 ho6 hb hg_ hnew_; clear hg_ hnew_; (first | rw [← Ny109.out] at ho6 | (simp only [Int.reduceToNat] at ho6; rw [← Ny109.out] at ho6)); have n0_ := Aside0.mk (Kd.R_lower ho6 (below_size (by repeat (first | (with_reducible first | exact HB.out | apply below_alloc | apply pw_below_drewN | apply below_drew1 | refine below_set ?_ GE108.out) | exact HB.out)))); have n1_ := Aside0.mk (blk_below (g := gb108) (o := .cells #[.int .i8 a0_0, .int .i8 a0_1, .int .i8 a0_2] 27 (0, 0)) (by (with_reducible repeat (first | refine blk_drewN ?_ _ | refine blk_drew ?_ | refine blk_alloc ?_ _)); exact BK108.out) hb); have n2_ := Aside0.mk (below_step (by repeat (first | (with_reducible first | exact HB.out | apply below_alloc | apply pw_below_drewN | apply below_drew1 | refine below_set ?_ GE108.out) | exact HB.out)) hb); clear BK108; clear HB; have HO111 := n0_; have BK108 := n1_; have HB := n2_; clear n0_ n1_ n2_; clear hb ho6; obtain ⟨Ao7, co7, eo7⟩ := Kd.R_slice HO111.out; subst eo7) | ((with_reducible refine gate_callee (f := 26) rfl ?_); refine goesL_ (some 13) rfl rfl Try.func26 (by kernel_rfl) rfl #[.slice Ao7 y109.length co7, .int .i64 0, .int .i64 9] rfl (by (try simp only [List.map_toArray, List.map_cons, List.map_nil]); first | done | rfl | (simp only [List.length_drop, List.length_take]; rfl)) ?_; (with_reducible refine (impl_areWithin.calls _ _ y109 0 9 t112 _ ?side1 ?side2 A2.out).mono ?_); (case side1 => repeat (first | exact (Kd.R_reads' HO111.out).2.2 | (with_reducible refine Kd.C_alloc ?_ _) | (with_reducible refine Kd.C_drewN ?_ _) | (with_reducible refine Kd.C_drew ?_))); (case side2 => exact (Kd.R_reads' HO111.out).2.1); rintro e w8 ⟨rfl, hb⟩; refine ⟨_, rfl, ?_⟩; have n0_ := Aside0.mk (Kd.R_below (by (with_reducible repeat (first | apply Kd.R_alloc | apply Kd.R_drewN | apply Kd.R_drew)); exact HO111.out) hb); have n1_ := Aside0.mk (blk_below (g := gb108) (o := .cells #[.int .i8 a0_0, .int .i8 a0_1, .int .i8 a0_2] 27 (0, 0)) (by (with_reducible repeat (first | refine blk_drewN ?_ _ | refine blk_drew ?_ | refine blk_alloc ?_ _)); exact BK108.out) hb); have n2_ := Aside0.mk (below_step (by repeat (first | (with_reducible first | exact HB.out | apply below_alloc | apply pw_below_drewN | apply below_drew1 | refine below_set ?_ GE108.out) | exact HB.out)) hb); clear HO111; clear BK108; clear HB; have HO111 := n0_; have BK108 := n1_; have HB := n2_; clear n0_ n1_ n2_; (try clear hb); (try clear hb2); (try clear hk); (try clear hi)))
 go_ret
 exact ⟨by first | rfl | (simp [errW_none, errW_some] <;> rfl) | (simp [*, errW_none, errW_some] <;> rfl), by repeat (first | (with_reducible first | exact HB.out | apply below_alloc | apply pw_below_drewN | apply below_drew1 | refine below_set ?_ GE108.out) | exact HB.out)⟩

/-! ### impl_ValidDay_1: function 18 -/
def impl_ValidDay_1.f (a0_0 : Int) (a0_1 : Int) (a0_2 : Int) : Option (Bool) := (impl_isWeather.f a0_0 a0_1 a0_2).bind fun t114 => (some (!t114))
set_option maxHeartbeats 8000000 in
set_option maxRecDepth 100000 in
theorem impl_ValidDay_1.calls (a0_0 : Int) (a0_1 : Int) (a0_2 : Int) (r : Bool) (w : World) (h : impl_ValidDay_1.f a0_0 a0_1 a0_2 = some r) :
  Calls Try.prog 18 #[.agg #[.int .i8 a0_0, .int .i8 a0_1, .int .i8 a0_2]] w fun e w' => e = .returned (.bool r) ∧ Below w.heap.size w w' := by
 have hu27 := Try.underlying27
 have HB := Aside0.mk (Below.refl w.heap.size w)
 have H : ((impl_isWeather.f a0_0 a0_1 a0_2).bind fun t114 => (some (!t114))) = some r := h
 clear h
 replace H := Option.bind_eq_some_iff.mp H
 obtain ⟨t114, A20, H⟩ := H
 replace H : (some (!t114)) = some r := H
 have A2 := Aside0.mk A20
 clear A20
 obtain rfl := Option.some.inj H
 go_enter Try.func18, Try.ntmps18
 go_wp2_with (first | ((with_reducible refine gate_dst (N := 1) rfl ?_); refine box_event ?hg (N := 1) ?hd (cs := #[.int .i8 a0_0, .int .i8 a0_1, .int .i8 a0_2]) (t := 27) ?hr ?_; (case hd => rfl); (case hg => rfl); (case hr => first | (go_simp; done) | (go_simp; rfl)); intro gb113 hg w3 hbox hb; have n0_ := Aside0.mk (below_step (by repeat (first | (with_reducible first | exact HB.out | apply below_alloc | apply pw_below_drewN | apply below_drew1) | exact HB.out)) hb); have n1_ := Aside0.mk (hbox); have n2_ := Aside0.mk ((by rw [hg]; exact (below_size (by repeat (first | (with_reducible first | exact HB.out | apply below_alloc | apply pw_below_drewN | apply below_drew1) | exact HB.out))) : w.heap.size ≤ gb113)); have n3_ := Aside0.mk ((by rw [hg]; exact (below_size (by repeat (first | (with_reducible first | exact HB.out | apply below_alloc | apply pw_below_drewN | apply below_drew1) | exact HB.out))) : w.heap.size ≤ gb113)); clear HB; have HB := n0_; have BK113 := n1_; have GW113 := n2_; have GE113 := n3_; clear n0_ n1_ n2_ n3_; clear hb hbox hg; have hcz4_0 : w3.cell? ⟨gb113, 0, none⟩ = some (.int .i8 a0_0) := (blk_cell BK113.out 0).trans rfl; have hcz4_1 : w3.cell? ⟨gb113, 1, none⟩ = some (.int .i8 a0_1) := (blk_cell BK113.out 1).trans rfl; have hcz4_2 : w3.cell? ⟨gb113, 2, none⟩ = some (.int .i8 a0_2) := (blk_cell BK113.out 2).trans rfl; have hfz4_0 := blk_frozen BK113.out 0; have hfz4_1 := blk_frozen BK113.out 1; have hfz4_2 := blk_frozen BK113.out 2) | ((with_reducible refine gate_callee (f := 19) rfl ?_); refine goesL_ (some 4) rfl rfl Try.func19 (by kernel_rfl) rfl #[.agg #[.int .i8 a0_0, .int .i8 a0_1, .int .i8 a0_2]] rfl (by (try simp only [List.map_toArray, List.map_cons, List.map_nil]); first | done | rfl | (simp only [List.length_drop, List.length_take]; rfl)) ?_; (with_reducible refine (impl_isWeather.calls a0_0 a0_1 a0_2 t114 _ A2.out).mono ?_); rintro e w5 ⟨rfl, hb⟩; refine ⟨_, rfl, ?_⟩; have n0_ := Aside0.mk (blk_below (g := gb113) (o := .cells #[.int .i8 a0_0, .int .i8 a0_1, .int .i8 a0_2] 27 (0, 0)) (by (with_reducible repeat (first | refine blk_drewN ?_ _ | refine blk_drew ?_ | refine blk_alloc ?_ _)); exact BK113.out) hb); have n1_ := Aside0.mk (below_step (by repeat (first | (with_reducible first | exact HB.out | apply below_alloc | apply pw_below_drewN | apply below_drew1 | refine below_set ?_ GE113.out) | exact HB.out)) hb); clear BK113; clear HB; have BK113 := n0_; have HB := n1_; clear n0_ n1_; (try clear hb); (try clear hb2); (try clear hk); (try clear hi)))
 go_ret
 exact ⟨by first | rfl | (simp [errW_none, errW_some] <;> rfl) | (simp [*, errW_none, errW_some] <;> rfl), by repeat (first | (with_reducible first | exact HB.out | apply below_alloc | apply pw_below_drewN | apply below_drew1 | refine below_set ?_ GE113.out) | exact HB.out)⟩

/-! ### impl_ValidDay: function 8 (told by hand) -/
theorem ValidDay_1_tot (x : S27) : impl_ValidDay_1.f x.f0 x.f1 x.f2 = some (!wokB x) := by
 unfold impl_ValidDay_1.f impl_isWeather.f impl_areWithin.f wokB
 simp only [Option.bind_some, List.all_cons, List.all_nil, Bool.and_true]
theorem C_day {W : World} {g t : Nat} {ws : List S27} (hg : W.heap[g]? = some (.cells (dayC ws).toArray t (0, 0))) (hl : ws.length ≤ 1000) : Kd.C k27 W (some ⟨g, 0, none⟩) ws.length ws := by
 refine ⟨rfl, by omega, fun _ => ⟨_, rfl, fun j p hj => ?_⟩⟩
 obtain ⟨hjl, rfl⟩ := List.getElem?_eq_some_iff.1 hj
 refine ⟨cs3 ws[j], rfl, k27_mk _ _, fun i u hu => ?_⟩
 have hi : i < 3 := (List.getElem?_eq_some_iff.1 hu).1
 rw [show (⟨g, 0, none⟩ : Addr).add (j * k27.sz + i) = ⟨g, j * 3 + i, none⟩ from add_plain g _, day_cell hg j i hjl hi]
 exact hu
set_option maxHeartbeats 4000000 in
set_option maxRecDepth 100000 in
theorem implValidDay_calls (ws : List S27) (hl : ws.length = 24) (w : World) :
  Calls Try.prog 8 #[.agg (dayC ws).toArray] w fun e w' => e = .returned (.bool (ws.all wokB)) ∧ Below w.heap.size w w' := by
 have hC : ∀ (W : World) (g t : Nat), W.heap[g]? = some (.cells (dayC ws).toArray t (0, 0)) →
   Calls Try.prog 17 #[.slice (some ⟨g, 0, none⟩) 24 24, .func (.func 18) #[] #[]] W fun e w' => e = .returned (.bool (!ws.all wokB)) ∧ Below W.heap.size W w' := by
  intro W g t hg
  have := ContainsFunc_27 (some ⟨g, 0, none⟩) 24 ws 18 #[] (fun x => !wokB x) W (C_day hg (by omega)) (enters_of Try.func18 (by kernel_rfl) rfl)
   (fun W' x _ _ => impl_ValidDay_1.calls x.f0 x.f1 x.f2 _ W' (ValidDay_1_tot x))
  rw [hl] at this
  rw [List.all_eq_not_any_not, Bool.not_not]
  exact this
 have HC := Aside0.mk hC
 obtain ⟨x, hx⟩ : ∃ x, ws.all wokB = x := ⟨_, rfl⟩
 rw [hx] at HC ⊢
 clear hl hC hx
 go_enter Try.func8, Try.ntmps8
 go_wp2_with (first
  | ((with_reducible refine gate_dst (N := 1) rfl ?_); refine box_event ?hg (N := 1) ?hd (cs := (dayC ws).toArray) (t := 29) ?hr ?_; (case hd => rfl); (case hg => rfl); (case hr => first | (go_simp; done) | (go_simp; rfl)); intro ga hga w1 h1 hb1; have B1 := Aside0.mk hb1; have K1 := Aside0.mk h1; clear hga h1 hb1)
  | (go_at_call 17; refine (HC.out _ ga _ K1.out).mono ?_; rintro e w2 ⟨rfl, hb2⟩))
 go_ret
 exact ⟨by simp, below_step B1.out hb2⟩

/-! ### impl_LongestDry: function 10 (told by hand) -/
theorem day_index (ws : List S27) (k : Nat) (h : k < ws.length) : List.take 3 (List.drop (k * 3) (dayC ws)) = [.int .i8 ws[k].f0, .int .i8 ws[k].f1, .int .i8 ws[k].f2] := by
 have hl := dayC_len ws
 apply List.ext_getElem?
 intro j
 rw [List.getElem?_take, List.getElem?_drop]
 by_cases hj : j < 3
 ·rw [if_pos hj]
  exact dayC_get ws k j h hj
 ·rw [if_neg hj, List.getElem?_eq_none (by simp; omega)]
theorem day_index_run (W : World) (ws : List S27) (k : Nat) (h : k < 24) (y : S27) (hx : List.take 3 (List.drop (k * 3) (dayC ws)) = [.int .i8 y.f0, .int .i8 y.f1, .int .i8 y.f2]) :
  (Instr.index 29 (.agg (dayC ws).toArray) (.int .i64 (k : Int))).run Try.prog W = .ok (.agg #[.int .i8 y.f0, .int .i8 y.f1, .int .i8 y.f2]) W := by
 have h0 : (0 : Int) ≤ (k : Int) ∧ (k : Int) < ((24 : Nat) : Int) := by omega
 simp [Instr.index, run_underlying Try.underlying29, asIntOf, h0, h, hx, part, go_sem]
theorem day_index_event {ops : Array Oper} {rest : List Oper} {o : Oper} {a : Act} {W : World} {Q : Exit → Act → World → Prop} (hgd : o.guard = none) (x i : Operand) (ho : o.op = .index 29 x i) (ws : List S27) (k : Nat) (y : S27)
  (hx : a.eval x = .agg (dayC ws).toArray) (hi : a.eval i = .int .i64 (k : Int)) (hk : k < 24) (hy : List.take 3 (List.drop (k * 3) (dayC ws)) = [.int .i8 y.f0, .int .i8 y.f1, .int .i8 y.f2])
  (h : wpList Try.prog ops Q rest (a.put o.dst (.agg #[.int .i8 y.f0, .int .i8 y.f1, .int .i8 y.f2])) W) : wpList Try.prog ops Q (o :: rest) a W := by
 refine Kd.event_run hgd (w1 := W) (v := .agg #[.int .i8 y.f0, .int .i8 y.f1, .int .i8 y.f2]) ?_ h
 unfold execOp
 simp only [ho, hx, hi, Sem.run_bind, day_index_run W ws k hk y hy, Result.andThen_ok]
 rfl
set_option maxHeartbeats 8000000 in
set_option maxRecDepth 100000 in
theorem implDry_calls (ws : List S27) (hl : ws.length = 24) (w : World) :
  Calls Try.prog 10 #[.agg (dayC ws).toArray] w fun e w' => e = .returned (.tuple #[.int .i64 (dryOut ws).1, .int .i64 (dryOut ws).2.1, .int .i64 (dryOut ws).2.2]) ∧ Below w.heap.size w w' := by
 have HI := Aside0.mk (show (Try.prog.info? 29).map (·.size) = some (dayC ws).toArray.size from by rw [dayC_size ws hl]; kernel_rfl)
 have HL := Aside0.mk hl
 have HOK := Aside0.mk (fun W => implValidDay_calls ws hl W)
 clear hl
 cases hq : ws.all wokB with
 | false =>
  have ho : dryOut ws = (0, 0, 1) := by unfold dryOut; rw [hq]; rfl
  rw [ho]
  rw [hq] at HOK
  clear ho hq
  go_enter Try.func10, Try.ntmps10
  go_wp2_with (first
   | ((with_reducible refine gate_dst (N := 1) rfl ?_); refine box_event ?hg (N := 1) ?hd (cs := (dayC ws).toArray) (t := 29) ?hr ?_; (case hd => rfl); (case hg => rfl); (case hr => first | (go_simp; done) | (go_simp; rfl)); intro ga hga w1 h1 hb1; have B1 := Aside0.mk hb1; have K1 := Aside0.mk h1; clear hga h1 hb1)
   | ((with_reducible refine gate_dst (N := 10) rfl ?_); refine wpList_load_row rfl 29 (.tmp 1) rfl ga rfl 29 (dayC ws).toArray (0, 0) _ K1.out Try.underlying29 rfl HI.out ?_)
   | (go_at_call 8; refine (HOK.out _).mono ?_; rintro e w2 ⟨rfl, hb2⟩; have B2 := Aside0.mk (below_step B1.out hb2); clear hb2))
  go_ret3
  exact ⟨rfl, B2.out⟩
 | true =>
  have ho : dryOut ws = (if (dryRun ws 24).most = 0 then (0, 0, 6) else ((dryRun ws 24).best, (dryRun ws 24).most, 0)) := by unfold dryOut; rw [hq]; rfl
  have HO := Aside0.mk ho
  rw [hq] at HOK
  clear ho hq
  go_enter Try.func10, Try.ntmps10
  go_wp2_with (first
   | ((with_reducible refine gate_dst (N := 1) rfl ?_); refine box_event ?hg (N := 1) ?hd (cs := (dayC ws).toArray) (t := 29) ?hr ?_; (case hd => rfl); (case hg => rfl); (case hr => first | (go_simp; done) | (go_simp; rfl)); intro ga hga w1 h1 hb1; have B1 := Aside0.mk hb1; have K1 := Aside0.mk h1; clear hga h1 hb1)
   | ((with_reducible refine gate_dst (N := 10) rfl ?_); refine wpList_load_row rfl 29 (.tmp 1) rfl ga rfl 29 (dayC ws).toArray (0, 0) _ K1.out Try.underlying29 rfl HI.out ?_)
   | (go_at_call 8; refine (HOK.out _).mono ?_; rintro e w2 ⟨rfl, hb2⟩; have B2 := Aside0.mk (below_step B1.out hb2); have K2 := Aside0.mk (blk_below K1.out hb2); clear hb2)
   | ((with_reducible refine gate_dst (N := 13) rfl ?_); refine wpList_load_row rfl 29 (.tmp 1) rfl ga rfl 29 (dayC ws).toArray (0, 0) _ K2.out Try.underlying29 rfl HI.out ?_))
  go_loopg [5, 6, 7, 14] 24 (fun gg v5 v6 v7 v14 w' => ∃ kk : Nat, kk ≤ 24 ∧ 24 - kk ≤ gg ∧ v14 = .int .i64 (kk : Int) ∧ v5 = .int .i64 (dryRun ws kk).best ∧ v6 = .int .i64 (dryRun ws kk).most ∧ v7 = .int .i64 (dryRun ws kk).run ∧ Aside0 (Below w.heap.size w w'))
  case atStart => exact ⟨0, Nat.zero_le _, by omega, rfl, rfl, rfl, rfl, B2⟩
  case round =>
   obtain ⟨kk, hkk, hgg, rfl, rfl, rfl, rfl, BW⟩ := hrel
   by_cases hlt : kk < 24
   ·have hlti : (kk : Int) < 24 := by omega
    have hlw : kk < ws.length := by rw [HL.out]; exact hlt
    have hidx := day_index ws kk hlw
    have hst : dryRun ws (kk + 1) = dryStep (dryRun ws kk) kk ws[kk] := by rw [dryRun, List.getD_eq_getElem?_getD, List.getElem?_eq_getElem hlw]; rfl
    obtain ⟨y, hy⟩ : ∃ y, ws[kk] = y := ⟨_, rfl⟩
    obtain ⟨s, hs⟩ : ∃ s, dryRun ws kk = s := ⟨_, rfl⟩
    rw [hy] at hidx hst
    rw [hs] at hst ⊢
    obtain ⟨b, m, r⟩ := s
    have HIX := Aside0.mk hidx
    have HS := Aside0.mk hs
    clear hy hs hlw hidx
    by_cases h1 : y.f2 > 0
    ·have hs1 : dryRun ws (kk + 1) = (if (0 : Int) > m then ⟨wrap64 (wrap64 ((kk : Int) - 0) + 1), 0, 0⟩ else ⟨b, m, 0⟩) := by rw [hst]; unfold dryStep; simp only [h1, ↓reduceIte]
     have c1 : decide (y.f2 > 0) = true := decide_eq_true h1
     have HS1 := Aside0.mk hs1
     clear hst hs1
     by_cases h2 : (0 : Int) > m
     ·have c2 : decide ((0 : Int) > m) = true := decide_eq_true h2
      have HS2 := Aside0.mk (HS1.out.trans (if_pos h2))
      clear h1 h2
      go_wp2_with (first | ((with_reducible refine gate_dst (N := 17) rfl ?_); refine day_index_event rfl (.tmp 13) (.tmp 14) rfl ws kk y rfl rfl (by omega) HIX.out ?_))
      go_roundg (24 - (kk + 1))
      case measure => omega
      case rel => exact ⟨kk + 1, by omega, by omega, by go_num, (by first | (rw [HS2.out]; done) | (rw [HS2.out]; rfl) | (rw [HS2.out]; show Value.int _ _ = Value.int _ _; congr 1; show _ = wrap64 (wrap64 ((kk : Int) - 0) + 1); unfold wrap64; omega)), (by first | (rw [HS2.out]; done) | (rw [HS2.out]; rfl) | (rw [HS2.out]; show Value.int _ _ = Value.int _ _; congr 1; show _ = wrap64 (wrap64 ((kk : Int) - 0) + 1); unfold wrap64; omega)), (by first | (rw [HS2.out]; done) | (rw [HS2.out]; rfl) | (rw [HS2.out]; show Value.int _ _ = Value.int _ _; congr 1; show _ = wrap64 (wrap64 ((kk : Int) - 0) + 1); unfold wrap64; omega)), ⟨below_alloc BW.out _⟩⟩
     ·have c2 : decide ((0 : Int) > m) = false := decide_eq_false h2
      have HS2 := Aside0.mk (HS1.out.trans (if_neg h2))
      clear h1 h2
      go_wp2_with (first | ((with_reducible refine gate_dst (N := 17) rfl ?_); refine day_index_event rfl (.tmp 13) (.tmp 14) rfl ws kk y rfl rfl (by omega) HIX.out ?_))
      go_roundg (24 - (kk + 1))
      case measure => omega
      case rel => exact ⟨kk + 1, by omega, by omega, by go_num, (by first | (rw [HS2.out]; done) | (rw [HS2.out]; rfl) | (rw [HS2.out]; show Value.int _ _ = Value.int _ _; congr 1; show _ = wrap64 (wrap64 ((kk : Int) - 0) + 1); unfold wrap64; omega)), (by first | (rw [HS2.out]; done) | (rw [HS2.out]; rfl) | (rw [HS2.out]; show Value.int _ _ = Value.int _ _; congr 1; show _ = wrap64 (wrap64 ((kk : Int) - 0) + 1); unfold wrap64; omega)), (by first | (rw [HS2.out]; done) | (rw [HS2.out]; rfl) | (rw [HS2.out]; show Value.int _ _ = Value.int _ _; congr 1; show _ = wrap64 (wrap64 ((kk : Int) - 0) + 1); unfold wrap64; omega)), ⟨below_alloc BW.out _⟩⟩
    ·have hs1 : dryRun ws (kk + 1) = (if wrap64 (r + 1) > m then ⟨wrap64 (wrap64 ((kk : Int) - wrap64 (r + 1)) + 1), wrap64 (r + 1), wrap64 (r + 1)⟩ else ⟨b, m, wrap64 (r + 1)⟩) := by rw [hst]; unfold dryStep; simp only [h1, ↓reduceIte]
     have c1 : decide (y.f2 > 0) = false := decide_eq_false h1
     have HS1 := Aside0.mk hs1
     clear hst hs1
     by_cases h2 : wrap64 (r + 1) > m
     ·have c2 : decide (wrap64 (r + 1) > m) = true := decide_eq_true h2
      have HS2 := Aside0.mk (HS1.out.trans (if_pos h2))
      clear h1 h2
      go_wp2_with (first | ((with_reducible refine gate_dst (N := 17) rfl ?_); refine day_index_event rfl (.tmp 13) (.tmp 14) rfl ws kk y rfl rfl (by omega) HIX.out ?_))
      go_roundg (24 - (kk + 1))
      case measure => omega
      case rel => exact ⟨kk + 1, by omega, by omega, by go_num, (by first | (rw [HS2.out]; done) | (rw [HS2.out]; rfl) | (rw [HS2.out]; show Value.int _ _ = Value.int _ _; congr 1; show _ = wrap64 (wrap64 ((kk : Int) - 0) + 1); unfold wrap64; omega)), (by first | (rw [HS2.out]; done) | (rw [HS2.out]; rfl) | (rw [HS2.out]; show Value.int _ _ = Value.int _ _; congr 1; show _ = wrap64 (wrap64 ((kk : Int) - 0) + 1); unfold wrap64; omega)), (by first | (rw [HS2.out]; done) | (rw [HS2.out]; rfl) | (rw [HS2.out]; show Value.int _ _ = Value.int _ _; congr 1; show _ = wrap64 (wrap64 ((kk : Int) - 0) + 1); unfold wrap64; omega)), ⟨below_alloc BW.out _⟩⟩
     ·have c2 : decide (wrap64 (r + 1) > m) = false := decide_eq_false h2
      have HS2 := Aside0.mk (HS1.out.trans (if_neg h2))
      clear h1 h2
      go_wp2_with (first | ((with_reducible refine gate_dst (N := 17) rfl ?_); refine day_index_event rfl (.tmp 13) (.tmp 14) rfl ws kk y rfl rfl (by omega) HIX.out ?_))
      go_roundg (24 - (kk + 1))
      case measure => omega
      case rel => exact ⟨kk + 1, by omega, by omega, by go_num, (by first | (rw [HS2.out]; done) | (rw [HS2.out]; rfl) | (rw [HS2.out]; show Value.int _ _ = Value.int _ _; congr 1; show _ = wrap64 (wrap64 ((kk : Int) - 0) + 1); unfold wrap64; omega)), (by first | (rw [HS2.out]; done) | (rw [HS2.out]; rfl) | (rw [HS2.out]; show Value.int _ _ = Value.int _ _; congr 1; show _ = wrap64 (wrap64 ((kk : Int) - 0) + 1); unfold wrap64; omega)), (by first | (rw [HS2.out]; done) | (rw [HS2.out]; rfl) | (rw [HS2.out]; show Value.int _ _ = Value.int _ _; congr 1; show _ = wrap64 (wrap64 ((kk : Int) - 0) + 1); unfold wrap64; omega)), ⟨below_alloc BW.out _⟩⟩
   ·have hlti : ¬ (kk : Int) < 24 := by omega
    obtain rfl : kk = 24 := by omega
    obtain ⟨s, hs⟩ : ∃ s, dryRun ws 24 = s := ⟨_, rfl⟩
    have ho := HO.out
    rw [hs] at ho ⊢
    obtain ⟨b, m, r⟩ := s
    by_cases hz : m = 0
    ·subst hz
     simp only [↓reduceIte] at ho
     have HOF := Aside0.mk ho
     clear ho hs
     go_wp2
     go_ret3
     exact ⟨by rw [HOF.out]; rfl, BW.out⟩
    ·have c3 : (m == 0) = false := beq_eq_false_iff_ne.mpr hz
     simp only [hz, ↓reduceIte] at ho
     have HOF := Aside0.mk ho
     clear ho hs hz
     go_wp2
     go_ret3
     exact ⟨by rw [HOF.out]; rfl, BW.out⟩

/-! ### laws_FnExactLongestDry: function 4 (told by hand) -/
set_option maxHeartbeats 4000000 in
set_option maxRecDepth 100000 in
theorem lawDry_calls (ws : List S27) (hl : ws.length = 24) (w : World) :
  Calls Try.prog 4 #[.agg (dayC ws).toArray] w fun e w' => e = .returned (.bool true) ∧ Below w.heap.size w w' := by
 have HI := Aside0.mk (show (Try.prog.info? 25).map (·.size) = some (dayC ws).toArray.size from by rw [dayC_size ws hl]; kernel_rfl)
 have HS := Aside0.mk (fun W => specDry_calls ws hl W)
 have HM := Aside0.mk (fun W => implDry_calls ws hl W)
 have HT := Aside0.mk (fun W => toDay_calls ws hl W)
 obtain ⟨x1, hx1⟩ : ∃ x, (dryOut ws).1 = x := ⟨_, rfl⟩
 obtain ⟨x2, hx2⟩ : ∃ x, (dryOut ws).2.1 = x := ⟨_, rfl⟩
 obtain ⟨x3, hx3⟩ : ∃ x, (dryOut ws).2.2 = x := ⟨_, rfl⟩
 rw [hx1, hx2, hx3] at HS HM
 clear hx1 hx2 hx3 hl
 go_enter Try.func4, Try.ntmps4
 go_wp2_with (first
  | ((with_reducible refine gate_dst (N := 1) rfl ?_); refine box_event ?hg (N := 1) ?hd (cs := (dayC ws).toArray) (t := 25) ?hr ?_; (case hd => rfl); (case hg => rfl); (case hr => first | (go_simp; done) | (go_simp; rfl)); intro ga hga w1 h1 hb1; have B1 := Aside0.mk hb1; have K1 := Aside0.mk h1; clear hga h1 hb1)
  | ((with_reducible refine gate_dst (N := 10) rfl ?_); refine wpList_load_row rfl 25 (.tmp 1) rfl ga rfl 25 (dayC ws).toArray (0, 0) _ K1.out Try.underlying25 rfl HI.out ?_)
  | (go_at_call 9; refine (HS.out _).mono ?_; rintro e w3 ⟨rfl, hb3⟩; have B3 := Aside0.mk (below_step B2.out hb3); have K3 := Aside0.mk (blk_below K2.out hb3); clear hb3)
  | ((with_reducible refine gate_dst (N := 17) rfl ?_); refine wpList_load_row rfl 25 (.tmp 1) rfl ga rfl 25 (dayC ws).toArray (0, 0) _ K3.out Try.underlying25 rfl HI.out ?_)
  | (go_at_call 7; refine (HT.out _).mono ?_; rintro e w4 ⟨rfl, hb4⟩; (first | have B4 := Aside0.mk (below_step B3.out hb4) | (have B2 := Aside0.mk (below_step B1.out hb4); have K2 := Aside0.mk (blk_below K1.out hb4))); clear hb4)
  | (go_at_call 10; refine (HM.out _).mono ?_; rintro e w5 ⟨rfl, hb5⟩; have B5 := Aside0.mk (below_step B4.out hb5); clear hb5))
 go_ret
 exact ⟨by first | rfl | simp, B5.out⟩

end Go.Proofs.Ytanalckdmamepaa.Ld
