/- Functions of the program as Lean functions; of each a proof that the machine's call does what its Lean function says. -/
import Derived.Test.YthodfhcaaidnmaaCo0
import Derived.Test.YthodfhcaaidnmaaCo5
namespace Go.Proofs.Ythodfhcaaidnmaa.Co
open Go.RowKit Go.Proofs.YthodfhcaaidnmaaW.PrintWords Go.Proofs.YthodfhcaaidnmaaW.PrintLast Go.Proofs.YthodfhcaaidnmaaW.PrintMore
attribute [local go_sem] max2_int min2_int max_two min_two max_three min_three max_four min_four   -- for this text's walks alone
set_option linter.unusedVariables false
set_option linter.unusedSimpArgs false

/-! ### slices_IndexFunc_int64: function 109 (told by hand) -/
set_option maxHeartbeats 2000000 in
theorem IndexFunc_i64 (A0 : Option Addr) (c0 : Nat) (l0 : List Int) (g : Nat) (lb : Array Value) (p : Int → Bool) (w : World) (hr0 : Kd.C (Kd.int .i64) w A0 l0.length l0)
    (eg : ∀ args w, (callFunc g args).run Try.prog w = .ok (.enter g args) w)
    (hp : ∀ (W : World) (x : Int), x ∈ l0 → Below w.heap.size w W → Calls Try.prog g (#[.int .i64 x] ++ lb) W fun e w' => e = .returned (.bool (p x)) ∧ Below W.heap.size W w') :
    Calls Try.prog 109 #[.slice A0 l0.length c0, .func (.func g) #[] lb] w fun e w' => e = .returned (.int .i64 (Own.firstIdx p l0)) ∧ Below w.heap.size w w' := by
  have HR0 := Aside0.mk hr0
  have hn : l0.length ≤ 9223372036854775807 := hr0.2.1
  have HP := Aside0.mk hp
  clear hr0 hp
  go_enter Try.func109, Try.ntmps109
  go_wp2
  go_loopg [5, 8] l0.length (fun gg _ v8 w' => ∃ kk : Nat, kk ≤ l0.length ∧ l0.length - kk ≤ gg ∧ v8 = .int .i64 kk ∧ Aside0 (Below w.heap.size w w') ∧ Aside0 (∀ j, (h : j < kk) → (h2 : j < l0.length) → p l0[j] = false))
  case atStart => exact ⟨0, Nat.zero_le _, by omega, rfl, ⟨Below.refl _ w⟩, ⟨fun j hj => absurd hj (Nat.not_lt_zero _)⟩⟩
  case round =>
    obtain ⟨kk, hkk, hg, rfl, BW, AF⟩ := hrel
    by_cases hlt : kk < l0.length
    · have hlti : (kk : Int) < (l0.length : Int) := by omega
      have hcall := HP.out wr l0[kk] (List.getElem_mem hlt) BW.out
      obtain ⟨ad, e1, hx0⟩ := Kd.at_int (Kd.C_below HR0.out BW.out) (kk : Int) (by omega) hlti
      cases e1
      have ey : rd l0 (kk : Int) = l0[kk] := by simp [rd, List.getD_eq_getElem?_getD, List.getElem?_eq_getElem hlt]
      rw [ey] at hx0
      simp only [Int.toNat_natCast] at hx0
      obtain ⟨y, hy⟩ : ∃ y, l0[kk] = y := ⟨_, rfl⟩
      rw [hy] at hx0 hcall
      have HY := Aside0.mk hy
      clear hy ey
      cases hq : p y with
      | true =>
        rw [hq] at hcall
        have HQ := Aside0.mk hq
        clear hq
        go_wp2_with (go_at_fn g; refine hcall.mono ?_; rintro e w1 ⟨rfl, hb1⟩)
        go_ret
        refine ⟨?_, below_step BW.out hb1⟩
        rw [Own.firstIdx_hit hlt (fun j hj => AF.out j hj (by omega)) (by rw [HY.out]; exact HQ.out)]
        rfl
      | false =>
        rw [hq] at hcall
        have HQ := Aside0.mk hq
        clear hq
        go_wp2_with (go_at_fn g; refine hcall.mono ?_; rintro e w1 ⟨rfl, hb1⟩)
        go_roundg (l0.length - (kk + 1))
        case measure => omega
        case rel =>
          refine ⟨kk + 1, by omega, by omega, by go_num, ⟨below_step BW.out hb1⟩, ⟨fun j hj h2 => ?_⟩⟩
          by_cases e : j = kk
          · subst e
            rw [HY.out]; exact HQ.out
          · exact AF.out j (by omega) h2
    · have hlti : ¬ (kk : Int) < (l0.length : Int) := by omega
      go_wp2
      go_ret
      refine ⟨?_, BW.out⟩
      rw [Own.firstIdx_miss (fun j hj => AF.out j (by omega) hj)]
      rfl

/-! ### slices_ContainsFunc_int64: function 99 (told by hand) -/
set_option maxHeartbeats 2000000 in
theorem ContainsFunc_i64 (A0 : Option Addr) (c0 : Nat) (l0 : List Int) (g : Nat) (lb : Array Value) (p : Int → Bool) (w : World) (hr0 : Kd.C (Kd.int .i64) w A0 l0.length l0)
    (eg : ∀ args w, (callFunc g args).run Try.prog w = .ok (.enter g args) w)
    (hp : ∀ (W : World) (x : Int), x ∈ l0 → Below w.heap.size w W → Calls Try.prog g (#[.int .i64 x] ++ lb) W fun e w' => e = .returned (.bool (p x)) ∧ Below W.heap.size W w') :
    Calls Try.prog 99 #[.slice A0 l0.length c0, .func (.func g) #[] lb] w fun e w' => e = .returned (.bool (l0.any p)) ∧ Below w.heap.size w w' := by
  have hi := IndexFunc_i64 A0 c0 l0 g lb p w hr0 eg hp
  have HN := Aside0.mk (Own.firstIdx_nonneg p l0)
  clear hp hr0
  obtain ⟨x, hx⟩ : ∃ x, Own.firstIdx p l0 = x := ⟨_, rfl⟩
  rw [hx] at hi
  have HX := Aside0.mk hx
  clear hx
  go_enter Try.func99, Try.ntmps99
  go_wp2_with (go_at_call 109; refine hi.mono ?_; rintro e w1 ⟨rfl, hb1⟩)
  go_ret
  exact ⟨by rw [← HN.out, HX.out]; rfl, hb1⟩

-- NOT PRINTED: function 108 (impl_areWithin_1)

/-! ### impl_areWithin: function 98 (told by hand) -/
def impl_areWithin.f (l0 : List Int) (a1 : Int) (a2 : Int) : Option Bool := some (l0.all fun n => decide (a1 ≤ n ∧ n ≤ a2))
theorem within_some (a b c : Int) : impl_within.f a b c = some (decide (b ≤ a ∧ a ≤ c)) := by
  unfold impl_within.f
  by_cases h : b ≤ a <;> simp [h]
set_option maxHeartbeats 2000000 in
theorem areWithin_1 (n a b : Int) (g1 g2 : Nat) (w : World) (h1 : w.cell? ⟨g1, 0, none⟩ = some (.int .i64 a)) (h2 : w.cell? ⟨g2, 0, none⟩ = some (.int .i64 b)) :
    Calls Try.prog 108 #[.int .i64 n, .pointer (some ⟨g1, 0, none⟩), .pointer (some ⟨g2, 0, none⟩)] w fun e w' => e = .returned (.bool (!decide (a ≤ n ∧ n ≤ b))) ∧ Below w.heap.size w w' := by
  have hw := impl_within.calls n a b _ w (within_some n a b)
  obtain ⟨x, hx⟩ : ∃ x, decide (a ≤ n ∧ n ≤ b) = x := ⟨_, rfl⟩
  rw [hx] at hw
  rw [hx]
  clear hx
  go_enter Try.func108, Try.ntmps108
  go_wp2_with (go_at_call 95; refine hw.mono ?_; rintro e w1 ⟨rfl, ⟨nd, rfl⟩⟩)
  go_ret
  exact ⟨rfl, pw_below_drewN (Below.refl _ _) _⟩
set_option maxHeartbeats 2000000 in
theorem impl_areWithin.calls (A0 : Option Addr) (c0 : Nat) (l0 : List Int) (a1 : Int) (a2 : Int) (r : Bool) (w : World) (hr0 : Kd.C (Kd.int .i64) w A0 l0.length l0) (hc0 : l0.length ≤ c0) (h : impl_areWithin.f l0 a1 a2 = some r) :
    Calls Try.prog 98 #[.slice A0 l0.length c0, .int .i64 a1, .int .i64 a2] w fun e w' => e = .returned (.bool r) ∧ Below w.heap.size w w' := by
  have hr := Option.some.inj h
  have hany : l0.any (fun x => !decide (a1 ≤ x ∧ x ≤ a2)) = !r := by rw [← hr, List.all_eq_not_any_not]; simp
  have hC : ∀ (W : World) (g1 g2 : Nat), Below w.heap.size w W → g1 < W.heap.size → g2 < W.heap.size → W.cell? ⟨g1, 0, none⟩ = some (.int .i64 a1) → W.cell? ⟨g2, 0, none⟩ = some (.int .i64 a2) →
      Calls Try.prog 99 #[.slice A0 l0.length c0, .func (.func 108) #[] #[.pointer (some ⟨g1, 0, none⟩), .pointer (some ⟨g2, 0, none⟩)]] W fun e w' => e = .returned (.bool (!r)) ∧ Below W.heap.size W w' := by
    intro W g1 g2 hB l1 l2 h1 h2
    rw [← hany]
    exact ContainsFunc_i64 A0 c0 l0 108 _ (fun x => !decide (a1 ≤ x ∧ x ≤ a2)) W (Kd.C_below hr0 hB) (enters_of Try.func108 (by kernel_rfl) rfl)
      (fun W' x _ hB' => areWithin_1 x a1 a2 g1 g2 W' ((hB'.cell (p := ⟨g1, 0, none⟩) l1).trans h1) ((hB'.cell (p := ⟨g2, 0, none⟩) l2).trans h2))
  have HC := Aside0.mk hC
  clear h hr hany hr0 hC
  go_enter Try.func98, Try.ntmps98
  go_wp2_with (go_at_call 99; refine (HC.out _ _ _ (below_alloc (below_alloc (Below.refl _ _) _) _) (by first | (simp; done) | (simp; omega)) (by first | (simp; done) | (simp; omega)) (by simp; done) (by simp; done)).mono ?_; rintro e w1 ⟨rfl, hb1⟩)
  go_ret
  exact ⟨by simp, below_step (below_alloc (below_alloc (Below.refl _ _) _) _) hb1⟩

/-! ### impl_withNumber_impl_Garment: function 101 -/
def impl_withNumber_impl_Garment.l0 : Nat → List (S37) → Int → List (S37) → List Int → Int → Int → Option ((List (S37)))
  | 0, _, _, _, _, _, _ => none
  | k + 1, x0, x2, x7, x11, x12, x13 => if x13 < x12 then (if 0 ≤ x13 then (if x13 < (x11.length : Int) then (if (rd x11 x13) = x2 then (if x13 < (x0.length : Int) then (if x7.length < 23456248059221 then (impl_withNumber_impl_Garment.l0 k x0 x2 (x7 ++ [(⟨(rd_T37 x0 x13).f0, (rd_T37 x0 x13).f1, (rd_T37 x0 x13).f2, (rd_T37 x0 x13).f3⟩ : S37)]) x11 x12 (wrap64 (x13 + 1))) else (none)) else (none)) else (impl_withNumber_impl_Garment.l0 k x0 x2 x7 x11 x12 (wrap64 (x13 + 1)))) else (none)) else (none)) else (some x7)
def impl_withNumber_impl_Garment.f (k : Nat) (l0 : List (S37)) (l1 : List Int) (a2 : Int) : Option ((List (S37))) := impl_withNumber_impl_Garment.l0 k l0 a2 (([] : List (S37))) l1 (l1.length : Int) 0
theorem impl_withNumber_impl_Garment.mono_l : ∀ k, (∀ y0 y1 y2 y3 y4 y5, LeO (impl_withNumber_impl_Garment.l0 k y0 y1 y2 y3 y4 y5) (impl_withNumber_impl_Garment.l0 (k + 1) y0 y1 y2 y3 y4 y5))
  | 0 => fun _ _ _ _ _ _ r h => by simp [impl_withNumber_impl_Garment.l0] at h
  | k + 1 => by
    have ih0 := impl_withNumber_impl_Garment.mono_l k
    · intro y0 y1 y2 y3 y4 y5
      unfold impl_withNumber_impl_Garment.l0
      repeat' first
      | (with_reducible exact ih0 _ _ _ _ _ _)
      | (with_reducible exact LeO.refl _)
      | (with_reducible exact LeO.none _)
      | (with_reducible refine LeO.ite ?_ ?_)
      | (with_reducible refine LeO.bind ?_ (fun _ => ?_))
      | exact ih0 _ _ _ _ _ _
      | exact LeO.none _
      | refine LeO.ite ?_ ?_
      | refine LeO.bind ?_ (fun _ => ?_)
theorem impl_withNumber_impl_Garment.mono : ∀ a0 a1 a2 k, LeO (impl_withNumber_impl_Garment.f k a0 a1 a2) (impl_withNumber_impl_Garment.f (k + 1) a0 a1 a2) := by
  intro a0 a1 a2 k
  have ih0 := impl_withNumber_impl_Garment.mono_l k
  unfold impl_withNumber_impl_Garment.f
  repeat' first
      | (with_reducible exact ih0 _ _ _ _ _ _)
      | (with_reducible exact LeO.refl _)
      | (with_reducible exact LeO.none _)
      | (with_reducible refine LeO.ite ?_ ?_)
      | (with_reducible refine LeO.bind ?_ (fun _ => ?_))
      | exact ih0 _ _ _ _ _ _
      | exact LeO.none _
      | refine LeO.ite ?_ ?_
      | refine LeO.bind ?_ (fun _ => ?_)
set_option maxHeartbeats 8000000 in
set_option maxRecDepth 100000 in
theorem impl_withNumber_impl_Garment.calls (k : Nat) (A0 : Option Addr) (c0 : Nat) (l0 : List (S37)) (A1 : Option Addr) (c1 : Nat) (l1 : List Int) (a2 : Int) (r : List (S37)) (w : World) (hr0 : Kd.C k37 w A0 l0.length l0) (hc0 : l0.length ≤ c0) (hr1 : Kd.C (Kd.int .i64) w A1 l1.length l1) (hc1 : l1.length ≤ c1) (h : impl_withNumber_impl_Garment.f k l0 l1 a2 = some r) :
    Calls Try.prog 101 #[.slice A0 l0.length c0, .slice A1 l1.length c1, .int .i64 a2] w fun e w' => ∃ v0_ : Value, e = .returned (v0_) ∧ Kd.R k37 37 w' w.heap.size (fun _ => True) v0_ r ∧ Below w.heap.size w w' := by
  have hu37 := Try.underlying37
  have HR0 := Aside0.mk hr0
  have HC0 := Aside0.mk hc0
  clear hr0 hc0
  have HR1 := Aside0.mk hr1
  have HC1 := Aside0.mk hc1
  clear hr1 hc1
  have HB := Aside0.mk (Below.refl w.heap.size w)
  have H : (impl_withNumber_impl_Garment.l0 k l0 a2 (([] : List (S37))) l1 (l1.length : Int) 0) = some r := h
  clear h
  obtain ⟨y190, hy190⟩ : ∃ y_ : List (S37), y_ = (([] : List (S37))) := ⟨_, rfl⟩
  replace H : (impl_withNumber_impl_Garment.l0 k l0 a2 y190 l1 (l1.length : Int) 0) = some r := by first | (rw [hy190]; with_reducible exact H) | (have H2_ := (Option.bind_some _ _).symm.trans H; rw [hy190]; with_reducible exact H2_) | (have H2_ := (Option.bind_some _ _).symm.trans H; with_reducible exact H2_) | with_reducible exact H | (rw [hy190]; exact H) | exact H
  have Ny190 := Aside0.mk hy190
  clear hy190
  have H' := Aside0.mk H
  clear H
  go_enter Try.func101, Try.ntmps101
  go_wp2_with (first | ((with_reducible refine gate_dst (N := 10) rfl ?_); refine Kd.R_lit k37 _ 37 ?hg (N := 10) ?hd (xs := ([] : List (S37))) (inner := []) (ok := fun _ => True) (okp := fun _ => True) ?hr ?hp (fun _ hk => hk) trivial (Below.refl _ _) (Nat.le_refl _) (by simp) ?_; (case hd => rfl); (case hg => rfl); (case hr => first | (go_simp; done) | (go_simp; rfl)); (case hp => exact (Reps.none _ _)); intro v191 w4 ho5 hb hg_ hnew_; clear hg_ hnew_; (first | rw [← Ny190.out] at ho5 | (simp only [Int.reduceToNat] at ho5; rw [← Ny190.out] at ho5)); have n0_ := Aside0.mk (Kd.R_lower ho5 (below_size (by repeat (first | (with_reducible first | exact HB.out | apply below_alloc | apply pw_below_drewN | apply below_drew1) | exact HB.out)))); have n1_ := Aside0.mk (below_step (by repeat (first | (with_reducible first | exact HB.out | apply below_alloc | apply pw_below_drewN | apply below_drew1) | exact HB.out)) hb); clear HB; have HO192 := n0_; have HB := n1_; clear n0_ n1_; clear hb ho5))
  go_loopg [7, 13] k (fun kq v7 v13 w' => ∃ (x7_1 : List (S37)) (x13_1 : Int), v13 = .int .i64 x13_1 ∧ Aside0 (impl_withNumber_impl_Garment.l0 kq l0 a2 x7_1 l1 (l1.length : Int) x13_1 = some r) ∧ Aside0 (kq ≤ k) ∧ Aside0 (Kd.R k37 37 w' w.heap.size (fun _ => True) v7 x7_1) ∧ Aside0 (Below w.heap.size w w'))
  case atStart => exact ⟨(y190), (0), (by first | rfl | (simp; done) | (simp [*]; done)), H', ⟨Nat.le_refl _⟩, ⟨by (with_reducible repeat (first | apply Kd.R_alloc | apply Kd.R_drewN | apply Kd.R_drew)); exact HO192.out⟩, ⟨by repeat (first | (with_reducible first | exact HB.out | apply below_alloc | apply pw_below_drewN | apply below_drew1) | exact HB.out)⟩⟩
  case round =>
    clear H'
    try clear c1
    try clear p2
    obtain ⟨x7_1, x13_1, rfl, HA, HK1, HO_7, HB⟩ := hrel
    cases gk with
    | zero => exact absurd HA.out (by simp [impl_withNumber_impl_Garment.l0])
    | succ k1 =>
      have H := HA.out
      clear HA
      simp only [impl_withNumber_impl_Garment.l0] at H
      by_cases c6 : x13_1 < (l1.length : Int)
      · rw [if_pos c6] at H
        have c6b0 : decide (x13_1 < (l1.length : Int)) = true := decide_eq_true c6
        clear c6
        by_cases c7 : 0 ≤ x13_1
        · rw [if_pos c7] at H
          have c7b0 : decide (0 ≤ x13_1) = true := decide_eq_true c7
          clear c7
          by_cases c8 : x13_1 < (l1.length : Int)
          · rw [if_pos c8] at H
            have c8b0 : decide (x13_1 < (l1.length : Int)) = true := decide_eq_true c8
            clear c8
            by_cases c9 : (rd l1 x13_1) = a2
            · rw [if_pos c9] at H
              have c9b0 : ((rd l1 x13_1) == a2) = true := beq_iff_eq.mpr c9
              have c9b1 : ((rd l1 x13_1) != a2) = false := bne_eq_false_iff_eq.mpr c9
              clear c9
              by_cases c10 : x13_1 < (l0.length : Int)
              · rw [if_pos c10] at H
                have c10b0 : decide (x13_1 < (l0.length : Int)) = true := decide_eq_true c10
                clear c10
                by_cases c11 : x7_1.length < 23456248059221
                · rw [if_pos c11] at H
                  have LMc11 := Aside0.mk c11
                  clear c11
                  obtain ⟨y195, hy195⟩ : ∃ y_ : List (S37), y_ = (x7_1 ++ [(⟨(rd_T37 l0 x13_1).f0, (rd_T37 l0 x13_1).f1, (rd_T37 l0 x13_1).f2, (rd_T37 l0 x13_1).f3⟩ : S37)]) := ⟨_, rfl⟩
                  replace H : (impl_withNumber_impl_Garment.l0 k1 l0 a2 y195 l1 (l1.length : Int) (wrap64 (x13_1 + 1))) = some r := by first | (rw [hy195]; with_reducible exact H) | (have H2_ := (Option.bind_some _ _).symm.trans H; rw [hy195]; with_reducible exact H2_) | (have H2_ := (Option.bind_some _ _).symm.trans H; with_reducible exact H2_) | with_reducible exact H | (rw [hy195]; exact H) | exact H
                  have Ny195 := Aside0.mk hy195
                  clear hy195
                  have H' := Aside0.mk H
                  clear H
                  have p193 : 0 ≤ (x13_1 : Int) := of_decide_eq_true (by first | (with_reducible assumption) | assumption)
                  have q193 : x13_1 < (l1.length : Int) := of_decide_eq_true (by first | (with_reducible assumption) | assumption)
                  obtain ⟨ad193, e193, hx193_0⟩ := Kd.at_int HR1.out x13_1 p193 q193
                  cases e193
                  replace hx193_0 := (HB.out.cell (World.block_lt_of_cell? w _ hx193_0)).trans hx193_0
                  replace p193 := eq_true p193
                  replace q193 := eq_true q193
                  have p194 : 0 ≤ (x13_1 : Int) := of_decide_eq_true (by first | (with_reducible assumption) | assumption)
                  have q194 : x13_1 < (l0.length : Int) := of_decide_eq_true (by first | (with_reducible assumption) | assumption)
                  obtain ⟨ad194, e194, hx194_0, hx194_1, hx194_2, hx194_3⟩ := at_T37 HR0.out x13_1 p194 q194
                  cases e194
                  replace hx194_0 := (HB.out.cell (World.block_lt_of_cell? w _ hx194_0)).trans hx194_0
                  replace hx194_1 := (HB.out.cell (World.block_lt_of_cell? w _ hx194_1)).trans hx194_1
                  replace hx194_2 := (HB.out.cell (World.block_lt_of_cell? w _ hx194_2)).trans hx194_2
                  replace hx194_3 := (HB.out.cell (World.block_lt_of_cell? w _ hx194_3)).trans hx194_3
                  replace p194 := eq_true p194
                  replace q194 := eq_true q194
                  go_wp2_with (first | ((with_reducible refine gate_builtin (b := .append) (xs := #[.tmp 21, .tmp 26]) rfl ?_); at_builtin; refine Kd.R_append k37 (w0 := w) w.heap.size rfl (.tmp 21) (.tmp 26) 25 37 (.agg #[(.int .u8 0), (.int .i8 0), (.int .i8 0), (.int .i16 0)]) 6 rfl Try.underlying25 info37 rfl (by decide) (by omega) u7 x7_1 (⟨(rd_T37 l0 x13_1).f0, (rd_T37 l0 x13_1).f1, (rd_T37 l0 x13_1).f2, (rd_T37 l0 x13_1).f3⟩ : S37) [.int .u8 ((rd_T37 l0 x13_1).f0), .int .i8 ((rd_T37 l0 x13_1).f1), .int .i8 ((rd_T37 l0 x13_1).f2), .int .i16 ((rd_T37 l0 x13_1).f3)] (fun _ => True) (fun _ => False) rfl rfl ?aP (fun _ hk => hk.elim) ?aF ?aO ?aB ?aS ?aL ?_; (case aP => exact k37_mkM _ _ _ (⟨(rd_T37 l0 x13_1).f0, (rd_T37 l0 x13_1).f1, (rd_T37 l0 x13_1).f2, (rd_T37 l0 x13_1).f3⟩ : S37)); (case aB => exact (by repeat (first | (with_reducible first | exact HB.out | apply below_alloc | apply pw_below_drewN | apply below_drew1) | exact HB.out))); (case aF => exact (fun _ _ => trivial)); (case aO => exact (by (with_reducible repeat (first | apply Kd.R_alloc | apply Kd.R_drewN | apply Kd.R_drew)); exact HO_7.out)); (case aS => exact (below_size (by repeat (first | (with_reducible first | exact HB.out | apply below_alloc | apply pw_below_drewN | apply below_drew1) | exact HB.out)))); (case aL => have := LMc11.out; omega); intro v196 w12 ho hb hg hat; rw [← Ny195.out] at ho; have n0_ := Aside0.mk (hb); have n1_ := Aside0.mk (ho); clear HB; clear HO_7; have HB := n0_; have HO197 := n1_; clear n0_ n1_; clear ho hb hg hat))
                  go_roundg k1
                  case measure => have := HK1.out; omega
                  case rel => exact ⟨(y195), (wrap64 (x13_1 + 1)), (by first | rfl | (simp; done) | (simp [*]; done)), H', ⟨by have := HK1.out; omega⟩, ⟨by (with_reducible repeat (first | apply Kd.R_alloc | apply Kd.R_drewN | apply Kd.R_drew)); exact HO197.out⟩, ⟨by repeat (first | (with_reducible first | exact HB.out | apply below_alloc | apply pw_below_drewN | apply below_drew1) | exact HB.out)⟩⟩
                · rw [if_neg c11] at H
                  exact absurd H (by simp)
              · rw [if_neg c10] at H
                exact absurd H (by simp)
            · rw [if_neg c9] at H
              have c9b0 : ((rd l1 x13_1) == a2) = false := beq_eq_false_iff_ne.mpr c9
              have c9b1 : ((rd l1 x13_1) != a2) = true := bne_iff_ne.mpr c9
              have H' := Aside0.mk H
              clear H
              have p193 : 0 ≤ (x13_1 : Int) := of_decide_eq_true (by first | (with_reducible assumption) | assumption)
              have q193 : x13_1 < (l1.length : Int) := of_decide_eq_true (by first | (with_reducible assumption) | assumption)
              obtain ⟨ad193, e193, hx193_0⟩ := Kd.at_int HR1.out x13_1 p193 q193
              cases e193
              replace hx193_0 := (HB.out.cell (World.block_lt_of_cell? w _ hx193_0)).trans hx193_0
              replace p193 := eq_true p193
              replace q193 := eq_true q193
              go_wp2
              go_roundg k1
              case measure => have := HK1.out; omega
              case rel => exact ⟨(x7_1), (wrap64 (x13_1 + 1)), (by first | rfl | (simp; done) | (simp [*]; done)), H', ⟨by have := HK1.out; omega⟩, ⟨by (with_reducible repeat (first | apply Kd.R_alloc | apply Kd.R_drewN | apply Kd.R_drew)); exact HO_7.out⟩, ⟨by repeat (first | (with_reducible first | exact HB.out | apply below_alloc | apply pw_below_drewN | apply below_drew1) | exact HB.out)⟩⟩
          · rw [if_neg c8] at H
            exact absurd H (by simp)
        · rw [if_neg c7] at H
          exact absurd H (by simp)
      · rw [if_neg c6] at H
        have c6b0 : decide (x13_1 < (l1.length : Int)) = false := decide_eq_false c6
        clear c6
        obtain rfl := Option.some.inj H
        go_wp2
        go_ret
        exact ⟨_, by first | rfl | (simp [errW_none, errW_some] <;> rfl) | (simp [*, errW_none, errW_some] <;> rfl), by (with_reducible repeat (first | apply Kd.R_alloc | apply Kd.R_drewN | apply Kd.R_drew)); exact HO_7.out, by repeat (first | (with_reducible first | exact HB.out | apply below_alloc | apply pw_below_drewN | apply below_drew1) | exact HB.out)⟩

/-! ### impl_withNumber_impl_Garmentw: told in own words -/
theorem rd_mid_n (pre : List S37) (c : S37) (cs : List S37) : rd_T37 (pre ++ c :: cs) (pre.length : Int) = c := by simp [rd_T37, List.getD_eq_getElem?_getD]
theorem rdi_mid_n (pre : List Int) (c : Int) (cs : List Int) : rd (pre ++ c :: cs) (pre.length : Int) = c := by simp [rd, List.getD_eq_getElem?_getD]
theorem w_succ_n {i n : Nat} (h : i < n) (hn : n ≤ 1048576) : wrap64 ((i : Int) + 1) = ((i + 1 : Nat) : Int) := by unfold wrap64; omega
def withB (l : List S37) (ns : List Int) (n : Int) : List S37 := ((ns.zip l).filter fun x => decide (x.1 = n)).map (·.2)
theorem with_l0 (l : List S37) (o : List Int) (n : Int) (ho : o.length ≤ 1048576) : ∀ (cs pre : List Int) (ls lp : List S37), o = pre ++ cs → l = lp ++ ls → lp.length = pre.length → cs.length ≤ ls.length → ∀ x : List S37, x.length ≤ pre.length →
    Ev (fun k => impl_withNumber_impl_Garment.l0 k l n x o (o.length : Int) (pre.length : Int)) (x ++ withB ls cs n) := by
  intro cs
  induction cs with
  | nil =>
    intro pre ls lp hpre hl hlp hle x hx
    refine Ev.step (fun k => by rw [impl_withNumber_impl_Garment.l0]) ?_
    have : o.length = pre.length := by rw [hpre]; simp
    simp only [show ¬ (pre.length : Int) < (o.length : Int) by omega, ↓reduceIte]
    rw [show x ++ withB ls [] n = x by simp [withB]]
    exact Ev.now _
  | cons c cs ih =>
    intro pre ls lp hpre hl hlp hle x hx
    match ls, hl, hle with
    | [], _, h => simp at h
    | d :: ls, hl, hle =>
    have hlen : o.length = pre.length + cs.length + 1 := by rw [hpre]; simp; omega
    have hllen : l.length = lp.length + ls.length + 1 := by rw [hl]; simp; omega
    have hc : rd o (pre.length : Int) = c := by rw [hpre]; exact rdi_mid_n pre c cs
    have hd : rd_T37 l (pre.length : Int) = d := by rw [hl, ← hlp]; exact rd_mid_n lp d ls
    have hnext := ih (pre ++ [c]) ls (lp ++ [d]) (by rw [hpre]; simp) (by rw [hl]; simp) (by simp [hlp]) (by simpa using hle)
    simp only [List.length_append, List.length_cons, List.length_nil, Nat.zero_add] at hnext
    refine Ev.step (fun k => by rw [impl_withNumber_impl_Garment.l0]) ?_
    simp only [show (pre.length : Int) < (o.length : Int) by omega, show (0 : Int) ≤ (pre.length : Int) by omega, ↓reduceIte, hc, hd, show (pre.length : Int) < (l.length : Int) by omega, show x.length < 23456248059221 by omega, w_succ_n (show pre.length < o.length by omega) ho]
    by_cases h : c = n
    · simp only [h, ↓reduceIte]
      rw [show x ++ withB (d :: ls) (n :: cs) n = (x ++ [d]) ++ withB ls cs n by simp [withB]]
      exact hnext _ (by simp; omega)
    · simp only [h, ↓reduceIte]
      rw [show x ++ withB (d :: ls) (c :: cs) n = x ++ withB ls cs n by simp [withB, h]]
      exact hnext _ (by omega)
theorem with_ev (l : List S37) (o : List Int) (n : Int) (ho : o.length ≤ 1048576) (hle : o.length ≤ l.length) : Ev (fun k => impl_withNumber_impl_Garment.f k l o n) (withB l o n) := by
  unfold impl_withNumber_impl_Garment.f
  exact with_l0 l o n ho o [] l [] rfl rfl rfl hle [] (Nat.le_refl _)
def impl_withNumber_impl_Garmentw.f (l0 : List S37) (l1 : List Int) (a2 : Int) : Option (List S37) := if l1.length ≤ 1048576 ∧ l1.length ≤ l0.length then some (withB l0 l1 a2) else none
theorem impl_withNumber_impl_Garmentw.spec (l0 : List S37) (l1 : List Int) (a2 : Int) (r : (List S37)) (h : impl_withNumber_impl_Garmentw.f l0 l1 a2 = some r) : ∃ k, impl_withNumber_impl_Garment.f k l0 l1 a2 = some r := by
  unfold impl_withNumber_impl_Garmentw.f at h
  by_cases hc : l1.length ≤ 1048576 ∧ l1.length ≤ l0.length
  · rw [if_pos hc] at h
    obtain rfl := Option.some.inj h
    exact Ev.rounds (with_ev l0 l1 a2 hc.1 hc.2)
  · rw [if_neg hc] at h
    cases h

theorem impl_withNumber_impl_Garmentw.calls (A0 : Option Addr) (c0 : Nat) (l0 : List (S37)) (A1 : Option Addr) (c1 : Nat) (l1 : List Int) (a2 : Int) (r : List (S37)) (w : World) (hr0 : Kd.C k37 w A0 l0.length l0) (hc0 : l0.length ≤ c0) (hr1 : Kd.C (Kd.int .i64) w A1 l1.length l1) (hc1 : l1.length ≤ c1) (h : impl_withNumber_impl_Garmentw.f l0 l1 a2 = some r) :
    Calls Try.prog 101 #[.slice A0 l0.length c0, .slice A1 l1.length c1, .int .i64 a2] w fun e w' => ∃ v0_ : Value, e = .returned (v0_) ∧ Kd.R k37 37 w' w.heap.size (fun _ => True) v0_ r ∧ Below w.heap.size w w' := by
  obtain ⟨k, hk⟩ := impl_withNumber_impl_Garmentw.spec l0 l1 a2 _ h
  exact impl_withNumber_impl_Garment.calls k A0 c0 l0 A1 c1 l1 a2 r w hr0 hc0 hr1 hc1 hk

/-! ### impl_Rules_areLoads: function 71 (told by hand) -/
def loadsB (rs : List Int) (hold : Int) (l2 : List S37) (l3 : List Int) : Bool := decide (l3.length = l2.length) && ((l3.all fun n => decide (0 ≤ n ∧ n ≤ 7)) && l3.all fun n => washB rs hold (withB l2 l3 n))
def impl_Rules_areLoads.f (a0_0 : Int) (a0_1 : Int) (a0_2 : Int) (a0_3 : Int) (a0_4 : Int) (a0_5 : Int) (a1 : Int) (l2 : List S37) (l3 : List Int) : Option Bool :=
  if l2.length ≤ 1048576 ∧ colB l2 = true then some (loadsB [a0_0, a0_1, a0_2, a0_3, a0_4, a0_5] a1 l2 l3) else none
theorem withB_length (l : List S37) (ns : List Int) (n : Int) : (withB l ns n).length ≤ ns.length := by
  unfold withB
  rw [List.length_map]
  exact Nat.le_trans (List.length_filter_le _ _) (by rw [List.length_zip]; exact Nat.min_le_left _ _)
theorem withB_mem {l : List S37} {ns : List Int} {n : Int} {x : S37} (h : x ∈ withB l ns n) : x ∈ l := by
  unfold withB at h
  obtain ⟨y, hy, rfl⟩ := List.mem_map.mp h
  exact (List.of_mem_zip (List.mem_filter.mp hy).1).2
theorem colB_with {l : List S37} (ns : List Int) (n : Int) (h : colB l = true) : colB (withB l ns n) = true := by
  unfold colB at h ⊢
  rw [List.all_eq_true] at h ⊢
  exact fun x hx => h x (withB_mem hx)
theorem wash_some {a0 a1 a2 a3 a4 a5 hold : Int} {l : List S37} (h1 : l.length ≤ 1048576) (h2 : colB l = true) : impl_Rules_washable.f a0 a1 a2 a3 a4 a5 hold l = some (washB [a0, a1, a2, a3, a4, a5] hold l) := by
  unfold impl_Rules_washable.f
  rw [if_pos ⟨h1, h2⟩]
set_option maxHeartbeats 4000000 in
theorem areLoads_1 (a0 a1 a2 a3 a4 a5 hold n : Int) (l2 : List S37) (l3 : List Int) (A2 A3 : Option Addr) (c2 c3 : Nat) (g1 g2 g3 g4 : Nat) (w : World) (hlen : l2.length ≤ 1048576) (hlen3 : l3.length = l2.length) (hcol : colB l2 = true)
    (hr2 : Kd.C k37 w A2 l2.length l2) (hc2 : l2.length ≤ c2) (hr3 : Kd.C (Kd.int .i64) w A3 l3.length l3) (hc3 : l3.length ≤ c3)
    (hb1 : w.heap[g1]? = some (.cells #[.int .u8 a0, .int .u8 a1, .int .u8 a2, .int .u8 a3, .int .u8 a4, .int .u8 a5] 35 (0, 0)))
    (hb2 : w.heap[g2]? = some (.cells #[.int .i64 hold] 2 (0, 0))) (hb3 : w.heap[g3]? = some (.cells #[.slice A2 l2.length c2] 25 (0, 0))) (hb4 : w.heap[g4]? = some (.cells #[.slice A3 l3.length c3] 51 (0, 0))) :
    Calls Try.prog 100 #[.int .i64 n, .pointer (some ⟨g1, 0, none⟩), .pointer (some ⟨g2, 0, none⟩), .pointer (some ⟨g3, 0, none⟩), .pointer (some ⟨g4, 0, none⟩)] w fun e w' => e = .returned (.bool (!washB [a0, a1, a2, a3, a4, a5] hold (withB l2 l3 n))) ∧ Below w.heap.size w w' := by
  have hw : impl_withNumber_impl_Garmentw.f l2 l3 n = some (withB l2 l3 n) := by unfold impl_withNumber_impl_Garmentw.f; rw [if_pos ⟨by omega, by omega⟩]
  have hh : impl_Rules_washable.f a0 a1 a2 a3 a4 a5 hold (withB l2 l3 n) = some (washB [a0, a1, a2, a3, a4, a5] hold (withB l2 l3 n)) := wash_some (by have := withB_length l2 l3 n; omega) (colB_with l3 n hcol)
  obtain ⟨y, hy⟩ : ∃ y, withB l2 l3 n = y := ⟨_, rfl⟩
  rw [hy] at hw hh ⊢
  obtain ⟨x, hx⟩ : ∃ x, washB [a0, a1, a2, a3, a4, a5] hold y = x := ⟨_, rfl⟩
  rw [hx] at hh ⊢
  have HW := Aside0.mk hw
  have HH := Aside0.mk hh
  have HR2 := Aside0.mk hr2
  have HR3 := Aside0.mk hr3
  have c10 : w.cell? ⟨g1, 0, none⟩ = some (.int .u8 a0) := (blk_cell hb1 0).trans rfl
  have c11 : w.cell? ⟨g1, 1, none⟩ = some (.int .u8 a1) := (blk_cell hb1 1).trans rfl
  have c12 : w.cell? ⟨g1, 2, none⟩ = some (.int .u8 a2) := (blk_cell hb1 2).trans rfl
  have c13 : w.cell? ⟨g1, 3, none⟩ = some (.int .u8 a3) := (blk_cell hb1 3).trans rfl
  have c14 : w.cell? ⟨g1, 4, none⟩ = some (.int .u8 a4) := (blk_cell hb1 4).trans rfl
  have c15 : w.cell? ⟨g1, 5, none⟩ = some (.int .u8 a5) := (blk_cell hb1 5).trans rfl
  have c2' : w.cell? ⟨g2, 0, none⟩ = some (.int .i64 hold) := (blk_cell hb2 0).trans rfl
  have c3' : w.cell? ⟨g3, 0, none⟩ = some (.slice A2 l2.length c2) := (blk_cell hb3 0).trans rfl
  have c4' : w.cell? ⟨g4, 0, none⟩ = some (.slice A3 l3.length c3) := (blk_cell hb4 0).trans rfl
  clear hx hy hh hw hlen hlen3 hr2 hr3 hcol hb1 hb2 hb3 hb4
  go_enter Try.func100, Try.ntmps100
  go_wp2
  go_region_held3 (fun w' => w'.cell? ⟨g1, 0, none⟩ = some (.int .u8 a0) ∧ w'.cell? ⟨g1, 1, none⟩ = some (.int .u8 a1) ∧ w'.cell? ⟨g1, 2, none⟩ = some (.int .u8 a2) ∧ w'.cell? ⟨g1, 3, none⟩ = some (.int .u8 a3) ∧ w'.cell? ⟨g1, 4, none⟩ = some (.int .u8 a4) ∧ w'.cell? ⟨g1, 5, none⟩ = some (.int .u8 a5) ∧ w'.cell? ⟨g2, 0, none⟩ = some (.int .i64 hold) ∧ w'.cell? ⟨g3, 0, none⟩ = some (.slice A2 l2.length c2) ∧ w'.cell? ⟨g4, 0, none⟩ = some (.slice A3 l3.length c3))
    (first
      | go_keep
      | exact ⟨pw_cell_below hb1 (by assumption), pw_cell_below hb1 (by assumption), pw_cell_below hb1 (by assumption), pw_cell_below hb1 (by assumption), pw_cell_below hb1 (by assumption), pw_cell_below hb1 (by assumption), pw_cell_below hb1 (by assumption), pw_cell_below hb1 (by assumption), pw_cell_below hb1 (by assumption)⟩
      | (have hb3 := hb1.trans (hb2.mono hb1.size); exact ⟨pw_cell_below hb3 (by assumption), pw_cell_below hb3 (by assumption), pw_cell_below hb3 (by assumption), pw_cell_below hb3 (by assumption), pw_cell_below hb3 (by assumption), pw_cell_below hb3 (by assumption), pw_cell_below hb3 (by assumption), pw_cell_below hb3 (by assumption), pw_cell_below hb3 (by assumption)⟩))
    (first
      | (go_at_call 101; refine (impl_withNumber_impl_Garmentw.calls A2 c2 l2 A3 c3 l3 n y _ (Kd.C_below HR2.out (by repeat (first | exact Below.refl _ _ | apply pw_below_drewN | apply below_drew | apply below_alloc))) hc2 (Kd.C_below HR3.out (by repeat (first | exact Below.refl _ _ | apply pw_below_drewN | apply below_drew | apply below_alloc))) hc3 HW.out).mono ?_; rintro e w1 ⟨v1, rfl, ho1, hb1⟩; obtain ⟨B1, d1, rfl, hd1, hC1⟩ := Kd.R_reads ho1)
      | (go_at_call 69; refine (impl_Rules_washable.calls a0 a1 a2 a3 a4 a5 hold B1 d1 y x _ hC1 hd1 HH.out).mono ?_; rintro e w2 ⟨rfl, hb2⟩))
  go_wp2
  go_ret
  exact ⟨rfl, below_step (below_step (by repeat (first | exact Below.refl _ _ | apply pw_below_drewN | apply below_drew)) hb1) hb2⟩
set_option maxHeartbeats 8000000 in
theorem impl_Rules_areLoads.calls (a0_0 : Int) (a0_1 : Int) (a0_2 : Int) (a0_3 : Int) (a0_4 : Int) (a0_5 : Int) (a1 : Int) (A2 : Option Addr) (c2 : Nat) (l2 : List S37) (A3 : Option Addr) (c3 : Nat) (l3 : List Int) (r : Bool) (w : World) (hr2 : Kd.C k37 w A2 l2.length l2) (hc2 : l2.length ≤ c2) (hr3 : Kd.C (Kd.int .i64) w A3 l3.length l3) (hc3 : l3.length ≤ c3) (h : impl_Rules_areLoads.f a0_0 a0_1 a0_2 a0_3 a0_4 a0_5 a1 l2 l3 = some r) :
    Calls Try.prog 71 #[.agg #[.int .u8 a0_0, .int .u8 a0_1, .int .u8 a0_2, .int .u8 a0_3, .int .u8 a0_4, .int .u8 a0_5], .int .i64 a1, .slice A2 l2.length c2, .slice A3 l3.length c3] w fun e w' => e = .returned (.bool r) ∧ Below w.heap.size w w' := by
  unfold impl_Rules_areLoads.f at h
  by_cases hq : l2.length ≤ 1048576 ∧ colB l2 = true
  case neg => rw [if_neg hq] at h; cases h
  rw [if_pos hq] at h
  obtain ⟨hlen, hcol⟩ := hq
  have hres := Option.some.inj h
  clear h
  have hn2 : l2.length ≤ 9223372036854775807 := hr2.2.1
  have hn3 : l3.length ≤ 9223372036854775807 := hr3.2.1
  unfold loadsB at hres
  by_cases hl : l3.length = l2.length
  · rw [decide_eq_true hl, Bool.true_and] at hres
    have e1 : ((l3.length : Int) == (l2.length : Int)) = true := by first | (simp [hl]; done) | (simp; omega)
    have e2 : (l3.length == l2.length) = true := by simp [hl]
    cases hw : (l3.all fun n => decide (0 ≤ n ∧ n ≤ 7)) with
    | false =>
      rw [hw, Bool.false_and] at hres
      subst hres
      have HWI := Aside0.mk (show impl_areWithin.f l3 0 7 = some false from by unfold impl_areWithin.f; rw [hw])
      have HR3 := Aside0.mk hr3
      clear hr3 hr2 hw hl
      go_enter Try.func71, Try.ntmps71
      go_wp2_with (go_at_call 98; refine (impl_areWithin.calls A3 c3 l3 0 7 false _ (Kd.C_below HR3.out (by repeat (first | exact Below.refl _ _ | apply below_alloc))) hc3 HWI.out).mono ?_; rintro e w2 ⟨rfl, hb2⟩)
      go_ret
      exact ⟨rfl, below_step (by repeat (first | exact Below.refl _ _ | apply below_alloc)) hb2⟩
    | true =>
      rw [hw, Bool.true_and, List.all_eq_not_any_not] at hres
      have HWI := Aside0.mk (show impl_areWithin.f l3 0 7 = some true from by unfold impl_areWithin.f; rw [hw])
      have hcall : ∀ (W : World), Below w.heap.size w W → W.heap[w.heap.size]? = some (.cells #[.int .u8 a0_0, .int .u8 a0_1, .int .u8 a0_2, .int .u8 a0_3, .int .u8 a0_4, .int .u8 a0_5] 35 (0, 0)) → W.heap[w.heap.size + 1]? = some (.cells #[.int .i64 a1] 2 (0, 0)) →
          W.heap[w.heap.size + 1 + 1]? = some (.cells #[.slice A2 l2.length c2] 25 (0, 0)) → W.heap[w.heap.size + 1 + 1 + 1]? = some (.cells #[.slice A3 l3.length c3] 51 (0, 0)) →
          Calls Try.prog 99 #[.slice A3 l3.length c3, .func (.func 100) #[] #[.pointer (some ⟨w.heap.size, 0, none⟩), .pointer (some ⟨w.heap.size + 1, 0, none⟩), .pointer (some ⟨w.heap.size + 1 + 1, 0, none⟩), .pointer (some ⟨w.heap.size + 1 + 1 + 1, 0, none⟩)]] W fun e w' => e = .returned (.bool (!r)) ∧ Below W.heap.size W w' := by
        intro W hB h1 h2 h3 h4
        rw [← hres, Bool.not_not]
        exact ContainsFunc_i64 A3 c3 l3 100 _ _ W (Kd.C_below hr3 hB) (enters_of Try.func100 (by kernel_rfl) rfl)
          (fun W' x hx hB' => areLoads_1 _ _ _ _ _ _ a1 x l2 l3 A2 A3 c2 c3 _ _ _ _ W' hlen hl hcol (Kd.C_below hr2 (below_step hB hB')) hc2 (Kd.C_below hr3 (below_step hB hB')) hc3 (blk_below h1 hB') (blk_below h2 hB') (blk_below h3 hB') (blk_below h4 hB'))
      have HC := Aside0.mk hcall
      have HR3 := Aside0.mk hr3
      have n0 : ∀ (w : World) (o : Obj) (k : Nat), w.heap.size = k → (w.alloc o).heap.size = k + 1 := fun w o k h => by rw [← h]; simp
      have nw : ∀ (w : World) (o : Obj) (k : Nat), w.heap.size = k → (w.alloc o).heap[k]? = some o := fun w o k h => h ▸ blk_new w o
      have HH : Aside0 (∀ o1 o2 o3 o4 : Obj, ((((w.alloc o1).alloc o2).alloc o3).alloc o4).heap[w.heap.size]? = some o1 ∧ ((((w.alloc o1).alloc o2).alloc o3).alloc o4).heap[w.heap.size + 1]? = some o2 ∧ ((((w.alloc o1).alloc o2).alloc o3).alloc o4).heap[w.heap.size + 1 + 1]? = some o3 ∧ ((((w.alloc o1).alloc o2).alloc o3).alloc o4).heap[w.heap.size + 1 + 1 + 1]? = some o4) :=
        ⟨fun o1 o2 o3 o4 => ⟨blk_alloc (blk_alloc (blk_alloc (nw _ _ _ rfl) _) _) _, blk_alloc (blk_alloc (nw _ _ _ (n0 _ _ _ rfl)) _) _, blk_alloc (nw _ _ _ (n0 _ _ _ (n0 _ _ _ rfl))) _, nw _ _ _ (n0 _ _ _ (n0 _ _ _ (n0 _ _ _ rfl)))⟩⟩
      clear hr3 hr2 hw hl hres hcall n0 nw
      go_enter Try.func71, Try.ntmps71
      go_wp2_with (first
        | (go_at_call 98; refine (impl_areWithin.calls A3 c3 l3 0 7 true _ (Kd.C_below HR3.out (by repeat (first | exact Below.refl _ _ | apply below_alloc))) hc3 HWI.out).mono ?_; rintro e w2 ⟨rfl, hb2⟩; have HB2 := Aside0.mk (below_step (show Below w.heap.size w _ from below_alloc (below_alloc (below_alloc (below_alloc (Below.refl _ _) _) _) _) _) hb2); have Q1 := Aside0.mk (blk_below (HH.out _ _ _ _).1 hb2); have Q2 := Aside0.mk (blk_below (HH.out _ _ _ _).2.1 hb2); have Q3 := Aside0.mk (blk_below (HH.out _ _ _ _).2.2.1 hb2); have Q4 := Aside0.mk (blk_below (HH.out _ _ _ _).2.2.2 hb2); have q4 : w2.cell? ⟨w.heap.size + 1 + 1 + 1, 0, none⟩ = some (.slice A3 l3.length c3) := (blk_cell Q4.out 0).trans rfl; clear hb2)
        | (go_at_call 99; refine (HC.out _ HB2.out Q1.out Q2.out Q3.out Q4.out).mono ?_; rintro e w3 ⟨rfl, hb3⟩; have HB3 := Aside0.mk hb3; clear hb3))
      go_ret
      exact ⟨by simp, below_step HB2.out HB3.out⟩
  · rw [decide_eq_false hl, Bool.false_and] at hres
    subst hres
    have e1 : ((l3.length : Int) == (l2.length : Int)) = false := by first | (simp [hl]; done) | (simp; omega)
    have e2 : (l3.length == l2.length) = false := by simp [hl]
    clear hl hr2 hr3
    go_enter Try.func71, Try.ntmps71
    go_wp2
    go_ret
    exact ⟨rfl, by repeat (first | exact Below.refl _ _ | apply below_alloc)⟩

/-! ### impl_firstOf: function 54 -/
def impl_firstOf.l0 : Nat → List Int → Int → Int → Option (Int)
  | 0, _, _, _ => none
  | k + 1, x5, x6, x7 => if x7 < x6 then (if 0 ≤ x7 then (if x7 < (x5.length : Int) then (if (rd x5 x7) = 0 then (impl_firstOf.l0 k x5 x6 (wrap64 (x7 + 1))) else (some (rd x5 x7))) else (none)) else (none)) else (some 0)
def impl_firstOf.f (k : Nat) (l0 : List Int) : Option (Int) := impl_firstOf.l0 k l0 (l0.length : Int) 0
theorem impl_firstOf.mono_l : ∀ k, (∀ y0 y1 y2, LeO (impl_firstOf.l0 k y0 y1 y2) (impl_firstOf.l0 (k + 1) y0 y1 y2))
  | 0 => fun _ _ _ r h => by simp [impl_firstOf.l0] at h
  | k + 1 => by
    have ih0 := impl_firstOf.mono_l k
    · intro y0 y1 y2
      unfold impl_firstOf.l0
      repeat' first
      | (with_reducible exact ih0 _ _ _)
      | (with_reducible exact LeO.refl _)
      | (with_reducible exact LeO.none _)
      | (with_reducible refine LeO.ite ?_ ?_)
      | (with_reducible refine LeO.bind ?_ (fun _ => ?_))
      | exact ih0 _ _ _
      | exact LeO.none _
      | refine LeO.ite ?_ ?_
      | refine LeO.bind ?_ (fun _ => ?_)
theorem impl_firstOf.mono : ∀ a0 k, LeO (impl_firstOf.f k a0) (impl_firstOf.f (k + 1) a0) := by
  intro a0 k
  have ih0 := impl_firstOf.mono_l k
  unfold impl_firstOf.f
  repeat' first
      | (with_reducible exact ih0 _ _ _)
      | (with_reducible exact LeO.refl _)
      | (with_reducible exact LeO.none _)
      | (with_reducible refine LeO.ite ?_ ?_)
      | (with_reducible refine LeO.bind ?_ (fun _ => ?_))
      | exact ih0 _ _ _
      | exact LeO.none _
      | refine LeO.ite ?_ ?_
      | refine LeO.bind ?_ (fun _ => ?_)
set_option maxHeartbeats 8000000 in
set_option maxRecDepth 100000 in
theorem impl_firstOf.calls (k : Nat) (A0 : Option Addr) (c0 : Nat) (l0 : List Int) (r : Int) (w : World) (hr0 : Kd.C (Kd.int .i64) w A0 l0.length l0) (hc0 : l0.length ≤ c0) (h : impl_firstOf.f k l0 = some r) :
    Calls Try.prog 54 #[.slice A0 l0.length c0] w fun e w' => e = .returned (.int .i64 r) ∧ Drawn0 w w' := by
  have HR0 := Aside0.mk hr0
  have HC0 := Aside0.mk hc0
  clear hr0 hc0
  have H : (impl_firstOf.l0 k l0 (l0.length : Int) 0) = some r := h
  clear h
  have H' := Aside0.mk H
  clear H
  go_enter Try.func54, Try.ntmps54
  go_wp2
  go_loopg [7] k (fun kq v7 w' => ∃ (x7_1 : Int), v7 = .int .i64 x7_1 ∧ Aside0 (impl_firstOf.l0 kq l0 (l0.length : Int) x7_1 = some r) ∧ Aside0 (kq ≤ k) ∧ Drawn0 w w')
  case atStart => exact ⟨(0), (by first | rfl | (simp; done) | (simp [*]; done)), H', ⟨Nat.le_refl _⟩, by repeat (first | exact Drawn0.refl _ | apply Drawn0.step)⟩
  case round =>
    clear H'
    obtain ⟨x7_1, rfl, HA, HK1, ⟨m1, rfl⟩⟩ := hrel
    cases gk with
    | zero => exact absurd HA.out (by simp [impl_firstOf.l0])
    | succ k1 =>
      have H := HA.out
      clear HA
      simp only [impl_firstOf.l0] at H
      by_cases c2 : x7_1 < (l0.length : Int)
      · rw [if_pos c2] at H
        have c2b0 : decide (x7_1 < (l0.length : Int)) = true := decide_eq_true c2
        clear c2
        by_cases c3 : 0 ≤ x7_1
        · rw [if_pos c3] at H
          have c3b0 : decide (0 ≤ x7_1) = true := decide_eq_true c3
          clear c3
          by_cases c4 : x7_1 < (l0.length : Int)
          · rw [if_pos c4] at H
            have c4b0 : decide (x7_1 < (l0.length : Int)) = true := decide_eq_true c4
            clear c4
            by_cases c5 : (rd l0 x7_1) = 0
            · rw [if_pos c5] at H
              have c5b0 : ((rd l0 x7_1) == 0) = true := beq_iff_eq.mpr c5
              have c5b1 : ((rd l0 x7_1) != 0) = false := bne_eq_false_iff_eq.mpr c5
              clear c5
              have H' := Aside0.mk H
              clear H
              have p198 : 0 ≤ (x7_1 : Int) := of_decide_eq_true (by first | (with_reducible assumption) | assumption)
              have q198 : x7_1 < (l0.length : Int) := of_decide_eq_true (by first | (with_reducible assumption) | assumption)
              obtain ⟨ad198, e198, hx198_0⟩ := Kd.at_int HR0.out x7_1 p198 q198
              cases e198
              replace p198 := eq_true p198
              replace q198 := eq_true q198
              go_wp2
              go_roundg k1
              case measure => have := HK1.out; omega
              case rel => exact ⟨(wrap64 (x7_1 + 1)), (by first | rfl | (simp; done) | (simp [*]; done)), H', ⟨by have := HK1.out; omega⟩, by repeat (first | exact Drawn0.refl _ | apply Drawn0.step)⟩
            · rw [if_neg c5] at H
              have c5b0 : ((rd l0 x7_1) == 0) = false := beq_eq_false_iff_ne.mpr c5
              have c5b1 : ((rd l0 x7_1) != 0) = true := bne_iff_ne.mpr c5
              obtain rfl := Option.some.inj H
              have p198 : 0 ≤ (x7_1 : Int) := of_decide_eq_true (by first | (with_reducible assumption) | assumption)
              have q198 : x7_1 < (l0.length : Int) := of_decide_eq_true (by first | (with_reducible assumption) | assumption)
              obtain ⟨ad198, e198, hx198_0⟩ := Kd.at_int HR0.out x7_1 p198 q198
              cases e198
              replace p198 := eq_true p198
              replace q198 := eq_true q198
              go_wp2
              go_ret
              exact ⟨by first | rfl | (simp; done) | (simp [*]; done), by repeat (first | exact Drawn0.refl _ | apply Drawn0.step)⟩
          · rw [if_neg c4] at H
            exact absurd H (by simp)
        · rw [if_neg c3] at H
          exact absurd H (by simp)
      · rw [if_neg c2] at H
        have c2b0 : decide (x7_1 < (l0.length : Int)) = false := decide_eq_false c2
        clear c2
        obtain rfl := Option.some.inj H
        go_wp2
        go_ret
        exact ⟨by first | rfl | (simp; done) | (simp [*]; done), by repeat (first | exact Drawn0.refl _ | apply Drawn0.step)⟩

end Go.Proofs.Ythodfhcaaidnmaa.Co
