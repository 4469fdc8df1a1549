/- Words and walks for the law FnExactFitsWith. -/
import Derived.Test.YthodfhcaaidnmaaTFw22
import Derived.Test.YthodfhcaaidnmaaTFw27
import Derived.Test.YthodfhcaaidnmaaTFw28
namespace Go.Proofs.Ythodfhcaaidnmaa.Fw
open Go.RowKit Go.Proofs.YthodfhcaaidnmaaW.PrintWords Go.Proofs.YthodfhcaaidnmaaW.PrintLast Go.Proofs.YthodfhcaaidnmaaW.PrintMore
attribute [local go_sem] max2_int min2_int max_two min_two max_three min_three max_four min_four   -- for this text's walks alone
set_option linter.unusedVariables false
set_option linter.unusedSimpArgs false
def bitB (rs : List Int) (a b : Int) : Bool := (Go.bits .and .u8 (shr .u8 (rd rs a) b) 1) == 1
def metB (rs : List Int) (x y : S37) : Bool := bitB rs x.f0 y.f0 && decide (mx x.f1 y.f1 ≤ mn x.f2 y.f2)
def apartFrom (rs : List Int) : List S37 → List S37 → Bool
 | _, [] => true
 | pre, g :: gs => !(pre.any fun h => !metB rs g h) && apartFrom rs (pre ++ [g]) gs
def washB (rs : List Int) (hold : Int) (l : List S37) : Bool := apartFrom rs [] l && decide (weightB l ≤ hold)
def colB (l : List S37) : Bool := l.all fun x => decide (0 ≤ x.f0 ∧ x.f0 < 6)
def impl_Rules_washable.f (a0_0 : Int) (a0_1 : Int) (a0_2 : Int) (a0_3 : Int) (a0_4 : Int) (a0_5 : Int) (a1 : Int) (l2 : List S37) : Option Bool :=
 if l2.length ≤ 1048576 ∧ colB l2 = true then some (washB [a0_0, a0_1, a0_2, a0_3, a0_4, a0_5] a1 l2) else none
theorem meet_total (a0 a1 a2 a3 a4 a5 : Int) (x y : S37) (hx : 0 ≤ x.f0 ∧ x.f0 < 6) (hy : 0 ≤ y.f0) : impl_Rules_meet.f a0 a1 a2 a3 a4 a5 x.f0 x.f1 x.f2 x.f3 y.f0 y.f1 y.f2 y.f3 = some (metB [a0, a1, a2, a3, a4, a5] x y) := by
 have hm : impl_Rules_may.f a0 a1 a2 a3 a4 a5 x.f0 y.f0 = some (bitB [a0, a1, a2, a3, a4, a5] x.f0 y.f0) := by
  unfold impl_Rules_may.f bitB
  rw [if_pos ⟨hx.1, hx.2, hy⟩]
 unfold impl_Rules_meet.f metB
 rw [hm]
 cases bitB [a0, a1, a2, a3, a4, a5] x.f0 y.f0 <;> simp
set_option maxHeartbeats 2000000 in
theorem washable_1 (a0 a1 a2 a3 a4 a5 : Int) (g x : S37) (g1 g2 : Nat) (w : World) (hg : 0 ≤ g.f0 ∧ g.f0 < 6) (hx : 0 ≤ x.f0)
  (hb1 : w.heap[g1]? = some (.cells #[.int .u8 a0, .int .u8 a1, .int .u8 a2, .int .u8 a3, .int .u8 a4, .int .u8 a5] 35 (0, 0)))
  (hb2 : w.heap[g2]? = some (.cells #[.int .u8 g.f0, .int .i8 g.f1, .int .i8 g.f2, .int .i16 g.f3] 37 (0, 0))) :
  Calls Try.prog 96 #[.agg #[.int .u8 x.f0, .int .i8 x.f1, .int .i8 x.f2, .int .i16 x.f3], .pointer (some ⟨g1, 0, none⟩), .pointer (some ⟨g2, 0, none⟩)] w fun e w' => e = .returned (.bool (!metB [a0, a1, a2, a3, a4, a5] g x)) ∧ Below w.heap.size w w' := by
 have hm := meet_total a0 a1 a2 a3 a4 a5 g x hg hx
 obtain ⟨y, hy⟩ : ∃ y, metB [a0, a1, a2, a3, a4, a5] g x = y := ⟨_, rfl⟩
 rw [hy] at hm ⊢
 have HM := Aside0.mk hm
 have hB0 := fun (o : Obj) => below_alloc (Below.refl w.heap.size w) o
 have c10 : (w.alloc (.cells #[.int .u8 x.f0, .int .i8 x.f1, .int .i8 x.f2, .int .i16 x.f3] 37)).cell? ⟨g1, 0, none⟩ = some (.int .u8 a0) := pw_cell_below (hB0 _) ((blk_cell hb1 0).trans rfl)
 have c11 : (w.alloc (.cells #[.int .u8 x.f0, .int .i8 x.f1, .int .i8 x.f2, .int .i16 x.f3] 37)).cell? ⟨g1, 1, none⟩ = some (.int .u8 a1) := pw_cell_below (hB0 _) ((blk_cell hb1 1).trans rfl)
 have c12 : (w.alloc (.cells #[.int .u8 x.f0, .int .i8 x.f1, .int .i8 x.f2, .int .i16 x.f3] 37)).cell? ⟨g1, 2, none⟩ = some (.int .u8 a2) := pw_cell_below (hB0 _) ((blk_cell hb1 2).trans rfl)
 have c13 : (w.alloc (.cells #[.int .u8 x.f0, .int .i8 x.f1, .int .i8 x.f2, .int .i16 x.f3] 37)).cell? ⟨g1, 3, none⟩ = some (.int .u8 a3) := pw_cell_below (hB0 _) ((blk_cell hb1 3).trans rfl)
 have c14 : (w.alloc (.cells #[.int .u8 x.f0, .int .i8 x.f1, .int .i8 x.f2, .int .i16 x.f3] 37)).cell? ⟨g1, 4, none⟩ = some (.int .u8 a4) := pw_cell_below (hB0 _) ((blk_cell hb1 4).trans rfl)
 have c15 : (w.alloc (.cells #[.int .u8 x.f0, .int .i8 x.f1, .int .i8 x.f2, .int .i16 x.f3] 37)).cell? ⟨g1, 5, none⟩ = some (.int .u8 a5) := pw_cell_below (hB0 _) ((blk_cell hb1 5).trans rfl)
 have c20 : (w.alloc (.cells #[.int .u8 x.f0, .int .i8 x.f1, .int .i8 x.f2, .int .i16 x.f3] 37)).cell? ⟨g2, 0, none⟩ = some (.int .u8 g.f0) := pw_cell_below (hB0 _) ((blk_cell hb2 0).trans rfl)
 have c21 : (w.alloc (.cells #[.int .u8 x.f0, .int .i8 x.f1, .int .i8 x.f2, .int .i16 x.f3] 37)).cell? ⟨g2, 1, none⟩ = some (.int .i8 g.f1) := pw_cell_below (hB0 _) ((blk_cell hb2 1).trans rfl)
 have c22 : (w.alloc (.cells #[.int .u8 x.f0, .int .i8 x.f1, .int .i8 x.f2, .int .i16 x.f3] 37)).cell? ⟨g2, 2, none⟩ = some (.int .i8 g.f2) := pw_cell_below (hB0 _) ((blk_cell hb2 2).trans rfl)
 have c23 : (w.alloc (.cells #[.int .u8 x.f0, .int .i8 x.f1, .int .i8 x.f2, .int .i16 x.f3] 37)).cell? ⟨g2, 3, none⟩ = some (.int .i16 g.f3) := pw_cell_below (hB0 _) ((blk_cell hb2 3).trans rfl)
 clear hm hy hb1 hb2 hg hx hB0
 go_enter Try.func96, Try.ntmps96
 go_wp2_with (go_at_call 57; refine (impl_Rules_meet.calls a0 a1 a2 a3 a4 a5 g.f0 g.f1 g.f2 g.f3 x.f0 x.f1 x.f2 x.f3 y _ HM.out).mono ?_; rintro e w1 ⟨rfl, hb1⟩)
 go_ret
 exact ⟨rfl, below_step (below_alloc (Below.refl _ _) _) hb1⟩
theorem apart_snoc (rs : List Int) (l : List S37) (kk : Nat) (h : kk < l.length) : apartFrom rs (l.take kk) (l.drop kk) = (!((l.take kk).any fun h => !metB rs l[kk] h) && apartFrom rs (l.take (kk + 1)) (l.drop (kk + 1))) := by
 rw [List.drop_eq_getElem_cons h, apartFrom, List.take_succ_eq_append_getElem h]
set_option maxHeartbeats 4000000 in
theorem impl_Rules_washable.calls (a0_0 : Int) (a0_1 : Int) (a0_2 : Int) (a0_3 : Int) (a0_4 : Int) (a0_5 : Int) (a1 : Int) (A2 : Option Addr) (c2 : Nat) (l2 : List S37) (r : Bool) (w : World) (hr2 : Kd.C k37 w A2 l2.length l2) (hc2 : l2.length ≤ c2) (h : impl_Rules_washable.f a0_0 a0_1 a0_2 a0_3 a0_4 a0_5 a1 l2 = some r) :
  Calls Try.prog 69 #[.agg #[.int .u8 a0_0, .int .u8 a0_1, .int .u8 a0_2, .int .u8 a0_3, .int .u8 a0_4, .int .u8 a0_5], .int .i64 a1, .slice A2 l2.length c2] w fun e w' => e = .returned (.bool r) ∧ Below w.heap.size w w' := by
 unfold impl_Rules_washable.f at h
 by_cases hq : l2.length ≤ 1048576 ∧ colB l2 = true
 case neg => rw [if_neg hq] at h; cases h
 rw [if_pos hq] at h
 obtain ⟨hlen, hcol⟩ := hq
 have hres := Option.some.inj h
 clear h
 obtain ⟨rs, hrs⟩ : ∃ rs, [a0_0, a0_1, a0_2, a0_3, a0_4, a0_5] = rs := ⟨_, rfl⟩
 rw [hrs] at hres
 have hcall : ∀ (W : World) (g2 kk : Nat) (hk : kk < l2.length), Below w.heap.size w W → W.heap[w.heap.size]? = some (.cells #[.int .u8 a0_0, .int .u8 a0_1, .int .u8 a0_2, .int .u8 a0_3, .int .u8 a0_4, .int .u8 a0_5] 35 (0, 0)) →
   W.heap[g2]? = some (.cells #[.int .u8 l2[kk].f0, .int .i8 l2[kk].f1, .int .i8 l2[kk].f2, .int .i16 l2[kk].f3] 37 (0, 0)) →
   Calls Try.prog 89 #[.slice A2 kk c2, .func (.func 96) #[] #[.pointer (some ⟨w.heap.size, 0, none⟩), .pointer (some ⟨g2, 0, none⟩)]] W fun e w' => e = .returned (.bool ((l2.take kk).any fun h => !metB rs l2[kk] h)) ∧ Below W.heap.size W w' := by
  intro W g2 kk hk hB h1 h2
  have hl : (l2.take kk).length = kk := by rw [List.length_take]; omega
  have hT := Kd.C_take (Kd.C_below hr2 hB) (Nat.le_of_lt hk)
  have hmem : ∀ x ∈ l2, 0 ≤ x.f0 ∧ x.f0 < 6 := fun x hx => of_decide_eq_true (List.all_eq_true.mp hcol x hx)
  have hc := ContainsFunc_37 A2 c2 (l2.take kk) 96 #[.pointer (some ⟨w.heap.size, 0, none⟩), .pointer (some ⟨g2, 0, none⟩)] (fun h => !metB rs l2[kk] h) W hT (enters_of Try.func96 (by kernel_rfl) rfl)
   (fun W' x hx hB' => by
    rw [← hrs]
    exact washable_1 _ _ _ _ _ _ l2[kk] x _ g2 W' (hmem _ (List.getElem_mem hk)) (hmem x (List.mem_of_mem_take hx)).1 (blk_below h1 hB') (blk_below h2 hB'))
  rw [hl] at hc
  exact hc
 have HRES := Aside0.mk hres
 have HC := Aside0.mk hcall
 have HR2 := Aside0.mk hr2
 have hwt : impl_weightOfw.f l2 = some (weightB l2) := by unfold impl_weightOfw.f; rw [if_pos hlen]
 obtain ⟨x, hx⟩ : ∃ x, weightB l2 = x := ⟨_, rfl⟩
 rw [hx] at hwt
 have HX := Aside0.mk hx
 have HW := Aside0.mk hwt
 have hn : l2.length ≤ 9223372036854775807 := by omega
 clear hres hcall hr2 hwt hx hrs hcol
 go_enter Try.func69, Try.ntmps69
 go_wp2
 go_loopg [11] l2.length (fun gg v11 w' => ∃ kk : Nat, kk ≤ l2.length ∧ l2.length - kk ≤ gg ∧ v11 = .int .i64 (kk : Int) ∧ Aside0 (Below w.heap.size w w') ∧ Aside0 (w'.heap[w.heap.size]? = some (.cells #[.int .u8 a0_0, .int .u8 a0_1, .int .u8 a0_2, .int .u8 a0_3, .int .u8 a0_4, .int .u8 a0_5] 35 (0, 0))) ∧ Aside0 (apartFrom rs [] l2 = apartFrom rs (l2.take kk) (l2.drop kk)))
 case atStart => exact ⟨0, Nat.zero_le _, by omega, rfl, ⟨below_alloc (Below.refl _ _) _⟩, ⟨blk_new _ _⟩, ⟨rfl⟩⟩
 case round =>
  obtain ⟨kk, hkk, hg, rfl, BW, BR, AF⟩ := hrel
  by_cases hlt : kk < l2.length
  ·have hlti : (kk : Int) < (l2.length : Int) := by omega
   obtain ⟨ad, e1, hx0, hx1, hx2, hx3⟩ := at_T37 (Kd.C_below HR2.out BW.out) (kk : Int) (by omega) hlti
   cases e1
   have ey : rd_T37 l2 (kk : Int) = l2[kk] := by simp [rd_T37, List.getD_eq_getElem?_getD, List.getElem?_eq_getElem hlt]
   rw [ey] at hx0 hx1 hx2 hx3
   simp only [Int.toNat_natCast] at hx0 hx1 hx2 hx3
   have hcall := fun W hB h1 g2 h2 => HC.out W g2 kk hlt hB h1 h2
   have hsn := apart_snoc rs l2 kk hlt
   obtain ⟨y, hy⟩ : ∃ y, l2[kk] = y := ⟨_, rfl⟩
   simp only [hy] at hx0 hx1 hx2 hx3 hcall hsn
   have HSN := Aside0.mk hsn
   clear hy ey hsn
   cases hq : ((l2.take kk).any fun h => !metB rs y h) with
   | true =>
    simp only [hq] at hcall
    have HQ := Aside0.mk hq
    have HCALL := Aside0.mk hcall
    clear hq hcall
    have hrf : r = false := by rw [← HRES.out, washB, AF.out, HSN.out, HQ.out]; rfl
    subst hrf
    go_wp2_with (go_at_call 89; refine (HCALL.out _ (below_alloc BW.out _) (blk_alloc BR.out _) wr.heap.size (blk_new _ _)).mono ?_; rintro e w1 ⟨rfl, hb1⟩)
    go_ret
    exact ⟨rfl, below_step (below_alloc BW.out _) hb1⟩
   | false =>
    simp only [hq] at hcall
    have HQ := Aside0.mk hq
    have HCALL := Aside0.mk hcall
    clear hq hcall
    go_wp2_with (go_at_call 89; refine (HCALL.out _ (below_alloc BW.out _) (blk_alloc BR.out _) wr.heap.size (blk_new _ _)).mono ?_; rintro e w1 ⟨rfl, hb1⟩)
    go_roundg (l2.length - (kk + 1))
    case measure => omega
    case rel => exact ⟨kk + 1, by omega, by omega, by go_num, ⟨below_step (below_alloc BW.out _) hb1⟩, ⟨blk_below (blk_alloc BR.out _) hb1⟩, ⟨by rw [AF.out, HSN.out, HQ.out]; rfl⟩⟩
  ·have hlti : ¬ (kk : Int) < (l2.length : Int) := by omega
   have hre : r = decide (x ≤ a1) := by
    rw [← HRES.out, washB, AF.out, HX.out, List.drop_eq_nil_of_le (by omega), apartFrom]
    rfl
   have HRE := Aside0.mk hre
   clear hre
   go_wp2_with (go_at_call 97; refine (impl_weightOfw.calls A2 c2 l2 x _ (Kd.C_below HR2.out BW.out) hc2 HW.out).mono ?_; rintro e w1 ⟨rfl, hb1⟩)
   go_ret
   exact ⟨by rw [HRE.out]; rfl, below_step BW.out hb1⟩
set_option maxHeartbeats 4000000 in
theorem Grow_nil (n : Nat) (w : World) (hn : n ≤ 4194304) :
  Calls Try.prog 104 #[.slice none 0 0, .int .i64 (n : Int)] w fun e w' => ∃ v0_ : Value, e = .returned v0_ ∧ Kd.R k37 37 w' w.heap.size (fun _ => True) v0_ ([] : List S37) ∧ Below w.heap.size w w' := by
 have h0 : decide ((n : Int) < 0) = false := decide_eq_false (by omega)
 have HN := Aside0.mk hn
 rcases Nat.eq_zero_or_pos n with rfl | hp
 ·clear hn
  go_enter Try.func104, Try.ntmps104
  go_wp2
  go_ret
  exact ⟨_, rfl, Kd.R_nil _ _ _ _ _, Below.refl _ _⟩
 ·have h1 : decide ((n : Int) > 0) = true := decide_eq_true (by omega)
  have HP := Aside0.mk hp
  have hn1 : (n : Int) ≤ 4194304 := by omega
  have hp1 : 0 < (n : Int) := by omega
  clear hp hn
  go_enter Try.func104, Try.ntmps104
  go_wp2_with ((with_reducible refine gate_builtin (b := .append) (xs := #[.tmp 20, .tmp 21]) rfl ?_); at_builtin; refine Kd.R_append_zeros k37 (w0 := w) w.heap.size rfl (.tmp 20) (.tmp 21) 25 3 37 (.agg #[.int .u8 0, .int .i8 0, .int .i8 0, .int .i16 0]) 6 rfl Try.underlying25 Try.underlying3 info37 rfl (by decide) (by omega) (.slice none 0 0) ([] : List S37) z37 (n : Int) (fun _ => True) rfl rfl (k37_mkM _ _ _ z37) (fun _ _ => trivial) (Kd.R_nil _ _ _ _ _) (by omega) (Below.refl _ _) (Nat.le_refl _) (by have := HN.out; simp; omega) ?_; intro v1 w1 ho1 hb1 hg1 hat1; obtain ⟨A1, c1, rfl⟩ := Kd.R_slice ho1; have HO1 := Aside0.mk (Kd.R_take (m := 0) ho1 (Nat.zero_le _)); have HB1 := Aside0.mk hb1; clear ho1 hb1 hg1 hat1)
  go_ret
  exact ⟨_, rfl, HO1.out, HB1.out⟩
def slices_Concat_impl_Garment.f (l0 : List (List S37)) : Option (List S37) := if l0.length ≤ 2 ∧ l0.all (fun x => decide (x.length ≤ 1048576)) = true then some l0.flatten else none
theorem sum_le : ∀ (l : List (List S37)), l.all (fun x => decide (x.length ≤ 1048576)) = true → l.flatten.length ≤ l.length * 1048576
 | [], _ => by simp
 | x :: xs, h => by
  rw [List.all_cons, Bool.and_eq_true] at h
  have := of_decide_eq_true h.1
  have := sum_le xs h.2
  rw [List.flatten_cons, List.length_append, List.length_cons]
  omega
theorem take_flat (l : List (List S37)) (kk : Nat) (h : kk < l.length) : (l.take (kk + 1)).flatten = (l.take kk).flatten ++ l[kk] := by
 rw [List.take_succ_eq_append_getElem h, List.flatten_append]
 simp
theorem at_LL {w : World} {A : Option Addr} {xs : List (List S37)} (h : Kd.C (Kd.slice 37 k37) w A xs.length xs) (kk : Nat) (hk : kk < xs.length) (y : List S37) (hy : xs[kk] = y) : ∃ ad A0 c0, A = some ad ∧ w.cell? (ad.add kk) = some (.slice A0 y.length c0) ∧ y.length ≤ c0 ∧ Kd.C k37 w A0 y.length y := by
 obtain ⟨ad, c, e, _, hK, hc0⟩ := Kd.C_get h ([] : List S37) (kk : Int) (by omega) (by omega)
 have hc : ∀ j u, c[j]? = some u → w.cell? (ad.add ((kk : Int).toNat * 1 + j)) = some u := hc0
 have hx : xs.getD (kk : Int).toNat ([] : List S37) = y := by rw [Int.toNat_natCast, List.getD_eq_getElem?_getD, List.getElem?_eq_getElem hk, hy]; rfl
 obtain ⟨A0, c0, rfl, l0, g0⟩ := hK
 rw [hx] at l0 g0 hc
 exact ⟨ad, A0, c0, e, by have hq := hc 0 _ rfl; rwa [Nat.mul_one, Nat.add_zero, Int.toNat_natCast] at hq, l0, g0⟩
set_option maxHeartbeats 8000000 in
theorem slices_Concat_impl_Garment.calls (A0 : Option Addr) (c0 : Nat) (l0 : List (List S37)) (r : List S37) (w : World) (hr0 : Kd.C (Kd.slice 37 k37) w A0 l0.length l0) (hc0 : l0.length ≤ c0) (h : slices_Concat_impl_Garment.f l0 = some r) :
  Calls Try.prog 77 #[.slice A0 l0.length c0] w fun e w' => ∃ v0_ : Value, e = .returned v0_ ∧ Kd.R k37 37 w' w.heap.size (fun _ => True) v0_ r ∧ Below w.heap.size w w' := by
 unfold slices_Concat_impl_Garment.f at h
 by_cases hq : l0.length ≤ 2 ∧ l0.all (fun x => decide (x.length ≤ 1048576)) = true
 case neg => rw [if_neg hq] at h; cases h
 rw [if_pos hq] at h
 obtain rfl := Option.some.inj h
 clear h
 obtain ⟨h2, hall⟩ := hq
 have HR0 := Aside0.mk hr0
 have hlen : ∀ kk (h : kk < l0.length), l0[kk].length ≤ 1048576 := fun kk h => of_decide_eq_true (List.all_eq_true.mp hall _ (List.getElem_mem h))
 have hsum : ∀ kk, kk ≤ l0.length → (l0.take kk).flatten.length ≤ 2097152 := by
  intro kk hk
  have := sum_le (l0.take kk) (by rw [List.all_eq_true] at hall ⊢; exact fun x hx => hall x (List.mem_of_mem_take hx))
  have hl : (l0.take kk).length = kk := by rw [List.length_take]; omega
  rw [hl] at this
  omega
 have HL := Aside0.mk hlen
 have HS := Aside0.mk hsum
 obtain ⟨FL, hfl⟩ : ∃ FL, FL = l0.flatten := ⟨_, rfl⟩
 rw [← hfl]
 have HFL := Aside0.mk hfl
 clear hr0 hall hlen hsum hfl
 go_enter Try.func77, Try.ntmps77
 go_wp2
 go_loopg [3, 5, 11] l0.length (fun gg v3 _ v11 w' => ∃ kk S : Nat, kk ≤ l0.length ∧ l0.length - kk ≤ gg ∧ S ≤ 2097152 ∧ v11 = .int .i64 (kk : Int) ∧ v3 = .int .i64 (S : Int) ∧ Aside0 (S = (l0.take kk).flatten.length) ∧ w = w')
 case atStart => exact ⟨0, 0, Nat.zero_le _, by omega, by omega, rfl, rfl, ⟨by simp⟩, rfl⟩
 case round =>
  obtain ⟨kk, S, hkk, hg, hS2, rfl, rfl, HSS, rfl⟩ := hrel
  by_cases hlt : kk < l0.length
  ·obtain ⟨y, hy⟩ : ∃ y, l0[kk] = y := ⟨_, rfl⟩
   obtain ⟨ad, A1, c1, rfl, hx, hyc, hC⟩ := at_LL HR0.out kk hlt y hy
   have hyl : y.length ≤ 1048576 := hy ▸ HL.out kk hlt
   have HY := Aside0.mk hy
   have hlti : (kk : Int) < (l0.length : Int) := by omega
   have hS3 := HS.out (kk + 1) hlt
   have HT := Aside0.mk (show (l0.take (kk + 1)).flatten.length = S + y.length by rw [take_flat l0 kk hlt, List.length_append, hy, HSS.out])
   have hsy : S + y.length ≤ 2097152 := by rw [← HT.out]; exact hS3
   clear hy hC hS3
   go_wp2
   go_roundg (l0.length - (kk + 1))
   case measure => omega
   case rel => exact ⟨kk + 1, S + y.length, by omega, by omega, by omega, by go_num, by go_num, ⟨HT.out.symm⟩, rfl⟩
  ·have hlti : ¬ (kk : Int) < (l0.length : Int) := by omega
   go_wp2_with (go_at_call 104; refine (Grow_nil S _ (by omega)).mono ?_; rintro e w1 ⟨v1, rfl, ho1, hb1⟩; have HO1 := Aside0.mk ho1; have HB1 := Aside0.mk hb1; clear ho1 hb1)
   go_loopg [6, 8, 27] l0.length (fun gg v6 _ v27 w' => ∃ (j : Nat) (X : List S37), j ≤ l0.length ∧ l0.length - j ≤ gg ∧ v27 = .int .i64 (j : Int) ∧ Aside0 (X = (l0.take j).flatten) ∧ Aside0 (Kd.R k37 37 w' w.heap.size (fun _ => True) v6 X) ∧ Aside0 (Below w.heap.size w w'))
   case atStart => exact ⟨0, [], Nat.zero_le _, by omega, rfl, ⟨by simp⟩, HO1, HB1⟩
   case round =>
    obtain ⟨j, X, hj, hgj, rfl, HX, HO, HB⟩ := hrel
    by_cases hlj : j < l0.length
    ·obtain ⟨y, hy⟩ : ∃ y, l0[j] = y := ⟨_, rfl⟩
     obtain ⟨ad, A1, c1, rfl, hx0, hyc, hC⟩ := at_LL HR0.out j hlj y hy
     have hx := pw_cell_below HB.out hx0
     have hyl : y.length ≤ 1048576 := hy ▸ HL.out j hlj
     have HT := Aside0.mk (show X ++ y = (l0.take (j + 1)).flatten by rw [take_flat l0 j hlj, hy, HX.out])
     have hXl := Aside0.mk (show X.length ≤ 2097152 by rw [HX.out]; exact HS.out j hj)
     have HC := Aside0.mk (Kd.C_below hC HB.out)
     have hlji : (j : Int) < (l0.length : Int) := by omega
     clear hy hC hx0
     go_wp2_with ((with_reducible refine gate_builtin (b := .append) (xs := #[.tmp 31, .tmp 32]) rfl ?_); at_builtin; refine Kd.R_append_rows k37 (w0 := w) w.heap.size rfl (.tmp 31) (.tmp 32) 25 37 (.agg #[.int .u8 0, .int .i8 0, .int .i8 0, .int .i16 0]) 6 rfl Try.underlying25 info37 rfl (by decide) (by omega) _ X y _ _ _ (fun _ => True) (fun _ => False) rfl rfl HO.out HC.out (fun _ _ h => h) (fun _ h => h.elim) (fun _ _ => trivial) HB.out HB.out.size (by have := hXl.out; omega) ?_; intro v5 w5 ho5 hb5 _ _; have HO5 := Aside0.mk ho5; have HB5 := Aside0.mk hb5; clear ho5 hb5)
     go_roundg (l0.length - (j + 1))
     case measure => omega
     case rel => exact ⟨j + 1, X ++ y, by omega, by omega, by go_num, HT, HO5, HB5⟩
    ·have hlji : ¬ (j : Int) < (l0.length : Int) := by omega
     go_wp2
     go_ret
     obtain rfl : FL = X := by rw [HFL.out, HX.out, show j = l0.length by omega, List.take_length]
     exact ⟨_, rfl, HO.out, HB.out⟩
def slices_Clone_impl_Garment.f (l0 : List S37) : Option (List S37) := if l0.length ≤ 1048576 then some l0 else none
set_option maxHeartbeats 2000000 in
theorem slices_Clone_impl_Garment.calls (A0 : Option Addr) (c0 : Nat) (l0 : List S37) (r : List S37) (w : World) (hr0 : Kd.C k37 w A0 l0.length l0) (hc0 : l0.length ≤ c0) (h : slices_Clone_impl_Garment.f l0 = some r) :
  Calls Try.prog 78 #[.slice A0 l0.length c0] w fun e w' => ∃ v0_ : Value, e = .returned v0_ ∧ Kd.R k37 37 w' w.heap.size (fun _ => True) v0_ r ∧ Below w.heap.size w w' := by
 unfold slices_Clone_impl_Garment.f at h
 by_cases hb : l0.length ≤ 1048576
 case neg => rw [if_neg hb] at h; cases h
 rw [if_pos hb] at h
 obtain rfl := Option.some.inj h
 clear h
 have HR0 := Aside0.mk hr0
 have HL := Aside0.mk hb
 clear hr0 hb
 rcases A0 with _ | ad
 ·have hnil : l0 = [] := by
   rcases l0 with _ | ⟨x, xs⟩
   ·rfl
   ·obtain ⟨ad, he, _⟩ := HR0.out.2.2 (by simp)
    cases he
  subst hnil
  have he := fun (W : World) => Lib.run_eql_slice_nil (P := Try.prog) W 25 37 none 0 c0 0 0 Try.underlying25
  simp only [List.length_nil]
  go_enter Try.func78, Try.ntmps78
  go_wp2
  go_ret
  exact ⟨_, rfl, Kd.R_nil _ _ _ _ _, Below.refl _ _⟩
 ·have he := fun (W : World) => Lib.run_eql_slice_nil (P := Try.prog) W 25 37 (some ad) l0.length c0 0 0 Try.underlying25
  go_enter Try.func78, Try.ntmps78
  go_wp2_with (first | ((with_reducible refine gate_dst (N := 5) rfl ?_); refine Kd.R_lit k37 _ 37 ?hg (N := 5) ?hd (xs := ([] : List S37)) (inner := []) (ok := fun _ => True) (okp := fun _ => True) ?hr ?hp (fun _ hk => hk) trivial (Below.refl _ _) (Nat.le_refl _) (by simp) ?_; (case hd => rfl); (case hg => rfl); (case hr => first | (go_simp; done) | (go_simp; rfl)); (case hp => exact (Reps.none _ _)); intro v1 w1 ho1 hb1 hg_ hnew_; clear hg_ hnew_; have HO1 := Aside0.mk ho1; have HB1 := Aside0.mk hb1; clear ho1 hb1) | ((with_reducible refine gate_builtin (b := .append) (xs := #[.tmp 5, .tmp 6]) rfl ?_); at_builtin; refine Kd.R_append_rows k37 (w0 := w) w.heap.size rfl (.tmp 5) (.tmp 6) 25 37 (.agg #[.int .u8 0, .int .i8 0, .int .i8 0, .int .i16 0]) 6 rfl Try.underlying25 info37 rfl (by decide) (by omega) v1 [] l0 _ _ _ (fun _ => True) (fun _ => False) rfl rfl HO1.out (Kd.C_below HR0.out HB1.out) (fun _ _ h => h) (fun _ h => h.elim) (fun _ _ => trivial) HB1.out HB1.out.size (by have := HL.out; simp; omega) ?_; intro v2 w2 ho2 hb2 hg2 hat2; have HO2 := Aside0.mk ho2; have HB2 := Aside0.mk hb2; clear ho2 hb2 hg2 hat2))
  go_ret
  exact ⟨_, rfl, by simpa using HO2.out, HB2.out⟩
end Go.Proofs.Ythodfhcaaidnmaa.Fw
