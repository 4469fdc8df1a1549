/- Functions of the program as Lean functions; of each a proof that the machine's call does what its Lean function says. -/
import Derived.Test.YthodfhcaaidnmaaCh0
import Derived.Test.YthodfhcaaidnmaaCh5
import Derived.Test.YthodfhcaaidnmaaCh6
import Derived.Test.YthodfhcaaidnmaaCh7
namespace Go.Proofs.Ythodfhcaaidnmaa.Ch
open Go.RowKit Go.Proofs.YthodfhcaaidnmaaW.PrintWords Go.Proofs.YthodfhcaaidnmaaW.PrintLast Go.Proofs.YthodfhcaaidnmaaW.PrintMore
attribute [local go_sem] max2_int min2_int max_two min_two max_three min_three max_four min_four   -- for this text's walks alone
set_option linter.unusedVariables false
set_option linter.unusedSimpArgs false

/-! ### impl_weightOfw: told in own words -/
def weightFrom : Int → List S37 → Int
 | x, [] => x
 | x, c :: cs => weightFrom (wrap64 (x + wrap64 c.f3)) cs
def weightB (l : List S37) : Int := weightFrom 0 l
theorem rd_mid_w (pre : List S37) (c : S37) (cs : List S37) : rd_T37 (pre ++ c :: cs) (pre.length : Int) = c := by simp [rd_T37, List.getD_eq_getElem?_getD]
theorem w_succ_w {i n : Nat} (h : i < n) (hn : n ≤ 1048576) : wrap64 ((i : Int) + 1) = ((i + 1 : Nat) : Int) := by unfold wrap64; omega
theorem weight_l0 (l : List S37) (hl : l.length ≤ 1048576) : ∀ (cs pre : List S37), l = pre ++ cs → ∀ x : Int,
  Ev (fun k => impl_weightOf.l0 k x l (l.length : Int) (pre.length : Int)) (weightFrom x cs) := by
 intro cs
 induction cs with
 | nil =>
  intro pre hpre x
  refine Ev.step (fun k => by rw [impl_weightOf.l0]) ?_
  have : l.length = pre.length := by rw [hpre]; simp
  simp only [show ¬ (pre.length : Int) < (l.length : Int) by omega, ↓reduceIte, weightFrom]
  exact Ev.now _
 | cons c cs ih =>
  intro pre hpre x
  have hlen : l.length = pre.length + cs.length + 1 := by rw [hpre]; simp; omega
  have hc : rd_T37 l (pre.length : Int) = c := by rw [hpre]; exact rd_mid_w pre c cs
  have hnext := ih (pre ++ [c]) (by rw [hpre]; simp)
  simp only [List.length_append, List.length_cons, List.length_nil, Nat.zero_add] at hnext
  refine Ev.step (fun k => by rw [impl_weightOf.l0]) ?_
  simp only [show (pre.length : Int) < (l.length : Int) by omega, show (0 : Int) ≤ (pre.length : Int) by omega, ↓reduceIte, hc, w_succ_w (show pre.length < l.length by omega) hl]
  rw [weightFrom]
  exact hnext _
theorem weight_ev (l : List S37) (hl : l.length ≤ 1048576) : Ev (fun k => impl_weightOf.f k l) (weightB l) := by
 unfold impl_weightOf.f weightB
 exact weight_l0 l hl l [] rfl 0
def impl_weightOfw.f (l0 : List S37) : Option Int := if l0.length ≤ 1048576 then some (weightB l0) else none
theorem impl_weightOfw.spec (l0 : List S37) (r : Int) (h : impl_weightOfw.f l0 = some r) : ∃ k, impl_weightOf.f k l0 = some r := by
 unfold impl_weightOfw.f at h
 by_cases hc : l0.length ≤ 1048576
 ·rw [if_pos hc] at h
  obtain rfl := Option.some.inj h
  exact Ev.rounds (weight_ev l0 hc)
 ·rw [if_neg hc] at h
  cases h

theorem impl_weightOfw.calls (A0 : Option Addr) (c0 : Nat) (l0 : List (S37)) (r : Int) (w : World) (hr0 : Kd.C k37 w A0 l0.length l0) (hc0 : l0.length ≤ c0) (h : impl_weightOfw.f l0 = some r) :
  Calls Try.prog 97 #[.slice A0 l0.length c0] w fun e w' => e = .returned (.int .i64 r) ∧ Below w.heap.size w w' := by
 obtain ⟨k, hk⟩ := impl_weightOfw.spec l0 _ h
 exact impl_weightOf.calls k A0 c0 l0 r w hr0 hc0 hk

/-! ### impl_Rules_washable: function 69 (told by hand) -/
def bitB (rs : List Int) (a b : Int) : Bool := (Go.bits .and .u8 (shr .u8 (rd rs a) b) 1) == 1
def metB (rs : List Int) (x y : S37) : Bool := bitB rs x.f0 y.f0 && decide (mx x.f1 y.f1 ≤ mn x.f2 y.f2)
def apartFrom (rs : List Int) : List S37 → List S37 → Bool
 | _, [] => true
 | pre, g :: gs => !(pre.any fun h => !metB rs g h) && apartFrom rs (pre ++ [g]) gs
def washB (rs : List Int) (hold : Int) (l : List S37) : Bool := apartFrom rs [] l && decide (weightB l ≤ hold)
def colB (l : List S37) : Bool := l.all fun x => decide (0 ≤ x.f0 ∧ x.f0 < 6)
def impl_Rules_washable.f (a0_0 : Int) (a0_1 : Int) (a0_2 : Int) (a0_3 : Int) (a0_4 : Int) (a0_5 : Int) (a1 : Int) (l2 : List S37) : Option Bool :=
 if l2.length ≤ 1048576 ∧ colB l2 = true then some (washB [a0_0, a0_1, a0_2, a0_3, a0_4, a0_5] a1 l2) else none
theorem meet_total (a0 a1 a2 a3 a4 a5 : Int) (x y : S37) (hx : 0 ≤ x.f0 ∧ x.f0 < 6) (hy : 0 ≤ y.f0) : impl_Rules_meet.f a0 a1 a2 a3 a4 a5 x.f0 x.f1 x.f2 x.f3 y.f0 y.f1 y.f2 y.f3 = some (metB [a0, a1, a2, a3, a4, a5] x y) := by
 have hm : impl_Rules_may.f a0 a1 a2 a3 a4 a5 x.f0 y.f0 = some (bitB [a0, a1, a2, a3, a4, a5] x.f0 y.f0) := by
  unfold impl_Rules_may.f bitB
  rw [if_pos ⟨hx.1, hx.2, hy⟩]
 unfold impl_Rules_meet.f metB
 rw [hm]
 cases bitB [a0, a1, a2, a3, a4, a5] x.f0 y.f0 <;> simp
set_option maxHeartbeats 2000000 in
theorem washable_1 (a0 a1 a2 a3 a4 a5 : Int) (g x : S37) (g1 g2 : Nat) (w : World) (hg : 0 ≤ g.f0 ∧ g.f0 < 6) (hx : 0 ≤ x.f0)
  (hb1 : w.heap[g1]? = some (.cells #[.int .u8 a0, .int .u8 a1, .int .u8 a2, .int .u8 a3, .int .u8 a4, .int .u8 a5] 35 (0, 0)))
  (hb2 : w.heap[g2]? = some (.cells #[.int .u8 g.f0, .int .i8 g.f1, .int .i8 g.f2, .int .i16 g.f3] 37 (0, 0))) :
  Calls Try.prog 96 #[.agg #[.int .u8 x.f0, .int .i8 x.f1, .int .i8 x.f2, .int .i16 x.f3], .pointer (some ⟨g1, 0, none⟩), .pointer (some ⟨g2, 0, none⟩)] w fun e w' => e = .returned (.bool (!metB [a0, a1, a2, a3, a4, a5] g x)) ∧ Below w.heap.size w w' := by
 have hm := meet_total a0 a1 a2 a3 a4 a5 g x hg hx
 obtain ⟨y, hy⟩ : ∃ y, metB [a0, a1, a2, a3, a4, a5] g x = y := ⟨_, rfl⟩
 rw [hy] at hm ⊢
 have HM := Aside0.mk hm
 have hB0 := fun (o : Obj) => below_alloc (Below.refl w.heap.size w) o
 have c10 : (w.alloc (.cells #[.int .u8 x.f0, .int .i8 x.f1, .int .i8 x.f2, .int .i16 x.f3] 37)).cell? ⟨g1, 0, none⟩ = some (.int .u8 a0) := pw_cell_below (hB0 _) ((blk_cell hb1 0).trans rfl)
 have c11 : (w.alloc (.cells #[.int .u8 x.f0, .int .i8 x.f1, .int .i8 x.f2, .int .i16 x.f3] 37)).cell? ⟨g1, 1, none⟩ = some (.int .u8 a1) := pw_cell_below (hB0 _) ((blk_cell hb1 1).trans rfl)
 have c12 : (w.alloc (.cells #[.int .u8 x.f0, .int .i8 x.f1, .int .i8 x.f2, .int .i16 x.f3] 37)).cell? ⟨g1, 2, none⟩ = some (.int .u8 a2) := pw_cell_below (hB0 _) ((blk_cell hb1 2).trans rfl)
 have c13 : (w.alloc (.cells #[.int .u8 x.f0, .int .i8 x.f1, .int .i8 x.f2, .int .i16 x.f3] 37)).cell? ⟨g1, 3, none⟩ = some (.int .u8 a3) := pw_cell_below (hB0 _) ((blk_cell hb1 3).trans rfl)
 have c14 : (w.alloc (.cells #[.int .u8 x.f0, .int .i8 x.f1, .int .i8 x.f2, .int .i16 x.f3] 37)).cell? ⟨g1, 4, none⟩ = some (.int .u8 a4) := pw_cell_below (hB0 _) ((blk_cell hb1 4).trans rfl)
 have c15 : (w.alloc (.cells #[.int .u8 x.f0, .int .i8 x.f1, .int .i8 x.f2, .int .i16 x.f3] 37)).cell? ⟨g1, 5, none⟩ = some (.int .u8 a5) := pw_cell_below (hB0 _) ((blk_cell hb1 5).trans rfl)
 have c20 : (w.alloc (.cells #[.int .u8 x.f0, .int .i8 x.f1, .int .i8 x.f2, .int .i16 x.f3] 37)).cell? ⟨g2, 0, none⟩ = some (.int .u8 g.f0) := pw_cell_below (hB0 _) ((blk_cell hb2 0).trans rfl)
 have c21 : (w.alloc (.cells #[.int .u8 x.f0, .int .i8 x.f1, .int .i8 x.f2, .int .i16 x.f3] 37)).cell? ⟨g2, 1, none⟩ = some (.int .i8 g.f1) := pw_cell_below (hB0 _) ((blk_cell hb2 1).trans rfl)
 have c22 : (w.alloc (.cells #[.int .u8 x.f0, .int .i8 x.f1, .int .i8 x.f2, .int .i16 x.f3] 37)).cell? ⟨g2, 2, none⟩ = some (.int .i8 g.f2) := pw_cell_below (hB0 _) ((blk_cell hb2 2).trans rfl)
 have c23 : (w.alloc (.cells #[.int .u8 x.f0, .int .i8 x.f1, .int .i8 x.f2, .int .i16 x.f3] 37)).cell? ⟨g2, 3, none⟩ = some (.int .i16 g.f3) := pw_cell_below (hB0 _) ((blk_cell hb2 3).trans rfl)
 clear hm hy hb1 hb2 hg hx hB0
 go_enter Try.func96, Try.ntmps96
 go_wp2_with (go_at_call 57; refine (impl_Rules_meet.calls a0 a1 a2 a3 a4 a5 g.f0 g.f1 g.f2 g.f3 x.f0 x.f1 x.f2 x.f3 y _ HM.out).mono ?_; rintro e w1 ⟨rfl, hb1⟩)
 go_ret
 exact ⟨rfl, below_step (below_alloc (Below.refl _ _) _) hb1⟩
theorem apart_snoc (rs : List Int) (l : List S37) (kk : Nat) (h : kk < l.length) : apartFrom rs (l.take kk) (l.drop kk) = (!((l.take kk).any fun h => !metB rs l[kk] h) && apartFrom rs (l.take (kk + 1)) (l.drop (kk + 1))) := by
 rw [List.drop_eq_getElem_cons h, apartFrom, List.take_succ_eq_append_getElem h]
set_option maxHeartbeats 4000000 in
theorem impl_Rules_washable.calls (a0_0 : Int) (a0_1 : Int) (a0_2 : Int) (a0_3 : Int) (a0_4 : Int) (a0_5 : Int) (a1 : Int) (A2 : Option Addr) (c2 : Nat) (l2 : List S37) (r : Bool) (w : World) (hr2 : Kd.C k37 w A2 l2.length l2) (hc2 : l2.length ≤ c2) (h : impl_Rules_washable.f a0_0 a0_1 a0_2 a0_3 a0_4 a0_5 a1 l2 = some r) :
  Calls Try.prog 69 #[.agg #[.int .u8 a0_0, .int .u8 a0_1, .int .u8 a0_2, .int .u8 a0_3, .int .u8 a0_4, .int .u8 a0_5], .int .i64 a1, .slice A2 l2.length c2] w fun e w' => e = .returned (.bool r) ∧ Below w.heap.size w w' := by
 unfold impl_Rules_washable.f at h
 by_cases hq : l2.length ≤ 1048576 ∧ colB l2 = true
 case neg => rw [if_neg hq] at h; cases h
 rw [if_pos hq] at h
 obtain ⟨hlen, hcol⟩ := hq
 have hres := Option.some.inj h
 clear h
 obtain ⟨rs, hrs⟩ : ∃ rs, [a0_0, a0_1, a0_2, a0_3, a0_4, a0_5] = rs := ⟨_, rfl⟩
 rw [hrs] at hres
 have hcall : ∀ (W : World) (g2 kk : Nat) (hk : kk < l2.length), Below w.heap.size w W → W.heap[w.heap.size]? = some (.cells #[.int .u8 a0_0, .int .u8 a0_1, .int .u8 a0_2, .int .u8 a0_3, .int .u8 a0_4, .int .u8 a0_5] 35 (0, 0)) →
   W.heap[g2]? = some (.cells #[.int .u8 l2[kk].f0, .int .i8 l2[kk].f1, .int .i8 l2[kk].f2, .int .i16 l2[kk].f3] 37 (0, 0)) →
   Calls Try.prog 89 #[.slice A2 kk c2, .func (.func 96) #[] #[.pointer (some ⟨w.heap.size, 0, none⟩), .pointer (some ⟨g2, 0, none⟩)]] W fun e w' => e = .returned (.bool ((l2.take kk).any fun h => !metB rs l2[kk] h)) ∧ Below W.heap.size W w' := by
  intro W g2 kk hk hB h1 h2
  have hl : (l2.take kk).length = kk := by rw [List.length_take]; omega
  have hT := Kd.C_take (Kd.C_below hr2 hB) (Nat.le_of_lt hk)
  have hmem : ∀ x ∈ l2, 0 ≤ x.f0 ∧ x.f0 < 6 := fun x hx => of_decide_eq_true (List.all_eq_true.mp hcol x hx)
  have hc := ContainsFunc_37 A2 c2 (l2.take kk) 96 #[.pointer (some ⟨w.heap.size, 0, none⟩), .pointer (some ⟨g2, 0, none⟩)] (fun h => !metB rs l2[kk] h) W hT (enters_of Try.func96 (by kernel_rfl) rfl)
   (fun W' x hx hB' => by
    rw [← hrs]
    exact washable_1 _ _ _ _ _ _ l2[kk] x _ g2 W' (hmem _ (List.getElem_mem hk)) (hmem x (List.mem_of_mem_take hx)).1 (blk_below h1 hB') (blk_below h2 hB'))
  rw [hl] at hc
  exact hc
 have HRES := Aside0.mk hres
 have HC := Aside0.mk hcall
 have HR2 := Aside0.mk hr2
 have hwt : impl_weightOfw.f l2 = some (weightB l2) := by unfold impl_weightOfw.f; rw [if_pos hlen]
 obtain ⟨x, hx⟩ : ∃ x, weightB l2 = x := ⟨_, rfl⟩
 rw [hx] at hwt
 have HX := Aside0.mk hx
 have HW := Aside0.mk hwt
 have hn : l2.length ≤ 9223372036854775807 := by omega
 clear hres hcall hr2 hwt hx hrs hcol
 go_enter Try.func69, Try.ntmps69
 go_wp2
 go_loopg [11] l2.length (fun gg v11 w' => ∃ kk : Nat, kk ≤ l2.length ∧ l2.length - kk ≤ gg ∧ v11 = .int .i64 (kk : Int) ∧ Aside0 (Below w.heap.size w w') ∧ Aside0 (w'.heap[w.heap.size]? = some (.cells #[.int .u8 a0_0, .int .u8 a0_1, .int .u8 a0_2, .int .u8 a0_3, .int .u8 a0_4, .int .u8 a0_5] 35 (0, 0))) ∧ Aside0 (apartFrom rs [] l2 = apartFrom rs (l2.take kk) (l2.drop kk)))
 case atStart => exact ⟨0, Nat.zero_le _, by omega, rfl, ⟨below_alloc (Below.refl _ _) _⟩, ⟨blk_new _ _⟩, ⟨rfl⟩⟩
 case round =>
  obtain ⟨kk, hkk, hg, rfl, BW, BR, AF⟩ := hrel
  by_cases hlt : kk < l2.length
  ·have hlti : (kk : Int) < (l2.length : Int) := by omega
   obtain ⟨ad, e1, hx0, hx1, hx2, hx3⟩ := at_T37 (Kd.C_below HR2.out BW.out) (kk : Int) (by omega) hlti
   cases e1
   have ey : rd_T37 l2 (kk : Int) = l2[kk] := by simp [rd_T37, List.getD_eq_getElem?_getD, List.getElem?_eq_getElem hlt]
   rw [ey] at hx0 hx1 hx2 hx3
   simp only [Int.toNat_natCast] at hx0 hx1 hx2 hx3
   have hcall := fun W hB h1 g2 h2 => HC.out W g2 kk hlt hB h1 h2
   have hsn := apart_snoc rs l2 kk hlt
   obtain ⟨y, hy⟩ : ∃ y, l2[kk] = y := ⟨_, rfl⟩
   simp only [hy] at hx0 hx1 hx2 hx3 hcall hsn
   have HSN := Aside0.mk hsn
   clear hy ey hsn
   cases hq : ((l2.take kk).any fun h => !metB rs y h) with
   | true =>
    simp only [hq] at hcall
    have HQ := Aside0.mk hq
    have HCALL := Aside0.mk hcall
    clear hq hcall
    have hrf : r = false := by rw [← HRES.out, washB, AF.out, HSN.out, HQ.out]; rfl
    subst hrf
    go_wp2_with (go_at_call 89; refine (HCALL.out _ (below_alloc BW.out _) (blk_alloc BR.out _) wr.heap.size (blk_new _ _)).mono ?_; rintro e w1 ⟨rfl, hb1⟩)
    go_ret
    exact ⟨rfl, below_step (below_alloc BW.out _) hb1⟩
   | false =>
    simp only [hq] at hcall
    have HQ := Aside0.mk hq
    have HCALL := Aside0.mk hcall
    clear hq hcall
    go_wp2_with (go_at_call 89; refine (HCALL.out _ (below_alloc BW.out _) (blk_alloc BR.out _) wr.heap.size (blk_new _ _)).mono ?_; rintro e w1 ⟨rfl, hb1⟩)
    go_roundg (l2.length - (kk + 1))
    case measure => omega
    case rel => exact ⟨kk + 1, by omega, by omega, by go_num, ⟨below_step (below_alloc BW.out _) hb1⟩, ⟨blk_below (blk_alloc BR.out _) hb1⟩, ⟨by rw [AF.out, HSN.out, HQ.out]; rfl⟩⟩
  ·have hlti : ¬ (kk : Int) < (l2.length : Int) := by omega
   have hre : r = decide (x ≤ a1) := by
    rw [← HRES.out, washB, AF.out, HX.out, List.drop_eq_nil_of_le (by omega), apartFrom]
    rfl
   have HRE := Aside0.mk hre
   clear hre
   go_wp2_with (go_at_call 97; refine (impl_weightOfw.calls A2 c2 l2 x _ (Kd.C_below HR2.out BW.out) hc2 HW.out).mono ?_; rintro e w1 ⟨rfl, hb1⟩)
   go_ret
   exact ⟨by rw [HRE.out]; rfl, below_step BW.out hb1⟩

/-! ### impl_Rules_mayJoin: function 76 (told by hand) -/
def joinB (rs : List Int) (hold : Int) (l : List S37) (o : List Int) (n : Int) : Bool := washB rs hold (withB l o n ++ [rd_T37 l (o.length : Int)])
theorem withB_length_j (l : List S37) (ns : List Int) (n : Int) : (withB l ns n).length ≤ ns.length := by
 unfold withB
 rw [List.length_map]
 exact Nat.le_trans (List.length_filter_le _ _) (by rw [List.length_zip]; exact Nat.min_le_left _ _)
theorem join_wash {a0 a1 a2 a3 a4 a5 hold : Int} {l : List S37} {o : List Int} {n : Int} (h1 : l.length ≤ 1048576) (ho : o.length < l.length) (h2 : colB l = true) : impl_Rules_washable.f a0 a1 a2 a3 a4 a5 hold (withB l o n ++ [rd_T37 l (o.length : Int)]) = some (joinB [a0, a1, a2, a3, a4, a5] hold l o n) := by
 have hlen := withB_length_j l o n
 have hc : colB (withB l o n ++ [rd_T37 l (o.length : Int)]) = true := by
  unfold colB at h2 ⊢
  rw [List.all_eq_true] at h2 ⊢
  intro x hx
  rcases List.mem_append.mp hx with hx | hx
  ·unfold withB at hx
   obtain ⟨y, hy, rfl⟩ := List.mem_map.mp hx
   exact h2 _ (List.of_mem_zip (List.mem_filter.mp hy).1).2
  ·rw [List.mem_singleton] at hx
   subst hx
   have : rd_T37 l (o.length : Int) = l[o.length] := by simp [rd_T37, List.getD_eq_getElem?_getD, List.getElem?_eq_getElem ho]
   rw [this]
   exact h2 _ (List.getElem_mem ho)
 unfold impl_Rules_washable.f
 rw [if_pos ⟨by simp; omega, hc⟩]
 rfl
theorem C_newG (w : World) (x : S37) : Kd.C k37 (w.alloc (.cells #[.int .u8 x.f0, .int .i8 x.f1, .int .i8 x.f2, .int .i16 x.f3] 37)) (some ⟨w.heap.size, 0, none⟩) [x].length [x] := by
 refine Own.C_single [.int .u8 x.f0, .int .i8 x.f1, .int .i8 x.f2, .int .i16 x.f3] (k37_mk _ x) (fun i u hu => ?_)
 rcases i with _ | _ | _ | _ | i <;> simp at hu
 all_goals
  subst hu
  simp [go_sem]
set_option maxHeartbeats 8000000 in
set_option maxRecDepth 100000 in
theorem mayJoin_1 (a0 a1 a2 a3 a4 a5 hold n : Int) (l2 : List S37) (o : List Int) (A2 A : Option Addr) (c2 c : Nat) (g1 g2 g3 : Nat) (w : World) (hlen : l2.length ≤ 1048576) (hol : o.length < l2.length) (hcol : colB l2 = true)
  (hr2 : Kd.C k37 w A2 l2.length l2) (hc2 : l2.length ≤ c2) (hro : Kd.C (Kd.int .i64) w A o.length o) (hoc : o.length ≤ c)
  (hb1 : w.heap[g1]? = some (.cells #[.int .u8 a0, .int .u8 a1, .int .u8 a2, .int .u8 a3, .int .u8 a4, .int .u8 a5] 35 (0, 0)))
  (hb2 : w.heap[g2]? = some (.cells #[.int .i64 hold] 2 (0, 0))) (hb3 : w.heap[g3]? = some (.cells #[.slice A2 l2.length c2] 25 (0, 0))) :
  Calls Try.prog 103 #[.slice A o.length c, .int .i64 n, .pointer (some ⟨g1, 0, none⟩), .pointer (some ⟨g2, 0, none⟩), .pointer (some ⟨g3, 0, none⟩)] w fun e w' => e = .returned (.bool (joinB [a0, a1, a2, a3, a4, a5] hold l2 o n)) ∧ Below w.heap.size w w' := by
 have hw : impl_withNumber_impl_Garmentw.f l2 o n = some (withB l2 o n) := by unfold impl_withNumber_impl_Garmentw.f; rw [if_pos ⟨by omega, by omega⟩]
 have hh := join_wash (a0 := a0) (a1 := a1) (a2 := a2) (a3 := a3) (a4 := a4) (a5 := a5) (hold := hold) (n := n) hlen hol hcol
 have hwl := withB_length_j l2 o n
 obtain ⟨x, hx⟩ : ∃ x, joinB [a0, a1, a2, a3, a4, a5] hold l2 o n = x := ⟨_, rfl⟩
 rw [hx] at hh ⊢
 have hlti : (o.length : Int) < (l2.length : Int) := by omega
 obtain ⟨ad, e1, hx0, hx1, hx2, hx3⟩ := at_T37 hr2 (o.length : Int) (by omega) hlti
 cases e1
 obtain ⟨y, hy⟩ : ∃ y, rd_T37 l2 (o.length : Int) = y := ⟨_, rfl⟩
 obtain ⟨z, hz⟩ : ∃ z, withB l2 o n = z := ⟨_, rfl⟩
 rw [hy] at hh hx0 hx1 hx2 hx3
 rw [hz] at hh hw hwl
 simp only [Int.toNat_natCast] at hx0 hx1 hx2 hx3
 obtain ⟨zy, hzy⟩ : ∃ zy, z ++ [y] = zy := ⟨_, rfl⟩
 rw [hzy] at hh
 have HZY := Aside0.mk hzy
 have HOL := Aside0.mk (show z.length ≤ 1048576 by omega)
 have HW := Aside0.mk hw
 have HH := Aside0.mk hh
 have HR2 := Aside0.mk hr2
 have HRO := Aside0.mk hro
 have c10 : w.cell? ⟨g1, 0, none⟩ = some (.int .u8 a0) := (blk_cell hb1 0).trans rfl
 have c11 : w.cell? ⟨g1, 1, none⟩ = some (.int .u8 a1) := (blk_cell hb1 1).trans rfl
 have c12 : w.cell? ⟨g1, 2, none⟩ = some (.int .u8 a2) := (blk_cell hb1 2).trans rfl
 have c13 : w.cell? ⟨g1, 3, none⟩ = some (.int .u8 a3) := (blk_cell hb1 3).trans rfl
 have c14 : w.cell? ⟨g1, 4, none⟩ = some (.int .u8 a4) := (blk_cell hb1 4).trans rfl
 have c15 : w.cell? ⟨g1, 5, none⟩ = some (.int .u8 a5) := (blk_cell hb1 5).trans rfl
 have c2' : w.cell? ⟨g2, 0, none⟩ = some (.int .i64 hold) := (blk_cell hb2 0).trans rfl
 have c3' : w.cell? ⟨g3, 0, none⟩ = some (.slice (some ad) l2.length c2) := (blk_cell hb3 0).trans rfl
 clear hzy hx hy hz hh hw hwl hlen hr2 hro hcol hb1 hb2 hb3 hol
 go_enter Try.func103, Try.ntmps103
 go_wp2
 go_region_held3 (fun w' => w'.cell? ⟨g1, 0, none⟩ = some (.int .u8 a0) ∧ w'.cell? ⟨g1, 1, none⟩ = some (.int .u8 a1) ∧ w'.cell? ⟨g1, 2, none⟩ = some (.int .u8 a2) ∧ w'.cell? ⟨g1, 3, none⟩ = some (.int .u8 a3) ∧ w'.cell? ⟨g1, 4, none⟩ = some (.int .u8 a4) ∧ w'.cell? ⟨g1, 5, none⟩ = some (.int .u8 a5) ∧ w'.cell? ⟨g2, 0, none⟩ = some (.int .i64 hold) ∧ w'.cell? ⟨g3, 0, none⟩ = some (.slice (some ad) l2.length c2) ∧ w'.cell? (ad.add (o.length * 4)) = some (.int .u8 y.f0) ∧ w'.cell? ⟨(ad.add (o.length * 4)).block, (ad.add (o.length * 4)).off + 1, none⟩ = some (.int .i8 y.f1) ∧ w'.cell? ⟨(ad.add (o.length * 4)).block, (ad.add (o.length * 4)).off + 2, none⟩ = some (.int .i8 y.f2) ∧ w'.cell? ⟨(ad.add (o.length * 4)).block, (ad.add (o.length * 4)).off + 3, none⟩ = some (.int .i16 y.f3))
  (first | go_keep | exact ⟨pw_cell_below hb1 (by assumption), pw_cell_below hb1 (by assumption), pw_cell_below hb1 (by assumption), pw_cell_below hb1 (by assumption), pw_cell_below hb1 (by assumption), pw_cell_below hb1 (by assumption), pw_cell_below hb1 (by assumption), pw_cell_below hb1 (by assumption), pw_cell_below hb1 (by assumption), pw_cell_below hb1 (by assumption), pw_cell_below hb1 (by assumption), pw_cell_below hb1 (by assumption)⟩ | exact ⟨pw_cell_below hb1 (pw_cell_below (below_alloc (Below.refl _ _) _) (by assumption)), pw_cell_below hb1 (pw_cell_below (below_alloc (Below.refl _ _) _) (by assumption)), pw_cell_below hb1 (pw_cell_below (below_alloc (Below.refl _ _) _) (by assumption)), pw_cell_below hb1 (pw_cell_below (below_alloc (Below.refl _ _) _) (by assumption)), pw_cell_below hb1 (pw_cell_below (below_alloc (Below.refl _ _) _) (by assumption)), pw_cell_below hb1 (pw_cell_below (below_alloc (Below.refl _ _) _) (by assumption)), pw_cell_below hb1 (pw_cell_below (below_alloc (Below.refl _ _) _) (by assumption)), pw_cell_below hb1 (pw_cell_below (below_alloc (Below.refl _ _) _) (by assumption)), pw_cell_below hb1 (pw_cell_below (below_alloc (Below.refl _ _) _) (by assumption)), pw_cell_below hb1 (pw_cell_below (below_alloc (Below.refl _ _) _) (by assumption)), pw_cell_below hb1 (pw_cell_below (below_alloc (Below.refl _ _) _) (by assumption)), pw_cell_below hb1 (pw_cell_below (below_alloc (Below.refl _ _) _) (by assumption))⟩ | exact ⟨pw_cell_below (below_alloc (Below.refl _ _) _) (by assumption), pw_cell_below (below_alloc (Below.refl _ _) _) (by assumption), pw_cell_below (below_alloc (Below.refl _ _) _) (by assumption), pw_cell_below (below_alloc (Below.refl _ _) _) (by assumption), pw_cell_below (below_alloc (Below.refl _ _) _) (by assumption), pw_cell_below (below_alloc (Below.refl _ _) _) (by assumption), pw_cell_below (below_alloc (Below.refl _ _) _) (by assumption), pw_cell_below (below_alloc (Below.refl _ _) _) (by assumption), pw_cell_below (below_alloc (Below.refl _ _) _) (by assumption), pw_cell_below (below_alloc (Below.refl _ _) _) (by assumption), pw_cell_below (below_alloc (Below.refl _ _) _) (by assumption), pw_cell_below (below_alloc (Below.refl _ _) _) (by assumption)⟩ | exact ⟨pw_cell_below (below_alloc (Below.refl _ _) _) (pw_cell_below hb1 (by assumption)), pw_cell_below (below_alloc (Below.refl _ _) _) (pw_cell_below hb1 (by assumption)), pw_cell_below (below_alloc (Below.refl _ _) _) (pw_cell_below hb1 (by assumption)), pw_cell_below (below_alloc (Below.refl _ _) _) (pw_cell_below hb1 (by assumption)), pw_cell_below (below_alloc (Below.refl _ _) _) (pw_cell_below hb1 (by assumption)), pw_cell_below (below_alloc (Below.refl _ _) _) (pw_cell_below hb1 (by assumption)), pw_cell_below (below_alloc (Below.refl _ _) _) (pw_cell_below hb1 (by assumption)), pw_cell_below (below_alloc (Below.refl _ _) _) (pw_cell_below hb1 (by assumption)), pw_cell_below (below_alloc (Below.refl _ _) _) (pw_cell_below hb1 (by assumption)), pw_cell_below (below_alloc (Below.refl _ _) _) (pw_cell_below hb1 (by assumption)), pw_cell_below (below_alloc (Below.refl _ _) _) (pw_cell_below hb1 (by assumption)), pw_cell_below (below_alloc (Below.refl _ _) _) (pw_cell_below hb1 (by assumption))⟩ | exact ⟨pw_cell_below hb2 (by assumption), pw_cell_below hb2 (by assumption), pw_cell_below hb2 (by assumption), pw_cell_below hb2 (by assumption), pw_cell_below hb2 (by assumption), pw_cell_below hb2 (by assumption), pw_cell_below hb2 (by assumption), pw_cell_below hb2 (by assumption), pw_cell_below hb2 (by assumption), pw_cell_below hb2 (by assumption), pw_cell_below hb2 (by assumption), pw_cell_below hb2 (by assumption)⟩ | exact ⟨pw_cell_below hb3 (pw_cell_below hb2 (by assumption)), pw_cell_below hb3 (pw_cell_below hb2 (by assumption)), pw_cell_below hb3 (pw_cell_below hb2 (by assumption)), pw_cell_below hb3 (pw_cell_below hb2 (by assumption)), pw_cell_below hb3 (pw_cell_below hb2 (by assumption)), pw_cell_below hb3 (pw_cell_below hb2 (by assumption)), pw_cell_below hb3 (pw_cell_below hb2 (by assumption)), pw_cell_below hb3 (pw_cell_below hb2 (by assumption)), pw_cell_below hb3 (pw_cell_below hb2 (by assumption)), pw_cell_below hb3 (pw_cell_below hb2 (by assumption)), pw_cell_below hb3 (pw_cell_below hb2 (by assumption)), pw_cell_below hb3 (pw_cell_below hb2 (by assumption))⟩)
  (first
   | (go_at_call 101; refine (impl_withNumber_impl_Garmentw.calls (some ad) c2 l2 A c o n z _ (Kd.C_below HR2.out (by repeat (first | exact Below.refl _ _ | apply pw_below_drewN | apply below_drew | apply below_alloc))) hc2 (Kd.C_below HRO.out (by repeat (first | exact Below.refl _ _ | apply pw_below_drewN | apply below_drew | apply below_alloc))) hoc HW.out).mono ?_; rintro e w1 ⟨v1, rfl, ho1, hb1⟩)
   | (have HB_ : Below w.heap.size w (w1.alloc (.cells #[.int .u8 y.f0, .int .i8 y.f1, .int .i8 y.f2, .int .i16 y.f3] 37)) := (by repeat (first | exact Below.refl _ _ | apply pw_below_drewN | apply below_drew | apply below_alloc | refine below_step ?_ hb1)); have HO_ : Kd.R k37 37 (w1.alloc (.cells #[.int .u8 y.f0, .int .i8 y.f1, .int .i8 y.f2, .int .i16 y.f3] 37)) w.heap.size (fun _ => True) v1 z := (Kd.R_lower (Kd.R_below ho1 (below_alloc (Below.refl _ _) _)) (below_size (by repeat (first | exact Below.refl _ _ | apply below_alloc | apply pw_below_drewN | apply below_drew)))); have HR_ : Kd.C k37 (w1.alloc (.cells #[.int .u8 y.f0, .int .i8 y.f1, .int .i8 y.f2, .int .i16 y.f3] 37)) _ [y].length [y] := (by repeat (first | exact C_newG _ y | (with_reducible refine Kd.C_drewN ?_ _) | (with_reducible refine Kd.C_drew ?_))); refine Kd.R_append_rows_step k37 (w0 := w) w.heap.size ?hw (.tmp 13) (.tmp 19) 25 37 (.agg #[.int .u8 0, .int .i8 0, .int .i8 0, .int .i16 0]) 6 rfl Try.underlying25 info37 rfl (by decide) (by omega) v1 z [y] _ _ _ (fun _ => True) (fun _ => False) rfl rfl HO_ HR_ (fun _ _ h => h) (fun _ h => h.elim) (fun _ _ => trivial) HB_ HB_.size (by have := HOL.out; simp; omega) ?_; (case hw => first | rfl | kernel_rfl | decide); clear HO_ HR_ HB_; intro v2 w2 ho2 hb2 _ _; rw [HZY.out] at ho2; obtain ⟨B2, d2, rfl, hd2, hC2⟩ := Kd.R_reads ho2)
   | (have HB_ : Below w.heap.size w (w1) := (by repeat (first | exact Below.refl _ _ | apply pw_below_drewN | apply below_drew | apply below_alloc | refine below_step ?_ hb1)); have HO_ : Kd.R k37 37 (w1) w.heap.size (fun _ => True) v1 z := (Kd.R_lower ho1 (below_size (by repeat (first | exact Below.refl _ _ | apply below_alloc | apply pw_below_drewN | apply below_drew)))); have HR_ : Kd.C k37 (w1) _ [y].length [y] := (Kd.C_below (by repeat (first | exact C_newG _ y | (with_reducible refine Kd.C_drewN ?_ _) | (with_reducible refine Kd.C_drew ?_))) hb1); refine Kd.R_append_rows_step k37 (w0 := w) w.heap.size ?hw (.tmp 13) (.tmp 19) 25 37 (.agg #[.int .u8 0, .int .i8 0, .int .i8 0, .int .i16 0]) 6 rfl Try.underlying25 info37 rfl (by decide) (by omega) v1 z [y] _ _ _ (fun _ => True) (fun _ => False) rfl rfl HO_ HR_ (fun _ _ h => h) (fun _ h => h.elim) (fun _ _ => trivial) HB_ HB_.size (by have := HOL.out; simp; omega) ?_; (case hw => first | rfl | kernel_rfl | decide); clear HO_ HR_ HB_; intro v2 w2 ho2 hb2 _ _; rw [HZY.out] at ho2; obtain ⟨B2, d2, rfl, hd2, hC2⟩ := Kd.R_reads ho2)
   | (go_at_call 69; refine (impl_Rules_washable.calls a0 a1 a2 a3 a4 a5 hold B2 d2 zy x _ hC2 hd2 HH.out).mono ?_; rintro e w3 ⟨rfl, hb3⟩))
 all_goals
  go_wp2
  go_ret
  exact ⟨rfl, below_step hb2 hb3⟩
theorem impl_Rules_mayJoin.made (a0 a1 a2 a3 a4 a5 hold : Int) (A2 : Option Addr) (n2 c2 : Nat) (w : World) :
  Calls Try.prog 76 #[.agg #[.int .u8 a0, .int .u8 a1, .int .u8 a2, .int .u8 a3, .int .u8 a4, .int .u8 a5], .int .i64 hold, .slice A2 n2 c2] w fun e w' => e = .returned (.func (.func 103) #[] #[.pointer (some ⟨w.heap.size, 0, none⟩), .pointer (some ⟨w.heap.size + 1, 0, none⟩), .pointer (some ⟨w.heap.size + 1 + 1, 0, none⟩)]) ∧ Below w.heap.size w w' ∧
   w'.heap[w.heap.size]? = some (.cells #[.int .u8 a0, .int .u8 a1, .int .u8 a2, .int .u8 a3, .int .u8 a4, .int .u8 a5] 35 (0, 0)) ∧ w'.heap[w.heap.size + 1]? = some (.cells #[.int .i64 hold] 2 (0, 0)) ∧ w'.heap[w.heap.size + 1 + 1]? = some (.cells #[.slice A2 n2 c2] 25 (0, 0)) := by
 have n0 : ∀ (w : World) (o : Obj) (k : Nat), w.heap.size = k → (w.alloc o).heap.size = k + 1 := fun w o k h => by rw [← h]; simp
 have nw : ∀ (w : World) (o : Obj) (k : Nat), w.heap.size = k → (w.alloc o).heap[k]? = some o := fun w o k h => h ▸ blk_new w o
 have HH : Aside0 (∀ o1 o2 o3 : Obj, (((w.alloc o1).alloc o2).alloc o3).heap[w.heap.size]? = some o1 ∧ (((w.alloc o1).alloc o2).alloc o3).heap[w.heap.size + 1]? = some o2 ∧ (((w.alloc o1).alloc o2).alloc o3).heap[w.heap.size + 1 + 1]? = some o3) :=
  ⟨fun o1 o2 o3 => ⟨blk_alloc (blk_alloc (nw _ _ _ rfl) _) _, blk_alloc (nw _ _ _ (n0 _ _ _ rfl)) _, nw _ _ _ (n0 _ _ _ (n0 _ _ _ rfl))⟩⟩
 clear n0 nw
 go_enter Try.func76, Try.ntmps76
 go_wp2
 go_ret
 exact ⟨rfl, below_alloc (below_alloc (below_alloc (Below.refl _ _) _) _) _, HH.out _ _ _⟩

/-! ### slices_Clone_int64: function 111 (told by hand) -/
def slices_Clone_int64.f (l0 : List Int) : Option (List Int) := if l0.length ≤ 1048576 then some l0 else none
set_option maxHeartbeats 2000000 in
theorem slices_Clone_int64.calls (A0 : Option Addr) (c0 : Nat) (l0 : List Int) (r : List Int) (w : World) (hr0 : Kd.C (Kd.int .i64) w A0 l0.length l0) (hc0 : l0.length ≤ c0) (h : slices_Clone_int64.f l0 = some r) :
  Calls Try.prog 111 #[.slice A0 l0.length c0] w fun e w' => ∃ v0_ : Value, e = .returned v0_ ∧ Kd.R (Kd.int .i64) 2 w' w.heap.size (fun _ => True) v0_ r ∧ Below w.heap.size w w' := by
 unfold slices_Clone_int64.f at h
 by_cases hb : l0.length ≤ 1048576
 case neg => rw [if_neg hb] at h; cases h
 rw [if_pos hb] at h
 obtain rfl := Option.some.inj h
 clear h
 have HR0 := Aside0.mk hr0
 have HL := Aside0.mk hb
 clear hr0 hb
 rcases A0 with _ | ad
 ·have hnil : l0 = [] := by
   rcases l0 with _ | ⟨x, xs⟩
   ·rfl
   ·obtain ⟨ad, he, _⟩ := HR0.out.2.2 (by simp)
    cases he
  subst hnil
  have he := fun (W : World) => Lib.run_eql_slice_nil (P := Try.prog) W 51 2 none 0 c0 0 0 Try.underlying51
  simp only [List.length_nil]
  go_enter Try.func111, Try.ntmps111
  go_wp2
  go_ret
  exact ⟨_, rfl, Kd.R_nil _ _ _ _ _, Below.refl _ _⟩
 ·have he := fun (W : World) => Lib.run_eql_slice_nil (P := Try.prog) W 51 2 (some ad) l0.length c0 0 0 Try.underlying51
  go_enter Try.func111, Try.ntmps111
  go_wp2_with (first | ((with_reducible refine gate_dst (N := 5) rfl ?_); refine Kd.R_lit (Kd.int .i64) _ 2 ?hg (N := 5) ?hd (xs := ([] : List Int)) (inner := []) (ok := fun _ => True) (okp := fun _ => True) ?hr ?hp (fun _ hk => hk) trivial (Below.refl _ _) (Nat.le_refl _) (by simp) ?_; (case hd => rfl); (case hg => rfl); (case hr => first | (go_simp; done) | (go_simp; rfl)); (case hp => exact (Reps.none _ _)); intro v1 w1 ho1 hb1 hg_ hnew_; clear hg_ hnew_; have HO1 := Aside0.mk ho1; have HB1 := Aside0.mk hb1; clear ho1 hb1) | ((with_reducible refine gate_builtin (b := .append) (xs := #[.tmp 5, .tmp 6]) rfl ?_); at_builtin; refine Kd.R_append_rows (Kd.int .i64) (w0 := w) w.heap.size rfl (.tmp 5) (.tmp 6) 51 2 (.int .i64 0) 8 rfl Try.underlying51 info2 rfl (by decide) (by omega) v1 [] l0 _ _ _ (fun _ => True) (fun _ => False) rfl rfl HO1.out (Kd.C_below HR0.out HB1.out) (fun _ _ h => h) (fun _ h => h.elim) (fun _ _ => trivial) HB1.out HB1.out.size (by have := HL.out; simp; omega) ?_; intro v2 w2 ho2 hb2 hg2 hat2; have HO2 := Aside0.mk ho2; have HB2 := Aside0.mk hb2; clear ho2 hb2 hg2 hat2))
  go_ret
  exact ⟨_, rfl, by simpa using HO2.out, HB2.out⟩

/-! ### impl_grouped: function 105 (told by hand) -/
def dfsG {σ : Type} (up : List Int → Nat → σ → σ) (p : List Int → Int → Bool) : Nat → List Int → Nat → σ → σ
 | 0, o, m, s => up o m s
 | d + 1, o, m, s => (List.range (m + 1)).foldl (fun (s : σ) (k : Nat) => if p o (k : Int) = true then dfsG up p d (o ++ [(k : Int)]) (max m (k + 1)) s else s) s
def stepG {σ : Type} (up : List Int → Nat → σ → σ) (p : List Int → Int → Bool) (d : Nat) (o : List Int) (m : Nat) (s : σ) (k : Nat) : σ := if p o (k : Int) = true then dfsG up p d (o ++ [(k : Int)]) (max m (k + 1)) s else s
theorem dfsG_succ {σ : Type} (up : List Int → Nat → σ → σ) (p : List Int → Int → Bool) (d : Nat) (o : List Int) (m : Nat) (s : σ) : dfsG up p (d + 1) o m s = (List.range (m + 1)).foldl (stepG up p d o m) s := rfl
theorem kept_blk {w W : World} {S : Nat → Prop} {k : Nat} {o : Obj} (h : Kept w W S) (hb : w.heap[k]? = some o) (hn : ¬ S k) : W.heap[k]? = some o := (h.2 k (blk_lt hb) hn).trans hb
theorem C_new1 (w : World) (x : Int) : Kd.C (Kd.int .i64) (w.alloc (.cells #[.int .i64 x] 2)) (some ⟨w.heap.size, 0, none⟩) [x].length [x] := by
 refine Own.C_single [.int .i64 x] rfl (fun i u hu => ?_)
 rcases i with _ | i
 ·simp at hu
  subst hu
  simp [go_sem]
 ·simp at hu
set_option maxHeartbeats 4000000 in
set_option maxRecDepth 100000 in
theorem choose_calls {σ : Type} (W1 : World) (lo n gn ge gm gc : Nat) (Sx : Nat → Prop) (fm fe : Nat) (lbm lbe : Array Value) (up : List Int → Nat → σ → σ) (p : List Int → Int → Bool) (I : World → σ → Prop) (hn : n ≤ 1000) (hlo : lo ≤ W1.heap.size) (hsx : ∀ k, Sx k → k < W1.heap.size)
  (bn : W1.heap[gn]? = some (.cells #[.int .i64 (n : Int)] 3 (0, 0))) (be : W1.heap[ge]? = some (.cells #[.func (.func fe) #[] lbe] 91 (0, 0))) (bm : W1.heap[gm]? = some (.cells #[.func (.func fm) #[] lbm] 91 (0, 0)))
  (bc : W1.heap[gc]? = some (.cells #[.func (.func 110) #[] #[.pointer (some ⟨gn, 0, none⟩), .pointer (some ⟨ge, 0, none⟩), .pointer (some ⟨gm, 0, none⟩), .pointer (some ⟨gc, 0, none⟩)]] 91 (0, 0)))
  (nn : ¬ Sx gn) (ne : ¬ Sx ge) (nm : ¬ Sx gm) (nc : ¬ Sx gc)
  (em : ∀ args w, (callFunc fm args).run Try.prog w = .ok (.enter fm args) w) (ee : ∀ args w, (callFunc fe args).run Try.prog w = .ok (.enter fe args) w)
  (hIk : ∀ W s, I W s → Kept W1 W Sx) (hIb : ∀ W W' s, I W s → Below W.heap.size W W' → I W' s)
  (hMay : ∀ (W : World) (s : σ) (A : Option Addr) (c : Nat) (o : List Int) (k : Int), I W s → Kd.C (Kd.int .i64) W A o.length o → o.length ≤ c → o.length < n →
   Calls Try.prog fm (#[.slice A o.length c, .int .i64 k] ++ lbm) W fun e w' => e = .returned (.bool (p o k)) ∧ Below W.heap.size W w')
  (hEach : ∀ (W : World) (s : σ) (A : Option Addr) (c : Nat) (o : List Int) (m : Nat), I W s → Kd.R (Kd.int .i64) 2 W lo (fun k => ¬ Sx k) (.slice A o.length c) o → o.length ≤ c → o.length = n → m ≤ n →
   Calls Try.prog fe (#[.slice A o.length c, .int .i64 (m : Int)] ++ lbe) W fun e w' => e = .returned (.bool true) ∧ Kept W w' Sx ∧ I w' (up o m s)) :
  ∀ (d : Nat) (W : World) (v : Value) (o : List Int) (m : Nat) (s : σ), o.length + d = n → m ≤ o.length → Kd.R (Kd.int .i64) 2 W lo (fun k => ¬ Sx k) v o → I W s →
   Calls Try.prog 110 #[v, .int .i64 (m : Int), .pointer (some ⟨gn, 0, none⟩), .pointer (some ⟨ge, 0, none⟩), .pointer (some ⟨gm, 0, none⟩), .pointer (some ⟨gc, 0, none⟩)] W fun e w' =>
    e = .returned (.bool true) ∧ Kept W w' Sx ∧ I w' (dfsG up p d o m s) := by
 intro d
 induction d with
 | zero =>
  intro W v o m s hd hm hR hI
  have hK := hIk W s hI
  have q1 : W.cell? ⟨gn, 0, none⟩ = some (.int .i64 (n : Int)) := (blk_cell (kept_blk hK bn nn) 0).trans rfl
  have q2 : W.cell? ⟨ge, 0, none⟩ = some (.func (.func fe) #[] lbe) := (blk_cell (kept_blk hK be ne) 0).trans rfl
  obtain ⟨A, c, rfl, hoc, hC⟩ := Kd.R_reads hR
  have e1 : ((o.length : Int) == (n : Int)) = true := by simp; omega
  have e2 : (o.length == n) = true := by simp; omega
  have HSC := Aside0.mk (hEach W s A c o m hI hR hoc (by omega) (by omega))
  clear hEach hMay hIk hIb hI hR hC hK bn be bm bc hd hm hn hlo hsx
  go_enter Try.func110, Try.ntmps110
  go_wp2_with (go_at_fn fe; refine HSC.out.mono ?_; rintro e w1 ⟨rfl, hk1, hi1⟩)
  go_ret
  exact ⟨rfl, hk1, hi1⟩
 | succ d ih =>
  intro W v o m s hd hm hR hI
  have hK := hIk W s hI
  have q1 : W.cell? ⟨gn, 0, none⟩ = some (.int .i64 (n : Int)) := (blk_cell (kept_blk hK bn nn) 0).trans rfl
  obtain ⟨A, c, rfl, hoc, _⟩ := Kd.R_reads hR
  have e1 : ((o.length : Int) == (n : Int)) = false := by simp; omega
  have e2 : (o.length == n) = false := by simp; omega
  have hm1 : (m : Int) ≤ 1000 := by omega
  have HI0 := Aside0.mk hI
  have HR := Aside0.mk hR
  have IH := Aside0.mk ih
  have HMAY := Aside0.mk hMay
  have HIk := Aside0.mk hIk
  have HIb := Aside0.mk hIb
  have HSX := Aside0.mk hsx
  have HLO' := Aside0.mk hlo
  have HD := Aside0.mk hd
  have HN := Aside0.mk hn
  have BM := Aside0.mk bm
  have BC := Aside0.mk bc
  have HOL := Aside0.mk (show o.length ≤ 1000 by omega)
  have HOLT := Aside0.mk (show o.length < n by omega)
  have HCL := Aside0.mk (show slices_Clone_int64.f o = some o from if_pos (by omega))
  have HMM := Aside0.mk hm
  clear hEach hMay hIk hIb hI hR hK ih bn be bm bc hsx hlo hd hn hm
  go_enter Try.func110, Try.ntmps110
  go_wp2
  go_loopg [9, 20] (m + 1) (fun gg _ v20 w' => ∃ kk : Nat, kk ≤ m + 1 ∧ m + 1 - kk ≤ gg ∧ v20 = .int .i64 (kk : Int) ∧ Aside0 (Kept W w' Sx) ∧ Aside0 (I w' ((List.range kk).foldl (stepG up p d o m) s)))
  case atStart => exact ⟨0, Nat.zero_le _, by omega, rfl, ⟨Kept.refl _ _⟩, HI0⟩
  case round =>
   obtain ⟨kk, hkk, hg, rfl, KP, HI⟩ := hrel
   by_cases hlt : kk < m + 1
   ·have hlti : (kk : Int) < (m : Int) + 1 := by omega
    have hRr := Kd.R_kept HR.out KP.out (fun k hk hS => hk hS)
    obtain ⟨A2, c2, ee_, _, hCr⟩ := Kd.R_reads hRr
    cases ee_
    have hK := HIk.out _ _ HI.out
    have q3 : wr.cell? ⟨gm, 0, none⟩ = some (.func (.func fm) #[] lbm) := (blk_cell (kept_blk hK BM.out nm) 0).trans rfl
    have q4 : wr.cell? ⟨gc, 0, none⟩ = some (.func (.func 110) #[] #[.pointer (some ⟨gn, 0, none⟩), .pointer (some ⟨ge, 0, none⟩), .pointer (some ⟨gm, 0, none⟩), .pointer (some ⟨gc, 0, none⟩)]) := (blk_cell (kept_blk hK BC.out nc) 0).trans rfl
    have HLO := Aside0.mk (show lo ≤ wr.heap.size from Nat.le_trans HLO'.out hK.1)
    have HSXr := Aside0.mk (show ∀ k, Sx k → k < wr.heap.size from fun k hk => Nat.lt_of_lt_of_le (HSX.out k hk) hK.1)
    have HF0 : (List.range (kk + 1)).foldl (stepG up p d o m) s = stepG up p d o m ((List.range kk).foldl (stepG up p d o m) s) kk := by rw [List.range_succ, List.foldl_append]; rfl
    have hmay := HMAY.out wr.drew _ A c o (kk : Int) (HIb.out _ _ _ HI.out (below_drew (Below.refl _ _))) (Kd.C_below hCr (below_drew (Below.refl _ _))) hoc HOLT.out
    have HCr := Aside0.mk hCr
    clear hRr hCr hK
    cases hp : p o (kk : Int) with
    | false =>
     rw [hp] at hmay
     have HF := Aside0.mk (HF0.trans (if_neg (by rw [hp]; decide)))
     have HMAYF := hmay
     clear HF0 hmay hp
     go_wp2
     refine wp_region_held_drew (S := (fun w' => w'.cell? ⟨gm, 0, none⟩ = some (.func (.func fm) #[] lbm) ∧ w'.cell? ⟨gc, 0, none⟩ = some (.func (.func 110) #[] #[.pointer (some ⟨gn, 0, none⟩), .pointer (some ⟨ge, 0, none⟩), .pointer (some ⟨gm, 0, none⟩), .pointer (some ⟨gc, 0, none⟩)]))) (by kernel_rfl) ⟨q3, q4⟩ (fun hHeld => ?_)
     refine wpAnyH_take (i := 0) (oi := { dst := some 23, op := Op.load 91 (Operand.tmp 4), type := 91, pos := "l01_loads.go:257", after := #[], guard := none }) (v := .func (.func fm) #[] lbm) rfl (by kernel_rfl) (by kernel_rfl) (by kernel_rfl) (fun _ _ _ h => h) (Or.inl ⟨by rfl, (by intro w hSw; (try dsimp only at hSw); obtain ⟨hS1, hS2⟩ := hSw; go_simp)⟩) (by assumption) ?_; (try simp only [Act.put, List.setIfInBounds_toArray, List.set_cons_zero, List.set_cons_succ])
     refine wpAnyH_take (i := 1) (oi := { dst := some 24, op := Op.move (Operand.tmp 0), type := 51, pos := "l01_loads.go:257", after := #[], guard := none }) (v := .slice A o.length c) rfl (by kernel_rfl) (by kernel_rfl) (by kernel_rfl) (fun _ _ _ h => h) (Or.inl ⟨by rfl, (by intro w hSw; (try dsimp only at hSw); obtain ⟨hS1, hS2⟩ := hSw; go_simp)⟩) (by assumption) ?_; (try simp only [Act.put, List.setIfInBounds_toArray, List.set_cons_zero, List.set_cons_succ])
     refine wpAnyH_take (i := 2) (oi := { dst := some 25, op := Op.move (Operand.tmp 9), type := 2, pos := "l01_loads.go:257", after := #[], guard := none }) (v := .int .i64 (kk : Int)) rfl (by kernel_rfl) (by kernel_rfl) (by kernel_rfl) (fun _ _ _ h => h) (Or.inl ⟨by rfl, (by intro w hSw; (try dsimp only at hSw); obtain ⟨hS1, hS2⟩ := hSw; go_simp)⟩) (by assumption) ?_; (try simp only [Act.put, List.setIfInBounds_toArray, List.set_cons_zero, List.set_cons_succ])
     refine wpAnyH_ready (rs := [3]) (by kernel_rfl) (by simp) ?_
     refine AllReadyH.cons (o := { dst := some 26, op := Op.call { callee := Callee.value (Operand.tmp 23), args := #[Operand.tmp 24, Operand.tmp 25], argTypes := #[51, 2] }, type := 4, pos := "l01_loads.go:257", after := #[{ on := 0, ground := Ground.data }, { on := 1, ground := Ground.data }, { on := 2, ground := Ground.data }], guard := none }) rfl (fun K hK => ?_) AllReadyH.nil
     go_simp
     go_at_fn fm
     refine HMAYF.mono ?_
     rintro e w1 ⟨rfl, hb1⟩
     go_simp
     refine hK.out _ _ ⟨pw_cell_below hb1 q3, pw_cell_below hb1 q4⟩ (fun hHeld => ?_)
     clear hK K
     (try simp only [Act.put, List.setIfInBounds_toArray, List.set_cons_zero, List.set_cons_succ])
     refine wpAnyH_take (i := 4) (oi := { dst := some 27, op := Op.move (Operand.tmp 26), type := 4, pos := "l01_loads.go:257", after := #[{ on := 3, ground := Ground.data }, { on := 3, ground := Ground.chain }], guard := none }) (v := .bool false) rfl (by kernel_rfl) (by kernel_rfl) (by kernel_rfl) (fun _ _ _ h => h) (Or.inl ⟨by rfl, (by intro w hSw; (try dsimp only at hSw); obtain ⟨hS1, hS2⟩ := hSw; go_simp)⟩) (by assumption) ?_; (try simp only [Act.put, List.setIfInBounds_toArray, List.set_cons_zero, List.set_cons_succ])
     refine wpAnyH_take (i := 5) (oi := { dst := some 28, op := Op.load 91 (Operand.tmp 5), type := 91, pos := "l01_loads.go:257", after := #[{ on := 4, ground := Ground.guard }], guard := some (4, true) }) (v := undef) rfl (by kernel_rfl) (by kernel_rfl) (by kernel_rfl) (fun _ _ _ h => h) (Or.inr ⟨by rfl, rfl⟩) (by assumption) ?_; (try simp only [Act.put, List.setIfInBounds_toArray, List.set_cons_zero, List.set_cons_succ])
     refine wpAnyH_take (i := 6) (oi := { dst := some 29, op := Op.move (Operand.tmp 0), type := 51, pos := "l01_loads.go:257", after := #[{ on := 4, ground := Ground.guard }], guard := some (4, true) }) (v := undef) rfl (by kernel_rfl) (by kernel_rfl) (by kernel_rfl) (fun _ _ _ h => h) (Or.inr ⟨by rfl, rfl⟩) (by assumption) ?_; (try simp only [Act.put, List.setIfInBounds_toArray, List.set_cons_zero, List.set_cons_succ])
     refine wpAnyH_take (i := 7) (oi := { dst := some 30, op := Op.call { callee := Callee.value (Operand.func 111), args := #[Operand.tmp 29], argTypes := #[51] }, type := 51, pos := "l01_loads.go:257", after := #[{ on := 6, ground := Ground.data }, { on := 4, ground := Ground.chain }, { on := 4, ground := Ground.guard }], guard := some (4, true) }) (v := undef) rfl (by kernel_rfl) (by kernel_rfl) (by kernel_rfl) (fun _ _ _ h => h) (Or.inr ⟨by rfl, rfl⟩) (by assumption) ?_; (try simp only [Act.put, List.setIfInBounds_toArray, List.set_cons_zero, List.set_cons_succ])
     refine wpAnyH_take (i := 8) (oi := { dst := some 31, op := Op.move (Operand.tmp 9), type := 2, pos := "l01_loads.go:257", after := #[{ on := 4, ground := Ground.guard }], guard := some (4, true) }) (v := undef) rfl (by kernel_rfl) (by kernel_rfl) (by kernel_rfl) (fun _ _ _ h => h) (Or.inr ⟨by rfl, rfl⟩) (by assumption) ?_; (try simp only [Act.put, List.setIfInBounds_toArray, List.set_cons_zero, List.set_cons_succ])
     refine wpAnyH_take (i := 9) (oi := { dst := some 32, op := Op.buildSlice 51 1 #[(0, Operand.tmp 31)], type := 51, pos := "l01_loads.go:257", after := #[{ on := 8, ground := Ground.data }, { on := 4, ground := Ground.guard }], guard := some (4, true) }) (v := undef) rfl (by kernel_rfl) (by kernel_rfl) (by kernel_rfl) (fun _ _ _ h => h) (Or.inr ⟨by rfl, rfl⟩) (by assumption) ?_; (try simp only [Act.put, List.setIfInBounds_toArray, List.set_cons_zero, List.set_cons_succ])
     refine wpAnyH_take (i := 10) (oi := { dst := some 33, op := Op.call { callee := Callee.builtin Builtin.append, args := #[Operand.tmp 30, Operand.tmp 32], argTypes := #[51, 51] }, type := 51, pos := "l01_loads.go:257", after := #[{ on := 7, ground := Ground.data }, { on := 9, ground := Ground.data }, { on := 7, ground := Ground.chain }, { on := 4, ground := Ground.guard }], guard := some (4, true) }) (v := undef) rfl (by kernel_rfl) (by kernel_rfl) (by kernel_rfl) (fun _ _ _ h => h) (Or.inr ⟨by rfl, rfl⟩) (by assumption) ?_; (try simp only [Act.put, List.setIfInBounds_toArray, List.set_cons_zero, List.set_cons_succ])
     refine wpAnyH_take (i := 11) (oi := { dst := some 34, op := Op.move (Operand.tmp 1), type := 2, pos := "l01_loads.go:257", after := #[{ on := 4, ground := Ground.guard }], guard := some (4, true) }) (v := undef) rfl (by kernel_rfl) (by kernel_rfl) (by kernel_rfl) (fun _ _ _ h => h) (Or.inr ⟨by rfl, rfl⟩) (by assumption) ?_; (try simp only [Act.put, List.setIfInBounds_toArray, List.set_cons_zero, List.set_cons_succ])
     refine wpAnyH_take (i := 12) (oi := { dst := some 35, op := Op.move (Operand.tmp 9), type := 2, pos := "l01_loads.go:257", after := #[{ on := 4, ground := Ground.guard }], guard := some (4, true) }) (v := undef) rfl (by kernel_rfl) (by kernel_rfl) (by kernel_rfl) (fun _ _ _ h => h) (Or.inr ⟨by rfl, rfl⟩) (by assumption) ?_; (try simp only [Act.put, List.setIfInBounds_toArray, List.set_cons_zero, List.set_cons_succ])
     refine wpAnyH_take (i := 13) (oi := { dst := some 36, op := Op.binOp BinOp.add 2 (Operand.tmp 35) (Operand.const (Value.int IntKind.i64 1)) 2, type := 2, pos := "l01_loads.go:257", after := #[{ on := 12, ground := Ground.data }, { on := 4, ground := Ground.guard }], guard := some (4, true) }) (v := undef) rfl (by kernel_rfl) (by kernel_rfl) (by kernel_rfl) (fun _ _ _ h => h) (Or.inr ⟨by rfl, rfl⟩) (by assumption) ?_; (try simp only [Act.put, List.setIfInBounds_toArray, List.set_cons_zero, List.set_cons_succ])
     refine wpAnyH_take (i := 14) (oi := { dst := some 37, op := Op.call { callee := Callee.builtin Builtin.max, args := #[Operand.tmp 34, Operand.tmp 36], argTypes := #[2, 2] }, type := 2, pos := "l01_loads.go:257", after := #[{ on := 11, ground := Ground.data }, { on := 13, ground := Ground.data }, { on := 4, ground := Ground.guard }], guard := some (4, true) }) (v := undef) rfl (by kernel_rfl) (by kernel_rfl) (by kernel_rfl) (fun _ _ _ h => h) (Or.inr ⟨by rfl, rfl⟩) (by assumption) ?_; (try simp only [Act.put, List.setIfInBounds_toArray, List.set_cons_zero, List.set_cons_succ])
     refine wpAnyH_take (i := 15) (oi := { dst := some 38, op := Op.call { callee := Callee.value (Operand.tmp 28), args := #[Operand.tmp 33, Operand.tmp 37], argTypes := #[51, 2] }, type := 4, pos := "l01_loads.go:257", after := #[{ on := 5, ground := Ground.data }, { on := 10, ground := Ground.data }, { on := 14, ground := Ground.data }, { on := 10, ground := Ground.chain }, { on := 4, ground := Ground.guard }], guard := some (4, true) }) (v := undef) rfl (by kernel_rfl) (by kernel_rfl) (by kernel_rfl) (fun _ _ _ h => h) (Or.inr ⟨by rfl, rfl⟩) (by assumption) ?_; (try simp only [Act.put, List.setIfInBounds_toArray, List.set_cons_zero, List.set_cons_succ])
     refine wpAnyH_take (i := 16) (oi := { dst := some 39, op := Op.unOp UnOp.not 4 (Operand.tmp 38), type := 4, pos := "l01_loads.go:257", after := #[{ on := 15, ground := Ground.data }, { on := 4, ground := Ground.guard }], guard := some (4, true) }) (v := undef) rfl (by kernel_rfl) (by kernel_rfl) (by kernel_rfl) (fun _ _ _ h => h) (Or.inr ⟨by rfl, rfl⟩) (by assumption) ?_; (try simp only [Act.put, List.setIfInBounds_toArray, List.set_cons_zero, List.set_cons_succ])
     refine wpAnyH_take (i := 17) (oi := { dst := some 40, op := Op.pick (Operand.tmp 27) (Operand.tmp 39) (Operand.const (Value.bool false)), type := 4, pos := "l01_loads.go:257", after := #[{ on := 4, ground := Ground.data }, { on := 16, ground := Ground.data }], guard := none }) (v := .bool false) rfl (by kernel_rfl) (by kernel_rfl) (by kernel_rfl) (fun _ _ _ h => h) (Or.inl ⟨by rfl, (by intro w hSw; (try dsimp only at hSw); obtain ⟨hS1, hS2⟩ := hSw; go_simp)⟩) (by assumption) ?_; (try simp only [Act.put, List.setIfInBounds_toArray, List.set_cons_zero, List.set_cons_succ])
     refine wpAnyH_done (by kernel_rfl) ?_ _
     go_wp2
     go_roundg (m + 1 - (kk + 1))
     case measure => omega
     case rel => exact ⟨kk + 1, by omega, by omega, by go_num, ⟨KP.out.below (below_step (below_drew (Below.refl _ _)) hb1)⟩, ⟨by rw [HF.out]; exact HIb.out _ _ _ HI.out (below_step (below_drew (Below.refl _ _)) hb1)⟩⟩
    | true =>
     rw [hp] at hmay
     have HF := Aside0.mk (HF0.trans (if_pos hp))
     have HMAYT := Aside0.mk hmay
     have HMX := Aside0.mk (show (if (m : Int) < IntKind.i64.wrap ((kk : Int) + 1) then IntKind.i64.wrap ((kk : Int) + 1) else (m : Int)) = ((max m (kk + 1) : Nat) : Int) from by rw [IntWalk.i64_in _ (by omega)]; split <;> omega)
     clear HF0 hmay hp
     go_wp2
     refine wp_region_held_drew (S := (fun w' => w'.cell? ⟨gm, 0, none⟩ = some (.func (.func fm) #[] lbm) ∧ w'.cell? ⟨gc, 0, none⟩ = some (.func (.func 110) #[] #[.pointer (some ⟨gn, 0, none⟩), .pointer (some ⟨ge, 0, none⟩), .pointer (some ⟨gm, 0, none⟩), .pointer (some ⟨gc, 0, none⟩)]))) (by kernel_rfl) ⟨q3, q4⟩ (fun hHeld => ?_)
     refine wpAnyH_take (i := 0) (oi := { dst := some 23, op := Op.load 91 (Operand.tmp 4), type := 91, pos := "l01_loads.go:257", after := #[], guard := none }) (v := .func (.func fm) #[] lbm) rfl (by kernel_rfl) (by kernel_rfl) (by kernel_rfl) (fun _ _ _ h => h) (Or.inl ⟨by rfl, (by intro w hSw; (try dsimp only at hSw); obtain ⟨hS1, hS2⟩ := hSw; go_simp)⟩) (by assumption) ?_; (try simp only [Act.put, List.setIfInBounds_toArray, List.set_cons_zero, List.set_cons_succ])
     refine wpAnyH_take (i := 1) (oi := { dst := some 24, op := Op.move (Operand.tmp 0), type := 51, pos := "l01_loads.go:257", after := #[], guard := none }) (v := .slice A o.length c) rfl (by kernel_rfl) (by kernel_rfl) (by kernel_rfl) (fun _ _ _ h => h) (Or.inl ⟨by rfl, (by intro w hSw; (try dsimp only at hSw); obtain ⟨hS1, hS2⟩ := hSw; go_simp)⟩) (by assumption) ?_; (try simp only [Act.put, List.setIfInBounds_toArray, List.set_cons_zero, List.set_cons_succ])
     refine wpAnyH_take (i := 2) (oi := { dst := some 25, op := Op.move (Operand.tmp 9), type := 2, pos := "l01_loads.go:257", after := #[], guard := none }) (v := .int .i64 (kk : Int)) rfl (by kernel_rfl) (by kernel_rfl) (by kernel_rfl) (fun _ _ _ h => h) (Or.inl ⟨by rfl, (by intro w hSw; (try dsimp only at hSw); obtain ⟨hS1, hS2⟩ := hSw; go_simp)⟩) (by assumption) ?_; (try simp only [Act.put, List.setIfInBounds_toArray, List.set_cons_zero, List.set_cons_succ])
     refine wpAnyH_ready (rs := [3]) (by kernel_rfl) (by simp) ?_
     refine AllReadyH.cons (o := { dst := some 26, op := Op.call { callee := Callee.value (Operand.tmp 23), args := #[Operand.tmp 24, Operand.tmp 25], argTypes := #[51, 2] }, type := 4, pos := "l01_loads.go:257", after := #[{ on := 0, ground := Ground.data }, { on := 1, ground := Ground.data }, { on := 2, ground := Ground.data }], guard := none }) rfl (fun K hK => ?_) AllReadyH.nil
     go_simp
     go_at_fn fm
     refine HMAYT.out.mono ?_
     rintro e w1 ⟨rfl, hb1⟩
     go_simp
     refine hK.out _ _ ⟨pw_cell_below hb1 q3, pw_cell_below hb1 q4⟩ (fun hHeld => ?_)
     clear hK K
     (try simp only [Act.put, List.setIfInBounds_toArray, List.set_cons_zero, List.set_cons_succ])
     refine wpAnyH_take (i := 4) (oi := { dst := some 27, op := Op.move (Operand.tmp 26), type := 4, pos := "l01_loads.go:257", after := #[{ on := 3, ground := Ground.data }, { on := 3, ground := Ground.chain }], guard := none }) (v := .bool true) rfl (by kernel_rfl) (by kernel_rfl) (by kernel_rfl) (fun _ _ _ h => h) (Or.inl ⟨by rfl, (by intro w hSw; (try dsimp only at hSw); obtain ⟨hS1, hS2⟩ := hSw; go_simp)⟩) (by assumption) ?_; (try simp only [Act.put, List.setIfInBounds_toArray, List.set_cons_zero, List.set_cons_succ])
     refine wpAnyH_take (i := 5) (oi := { dst := some 28, op := Op.load 91 (Operand.tmp 5), type := 91, pos := "l01_loads.go:257", after := #[{ on := 4, ground := Ground.guard }], guard := some (4, true) }) (v := .func (.func 110) #[] #[.pointer (some ⟨gn, 0, none⟩), .pointer (some ⟨ge, 0, none⟩), .pointer (some ⟨gm, 0, none⟩), .pointer (some ⟨gc, 0, none⟩)]) rfl (by kernel_rfl) (by kernel_rfl) (by kernel_rfl) (fun _ _ _ h => h) (Or.inl ⟨by rfl, (by intro w hSw; (try dsimp only at hSw); obtain ⟨hS1, hS2⟩ := hSw; go_simp)⟩) (by assumption) ?_; (try simp only [Act.put, List.setIfInBounds_toArray, List.set_cons_zero, List.set_cons_succ])
     refine wpAnyH_take (i := 6) (oi := { dst := some 29, op := Op.move (Operand.tmp 0), type := 51, pos := "l01_loads.go:257", after := #[{ on := 4, ground := Ground.guard }], guard := some (4, true) }) (v := .slice A o.length c) rfl (by kernel_rfl) (by kernel_rfl) (by kernel_rfl) (fun _ _ _ h => h) (Or.inl ⟨by rfl, (by intro w hSw; (try dsimp only at hSw); obtain ⟨hS1, hS2⟩ := hSw; go_simp)⟩) (by assumption) ?_; (try simp only [Act.put, List.setIfInBounds_toArray, List.set_cons_zero, List.set_cons_succ])
     refine wpAnyH_take (i := 8) (oi := { dst := some 31, op := Op.move (Operand.tmp 9), type := 2, pos := "l01_loads.go:257", after := #[{ on := 4, ground := Ground.guard }], guard := some (4, true) }) (v := .int .i64 (kk : Int)) rfl (by kernel_rfl) (by kernel_rfl) (by kernel_rfl) (fun _ _ _ h => h) (Or.inl ⟨by rfl, (by intro w hSw; (try dsimp only at hSw); obtain ⟨hS1, hS2⟩ := hSw; go_simp)⟩) (by assumption) ?_; (try simp only [Act.put, List.setIfInBounds_toArray, List.set_cons_zero, List.set_cons_succ])
     refine wpAnyH_take (i := 11) (oi := { dst := some 34, op := Op.move (Operand.tmp 1), type := 2, pos := "l01_loads.go:257", after := #[{ on := 4, ground := Ground.guard }], guard := some (4, true) }) (v := .int .i64 (m : Int)) rfl (by kernel_rfl) (by kernel_rfl) (by kernel_rfl) (fun _ _ _ h => h) (Or.inl ⟨by rfl, (by intro w hSw; (try dsimp only at hSw); obtain ⟨hS1, hS2⟩ := hSw; go_simp)⟩) (by assumption) ?_; (try simp only [Act.put, List.setIfInBounds_toArray, List.set_cons_zero, List.set_cons_succ])
     refine wpAnyH_take (i := 12) (oi := { dst := some 35, op := Op.move (Operand.tmp 9), type := 2, pos := "l01_loads.go:257", after := #[{ on := 4, ground := Ground.guard }], guard := some (4, true) }) (v := .int .i64 (kk : Int)) rfl (by kernel_rfl) (by kernel_rfl) (by kernel_rfl) (fun _ _ _ h => h) (Or.inl ⟨by rfl, (by intro w hSw; (try dsimp only at hSw); obtain ⟨hS1, hS2⟩ := hSw; go_simp)⟩) (by assumption) ?_; (try simp only [Act.put, List.setIfInBounds_toArray, List.set_cons_zero, List.set_cons_succ])
     refine wpAnyH_take (i := 13) (oi := { dst := some 36, op := Op.binOp BinOp.add 2 (Operand.tmp 35) (Operand.const (Value.int IntKind.i64 1)) 2, type := 2, pos := "l01_loads.go:257", after := #[{ on := 12, ground := Ground.data }, { on := 4, ground := Ground.guard }], guard := some (4, true) }) (v := .int .i64 (IntKind.i64.wrap ((kk : Int) + 1))) rfl (by kernel_rfl) (by kernel_rfl) (by kernel_rfl) (fun _ _ _ h => h) (Or.inl ⟨by rfl, (by intro w hSw; (try dsimp only at hSw); obtain ⟨hS1, hS2⟩ := hSw; go_simp)⟩) (by assumption) ?_; (try simp only [Act.put, List.setIfInBounds_toArray, List.set_cons_zero, List.set_cons_succ])
     refine wpAnyH_take (i := 14) (oi := { dst := some 37, op := Op.call { callee := Callee.builtin Builtin.max, args := #[Operand.tmp 34, Operand.tmp 36], argTypes := #[2, 2] }, type := 2, pos := "l01_loads.go:257", after := #[{ on := 11, ground := Ground.data }, { on := 13, ground := Ground.data }, { on := 4, ground := Ground.guard }], guard := some (4, true) }) (v := .int .i64 ((max m (kk + 1) : Nat) : Int)) rfl (by kernel_rfl) (by kernel_rfl) (by kernel_rfl) (fun _ _ _ h => h) (Or.inl ⟨by rfl, (by intro w hSw; (try dsimp only at hSw); obtain ⟨hS1, hS2⟩ := hSw; go_simp; first | rw [HMX.out] | rw [← HMX.out] | done)⟩) (by assumption) ?_; (try simp only [Act.put, List.setIfInBounds_toArray, List.set_cons_zero, List.set_cons_succ])
     refine wpAnyH_ready (rs := [7, 9]) (by kernel_rfl) (by simp) ?_
     refine AllReadyH.cons (o := { dst := some 30, op := Op.call { callee := Callee.value (Operand.func 111), args := #[Operand.tmp 29], argTypes := #[51] }, type := 51, pos := "l01_loads.go:257", after := #[{ on := 6, ground := Ground.data }, { on := 4, ground := Ground.chain }, { on := 4, ground := Ground.guard }], guard := some (4, true) }) rfl (fun K hK => ?_) (AllReadyH.cons (o := { dst := some 32, op := Op.buildSlice 51 1 #[(0, Operand.tmp 31)], type := 51, pos := "l01_loads.go:257", after := #[{ on := 8, ground := Ground.data }, { on := 4, ground := Ground.guard }], guard := some (4, true) }) rfl (fun K hK => ?_) AllReadyH.nil)
     ·go_simp
      go_at_call 111
      refine (slices_Clone_int64.calls A c o o _ (Kd.C_below HCr.out (by repeat (first | exact Below.refl _ _ | apply below_alloc | apply pw_below_drewN | apply below_drew | refine below_step ?_ hb1 | refine below_step ?_ hb2))) hoc HCL.out).mono ?_; rintro e w2 ⟨v2, rfl, ho2, hb2⟩
      go_simp
      refine hK.out _ _ ⟨pw_cell_below hb2 (pw_cell_below hb1 q3), pw_cell_below hb2 (pw_cell_below hb1 q4)⟩ (fun hHeld => ?_)
      clear hK K
      (try simp only [Act.put, List.setIfInBounds_toArray, List.set_cons_zero, List.set_cons_succ])
      refine wpAnyH_ready (rs := [9]) (by kernel_rfl) (by simp) ?_
      refine AllReadyH.cons (o := { dst := some 32, op := Op.buildSlice 51 1 #[(0, Operand.tmp 31)], type := 51, pos := "l01_loads.go:257", after := #[{ on := 8, ground := Ground.data }, { on := 4, ground := Ground.guard }], guard := some (4, true) }) rfl (fun K hK => ?_) AllReadyH.nil
      go_simp
      refine hK.out _ _ ⟨pw_cell_below (below_alloc (Below.refl _ _) _) (pw_cell_below hb2 (pw_cell_below hb1 q3)), pw_cell_below (below_alloc (Below.refl _ _) _) (pw_cell_below hb2 (pw_cell_below hb1 q4))⟩ (fun hHeld => ?_)
      clear hK K
      (try simp only [Act.put, List.setIfInBounds_toArray, List.set_cons_zero, List.set_cons_succ])
      refine wpAnyH_ready (rs := [10]) (by kernel_rfl) (by simp) ?_
      refine AllReadyH.cons (o := { dst := some 33, op := Op.call { callee := Callee.builtin Builtin.append, args := #[Operand.tmp 30, Operand.tmp 32], argTypes := #[51, 51] }, type := 51, pos := "l01_loads.go:257", after := #[{ on := 7, ground := Ground.data }, { on := 9, ground := Ground.data }, { on := 7, ground := Ground.chain }, { on := 4, ground := Ground.guard }], guard := some (4, true) }) rfl (fun K hK => ?_) AllReadyH.nil
      have HB_ : Below wr.heap.size wr (w2.alloc (.cells #[.int .i64 (kk : Int)] 2)) := (by repeat (first | exact Below.refl _ _ | apply below_alloc | apply pw_below_drewN | apply below_drew | refine below_step ?_ hb1 | refine below_step ?_ hb2)); have HO_ : Kd.R (Kd.int .i64) 2 (w2.alloc (.cells #[.int .i64 (kk : Int)] 2)) wr.heap.size (fun _ => True) v2 o := (Kd.R_lower (Kd.R_below ho2 (below_alloc (Below.refl _ _) _)) (below_size (by repeat (first | exact Below.refl _ _ | apply below_alloc | apply pw_below_drewN | apply below_drew | refine below_step ?_ hb1)))); have HR_ : Kd.C (Kd.int .i64) (w2.alloc (.cells #[.int .i64 (kk : Int)] 2)) _ [(kk : Int)].length [(kk : Int)] := C_new1 w2 kk; refine Kd.R_append_rows_step (Kd.int .i64) (w0 := wr) wr.heap.size ?hw (.tmp 30) (.tmp 32) 51 2 (.int .i64 0) 8 rfl Try.underlying51 info2 rfl (by decide) (by omega) v2 o [(kk : Int)] _ _ _ (fun _ => True) (fun _ => False) rfl rfl HO_ HR_ (fun _ _ h => h) (fun _ h => h.elim) (fun _ _ => trivial) HB_ HB_.size (by have := HOL.out; simp; omega) ?_; (case hw => first | rfl | kernel_rfl | decide); clear HO_ HR_ HB_; intro v3 w3 ho3 hb3 _ _
      refine hK.out _ _ ⟨pw_cell_below hb3 q3, pw_cell_below hb3 q4⟩ (fun hHeld => ?_)
      clear hK K
      (try simp only [Act.put, List.setIfInBounds_toArray, List.set_cons_zero, List.set_cons_succ])
      refine wpAnyH_ready (rs := [15]) (by kernel_rfl) (by simp) ?_
      refine AllReadyH.cons (o := { dst := some 38, op := Op.call { callee := Callee.value (Operand.tmp 28), args := #[Operand.tmp 33, Operand.tmp 37], argTypes := #[51, 2] }, type := 4, pos := "l01_loads.go:257", after := #[{ on := 5, ground := Ground.data }, { on := 10, ground := Ground.data }, { on := 14, ground := Ground.data }, { on := 10, ground := Ground.chain }, { on := 4, ground := Ground.guard }], guard := some (4, true) }) rfl (fun K hK => ?_) AllReadyH.nil
      go_simp
      go_at_call 110
      refine (IH.out w3 v3 (o ++ [(kk : Int)]) (max m (kk + 1)) _ (by have := HD.out; simp; omega) (by have := HMM.out; simp; omega) (Kd.R_lower (Kd.R_mono (Kd.R_bound ho3) (fun k hk hx => by have := hk.2.1; have := HSXr.out k hx; omega)) HLO.out) (HIb.out _ _ _ HI.out hb3)).mono ?_
      rintro e w4 ⟨rfl, hk4, hi4⟩
      go_simp
      refine hK.out _ _ ⟨(blk_cell (kept_blk (HIk.out _ _ hi4) BM.out nm) 0).trans rfl, (blk_cell (kept_blk (HIk.out _ _ hi4) BC.out nc) 0).trans rfl⟩ (fun hHeld => ?_)
      clear hK K
      (try simp only [Act.put, List.setIfInBounds_toArray, List.set_cons_zero, List.set_cons_succ])
      refine wpAnyH_take (i := 16) (oi := { dst := some 39, op := Op.unOp UnOp.not 4 (Operand.tmp 38), type := 4, pos := "l01_loads.go:257", after := #[{ on := 15, ground := Ground.data }, { on := 4, ground := Ground.guard }], guard := some (4, true) }) (v := .bool false) rfl (by kernel_rfl) (by kernel_rfl) (by kernel_rfl) (fun _ _ _ h => h) (Or.inl ⟨by rfl, (by intro w hSw; (try dsimp only at hSw); obtain ⟨hS1, hS2⟩ := hSw; go_simp)⟩) (by assumption) ?_; (try simp only [Act.put, List.setIfInBounds_toArray, List.set_cons_zero, List.set_cons_succ])
      refine wpAnyH_take (i := 17) (oi := { dst := some 40, op := Op.pick (Operand.tmp 27) (Operand.tmp 39) (Operand.const (Value.bool false)), type := 4, pos := "l01_loads.go:257", after := #[{ on := 4, ground := Ground.data }, { on := 16, ground := Ground.data }], guard := none }) (v := .bool false) rfl (by kernel_rfl) (by kernel_rfl) (by kernel_rfl) (fun _ _ _ h => h) (Or.inl ⟨by rfl, (by intro w hSw; (try dsimp only at hSw); obtain ⟨hS1, hS2⟩ := hSw; go_simp)⟩) (by assumption) ?_; (try simp only [Act.put, List.setIfInBounds_toArray, List.set_cons_zero, List.set_cons_succ])
      refine wpAnyH_done (by kernel_rfl) ?_ _
      go_wp2
      go_roundg (m + 1 - (kk + 1))
      case measure => omega
      case rel => exact ⟨kk + 1, by omega, by omega, by go_num, ⟨(KP.out.below hb3).then_ hk4 (fun _ h => .inl h)⟩, ⟨by rw [HF.out]; exact hi4⟩⟩
     ·go_simp
      refine hK.out _ _ ⟨pw_cell_below (below_alloc (Below.refl _ _) _) (pw_cell_below hb1 q3), pw_cell_below (below_alloc (Below.refl _ _) _) (pw_cell_below hb1 q4)⟩ (fun hHeld => ?_)
      clear hK K
      (try simp only [Act.put, List.setIfInBounds_toArray, List.set_cons_zero, List.set_cons_succ])
      refine wpAnyH_ready (rs := [7]) (by kernel_rfl) (by simp) ?_
      refine AllReadyH.cons (o := { dst := some 30, op := Op.call { callee := Callee.value (Operand.func 111), args := #[Operand.tmp 29], argTypes := #[51] }, type := 51, pos := "l01_loads.go:257", after := #[{ on := 6, ground := Ground.data }, { on := 4, ground := Ground.chain }, { on := 4, ground := Ground.guard }], guard := some (4, true) }) rfl (fun K hK => ?_) AllReadyH.nil
      go_simp
      go_at_call 111
      refine (slices_Clone_int64.calls A c o o _ (Kd.C_below HCr.out (by repeat (first | exact Below.refl _ _ | apply below_alloc | apply pw_below_drewN | apply below_drew | refine below_step ?_ hb1 | refine below_step ?_ hb2))) hoc HCL.out).mono ?_; rintro e w2 ⟨v2, rfl, ho2, hb2⟩
      go_simp
      refine hK.out _ _ ⟨pw_cell_below hb2 (pw_cell_below (below_alloc (Below.refl _ _) _) (pw_cell_below hb1 q3)), pw_cell_below hb2 (pw_cell_below (below_alloc (Below.refl _ _) _) (pw_cell_below hb1 q4))⟩ (fun hHeld => ?_)
      clear hK K
      (try simp only [Act.put, List.setIfInBounds_toArray, List.set_cons_zero, List.set_cons_succ])
      refine wpAnyH_ready (rs := [10]) (by kernel_rfl) (by simp) ?_
      refine AllReadyH.cons (o := { dst := some 33, op := Op.call { callee := Callee.builtin Builtin.append, args := #[Operand.tmp 30, Operand.tmp 32], argTypes := #[51, 51] }, type := 51, pos := "l01_loads.go:257", after := #[{ on := 7, ground := Ground.data }, { on := 9, ground := Ground.data }, { on := 7, ground := Ground.chain }, { on := 4, ground := Ground.guard }], guard := some (4, true) }) rfl (fun K hK => ?_) AllReadyH.nil
      have HB_ : Below wr.heap.size wr (w2) := (by repeat (first | exact Below.refl _ _ | apply below_alloc | apply pw_below_drewN | apply below_drew | refine below_step ?_ hb1 | refine below_step ?_ hb2)); have HO_ : Kd.R (Kd.int .i64) 2 (w2) wr.heap.size (fun _ => True) v2 o := (Kd.R_lower ho2 (below_size (by repeat (first | exact Below.refl _ _ | apply below_alloc | apply pw_below_drewN | apply below_drew | refine below_step ?_ hb1)))); have HR_ : Kd.C (Kd.int .i64) (w2) _ [(kk : Int)].length [(kk : Int)] := (Kd.C_below (C_new1 _ kk) hb2); refine Kd.R_append_rows_step (Kd.int .i64) (w0 := wr) wr.heap.size ?hw (.tmp 30) (.tmp 32) 51 2 (.int .i64 0) 8 rfl Try.underlying51 info2 rfl (by decide) (by omega) v2 o [(kk : Int)] _ _ _ (fun _ => True) (fun _ => False) rfl rfl HO_ HR_ (fun _ _ h => h) (fun _ h => h.elim) (fun _ _ => trivial) HB_ HB_.size (by have := HOL.out; simp; omega) ?_; (case hw => first | rfl | kernel_rfl | decide); clear HO_ HR_ HB_; intro v3 w3 ho3 hb3 _ _
      refine hK.out _ _ ⟨pw_cell_below hb3 q3, pw_cell_below hb3 q4⟩ (fun hHeld => ?_)
      clear hK K
      (try simp only [Act.put, List.setIfInBounds_toArray, List.set_cons_zero, List.set_cons_succ])
      refine wpAnyH_ready (rs := [15]) (by kernel_rfl) (by simp) ?_
      refine AllReadyH.cons (o := { dst := some 38, op := Op.call { callee := Callee.value (Operand.tmp 28), args := #[Operand.tmp 33, Operand.tmp 37], argTypes := #[51, 2] }, type := 4, pos := "l01_loads.go:257", after := #[{ on := 5, ground := Ground.data }, { on := 10, ground := Ground.data }, { on := 14, ground := Ground.data }, { on := 10, ground := Ground.chain }, { on := 4, ground := Ground.guard }], guard := some (4, true) }) rfl (fun K hK => ?_) AllReadyH.nil
      go_simp
      go_at_call 110
      refine (IH.out w3 v3 (o ++ [(kk : Int)]) (max m (kk + 1)) _ (by have := HD.out; simp; omega) (by have := HMM.out; simp; omega) (Kd.R_lower (Kd.R_mono (Kd.R_bound ho3) (fun k hk hx => by have := hk.2.1; have := HSXr.out k hx; omega)) HLO.out) (HIb.out _ _ _ HI.out hb3)).mono ?_
      rintro e w4 ⟨rfl, hk4, hi4⟩
      go_simp
      refine hK.out _ _ ⟨(blk_cell (kept_blk (HIk.out _ _ hi4) BM.out nm) 0).trans rfl, (blk_cell (kept_blk (HIk.out _ _ hi4) BC.out nc) 0).trans rfl⟩ (fun hHeld => ?_)
      clear hK K
      (try simp only [Act.put, List.setIfInBounds_toArray, List.set_cons_zero, List.set_cons_succ])
      refine wpAnyH_take (i := 16) (oi := { dst := some 39, op := Op.unOp UnOp.not 4 (Operand.tmp 38), type := 4, pos := "l01_loads.go:257", after := #[{ on := 15, ground := Ground.data }, { on := 4, ground := Ground.guard }], guard := some (4, true) }) (v := .bool false) rfl (by kernel_rfl) (by kernel_rfl) (by kernel_rfl) (fun _ _ _ h => h) (Or.inl ⟨by rfl, (by intro w hSw; (try dsimp only at hSw); obtain ⟨hS1, hS2⟩ := hSw; go_simp)⟩) (by assumption) ?_; (try simp only [Act.put, List.setIfInBounds_toArray, List.set_cons_zero, List.set_cons_succ])
      refine wpAnyH_take (i := 17) (oi := { dst := some 40, op := Op.pick (Operand.tmp 27) (Operand.tmp 39) (Operand.const (Value.bool false)), type := 4, pos := "l01_loads.go:257", after := #[{ on := 4, ground := Ground.data }, { on := 16, ground := Ground.data }], guard := none }) (v := .bool false) rfl (by kernel_rfl) (by kernel_rfl) (by kernel_rfl) (fun _ _ _ h => h) (Or.inl ⟨by rfl, (by intro w hSw; (try dsimp only at hSw); obtain ⟨hS1, hS2⟩ := hSw; go_simp)⟩) (by assumption) ?_; (try simp only [Act.put, List.setIfInBounds_toArray, List.set_cons_zero, List.set_cons_succ])
      refine wpAnyH_done (by kernel_rfl) ?_ _
      go_wp2
      go_roundg (m + 1 - (kk + 1))
      case measure => omega
      case rel => exact ⟨kk + 1, by omega, by omega, by go_num, ⟨(KP.out.below hb3).then_ hk4 (fun _ h => .inl h)⟩, ⟨by rw [HF.out]; exact hi4⟩⟩
   ·have hlti : ¬ (kk : Int) < (m : Int) + 1 := by omega
    go_wp2
    go_ret
    obtain rfl : kk = m + 1 := by omega
    exact ⟨rfl, KP.out, HI.out⟩
set_option maxHeartbeats 4000000 in
set_option maxRecDepth 100000 in
theorem grouped_calls {σ : Type} (W : World) (lo n : Nat) (Sx : Nat → Prop) (fm fe : Nat) (lbm lbe : Array Value) (up : List Int → Nat → σ → σ) (p : List Int → Int → Bool) (I : World → σ → Prop) (s : σ) (hn : n ≤ 1000) (hlo : lo ≤ W.heap.size) (hsx : ∀ k, Sx k → k < W.heap.size)
  (em : ∀ args w, (callFunc fm args).run Try.prog w = .ok (.enter fm args) w) (ee : ∀ args w, (callFunc fe args).run Try.prog w = .ok (.enter fe args) w)
  (hI : I W s) (hIb : ∀ W W' s, I W s → Below W.heap.size W W' → I W' s)
  (hMay : ∀ (W : World) (s : σ) (A : Option Addr) (c : Nat) (o : List Int) (k : Int), I W s → Kd.C (Kd.int .i64) W A o.length o → o.length ≤ c → o.length < n →
   Calls Try.prog fm (#[.slice A o.length c, .int .i64 k] ++ lbm) W fun e w' => e = .returned (.bool (p o k)) ∧ Below W.heap.size W w')
  (hEach : ∀ (W : World) (s : σ) (A : Option Addr) (c : Nat) (o : List Int) (m : Nat), I W s → Kd.R (Kd.int .i64) 2 W lo (fun k => ¬ Sx k) (.slice A o.length c) o → o.length ≤ c → o.length = n → m ≤ n →
   Calls Try.prog fe (#[.slice A o.length c, .int .i64 (m : Int)] ++ lbe) W fun e w' => e = .returned (.bool true) ∧ Kept W w' Sx ∧ I w' (up o m s)) :
  Calls Try.prog 105 #[.int .i64 (n : Int), .func (.func fm) #[] lbm, .func (.func fe) #[] lbe] W fun e w' => e = .returned (.tuple #[]) ∧ I w' (dfsG up p n [] 0 s) := by
 have n0 : ∀ (w : World) (o : Obj) (k : Nat), w.heap.size = k → (w.alloc o).heap.size = k + 1 := fun w o k h => by rw [← h]; simp
 have nw : ∀ (w : World) (o : Obj) (k : Nat), w.heap.size = k → (w.alloc o).heap[k]? = some o := fun w o k h => h ▸ blk_new w o
 obtain ⟨W5, hW5⟩ : ∃ W5, W5 = ((((W.alloc (.cells #[.int .i64 (n : Int)] 3)).alloc (.cells #[.func (.func fm) #[] lbm] 91)).alloc (.cells #[.func (.func fe) #[] lbe] 91)).alloc (.cells #[.func (.func 110) #[] #[.pointer (some ⟨W.heap.size, 0, none⟩), .pointer (some ⟨W.heap.size + 1 + 1, 0, none⟩), .pointer (some ⟨W.heap.size + 1, 0, none⟩), .pointer (some ⟨W.heap.size + 1 + 1 + 1, 0, none⟩)]] 91)) := ⟨_, rfl⟩
 have h1 : W5.heap[W.heap.size]? = some (.cells #[.int .i64 (n : Int)] 3 (0, 0)) := by rw [hW5]; exact blk_alloc (blk_alloc (blk_alloc (nw _ _ _ rfl) _) _) _
 have h2 : W5.heap[W.heap.size + 1]? = some (.cells #[.func (.func fm) #[] lbm] 91 (0, 0)) := by rw [hW5]; exact blk_alloc (blk_alloc (nw _ _ _ (n0 _ _ _ rfl)) _) _
 have h3 : W5.heap[W.heap.size + 1 + 1]? = some (.cells #[.func (.func fe) #[] lbe] 91 (0, 0)) := by rw [hW5]; exact blk_alloc (nw _ _ _ (n0 _ _ _ (n0 _ _ _ rfl))) _
 have h4 : W5.heap[W.heap.size + 1 + 1 + 1]? = some (.cells #[.func (.func 110) #[] #[.pointer (some ⟨W.heap.size, 0, none⟩), .pointer (some ⟨W.heap.size + 1 + 1, 0, none⟩), .pointer (some ⟨W.heap.size + 1, 0, none⟩), .pointer (some ⟨W.heap.size + 1 + 1 + 1, 0, none⟩)]] 91 (0, 0)) := by rw [hW5]; exact nw _ _ _ (n0 _ _ _ (n0 _ _ _ (n0 _ _ _ rfl)))
 have hb : Below W.heap.size W W5 := by rw [hW5]; exact below_alloc (below_alloc (below_alloc (below_alloc (Below.refl _ _) _) _) _) _
 have CH := Aside0.mk (choose_calls W5 lo n W.heap.size (W.heap.size + 1 + 1) (W.heap.size + 1) (W.heap.size + 1 + 1 + 1) Sx fm fe lbm lbe up p (fun W' s' => I W' s' ∧ Kept W5 W' Sx) hn (Nat.le_trans hlo hb.size) (fun k hk => Nat.lt_of_lt_of_le (hsx k hk) hb.size)
  h1 h3 h2 h4 (fun h => by have := hsx _ h; omega) (fun h => by have := hsx _ h; omega) (fun h => by have := hsx _ h; omega) (fun h => by have := hsx _ h; omega) em ee (fun W' s' h => h.2) (fun W' W2 s' h hb' => ⟨hIb _ _ _ h.1 hb', h.2.below hb'⟩)
  (fun W' s' A c o k h => hMay W' s' A c o k h.1) (fun W' s' A c o m h hR hoc hon hmn => (hEach W' s' A c o m h.1 hR hoc hon hmn).mono (fun e w' h' => ⟨h'.1, h'.2.1, h'.2.2, h.2.then_ h'.2.1 (fun _ h => .inl h)⟩))
  n W5 (.slice none 0 0) [] 0 s (by simp) (Nat.le_refl _) (Kd.R_nil _ _ _ _ _) ⟨hIb _ _ _ hI hb, Kept.refl _ _⟩)
 rw [hW5] at CH
 clear h1 h2 h3 h4 hb hW5 n0 nw hMay hEach hIb hI hsx hlo hn em ee
 go_enter Try.func105, Try.ntmps105
 go_wp2_with (go_at_call 110; refine CH.out.mono ?_; rintro e w1 ⟨rfl, hk, hi⟩)
 go_end0
 exact ⟨rfl, hi.1⟩

/-! ### impl_Rules_bestLoads: function 84 (told by hand) -/
def upL (sc : List Int → Nat → Int) (o : List Int) (m : Nat) (s : List Int × Int) : List Int × Int := if s.2 < 0 ∨ sc o m < s.2 then (o, sc o m) else s
def bestL (sc : List Int → Nat → Int) (p : List Int → Int → Bool) (n : Nat) : List Int × Int := dfsG (upL sc) p n [] 0 ([], -1)
def SetB (gl gb : Nat) : Nat → Prop := fun k => k = gl ∨ k = gb
structure StB (W0 W1 W : World) (gl gb : Nat) (s : List Int × Int) : Prop where
 bel : Below W0.heap.size W0 W
 kept : Kept W1 W (SetB gl gb)
 hl : W.heap[gl]? = some (.cells #[.int .i64 s.2] 2 (0, 0))
 hb : ∃ v : Value, W.heap[gb]? = some (.cells #[v] 51 (0, 0)) ∧ Kd.R (Kd.int .i64) 2 W W0.heap.size (fun k => ¬ SetB gl gb k) v s.1
theorem StB.below {W0 W1 W W' : World} {gl gb : Nat} {s : List Int × Int} (h : StB W0 W1 W gl gb s) (b : Below W.heap.size W W') : StB W0 W1 W' gl gb s := by
 obtain ⟨v, h1, h2⟩ := h.hb
 exact ⟨below_step h.bel b, h.kept.below b, blk_below h.hl b, v, blk_below h1 b, Kd.R_below h2 b⟩
theorem StB.store {W0 W1 W : World} {gl gb : Nat} {v : Value} {s : List Int × Int} {o : List Int} {m : Int} (h : StB W0 W1 W gl gb s) (hl : W0.heap.size ≤ gl) (hb : W0.heap.size ≤ gb)
  (ho : Kd.R (Kd.int .i64) 2 W W0.heap.size (fun k => ¬ SetB gl gb k) v o) : StB W0 W1 ((W.setCell ⟨gb, 0, none⟩ v).setCell ⟨gl, 0, none⟩ (.int .i64 m)) gl gb (o, m) := by
 obtain ⟨v0, h1, h2⟩ := h.hb
 have n7 : gl ≠ gb := blk_ne h.hl h1 (by decide)
 have hk : Kept W ((W.setCell ⟨gb, 0, none⟩ v).setCell ⟨gl, 0, none⟩ (.int .i64 m)) (SetB gl gb) := ((Kept.refl W _).setCell (.inl (.inr rfl)) v).setCell (.inl (.inl rfl)) _
 refine ⟨below_set (below_set h.bel hb) hl, h.kept.then_ hk (fun _ h => .inl h), ?_, v, ?_, ?_⟩
 ·exact blk_put (blk_far h.hl n7 _) 0 _ rfl
 ·exact blk_far (blk_put h1 0 _ rfl) n7.symm _
 ·exact Kd.R_kept ho hk (fun k hk hS => hk hS)
set_option maxHeartbeats 4000000 in
set_option maxRecDepth 100000 in
theorem best_each (W0 W1 : World) (gs gl gb n g : Nat) (lb : Array Value) (sc : List Int → Nat → Int) (hl : W0.heap.size ≤ gl) (hb : W0.heap.size ≤ gb)
  (bs : W1.heap[gs]? = some (.cells #[.func (.func g) #[] lb] 102 (0, 0))) (ns : ¬ SetB gl gb gs)
  (eg : ∀ args w, (callFunc g args).run Try.prog w = .ok (.enter g args) w)
  (hsc : ∀ (W : World) (A : Option Addr) (c : Nat) (o : List Int) (m : Nat), Below W0.heap.size W0 W → Kd.C (Kd.int .i64) W A o.length o → o.length ≤ c → o.length = n → m ≤ n →
   Calls Try.prog g (#[.slice A o.length c, .int .i64 (m : Int)] ++ lb) W fun e w' => e = .returned (.int .i64 (sc o m)) ∧ Below W.heap.size W w')
  (W : World) (s : List Int × Int) (A : Option Addr) (c : Nat) (o : List Int) (m : Nat) (hS : StB W0 W1 W gl gb s) (hR : Kd.R (Kd.int .i64) 2 W W0.heap.size (fun k => ¬ SetB gl gb k) (.slice A o.length c) o) (hoc : o.length ≤ c) (hon : o.length = n) (hmn : m ≤ n) :
  Calls Try.prog 106 #[.slice A o.length c, .int .i64 (m : Int), .pointer (some ⟨gs, 0, none⟩), .pointer (some ⟨gl, 0, none⟩), .pointer (some ⟨gb, 0, none⟩)] W fun e w' => e = .returned (.bool true) ∧ Kept W w' (SetB gl gb) ∧ StB W0 W1 w' gl gb (upL sc o m s) := by
 have q2 : W.cell? ⟨gs, 0, none⟩ = some (.func (.func g) #[] lb) := (blk_cell (kept_blk hS.kept bs ns) 0).trans rfl
 have HS := Aside0.mk hS
 have HR := Aside0.mk hR
 have hcall := hsc W A c o m hS.bel (Kd.R_reads' hR).2.2 hoc hon hmn
 have HU := Aside0.mk (show upL sc o m s = if s.2 < 0 ∨ sc o m < s.2 then (o, sc o m) else s from rfl)
 obtain ⟨x, hx⟩ : ∃ x, sc o m = x := ⟨_, rfl⟩
 obtain ⟨mm, hm⟩ : ∃ mm, s.2 = mm := ⟨_, rfl⟩
 rw [hx] at hcall HU
 rw [hm] at HU
 have HM := Aside0.mk hm
 have HSC := Aside0.mk hcall
 have FIN := Aside0.mk (show ∀ W' : World, Below W.heap.size W W' → StB W0 W1 W' gl gb s from fun W' h => hS.below h)
 clear hS hR hsc hcall hx hm bs ns hon hmn
 by_cases h2 : mm < 0
 ·have c2 : decide (mm < 0) = true := decide_eq_true h2
  have HU2 := Aside0.mk (HU.out.trans (if_pos (.inl h2)))
  clear h2 HU
  go_enter Try.func106, Try.ntmps106
  go_wp2_with (go_at_fn g; refine HSC.out.mono ?_; rintro e w1 ⟨rfl, hb1⟩; have hS1 := FIN.out w1 hb1; have q3 : w1.cell? ⟨gl, 0, none⟩ = some (.int .i64 mm) := (blk_cell hS1.hl 0).trans (by rw [HM.out]; rfl); obtain ⟨vb, hvb, _⟩ := hS1.hb; have q4 : w1.cell? ⟨gb, 0, none⟩ = some vb := (blk_cell hvb 0).trans rfl; have q5 := blk_frozen hvb 0; have n7 : gl ≠ gb := blk_ne hS1.hl hvb (by decide); have hl2 := blk_far (p := ⟨gb, 0, none⟩) hS1.hl n7 (.slice A o.length c); have q6 : (w1.setCell ⟨gb, 0, none⟩ (.slice A o.length c)).cell? ⟨gl, 0, none⟩ = some (.int .i64 mm) := (blk_cell hl2 0).trans (by rw [HM.out]; rfl); have q7 := blk_frozen hl2 0; have HS1 := Aside0.mk hS1; have HB1 := Aside0.mk hb1; clear hS1 hb1 hvb hl2 n7)
  go_ret
  rw [HU2.out]
  exact ⟨rfl, ((Kept.of_below HB1.out _).setCell (.inl (.inr rfl)) _).setCell (.inl (.inl rfl)) _, HS1.out.store hl hb (Kd.R_below HR.out HB1.out)⟩
 ·have c2 : decide (mm < 0) = false := decide_eq_false h2
  by_cases h3 : x < mm
  ·have c3 : decide (x < mm) = true := decide_eq_true h3
   have HU2 := Aside0.mk (HU.out.trans (if_pos (.inr h3)))
   clear h2 h3 HU
   go_enter Try.func106, Try.ntmps106
   go_wp2_with (go_at_fn g; refine HSC.out.mono ?_; rintro e w1 ⟨rfl, hb1⟩; have hS1 := FIN.out w1 hb1; have q3 : w1.cell? ⟨gl, 0, none⟩ = some (.int .i64 mm) := (blk_cell hS1.hl 0).trans (by rw [HM.out]; rfl); obtain ⟨vb, hvb, _⟩ := hS1.hb; have q4 : w1.cell? ⟨gb, 0, none⟩ = some vb := (blk_cell hvb 0).trans rfl; have q5 := blk_frozen hvb 0; have n7 : gl ≠ gb := blk_ne hS1.hl hvb (by decide); have hl2 := blk_far (p := ⟨gb, 0, none⟩) hS1.hl n7 (.slice A o.length c); have q6 : (w1.setCell ⟨gb, 0, none⟩ (.slice A o.length c)).cell? ⟨gl, 0, none⟩ = some (.int .i64 mm) := (blk_cell hl2 0).trans (by rw [HM.out]; rfl); have q7 := blk_frozen hl2 0; have HS1 := Aside0.mk hS1; have HB1 := Aside0.mk hb1; clear hS1 hb1 hvb hl2 n7)
   go_ret
   rw [HU2.out]
   exact ⟨rfl, ((Kept.of_below HB1.out _).setCell (.inl (.inr rfl)) _).setCell (.inl (.inl rfl)) _, HS1.out.store hl hb (Kd.R_below HR.out HB1.out)⟩
  ·have c3 : decide (x < mm) = false := decide_eq_false h3
   have HU2 := Aside0.mk (HU.out.trans (if_neg (fun h => h.elim h2 h3)))
   clear h2 h3 HU
   go_enter Try.func106, Try.ntmps106
   go_wp2_with (go_at_fn g; refine HSC.out.mono ?_; rintro e w1 ⟨rfl, hb1⟩; have hS1 := FIN.out w1 hb1; have q3 : w1.cell? ⟨gl, 0, none⟩ = some (.int .i64 mm) := (blk_cell hS1.hl 0).trans (by rw [HM.out]; rfl); obtain ⟨vb, hvb, _⟩ := hS1.hb; have q4 : w1.cell? ⟨gb, 0, none⟩ = some vb := (blk_cell hvb 0).trans rfl; have q5 := blk_frozen hvb 0; have n7 : gl ≠ gb := blk_ne hS1.hl hvb (by decide); have hl2 := blk_far (p := ⟨gb, 0, none⟩) hS1.hl n7 (.slice A o.length c); have q6 : (w1.setCell ⟨gb, 0, none⟩ (.slice A o.length c)).cell? ⟨gl, 0, none⟩ = some (.int .i64 mm) := (blk_cell hl2 0).trans (by rw [HM.out]; rfl); have q7 := blk_frozen hl2 0; have HS1 := Aside0.mk hS1; have HB1 := Aside0.mk hb1; clear hS1 hb1 hvb hl2 n7)
   go_ret
   rw [HU2.out]
   exact ⟨rfl, Kept.of_below HB1.out _, HS1.out⟩
set_option maxHeartbeats 4000000 in
set_option maxRecDepth 100000 in
theorem best_run (W0 W1 : World) (gs gl gb g1 g2 g3 g : Nat) (lb : Array Value) (sc : List Int → Nat → Int) (a0 a1 a2 a3 a4 a5 hold : Int) (l2 : List S37) (A2 : Option Addr) (c2 : Nat) (hn : l2.length ≤ 1000) (hcol : colB l2 = true) (hl : W0.heap.size ≤ gl) (hb : W0.heap.size ≤ gb) (hB : Below W0.heap.size W0 W1)
  (hr2 : Kd.C k37 W0 A2 l2.length l2) (hc2 : l2.length ≤ c2)
  (bs : W1.heap[gs]? = some (.cells #[.func (.func g) #[] lb] 102 (0, 0))) (bl : W1.heap[gl]? = some (.cells #[.int .i64 (-1)] 2 (0, 0))) (bb : W1.heap[gb]? = some (.cells #[.slice none 0 0] 51 (0, 0)))
  (b1 : W1.heap[g1]? = some (.cells #[.int .u8 a0, .int .u8 a1, .int .u8 a2, .int .u8 a3, .int .u8 a4, .int .u8 a5] 35 (0, 0))) (b2 : W1.heap[g2]? = some (.cells #[.int .i64 hold] 2 (0, 0))) (b3 : W1.heap[g3]? = some (.cells #[.slice A2 l2.length c2] 25 (0, 0))) (h2l : g2 ≠ gl)
  (eg : ∀ args w, (callFunc g args).run Try.prog w = .ok (.enter g args) w)
  (hsc : ∀ (W : World) (A : Option Addr) (c : Nat) (o : List Int) (m : Nat), Below W0.heap.size W0 W → Kd.C (Kd.int .i64) W A o.length o → o.length ≤ c → o.length = l2.length → m ≤ l2.length →
   Calls Try.prog g (#[.slice A o.length c, .int .i64 (m : Int)] ++ lb) W fun e w' => e = .returned (.int .i64 (sc o m)) ∧ Below W.heap.size W w') :
  Calls Try.prog 105 #[.int .i64 (l2.length : Int), .func (.func 103) #[] #[.pointer (some ⟨g1, 0, none⟩), .pointer (some ⟨g2, 0, none⟩), .pointer (some ⟨g3, 0, none⟩)], .func (.func 106) #[] #[.pointer (some ⟨gs, 0, none⟩), .pointer (some ⟨gl, 0, none⟩), .pointer (some ⟨gb, 0, none⟩)]] W1 fun e w' =>
   e = .returned (.tuple #[]) ∧ StB W0 W1 w' gl gb (bestL sc (joinB [a0, a1, a2, a3, a4, a5] hold l2) l2.length) := by
 have e1 : ¬ SetB gl gb g1 := by rintro (h | h); exact blk_ne b1 bl (by decide) h; exact blk_ne b1 bb (by decide) h
 have e2 : ¬ SetB gl gb g2 := by rintro (h | h); exact h2l h; exact blk_ne b2 bb (by decide) h
 have e3 : ¬ SetB gl gb g3 := by rintro (h | h); exact blk_ne b3 bl (by decide) h; exact blk_ne b3 bb (by decide) h
 have es : ¬ SetB gl gb gs := by rintro (h | h); exact blk_ne bs bl (by decide) h; exact blk_ne bs bb (by decide) h
 exact grouped_calls W1 W0.heap.size l2.length (SetB gl gb) 103 106 _ _ (upL sc) (joinB [a0, a1, a2, a3, a4, a5] hold l2) (fun W s => StB W0 W1 W gl gb s) ([], -1) hn hB.size (by rintro k (rfl | rfl); exact blk_lt bl; exact blk_lt bb)
  (enters_of Try.func103 (by kernel_rfl) rfl) (enters_of Try.func106 (by kernel_rfl) rfl) ⟨hB, Kept.refl _ _, bl, _, bb, Kd.R_nil _ _ _ _ _⟩ (fun W W' s h hb' => h.below hb')
  (fun W s A c o k hS hC hoc hol => mayJoin_1 a0 a1 a2 a3 a4 a5 hold k l2 o A2 A c2 c g1 g2 g3 W (by omega) hol hcol (Kd.C_below hr2 hS.bel) hc2 hC hoc (kept_blk hS.kept b1 e1) (kept_blk hS.kept b2 e2) (kept_blk hS.kept b3 e3))
  (fun W s A c o m hS hR hoc hon hmn => best_each W0 W1 gs gl gb l2.length g lb sc hl hb bs es eg hsc W s A c o m hS hR hoc hon hmn)
set_option maxHeartbeats 4000000 in
set_option maxRecDepth 100000 in
theorem bestLoads_calls (W0 : World) (g : Nat) (lb : Array Value) (sc : List Int → Nat → Int) (a0 a1 a2 a3 a4 a5 hold : Int) (l2 : List S37) (A2 : Option Addr) (c2 : Nat) (hn : l2.length ≤ 1000) (hcol : colB l2 = true) (hr2 : Kd.C k37 W0 A2 l2.length l2) (hc2 : l2.length ≤ c2)
  (eg : ∀ args w, (callFunc g args).run Try.prog w = .ok (.enter g args) w)
  (hsc : ∀ (W : World) (A : Option Addr) (c : Nat) (o : List Int) (m : Nat), Below W0.heap.size W0 W → Kd.C (Kd.int .i64) W A o.length o → o.length ≤ c → o.length = l2.length → m ≤ l2.length →
   Calls Try.prog g (#[.slice A o.length c, .int .i64 (m : Int)] ++ lb) W fun e w' => e = .returned (.int .i64 (sc o m)) ∧ Below W.heap.size W w') :
  Calls Try.prog 84 #[.agg #[.int .u8 a0, .int .u8 a1, .int .u8 a2, .int .u8 a3, .int .u8 a4, .int .u8 a5], .int .i64 hold, .slice A2 l2.length c2, .func (.func g) #[] lb] W0 fun e w' =>
   ∃ v : Value, e = .returned (.tuple #[v, .int .i64 (bestL sc (joinB [a0, a1, a2, a3, a4, a5] hold l2) l2.length).2]) ∧ Kd.R (Kd.int .i64) 2 w' W0.heap.size (fun _ => True) v (bestL sc (joinB [a0, a1, a2, a3, a4, a5] hold l2) l2.length).1 ∧ Below W0.heap.size W0 w' := by
 have n0 : ∀ (w : World) (o : Obj) (k : Nat), w.heap.size = k → (w.alloc o).heap.size = k + 1 := fun w o k h => by rw [← h]; simp
 have nw : ∀ (w : World) (o : Obj) (k : Nat), w.heap.size = k → (w.alloc o).heap[k]? = some o := fun w o k h => h ▸ blk_new w o
 have BR := Aside0.mk (fun (W1 : World) (gs gl gb g1 g2 g3 : Nat) (hl : W0.heap.size ≤ gl) (hb : W0.heap.size ≤ gb) (hB : Below W0.heap.size W0 W1) bs bl bb b1 b2 b3 h2l =>
  best_run W0 W1 gs gl gb g1 g2 g3 g lb sc a0 a1 a2 a3 a4 a5 hold l2 A2 c2 hn hcol hl hb hB hr2 hc2 bs bl bb b1 b2 b3 h2l eg hsc)
 obtain ⟨x, hx⟩ : ∃ x, bestL sc (joinB [a0, a1, a2, a3, a4, a5] hold l2) l2.length = x := ⟨_, rfl⟩
 rw [hx] at BR ⊢
 have hn0 : l2.length ≤ 9223372036854775807 := by omega
 have BK := Aside0.mk (fun (W : World) (hb : Below ((((W0.alloc (.cells #[.int .u8 a0, .int .u8 a1, .int .u8 a2, .int .u8 a3, .int .u8 a4, .int .u8 a5] 35)).alloc (.cells #[.func (.func g) #[] lb] 102)).alloc (.cells #[.slice none 0 0] 51)).alloc (.cells #[.int .i64 (-1)] 2)).heap.size ((((W0.alloc (.cells #[.int .u8 a0, .int .u8 a1, .int .u8 a2, .int .u8 a3, .int .u8 a4, .int .u8 a5] 35)).alloc (.cells #[.func (.func g) #[] lb] 102)).alloc (.cells #[.slice none 0 0] 51)).alloc (.cells #[.int .i64 (-1)] 2)) W) =>
  (⟨below_step (below_alloc (below_alloc (below_alloc (below_alloc (Below.refl _ _) _) _) _) _) hb, blk_below (blk_alloc (blk_alloc (nw _ _ _ (n0 _ _ _ rfl)) _) _) hb, blk_below (nw _ _ _ (n0 _ _ _ (n0 _ _ _ (n0 _ _ _ rfl)))) hb, blk_below (blk_alloc (nw _ _ _ (n0 _ _ _ (n0 _ _ _ rfl))) _) hb⟩ :
   Below W0.heap.size W0 W ∧ W.heap[W0.heap.size + 1]? = some (.cells #[.func (.func g) #[] lb] 102 (0, 0)) ∧ W.heap[W0.heap.size + 1 + 1 + 1]? = some (.cells #[.int .i64 (-1)] 2 (0, 0)) ∧ W.heap[W0.heap.size + 1 + 1]? = some (.cells #[.slice none 0 0] 51 (0, 0))))
 have SZ := Aside0.mk (n0 _ (.cells #[.int .i64 (-1)] 2) _ (n0 _ (.cells #[.slice none 0 0] 51) _ (n0 _ (.cells #[.func (.func g) #[] lb] 102) _ (n0 W0 (.cells #[.int .u8 a0, .int .u8 a1, .int .u8 a2, .int .u8 a3, .int .u8 a4, .int .u8 a5] 35) _ rfl))))
 clear hx n0 nw hsc hr2 eg hcol hn
 go_enter Try.func84, Try.ntmps84
 go_wp2_with (first
  | (go_at_call 76; refine (impl_Rules_mayJoin.made a0 a1 a2 a3 a4 a5 hold A2 l2.length c2 _).mono ?_; rintro e w1 ⟨rfl, hb1, h1, h2, h3⟩; obtain ⟨hB, bs, bl, bb⟩ := BK.out w1 hb1; rw [SZ.out] at h1 h2 h3; have HR := Aside0.mk (BR.out w1 (W0.heap.size + 1) (W0.heap.size + 1 + 1 + 1) (W0.heap.size + 1 + 1) _ _ _ (by omega) (by omega) hB bs bl bb h1 h2 h3 (by omega)); clear hb1 h1 h2 h3 hB bs bl bb)
  | (go_at_call 105; refine HR.out.mono ?_; rintro e w2 ⟨rfl, hs⟩; have q4 : w2.cell? ⟨W0.heap.size + 1 + 1 + 1, 0, none⟩ = some (.int .i64 x.2) := (blk_cell hs.hl 0).trans rfl; obtain ⟨vb, hvb, hrb⟩ := hs.hb; have q5 : w2.cell? ⟨W0.heap.size + 1 + 1, 0, none⟩ = some vb := (blk_cell hvb 0).trans rfl; have HS1 := Aside0.mk hs; have HR1 := Aside0.mk hrb; clear hs hvb hrb))
 go_quiet (fail)
 go_wp2
 go_ret2
 exact ⟨vb, rfl, Kd.R_mono HR1.out (fun _ _ => trivial), pw_below_drewN HS1.out.bel _⟩

/-! ### impl_CheapestLoads: function 48 (told by hand) -/
theorem C_new2 (w : World) (x y : Int) : Kd.C (Kd.int .i64) (w.alloc (.cells #[.int .i64 x, .int .i64 y] 2)) (some ⟨w.heap.size, 0, none⟩) [x, y].length [x, y] := by
 refine ⟨rfl, by simp, fun _ => ⟨_, rfl, fun j p hj => ?_⟩⟩
 rcases j with _ | _ | j
 ·simp at hj
  subst hj
  refine ⟨[.int .i64 x], rfl, rfl, fun i u hu => ?_⟩
  rcases i with _ | i
  ·simp at hu
   subst hu
   simp [go_sem]
  ·simp at hu
 ·simp at hj
  subst hj
  refine ⟨[.int .i64 y], rfl, rfl, fun i u hu => ?_⟩
  rcases i with _ | i
  ·simp at hu
   subst hu
   simp [go_sem]
   try rfl
  ·simp at hu
 ·simp at hj
def costSc (l : List S37) (each : Int) (o : List Int) (_ : Nat) : Int := costB l o each
def impl_CheapestLoads.f (k : Nat) (a0_0 : Int) (a0_1 : Int) (a0_2 : Int) (a0_3 : Int) (a0_4 : Int) (a0_5 : Int) (a1 : Int) (l2 : List S37) (a3 : Int) : Option (List Int × Int × Int) :=
 (impl_eachCode.f k a0_0 a0_1 a0_2 a0_3 a0_4 a0_5 a1 l2 a3).bind fun c1 => (impl_lightCode.f k a0_0 a0_1 a0_2 a0_3 a0_4 a0_5 a1 l2).bind fun cl => (impl_firstOf.f k [c1, cl]).bind fun c => if c = 0 then (if l2.length ≤ 1000 ∧ colB l2 = true then some ((bestL (costSc l2 a3) (joinB [a0_0, a0_1, a0_2, a0_3, a0_4, a0_5] a1 l2) l2.length).1, (bestL (costSc l2 a3) (joinB [a0_0, a0_1, a0_2, a0_3, a0_4, a0_5] a1 l2) l2.length).2, 0) else none) else some ([], 0, c)
theorem impl_CheapestLoads.mono : ∀ a0 a1 a2 a3 a4 a5 a6 a7 a8 k, LeO (impl_CheapestLoads.f k a0 a1 a2 a3 a4 a5 a6 a7 a8) (impl_CheapestLoads.f (k + 1) a0 a1 a2 a3 a4 a5 a6 a7 a8) := by
 intro a0 a1 a2 a3 a4 a5 a6 a7 a8 k
 unfold impl_CheapestLoads.f
 exact LeO.bind (impl_eachCode.mono a0 a1 a2 a3 a4 a5 a6 a7 a8 k) (fun _ => LeO.bind (impl_lightCode.mono a0 a1 a2 a3 a4 a5 a6 a7 k) (fun _ => LeO.bind (impl_firstOf.mono _ k) (fun _ => LeO.refl _)))
set_option maxHeartbeats 4000000 in
theorem CheapestLoads_1 (l2 : List S37) (each : Int) (A2 : Option Addr) (c2 g1 g2 : Nat) (W : World) (A : Option Addr) (c : Nat) (o : List Int) (m : Nat) (hn : l2.length ≤ 1000) (hr2 : Kd.C k37 W A2 l2.length l2) (hc2 : l2.length ≤ c2)
  (h1 : W.cell? ⟨g1, 0, none⟩ = some (.slice A2 l2.length c2)) (h2 : W.cell? ⟨g2, 0, none⟩ = some (.int .i64 each)) (ho : Kd.C (Kd.int .i64) W A o.length o) (hoc : o.length ≤ c) (hol : o.length = l2.length) :
  Calls Try.prog 86 #[.slice A o.length c, .int .i64 (m : Int), .pointer (some ⟨g1, 0, none⟩), .pointer (some ⟨g2, 0, none⟩)] W fun e w' => e = .returned (.int .i64 (costSc l2 each o m)) ∧ Below W.heap.size W w' := by
 have hp : impl_costw.f l2 o each = some (costB l2 o each) := by unfold impl_costw.f; rw [if_pos ⟨by omega, hol⟩]
 unfold costSc
 obtain ⟨y, hy⟩ : ∃ y, costB l2 o each = y := ⟨_, rfl⟩
 rw [hy] at hp ⊢
 have HP := Aside0.mk hp
 have HR2 := Aside0.mk hr2
 have HO := Aside0.mk ho
 clear hy hp hr2 ho hol hn
 go_enter Try.func86, Try.ntmps86
 go_wp2_with (go_at_call 82; refine (impl_costw.calls A2 c2 l2 A c o each y _ (Kd.C_below HR2.out (by repeat (first | exact Below.refl _ _ | apply pw_below_drewN | apply below_drew | apply below_alloc))) hc2 (Kd.C_below HO.out (by repeat (first | exact Below.refl _ _ | apply pw_below_drewN | apply below_drew | apply below_alloc))) hoc HP.out).mono ?_; rintro e w1 ⟨rfl, hb1⟩)
 go_ret
 exact ⟨rfl, hb1⟩
set_option maxHeartbeats 8000000 in
set_option maxRecDepth 100000 in
theorem impl_CheapestLoads.calls (k : Nat) (a0_0 : Int) (a0_1 : Int) (a0_2 : Int) (a0_3 : Int) (a0_4 : Int) (a0_5 : Int) (a1 : Int) (A2 : Option Addr) (c2 : Nat) (l2 : List S37) (a3 : Int) (r1 : List Int) (r2 : Int) (r3 : Int) (w : World) (hr2 : Kd.C k37 w A2 l2.length l2) (hc2 : l2.length ≤ c2) (h : impl_CheapestLoads.f k a0_0 a0_1 a0_2 a0_3 a0_4 a0_5 a1 l2 a3 = some (r1, r2, r3)) :
  Calls Try.prog 48 #[.agg #[.int .u8 a0_0, .int .u8 a0_1, .int .u8 a0_2, .int .u8 a0_3, .int .u8 a0_4, .int .u8 a0_5], .int .i64 a1, .slice A2 l2.length c2, .int .i64 a3] w fun e w' => ∃ v0_ : Value, e = .returned (.tuple #[v0_, .int .i64 r2, .int .i64 r3]) ∧ Kd.R (Kd.int .i64) 2 w' w.heap.size (fun _ => True) v0_ r1 ∧ Below w.heap.size w w' := by
 unfold impl_CheapestLoads.f at h
 obtain ⟨c1, hec, h⟩ := Option.bind_eq_some_iff.mp h
 obtain ⟨cl, hlc, h⟩ := Option.bind_eq_some_iff.mp h
 obtain ⟨cd, hcd, h'⟩ := Option.bind_eq_some_iff.mp h
 clear h
 have HEC := Aside0.mk hec
 have HLC := Aside0.mk hlc
 have HFO := Aside0.mk hcd
 have HR2 := Aside0.mk hr2
 have hn : l2.length ≤ 9223372036854775807 := hr2.2.1
 have n0 : ∀ (w : World) (o : Obj) (k : Nat), w.heap.size = k → (w.alloc o).heap.size = k + 1 := fun w o k h => by rw [← h]; simp
 have nw : ∀ (w : World) (o : Obj) (k : Nat), w.heap.size = k → (w.alloc o).heap[k]? = some o := fun w o k h => h ▸ blk_new w o
 obtain ⟨W5, hW5⟩ : ∃ W5, W5 = (((w.alloc (.cells #[.int .u8 a0_0, .int .u8 a0_1, .int .u8 a0_2, .int .u8 a0_3, .int .u8 a0_4, .int .u8 a0_5] 35)).alloc (.cells #[.slice A2 l2.length c2] 25)).alloc (.cells #[.int .i64 a3] 2)) := ⟨_, rfl⟩
 have h1 : W5.heap[w.heap.size]? = some (.cells #[.int .u8 a0_0, .int .u8 a0_1, .int .u8 a0_2, .int .u8 a0_3, .int .u8 a0_4, .int .u8 a0_5] 35 (0, 0)) := by rw [hW5]; exact blk_alloc (blk_alloc (nw _ _ _ rfl) _) _
 have h2 : W5.heap[w.heap.size + 1]? = some (.cells #[.slice A2 l2.length c2] 25 (0, 0)) := by rw [hW5]; exact blk_alloc (nw _ _ _ (n0 _ _ _ rfl)) _
 have h3 : W5.heap[w.heap.size + 1 + 1]? = some (.cells #[.int .i64 a3] 2 (0, 0)) := by rw [hW5]; exact nw _ _ _ (n0 _ _ _ (n0 _ _ _ rfl))
 have q0 : W5.drew.cell? ⟨w.heap.size, 0, none⟩ = some (.int .u8 a0_0) := (blk_cell h1 0).trans rfl
 have q1 : W5.drew.cell? ⟨w.heap.size, 1, none⟩ = some (.int .u8 a0_1) := (blk_cell h1 1).trans rfl
 have q2 : W5.drew.cell? ⟨w.heap.size, 2, none⟩ = some (.int .u8 a0_2) := (blk_cell h1 2).trans rfl
 have q3 : W5.drew.cell? ⟨w.heap.size, 3, none⟩ = some (.int .u8 a0_3) := (blk_cell h1 3).trans rfl
 have q4 : W5.drew.cell? ⟨w.heap.size, 4, none⟩ = some (.int .u8 a0_4) := (blk_cell h1 4).trans rfl
 have q5 : W5.drew.cell? ⟨w.heap.size, 5, none⟩ = some (.int .u8 a0_5) := (blk_cell h1 5).trans rfl
 have q6 : W5.drew.cell? ⟨w.heap.size + 1, 0, none⟩ = some (.slice A2 l2.length c2) := (blk_cell h2 0).trans rfl
 have q7 : W5.drew.cell? ⟨w.heap.size + 1 + 1, 0, none⟩ = some (.int .i64 a3) := (blk_cell h3 0).trans rfl
 rw [hW5] at q0 q1 q2 q3 q4 q5 q6 q7
 clear hec hlc hcd hr2 h1 h2 h3 n0 nw hW5
 by_cases h0 : cd = 0
 ·subst h0
  rw [if_pos rfl] at h'
  by_cases hq : l2.length ≤ 1000 ∧ colB l2 = true
  case neg => rw [if_neg hq] at h'; cases h'
  rw [if_pos hq] at h'
  simp only [Option.some.injEq, Prod.mk.injEq] at h'
  obtain ⟨rfl, rfl, rfl⟩ := h'
  have HB := Aside0.mk (fun (W : World) (g1 g2 : Nat) (hB : Below w.heap.size w W) (h1 : W.cell? ⟨g1, 0, none⟩ = some (.slice A2 l2.length c2)) (h2 : W.cell? ⟨g2, 0, none⟩ = some (.int .i64 a3)) => bestLoads_calls W 86 #[.pointer (some ⟨g1, 0, none⟩), .pointer (some ⟨g2, 0, none⟩)] (costSc l2 a3) a0_0 a0_1 a0_2 a0_3 a0_4 a0_5 a1 l2 A2 c2 hq.1 hq.2 (Kd.C_below HR2.out hB) hc2 (enters_of Try.func86 (by kernel_rfl) rfl)
   (fun W' A c o m hB' hC hoc hol _ => CheapestLoads_1 l2 a3 A2 c2 g1 g2 W' A c o m hq.1 (Kd.C_below HR2.out (below_step hB hB')) hc2 (pw_cell_below hB' h1) (pw_cell_below hB' h2) hC hoc hol))
  obtain ⟨x, hx⟩ : ∃ x, bestL (costSc l2 a3) (joinB [a0_0, a0_1, a0_2, a0_3, a0_4, a0_5] a1 l2) l2.length = x := ⟨_, rfl⟩
  rw [hx] at HB ⊢
  clear hx hq
  go_enter Try.func48, Try.ntmps48
  go_wp2
  go_region_held3 (fun w' => w'.cell? ⟨w.heap.size, 0, none⟩ = some (.int .u8 a0_0) ∧ w'.cell? ⟨w.heap.size, 1, none⟩ = some (.int .u8 a0_1) ∧ w'.cell? ⟨w.heap.size, 2, none⟩ = some (.int .u8 a0_2) ∧ w'.cell? ⟨w.heap.size, 3, none⟩ = some (.int .u8 a0_3) ∧ w'.cell? ⟨w.heap.size, 4, none⟩ = some (.int .u8 a0_4) ∧ w'.cell? ⟨w.heap.size, 5, none⟩ = some (.int .u8 a0_5) ∧ w'.cell? ⟨w.heap.size + 1, 0, none⟩ = some (.slice A2 l2.length c2) ∧ w'.cell? ⟨w.heap.size + 1 + 1, 0, none⟩ = some (.int .i64 a3))
   (first | exact ⟨(by assumption), (by assumption), (by assumption), (by assumption), (by assumption), (by assumption), (by assumption), (by assumption)⟩ | exact ⟨pw_cell_below hb1 (by assumption), pw_cell_below hb1 (by assumption), pw_cell_below hb1 (by assumption), pw_cell_below hb1 (by assumption), pw_cell_below hb1 (by assumption), pw_cell_below hb1 (by assumption), pw_cell_below hb1 (by assumption), pw_cell_below hb1 (by assumption)⟩ | exact ⟨pw_cell_below hb2 (by assumption), pw_cell_below hb2 (by assumption), pw_cell_below hb2 (by assumption), pw_cell_below hb2 (by assumption), pw_cell_below hb2 (by assumption), pw_cell_below hb2 (by assumption), pw_cell_below hb2 (by assumption), pw_cell_below hb2 (by assumption)⟩ | exact ⟨pw_cell_below hb2 (pw_cell_below hb1 (by assumption)), pw_cell_below hb2 (pw_cell_below hb1 (by assumption)), pw_cell_below hb2 (pw_cell_below hb1 (by assumption)), pw_cell_below hb2 (pw_cell_below hb1 (by assumption)), pw_cell_below hb2 (pw_cell_below hb1 (by assumption)), pw_cell_below hb2 (pw_cell_below hb1 (by assumption)), pw_cell_below hb2 (pw_cell_below hb1 (by assumption)), pw_cell_below hb2 (pw_cell_below hb1 (by assumption))⟩ | exact ⟨pw_cell_below hb1 (pw_cell_below hb2 (by assumption)), pw_cell_below hb1 (pw_cell_below hb2 (by assumption)), pw_cell_below hb1 (pw_cell_below hb2 (by assumption)), pw_cell_below hb1 (pw_cell_below hb2 (by assumption)), pw_cell_below hb1 (pw_cell_below hb2 (by assumption)), pw_cell_below hb1 (pw_cell_below hb2 (by assumption)), pw_cell_below hb1 (pw_cell_below hb2 (by assumption)), pw_cell_below hb1 (pw_cell_below hb2 (by assumption))⟩ | go_keep)
   (first
    | (go_at_call 81; refine (impl_eachCode.calls k a0_0 a0_1 a0_2 a0_3 a0_4 a0_5 a1 A2 c2 l2 a3 c1 _ (Kd.C_below HR2.out (by repeat (first | exact Below.refl _ _ | apply pw_below_drewN | apply below_drew | apply below_alloc | refine below_step ?_ hb1 | refine below_step ?_ hb2))) hc2 HEC.out).mono ?_; rintro e w1 ⟨rfl, hb1⟩)
    | (go_at_call 75; refine (impl_lightCode.calls k a0_0 a0_1 a0_2 a0_3 a0_4 a0_5 a1 A2 c2 l2 cl _ (Kd.C_below HR2.out (by repeat (first | exact Below.refl _ _ | apply pw_below_drewN | apply below_drew | apply below_alloc | refine below_step ?_ hb1 | refine below_step ?_ hb2))) hc2 HLC.out).mono ?_; rintro e w2 ⟨rfl, hb2⟩)
    | (go_at_call 54; refine (impl_firstOf.calls k _ 2 [c1, cl] 0 _ (by repeat (first | exact C_new2 _ c1 cl | (with_reducible refine Kd.C_drewN ?_ _) | (with_reducible refine Kd.C_drew ?_))) (Nat.le_refl _) HFO.out).mono ?_; rintro e w3 ⟨rfl, ⟨nd, rfl⟩⟩))
  have s0 : (World.drewN (World.alloc w2 (.cells #[.int .i64 c1, .int .i64 cl] 2)) nd).cell? ⟨w.heap.size, 0, none⟩ = some (.int .u8 a0_0) := pw_cell_below (pw_below_drewN (below_alloc (Below.refl _ _) _) nd) (pw_cell_below hb2 (pw_cell_below hb1 q0))
  have s1 : (World.drewN (World.alloc w2 (.cells #[.int .i64 c1, .int .i64 cl] 2)) nd).cell? ⟨w.heap.size, 1, none⟩ = some (.int .u8 a0_1) := pw_cell_below (pw_below_drewN (below_alloc (Below.refl _ _) _) nd) (pw_cell_below hb2 (pw_cell_below hb1 q1))
  have s2 : (World.drewN (World.alloc w2 (.cells #[.int .i64 c1, .int .i64 cl] 2)) nd).cell? ⟨w.heap.size, 2, none⟩ = some (.int .u8 a0_2) := pw_cell_below (pw_below_drewN (below_alloc (Below.refl _ _) _) nd) (pw_cell_below hb2 (pw_cell_below hb1 q2))
  have s3 : (World.drewN (World.alloc w2 (.cells #[.int .i64 c1, .int .i64 cl] 2)) nd).cell? ⟨w.heap.size, 3, none⟩ = some (.int .u8 a0_3) := pw_cell_below (pw_below_drewN (below_alloc (Below.refl _ _) _) nd) (pw_cell_below hb2 (pw_cell_below hb1 q3))
  have s4 : (World.drewN (World.alloc w2 (.cells #[.int .i64 c1, .int .i64 cl] 2)) nd).cell? ⟨w.heap.size, 4, none⟩ = some (.int .u8 a0_4) := pw_cell_below (pw_below_drewN (below_alloc (Below.refl _ _) _) nd) (pw_cell_below hb2 (pw_cell_below hb1 q4))
  have s5 : (World.drewN (World.alloc w2 (.cells #[.int .i64 c1, .int .i64 cl] 2)) nd).cell? ⟨w.heap.size, 5, none⟩ = some (.int .u8 a0_5) := pw_cell_below (pw_below_drewN (below_alloc (Below.refl _ _) _) nd) (pw_cell_below hb2 (pw_cell_below hb1 q5))
  have s6 : (World.drewN (World.alloc w2 (.cells #[.int .i64 c1, .int .i64 cl] 2)) nd).cell? ⟨w.heap.size + 1, 0, none⟩ = some (.slice A2 l2.length c2) := pw_cell_below (pw_below_drewN (below_alloc (Below.refl _ _) _) nd) (pw_cell_below hb2 (pw_cell_below hb1 q6))
  have s7 : (World.drewN (World.alloc w2 (.cells #[.int .i64 c1, .int .i64 cl] 2)) nd).cell? ⟨w.heap.size + 1 + 1, 0, none⟩ = some (.int .i64 a3) := pw_cell_below (pw_below_drewN (below_alloc (Below.refl _ _) _) nd) (pw_cell_below hb2 (pw_cell_below hb1 q7))
  have HB3 := Aside0.mk (show Below w.heap.size w (World.drewN (World.alloc w2 (.cells #[.int .i64 c1, .int .i64 cl] 2)) nd) from by repeat (first | exact Below.refl _ _ | apply pw_below_drewN | apply below_alloc | apply below_drew | refine below_step ?_ hb2 | refine below_step ?_ hb1))
  go_wp2_with (go_at_call 84; refine (HB.out _ _ _ HB3.out s6 s7).mono ?_; rintro e w5 ⟨v5, rfl, ho5, hb5⟩; have HO5 := Aside0.mk ho5; have HB5 := Aside0.mk hb5; clear ho5 hb5)
  go_ret3
  exact ⟨_, rfl, Kd.R_lower HO5.out HB3.out.size, below_step HB3.out HB5.out⟩
 ·rw [if_neg h0] at h'
  simp only [Option.some.injEq, Prod.mk.injEq] at h'
  obtain ⟨rfl, rfl, rfl⟩ := h'
  have hc1' : (cd != 0) = true := by simp [h0]
  have hc2' : (cd == 0) = false := by simp [h0]
  clear h0
  go_enter Try.func48, Try.ntmps48
  go_wp2
  go_region_held3 (fun w' => w'.cell? ⟨w.heap.size, 0, none⟩ = some (.int .u8 a0_0) ∧ w'.cell? ⟨w.heap.size, 1, none⟩ = some (.int .u8 a0_1) ∧ w'.cell? ⟨w.heap.size, 2, none⟩ = some (.int .u8 a0_2) ∧ w'.cell? ⟨w.heap.size, 3, none⟩ = some (.int .u8 a0_3) ∧ w'.cell? ⟨w.heap.size, 4, none⟩ = some (.int .u8 a0_4) ∧ w'.cell? ⟨w.heap.size, 5, none⟩ = some (.int .u8 a0_5) ∧ w'.cell? ⟨w.heap.size + 1, 0, none⟩ = some (.slice A2 l2.length c2) ∧ w'.cell? ⟨w.heap.size + 1 + 1, 0, none⟩ = some (.int .i64 a3))
   (first | exact ⟨(by assumption), (by assumption), (by assumption), (by assumption), (by assumption), (by assumption), (by assumption), (by assumption)⟩ | exact ⟨pw_cell_below hb1 (by assumption), pw_cell_below hb1 (by assumption), pw_cell_below hb1 (by assumption), pw_cell_below hb1 (by assumption), pw_cell_below hb1 (by assumption), pw_cell_below hb1 (by assumption), pw_cell_below hb1 (by assumption), pw_cell_below hb1 (by assumption)⟩ | exact ⟨pw_cell_below hb2 (by assumption), pw_cell_below hb2 (by assumption), pw_cell_below hb2 (by assumption), pw_cell_below hb2 (by assumption), pw_cell_below hb2 (by assumption), pw_cell_below hb2 (by assumption), pw_cell_below hb2 (by assumption), pw_cell_below hb2 (by assumption)⟩ | exact ⟨pw_cell_below hb2 (pw_cell_below hb1 (by assumption)), pw_cell_below hb2 (pw_cell_below hb1 (by assumption)), pw_cell_below hb2 (pw_cell_below hb1 (by assumption)), pw_cell_below hb2 (pw_cell_below hb1 (by assumption)), pw_cell_below hb2 (pw_cell_below hb1 (by assumption)), pw_cell_below hb2 (pw_cell_below hb1 (by assumption)), pw_cell_below hb2 (pw_cell_below hb1 (by assumption)), pw_cell_below hb2 (pw_cell_below hb1 (by assumption))⟩ | exact ⟨pw_cell_below hb1 (pw_cell_below hb2 (by assumption)), pw_cell_below hb1 (pw_cell_below hb2 (by assumption)), pw_cell_below hb1 (pw_cell_below hb2 (by assumption)), pw_cell_below hb1 (pw_cell_below hb2 (by assumption)), pw_cell_below hb1 (pw_cell_below hb2 (by assumption)), pw_cell_below hb1 (pw_cell_below hb2 (by assumption)), pw_cell_below hb1 (pw_cell_below hb2 (by assumption)), pw_cell_below hb1 (pw_cell_below hb2 (by assumption))⟩ | go_keep)
   (first
    | (go_at_call 81; refine (impl_eachCode.calls k a0_0 a0_1 a0_2 a0_3 a0_4 a0_5 a1 A2 c2 l2 a3 c1 _ (Kd.C_below HR2.out (by repeat (first | exact Below.refl _ _ | apply pw_below_drewN | apply below_drew | apply below_alloc | refine below_step ?_ hb1 | refine below_step ?_ hb2))) hc2 HEC.out).mono ?_; rintro e w1 ⟨rfl, hb1⟩)
    | (go_at_call 75; refine (impl_lightCode.calls k a0_0 a0_1 a0_2 a0_3 a0_4 a0_5 a1 A2 c2 l2 cl _ (Kd.C_below HR2.out (by repeat (first | exact Below.refl _ _ | apply pw_below_drewN | apply below_drew | apply below_alloc | refine below_step ?_ hb1 | refine below_step ?_ hb2))) hc2 HLC.out).mono ?_; rintro e w2 ⟨rfl, hb2⟩)
    | (go_at_call 54; refine (impl_firstOf.calls k _ 2 [c1, cl] cd _ (by repeat (first | exact C_new2 _ c1 cl | (with_reducible refine Kd.C_drewN ?_ _) | (with_reducible refine Kd.C_drew ?_))) (Nat.le_refl _) HFO.out).mono ?_; rintro e w3 ⟨rfl, ⟨nd, rfl⟩⟩))
  have s0 : (World.drewN (World.alloc w2 (.cells #[.int .i64 c1, .int .i64 cl] 2)) nd).cell? ⟨w.heap.size, 0, none⟩ = some (.int .u8 a0_0) := pw_cell_below (pw_below_drewN (below_alloc (Below.refl _ _) _) nd) (pw_cell_below hb2 (pw_cell_below hb1 q0))
  have s1 : (World.drewN (World.alloc w2 (.cells #[.int .i64 c1, .int .i64 cl] 2)) nd).cell? ⟨w.heap.size, 1, none⟩ = some (.int .u8 a0_1) := pw_cell_below (pw_below_drewN (below_alloc (Below.refl _ _) _) nd) (pw_cell_below hb2 (pw_cell_below hb1 q1))
  have s2 : (World.drewN (World.alloc w2 (.cells #[.int .i64 c1, .int .i64 cl] 2)) nd).cell? ⟨w.heap.size, 2, none⟩ = some (.int .u8 a0_2) := pw_cell_below (pw_below_drewN (below_alloc (Below.refl _ _) _) nd) (pw_cell_below hb2 (pw_cell_below hb1 q2))
  have s3 : (World.drewN (World.alloc w2 (.cells #[.int .i64 c1, .int .i64 cl] 2)) nd).cell? ⟨w.heap.size, 3, none⟩ = some (.int .u8 a0_3) := pw_cell_below (pw_below_drewN (below_alloc (Below.refl _ _) _) nd) (pw_cell_below hb2 (pw_cell_below hb1 q3))
  have s4 : (World.drewN (World.alloc w2 (.cells #[.int .i64 c1, .int .i64 cl] 2)) nd).cell? ⟨w.heap.size, 4, none⟩ = some (.int .u8 a0_4) := pw_cell_below (pw_below_drewN (below_alloc (Below.refl _ _) _) nd) (pw_cell_below hb2 (pw_cell_below hb1 q4))
  have s5 : (World.drewN (World.alloc w2 (.cells #[.int .i64 c1, .int .i64 cl] 2)) nd).cell? ⟨w.heap.size, 5, none⟩ = some (.int .u8 a0_5) := pw_cell_below (pw_below_drewN (below_alloc (Below.refl _ _) _) nd) (pw_cell_below hb2 (pw_cell_below hb1 q5))
  have s6 : (World.drewN (World.alloc w2 (.cells #[.int .i64 c1, .int .i64 cl] 2)) nd).cell? ⟨w.heap.size + 1, 0, none⟩ = some (.slice A2 l2.length c2) := pw_cell_below (pw_below_drewN (below_alloc (Below.refl _ _) _) nd) (pw_cell_below hb2 (pw_cell_below hb1 q6))
  have s7 : (World.drewN (World.alloc w2 (.cells #[.int .i64 c1, .int .i64 cl] 2)) nd).cell? ⟨w.heap.size + 1 + 1, 0, none⟩ = some (.int .i64 a3) := pw_cell_below (pw_below_drewN (below_alloc (Below.refl _ _) _) nd) (pw_cell_below hb2 (pw_cell_below hb1 q7))
  have HB3 := Aside0.mk (show Below w.heap.size w (World.drewN (World.alloc w2 (.cells #[.int .i64 c1, .int .i64 cl] 2)) nd) from by repeat (first | exact Below.refl _ _ | apply pw_below_drewN | apply below_alloc | apply below_drew | refine below_step ?_ hb2 | refine below_step ?_ hb1))
  go_wp2
  go_ret3
  exact ⟨_, rfl, Kd.R_nil _ _ _ _ _, HB3.out⟩

end Go.Proofs.Ythodfhcaaidnmaa.Ch
