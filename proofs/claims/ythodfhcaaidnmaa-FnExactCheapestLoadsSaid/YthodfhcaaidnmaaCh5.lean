/- Functions of the program as Lean functions; of each a proof that the machine's call does what its Lean function says. -/
import Derived.Test.YthodfhcaaidnmaaCh0
import Derived.Test.YthodfhcaaidnmaaCh3
import Derived.Test.YthodfhcaaidnmaaCh4
namespace Go.Proofs.Ythodfhcaaidnmaa.Ch
open Go.RowKit Go.Proofs.YthodfhcaaidnmaaW.PrintWords Go.Proofs.YthodfhcaaidnmaaW.PrintLast Go.Proofs.YthodfhcaaidnmaaW.PrintMore
attribute [local go_sem] max2_int min2_int max_two min_two max_three min_three max_four min_four   -- for this text's walks alone
set_option linter.unusedVariables false
set_option linter.unusedSimpArgs false

/-! ### spec_l01Cost: function 80 -/
def spec_l01Cost.l0 : Nat → List (S37) → List Int → Int → Int → Int → Option (Int)
 | 0, _, _, _, _, _ => none
 | k + 1, x0, x1, x2, x7, x8 => if x8 < 8 then ((spec_l01With.f k x0 x1 x8).bind fun t171 => (if (t171.length : Int) > 0 then ((spec_l01Heats.f k t171).bind fun bt174 => (spec_l01Cost.l0 k x0 x1 x2 (wrap64 (x7 + (wrap64 (x2 + bt174.1)))) (wrap64 (x8 + 1)))) else (spec_l01Cost.l0 k x0 x1 x2 x7 (wrap64 (x8 + 1))))) else (some x7)
def spec_l01Cost.f (k : Nat) (l0 : List (S37)) (l1 : List Int) (a2 : Int) : Option (Int) := spec_l01Cost.l0 k l0 l1 a2 0 0
theorem spec_l01Cost.mono_l : ∀ k, (∀ y0 y1 y2 y3 y4, LeO (spec_l01Cost.l0 k y0 y1 y2 y3 y4) (spec_l01Cost.l0 (k + 1) y0 y1 y2 y3 y4))
 | 0 => fun _ _ _ _ _ r h => by simp [spec_l01Cost.l0] at h
 | k + 1 => by
  have ih0 := spec_l01Cost.mono_l k
  ·intro y0 y1 y2 y3 y4
   unfold spec_l01Cost.l0
   repeat' first
   | (with_reducible exact ih0 _ _ _ _ _)
   | (with_reducible exact spec_l01Heats.mono _ _)
   | (with_reducible exact spec_l01With.mono _ _ _ _)
   | (with_reducible exact LeO.refl _)
   | (with_reducible exact LeO.none _)
   | (with_reducible refine LeO.ite ?_ ?_)
   | (with_reducible refine LeO.bind ?_ (fun _ => ?_))
   | exact ih0 _ _ _ _ _
   | exact spec_l01Heats.mono _ _
   | exact spec_l01With.mono _ _ _ _
   | exact LeO.none _
   | refine LeO.ite ?_ ?_
   | refine LeO.bind ?_ (fun _ => ?_)
theorem spec_l01Cost.mono : ∀ a0 a1 a2 k, LeO (spec_l01Cost.f k a0 a1 a2) (spec_l01Cost.f (k + 1) a0 a1 a2) := by
 intro a0 a1 a2 k
 have ih0 := spec_l01Cost.mono_l k
 unfold spec_l01Cost.f
 repeat' first
   | (with_reducible exact ih0 _ _ _ _ _)
   | (with_reducible exact spec_l01Heats.mono _ _)
   | (with_reducible exact spec_l01With.mono _ _ _ _)
   | (with_reducible exact LeO.refl _)
   | (with_reducible exact LeO.none _)
   | (with_reducible refine LeO.ite ?_ ?_)
   | (with_reducible refine LeO.bind ?_ (fun _ => ?_))
   | exact ih0 _ _ _ _ _
   | exact spec_l01Heats.mono _ _
   | exact spec_l01With.mono _ _ _ _
   | exact LeO.none _
   | refine LeO.ite ?_ ?_
   | refine LeO.bind ?_ (fun _ => ?_)
set_option maxHeartbeats 8000000 in
set_option maxRecDepth 100000 in
theorem spec_l01Cost.calls (k : Nat) (A0 : Option Addr) (c0 : Nat) (l0 : List (S37)) (A1 : Option Addr) (c1 : Nat) (l1 : List Int) (a2 : Int) (r : Int) (w : World) (hr0 : Kd.C k37 w A0 l0.length l0) (hc0 : l0.length ≤ c0) (hr1 : Kd.C (Kd.int .i64) w A1 l1.length l1) (hc1 : l1.length ≤ c1) (h : spec_l01Cost.f k l0 l1 a2 = some r) :
  Calls Try.prog 80 #[.slice A0 l0.length c0, .slice A1 l1.length c1, .int .i64 a2] w fun e w' => e = .returned (.int .i64 r) ∧ Below w.heap.size w w' := by
 have HR0 := Aside0.mk hr0
 have HC0 := Aside0.mk hc0
 clear hr0 hc0
 have HR1 := Aside0.mk hr1
 have HC1 := Aside0.mk hc1
 clear hr1 hc1
 have HB := Aside0.mk (Below.refl w.heap.size w)
 have H : (spec_l01Cost.l0 k l0 l1 a2 0 0) = some r := h
 clear h
 have H' := Aside0.mk H
 clear H
 go_enter Try.func80, Try.ntmps80
 go_wp2
 go_loopg [7, 8] k (fun kq v7 v8 w' => ∃ (x7_1 : Int) (x8_1 : Int), v7 = .int .i64 x7_1 ∧ v8 = .int .i64 x8_1 ∧ Aside0 (spec_l01Cost.l0 kq l0 l1 a2 x7_1 x8_1 = some r) ∧ Aside0 (kq ≤ k) ∧ Aside0 (Below w.heap.size w w'))
 case atStart => exact ⟨(0), (0), (by first | rfl | (simp; done) | (simp [*]; done)), (by first | rfl | (simp; done) | (simp [*]; done)), H', ⟨Nat.le_refl _⟩, ⟨by repeat (first | (with_reducible first | exact HB.out | apply below_alloc | apply pw_below_drewN | apply below_drew1) | exact HB.out)⟩⟩
 case round =>
  clear H'
  try clear c1
  try clear p2
  obtain ⟨x7_1, x8_1, rfl, rfl, HA, HK1, HB⟩ := hrel
  cases gk with
  | zero => exact absurd HA.out (by simp [spec_l01Cost.l0])
  | succ k1 =>
   have H := HA.out
   clear HA
   simp only [spec_l01Cost.l0] at H
   by_cases c4 : x8_1 < 8
   ·rw [if_pos c4] at H
    have c4b0 : decide (x8_1 < 8) = true := decide_eq_true c4
    clear c4
    replace H := Option.bind_eq_some_iff.mp H
    obtain ⟨t171, A50, H⟩ := H
    replace H : (if (t171.length : Int) > 0 then ((spec_l01Heats.f k1 t171).bind fun bt174 => (spec_l01Cost.l0 k1 l0 l1 a2 (wrap64 (x7_1 + (wrap64 (a2 + bt174.1)))) (wrap64 (x8_1 + 1)))) else (spec_l01Cost.l0 k1 l0 l1 a2 x7_1 (wrap64 (x8_1 + 1)))) = some r := H
    have A5 := Aside0.mk A50
    clear A50
    by_cases c6 : (t171.length : Int) > 0
    ·rw [if_pos c6] at H
     have c6b0 : decide (0 < (t171.length : Int)) = true := decide_eq_true c6
     have c6b1 : decide (0 < t171.length) = true := decide_eq_true (by omega)
     clear c6
     replace H := Option.bind_eq_some_iff.mp H
     obtain ⟨⟨t174, t175⟩, A70, H⟩ := H
     replace H : (spec_l01Cost.l0 k1 l0 l1 a2 (wrap64 (x7_1 + (wrap64 (a2 + t174)))) (wrap64 (x8_1 + 1))) = some r := H
     have A7 := Aside0.mk A70
     clear A70
     have H' := Aside0.mk H
     clear H
     go_wp2_with (first | ((with_reducible refine gate_callee (f := 73) rfl ?_); refine goesL_ (some 19) rfl rfl Try.func73 (by kernel_rfl) rfl #[.slice A0 l0.length c0, .slice A1 l1.length c1, .int .i64 x8_1] rfl (by (try simp only [List.map_toArray, List.map_cons, List.map_nil]); first | done | rfl | (simp only [List.length_drop, List.length_take]; rfl)) ?_; (with_reducible refine (spec_l01With.calls k1 _ _ l0 _ _ l1 x8_1 t171 _ ?side1 ?side2 ?side3 ?side4 A5.out).mono ?_); (case side1 => repeat (first | exact (Kd.C_below HR0.out HB.out) | (with_reducible refine Kd.C_alloc ?_ _) | (with_reducible refine Kd.C_drewN ?_ _) | (with_reducible refine Kd.C_drew ?_))); (case side2 => exact HC0.out); (case side3 => repeat (first | exact (Kd.C_below HR1.out HB.out) | (with_reducible refine Kd.C_alloc ?_ _) | (with_reducible refine Kd.C_drewN ?_ _) | (with_reducible refine Kd.C_drew ?_))); (case side4 => exact HC1.out); rintro e w8 ⟨v172, rfl, ho0, hb⟩; refine ⟨_, rfl, ?_⟩; have n0_ := Aside0.mk (Kd.R_lower ho0 (below_size (by repeat (first | (with_reducible first | exact HB.out | apply below_alloc | apply pw_below_drewN | apply below_drew1) | exact HB.out)))); have n1_ := Aside0.mk (below_step (by repeat (first | (with_reducible first | exact HB.out | apply below_alloc | apply pw_below_drewN | apply below_drew1) | exact HB.out)) hb); clear HB; have HO173 := n0_; have HB := n1_; clear n0_ n1_; (try clear hb); (try clear hb2); (try clear hk); (try clear hi); (try clear ho0); obtain ⟨Ao9, co9, eo9⟩ := Kd.R_slice HO173.out; subst eo9) | ((with_reducible refine gate_callee (f := 62) rfl ?_); refine goesL_ (some 25) rfl rfl Try.func62 (by kernel_rfl) rfl #[.slice Ao9 t171.length co9] rfl (by (try simp only [List.map_toArray, List.map_cons, List.map_nil]); first | done | rfl | (simp only [List.length_drop, List.length_take]; rfl)) ?_; (with_reducible refine (spec_l01Heats.calls k1 _ _ t171 t174 t175 _ ?side1 ?side2 A7.out).mono ?_); (case side1 => repeat (first | exact (Kd.R_reads' HO173.out).2.2 | (with_reducible refine Kd.C_alloc ?_ _) | (with_reducible refine Kd.C_drewN ?_ _) | (with_reducible refine Kd.C_drew ?_))); (case side2 => exact (Kd.R_reads' HO173.out).2.1); rintro e w' ⟨rfl, ⟨nd, rfl⟩⟩; refine ⟨_, rfl, ?_⟩))
     go_roundg k1
     case measure => have := HK1.out; omega
     case rel => exact ⟨(wrap64 (x7_1 + (wrap64 (a2 + t174)))), (wrap64 (x8_1 + 1)), (by first | rfl | (simp; done) | (simp [*]; done)), (by first | rfl | (simp; done) | (simp [*]; done)), H', ⟨by have := HK1.out; omega⟩, ⟨by repeat (first | (with_reducible first | exact HB.out | apply below_alloc | apply pw_below_drewN | apply below_drew1) | exact HB.out)⟩⟩
    ·rw [if_neg c6] at H
     have c6b0 : decide (0 < (t171.length : Int)) = false := decide_eq_false c6
     have c6b1 : decide (0 < t171.length) = false := decide_eq_false (by omega)
     clear c6
     have H' := Aside0.mk H
     clear H
     go_wp2_with (first | ((with_reducible refine gate_callee (f := 73) rfl ?_); refine goesL_ (some 19) rfl rfl Try.func73 (by kernel_rfl) rfl #[.slice A0 l0.length c0, .slice A1 l1.length c1, .int .i64 x8_1] rfl (by (try simp only [List.map_toArray, List.map_cons, List.map_nil]); first | done | rfl | (simp only [List.length_drop, List.length_take]; rfl)) ?_; (with_reducible refine (spec_l01With.calls k1 _ _ l0 _ _ l1 x8_1 t171 _ ?side1 ?side2 ?side3 ?side4 A5.out).mono ?_); (case side1 => repeat (first | exact (Kd.C_below HR0.out HB.out) | (with_reducible refine Kd.C_alloc ?_ _) | (with_reducible refine Kd.C_drewN ?_ _) | (with_reducible refine Kd.C_drew ?_))); (case side2 => exact HC0.out); (case side3 => repeat (first | exact (Kd.C_below HR1.out HB.out) | (with_reducible refine Kd.C_alloc ?_ _) | (with_reducible refine Kd.C_drewN ?_ _) | (with_reducible refine Kd.C_drew ?_))); (case side4 => exact HC1.out); rintro e w10 ⟨v172, rfl, ho0, hb⟩; refine ⟨_, rfl, ?_⟩; have n0_ := Aside0.mk (Kd.R_lower ho0 (below_size (by repeat (first | (with_reducible first | exact HB.out | apply below_alloc | apply pw_below_drewN | apply below_drew1) | exact HB.out)))); have n1_ := Aside0.mk (below_step (by repeat (first | (with_reducible first | exact HB.out | apply below_alloc | apply pw_below_drewN | apply below_drew1) | exact HB.out)) hb); clear HB; have HO173 := n0_; have HB := n1_; clear n0_ n1_; (try clear hb); (try clear hb2); (try clear hk); (try clear hi); (try clear ho0); obtain ⟨Ao11, co11, eo11⟩ := Kd.R_slice HO173.out; subst eo11))
     go_roundg k1
     case measure => have := HK1.out; omega
     case rel => exact ⟨(x7_1), (wrap64 (x8_1 + 1)), (by first | rfl | (simp; done) | (simp [*]; done)), (by first | rfl | (simp; done) | (simp [*]; done)), H', ⟨by have := HK1.out; omega⟩, ⟨by repeat (first | (with_reducible first | exact HB.out | apply below_alloc | apply pw_below_drewN | apply below_drew1) | exact HB.out)⟩⟩
   ·rw [if_neg c4] at H
    have c4b0 : decide (x8_1 < 8) = false := decide_eq_false c4
    clear c4
    obtain rfl := Option.some.inj H
    go_wp2
    go_ret
    exact ⟨by first | rfl | (simp [errW_none, errW_some] <;> rfl) | (simp [*, errW_none, errW_some] <;> rfl), by repeat (first | (with_reducible first | exact HB.out | apply below_alloc | apply pw_below_drewN | apply below_drew1) | exact HB.out)⟩

/-! ### spec_l01Search_from: function 83 (told by hand) -/
def fromL {σ : Type} (step : Nat → σ → Option σ) : Nat → Nat → σ → Option σ
 | 0, _, s => some s
 | r + 1, kk, s => (step kk s).bind fun s => fromL step r (kk + 1) s
def fromS {σ : Type} (ld : List Int → Int → Option Bool) (cs : List Int → Nat → Option Int) (up : Int → List Int → σ → σ) : Nat → List Int → Nat → σ → Option σ
 | 0, o, m, s => (cs o m).bind fun c => some (up c o s)
 | d + 1, o, m, s => fromL (fun k s => (ld o (k : Int)).bind fun b => if b = true then fromS ld cs up d (o ++ [(k : Int)]) (max m (k + 1)) s else some s) (m + 1) 0 s
def upS (c : Int) (o : List Int) (s : List Int × Int × Bool) : List Int × Int × Bool := if s.2.2 = false ∨ c < s.2.1 then (o, c, true) else s
def ldS (K : Nat) (a0 a1 a2 a3 a4 a5 hold : Int) (l : List S37) (o : List Int) (k : Int) : Option Bool := (spec_l01With.f K l o k).bind fun p => if p.length ≤ 1048576 then spec_l01Load.f K a0 a1 a2 a3 a4 a5 hold (p ++ [rd_T37 l (o.length : Int)]) else none
def csS (K : Nat) (l : List S37) (each : Int) (o : List Int) (m : Nat) : Option Int := if each ≥ 0 then spec_l01Cost.f K l o each else some (m : Int)
theorem fromL_mono {σ : Type} {s1 s2 : Nat → σ → Option σ} (h : ∀ k s, LeO (s1 k s) (s2 k s)) : ∀ (r kk : Nat) (s : σ), LeO (fromL s1 r kk s) (fromL s2 r kk s) := by
 intro r
 induction r with
 | zero => exact fun _ _ => LeO.refl _
 | succ r ih =>
  intro kk s
  rw [fromL, fromL]
  exact LeO.bind (h kk s) (fun _ => ih _ _)
theorem fromS_mono {σ : Type} {l1 l2 : List Int → Int → Option Bool} {c1 c2 : List Int → Nat → Option Int} (up : Int → List Int → σ → σ) (hl : ∀ o k, LeO (l1 o k) (l2 o k)) (hc : ∀ o m, LeO (c1 o m) (c2 o m)) : ∀ (d : Nat) (o : List Int) (m : Nat) (s : σ), LeO (fromS l1 c1 up d o m s) (fromS l2 c2 up d o m s) := by
 intro d
 induction d with
 | zero =>
  intro o m s
  rw [fromS, fromS]
  exact LeO.bind (hc o m) (fun _ => LeO.refl _)
 | succ d ih =>
  intro o m s
  rw [fromS, fromS]
  exact fromL_mono (fun k s => LeO.bind (hl o k) (fun b => LeO.ite (ih _ _ _) (LeO.refl _))) _ _ _
theorem ldS_mono (K : Nat) (a0 a1 a2 a3 a4 a5 hold : Int) (l : List S37) (o : List Int) (k : Int) : LeO (ldS K a0 a1 a2 a3 a4 a5 hold l o k) (ldS (K + 1) a0 a1 a2 a3 a4 a5 hold l o k) :=
 LeO.bind (spec_l01With.mono l o k K) (fun _ => LeO.ite (spec_l01Load.mono a0 a1 a2 a3 a4 a5 hold _ K) (LeO.refl _))
theorem csS_mono (K : Nat) (l : List S37) (each : Int) (o : List Int) (m : Nat) : LeO (csS K l each o m) (csS (K + 1) l each o m) := LeO.ite (spec_l01Cost.mono l o each K) (LeO.refl _)
theorem C_newS (w : World) (x : S37) : Kd.C k37 (w.alloc (.cells #[.int .u8 x.f0, .int .i8 x.f1, .int .i8 x.f2, .int .i16 x.f3] 37)) (some ⟨w.heap.size, 0, none⟩) [x].length [x] := by
 refine Own.C_single [.int .u8 x.f0, .int .i8 x.f1, .int .i8 x.f2, .int .i16 x.f3] (k37_mk _ x) (fun i u hu => ?_)
 rcases i with _ | _ | _ | _ | i <;> simp at hu
 all_goals
  subst hu
  simp [go_sem]
theorem put9 {W : World} {gs : Nat} {a b c d e f g h i j k l : Value} (h1 : W.heap[gs]? = some (.cells #[a,b,c,d,e,f,g,h,i,j,k,l] 99 (0, 0))) (u : Value) : (W.setCell ⟨gs, 9, none⟩ u).heap[gs]? = some (.cells #[a,b,c,d,e,f,g,h,i,u,k,l] 99 (0, 0)) := blk_put h1 9 u rfl
theorem put10 {W : World} {gs : Nat} {a b c d e f g h i j k l : Value} (h1 : W.heap[gs]? = some (.cells #[a,b,c,d,e,f,g,h,i,j,k,l] 99 (0, 0))) (u : Value) : (W.setCell ⟨gs, 10, none⟩ u).heap[gs]? = some (.cells #[a,b,c,d,e,f,g,h,i,j,u,l] 99 (0, 0)) := blk_put h1 10 u rfl
theorem put11 {W : World} {gs : Nat} {a b c d e f g h i j k l : Value} (h1 : W.heap[gs]? = some (.cells #[a,b,c,d,e,f,g,h,i,j,k,l] 99 (0, 0))) (u : Value) : (W.setCell ⟨gs, 11, none⟩ u).heap[gs]? = some (.cells #[a,b,c,d,e,f,g,h,i,j,k,u] 99 (0, 0)) := blk_put h1 11 u rfl
theorem kept3 {w W : World} {gs : Nat} (h : Kept w W (fun k => k = gs)) (v m b : Value) : Kept w (((W.setCell ⟨gs, 9, none⟩ v).setCell ⟨gs, 10, none⟩ m).setCell ⟨gs, 11, none⟩ b) (fun k => k = gs) := by
 have h1 : Kept w (W.setCell ⟨gs, 9, none⟩ v) (fun k => k = gs) := Kept.setCell h (p := ⟨gs, 9, none⟩) (Or.inl (Eq.refl gs)) v
 have h2 : Kept w ((W.setCell ⟨gs, 9, none⟩ v).setCell ⟨gs, 10, none⟩ m) (fun k => k = gs) := Kept.setCell h1 (p := ⟨gs, 10, none⟩) (Or.inl (Eq.refl gs)) m
 exact Kept.setCell h2 (p := ⟨gs, 11, none⟩) (Or.inl (Eq.refl gs)) b
structure StS (W0 : World) (gs : Nat) (a0 a1 a2 a3 a4 a5 hold each : Int) (l2 : List S37) (A2 : Option Addr) (c2 : Nat) (W : World) (s : List Int × Int × Bool) : Prop where
 bel : Below W0.heap.size W0 W
 hb : ∃ v : Value, W.heap[gs]? = some (.cells #[.int .u8 a0, .int .u8 a1, .int .u8 a2, .int .u8 a3, .int .u8 a4, .int .u8 a5, .int .i64 hold, .slice A2 l2.length c2, .int .i64 each, v, .int .i64 s.2.1, .bool s.2.2] 99 (0, 0)) ∧ Kd.R (Kd.int .i64) 2 W W0.heap.size (fun k => k ≠ gs) v s.1
theorem StS.below {W0 W W' : World} {gs : Nat} {a0 a1 a2 a3 a4 a5 hold each : Int} {l2 : List S37} {A2 : Option Addr} {c2 : Nat} {s : List Int × Int × Bool} (h : StS W0 gs a0 a1 a2 a3 a4 a5 hold each l2 A2 c2 W s) (b : Below W.heap.size W W') : StS W0 gs a0 a1 a2 a3 a4 a5 hold each l2 A2 c2 W' s := by
 obtain ⟨v, h1, h2⟩ := h.hb
 exact ⟨below_step h.bel b, v, blk_below h1 b, Kd.R_below h2 b⟩
set_option maxHeartbeats 2000000 in
theorem StS.store {W0 W : World} {gs : Nat} {a0 a1 a2 a3 a4 a5 hold each : Int} {l2 : List S37} {A2 : Option Addr} {c2 : Nat} {s : List Int × Int × Bool} {v : Value} {o : List Int} {c : Int} (h : StS W0 gs a0 a1 a2 a3 a4 a5 hold each l2 A2 c2 W s) (hg : W0.heap.size ≤ gs)
  (ho : Kd.R (Kd.int .i64) 2 W W0.heap.size (fun k => k ≠ gs) v o) : StS W0 gs a0 a1 a2 a3 a4 a5 hold each l2 A2 c2 (((W.setCell ⟨gs, 9, none⟩ v).setCell ⟨gs, 10, none⟩ (.int .i64 c)).setCell ⟨gs, 11, none⟩ (.bool true)) (o, c, true) := by
 obtain ⟨v0, h1, h2⟩ := h.hb
 have hk := kept3 (Kept.refl W (fun k => k = gs)) v (.int .i64 c) (.bool true)
 have b4 : (W.setCell ⟨gs, 9, none⟩ v).heap[gs]? = some (.cells #[.int .u8 a0, .int .u8 a1, .int .u8 a2, .int .u8 a3, .int .u8 a4, .int .u8 a5, .int .i64 hold, .slice A2 l2.length c2, .int .i64 each, v, .int .i64 s.2.1, .bool s.2.2] 99 (0, 0)) := put9 h1 v
 have b5 : ((W.setCell ⟨gs, 9, none⟩ v).setCell ⟨gs, 10, none⟩ (.int .i64 c)).heap[gs]? = some (.cells #[.int .u8 a0, .int .u8 a1, .int .u8 a2, .int .u8 a3, .int .u8 a4, .int .u8 a5, .int .i64 hold, .slice A2 l2.length c2, .int .i64 each, v, .int .i64 c, .bool s.2.2] 99 (0, 0)) := put10 b4 _
 have b6 : (((W.setCell ⟨gs, 9, none⟩ v).setCell ⟨gs, 10, none⟩ (.int .i64 c)).setCell ⟨gs, 11, none⟩ (.bool true)).heap[gs]? = some (.cells #[.int .u8 a0, .int .u8 a1, .int .u8 a2, .int .u8 a3, .int .u8 a4, .int .u8 a5, .int .i64 hold, .slice A2 l2.length c2, .int .i64 each, v, .int .i64 c, .bool true] 99 (0, 0)) := put11 b5 _
 exact ⟨below_set (below_set (below_set h.bel hg) hg) hg, v, b6, Kd.R_kept ho hk (fun k hk hS => hk hS)⟩
set_option maxHeartbeats 4000000 in
set_option maxRecDepth 100000 in
theorem from_zeroA (K : Nat) (W0 : World) (gs : Nat) (a0 a1 a2 a3 a4 a5 hold each : Int) (l2 : List S37) (A2 : Option Addr) (c2 : Nat) (hn : l2.length ≤ 1000) (hgs : W0.heap.size ≤ gs) (hr2 : Kd.C k37 W0 A2 l2.length l2) (hc2 : l2.length ≤ c2) (hec : each < 0)
  (W : World) (A : Option Addr) (n c : Nat) (o : List Int) (m : Nat) (s : List Int × Int × Bool) (x : Int) (hd : o.length = l2.length) (hR : Kd.R (Kd.int .i64) 2 W W0.heap.size (fun k => k ≠ gs) (.slice A o.length c) o) (hoc : o.length ≤ c) (hS : StS W0 gs a0 a1 a2 a3 a4 a5 hold each l2 A2 c2 W s)
  (h : x = (m : Int)) (p1 p2 : Bool) (hp1 : s.2.2 = !p1) (hp2 : decide (x < s.2.1) = p2) :
  Calls Try.prog 83 #[.pointer (some ⟨gs, 0, none⟩), .slice A o.length c, .int .i64 (m : Int)] W fun e w' => e = .returned (.tuple #[]) ∧ Kept W w' (fun k => k = gs) ∧ StS W0 gs a0 a1 a2 a3 a4 a5 hold each l2 A2 c2 w' (upS x o s) := by
 have HS := Aside0.mk hS
 have HR := Aside0.mk hR
 have HR2 := Aside0.mk (Kd.C_below hr2 hS.bel)
 have HCo := Aside0.mk (Kd.R_reads' hR).2.2
 obtain ⟨vb, hblk, _⟩ := hS.hb
 obtain ⟨s1, s2, s3⟩ := s
 simp only at hp1 hp2 hblk
 subst hp1
 have HOL := Aside0.mk (show o.length ≤ 1000 by omega)
 have hn0 : l2.length ≤ 9223372036854775807 := by omega
 have c7 : W.cell? ⟨gs, 7, none⟩ = some (.slice A2 l2.length c2) := (blk_cell hblk 7).trans rfl
 have c8 : W.cell? ⟨gs, 8, none⟩ = some (.int .i64 each) := (blk_cell hblk 8).trans rfl
 have c10 : W.cell? ⟨gs, 10, none⟩ = some (.int .i64 s2) := (blk_cell hblk 10).trans rfl
 have c11 : W.cell? ⟨gs, 11, none⟩ = some (.bool (!p1)) := (blk_cell hblk 11).trans rfl
 have HBK := Aside0.mk hblk
 have e1 : ((o.length : Int) == (l2.length : Int)) = true := by simp; omega
 have e2 : (o.length == l2.length) = true := by simp; omega
 have HH := Aside0.mk h
 have HU := Aside0.mk (show upS x o (s1, s2, !p1) = if (!p1) = false ∨ x < s2 then (o, x, true) else (s1, s2, !p1) from rfl)
 have HG := Aside0.mk hgs
 have e3 : decide (each ≥ 0) = false := decide_eq_false (by omega)
 have e4 : decide (0 ≤ each) = false := decide_eq_false (by omega)
 obtain rfl := h
 clear HH
 clear hS hR hr2 hblk hn hgs hd
 have LG := Aside0.mk (show gs < W.heap.size from blk_lt HBK.out)
 have LW := Aside0.mk (show W0.heap.size ≤ W.heap.size from HS.out.bel.size)
 cases p1 with
 | true =>
  have HU2 := Aside0.mk (HU.out.trans (if_pos (.inl rfl)))
  clear HU
  simp only [Bool.not_true] at c11 HU2 HBK HS ⊢
  go_enter Try.func83, Try.ntmps83
  go_wp2_with (first | ((with_reducible refine gate_dst (N := 48) rfl ?_); refine Kd.R_lit (Kd.int .i64) _ 2 ?hg (N := 48) ?hd (xs := ([] : List Int)) (inner := []) (ok := fun _ => True) (okp := fun _ => True) ?hr ?hp (fun _ hk => hk) trivial (Below.refl _ _) (Nat.le_refl _) (by simp) ?_; (case hd => rfl); (case hg => rfl); (case hr => first | (go_simp; done) | (go_simp; rfl)); (case hp => exact (Reps.none _ _)); intro v2 w2 ho2 hb2 hg_ hnew_; clear hg_ hnew_; have HO2 := Aside0.mk ho2; have HB2 := Aside0.mk hb2; clear ho2 hb2) | ((with_reducible refine gate_builtin (b := .append) (xs := #[.tmp 48, .tmp 49]) rfl ?_); at_builtin; refine Kd.R_append_rows (Kd.int .i64) (w0 := W) W.heap.size rfl (.tmp 48) (.tmp 49) 51 2 (.int .i64 0) 8 rfl Try.underlying51 info2 rfl (by decide) (by omega) v2 [] o _ _ _ (fun _ => True) (fun _ => False) rfl rfl HO2.out (Kd.C_below HCo.out HB2.out) (fun _ _ h => h) (fun _ h => h.elim) (fun _ _ => trivial) HB2.out HB2.out.size (by have := HOL.out; simp; omega) ?_; intro v3 w3 ho3 hb3 hg3 hat3; rw [List.nil_append] at ho3; obtain ⟨B3, d3, rfl, hd3, hC3⟩ := Kd.R_reads ho3; have b3 := blk_below HBK.out hb3; have p1_ : w3.cell? ⟨gs, 9, none⟩ = some vb := (blk_cell b3 9).trans rfl; have p2_ := blk_frozen b3 9; have b4 : (w3.setCell ⟨gs, 9, none⟩ (.slice B3 o.length d3)).heap[gs]? = some (.cells #[.int .u8 a0, .int .u8 a1, .int .u8 a2, .int .u8 a3, .int .u8 a4, .int .u8 a5, .int .i64 hold, .slice A2 l2.length c2, .int .i64 each, .slice B3 o.length d3, .int .i64 s2, .bool false] 99 (0, 0)) := put9 b3 _; have p3_ : (w3.setCell ⟨gs, 9, none⟩ (.slice B3 o.length d3)).cell? ⟨gs, 10, none⟩ = some (.int .i64 s2) := (blk_cell b4 10).trans rfl; have p4_ := blk_frozen b4 10; have b5 : ((w3.setCell ⟨gs, 9, none⟩ (.slice B3 o.length d3)).setCell ⟨gs, 10, none⟩ (.int .i64 (m : Int))).heap[gs]? = some (.cells #[.int .u8 a0, .int .u8 a1, .int .u8 a2, .int .u8 a3, .int .u8 a4, .int .u8 a5, .int .i64 hold, .slice A2 l2.length c2, .int .i64 each, .slice B3 o.length d3, .int .i64 (m : Int), .bool false] 99 (0, 0)) := put10 b4 _; have p5_ : ((w3.setCell ⟨gs, 9, none⟩ (.slice B3 o.length d3)).setCell ⟨gs, 10, none⟩ (.int .i64 (m : Int))).cell? ⟨gs, 11, none⟩ = some (.bool false) := (blk_cell b5 11).trans rfl; have p6_ := blk_frozen b5 11; have HO3 := Aside0.mk ho3; have HB3 := Aside0.mk hb3; clear b3 b4 b5 ho3 hb3 hg3 hat3 hC3 hd3))
  (try simp only [Exit.inBlock, Exit.then]); refine bodyPost_ret (results_none rfl _ _ _) rfl ?_
  rw [HU2.out]
  exact ⟨rfl, kept3 (Kept.of_below HB3.out _) _ _ _, (HS.out.below HB3.out).store HG.out (Kd.R_lower (Kd.R_mono (Kd.R_bound HO3.out) (fun k hk => by have := hk.2.1; have := LG.out; omega)) LW.out)⟩
 | false =>
  simp only [Bool.not_false] at c11 HBK HS HU ⊢
  cases p2 with
  | true =>
   have HU2 := Aside0.mk (HU.out.trans (if_pos (.inr (of_decide_eq_true hp2))))
   clear HU
   go_enter Try.func83, Try.ntmps83
   go_wp2_with (first | ((with_reducible refine gate_dst (N := 48) rfl ?_); refine Kd.R_lit (Kd.int .i64) _ 2 ?hg (N := 48) ?hd (xs := ([] : List Int)) (inner := []) (ok := fun _ => True) (okp := fun _ => True) ?hr ?hp (fun _ hk => hk) trivial (Below.refl _ _) (Nat.le_refl _) (by simp) ?_; (case hd => rfl); (case hg => rfl); (case hr => first | (go_simp; done) | (go_simp; rfl)); (case hp => exact (Reps.none _ _)); intro v2 w2 ho2 hb2 hg_ hnew_; clear hg_ hnew_; have HO2 := Aside0.mk ho2; have HB2 := Aside0.mk hb2; clear ho2 hb2) | ((with_reducible refine gate_builtin (b := .append) (xs := #[.tmp 48, .tmp 49]) rfl ?_); at_builtin; refine Kd.R_append_rows (Kd.int .i64) (w0 := W) W.heap.size rfl (.tmp 48) (.tmp 49) 51 2 (.int .i64 0) 8 rfl Try.underlying51 info2 rfl (by decide) (by omega) v2 [] o _ _ _ (fun _ => True) (fun _ => False) rfl rfl HO2.out (Kd.C_below HCo.out HB2.out) (fun _ _ h => h) (fun _ h => h.elim) (fun _ _ => trivial) HB2.out HB2.out.size (by have := HOL.out; simp; omega) ?_; intro v3 w3 ho3 hb3 hg3 hat3; rw [List.nil_append] at ho3; obtain ⟨B3, d3, rfl, hd3, hC3⟩ := Kd.R_reads ho3; have b3 := blk_below HBK.out hb3; have p1_ : w3.cell? ⟨gs, 9, none⟩ = some vb := (blk_cell b3 9).trans rfl; have p2_ := blk_frozen b3 9; have b4 : (w3.setCell ⟨gs, 9, none⟩ (.slice B3 o.length d3)).heap[gs]? = some (.cells #[.int .u8 a0, .int .u8 a1, .int .u8 a2, .int .u8 a3, .int .u8 a4, .int .u8 a5, .int .i64 hold, .slice A2 l2.length c2, .int .i64 each, .slice B3 o.length d3, .int .i64 s2, .bool true] 99 (0, 0)) := put9 b3 _; have p3_ : (w3.setCell ⟨gs, 9, none⟩ (.slice B3 o.length d3)).cell? ⟨gs, 10, none⟩ = some (.int .i64 s2) := (blk_cell b4 10).trans rfl; have p4_ := blk_frozen b4 10; have b5 : ((w3.setCell ⟨gs, 9, none⟩ (.slice B3 o.length d3)).setCell ⟨gs, 10, none⟩ (.int .i64 (m : Int))).heap[gs]? = some (.cells #[.int .u8 a0, .int .u8 a1, .int .u8 a2, .int .u8 a3, .int .u8 a4, .int .u8 a5, .int .i64 hold, .slice A2 l2.length c2, .int .i64 each, .slice B3 o.length d3, .int .i64 (m : Int), .bool true] 99 (0, 0)) := put10 b4 _; have p5_ : ((w3.setCell ⟨gs, 9, none⟩ (.slice B3 o.length d3)).setCell ⟨gs, 10, none⟩ (.int .i64 (m : Int))).cell? ⟨gs, 11, none⟩ = some (.bool true) := (blk_cell b5 11).trans rfl; have p6_ := blk_frozen b5 11; have HO3 := Aside0.mk ho3; have HB3 := Aside0.mk hb3; clear b3 b4 b5 ho3 hb3 hg3 hat3 hC3 hd3))
   (try simp only [Exit.inBlock, Exit.then]); refine bodyPost_ret (results_none rfl _ _ _) rfl ?_
   rw [HU2.out]
   exact ⟨rfl, kept3 (Kept.of_below HB3.out _) _ _ _, (HS.out.below HB3.out).store HG.out (Kd.R_lower (Kd.R_mono (Kd.R_bound HO3.out) (fun k hk => by have := hk.2.1; have := LG.out; omega)) LW.out)⟩
  | false =>
   have HU2 := Aside0.mk (HU.out.trans (if_neg (by rintro (h | h); cases h; exact of_decide_eq_false hp2 h)))
   clear HU
   go_enter Try.func83, Try.ntmps83
   go_wp2_with fail
   (try simp only [Exit.inBlock, Exit.then]); refine bodyPost_ret (results_none rfl _ _ _) rfl ?_
   rw [HU2.out]
   exact ⟨rfl, Kept.refl _ _, HS.out⟩
set_option maxHeartbeats 4000000 in
set_option maxRecDepth 100000 in
theorem from_zeroB (K : Nat) (W0 : World) (gs : Nat) (a0 a1 a2 a3 a4 a5 hold each : Int) (l2 : List S37) (A2 : Option Addr) (c2 : Nat) (hn : l2.length ≤ 1000) (hgs : W0.heap.size ≤ gs) (hr2 : Kd.C k37 W0 A2 l2.length l2) (hc2 : l2.length ≤ c2) (hec : each ≥ 0)
  (W : World) (A : Option Addr) (n c : Nat) (o : List Int) (m : Nat) (s : List Int × Int × Bool) (x : Int) (hd : o.length = l2.length) (hR : Kd.R (Kd.int .i64) 2 W W0.heap.size (fun k => k ≠ gs) (.slice A o.length c) o) (hoc : o.length ≤ c) (hS : StS W0 gs a0 a1 a2 a3 a4 a5 hold each l2 A2 c2 W s)
  (h : spec_l01Cost.f K l2 o each = some x) (p1 p2 : Bool) (hp1 : s.2.2 = !p1) (hp2 : decide (x < s.2.1) = p2) :
  Calls Try.prog 83 #[.pointer (some ⟨gs, 0, none⟩), .slice A o.length c, .int .i64 (m : Int)] W fun e w' => e = .returned (.tuple #[]) ∧ Kept W w' (fun k => k = gs) ∧ StS W0 gs a0 a1 a2 a3 a4 a5 hold each l2 A2 c2 w' (upS x o s) := by
 have HS := Aside0.mk hS
 have HR := Aside0.mk hR
 have HR2 := Aside0.mk (Kd.C_below hr2 hS.bel)
 have HCo := Aside0.mk (Kd.R_reads' hR).2.2
 obtain ⟨vb, hblk, _⟩ := hS.hb
 obtain ⟨s1, s2, s3⟩ := s
 simp only at hp1 hp2 hblk
 subst hp1
 have HOL := Aside0.mk (show o.length ≤ 1000 by omega)
 have hn0 : l2.length ≤ 9223372036854775807 := by omega
 have c7 : W.cell? ⟨gs, 7, none⟩ = some (.slice A2 l2.length c2) := (blk_cell hblk 7).trans rfl
 have c8 : W.cell? ⟨gs, 8, none⟩ = some (.int .i64 each) := (blk_cell hblk 8).trans rfl
 have c10 : W.cell? ⟨gs, 10, none⟩ = some (.int .i64 s2) := (blk_cell hblk 10).trans rfl
 have c11 : W.cell? ⟨gs, 11, none⟩ = some (.bool (!p1)) := (blk_cell hblk 11).trans rfl
 have HBK := Aside0.mk hblk
 have e1 : ((o.length : Int) == (l2.length : Int)) = true := by simp; omega
 have e2 : (o.length == l2.length) = true := by simp; omega
 have HH := Aside0.mk h
 have HU := Aside0.mk (show upS x o (s1, s2, !p1) = if (!p1) = false ∨ x < s2 then (o, x, true) else (s1, s2, !p1) from rfl)
 have HG := Aside0.mk hgs
 have e3 : decide (each ≥ 0) = true := decide_eq_true hec
 have e4 : decide (0 ≤ each) = true := decide_eq_true hec
 clear hS hR hr2 hblk h hn hgs hd
 have LG := Aside0.mk (show gs < W.heap.size from blk_lt HBK.out)
 have LW := Aside0.mk (show W0.heap.size ≤ W.heap.size from HS.out.bel.size)
 cases p1 with
 | true =>
  have HU2 := Aside0.mk (HU.out.trans (if_pos (.inl rfl)))
  clear HU
  simp only [Bool.not_true] at c11 HU2 HBK HS ⊢
  go_enter Try.func83, Try.ntmps83
  go_wp2
  go_region_held3 (fun w' => w'.cell? ⟨gs, 7, none⟩ = some (.slice A2 l2.length c2) ∧ w'.cell? ⟨gs, 8, none⟩ = some (.int .i64 each))
   (first | exact ⟨c7, c8⟩ | exact ⟨pw_cell_below hb1 c7, pw_cell_below hb1 c8⟩)
   (first | (go_at_call 80; refine (spec_l01Cost.calls K A2 c2 l2 A c o each x _ (Kd.C_below HR2.out (below_drew (Below.refl _ _))) hc2 (Kd.C_below HCo.out (below_drew (Below.refl _ _))) hoc HH.out).mono ?_; rintro e w1 ⟨rfl, hb1⟩))
  have HBC := Aside0.mk (show Below W.heap.size W w1 from below_step (below_drew (Below.refl _ _)) hb1)
  have HBK1 := Aside0.mk (blk_below HBK.out HBC.out)
  have d10 : w1.cell? ⟨gs, 10, none⟩ = some (.int .i64 s2) := (blk_cell HBK1.out 10).trans rfl
  have d11 : w1.cell? ⟨gs, 11, none⟩ = some (.bool false) := (blk_cell HBK1.out 11).trans rfl
  have LG1 := Aside0.mk (show W.heap.size ≤ w1.heap.size from HBC.out.size)
  clear hb1
  go_wp2_with (first | ((with_reducible refine gate_dst (N := 48) rfl ?_); refine Kd.R_lit (Kd.int .i64) _ 2 ?hg (N := 48) ?hd (xs := ([] : List Int)) (inner := []) (ok := fun _ => True) (okp := fun _ => True) ?hr ?hp (fun _ hk => hk) trivial (Below.refl _ _) (Nat.le_refl _) (by simp) ?_; (case hd => rfl); (case hg => rfl); (case hr => first | (go_simp; done) | (go_simp; rfl)); (case hp => exact (Reps.none _ _)); intro v2 w2 ho2 hb2 hg_ hnew_; clear hg_ hnew_; have HO2 := Aside0.mk ho2; have HB2 := Aside0.mk hb2; clear ho2 hb2) | ((with_reducible refine gate_builtin (b := .append) (xs := #[.tmp 48, .tmp 49]) rfl ?_); at_builtin; refine Kd.R_append_rows (Kd.int .i64) (w0 := w1) w1.heap.size rfl (.tmp 48) (.tmp 49) 51 2 (.int .i64 0) 8 rfl Try.underlying51 info2 rfl (by decide) (by omega) v2 [] o _ _ _ (fun _ => True) (fun _ => False) rfl rfl HO2.out (Kd.C_below (Kd.C_below HCo.out HBC.out) HB2.out) (fun _ _ h => h) (fun _ h => h.elim) (fun _ _ => trivial) HB2.out HB2.out.size (by have := HOL.out; simp; omega) ?_; intro v3 w3 ho3 hb3 hg3 hat3; rw [List.nil_append] at ho3; obtain ⟨B3, d3, rfl, hd3, hC3⟩ := Kd.R_reads ho3; have b3 := blk_below HBK1.out hb3; have p1_ : w3.cell? ⟨gs, 9, none⟩ = some vb := (blk_cell b3 9).trans rfl; have p2_ := blk_frozen b3 9; have b4 : (w3.setCell ⟨gs, 9, none⟩ (.slice B3 o.length d3)).heap[gs]? = some (.cells #[.int .u8 a0, .int .u8 a1, .int .u8 a2, .int .u8 a3, .int .u8 a4, .int .u8 a5, .int .i64 hold, .slice A2 l2.length c2, .int .i64 each, .slice B3 o.length d3, .int .i64 s2, .bool false] 99 (0, 0)) := put9 b3 _; have p3_ : (w3.setCell ⟨gs, 9, none⟩ (.slice B3 o.length d3)).cell? ⟨gs, 10, none⟩ = some (.int .i64 s2) := (blk_cell b4 10).trans rfl; have p4_ := blk_frozen b4 10; have b5 : ((w3.setCell ⟨gs, 9, none⟩ (.slice B3 o.length d3)).setCell ⟨gs, 10, none⟩ (.int .i64 x)).heap[gs]? = some (.cells #[.int .u8 a0, .int .u8 a1, .int .u8 a2, .int .u8 a3, .int .u8 a4, .int .u8 a5, .int .i64 hold, .slice A2 l2.length c2, .int .i64 each, .slice B3 o.length d3, .int .i64 x, .bool false] 99 (0, 0)) := put10 b4 _; have p5_ : ((w3.setCell ⟨gs, 9, none⟩ (.slice B3 o.length d3)).setCell ⟨gs, 10, none⟩ (.int .i64 x)).cell? ⟨gs, 11, none⟩ = some (.bool false) := (blk_cell b5 11).trans rfl; have p6_ := blk_frozen b5 11; have HO3 := Aside0.mk ho3; have HB3 := Aside0.mk hb3; clear b3 b4 b5 ho3 hb3 hg3 hat3 hC3 hd3))
  (try simp only [Exit.inBlock, Exit.then]); refine bodyPost_ret (results_none rfl _ _ _) rfl ?_
  rw [HU2.out]
  exact ⟨rfl, kept3 (Kept.of_below (below_step HBC.out HB3.out) _) _ _ _, (HS.out.below (below_step HBC.out HB3.out)).store HG.out (Kd.R_lower (Kd.R_mono (Kd.R_bound HO3.out) (fun k hk => by have := hk.2.1; have := LG.out; have := LG1.out; omega)) (Nat.le_trans LW.out LG1.out))⟩
 | false =>
  simp only [Bool.not_false] at c11 HBK HS HU ⊢
  cases p2 with
  | true =>
   have HU2 := Aside0.mk (HU.out.trans (if_pos (.inr (of_decide_eq_true hp2))))
   clear HU
   go_enter Try.func83, Try.ntmps83
   go_wp2
   go_region_held3 (fun w' => w'.cell? ⟨gs, 7, none⟩ = some (.slice A2 l2.length c2) ∧ w'.cell? ⟨gs, 8, none⟩ = some (.int .i64 each))
    (first | exact ⟨c7, c8⟩ | exact ⟨pw_cell_below hb1 c7, pw_cell_below hb1 c8⟩)
    (first | (go_at_call 80; refine (spec_l01Cost.calls K A2 c2 l2 A c o each x _ (Kd.C_below HR2.out (below_drew (Below.refl _ _))) hc2 (Kd.C_below HCo.out (below_drew (Below.refl _ _))) hoc HH.out).mono ?_; rintro e w1 ⟨rfl, hb1⟩))
   have HBC := Aside0.mk (show Below W.heap.size W w1 from below_step (below_drew (Below.refl _ _)) hb1)
   have HBK1 := Aside0.mk (blk_below HBK.out HBC.out)
   have d10 : w1.cell? ⟨gs, 10, none⟩ = some (.int .i64 s2) := (blk_cell HBK1.out 10).trans rfl
   have d11 : w1.cell? ⟨gs, 11, none⟩ = some (.bool true) := (blk_cell HBK1.out 11).trans rfl
   have LG1 := Aside0.mk (show W.heap.size ≤ w1.heap.size from HBC.out.size)
   clear hb1
   go_wp2_with (first | ((with_reducible refine gate_dst (N := 48) rfl ?_); refine Kd.R_lit (Kd.int .i64) _ 2 ?hg (N := 48) ?hd (xs := ([] : List Int)) (inner := []) (ok := fun _ => True) (okp := fun _ => True) ?hr ?hp (fun _ hk => hk) trivial (Below.refl _ _) (Nat.le_refl _) (by simp) ?_; (case hd => rfl); (case hg => rfl); (case hr => first | (go_simp; done) | (go_simp; rfl)); (case hp => exact (Reps.none _ _)); intro v2 w2 ho2 hb2 hg_ hnew_; clear hg_ hnew_; have HO2 := Aside0.mk ho2; have HB2 := Aside0.mk hb2; clear ho2 hb2) | ((with_reducible refine gate_builtin (b := .append) (xs := #[.tmp 48, .tmp 49]) rfl ?_); at_builtin; refine Kd.R_append_rows (Kd.int .i64) (w0 := w1) w1.heap.size rfl (.tmp 48) (.tmp 49) 51 2 (.int .i64 0) 8 rfl Try.underlying51 info2 rfl (by decide) (by omega) v2 [] o _ _ _ (fun _ => True) (fun _ => False) rfl rfl HO2.out (Kd.C_below (Kd.C_below HCo.out HBC.out) HB2.out) (fun _ _ h => h) (fun _ h => h.elim) (fun _ _ => trivial) HB2.out HB2.out.size (by have := HOL.out; simp; omega) ?_; intro v3 w3 ho3 hb3 hg3 hat3; rw [List.nil_append] at ho3; obtain ⟨B3, d3, rfl, hd3, hC3⟩ := Kd.R_reads ho3; have b3 := blk_below HBK1.out hb3; have p1_ : w3.cell? ⟨gs, 9, none⟩ = some vb := (blk_cell b3 9).trans rfl; have p2_ := blk_frozen b3 9; have b4 : (w3.setCell ⟨gs, 9, none⟩ (.slice B3 o.length d3)).heap[gs]? = some (.cells #[.int .u8 a0, .int .u8 a1, .int .u8 a2, .int .u8 a3, .int .u8 a4, .int .u8 a5, .int .i64 hold, .slice A2 l2.length c2, .int .i64 each, .slice B3 o.length d3, .int .i64 s2, .bool true] 99 (0, 0)) := put9 b3 _; have p3_ : (w3.setCell ⟨gs, 9, none⟩ (.slice B3 o.length d3)).cell? ⟨gs, 10, none⟩ = some (.int .i64 s2) := (blk_cell b4 10).trans rfl; have p4_ := blk_frozen b4 10; have b5 : ((w3.setCell ⟨gs, 9, none⟩ (.slice B3 o.length d3)).setCell ⟨gs, 10, none⟩ (.int .i64 x)).heap[gs]? = some (.cells #[.int .u8 a0, .int .u8 a1, .int .u8 a2, .int .u8 a3, .int .u8 a4, .int .u8 a5, .int .i64 hold, .slice A2 l2.length c2, .int .i64 each, .slice B3 o.length d3, .int .i64 x, .bool true] 99 (0, 0)) := put10 b4 _; have p5_ : ((w3.setCell ⟨gs, 9, none⟩ (.slice B3 o.length d3)).setCell ⟨gs, 10, none⟩ (.int .i64 x)).cell? ⟨gs, 11, none⟩ = some (.bool true) := (blk_cell b5 11).trans rfl; have p6_ := blk_frozen b5 11; have HO3 := Aside0.mk ho3; have HB3 := Aside0.mk hb3; clear b3 b4 b5 ho3 hb3 hg3 hat3 hC3 hd3))
   (try simp only [Exit.inBlock, Exit.then]); refine bodyPost_ret (results_none rfl _ _ _) rfl ?_
   rw [HU2.out]
   exact ⟨rfl, kept3 (Kept.of_below (below_step HBC.out HB3.out) _) _ _ _, (HS.out.below (below_step HBC.out HB3.out)).store HG.out (Kd.R_lower (Kd.R_mono (Kd.R_bound HO3.out) (fun k hk => by have := hk.2.1; have := LG.out; have := LG1.out; omega)) (Nat.le_trans LW.out LG1.out))⟩
  | false =>
   have HU2 := Aside0.mk (HU.out.trans (if_neg (by rintro (h | h); cases h; exact of_decide_eq_false hp2 h)))
   clear HU
   go_enter Try.func83, Try.ntmps83
   go_wp2
   go_region_held3 (fun w' => w'.cell? ⟨gs, 7, none⟩ = some (.slice A2 l2.length c2) ∧ w'.cell? ⟨gs, 8, none⟩ = some (.int .i64 each))
    (first | exact ⟨c7, c8⟩ | exact ⟨pw_cell_below hb1 c7, pw_cell_below hb1 c8⟩)
    (first | (go_at_call 80; refine (spec_l01Cost.calls K A2 c2 l2 A c o each x _ (Kd.C_below HR2.out (below_drew (Below.refl _ _))) hc2 (Kd.C_below HCo.out (below_drew (Below.refl _ _))) hoc HH.out).mono ?_; rintro e w1 ⟨rfl, hb1⟩))
   have HBC := Aside0.mk (show Below W.heap.size W w1 from below_step (below_drew (Below.refl _ _)) hb1)
   have HBK1 := Aside0.mk (blk_below HBK.out HBC.out)
   have d10 : w1.cell? ⟨gs, 10, none⟩ = some (.int .i64 s2) := (blk_cell HBK1.out 10).trans rfl
   have d11 : w1.cell? ⟨gs, 11, none⟩ = some (.bool true) := (blk_cell HBK1.out 11).trans rfl
   have LG1 := Aside0.mk (show W.heap.size ≤ w1.heap.size from HBC.out.size)
   clear hb1
   go_wp2_with fail
   (try simp only [Exit.inBlock, Exit.then]); refine bodyPost_ret (results_none rfl _ _ _) rfl ?_
   rw [HU2.out]
   exact ⟨rfl, Kept.of_below HBC.out _, HS.out.below HBC.out⟩
set_option maxHeartbeats 8000000 in
set_option maxRecDepth 100000 in
theorem from_calls (K : Nat) (W0 : World) (gs : Nat) (a0 a1 a2 a3 a4 a5 hold each : Int) (l2 : List S37) (A2 : Option Addr) (c2 : Nat) (hn : l2.length ≤ 1000) (hgs : W0.heap.size ≤ gs) (hr2 : Kd.C k37 W0 A2 l2.length l2) (hc2 : l2.length ≤ c2) :
  ∀ (d : Nat) (W : World) (v : Value) (o : List Int) (m : Nat) (s s' : List Int × Int × Bool), o.length + d = l2.length → m ≤ o.length → Kd.R (Kd.int .i64) 2 W W0.heap.size (fun k => k ≠ gs) v o → StS W0 gs a0 a1 a2 a3 a4 a5 hold each l2 A2 c2 W s → fromS (ldS K a0 a1 a2 a3 a4 a5 hold l2) (csS K l2 each) upS d o m s = some s' →
   Calls Try.prog 83 #[.pointer (some ⟨gs, 0, none⟩), v, .int .i64 (m : Int)] W fun e w' => e = .returned (.tuple #[]) ∧ Kept W w' (fun k => k = gs) ∧ StS W0 gs a0 a1 a2 a3 a4 a5 hold each l2 A2 c2 w' s' := by
 intro d
 induction d with
 | zero =>
  intro W v o m s s' hd hm hR hS h
  obtain ⟨A, c, rfl, hoc, _⟩ := Kd.R_reads hR
  rw [fromS] at h
  obtain ⟨x, hx, h⟩ := Option.bind_eq_some_iff.mp h
  obtain rfl := Option.some.inj h
  unfold csS at hx
  by_cases he : each ≥ 0
  ·rw [if_pos he] at hx
   exact from_zeroB K W0 gs a0 a1 a2 a3 a4 a5 hold each l2 A2 c2 hn hgs hr2 hc2 he W A o.length c o m s x (by omega) hR hoc hS hx (!s.2.2) (decide (x < s.2.1)) (by simp) rfl
  ·rw [if_neg he] at hx
   exact from_zeroA K W0 gs a0 a1 a2 a3 a4 a5 hold each l2 A2 c2 hn hgs hr2 hc2 (by omega) W A o.length c o m s x (by omega) hR hoc hS (Option.some.inj hx).symm (!s.2.2) (decide (x < s.2.1)) (by simp) rfl
 | succ d ih =>
  intro W v o m s s' hd hm hR hS h
  obtain ⟨A, c, rfl, hoc, _⟩ := Kd.R_reads hR
  rw [fromS] at h
  have hm1 : (m : Int) ≤ 1000 := by omega
  obtain ⟨vb, hblk, _⟩ := hS.hb
  have c7 : W.cell? ⟨gs, 7, none⟩ = some (.slice A2 l2.length c2) := (blk_cell hblk 7).trans rfl
  have hn0 : l2.length ≤ 9223372036854775807 := by omega
  have e1 : ((o.length : Int) == (l2.length : Int)) = false := by simp; omega
  have e2 : (o.length == l2.length) = false := by simp; omega
  have HOL := Aside0.mk (show o.length ≤ 1000 by omega)
  have HOLT := Aside0.mk (show o.length < l2.length by omega)
  have HMM := Aside0.mk hm
  have HD := Aside0.mk hd
  have HG := Aside0.mk hgs
  have HRW := Aside0.mk hr2
  have HR := Aside0.mk hR
  have HS := Aside0.mk hS
  have HF := Aside0.mk h
  have IH := Aside0.mk ih
  clear hS hR hblk h ih hgs hr2 hd hm hn
  go_enter Try.func83, Try.ntmps83
  go_wp2
  go_loopg [8] (m + 1) (fun gg v8 w' => ∃ (kk r : Nat) (sk : List Int × Int × Bool), kk + r = m + 1 ∧ r ≤ gg ∧ v8 = .int .i64 (kk : Int) ∧ Aside0 (fromL (fun k s => (ldS K a0 a1 a2 a3 a4 a5 hold l2 o (k : Int)).bind fun b => if b = true then fromS (ldS K a0 a1 a2 a3 a4 a5 hold l2) (csS K l2 each) upS d (o ++ [(k : Int)]) (max m (k + 1)) s else some s) r kk sk = some s') ∧ Aside0 (Kept W w' (fun k => k = gs)) ∧ Aside0 (StS W0 gs a0 a1 a2 a3 a4 a5 hold each l2 A2 c2 w' sk))
  case atStart => exact ⟨0, m + 1, s, by omega, by omega, rfl, HF, ⟨Kept.refl _ _⟩, HS⟩
  case round =>
   obtain ⟨kk, r, sk, hkr, hrg, rfl, HFL, KP, HSr⟩ := hrel
   rcases r with _ | r
   ·have hlti : ¬ (kk : Int) ≤ (m : Int) := by omega
    go_wp2
    go_end0
    have hf := HFL.out
    rw [fromL] at hf
    obtain rfl := Option.some.inj hf
    exact ⟨rfl, KP.out, HSr.out⟩
   ·have hlti : (kk : Int) ≤ (m : Int) := by omega
    have hf := HFL.out
    rw [fromL] at hf
    obtain ⟨s1, hst, hrest⟩ := Option.bind_eq_some_iff.mp hf
    obtain ⟨b, hb, hs1⟩ := Option.bind_eq_some_iff.mp hst
    unfold ldS at hb
    obtain ⟨z, hz, hb⟩ := Option.bind_eq_some_iff.mp hb
    by_cases hzl : z.length ≤ 1048576
    case neg => rw [if_neg hzl] at hb; cases hb
    rw [if_pos hzl] at hb
    obtain ⟨vb2, hblk, _⟩ := HSr.out.hb
    have hr2r := Kd.C_below HRW.out HSr.out.bel
    obtain ⟨ad, e3, hx0, hx1, hx2, hx3⟩ := at_T37 hr2r (o.length : Int) (by omega) (by have := HOLT.out; omega)
    cases e3
    obtain ⟨y, hy⟩ : ∃ y, rd_T37 l2 (o.length : Int) = y := ⟨_, rfl⟩
    rw [hy] at hb hx0 hx1 hx2 hx3
    simp only [Int.toNat_natCast] at hx0 hx1 hx2 hx3
    obtain ⟨zy, hzy⟩ : ∃ zy, z ++ [y] = zy := ⟨_, rfl⟩
    rw [hzy] at hb
    have hRr := Kd.R_kept HR.out KP.out (fun k hk hS => hk hS)
    obtain ⟨A3, c3, ee_, _, hCr⟩ := Kd.R_reads hRr
    cases ee_
    have q0 : wr.cell? ⟨gs, 0, none⟩ = some (.int .u8 a0) := (blk_cell hblk 0).trans rfl
    have q1 : wr.cell? ⟨gs, 1, none⟩ = some (.int .u8 a1) := (blk_cell hblk 1).trans rfl
    have q2 : wr.cell? ⟨gs, 2, none⟩ = some (.int .u8 a2) := (blk_cell hblk 2).trans rfl
    have q3 : wr.cell? ⟨gs, 3, none⟩ = some (.int .u8 a3) := (blk_cell hblk 3).trans rfl
    have q4 : wr.cell? ⟨gs, 4, none⟩ = some (.int .u8 a4) := (blk_cell hblk 4).trans rfl
    have q5 : wr.cell? ⟨gs, 5, none⟩ = some (.int .u8 a5) := (blk_cell hblk 5).trans rfl
    have q6 : wr.cell? ⟨gs, 6, none⟩ = some (.int .i64 hold) := (blk_cell hblk 6).trans rfl
    have q7 : wr.cell? ⟨gs, 7, none⟩ = some (.slice (some ad) l2.length c2) := (blk_cell hblk 7).trans rfl
    have hol := HOLT.out
    have holi : (o.length : Int) < (l2.length : Int) := by omega
    have LG := Aside0.mk (show gs < wr.heap.size from blk_lt hblk)
    have LW := Aside0.mk (show W0.heap.size ≤ wr.heap.size from HSr.out.bel.size)
    have HZY := Aside0.mk hzy
    have HZL := Aside0.mk hzl
    have HLD := Aside0.mk hb
    have HW := Aside0.mk hz
    have HR2 := Aside0.mk hr2r
    have HCr := Aside0.mk hCr
    have HREST := Aside0.mk hrest
    have HWK := Aside0.mk (show IntKind.i64.wrap ((kk : Int) + 1) = (kk : Int) + 1 from IntWalk.i64_in _ (by omega))
    have HMX := Aside0.mk (show spec_l00Max.f (m : Int) ((kk : Int) + 1) = some ((max m (kk + 1) : Nat) : Int) from by unfold spec_l00Max.f; split <;> (congr 1; omega))
    clear hzy hzl hb hz hr2r hCr hrest hy hRr hblk hst hf hol
    cases b with
    | false =>
     rw [if_neg (by decide)] at hs1
     obtain rfl := Option.some.inj hs1
     clear hs1
     go_wp2
     go_region_held3 (fun w' => w'.cell? ⟨gs, 0, none⟩ = some (.int .u8 a0) ∧ w'.cell? ⟨gs, 1, none⟩ = some (.int .u8 a1) ∧ w'.cell? ⟨gs, 2, none⟩ = some (.int .u8 a2) ∧ w'.cell? ⟨gs, 3, none⟩ = some (.int .u8 a3) ∧ w'.cell? ⟨gs, 4, none⟩ = some (.int .u8 a4) ∧ w'.cell? ⟨gs, 5, none⟩ = some (.int .u8 a5) ∧ w'.cell? ⟨gs, 6, none⟩ = some (.int .i64 hold) ∧ w'.cell? ⟨gs, 7, none⟩ = some (.slice (some ad) l2.length c2) ∧ w'.cell? (ad.add (o.length * 4)) = some (.int .u8 y.f0) ∧ w'.cell? ⟨(ad.add (o.length * 4)).block, (ad.add (o.length * 4)).off + 1, none⟩ = some (.int .i8 y.f1) ∧ w'.cell? ⟨(ad.add (o.length * 4)).block, (ad.add (o.length * 4)).off + 2, none⟩ = some (.int .i8 y.f2) ∧ w'.cell? ⟨(ad.add (o.length * 4)).block, (ad.add (o.length * 4)).off + 3, none⟩ = some (.int .i16 y.f3))
      (first | go_keep | exact ⟨pw_cell_below hb1 (by assumption), pw_cell_below hb1 (by assumption), pw_cell_below hb1 (by assumption), pw_cell_below hb1 (by assumption), pw_cell_below hb1 (by assumption), pw_cell_below hb1 (by assumption), pw_cell_below hb1 (by assumption), pw_cell_below hb1 (by assumption), pw_cell_below hb1 (by assumption), pw_cell_below hb1 (by assumption), pw_cell_below hb1 (by assumption), pw_cell_below hb1 (by assumption)⟩ | exact ⟨pw_cell_below hb1 (pw_cell_below (below_alloc (Below.refl _ _) _) (by assumption)), pw_cell_below hb1 (pw_cell_below (below_alloc (Below.refl _ _) _) (by assumption)), pw_cell_below hb1 (pw_cell_below (below_alloc (Below.refl _ _) _) (by assumption)), pw_cell_below hb1 (pw_cell_below (below_alloc (Below.refl _ _) _) (by assumption)), pw_cell_below hb1 (pw_cell_below (below_alloc (Below.refl _ _) _) (by assumption)), pw_cell_below hb1 (pw_cell_below (below_alloc (Below.refl _ _) _) (by assumption)), pw_cell_below hb1 (pw_cell_below (below_alloc (Below.refl _ _) _) (by assumption)), pw_cell_below hb1 (pw_cell_below (below_alloc (Below.refl _ _) _) (by assumption)), pw_cell_below hb1 (pw_cell_below (below_alloc (Below.refl _ _) _) (by assumption)), pw_cell_below hb1 (pw_cell_below (below_alloc (Below.refl _ _) _) (by assumption)), pw_cell_below hb1 (pw_cell_below (below_alloc (Below.refl _ _) _) (by assumption)), pw_cell_below hb1 (pw_cell_below (below_alloc (Below.refl _ _) _) (by assumption))⟩ | exact ⟨pw_cell_below (below_alloc (Below.refl _ _) _) (by assumption), pw_cell_below (below_alloc (Below.refl _ _) _) (by assumption), pw_cell_below (below_alloc (Below.refl _ _) _) (by assumption), pw_cell_below (below_alloc (Below.refl _ _) _) (by assumption), pw_cell_below (below_alloc (Below.refl _ _) _) (by assumption), pw_cell_below (below_alloc (Below.refl _ _) _) (by assumption), pw_cell_below (below_alloc (Below.refl _ _) _) (by assumption), pw_cell_below (below_alloc (Below.refl _ _) _) (by assumption), pw_cell_below (below_alloc (Below.refl _ _) _) (by assumption), pw_cell_below (below_alloc (Below.refl _ _) _) (by assumption), pw_cell_below (below_alloc (Below.refl _ _) _) (by assumption), pw_cell_below (below_alloc (Below.refl _ _) _) (by assumption)⟩ | exact ⟨pw_cell_below (below_alloc (Below.refl _ _) _) (pw_cell_below hb1 (by assumption)), pw_cell_below (below_alloc (Below.refl _ _) _) (pw_cell_below hb1 (by assumption)), pw_cell_below (below_alloc (Below.refl _ _) _) (pw_cell_below hb1 (by assumption)), pw_cell_below (below_alloc (Below.refl _ _) _) (pw_cell_below hb1 (by assumption)), pw_cell_below (below_alloc (Below.refl _ _) _) (pw_cell_below hb1 (by assumption)), pw_cell_below (below_alloc (Below.refl _ _) _) (pw_cell_below hb1 (by assumption)), pw_cell_below (below_alloc (Below.refl _ _) _) (pw_cell_below hb1 (by assumption)), pw_cell_below (below_alloc (Below.refl _ _) _) (pw_cell_below hb1 (by assumption)), pw_cell_below (below_alloc (Below.refl _ _) _) (pw_cell_below hb1 (by assumption)), pw_cell_below (below_alloc (Below.refl _ _) _) (pw_cell_below hb1 (by assumption)), pw_cell_below (below_alloc (Below.refl _ _) _) (pw_cell_below hb1 (by assumption)), pw_cell_below (below_alloc (Below.refl _ _) _) (pw_cell_below hb1 (by assumption))⟩ | exact ⟨pw_cell_below hb2 (by assumption), pw_cell_below hb2 (by assumption), pw_cell_below hb2 (by assumption), pw_cell_below hb2 (by assumption), pw_cell_below hb2 (by assumption), pw_cell_below hb2 (by assumption), pw_cell_below hb2 (by assumption), pw_cell_below hb2 (by assumption), pw_cell_below hb2 (by assumption), pw_cell_below hb2 (by assumption), pw_cell_below hb2 (by assumption), pw_cell_below hb2 (by assumption)⟩ | exact ⟨pw_cell_below hb3 (pw_cell_below hb2 (by assumption)), pw_cell_below hb3 (pw_cell_below hb2 (by assumption)), pw_cell_below hb3 (pw_cell_below hb2 (by assumption)), pw_cell_below hb3 (pw_cell_below hb2 (by assumption)), pw_cell_below hb3 (pw_cell_below hb2 (by assumption)), pw_cell_below hb3 (pw_cell_below hb2 (by assumption)), pw_cell_below hb3 (pw_cell_below hb2 (by assumption)), pw_cell_below hb3 (pw_cell_below hb2 (by assumption)), pw_cell_below hb3 (pw_cell_below hb2 (by assumption)), pw_cell_below hb3 (pw_cell_below hb2 (by assumption)), pw_cell_below hb3 (pw_cell_below hb2 (by assumption)), pw_cell_below hb3 (pw_cell_below hb2 (by assumption))⟩)
      (first
       | (go_at_call 73; refine (spec_l01With.calls K (some ad) c2 l2 A c o (kk : Int) z _ (Kd.C_below HR2.out (by repeat (first | exact Below.refl _ _ | apply pw_below_drewN | apply below_drew | apply below_alloc))) hc2 (Kd.C_below HCr.out (by repeat (first | exact Below.refl _ _ | apply pw_below_drewN | apply below_drew | apply below_alloc))) hoc HW.out).mono ?_; rintro e w1 ⟨v1, rfl, ho1, hb1⟩)
       | (have HB_ : Below wr.heap.size wr (w1.alloc (.cells #[.int .u8 y.f0, .int .i8 y.f1, .int .i8 y.f2, .int .i16 y.f3] 37)) := (by repeat (first | exact Below.refl _ _ | apply pw_below_drewN | apply below_drew | apply below_alloc | refine below_step ?_ hb1)); have HO_ : Kd.R k37 37 (w1.alloc (.cells #[.int .u8 y.f0, .int .i8 y.f1, .int .i8 y.f2, .int .i16 y.f3] 37)) wr.heap.size (fun _ => True) v1 z := (Kd.R_lower (Kd.R_below ho1 (below_alloc (Below.refl _ _) _)) (below_size (by repeat (first | exact Below.refl _ _ | apply below_alloc | apply pw_below_drewN | apply below_drew)))); have HR_ : Kd.C k37 (w1.alloc (.cells #[.int .u8 y.f0, .int .i8 y.f1, .int .i8 y.f2, .int .i16 y.f3] 37)) _ [y].length [y] := (by repeat (first | exact C_newS _ y | (with_reducible refine Kd.C_drewN ?_ _) | (with_reducible refine Kd.C_drew ?_))); refine Kd.R_append_rows_step k37 (w0 := wr) wr.heap.size ?hw (.tmp 79) (.tmp 87) 25 37 (.agg #[.int .u8 0, .int .i8 0, .int .i8 0, .int .i16 0]) 6 rfl Try.underlying25 info37 rfl (by decide) (by omega) v1 z [y] _ _ _ (fun _ => True) (fun _ => False) rfl rfl HO_ HR_ (fun _ _ h => h) (fun _ h => h.elim) (fun _ _ => trivial) HB_ HB_.size (by have := HZL.out; simp; omega) ?_; (case hw => first | rfl | kernel_rfl | decide); clear HO_ HR_ HB_; intro v2 w2 ho2 hb2 _ _; rw [HZY.out] at ho2; obtain ⟨B2, d2, rfl, hd2, hC2⟩ := Kd.R_reads ho2)
       | (have HB_ : Below wr.heap.size wr (w1) := (by repeat (first | exact Below.refl _ _ | apply pw_below_drewN | apply below_drew | apply below_alloc | refine below_step ?_ hb1)); have HO_ : Kd.R k37 37 (w1) wr.heap.size (fun _ => True) v1 z := (Kd.R_lower ho1 (below_size (by repeat (first | exact Below.refl _ _ | apply below_alloc | apply pw_below_drewN | apply below_drew)))); have HR_ : Kd.C k37 (w1) _ [y].length [y] := (Kd.C_below (by repeat (first | exact C_newS _ y | (with_reducible refine Kd.C_drewN ?_ _) | (with_reducible refine Kd.C_drew ?_))) hb1); refine Kd.R_append_rows_step k37 (w0 := wr) wr.heap.size ?hw (.tmp 79) (.tmp 87) 25 37 (.agg #[.int .u8 0, .int .i8 0, .int .i8 0, .int .i16 0]) 6 rfl Try.underlying25 info37 rfl (by decide) (by omega) v1 z [y] _ _ _ (fun _ => True) (fun _ => False) rfl rfl HO_ HR_ (fun _ _ h => h) (fun _ h => h.elim) (fun _ _ => trivial) HB_ HB_.size (by have := HZL.out; simp; omega) ?_; (case hw => first | rfl | kernel_rfl | decide); clear HO_ HR_ HB_; intro v2 w2 ho2 hb2 _ _; rw [HZY.out] at ho2; obtain ⟨B2, d2, rfl, hd2, hC2⟩ := Kd.R_reads ho2)
       | (go_at_call 67; refine (spec_l01Load.calls K a0 a1 a2 a3 a4 a5 hold B2 d2 zy false _ hC2 hd2 HLD.out).mono ?_; rintro e w3 ⟨rfl, hb3⟩))
     all_goals
      have HB3 := Aside0.mk (below_step hb2 hb3)
      clear hb1 hb2 hb3
      go_wp2
      go_roundg r
      case measure => omega
      case rel => exact ⟨kk + 1, r, sk, by omega, by omega, by go_num, HREST, ⟨KP.out.below HB3.out⟩, ⟨HSr.out.below HB3.out⟩⟩
    | true =>
     rw [if_pos rfl] at hs1
     have HS1 := Aside0.mk hs1
     clear hs1
     go_wp2
     go_region_held3 (fun w' => w'.cell? ⟨gs, 0, none⟩ = some (.int .u8 a0) ∧ w'.cell? ⟨gs, 1, none⟩ = some (.int .u8 a1) ∧ w'.cell? ⟨gs, 2, none⟩ = some (.int .u8 a2) ∧ w'.cell? ⟨gs, 3, none⟩ = some (.int .u8 a3) ∧ w'.cell? ⟨gs, 4, none⟩ = some (.int .u8 a4) ∧ w'.cell? ⟨gs, 5, none⟩ = some (.int .u8 a5) ∧ w'.cell? ⟨gs, 6, none⟩ = some (.int .i64 hold) ∧ w'.cell? ⟨gs, 7, none⟩ = some (.slice (some ad) l2.length c2) ∧ w'.cell? (ad.add (o.length * 4)) = some (.int .u8 y.f0) ∧ w'.cell? ⟨(ad.add (o.length * 4)).block, (ad.add (o.length * 4)).off + 1, none⟩ = some (.int .i8 y.f1) ∧ w'.cell? ⟨(ad.add (o.length * 4)).block, (ad.add (o.length * 4)).off + 2, none⟩ = some (.int .i8 y.f2) ∧ w'.cell? ⟨(ad.add (o.length * 4)).block, (ad.add (o.length * 4)).off + 3, none⟩ = some (.int .i16 y.f3))
      (first | go_keep | exact ⟨pw_cell_below hb1 (by assumption), pw_cell_below hb1 (by assumption), pw_cell_below hb1 (by assumption), pw_cell_below hb1 (by assumption), pw_cell_below hb1 (by assumption), pw_cell_below hb1 (by assumption), pw_cell_below hb1 (by assumption), pw_cell_below hb1 (by assumption), pw_cell_below hb1 (by assumption), pw_cell_below hb1 (by assumption), pw_cell_below hb1 (by assumption), pw_cell_below hb1 (by assumption)⟩ | exact ⟨pw_cell_below hb1 (pw_cell_below (below_alloc (Below.refl _ _) _) (by assumption)), pw_cell_below hb1 (pw_cell_below (below_alloc (Below.refl _ _) _) (by assumption)), pw_cell_below hb1 (pw_cell_below (below_alloc (Below.refl _ _) _) (by assumption)), pw_cell_below hb1 (pw_cell_below (below_alloc (Below.refl _ _) _) (by assumption)), pw_cell_below hb1 (pw_cell_below (below_alloc (Below.refl _ _) _) (by assumption)), pw_cell_below hb1 (pw_cell_below (below_alloc (Below.refl _ _) _) (by assumption)), pw_cell_below hb1 (pw_cell_below (below_alloc (Below.refl _ _) _) (by assumption)), pw_cell_below hb1 (pw_cell_below (below_alloc (Below.refl _ _) _) (by assumption)), pw_cell_below hb1 (pw_cell_below (below_alloc (Below.refl _ _) _) (by assumption)), pw_cell_below hb1 (pw_cell_below (below_alloc (Below.refl _ _) _) (by assumption)), pw_cell_below hb1 (pw_cell_below (below_alloc (Below.refl _ _) _) (by assumption)), pw_cell_below hb1 (pw_cell_below (below_alloc (Below.refl _ _) _) (by assumption))⟩ | exact ⟨pw_cell_below (below_alloc (Below.refl _ _) _) (by assumption), pw_cell_below (below_alloc (Below.refl _ _) _) (by assumption), pw_cell_below (below_alloc (Below.refl _ _) _) (by assumption), pw_cell_below (below_alloc (Below.refl _ _) _) (by assumption), pw_cell_below (below_alloc (Below.refl _ _) _) (by assumption), pw_cell_below (below_alloc (Below.refl _ _) _) (by assumption), pw_cell_below (below_alloc (Below.refl _ _) _) (by assumption), pw_cell_below (below_alloc (Below.refl _ _) _) (by assumption), pw_cell_below (below_alloc (Below.refl _ _) _) (by assumption), pw_cell_below (below_alloc (Below.refl _ _) _) (by assumption), pw_cell_below (below_alloc (Below.refl _ _) _) (by assumption), pw_cell_below (below_alloc (Below.refl _ _) _) (by assumption)⟩ | exact ⟨pw_cell_below (below_alloc (Below.refl _ _) _) (pw_cell_below hb1 (by assumption)), pw_cell_below (below_alloc (Below.refl _ _) _) (pw_cell_below hb1 (by assumption)), pw_cell_below (below_alloc (Below.refl _ _) _) (pw_cell_below hb1 (by assumption)), pw_cell_below (below_alloc (Below.refl _ _) _) (pw_cell_below hb1 (by assumption)), pw_cell_below (below_alloc (Below.refl _ _) _) (pw_cell_below hb1 (by assumption)), pw_cell_below (below_alloc (Below.refl _ _) _) (pw_cell_below hb1 (by assumption)), pw_cell_below (below_alloc (Below.refl _ _) _) (pw_cell_below hb1 (by assumption)), pw_cell_below (below_alloc (Below.refl _ _) _) (pw_cell_below hb1 (by assumption)), pw_cell_below (below_alloc (Below.refl _ _) _) (pw_cell_below hb1 (by assumption)), pw_cell_below (below_alloc (Below.refl _ _) _) (pw_cell_below hb1 (by assumption)), pw_cell_below (below_alloc (Below.refl _ _) _) (pw_cell_below hb1 (by assumption)), pw_cell_below (below_alloc (Below.refl _ _) _) (pw_cell_below hb1 (by assumption))⟩ | exact ⟨pw_cell_below hb2 (by assumption), pw_cell_below hb2 (by assumption), pw_cell_below hb2 (by assumption), pw_cell_below hb2 (by assumption), pw_cell_below hb2 (by assumption), pw_cell_below hb2 (by assumption), pw_cell_below hb2 (by assumption), pw_cell_below hb2 (by assumption), pw_cell_below hb2 (by assumption), pw_cell_below hb2 (by assumption), pw_cell_below hb2 (by assumption), pw_cell_below hb2 (by assumption)⟩ | exact ⟨pw_cell_below hb3 (pw_cell_below hb2 (by assumption)), pw_cell_below hb3 (pw_cell_below hb2 (by assumption)), pw_cell_below hb3 (pw_cell_below hb2 (by assumption)), pw_cell_below hb3 (pw_cell_below hb2 (by assumption)), pw_cell_below hb3 (pw_cell_below hb2 (by assumption)), pw_cell_below hb3 (pw_cell_below hb2 (by assumption)), pw_cell_below hb3 (pw_cell_below hb2 (by assumption)), pw_cell_below hb3 (pw_cell_below hb2 (by assumption)), pw_cell_below hb3 (pw_cell_below hb2 (by assumption)), pw_cell_below hb3 (pw_cell_below hb2 (by assumption)), pw_cell_below hb3 (pw_cell_below hb2 (by assumption)), pw_cell_below hb3 (pw_cell_below hb2 (by assumption))⟩)
      (first
       | (go_at_call 73; refine (spec_l01With.calls K (some ad) c2 l2 A c o (kk : Int) z _ (Kd.C_below HR2.out (by repeat (first | exact Below.refl _ _ | apply pw_below_drewN | apply below_drew | apply below_alloc))) hc2 (Kd.C_below HCr.out (by repeat (first | exact Below.refl _ _ | apply pw_below_drewN | apply below_drew | apply below_alloc))) hoc HW.out).mono ?_; rintro e w1 ⟨v1, rfl, ho1, hb1⟩)
       | (have HB_ : Below wr.heap.size wr (w1.alloc (.cells #[.int .u8 y.f0, .int .i8 y.f1, .int .i8 y.f2, .int .i16 y.f3] 37)) := (by repeat (first | exact Below.refl _ _ | apply pw_below_drewN | apply below_drew | apply below_alloc | refine below_step ?_ hb1)); have HO_ : Kd.R k37 37 (w1.alloc (.cells #[.int .u8 y.f0, .int .i8 y.f1, .int .i8 y.f2, .int .i16 y.f3] 37)) wr.heap.size (fun _ => True) v1 z := (Kd.R_lower (Kd.R_below ho1 (below_alloc (Below.refl _ _) _)) (below_size (by repeat (first | exact Below.refl _ _ | apply below_alloc | apply pw_below_drewN | apply below_drew)))); have HR_ : Kd.C k37 (w1.alloc (.cells #[.int .u8 y.f0, .int .i8 y.f1, .int .i8 y.f2, .int .i16 y.f3] 37)) _ [y].length [y] := (by repeat (first | exact C_newS _ y | (with_reducible refine Kd.C_drewN ?_ _) | (with_reducible refine Kd.C_drew ?_))); refine Kd.R_append_rows_step k37 (w0 := wr) wr.heap.size ?hw (.tmp 79) (.tmp 87) 25 37 (.agg #[.int .u8 0, .int .i8 0, .int .i8 0, .int .i16 0]) 6 rfl Try.underlying25 info37 rfl (by decide) (by omega) v1 z [y] _ _ _ (fun _ => True) (fun _ => False) rfl rfl HO_ HR_ (fun _ _ h => h) (fun _ h => h.elim) (fun _ _ => trivial) HB_ HB_.size (by have := HZL.out; simp; omega) ?_; (case hw => first | rfl | kernel_rfl | decide); clear HO_ HR_ HB_; intro v2 w2 ho2 hb2 _ _; rw [HZY.out] at ho2; obtain ⟨B2, d2, rfl, hd2, hC2⟩ := Kd.R_reads ho2)
       | (have HB_ : Below wr.heap.size wr (w1) := (by repeat (first | exact Below.refl _ _ | apply pw_below_drewN | apply below_drew | apply below_alloc | refine below_step ?_ hb1)); have HO_ : Kd.R k37 37 (w1) wr.heap.size (fun _ => True) v1 z := (Kd.R_lower ho1 (below_size (by repeat (first | exact Below.refl _ _ | apply below_alloc | apply pw_below_drewN | apply below_drew)))); have HR_ : Kd.C k37 (w1) _ [y].length [y] := (Kd.C_below (by repeat (first | exact C_newS _ y | (with_reducible refine Kd.C_drewN ?_ _) | (with_reducible refine Kd.C_drew ?_))) hb1); refine Kd.R_append_rows_step k37 (w0 := wr) wr.heap.size ?hw (.tmp 79) (.tmp 87) 25 37 (.agg #[.int .u8 0, .int .i8 0, .int .i8 0, .int .i16 0]) 6 rfl Try.underlying25 info37 rfl (by decide) (by omega) v1 z [y] _ _ _ (fun _ => True) (fun _ => False) rfl rfl HO_ HR_ (fun _ _ h => h) (fun _ h => h.elim) (fun _ _ => trivial) HB_ HB_.size (by have := HZL.out; simp; omega) ?_; (case hw => first | rfl | kernel_rfl | decide); clear HO_ HR_ HB_; intro v2 w2 ho2 hb2 _ _; rw [HZY.out] at ho2; obtain ⟨B2, d2, rfl, hd2, hC2⟩ := Kd.R_reads ho2)
       | (go_at_call 67; refine (spec_l01Load.calls K a0 a1 a2 a3 a4 a5 hold B2 d2 zy true _ hC2 hd2 HLD.out).mono ?_; rintro e w3 ⟨rfl, hb3⟩))
     all_goals
      have HB3 := Aside0.mk (below_step hb2 hb3)
      clear hb1 hb2 hb3 hC2 ho1
      go_wp2_with (first | ((with_reducible refine gate_dst (N := 91) rfl ?_); refine Kd.R_lit (Kd.int .i64) _ 2 ?hg (N := 91) ?hd (xs := ([] : List Int)) (inner := []) (ok := fun _ => True) (okp := fun _ => True) ?hr ?hp (fun _ hk => hk) trivial (Below.refl _ _) (Nat.le_refl _) (by simp) ?_; (case hd => rfl); (case hg => rfl); (case hr => first | (go_simp; done) | (go_simp; rfl)); (case hp => exact (Reps.none _ _)); intro v5 w5 ho5 hb5 hg_ hnew_; clear hg_ hnew_; have HO5 := Aside0.mk (Kd.R_lower ho5 HB3.out.size); have HB5 := Aside0.mk (below_step HB3.out hb5); clear ho5 hb5) | ((with_reducible refine gate_builtin (b := .append) (xs := #[.tmp 91, .tmp 92]) rfl ?_); at_builtin; refine Kd.R_append_rows (Kd.int .i64) (w0 := wr) wr.heap.size rfl (.tmp 91) (.tmp 92) 51 2 (.int .i64 0) 8 rfl Try.underlying51 info2 rfl (by decide) (by omega) v5 [] o _ _ _ (fun _ => True) (fun _ => False) rfl rfl HO5.out (Kd.C_below HCr.out HB5.out) (fun _ _ h => h) (fun _ h => h.elim) (fun _ _ => trivial) HB5.out HB5.out.size (by have := HOL.out; simp; omega) ?_; intro v6 w6 ho6 hb6 _ _; rw [List.nil_append] at ho6; have HO6 := Aside0.mk ho6; have HB6 := Aside0.mk hb6; clear ho6 hb6) | ((with_reducible refine gate_dst (N := 95) rfl ?_); refine Kd.R_lit (Kd.int .i64) _ 2 ?hg (N := 95) ?hd (xs := ([(kk : Int)] : List Int)) (inner := [.int .i64 (kk : Int)]) (ok := fun _ => True) (okp := fun _ => True) ?hr ?hp (fun _ hk => hk) trivial (Below.refl _ _) (Nat.le_refl _) (by simp) ?_; (case hd => rfl); (case hg => rfl); (case hr => first | (go_simp; done) | (go_simp; rfl)); (case hp => exact (Reps.one (show Kd.M (Kd.int .i64) _ _ _ (kk : Int) [.int .i64 (kk : Int)] from rfl) (Reps.none _ _))); intro v7 w7 ho7 hb7 hg_ hnew_; clear hg_ hnew_; obtain ⟨B7, d7, rfl, hd7, hC7⟩ := Kd.R_reads ho7; have HC7 := Aside0.mk hC7; have HO7 := Aside0.mk (Kd.R_below HO6.out hb7); have HB7 := Aside0.mk (below_step HB6.out hb7); clear ho7 hb7 hC7 hd7) | ((with_reducible refine gate_builtin (b := .append) (xs := #[.tmp 93, .tmp 95]) rfl ?_); at_builtin; refine Kd.R_append_rows (Kd.int .i64) (w0 := wr) wr.heap.size rfl (.tmp 93) (.tmp 95) 51 2 (.int .i64 0) 8 rfl Try.underlying51 info2 rfl (by decide) (by omega) v6 o [(kk : Int)] _ _ _ (fun _ => True) (fun _ => False) rfl rfl HO7.out HC7.out (fun _ _ h => h) (fun _ h => h.elim) (fun _ _ => trivial) HB7.out HB7.out.size (by have := HOL.out; simp; omega) ?_; intro v8 w8 ho8 hb8 _ _; have HO8 := Aside0.mk ho8; have HB8 := Aside0.mk hb8; clear ho8 hb8) | (go_at_call 74; (first | rw [HWK.out] | skip); refine (spec_l00Max.calls (m : Int) ((kk : Int) + 1) ((max m (kk + 1) : Nat) : Int) _ HMX.out).mono ?_; rintro e w9 ⟨rfl, ⟨nd, rfl⟩⟩) | (go_at_call 83; refine (IH.out (w8.drewN nd) v8 (o ++ [(kk : Int)]) (max m (kk + 1)) sk s1 (by have := HD.out; simp; omega) (by have := HMM.out; simp; omega) (Kd.R_lower (Kd.R_mono (Kd.R_bound (Kd.R_below HO8.out (pw_below_drewN (Below.refl _ _) nd))) (fun k hk => by have := hk.2.1; have := LG.out; omega)) LW.out) (HSr.out.below (pw_below_drewN HB8.out nd)) HS1.out).mono ?_; rintro e w10 ⟨rfl, hk10, hs10⟩))
      go_roundg r
      case measure => omega
      case rel => exact ⟨kk + 1, r, s1, by omega, by omega, by go_num, HREST, ⟨(KP.out.below (pw_below_drewN HB8.out nd)).then_ hk10 (fun _ h => .inl h)⟩, ⟨hs10⟩⟩

/-! ### spec_CheapestLoads: function 47 (told by hand) -/
def spec_CheapestLoads.f (k : Nat) (a0_0 : Int) (a0_1 : Int) (a0_2 : Int) (a0_3 : Int) (a0_4 : Int) (a0_5 : Int) (a1 : Int) (l2 : List S37) (a3 : Int) : Option (List Int × Int × Int) :=
 (spec_l01Each.f a3).bind fun b3 => (spec_l01Alone.f k a0_0 a0_1 a0_2 a0_3 a0_4 a0_5 a1 l2 b3).bind fun c => if c = 0 then (if l2.length ≤ 1000 then (fromS (ldS k a0_0 a0_1 a0_2 a0_3 a0_4 a0_5 a1 l2) (csS k l2 a3) upS l2.length [] 0 ([], 0, false)).bind fun s => some (s.1, s.2.1, 0) else none) else some ([], 0, c)
theorem spec_CheapestLoads.mono : ∀ a0 a1 a2 a3 a4 a5 a6 a7 a8 k, LeO (spec_CheapestLoads.f k a0 a1 a2 a3 a4 a5 a6 a7 a8) (spec_CheapestLoads.f (k + 1) a0 a1 a2 a3 a4 a5 a6 a7 a8) := by
 intro a0 a1 a2 a3 a4 a5 a6 a7 a8 k
 unfold spec_CheapestLoads.f
 exact LeO.bind (LeO.refl _) (fun b3 => LeO.bind (spec_l01Alone.mono a0 a1 a2 a3 a4 a5 a6 a7 _ k) (fun _ => LeO.ite (LeO.ite (LeO.bind (fromS_mono upS (fun o x => ldS_mono k a0 a1 a2 a3 a4 a5 a6 a7 o x) (fun o m => csS_mono k a7 _ o m) _ _ _ _) (fun _ => LeO.refl _)) (LeO.refl _)) (LeO.refl _)))
set_option maxHeartbeats 8000000 in
set_option maxRecDepth 100000 in
theorem spec_CheapestLoads.calls (k : Nat) (a0_0 : Int) (a0_1 : Int) (a0_2 : Int) (a0_3 : Int) (a0_4 : Int) (a0_5 : Int) (a1 : Int) (A2 : Option Addr) (c2 : Nat) (l2 : List S37) (a3 : Int) (r1 : List Int) (r2 : Int) (r3 : Int) (w : World) (hr2 : Kd.C k37 w A2 l2.length l2) (hc2 : l2.length ≤ c2) (h : spec_CheapestLoads.f k a0_0 a0_1 a0_2 a0_3 a0_4 a0_5 a1 l2 a3 = some (r1, r2, r3)) :
  Calls Try.prog 47 #[.agg #[.int .u8 a0_0, .int .u8 a0_1, .int .u8 a0_2, .int .u8 a0_3, .int .u8 a0_4, .int .u8 a0_5], .int .i64 a1, .slice A2 l2.length c2, .int .i64 a3] w fun e w' => ∃ v0_ : Value, e = .returned (.tuple #[v0_, .int .i64 r2, .int .i64 r3]) ∧ Kd.R (Kd.int .i64) 2 w' w.heap.size (fun _ => True) v0_ r1 ∧ Below w.heap.size w w' := by
 unfold spec_CheapestLoads.f at h
 obtain ⟨b3, hb3, h⟩ := Option.bind_eq_some_iff.mp h
 have HEA := Aside0.mk hb3
 clear hb3
 obtain ⟨cd, hcd, h'⟩ := Option.bind_eq_some_iff.mp h
 clear h
 have HCD := Aside0.mk hcd
 have HR2 := Aside0.mk hr2
 have hn : l2.length ≤ 9223372036854775807 := hr2.2.1
 clear hcd hr2
 have q0 : (w.alloc (.cells #[.int .u8 a0_0, .int .u8 a0_1, .int .u8 a0_2, .int .u8 a0_3, .int .u8 a0_4, .int .u8 a0_5] 35)).drew.cell? ⟨w.heap.size, 0, none⟩ = some (.int .u8 a0_0) := (blk_cell (blk_new w (.cells #[.int .u8 a0_0, .int .u8 a0_1, .int .u8 a0_2, .int .u8 a0_3, .int .u8 a0_4, .int .u8 a0_5] 35)) 0).trans rfl
 have q1 : (w.alloc (.cells #[.int .u8 a0_0, .int .u8 a0_1, .int .u8 a0_2, .int .u8 a0_3, .int .u8 a0_4, .int .u8 a0_5] 35)).drew.cell? ⟨w.heap.size, 1, none⟩ = some (.int .u8 a0_1) := (blk_cell (blk_new w (.cells #[.int .u8 a0_0, .int .u8 a0_1, .int .u8 a0_2, .int .u8 a0_3, .int .u8 a0_4, .int .u8 a0_5] 35)) 1).trans rfl
 have q2 : (w.alloc (.cells #[.int .u8 a0_0, .int .u8 a0_1, .int .u8 a0_2, .int .u8 a0_3, .int .u8 a0_4, .int .u8 a0_5] 35)).drew.cell? ⟨w.heap.size, 2, none⟩ = some (.int .u8 a0_2) := (blk_cell (blk_new w (.cells #[.int .u8 a0_0, .int .u8 a0_1, .int .u8 a0_2, .int .u8 a0_3, .int .u8 a0_4, .int .u8 a0_5] 35)) 2).trans rfl
 have q3 : (w.alloc (.cells #[.int .u8 a0_0, .int .u8 a0_1, .int .u8 a0_2, .int .u8 a0_3, .int .u8 a0_4, .int .u8 a0_5] 35)).drew.cell? ⟨w.heap.size, 3, none⟩ = some (.int .u8 a0_3) := (blk_cell (blk_new w (.cells #[.int .u8 a0_0, .int .u8 a0_1, .int .u8 a0_2, .int .u8 a0_3, .int .u8 a0_4, .int .u8 a0_5] 35)) 3).trans rfl
 have q4 : (w.alloc (.cells #[.int .u8 a0_0, .int .u8 a0_1, .int .u8 a0_2, .int .u8 a0_3, .int .u8 a0_4, .int .u8 a0_5] 35)).drew.cell? ⟨w.heap.size, 4, none⟩ = some (.int .u8 a0_4) := (blk_cell (blk_new w (.cells #[.int .u8 a0_0, .int .u8 a0_1, .int .u8 a0_2, .int .u8 a0_3, .int .u8 a0_4, .int .u8 a0_5] 35)) 4).trans rfl
 have q5 : (w.alloc (.cells #[.int .u8 a0_0, .int .u8 a0_1, .int .u8 a0_2, .int .u8 a0_3, .int .u8 a0_4, .int .u8 a0_5] 35)).drew.cell? ⟨w.heap.size, 5, none⟩ = some (.int .u8 a0_5) := (blk_cell (blk_new w (.cells #[.int .u8 a0_0, .int .u8 a0_1, .int .u8 a0_2, .int .u8 a0_3, .int .u8 a0_4, .int .u8 a0_5] 35)) 5).trans rfl
 by_cases h0 : cd = 0
 ·subst h0
  rw [if_pos rfl] at h'
  by_cases hq : l2.length ≤ 1000
  case neg => rw [if_neg hq] at h'; cases h'
  rw [if_pos hq] at h'
  obtain ⟨s', hs', h⟩ := Option.bind_eq_some_iff.mp h'
  clear h'
  simp only [Option.some.injEq, Prod.mk.injEq] at h
  obtain ⟨rfl, rfl, rfl⟩ := h
  have HF := Aside0.mk hs'
  have HQ := Aside0.mk hq
  clear hs' hq
  go_enter Try.func47, Try.ntmps47
  go_wp2
  go_region_held3 (fun w' => w'.cell? ⟨w.heap.size, 0, none⟩ = some (.int .u8 a0_0) ∧ w'.cell? ⟨w.heap.size, 1, none⟩ = some (.int .u8 a0_1) ∧ w'.cell? ⟨w.heap.size, 2, none⟩ = some (.int .u8 a0_2) ∧ w'.cell? ⟨w.heap.size, 3, none⟩ = some (.int .u8 a0_3) ∧ w'.cell? ⟨w.heap.size, 4, none⟩ = some (.int .u8 a0_4) ∧ w'.cell? ⟨w.heap.size, 5, none⟩ = some (.int .u8 a0_5))
   (first | exact ⟨q0, q1, q2, q3, q4, q5⟩ | exact ⟨pw_cell_below (pw_below_drewN (Below.refl _ _) _) q0, pw_cell_below (pw_below_drewN (Below.refl _ _) _) q1, pw_cell_below (pw_below_drewN (Below.refl _ _) _) q2, pw_cell_below (pw_below_drewN (Below.refl _ _) _) q3, pw_cell_below (pw_below_drewN (Below.refl _ _) _) q4, pw_cell_below (pw_below_drewN (Below.refl _ _) _) q5⟩ | exact ⟨pw_cell_below hb1 q0, pw_cell_below hb1 q1, pw_cell_below hb1 q2, pw_cell_below hb1 q3, pw_cell_below hb1 q4, pw_cell_below hb1 q5⟩ | exact ⟨pw_cell_below hb1 (pw_cell_below (pw_below_drewN (Below.refl _ _) _) q0), pw_cell_below hb1 (pw_cell_below (pw_below_drewN (Below.refl _ _) _) q1), pw_cell_below hb1 (pw_cell_below (pw_below_drewN (Below.refl _ _) _) q2), pw_cell_below hb1 (pw_cell_below (pw_below_drewN (Below.refl _ _) _) q3), pw_cell_below hb1 (pw_cell_below (pw_below_drewN (Below.refl _ _) _) q4), pw_cell_below hb1 (pw_cell_below (pw_below_drewN (Below.refl _ _) _) q5)⟩ | go_keep)
   (first
    | (go_at_call 79; refine (spec_l01Each.calls a3 b3 _ HEA.out).mono ?_; rintro e w0 ⟨rfl, ⟨nd0, rfl⟩⟩)
    | (go_at_call 72; refine (spec_l01Alone.calls k a0_0 a0_1 a0_2 a0_3 a0_4 a0_5 a1 A2 c2 l2 b3 0 _ (Kd.C_below HR2.out (by repeat (first | exact Below.refl _ _ | apply pw_below_drewN | apply below_drew | apply below_alloc))) hc2 HCD.out).mono ?_; rintro e w1 ⟨rfl, hb1⟩))
  have s0 : w1.cell? ⟨w.heap.size, 0, none⟩ = some (.int .u8 a0_0) := by first | exact pw_cell_below hb1 (pw_cell_below (pw_below_drewN (Below.refl _ _) _) q0) | exact pw_cell_below hb1 q0
  have s1 : w1.cell? ⟨w.heap.size, 1, none⟩ = some (.int .u8 a0_1) := by first | exact pw_cell_below hb1 (pw_cell_below (pw_below_drewN (Below.refl _ _) _) q1) | exact pw_cell_below hb1 q1
  have s2 : w1.cell? ⟨w.heap.size, 2, none⟩ = some (.int .u8 a0_2) := by first | exact pw_cell_below hb1 (pw_cell_below (pw_below_drewN (Below.refl _ _) _) q2) | exact pw_cell_below hb1 q2
  have s3 : w1.cell? ⟨w.heap.size, 3, none⟩ = some (.int .u8 a0_3) := by first | exact pw_cell_below hb1 (pw_cell_below (pw_below_drewN (Below.refl _ _) _) q3) | exact pw_cell_below hb1 q3
  have s4 : w1.cell? ⟨w.heap.size, 4, none⟩ = some (.int .u8 a0_4) := by first | exact pw_cell_below hb1 (pw_cell_below (pw_below_drewN (Below.refl _ _) _) q4) | exact pw_cell_below hb1 q4
  have s5 : w1.cell? ⟨w.heap.size, 5, none⟩ = some (.int .u8 a0_5) := by first | exact pw_cell_below hb1 (pw_cell_below (pw_below_drewN (Below.refl _ _) _) q5) | exact pw_cell_below hb1 q5
  have HB1 := Aside0.mk (show Below w.heap.size w w1 from below_step (by repeat (first | exact Below.refl _ _ | apply pw_below_drewN | apply below_drew | apply below_alloc)) hb1)
  clear hb1
  go_wp2_with (first
   | ((with_reducible refine gate_dst (N := 30) rfl ?_); refine Kd.R_lit (Kd.int .i64) _ 2 ?hg (N := 30) ?hd (xs := ([] : List Int)) (inner := []) (ok := fun _ => True) (okp := fun _ => True) ?hr ?hp (fun _ hk => hk) trivial (Below.refl _ _) (Nat.le_refl _) (by simp) ?_; (case hd => rfl); (case hg => rfl); (case hr => first | (go_simp; done) | (go_simp; rfl)); (case hp => exact (Reps.none _ _)); intro v5 w5 ho5 hb5 hg_ hnew_; clear hg_ hnew_; have HS5 := Aside0.mk (show StS w1 w1.heap.size a0_0 a0_1 a0_2 a0_3 a0_4 a0_5 a1 a3 l2 A2 c2 w5 ([], 0, false) from ⟨below_step (below_alloc (Below.refl _ _) _) hb5, .slice none 0 0, blk_below (blk_new w1 _) hb5, Kd.R_nil _ _ _ _ _⟩); have HO5 := Aside0.mk (Kd.R_lower (base' := w1.heap.size) (Kd.R_mono (ok' := fun k => k ≠ w1.heap.size) (Kd.R_bound ho5) (fun k hk => by have := hk.2.1; simp at this; omega)) (by simp)); clear ho5 hb5)
   | (go_at_call 83; refine (from_calls k w1 w1.heap.size a0_0 a0_1 a0_2 a0_3 a0_4 a0_5 a1 a3 l2 A2 c2 HQ.out (Nat.le_refl _) (Kd.C_below HR2.out HB1.out) hc2 l2.length w5 v5 [] 0 ([], 0, false) s' (by simp) (Nat.le_refl _) HO5.out HS5.out HF.out).mono ?_; rintro e w6 ⟨rfl, hk6, hs6⟩; obtain ⟨vb, hblk, hrb⟩ := hs6.hb; have q9 : w6.cell? ⟨w1.heap.size, 9, none⟩ = some vb := (blk_cell hblk 9).trans rfl; have q10 : w6.cell? ⟨w1.heap.size, 10, none⟩ = some (.int .i64 s'.2.1) := (blk_cell hblk 10).trans rfl; have HS6 := Aside0.mk hs6; have HRB := Aside0.mk hrb; clear hk6 hs6 hblk hrb))
  go_quiet (fail)
  go_wp2
  go_ret3
  exact ⟨vb, rfl, Kd.R_mono (Kd.R_lower HRB.out HB1.out.size) (fun _ _ => trivial), pw_below_drewN (below_step HB1.out HS6.out.bel) _⟩
 ·rw [if_neg h0] at h'
  simp only [Option.some.injEq, Prod.mk.injEq] at h'
  obtain ⟨rfl, rfl, rfl⟩ := h'
  have hc1' : (cd != 0) = true := by simp [h0]
  have hc2' : (cd == 0) = false := by simp [h0]
  clear h0
  go_enter Try.func47, Try.ntmps47
  go_wp2
  go_region_held3 (fun w' => w'.cell? ⟨w.heap.size, 0, none⟩ = some (.int .u8 a0_0) ∧ w'.cell? ⟨w.heap.size, 1, none⟩ = some (.int .u8 a0_1) ∧ w'.cell? ⟨w.heap.size, 2, none⟩ = some (.int .u8 a0_2) ∧ w'.cell? ⟨w.heap.size, 3, none⟩ = some (.int .u8 a0_3) ∧ w'.cell? ⟨w.heap.size, 4, none⟩ = some (.int .u8 a0_4) ∧ w'.cell? ⟨w.heap.size, 5, none⟩ = some (.int .u8 a0_5))
   (first | exact ⟨q0, q1, q2, q3, q4, q5⟩ | exact ⟨pw_cell_below (pw_below_drewN (Below.refl _ _) _) q0, pw_cell_below (pw_below_drewN (Below.refl _ _) _) q1, pw_cell_below (pw_below_drewN (Below.refl _ _) _) q2, pw_cell_below (pw_below_drewN (Below.refl _ _) _) q3, pw_cell_below (pw_below_drewN (Below.refl _ _) _) q4, pw_cell_below (pw_below_drewN (Below.refl _ _) _) q5⟩ | exact ⟨pw_cell_below hb1 q0, pw_cell_below hb1 q1, pw_cell_below hb1 q2, pw_cell_below hb1 q3, pw_cell_below hb1 q4, pw_cell_below hb1 q5⟩ | exact ⟨pw_cell_below hb1 (pw_cell_below (pw_below_drewN (Below.refl _ _) _) q0), pw_cell_below hb1 (pw_cell_below (pw_below_drewN (Below.refl _ _) _) q1), pw_cell_below hb1 (pw_cell_below (pw_below_drewN (Below.refl _ _) _) q2), pw_cell_below hb1 (pw_cell_below (pw_below_drewN (Below.refl _ _) _) q3), pw_cell_below hb1 (pw_cell_below (pw_below_drewN (Below.refl _ _) _) q4), pw_cell_below hb1 (pw_cell_below (pw_below_drewN (Below.refl _ _) _) q5)⟩ | go_keep)
   (first
    | (go_at_call 79; refine (spec_l01Each.calls a3 b3 _ HEA.out).mono ?_; rintro e w0 ⟨rfl, ⟨nd0, rfl⟩⟩)
    | (go_at_call 72; refine (spec_l01Alone.calls k a0_0 a0_1 a0_2 a0_3 a0_4 a0_5 a1 A2 c2 l2 b3 cd _ (Kd.C_below HR2.out (by repeat (first | exact Below.refl _ _ | apply pw_below_drewN | apply below_drew | apply below_alloc))) hc2 HCD.out).mono ?_; rintro e w1 ⟨rfl, hb1⟩))
  have s0 : w1.cell? ⟨w.heap.size, 0, none⟩ = some (.int .u8 a0_0) := by first | exact pw_cell_below hb1 (pw_cell_below (pw_below_drewN (Below.refl _ _) _) q0) | exact pw_cell_below hb1 q0
  have s1 : w1.cell? ⟨w.heap.size, 1, none⟩ = some (.int .u8 a0_1) := by first | exact pw_cell_below hb1 (pw_cell_below (pw_below_drewN (Below.refl _ _) _) q1) | exact pw_cell_below hb1 q1
  have s2 : w1.cell? ⟨w.heap.size, 2, none⟩ = some (.int .u8 a0_2) := by first | exact pw_cell_below hb1 (pw_cell_below (pw_below_drewN (Below.refl _ _) _) q2) | exact pw_cell_below hb1 q2
  have s3 : w1.cell? ⟨w.heap.size, 3, none⟩ = some (.int .u8 a0_3) := by first | exact pw_cell_below hb1 (pw_cell_below (pw_below_drewN (Below.refl _ _) _) q3) | exact pw_cell_below hb1 q3
  have s4 : w1.cell? ⟨w.heap.size, 4, none⟩ = some (.int .u8 a0_4) := by first | exact pw_cell_below hb1 (pw_cell_below (pw_below_drewN (Below.refl _ _) _) q4) | exact pw_cell_below hb1 q4
  have s5 : w1.cell? ⟨w.heap.size, 5, none⟩ = some (.int .u8 a0_5) := by first | exact pw_cell_below hb1 (pw_cell_below (pw_below_drewN (Below.refl _ _) _) q5) | exact pw_cell_below hb1 q5
  have HB1 := Aside0.mk (show Below w.heap.size w w1 from below_step (by repeat (first | exact Below.refl _ _ | apply pw_below_drewN | apply below_drew | apply below_alloc)) hb1)
  clear hb1
  go_wp2_with (first
   | ((with_reducible refine gate_dst (N := 21) rfl ?_); refine Kd.R_lit (Kd.int .i64) _ 2 ?hg (N := 21) ?hd (xs := ([] : List Int)) (inner := []) (ok := fun _ => True) (okp := fun _ => True) ?hr ?hp (fun _ hk => hk) trivial (Below.refl _ _) (Nat.le_refl _) (by simp) ?_; (case hd => rfl); (case hg => rfl); (case hr => first | (go_simp; done) | (go_simp; rfl)); (case hp => exact (Reps.none _ _)); intro v5 w5 ho5 hb5 hg_ hnew_; clear hg_ hnew_; have HO5 := Aside0.mk ho5; have HB5 := Aside0.mk (below_step HB1.out hb5); clear ho5 hb5))
  go_ret3
  exact ⟨_, rfl, Kd.R_lower HO5.out HB1.out.size, HB5.out⟩

/-! ### impl_firstOf: function 54 -/
def impl_firstOf.l0 : Nat → List Int → Int → Int → Option (Int)
 | 0, _, _, _ => none
 | k + 1, x5, x6, x7 => if x7 < x6 then (if 0 ≤ x7 then (if x7 < (x5.length : Int) then (if (rd x5 x7) = 0 then (impl_firstOf.l0 k x5 x6 (wrap64 (x7 + 1))) else (some (rd x5 x7))) else (none)) else (none)) else (some 0)
def impl_firstOf.f (k : Nat) (l0 : List Int) : Option (Int) := impl_firstOf.l0 k l0 (l0.length : Int) 0
theorem impl_firstOf.mono_l : ∀ k, (∀ y0 y1 y2, LeO (impl_firstOf.l0 k y0 y1 y2) (impl_firstOf.l0 (k + 1) y0 y1 y2))
 | 0 => fun _ _ _ r h => by simp [impl_firstOf.l0] at h
 | k + 1 => by
  have ih0 := impl_firstOf.mono_l k
  ·intro y0 y1 y2
   unfold impl_firstOf.l0
   repeat' first
   | (with_reducible exact ih0 _ _ _)
   | (with_reducible exact LeO.refl _)
   | (with_reducible exact LeO.none _)
   | (with_reducible refine LeO.ite ?_ ?_)
   | (with_reducible refine LeO.bind ?_ (fun _ => ?_))
   | exact ih0 _ _ _
   | exact LeO.none _
   | refine LeO.ite ?_ ?_
   | refine LeO.bind ?_ (fun _ => ?_)
theorem impl_firstOf.mono : ∀ a0 k, LeO (impl_firstOf.f k a0) (impl_firstOf.f (k + 1) a0) := by
 intro a0 k
 have ih0 := impl_firstOf.mono_l k
 unfold impl_firstOf.f
 repeat' first
   | (with_reducible exact ih0 _ _ _)
   | (with_reducible exact LeO.refl _)
   | (with_reducible exact LeO.none _)
   | (with_reducible refine LeO.ite ?_ ?_)
   | (with_reducible refine LeO.bind ?_ (fun _ => ?_))
   | exact ih0 _ _ _
   | exact LeO.none _
   | refine LeO.ite ?_ ?_
   | refine LeO.bind ?_ (fun _ => ?_)
set_option maxHeartbeats 8000000 in
set_option maxRecDepth 100000 in
theorem impl_firstOf.calls (k : Nat) (A0 : Option Addr) (c0 : Nat) (l0 : List Int) (r : Int) (w : World) (hr0 : Kd.C (Kd.int .i64) w A0 l0.length l0) (hc0 : l0.length ≤ c0) (h : impl_firstOf.f k l0 = some r) :
  Calls Try.prog 54 #[.slice A0 l0.length c0] w fun e w' => e = .returned (.int .i64 r) ∧ Drawn0 w w' := by
 have HR0 := Aside0.mk hr0
 have HC0 := Aside0.mk hc0
 clear hr0 hc0
 have H : (impl_firstOf.l0 k l0 (l0.length : Int) 0) = some r := h
 clear h
 have H' := Aside0.mk H
 clear H
 go_enter Try.func54, Try.ntmps54
 go_wp2
 go_loopg [7] k (fun kq v7 w' => ∃ (x7_1 : Int), v7 = .int .i64 x7_1 ∧ Aside0 (impl_firstOf.l0 kq l0 (l0.length : Int) x7_1 = some r) ∧ Aside0 (kq ≤ k) ∧ Drawn0 w w')
 case atStart => exact ⟨(0), (by first | rfl | (simp; done) | (simp [*]; done)), H', ⟨Nat.le_refl _⟩, by repeat (first | exact Drawn0.refl _ | apply Drawn0.step)⟩
 case round =>
  clear H'
  obtain ⟨x7_1, rfl, HA, HK1, ⟨m1, rfl⟩⟩ := hrel
  cases gk with
  | zero => exact absurd HA.out (by simp [impl_firstOf.l0])
  | succ k1 =>
   have H := HA.out
   clear HA
   simp only [impl_firstOf.l0] at H
   by_cases c2 : x7_1 < (l0.length : Int)
   ·rw [if_pos c2] at H
    have c2b0 : decide (x7_1 < (l0.length : Int)) = true := decide_eq_true c2
    clear c2
    by_cases c3 : 0 ≤ x7_1
    ·rw [if_pos c3] at H
     have c3b0 : decide (0 ≤ x7_1) = true := decide_eq_true c3
     clear c3
     by_cases c4 : x7_1 < (l0.length : Int)
     ·rw [if_pos c4] at H
      have c4b0 : decide (x7_1 < (l0.length : Int)) = true := decide_eq_true c4
      clear c4
      by_cases c5 : (rd l0 x7_1) = 0
      ·rw [if_pos c5] at H
       have c5b0 : ((rd l0 x7_1) == 0) = true := beq_iff_eq.mpr c5
       have c5b1 : ((rd l0 x7_1) != 0) = false := bne_eq_false_iff_eq.mpr c5
       clear c5
       have H' := Aside0.mk H
       clear H
       have p176 : 0 ≤ (x7_1 : Int) := of_decide_eq_true (by first | (with_reducible assumption) | assumption)
       have q176 : x7_1 < (l0.length : Int) := of_decide_eq_true (by first | (with_reducible assumption) | assumption)
       obtain ⟨ad176, e176, hx176_0⟩ := Kd.at_int HR0.out x7_1 p176 q176
       cases e176
       replace p176 := eq_true p176
       replace q176 := eq_true q176
       go_wp2
       go_roundg k1
       case measure => have := HK1.out; omega
       case rel => exact ⟨(wrap64 (x7_1 + 1)), (by first | rfl | (simp; done) | (simp [*]; done)), H', ⟨by have := HK1.out; omega⟩, by repeat (first | exact Drawn0.refl _ | apply Drawn0.step)⟩
      ·rw [if_neg c5] at H
       have c5b0 : ((rd l0 x7_1) == 0) = false := beq_eq_false_iff_ne.mpr c5
       have c5b1 : ((rd l0 x7_1) != 0) = true := bne_iff_ne.mpr c5
       obtain rfl := Option.some.inj H
       have p176 : 0 ≤ (x7_1 : Int) := of_decide_eq_true (by first | (with_reducible assumption) | assumption)
       have q176 : x7_1 < (l0.length : Int) := of_decide_eq_true (by first | (with_reducible assumption) | assumption)
       obtain ⟨ad176, e176, hx176_0⟩ := Kd.at_int HR0.out x7_1 p176 q176
       cases e176
       replace p176 := eq_true p176
       replace q176 := eq_true q176
       go_wp2
       go_ret
       exact ⟨by first | rfl | (simp; done) | (simp [*]; done), by repeat (first | exact Drawn0.refl _ | apply Drawn0.step)⟩
     ·rw [if_neg c4] at H
      exact absurd H (by simp)
    ·rw [if_neg c3] at H
     exact absurd H (by simp)
   ·rw [if_neg c2] at H
    have c2b0 : decide (x7_1 < (l0.length : Int)) = false := decide_eq_false c2
    clear c2
    obtain rfl := Option.some.inj H
    go_wp2
    go_ret
    exact ⟨by first | rfl | (simp; done) | (simp [*]; done), by repeat (first | exact Drawn0.refl _ | apply Drawn0.step)⟩

/-! ### impl_Rules_may: function 92 (told by hand) -/
def impl_Rules_may.f (a0_0 : Int) (a0_1 : Int) (a0_2 : Int) (a0_3 : Int) (a0_4 : Int) (a0_5 : Int) (a1 : Int) (a2 : Int) : Option (Bool) :=
 if 0 ≤ a1 ∧ a1 < 6 ∧ 0 ≤ a2 then some ((Go.bits .and .u8 (shr .u8 (rd [a0_0, a0_1, a0_2, a0_3, a0_4, a0_5] a1) a2) 1) == 1) else none
set_option maxHeartbeats 8000000 in
set_option maxRecDepth 100000 in
theorem impl_Rules_may.calls (a0_0 : Int) (a0_1 : Int) (a0_2 : Int) (a0_3 : Int) (a0_4 : Int) (a0_5 : Int) (a1 : Int) (a2 : Int) (r : Bool) (w : World) (h : impl_Rules_may.f a0_0 a0_1 a0_2 a0_3 a0_4 a0_5 a1 a2 = some r) :
  Calls Try.prog 92 #[.agg #[.int .u8 a0_0, .int .u8 a0_1, .int .u8 a0_2, .int .u8 a0_3, .int .u8 a0_4, .int .u8 a0_5], .int .u8 a1, .int .u8 a2] w fun e w' => e = .returned (.bool r) ∧ Below w.heap.size w w' := by
 unfold impl_Rules_may.f at h
 by_cases hc : 0 ≤ a1 ∧ a1 < 6 ∧ 0 ≤ a2
 ·rw [if_pos hc] at h
  obtain ⟨h0, h1, h2⟩ := hc
  have hr := Option.some.inj h
  clear h
  obtain ⟨x, hx⟩ : ∃ x, rd [a0_0, a0_1, a0_2, a0_3, a0_4, a0_5] a1 = x := ⟨_, rfl⟩
  rw [hx] at hr
  obtain ⟨s, hs⟩ : ∃ s, shr .u8 x a2 = s := ⟨_, rfl⟩
  rw [hs] at hr
  have hs' : x / 2 ^ min a2.toNat 8 = s := hs
  have hs2 : a2 ≤ 8 → x / 2 ^ a2.toNat = s := shr_small hs
  obtain rfl := hr
  have h2b : decide (0 ≤ a2) = true := decide_eq_true h2
  have h6 : a1 = 0 ∨ a1 = 1 ∨ a1 = 2 ∨ a1 = 3 ∨ a1 = 4 ∨ a1 = 5 := by omega
  clear h0 h1
  rcases h6 with rfl | rfl | rfl | rfl | rfl | rfl
  all_goals
   simp only [rd, Int.reduceToNat, List.getD_cons_zero, List.getD_cons_succ] at hx
   obtain rfl := hx
   go_enter Try.func92, Try.ntmps92
   go_wp2
   go_ret
   exact ⟨by first | rfl | (simp [*]; done), (Below.refl _ _).alloc (Nat.le_refl _) _⟩
 ·rw [if_neg hc] at h
  cases h

end Go.Proofs.Ythodfhcaaidnmaa.Ch
