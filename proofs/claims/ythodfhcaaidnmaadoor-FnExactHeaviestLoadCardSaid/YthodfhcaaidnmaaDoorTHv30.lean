/- Words and walks for the law FnExactHeaviestLoad. -/
import Derived.Test.YthodfhcaaidnmaaDoorTHv23
import Derived.Test.YthodfhcaaidnmaaDoorTHv28
import Derived.Test.YthodfhcaaidnmaaDoorTHv29
namespace Go.Proofs.YthodfhcaaidnmaaDoor.Hv
open Go.RowKit Go.Proofs.YthodfhcaaidnmaaDoorW.PrintWords Go.Proofs.YthodfhcaaidnmaaDoorW.PrintLast Go.Proofs.YthodfhcaaidnmaaDoorW.PrintMore
attribute [local go_sem] max2_int min2_int max_two min_two max_three min_three max_four min_four   -- for this text's walks alone
set_option linter.unusedVariables false
set_option linter.unusedSimpArgs false
def subsOf (n set : Nat) : List Int := ((List.range n).filter fun i => set.testBit i).map fun i : Nat => (i : Int)
theorem bits_step : ∀ x, x < 256 → x ≠ 0 → subsOf 8 x = ((Lib.ctz 64 x : Nat) : Int) :: subsOf 8 (x &&& (x - 1)) ∧ (x &&& (x - 1)) < x := by decide +kernel
theorem bits_all : ∀ n, n < 9 → ∀ s, s < 2 ^ n → subsOf n s = subsOf 8 s ∧ s < 256 := by decide +kernel
theorem and_less (x : Nat) (hx : x < 256) (h0 : x ≠ 0) : bits .and .u64 (x : Int) ((x : Int) - 1) = ((x &&& (x - 1) : Nat) : Int) := by
 rw [show ((x : Int) - 1) = ((x - 1 : Nat) : Int) by omega, bits_and_u64_nat x (x - 1) (by omega) (by omega)]
theorem subs_len (n s : Nat) : (subsOf n s).length ≤ n := by
 unfold subsOf
 rw [List.length_map]
 exact Nat.le_trans (List.length_filter_le _ _) (by rw [List.length_range]; exact Nat.le_refl _)
def lexlt : List Int → List Int → Bool
 | _, [] => false
 | [], _ :: _ => true
 | x :: xs, y :: ys => decide (x < y) || (decide (x = y) && lexlt xs ys)
def updS (sc : List Int → Int) (o : List Int) (s : List Int × Int) : List Int × Int := if sc o > s.2 ∨ (sc o = s.2 ∧ sc o ≥ 0 ∧ lexlt o s.1 = true) then (o, sc o) else s
def bestS (sc : List Int → Int) (n : Nat) : List Int × Int := (List.range (2 ^ n)).foldl (fun s set => updS sc (subsOf n set) s) ([], -1)
theorem pow_wrap : ∀ n : Nat, n < 9 → IntKind.u64.wrap ((2 : Int) ^ n) = ((2 ^ n : Nat) : Int) := by decide
def stepS (sc : List Int → Int) (n : Nat) (s : List Int × Int) (set : Nat) : List Int × Int := updS sc (subsOf n set) s
theorem Compare_ev (a b : List Int) (ha : a.length ≤ 1048576) : ∀ (cs pre ds pb : List Int), a = pre ++ cs → b = pb ++ ds → pb.length = pre.length → ∃ r : Int, Ev (fun k => slices_Compare_int64.l0 k a b a (a.length : Int) (pre.length : Int)) r ∧ decide (r < 0) = lexlt cs ds := by
 intro cs
 induction cs with
 | nil =>
  intro pre ds pb hpre hb hl
  have h1 : a.length = pre.length := by rw [hpre]; simp
  have h2 : b.length = pb.length + ds.length := by rw [hb]; simp
  cases ds with
  | nil =>
   refine ⟨0, Ev.step (fun k => by rw [slices_Compare_int64.l0]) ?_, rfl⟩
   simp only [List.length_nil] at h2
   simp only [show ¬ (pre.length : Int) < (a.length : Int) by omega, show ¬ (a.length : Int) < (b.length : Int) by omega, ↓reduceIte]
   exact Ev.now _
  | cons d ds =>
   refine ⟨-1, Ev.step (fun k => by rw [slices_Compare_int64.l0]) ?_, rfl⟩
   simp only [List.length_cons] at h2
   simp only [show ¬ (pre.length : Int) < (a.length : Int) by omega, show (a.length : Int) < (b.length : Int) by omega, ↓reduceIte]
   exact Ev.now _
 | cons c cs ih =>
  intro pre ds pb hpre hb hl
  have h1 : a.length = pre.length + cs.length + 1 := by rw [hpre]; simp; omega
  have h2 : b.length = pb.length + ds.length := by rw [hb]; simp
  have hc : rd a (pre.length : Int) = c := by rw [hpre]; simp [rd, List.getD_eq_getElem?_getD]
  have hw : wrap64 ((pre.length : Int) + 1) = ((pre.length + 1 : Nat) : Int) := by unfold wrap64; omega
  cases ds with
  | nil =>
   refine ⟨1, Ev.step (fun k => by rw [slices_Compare_int64.l0]) ?_, rfl⟩
   simp only [List.length_nil] at h2
   simp only [show (pre.length : Int) < (a.length : Int) by omega, show (0 : Int) ≤ (pre.length : Int) by omega, show (pre.length : Int) ≥ (b.length : Int) by omega, ↓reduceIte]
   exact Ev.now _
  | cons d ds =>
   simp only [List.length_cons] at h2
   have hd : rd b (pre.length : Int) = d := by rw [hb, ← hl]; simp [rd, List.getD_eq_getElem?_getD]
   have hcmp : cmp_Compare_int64.f c d = some (if c < d then -1 else if c > d then 1 else 0) := by
    unfold cmp_Compare_int64.f cmp_isNaN_int64.f
    by_cases h : c < d
    ·simp [h]
    ·by_cases h' : c > d
     ·simp [h, h']
     ·simp [h, h']
   obtain ⟨r, hr, hlt⟩ := ih (pre ++ [c]) ds (pb ++ [d]) (by rw [hpre]; simp) (by rw [hb]; simp) (by simp [hl])
   simp only [List.length_append, List.length_cons, List.length_nil, Nat.zero_add] at hr
   by_cases h : c < d
   ·refine ⟨-1, Ev.step (fun k => by rw [slices_Compare_int64.l0]) ?_, by simp [lexlt, h]⟩
    simp only [show (pre.length : Int) < (a.length : Int) by omega, show (0 : Int) ≤ (pre.length : Int) by omega, show ¬ (pre.length : Int) ≥ (b.length : Int) by omega, show (pre.length : Int) < (b.length : Int) by omega, ↓reduceIte, hc, hd, hcmp, h, Option.bind_some, show ¬ (-1 : Int) = 0 by omega]
    exact Ev.now _
   ·by_cases h' : c > d
    ·refine ⟨1, Ev.step (fun k => by rw [slices_Compare_int64.l0]) ?_, by simp [lexlt, h]; omega⟩
     simp only [show (pre.length : Int) < (a.length : Int) by omega, show (0 : Int) ≤ (pre.length : Int) by omega, show ¬ (pre.length : Int) ≥ (b.length : Int) by omega, show (pre.length : Int) < (b.length : Int) by omega, ↓reduceIte, hc, hd, hcmp, h, h', Option.bind_some, show ¬ (1 : Int) = 0 by omega]
     exact Ev.now _
    ·refine ⟨r, Ev.step (fun k => by rw [slices_Compare_int64.l0]) ?_, by rw [hlt]; simp [lexlt, show c = d by omega]⟩
     simp only [show (pre.length : Int) < (a.length : Int) by omega, show (0 : Int) ≤ (pre.length : Int) by omega, show ¬ (pre.length : Int) ≥ (b.length : Int) by omega, show (pre.length : Int) < (b.length : Int) by omega, ↓reduceIte, hc, hd, hcmp, h, h', Option.bind_some, hw]
     exact hr
theorem Compare_some (a b : List Int) (ha : a.length ≤ 1048576) : ∃ k r, slices_Compare_int64.f k a b = some r ∧ decide (r < 0) = lexlt a b := by
 obtain ⟨r, hr, h⟩ := Compare_ev a b ha a [] b [] rfl rfl rfl
 obtain ⟨k, hk⟩ := Ev.rounds hr
 exact ⟨k, r, hk, h⟩
set_option maxHeartbeats 4000000 in
set_option maxRecDepth 100000 in
theorem bestSubset_calls (W0 : World) (n : Nat) (g : Nat) (lb : Array Value) (sc : List Int → Int) (hn : n ≤ 8) (hT : TabOK W0)
  (eg : ∀ args w, (callFunc g args).run Tryd.prog w = .ok (.enter g args) w)
  (hsc : ∀ (W : World) (A : Option Addr) (c : Nat) (o : List Int) (s : Nat), Below W0.heap.size W0 W → Kd.C (Kd.int .i64) W A o.length o → o.length ≤ c → s < 2 ^ n → o = subsOf n s →
   Calls Tryd.prog g (#[.slice A o.length c] ++ lb) W fun e w' => e = .returned (.int .i64 (sc o)) ∧ Below W.heap.size W w') :
  Calls Tryd.prog 76 #[.int .i64 (n : Int), .func (.func g) #[] lb] W0 fun e w' =>
    ∃ v : Value, e = .returned (.tuple #[v, .int .i64 (bestS sc n).2]) ∧ Kd.R (Kd.int .i64) 2 w' W0.heap.size (fun _ => True) v (bestS sc n).1 ∧ Below W0.heap.size W0 w' := by
 obtain ⟨rb, hrb⟩ : ∃ rb, bestS sc n = rb := ⟨_, rfl⟩
 rw [hrb]
 have HRB := Aside0.mk hrb
 clear hrb
 have HT := Aside0.mk hT
 have HSC := Aside0.mk hsc
 have hw2 : IntKind.u64.wrap ((2 : Int) ^ n) = ((2 ^ n : Nat) : Int) := pow_wrap n (by omega)
 have hb := bits_all n (by omega)
 obtain ⟨N, hN⟩ : ∃ N : Nat, 2 ^ n = N := ⟨_, rfl⟩
 rw [hN] at hw2 hb
 have hN256 : N ≤ 256 := by rw [← hN]; exact Nat.pow_le_pow_right (by omega) hn
 have HN := Aside0.mk hN
 have HBI := Aside0.mk hb
 clear hT hsc hN hb
 go_enter Tryd.func76, Tryd.ntmps76
 go_wp2
 go_loopg [6, 7, 14] N (fun gg v6 v7 v14 w' => ∃ (s : Nat) (bl : List Int) (bm : Int), s ≤ N ∧ N - s ≤ gg ∧ v7 = .int .i64 bm ∧ v14 = .int .u64 (s : Int) ∧ Aside0 ((List.range s).foldl (stepS sc n) ([], -1) = (bl, bm)) ∧ Aside0 (Kd.R (Kd.int .i64) 2 w' W0.heap.size (fun _ => True) v6 bl) ∧ Aside0 (Below W0.heap.size W0 w'))
 case atStart => exact ⟨0, [], -1, by omega, by omega, rfl, rfl, ⟨rfl⟩, ⟨Kd.R_nil _ _ _ _ _⟩, ⟨Below.refl _ _⟩⟩
 case round =>
  obtain ⟨s, bl, bm, hs, hg, rfl, rfl, HF, HR, HB⟩ := hrel
  obtain ⟨wo, rfl⟩ : ∃ wo, wo = wr := ⟨wr, rfl⟩
  by_cases hlt : s < N
  ·have hlti : (s : Int) < (N : Int) := by omega
   go_wp2_with ((with_reducible refine gate_dst (N := 17) rfl ?_); refine Kd.R_lit (Kd.int .i64) _ 2 ?hg (N := 17) ?hd (xs := ([] : List Int)) (inner := []) (ok := fun _ => True) (okp := fun _ => True) ?hr ?hp (fun _ hk => hk) trivial (Below.refl _ _) (Nat.le_refl _) (by simp) ?_; (case hd => rfl); (case hg => rfl); (case hr => first | (go_simp; done) | (go_simp; rfl)); (case hp => exact (Reps.none _ _)); intro v17 w17 ho hb hg_ hnew_; clear hg_ hnew_; have HO17 := Aside0.mk ho; have HB17 := Aside0.mk hb; clear ho hb)
   go_loopg [9, 10] s (fun gg v9 v10 w' => ∃ (o : List Int) (x : Nat), x ≤ gg ∧ x < 256 ∧ v10 = .int .u64 (x : Int) ∧ Aside0 (o ++ subsOf 8 x = subsOf n s) ∧ Aside0 (Kd.R (Kd.int .i64) 2 w' wo.heap.size (fun _ => True) v9 o) ∧ Aside0 (Below wo.heap.size wo w'))
   case atStart =>
    have h1 := (HBI.out s hlt)
    exact ⟨[], s, Nat.le_refl _, h1.2, rfl, ⟨by rw [List.nil_append, h1.1]⟩, HO17, HB17⟩
   case round =>
    clear HO17 HB17
    obtain ⟨o, x, hxg, hx, rfl, HO, HRo, HBo⟩ := hrel
    obtain ⟨Ao, co, eo⟩ := Kd.R_slice HRo.out
    subst eo
    have holen : o.length ≤ 1000 := by
     have h1 := congrArg List.length HO.out
     have h2 := subs_len n s
     rw [List.length_append] at h1
     omega
    have HOL := Aside0.mk holen
    clear holen
    by_cases h0 : x = 0
    ·subst h0
     have ho : o = subsOf n s := by have := HO.out; rwa [show subsOf 8 0 = [] from rfl, List.append_nil] at this
     have HOE := Aside0.mk ho
     have hsn : stepS sc n (bl, bm) s = updS sc o (bl, bm) := by rw [ho]; rfl
     have hfold : (List.range (s + 1)).foldl (stepS sc n) ([], -1) = updS sc o (bl, bm) := by rw [List.range_succ, List.foldl_append, HF.out, ← hsn]; rfl
     have hcall := fun (W : World) (hW : Below W0.heap.size W0 W) (hC : Kd.C (Kd.int .i64) W Ao o.length o) (hc : o.length ≤ co) => HSC.out W Ao co o s hW hC hc (by rw [HN.out]; exact hlt) ho
     have HUP := Aside0.mk hfold
     obtain ⟨y, hy⟩ : ∃ y, sc o = y := ⟨_, rfl⟩
     rw [hy] at hcall
     have HY := Aside0.mk hy
     have HCALL := Aside0.mk hcall
     have hcap := (Kd.R_reads' HRo.out).2.1
     have HBB := Aside0.mk (below_step HB.out HBo.out)
     clear ho hsn hfold hy hcall HSC
     have HRb := Aside0.mk (Kd.R_below HR.out HBo.out)
     obtain ⟨Ab, cb, eb⟩ := Kd.R_slice HRb.out
     subst eb
     have hcapb := (Kd.R_reads' HRb.out).2.1
     by_cases c1 : y > bm
     ·have c1b : decide (y > bm) = true := decide_eq_true c1
      have HU := Aside0.mk (HUP.out.trans (show updS sc o (bl, bm) = (o, y) by unfold updS; rw [HY.out, if_pos (.inl c1)]))
      clear HUP c1
      go_wp2_with (first | (go_at_fn g; refine (HCALL.out _ (below_step HB.out (by repeat (first | exact HBo.out | apply below_alloc | apply pw_below_drewN | apply below_drew1))) (by repeat (first | exact (Kd.R_reads' HRo.out).2.2 | (with_reducible refine Kd.C_alloc ?_ _) | (with_reducible refine Kd.C_drewN ?_ _) | (with_reducible refine Kd.C_drew ?_))) hcap).mono ?_; rintro e w1 ⟨rfl, hb1⟩; have HB1 := Aside0.mk hb1; clear hb1))
      go_roundg (N - (s + 1))
      case measure => omega
      case rel => exact ⟨s + 1, o, y, by omega, by omega, rfl, by go_num, HU, ⟨Kd.R_lower (Kd.R_below HRo.out HB1.out) HB.out.size⟩, ⟨below_step HBB.out HB1.out⟩⟩
     ·have c1b : decide (y > bm) = false := decide_eq_false c1
      by_cases c2 : y = bm
      ·by_cases c3 : y ≥ 0
       ·have c3b : decide (y ≥ 0) = true := decide_eq_true c3
        obtain ⟨kc, rc, hcmp, hlx⟩ := Compare_some o bl (by have := HOL.out; omega)
        have HCMP := Aside0.mk hcmp
        cases hq : lexlt o bl with
        | true =>
         have c4b : decide (rc < 0) = true := hlx.trans hq
         have HU := Aside0.mk (HUP.out.trans (show updS sc o (bl, bm) = (o, y) by unfold updS; rw [HY.out, if_pos (.inr ⟨c2, c3, hq⟩)]))
         have c2b : (y == bm) = true := by simp [c2]
         clear HUP c1 c2 c3 hlx hq hcmp
         go_wp2_with (first | (go_at_fn g; refine (HCALL.out _ (below_step HB.out (by repeat (first | exact HBo.out | apply below_alloc | apply pw_below_drewN | apply below_drew1))) (by repeat (first | exact (Kd.R_reads' HRo.out).2.2 | (with_reducible refine Kd.C_alloc ?_ _) | (with_reducible refine Kd.C_drewN ?_ _) | (with_reducible refine Kd.C_drew ?_))) hcap).mono ?_; rintro e w1 ⟨rfl, hb1⟩; have HB1 := Aside0.mk hb1; clear hb1) | (go_at_call 96; refine (slices_Compare_int64.calls kc Ao co o Ab cb bl rc _ (Kd.C_below (Kd.R_reads' HRo.out).2.2 HB1.out) hcap (Kd.C_below (Kd.R_reads' HRb.out).2.2 HB1.out) hcapb HCMP.out).mono ?_; rintro e w2 ⟨rfl, ⟨nd, rfl⟩⟩))
         go_roundg (N - (s + 1))
         case measure => omega
         case rel => exact ⟨s + 1, o, y, by omega, by omega, rfl, by go_num, HU, ⟨Kd.R_drewN (Kd.R_lower (Kd.R_below HRo.out HB1.out) HB.out.size) _⟩, ⟨pw_below_drewN (below_step HBB.out HB1.out) _⟩⟩
        | false =>
         have c4b : decide (rc < 0) = false := hlx.trans hq
         have HU := Aside0.mk (HUP.out.trans (show updS sc o (bl, bm) = (bl, bm) by unfold updS; rw [HY.out, if_neg (fun h => h.elim c1 (fun h => by have := h.2.2; rw [hq] at this; cases this))]))
         have c2b : (y == bm) = true := by simp [c2]
         clear HUP c1 c2 c3 hlx hq hcmp
         go_wp2_with (first | (go_at_fn g; refine (HCALL.out _ (below_step HB.out (by repeat (first | exact HBo.out | apply below_alloc | apply pw_below_drewN | apply below_drew1))) (by repeat (first | exact (Kd.R_reads' HRo.out).2.2 | (with_reducible refine Kd.C_alloc ?_ _) | (with_reducible refine Kd.C_drewN ?_ _) | (with_reducible refine Kd.C_drew ?_))) hcap).mono ?_; rintro e w1 ⟨rfl, hb1⟩; have HB1 := Aside0.mk hb1; clear hb1) | (go_at_call 96; refine (slices_Compare_int64.calls kc Ao co o Ab cb bl rc _ (Kd.C_below (Kd.R_reads' HRo.out).2.2 HB1.out) hcap (Kd.C_below (Kd.R_reads' HRb.out).2.2 HB1.out) hcapb HCMP.out).mono ?_; rintro e w2 ⟨rfl, ⟨nd, rfl⟩⟩))
         go_roundg (N - (s + 1))
         case measure => omega
         case rel => exact ⟨s + 1, bl, bm, by omega, by omega, rfl, by go_num, HU, ⟨Kd.R_drewN (Kd.R_below HRb.out HB1.out) _⟩, ⟨pw_below_drewN (below_step HBB.out HB1.out) _⟩⟩
       ·have c3b : decide (y ≥ 0) = false := decide_eq_false c3
        have HU := Aside0.mk (HUP.out.trans (show updS sc o (bl, bm) = (bl, bm) by unfold updS; rw [HY.out, if_neg (fun h => h.elim c1 (fun h => c3 h.2.1))]))
        have c2b : (y == bm) = true := by simp [c2]
        clear HUP c1 c2 c3
        go_wp2_with (first | (go_at_fn g; refine (HCALL.out _ (below_step HB.out (by repeat (first | exact HBo.out | apply below_alloc | apply pw_below_drewN | apply below_drew1))) (by repeat (first | exact (Kd.R_reads' HRo.out).2.2 | (with_reducible refine Kd.C_alloc ?_ _) | (with_reducible refine Kd.C_drewN ?_ _) | (with_reducible refine Kd.C_drew ?_))) hcap).mono ?_; rintro e w1 ⟨rfl, hb1⟩; have HB1 := Aside0.mk hb1; clear hb1))
        go_roundg (N - (s + 1))
        case measure => omega
        case rel => exact ⟨s + 1, bl, bm, by omega, by omega, rfl, by go_num, HU, ⟨Kd.R_below HRb.out HB1.out⟩, ⟨below_step HBB.out HB1.out⟩⟩
      ·have c2b : (y == bm) = false := by simp [c2]
       have HU := Aside0.mk (HUP.out.trans (show updS sc o (bl, bm) = (bl, bm) by unfold updS; rw [HY.out, if_neg (fun h => h.elim c1 (fun h => c2 h.1))]))
       clear HUP c1 c2
       go_wp2_with (first | (go_at_fn g; refine (HCALL.out _ (below_step HB.out (by repeat (first | exact HBo.out | apply below_alloc | apply pw_below_drewN | apply below_drew1))) (by repeat (first | exact (Kd.R_reads' HRo.out).2.2 | (with_reducible refine Kd.C_alloc ?_ _) | (with_reducible refine Kd.C_drewN ?_ _) | (with_reducible refine Kd.C_drew ?_))) hcap).mono ?_; rintro e w1 ⟨rfl, hb1⟩; have HB1 := Aside0.mk hb1; clear hb1))
       go_roundg (N - (s + 1))
       case measure => omega
       case rel => exact ⟨s + 1, bl, bm, by omega, by omega, rfl, by go_num, HU, ⟨Kd.R_below HRb.out HB1.out⟩, ⟨below_step HBB.out HB1.out⟩⟩
    ·have hpos : (x : Int) > 0 := by omega
     have hposb : decide ((x : Int) > 0) = true := decide_eq_true hpos
     obtain ⟨hst, hls⟩ := bits_step x hx h0
     obtain ⟨y, hy⟩ : ∃ y : Int, ((Lib.ctz 64 x : Nat) : Int) = y := ⟨_, rfl⟩
     have hcall := fun (W : World) (hW : TabOK W) => TZ_calls x h0 (by omega) W hW
     rw [hy] at hst hcall
     have hand := and_less x hx h0
     obtain ⟨x2, hx2⟩ : ∃ x2 : Nat, x &&& (x - 1) = x2 := ⟨_, rfl⟩
     rw [hx2] at hst hls hand
     have hx256 : x2 < 256 := by omega
     have HST := Aside0.mk hst
     have HCALL := Aside0.mk hcall
     clear hst hcall hy hx2
     obtain ⟨o2, ho2⟩ : ∃ o2, o ++ [y] = o2 := ⟨_, rfl⟩
     have HO2 := Aside0.mk ho2
     clear ho2
     go_wp2_with (first
      | (go_at_call 95; refine (HCALL.out _ (HT.out.below (below_step HB.out (by repeat (first | exact HBo.out | apply below_alloc | apply pw_below_drewN | apply below_drew1))))).mono ?_; rintro e w1 ⟨rfl, rfl⟩)
      | ((with_reducible refine gate_builtin (b := .append) (xs := #[.tmp 25, .tmp 28]) rfl ?_); at_builtin; refine Kd.R_append (Kd.int .i64) (w0 := wo) wo.heap.size rfl (.tmp 25) (.tmp 28) 31 2 (.int .i64 0) 8 rfl Tryd.underlying31 info2 rfl (by decide) (by omega) (.slice Ao o.length co) o y [.int .i64 y] (fun _ => True) (fun _ => False) rfl rfl ?aP (fun _ hk => hk.elim) ?aF ?aO ?aB ?aS ?aL ?_; (case aP => exact rfl); (case aB => exact (by repeat (first | exact HBo.out | apply below_alloc | apply pw_below_drewN | apply below_drew1))); (case aF => exact (fun _ _ => trivial)); (case aO => exact (by (with_reducible repeat (first | apply Kd.R_alloc | apply Kd.R_drewN | apply Kd.R_drew)); exact HRo.out)); (case aS => exact (below_size (by repeat (first | exact HBo.out | apply below_alloc | apply pw_below_drewN | apply below_drew1)))); (case aL => have := HOL.out; omega); intro v29 w29 ho hb hg hat; rw [HO2.out] at ho; have HO29 := Aside0.mk ho; have HB29 := Aside0.mk hb; clear ho hb hg hat))
     go_roundg x2
     case measure => omega
     case rel => exact ⟨o2, x2, Nat.le_refl _, hx256, by first | rfl | rw [hand], ⟨by rw [← HO2.out, List.append_assoc, ← HO.out, HST.out]; rfl⟩, HO29, HB29⟩
  ·have hlti : ¬ (s : Int) < (N : Int) := by omega
   have hsN : s = N := by omega
   obtain rfl : rb = (bl, bm) := by rw [← HRB.out, ← HF.out, hsN, ← HN.out]; rfl
   go_wp2
   go_ret2
   exact ⟨_, rfl, HR.out, HB.out⟩
def impl_picked_impl_Garment.l0 : Nat → List (S44) → List (S44) → List Int → Int → Int → Option ((List (S44)))
 | 0, _, _, _, _, _ => none
 | k + 1, x0, x5, x9, x10, x11 => if x11 < x10 then (if 0 ≤ x11 then (if x11 < (x9.length : Int) then (if 0 ≤ (rd x9 x11) then (if (rd x9 x11) < (x0.length : Int) then (if x5.length < 23456248059221 then (impl_picked_impl_Garment.l0 k x0 (x5 ++ [(⟨(rd_T44 x0 (rd x9 x11)).f0, (rd_T44 x0 (rd x9 x11)).f1, (rd_T44 x0 (rd x9 x11)).f2, (rd_T44 x0 (rd x9 x11)).f3⟩ : S44)]) x9 x10 (wrap64 (x11 + 1))) else (none)) else (none)) else (none)) else (none)) else (none)) else (some x5)
def impl_picked_impl_Garment.f (k : Nat) (l0 : List (S44)) (l1 : List Int) : Option ((List (S44))) := impl_picked_impl_Garment.l0 k l0 (([] : List (S44))) l1 (l1.length : Int) 0
set_option maxHeartbeats 8000000 in
set_option maxRecDepth 100000 in
theorem impl_picked_impl_Garment.calls (k : Nat) (A0 : Option Addr) (c0 : Nat) (l0 : List (S44)) (A1 : Option Addr) (c1 : Nat) (l1 : List Int) (r : List (S44)) (w : World) (hr0 : Kd.C k44 w A0 l0.length l0) (hc0 : l0.length ≤ c0) (hr1 : Kd.C (Kd.int .i64) w A1 l1.length l1) (hc1 : l1.length ≤ c1) (h : impl_picked_impl_Garment.f k l0 l1 = some r) :
  Calls Tryd.prog 78 #[.slice A0 l0.length c0, .slice A1 l1.length c1] w fun e w' => ∃ v0_ : Value, e = .returned (v0_) ∧ Kd.R k44 44 w' w.heap.size (fun _ => True) v0_ r ∧ Below w.heap.size w w' := by
 have hu44 := Tryd.underlying44
 have HR0 := Aside0.mk hr0
 have HC0 := Aside0.mk hc0
 clear hr0 hc0
 have HR1 := Aside0.mk hr1
 have HC1 := Aside0.mk hc1
 clear hr1 hc1
 have HB := Aside0.mk (Below.refl w.heap.size w)
 have H : (impl_picked_impl_Garment.l0 k l0 (([] : List (S44))) l1 (l1.length : Int) 0) = some r := h
 clear h
 obtain ⟨y221, hy221⟩ : ∃ y_ : List (S44), y_ = (([] : List (S44))) := ⟨_, rfl⟩
 replace H : (impl_picked_impl_Garment.l0 k l0 y221 l1 (l1.length : Int) 0) = some r := by first | (rw [hy221]; with_reducible exact H) | (have H2_ := (Option.bind_some _ _).symm.trans H; rw [hy221]; with_reducible exact H2_) | (have H2_ := (Option.bind_some _ _).symm.trans H; with_reducible exact H2_) | with_reducible exact H | (rw [hy221]; exact H) | exact H
 have Ny221 := Aside0.mk hy221
 clear hy221
 have H' := Aside0.mk H
 clear H
 go_enter Tryd.func78, Tryd.ntmps78
 go_wp2_with (first | ((with_reducible refine gate_dst (N := 8) rfl ?_); refine Kd.R_lit k44 _ 44 ?hg (N := 8) ?hd (xs := ([] : List (S44))) (inner := []) (ok := fun _ => True) (okp := fun _ => True) ?hr ?hp (fun _ hk => hk) trivial (Below.refl _ _) (Nat.le_refl _) (by simp) ?_; (case hd => rfl); (case hg => rfl); (case hr => first | (go_simp; done) | (go_simp; rfl)); (case hp => exact (Reps.none _ _)); intro v222 w3 ho4 hb hg_ hnew_; clear hg_ hnew_; (first | rw [← Ny221.out] at ho4 | (simp only [Int.reduceToNat] at ho4; rw [← Ny221.out] at ho4)); have n0_ := Aside0.mk (Kd.R_lower ho4 (below_size (by repeat (first | (with_reducible first | exact HB.out | apply below_alloc | apply pw_below_drewN | apply below_drew1) | exact HB.out)))); have n1_ := Aside0.mk (below_step (by repeat (first | (with_reducible first | exact HB.out | apply below_alloc | apply pw_below_drewN | apply below_drew1) | exact HB.out)) hb); clear HB; have HO223 := n0_; have HB := n1_; clear n0_ n1_; clear hb ho4))
 go_loopg [5, 11] k (fun kq v5 v11 w' => ∃ (x5_1 : List (S44)) (x11_1 : Int), v11 = .int .i64 x11_1 ∧ Aside0 (impl_picked_impl_Garment.l0 kq l0 x5_1 l1 (l1.length : Int) x11_1 = some r) ∧ Aside0 (kq ≤ k) ∧ Aside0 (Kd.R k44 44 w' w.heap.size (fun _ => True) v5 x5_1) ∧ Aside0 (Below w.heap.size w w'))
 case atStart => exact ⟨(y221), (0), (by first | rfl | (simp; done) | (simp [*]; done)), H', ⟨Nat.le_refl _⟩, ⟨by (with_reducible repeat (first | apply Kd.R_alloc | apply Kd.R_drewN | apply Kd.R_drew)); exact HO223.out⟩, ⟨by repeat (first | (with_reducible first | exact HB.out | apply below_alloc | apply pw_below_drewN | apply below_drew1) | exact HB.out)⟩⟩
 case round =>
  clear H'
  try clear c1
  try clear p2
  obtain ⟨x5_1, x11_1, rfl, HA, HK1, HO_5, HB⟩ := hrel
  cases gk with
  | zero => exact absurd HA.out (by simp [impl_picked_impl_Garment.l0])
  | succ k1 =>
   have H := HA.out
   clear HA
   simp only [impl_picked_impl_Garment.l0] at H
   by_cases c5 : x11_1 < (l1.length : Int)
   ·rw [if_pos c5] at H
    have c5b0 : decide (x11_1 < (l1.length : Int)) = true := decide_eq_true c5
    clear c5
    by_cases c6 : 0 ≤ x11_1
    ·rw [if_pos c6] at H
     have c6b0 : decide (0 ≤ x11_1) = true := decide_eq_true c6
     clear c6
     by_cases c7 : x11_1 < (l1.length : Int)
     ·rw [if_pos c7] at H
      have c7b0 : decide (x11_1 < (l1.length : Int)) = true := decide_eq_true c7
      clear c7
      by_cases c8 : 0 ≤ (rd l1 x11_1)
      ·rw [if_pos c8] at H
       have c8b0 : decide (0 ≤ (rd l1 x11_1)) = true := decide_eq_true c8
       clear c8
       by_cases c9 : (rd l1 x11_1) < (l0.length : Int)
       ·rw [if_pos c9] at H
        have c9b0 : decide ((rd l1 x11_1) < (l0.length : Int)) = true := decide_eq_true c9
        clear c9
        by_cases c10 : x5_1.length < 23456248059221
        ·rw [if_pos c10] at H
         have LMc10 := Aside0.mk c10
         clear c10
         obtain ⟨y226, hy226⟩ : ∃ y_ : List (S44), y_ = (x5_1 ++ [(⟨(rd_T44 l0 (rd l1 x11_1)).f0, (rd_T44 l0 (rd l1 x11_1)).f1, (rd_T44 l0 (rd l1 x11_1)).f2, (rd_T44 l0 (rd l1 x11_1)).f3⟩ : S44)]) := ⟨_, rfl⟩
         replace H : (impl_picked_impl_Garment.l0 k1 l0 y226 l1 (l1.length : Int) (wrap64 (x11_1 + 1))) = some r := by first | (rw [hy226]; with_reducible exact H) | (have H2_ := (Option.bind_some _ _).symm.trans H; rw [hy226]; with_reducible exact H2_) | (have H2_ := (Option.bind_some _ _).symm.trans H; with_reducible exact H2_) | with_reducible exact H | (rw [hy226]; exact H) | exact H
         have Ny226 := Aside0.mk hy226
         clear hy226
         have H' := Aside0.mk H
         clear H
         have p224 : 0 ≤ (x11_1 : Int) := of_decide_eq_true (by first | (with_reducible assumption) | assumption)
         have q224 : x11_1 < (l1.length : Int) := of_decide_eq_true (by first | (with_reducible assumption) | assumption)
         obtain ⟨ad224, e224, hx224_0⟩ := Kd.at_int HR1.out x11_1 p224 q224
         cases e224
         replace hx224_0 := (HB.out.cell (World.block_lt_of_cell? w _ hx224_0)).trans hx224_0
         replace p224 := eq_true p224
         replace q224 := eq_true q224
         have p225 : 0 ≤ ((rd l1 x11_1) : Int) := of_decide_eq_true (by first | (with_reducible assumption) | assumption)
         have q225 : (rd l1 x11_1) < (l0.length : Int) := of_decide_eq_true (by first | (with_reducible assumption) | assumption)
         obtain ⟨ad225, e225, hx225_0, hx225_1, hx225_2, hx225_3⟩ := at_T44 HR0.out (rd l1 x11_1) p225 q225
         cases e225
         replace hx225_0 := (HB.out.cell (World.block_lt_of_cell? w _ hx225_0)).trans hx225_0
         replace hx225_1 := (HB.out.cell (World.block_lt_of_cell? w _ hx225_1)).trans hx225_1
         replace hx225_2 := (HB.out.cell (World.block_lt_of_cell? w _ hx225_2)).trans hx225_2
         replace hx225_3 := (HB.out.cell (World.block_lt_of_cell? w _ hx225_3)).trans hx225_3
         replace p225 := eq_true p225
         replace q225 := eq_true q225
         go_wp2_with (first | ((with_reducible refine gate_builtin (b := .append) (xs := #[.tmp 15, .tmp 20]) rfl ?_); at_builtin; refine Kd.R_append k44 (w0 := w) w.heap.size rfl (.tmp 15) (.tmp 20) 27 44 (.agg #[(.int .u8 0), (.int .i8 0), (.int .i8 0), (.int .i16 0)]) 6 rfl Tryd.underlying27 info44 rfl (by decide) (by omega) u5 x5_1 (⟨(rd_T44 l0 (rd l1 x11_1)).f0, (rd_T44 l0 (rd l1 x11_1)).f1, (rd_T44 l0 (rd l1 x11_1)).f2, (rd_T44 l0 (rd l1 x11_1)).f3⟩ : S44) [.int .u8 ((rd_T44 l0 (rd l1 x11_1)).f0), .int .i8 ((rd_T44 l0 (rd l1 x11_1)).f1), .int .i8 ((rd_T44 l0 (rd l1 x11_1)).f2), .int .i16 ((rd_T44 l0 (rd l1 x11_1)).f3)] (fun _ => True) (fun _ => False) rfl rfl ?aP (fun _ hk => hk.elim) ?aF ?aO ?aB ?aS ?aL ?_; (case aP => exact k44_mkM _ _ _ (⟨(rd_T44 l0 (rd l1 x11_1)).f0, (rd_T44 l0 (rd l1 x11_1)).f1, (rd_T44 l0 (rd l1 x11_1)).f2, (rd_T44 l0 (rd l1 x11_1)).f3⟩ : S44)); (case aB => exact (by repeat (first | (with_reducible first | exact HB.out | apply below_alloc | apply pw_below_drewN | apply below_drew1) | exact HB.out))); (case aF => exact (fun _ _ => trivial)); (case aO => exact (by (with_reducible repeat (first | apply Kd.R_alloc | apply Kd.R_drewN | apply Kd.R_drew)); exact HO_5.out)); (case aS => exact (below_size (by repeat (first | (with_reducible first | exact HB.out | apply below_alloc | apply pw_below_drewN | apply below_drew1) | exact HB.out)))); (case aL => have := LMc10.out; omega); intro v227 w11 ho hb hg hat; rw [← Ny226.out] at ho; have n0_ := Aside0.mk (hb); have n1_ := Aside0.mk (ho); clear HB; clear HO_5; have HB := n0_; have HO228 := n1_; clear n0_ n1_; clear ho hb hg hat))
         go_roundg k1
         case measure => have := HK1.out; omega
         case rel => exact ⟨(y226), (wrap64 (x11_1 + 1)), (by first | rfl | (simp; done) | (simp [*]; done)), H', ⟨by have := HK1.out; omega⟩, ⟨by (with_reducible repeat (first | apply Kd.R_alloc | apply Kd.R_drewN | apply Kd.R_drew)); exact HO228.out⟩, ⟨by repeat (first | (with_reducible first | exact HB.out | apply below_alloc | apply pw_below_drewN | apply below_drew1) | exact HB.out)⟩⟩
        ·rw [if_neg c10] at H
         exact absurd H (by simp)
       ·rw [if_neg c9] at H
        exact absurd H (by simp)
      ·rw [if_neg c8] at H
       exact absurd H (by simp)
     ·rw [if_neg c7] at H
      exact absurd H (by simp)
    ·rw [if_neg c6] at H
     exact absurd H (by simp)
   ·rw [if_neg c5] at H
    have c5b0 : decide (x11_1 < (l1.length : Int)) = false := decide_eq_false c5
    clear c5
    obtain rfl := Option.some.inj H
    go_wp2
    go_ret
    exact ⟨_, by first | rfl | (simp [errW_none, errW_some] <;> rfl) | (simp [*, errW_none, errW_some] <;> rfl), by (with_reducible repeat (first | apply Kd.R_alloc | apply Kd.R_drewN | apply Kd.R_drew)); exact HO_5.out, by repeat (first | (with_reducible first | exact HB.out | apply below_alloc | apply pw_below_drewN | apply below_drew1) | exact HB.out)⟩
theorem rdi_mid_pg (pre : List Int) (c : Int) (cs : List Int) : rd (pre ++ c :: cs) (pre.length : Int) = c := by simp [rd, List.getD_eq_getElem?_getD]
theorem w_succ_pg {i n : Nat} (h : i < n) (hn : n ≤ 1048576) : wrap64 ((i : Int) + 1) = ((i + 1 : Nat) : Int) := by unfold wrap64; omega
def inRange (n : Nat) (o : List Int) : Bool := o.all fun i => decide (0 ≤ i) && decide (i < (n : Int))
def pickedB (l : List S44) (o : List Int) : List S44 := o.map (rd_T44 l)
theorem picked_l0 (l : List S44) (o : List Int) (ho : o.length ≤ 1048576) : ∀ (cs pre : List Int), o = pre ++ cs → inRange l.length cs = true → ∀ x : List S44, x.length = pre.length →
  Ev (fun k => impl_picked_impl_Garment.l0 k l x o (o.length : Int) (pre.length : Int)) (x ++ pickedB l cs) := by
 intro cs
 induction cs with
 | nil =>
  intro pre hpre hr x hx
  refine Ev.step (fun k => by rw [impl_picked_impl_Garment.l0]) ?_
  have : o.length = pre.length := by rw [hpre]; simp
  simp only [show ¬ (pre.length : Int) < (o.length : Int) by omega, ↓reduceIte]
  rw [show x ++ pickedB l [] = x by simp [pickedB]]
  exact Ev.now _
 | cons c cs ih =>
  intro pre hpre hr x hx
  have hlen : o.length = pre.length + cs.length + 1 := by rw [hpre]; simp; omega
  have hc : rd o (pre.length : Int) = c := by rw [hpre]; exact rdi_mid_pg pre c cs
  rw [inRange, List.all_cons, Bool.and_eq_true, Bool.and_eq_true, decide_eq_true_eq, decide_eq_true_eq] at hr
  obtain ⟨⟨h0, h1⟩, hr⟩ := hr
  have hnext := ih (pre ++ [c]) (by rw [hpre]; simp) hr
  simp only [List.length_append, List.length_cons, List.length_nil, Nat.zero_add] at hnext
  refine Ev.step (fun k => by rw [impl_picked_impl_Garment.l0]) ?_
  simp only [show (pre.length : Int) < (o.length : Int) by omega, show (0 : Int) ≤ (pre.length : Int) by omega, ↓reduceIte, hc, h0, h1, show x.length < 23456248059221 by omega, w_succ_pg (show pre.length < o.length by omega) ho]
  rw [show x ++ pickedB l (c :: cs) = (x ++ [rd_T44 l c]) ++ pickedB l cs by simp [pickedB]]
  exact hnext _ (by simp [hx])
theorem picked_ev (l : List S44) (o : List Int) (ho : o.length ≤ 1048576) (hr : inRange l.length o = true) : Ev (fun k => impl_picked_impl_Garment.f k l o) (pickedB l o) := by
 unfold impl_picked_impl_Garment.f
 exact picked_l0 l o ho o [] rfl hr [] rfl
def impl_picked_impl_Garmentw.f (l0 : List S44) (l1 : List Int) : Option (List S44) := if l1.length ≤ 1048576 ∧ inRange l0.length l1 = true then some (pickedB l0 l1) else none
theorem impl_picked_impl_Garmentw.spec (l0 : List S44) (l1 : List Int) (r : (List S44)) (h : impl_picked_impl_Garmentw.f l0 l1 = some r) : ∃ k, impl_picked_impl_Garment.f k l0 l1 = some r := by
 unfold impl_picked_impl_Garmentw.f at h
 by_cases hc : l1.length ≤ 1048576 ∧ inRange l0.length l1 = true
 ·rw [if_pos hc] at h
  obtain rfl := Option.some.inj h
  exact Ev.rounds (picked_ev l0 l1 hc.1 hc.2)
 ·rw [if_neg hc] at h
  cases h
theorem impl_picked_impl_Garmentw.calls (A0 : Option Addr) (c0 : Nat) (l0 : List (S44)) (A1 : Option Addr) (c1 : Nat) (l1 : List Int) (r : List (S44)) (w : World) (hr0 : Kd.C k44 w A0 l0.length l0) (hc0 : l0.length ≤ c0) (hr1 : Kd.C (Kd.int .i64) w A1 l1.length l1) (hc1 : l1.length ≤ c1) (h : impl_picked_impl_Garmentw.f l0 l1 = some r) :
  Calls Tryd.prog 78 #[.slice A0 l0.length c0, .slice A1 l1.length c1] w fun e w' => ∃ v0_ : Value, e = .returned (v0_) ∧ Kd.R k44 44 w' w.heap.size (fun _ => True) v0_ r ∧ Below w.heap.size w w' := by
 obtain ⟨k, hk⟩ := impl_picked_impl_Garmentw.spec l0 l1 _ h
 exact impl_picked_impl_Garment.calls k A0 c0 l0 A1 c1 l1 r w hr0 hc0 hr1 hc1 hk
theorem subs_range (n s : Nat) : inRange n (subsOf n s) = true := by
 unfold inRange subsOf
 rw [List.all_eq_true]
 intro x hx
 obtain ⟨i, hi, rfl⟩ := List.mem_map.1 hx
 have := List.mem_range.1 (List.mem_filter.1 hi).1
 rw [Bool.and_eq_true, decide_eq_true_eq, decide_eq_true_eq]
 omega
theorem picked_col (l : List S44) (o : List Int) (h : colB l = true) (ho : inRange l.length o = true) : colB (pickedB l o) = true := by
 unfold colB inRange at *
 rw [List.all_eq_true] at *
 intro x hx
 obtain ⟨i, hi, rfl⟩ := List.mem_map.1 hx
 have h1 := ho i hi
 rw [Bool.and_eq_true, decide_eq_true_eq, decide_eq_true_eq] at h1
 have hlt : i.toNat < l.length := by omega
 have e : rd_T44 l i = l[i.toNat] := by simp [rd_T44, List.getD_eq_getElem?_getD, List.getElem?_eq_getElem hlt]
 rw [e]
 exact h _ (List.getElem_mem hlt)
def heavySc (rs : List Int) (hold : Int) (l : List S44) (o : List Int) : Int := if o.length = 0 then -1 else if washB rs hold (pickedB l o) = true then weightB (pickedB l o) else -1
def impl_HeaviestLoad.f (k : Nat) (a0_0 : Int) (a0_1 : Int) (a0_2 : Int) (a0_3 : Int) (a0_4 : Int) (a0_5 : Int) (a1 : Int) (l2 : List S44) : Option (List Int × Int × Int) :=
 (impl_loadCode.f k a0_0 a0_1 a0_2 a0_3 a0_4 a0_5 a1 l2).bind fun c => if c = 0 then (if l2.length ≤ 8 ∧ colB l2 = true then some (if (bestS (heavySc [a0_0, a0_1, a0_2, a0_3, a0_4, a0_5] a1 l2) l2.length).2 < 0 then ([], 0, 6) else ((bestS (heavySc [a0_0, a0_1, a0_2, a0_3, a0_4, a0_5] a1 l2) l2.length).1, (bestS (heavySc [a0_0, a0_1, a0_2, a0_3, a0_4, a0_5] a1 l2) l2.length).2, 0)) else none) else some ([], 0, c)
set_option maxHeartbeats 4000000 in
set_option maxRecDepth 100000 in
theorem heavy_1 (a0_0 : Int) (a0_1 : Int) (a0_2 : Int) (a0_3 : Int) (a0_4 : Int) (a0_5 : Int) (a1 : Int) (l1 : List S44) (A1 : Option Addr) (c1 : Nat) (g1 g2 g3 : Nat) (W : World) (A : Option Addr) (c : Nat) (o : List Int)
  (hlen : l1.length ≤ 8) (hcol : colB l1 = true) (hr1 : Kd.C k44 W A1 l1.length l1) (hc1 : l1.length ≤ c1) (h1 : W.cell? ⟨g1, 0, none⟩ = some (.slice A1 l1.length c1))
  (q0 : W.cell? ⟨g2, 0, none⟩ = some (.int .u8 a0_0))
  (q1 : W.cell? ⟨g2, 1, none⟩ = some (.int .u8 a0_1))
  (q2 : W.cell? ⟨g2, 2, none⟩ = some (.int .u8 a0_2))
  (q3 : W.cell? ⟨g2, 3, none⟩ = some (.int .u8 a0_3))
  (q4 : W.cell? ⟨g2, 4, none⟩ = some (.int .u8 a0_4))
  (q5 : W.cell? ⟨g2, 5, none⟩ = some (.int .u8 a0_5))
  (h3 : W.cell? ⟨g3, 0, none⟩ = some (.int .i64 a1))
  (ho : Kd.C (Kd.int .i64) W A o.length o) (hoc : o.length ≤ c) (hr : inRange l1.length o = true) (hol : o.length ≤ 8) :
  Calls Tryd.prog 77 #[.slice A o.length c, .pointer (some ⟨g1, 0, none⟩), .pointer (some ⟨g2, 0, none⟩), .pointer (some ⟨g3, 0, none⟩)] W fun e w' => e = .returned (.int .i64 (heavySc [a0_0, a0_1, a0_2, a0_3, a0_4, a0_5] a1 l1 o)) ∧ Below W.heap.size W w' := by
 have hp : impl_picked_impl_Garmentw.f l1 o = some (pickedB l1 o) := by unfold impl_picked_impl_Garmentw.f; rw [if_pos ⟨by omega, hr⟩]
 have hcolp := picked_col l1 o hcol hr
 have hlp : (pickedB l1 o).length = o.length := by unfold pickedB; rw [List.length_map]
 have hwa : impl_Rules_washable.f a0_0 a0_1 a0_2 a0_3 a0_4 a0_5 a1 (pickedB l1 o) = some (washB [a0_0, a0_1, a0_2, a0_3, a0_4, a0_5] a1 (pickedB l1 o)) := by unfold impl_Rules_washable.f; rw [if_pos ⟨by omega, hcolp⟩]
 have hwt : impl_weightOfw.f (pickedB l1 o) = some (weightB (pickedB l1 o)) := by unfold impl_weightOfw.f; rw [if_pos (by omega)]
 obtain ⟨res, hres⟩ : ∃ res, heavySc [a0_0, a0_1, a0_2, a0_3, a0_4, a0_5] a1 l1 o = res := ⟨_, rfl⟩
 rw [hres]
 unfold heavySc at hres
 obtain ⟨y, hy⟩ : ∃ y, pickedB l1 o = y := ⟨_, rfl⟩
 rw [hy] at hp hlp hres hwa hwt
 obtain ⟨x, hx⟩ : ∃ x, weightB y = x := ⟨_, rfl⟩
 rw [hx] at hwt hres
 have HR1 := Aside0.mk hr1
 have HO := Aside0.mk ho
 have HP := Aside0.mk hp
 have HWT := Aside0.mk hwt
 clear hr1 ho hp hwt hy hx hcolp hcol hr
 by_cases h0 : o.length = 0
 ·rw [if_pos h0] at hres
  subst hres
  have e0 : ((y.length : Int) == 0) = true := beq_iff_eq.mpr (by omega)
  have e1 : (y.length == 0) = true := beq_iff_eq.mpr (by omega)
  clear h0 hlp
  go_enter Tryd.func77, Tryd.ntmps77
  go_wp2_with (first | (go_at_call 78; refine (impl_picked_impl_Garmentw.calls A1 c1 l1 A c o y _ HR1.out hc1 HO.out hoc HP.out).mono ?_; rintro e w1 ⟨v1, rfl, ho1, hb1⟩; obtain ⟨B1, d1, rfl, hd1, hC1⟩ := Kd.R_reads ho1; have HB1 := Aside0.mk hb1; have HC1 := Aside0.mk hC1; have r0 := pw_cell_below hb1 q0; have r1 := pw_cell_below hb1 q1; have r2 := pw_cell_below hb1 q2; have r3 := pw_cell_below hb1 q3; have r4 := pw_cell_below hb1 q4; have r5 := pw_cell_below hb1 q5; have r6 := pw_cell_below hb1 h3; clear ho1 hC1 hb1))
  go_ret
  exact ⟨rfl, HB1.out⟩
 ·rw [if_neg h0] at hres
  have e0 : ((y.length : Int) == 0) = false := beq_eq_false_iff_ne.mpr (by omega)
  have e1 : (y.length == 0) = false := beq_eq_false_iff_ne.mpr (by omega)
  clear h0 hlp
  cases hb : washB [a0_0, a0_1, a0_2, a0_3, a0_4, a0_5] a1 y with
  | false =>
   rw [hb] at hwa hres
   have HWA := Aside0.mk hwa
   obtain rfl : -1 = res := hres
   clear hb hwa
   go_enter Tryd.func77, Tryd.ntmps77
   go_wp2_with (first | (go_at_call 78; refine (impl_picked_impl_Garmentw.calls A1 c1 l1 A c o y _ HR1.out hc1 HO.out hoc HP.out).mono ?_; rintro e w1 ⟨v1, rfl, ho1, hb1⟩; obtain ⟨B1, d1, rfl, hd1, hC1⟩ := Kd.R_reads ho1; have HB1 := Aside0.mk hb1; have HC1 := Aside0.mk hC1; have r0 := pw_cell_below hb1 q0; have r1 := pw_cell_below hb1 q1; have r2 := pw_cell_below hb1 q2; have r3 := pw_cell_below hb1 q3; have r4 := pw_cell_below hb1 q4; have r5 := pw_cell_below hb1 q5; have r6 := pw_cell_below hb1 h3; clear ho1 hC1 hb1) | (go_at_call 60; refine (impl_Rules_washable.calls a0_0 a0_1 a0_2 a0_3 a0_4 a0_5 a1 B1 d1 y false _ HC1.out hd1 HWA.out).mono ?_; rintro e w2 ⟨rfl, hb2⟩; have HB2 := Aside0.mk hb2; clear hb2))
   go_ret
   exact ⟨rfl, below_step HB1.out HB2.out⟩
  | true =>
   rw [hb] at hwa hres
   have HWA := Aside0.mk hwa
   obtain rfl : x = res := hres
   clear hb hwa
   go_enter Tryd.func77, Tryd.ntmps77
   go_wp2_with (first | (go_at_call 78; refine (impl_picked_impl_Garmentw.calls A1 c1 l1 A c o y _ HR1.out hc1 HO.out hoc HP.out).mono ?_; rintro e w1 ⟨v1, rfl, ho1, hb1⟩; obtain ⟨B1, d1, rfl, hd1, hC1⟩ := Kd.R_reads ho1; have HB1 := Aside0.mk hb1; have HC1 := Aside0.mk hC1; have r0 := pw_cell_below hb1 q0; have r1 := pw_cell_below hb1 q1; have r2 := pw_cell_below hb1 q2; have r3 := pw_cell_below hb1 q3; have r4 := pw_cell_below hb1 q4; have r5 := pw_cell_below hb1 q5; have r6 := pw_cell_below hb1 h3; clear ho1 hC1 hb1) | (go_at_call 60; refine (impl_Rules_washable.calls a0_0 a0_1 a0_2 a0_3 a0_4 a0_5 a1 B1 d1 y true _ HC1.out hd1 HWA.out).mono ?_; rintro e w2 ⟨rfl, hb2⟩; have HB2 := Aside0.mk hb2; clear hb2) | (go_at_call 68; refine (impl_weightOfw.calls B1 d1 y x _ (Kd.C_below HC1.out HB2.out) hd1 HWT.out).mono ?_; rintro e w3 ⟨rfl, hb3⟩; have HB3 := Aside0.mk hb3; clear hb3))
   go_ret
   exact ⟨rfl, below_step HB1.out (below_step HB2.out HB3.out)⟩
set_option maxHeartbeats 4000000 in
set_option maxRecDepth 100000 in
theorem impl_HeaviestLoad.calls (k : Nat) (a0_0 : Int) (a0_1 : Int) (a0_2 : Int) (a0_3 : Int) (a0_4 : Int) (a0_5 : Int) (a1 : Int) (A2 : Option Addr) (c2 : Nat) (l2 : List S44) (r1 : List Int) (r2 : Int) (r3 : Int) (w : World) (hr2 : Kd.C k44 w A2 l2.length l2) (hc2 : l2.length ≤ c2) (hT : TabOK w) (h : impl_HeaviestLoad.f k a0_0 a0_1 a0_2 a0_3 a0_4 a0_5 a1 l2 = some (r1, r2, r3)) :
  Calls Tryd.prog 38 #[.agg #[.int .u8 a0_0, .int .u8 a0_1, .int .u8 a0_2, .int .u8 a0_3, .int .u8 a0_4, .int .u8 a0_5], .int .i64 a1, .slice A2 l2.length c2] w fun e w' => ∃ v0_ : Value, e = .returned (.tuple #[v0_, .int .i64 r2, .int .i64 r3]) ∧ Kd.R (Kd.int .i64) 2 w' w.heap.size (fun _ => True) v0_ r1 ∧ Below w.heap.size w w' := by
 obtain ⟨cd, hcd, h⟩ := Option.bind_eq_some_iff.mp h
 have HCD := Aside0.mk hcd
 have HR2 := Aside0.mk hr2
 have HT := Aside0.mk hT
 clear hcd hr2 hT
 by_cases h0 : cd = 0
 ·subst h0
  rw [if_pos rfl] at h
  by_cases hl : l2.length ≤ 8 ∧ colB l2 = true
  ·rw [if_pos hl] at h
   have HC := Aside0.mk (fun (W : World) (g1 g2 g3 : Nat) (hB : Below w.heap.size w W) (h1 : W.cell? ⟨g1, 0, none⟩ = some (.slice A2 l2.length c2)) (h20 : W.cell? ⟨g2, 0, none⟩ = some (.int .u8 a0_0)) (h21 : W.cell? ⟨g2, 1, none⟩ = some (.int .u8 a0_1)) (h22 : W.cell? ⟨g2, 2, none⟩ = some (.int .u8 a0_2)) (h23 : W.cell? ⟨g2, 3, none⟩ = some (.int .u8 a0_3)) (h24 : W.cell? ⟨g2, 4, none⟩ = some (.int .u8 a0_4)) (h25 : W.cell? ⟨g2, 5, none⟩ = some (.int .u8 a0_5)) (h3 : W.cell? ⟨g3, 0, none⟩ = some (.int .i64 a1)) =>
    bestSubset_calls W l2.length 77 #[.pointer (some ⟨g1, 0, none⟩), .pointer (some ⟨g2, 0, none⟩), .pointer (some ⟨g3, 0, none⟩)] (heavySc [a0_0, a0_1, a0_2, a0_3, a0_4, a0_5] a1 l2) hl.1 (HT.out.below hB) (enters_of Tryd.func77 (by kernel_rfl) rfl)
     (fun W' A c o s hB' hC hoc hs hsub => heavy_1 a0_0 a0_1 a0_2 a0_3 a0_4 a0_5 a1 l2 A2 c2 g1 g2 g3 W' A c o hl.1 hl.2 (Kd.C_below HR2.out (below_step hB hB')) hc2 (pw_cell_below hB' h1) (pw_cell_below hB' h20) (pw_cell_below hB' h21) (pw_cell_below hB' h22) (pw_cell_below hB' h23) (pw_cell_below hB' h24) (pw_cell_below hB' h25) (pw_cell_below hB' h3) hC hoc (by rw [hsub]; exact subs_range _ _) (by rw [hsub]; exact Nat.le_trans (subs_len _ _) hl.1)))
   clear hl
   obtain ⟨best, hbest⟩ : ∃ s, bestS (heavySc [a0_0, a0_1, a0_2, a0_3, a0_4, a0_5] a1 l2) l2.length = s := ⟨_, rfl⟩
   rw [hbest] at h HC
   clear hbest
   obtain ⟨b1, b2⟩ := best
   simp only at h HC
   by_cases hneg : b2 < 0
   ·rw [if_pos hneg] at h
    have n1 : decide (b2 < 0) = true := decide_eq_true hneg
    clear hneg
    simp only [Option.some.injEq, Prod.mk.injEq] at h
    obtain ⟨rfl, rfl, rfl⟩ := h
    go_enter Tryd.func38, Tryd.ntmps38
    go_wp2_with (first | (go_at_call 46; refine (impl_loadCode.calls k a0_0 a0_1 a0_2 a0_3 a0_4 a0_5 a1 A2 c2 l2 0 _ (Kd.C_below HR2.out (by repeat (first | exact Below.refl _ _ | apply below_alloc))) hc2 HCD.out).mono ?_; rintro e w1 ⟨rfl, hb1⟩; have k0 := pw_cell_below hb1 (a := ⟨w.heap.size, 0, none⟩) (v := .int .u8 a0_0) (by simp [go_sem]); have k1 := pw_cell_below hb1 (a := ⟨w.heap.size, 1, none⟩) (v := .int .u8 a0_1) (by simp [go_sem]); have k2 := pw_cell_below hb1 (a := ⟨w.heap.size, 2, none⟩) (v := .int .u8 a0_2) (by simp [go_sem]); have k3 := pw_cell_below hb1 (a := ⟨w.heap.size, 3, none⟩) (v := .int .u8 a0_3) (by simp [go_sem]); have k4 := pw_cell_below hb1 (a := ⟨w.heap.size, 4, none⟩) (v := .int .u8 a0_4) (by simp [go_sem]); have k5 := pw_cell_below hb1 (a := ⟨w.heap.size, 5, none⟩) (v := .int .u8 a0_5) (by simp [go_sem]); have k6 := pw_cell_below hb1 (a := ⟨w.heap.size + 1, 0, none⟩) (v := .int .i64 a1) (by simp [go_sem]); have k7 := pw_cell_below hb1 (a := ⟨w.heap.size + 1 + 1, 0, none⟩) (v := .slice A2 l2.length c2) (by simp [go_sem]); have HB := Aside0.mk (show Below w.heap.size w w1 from below_step (below_alloc (below_alloc (below_alloc (Below.refl _ _) _) _) _) hb1); clear hb1) | (go_at_call 76; refine (HC.out _ _ _ _ HB.out k7 k0 k1 k2 k3 k4 k5 k6).mono ?_; rintro e w2 ⟨v2, rfl, ho2, hb2⟩; have HO2 := Aside0.mk ho2; have HB2 := Aside0.mk hb2; clear ho2 hb2))
    go_ret3
    exact ⟨_, rfl, Kd.R_nil _ _ _ _ _, below_step HB.out HB2.out⟩
   ·rw [if_neg hneg] at h
    have n1 : decide (b2 < 0) = false := decide_eq_false hneg
    clear hneg
    simp only [Option.some.injEq, Prod.mk.injEq] at h
    obtain ⟨rfl, rfl, rfl⟩ := h
    go_enter Tryd.func38, Tryd.ntmps38
    go_wp2_with (first | (go_at_call 46; refine (impl_loadCode.calls k a0_0 a0_1 a0_2 a0_3 a0_4 a0_5 a1 A2 c2 l2 0 _ (Kd.C_below HR2.out (by repeat (first | exact Below.refl _ _ | apply below_alloc))) hc2 HCD.out).mono ?_; rintro e w1 ⟨rfl, hb1⟩; have k0 := pw_cell_below hb1 (a := ⟨w.heap.size, 0, none⟩) (v := .int .u8 a0_0) (by simp [go_sem]); have k1 := pw_cell_below hb1 (a := ⟨w.heap.size, 1, none⟩) (v := .int .u8 a0_1) (by simp [go_sem]); have k2 := pw_cell_below hb1 (a := ⟨w.heap.size, 2, none⟩) (v := .int .u8 a0_2) (by simp [go_sem]); have k3 := pw_cell_below hb1 (a := ⟨w.heap.size, 3, none⟩) (v := .int .u8 a0_3) (by simp [go_sem]); have k4 := pw_cell_below hb1 (a := ⟨w.heap.size, 4, none⟩) (v := .int .u8 a0_4) (by simp [go_sem]); have k5 := pw_cell_below hb1 (a := ⟨w.heap.size, 5, none⟩) (v := .int .u8 a0_5) (by simp [go_sem]); have k6 := pw_cell_below hb1 (a := ⟨w.heap.size + 1, 0, none⟩) (v := .int .i64 a1) (by simp [go_sem]); have k7 := pw_cell_below hb1 (a := ⟨w.heap.size + 1 + 1, 0, none⟩) (v := .slice A2 l2.length c2) (by simp [go_sem]); have HB := Aside0.mk (show Below w.heap.size w w1 from below_step (below_alloc (below_alloc (below_alloc (Below.refl _ _) _) _) _) hb1); clear hb1) | (go_at_call 76; refine (HC.out _ _ _ _ HB.out k7 k0 k1 k2 k3 k4 k5 k6).mono ?_; rintro e w2 ⟨v2, rfl, ho2, hb2⟩; have HO2 := Aside0.mk ho2; have HB2 := Aside0.mk hb2; clear ho2 hb2))
    go_ret3
    exact ⟨_, rfl, Kd.R_lower HO2.out HB.out.size, below_step HB.out HB2.out⟩
  ·rw [if_neg hl] at h
   cases h
 ·rw [if_neg h0] at h
  simp only [Option.some.injEq, Prod.mk.injEq] at h
  obtain ⟨rfl, rfl, rfl⟩ := h
  have hc1' : (cd != 0) = true := by simp [h0]
  have hc2' : (cd == 0) = false := by simp [h0]
  clear h0
  go_enter Tryd.func38, Tryd.ntmps38
  go_wp2_with (first | (go_at_call 46; refine (impl_loadCode.calls k a0_0 a0_1 a0_2 a0_3 a0_4 a0_5 a1 A2 c2 l2 cd _ (Kd.C_below HR2.out (by repeat (first | exact Below.refl _ _ | apply below_alloc))) hc2 HCD.out).mono ?_; rintro e w1 ⟨rfl, hb1⟩; have HB := Aside0.mk (show Below w.heap.size w w1 from below_step (below_alloc (below_alloc (below_alloc (Below.refl _ _) _) _) _) hb1); clear hb1))
  go_ret3
  exact ⟨_, rfl, Kd.R_nil _ _ _ _ _, HB.out⟩
end Go.Proofs.YthodfhcaaidnmaaDoor.Hv
