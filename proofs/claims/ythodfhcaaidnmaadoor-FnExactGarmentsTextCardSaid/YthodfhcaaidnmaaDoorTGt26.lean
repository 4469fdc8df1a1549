/- Words and walks for the law FnExactGarmentsText. -/
import Derived.Test.YthodfhcaaidnmaaDoorTGt23
import Derived.Test.YthodfhcaaidnmaaDoorTGt24
import Derived.Test.YthodfhcaaidnmaaDoorTGt25
namespace Go.Proofs.YthodfhcaaidnmaaDoor.Gt
open Go.RowKit Go.Proofs.YthodfhcaaidnmaaDoorW.PrintWords Go.Proofs.YthodfhcaaidnmaaDoorW.PrintLast Go.Proofs.YthodfhcaaidnmaaDoorW.PrintMore
attribute [local go_sem] max2_int min2_int max_two min_two max_three min_three max_four min_four   -- for this text's walks alone
set_option linter.unusedVariables false
set_option linter.unusedSimpArgs false
def gok (x : S44) : Bool := decide (x.f0 < 6) && (decide (0 ≤ x.f1 ∧ x.f1 ≤ x.f2) && (decide (x.f2 ≤ 95) && decide (1 ≤ x.f3 ∧ x.f3 ≤ 2000)))
def gsm (x : S44) : Bool := decide (0 ≤ x.f0 ∧ x.f0 ≤ 255 ∧ -128 ≤ x.f1 ∧ x.f1 ≤ 127 ∧ -128 ≤ x.f2 ∧ x.f2 ≤ 127 ∧ -32768 ≤ x.f3 ∧ x.f3 ≤ 32767)
def impl_areGarments.f (l0 : List S44) : Option Int := if l0.all gsm = true then some (if l0.all gok = true then 0 else 1) else none
theorem areGarments_1_total (x : S44) (h : gsm x = true) : impl_areGarments_1.f x.f0 x.f1 x.f2 x.f3 = some (!gok x) := by
 obtain ⟨h0, h0', h1, h1', h2, h2', h3, h3'⟩ := of_decide_eq_true h
 have e1 : wrap64 x.f1 = x.f1 := by unfold wrap64; omega
 have e2 : wrap64 x.f2 = x.f2 := by unfold wrap64; omega
 have e3 : wrap64 x.f3 = x.f3 := by unfold wrap64; omega
 have hw : ∀ a b c : Int, impl_within.f a b c = some (decide (b ≤ a ∧ a ≤ c)) := by
  intro a b c
  unfold impl_within.f
  by_cases h : b ≤ a <;> simp [h]
 unfold impl_areGarments_1.f impl_ValidGarment.f gok
 simp only [e1, e2, e3, hw, Option.bind_some, decide_eq_true_eq]
 by_cases q0 : x.f0 < 6 <;> by_cases q1 : 0 ≤ x.f1 ∧ x.f1 ≤ x.f2 <;> by_cases q2 : x.f2 ≤ 95 <;> by_cases q3 : 1 ≤ x.f3 ∧ x.f3 ≤ 2000 <;> simp [q0, q1, q2, q3]
set_option maxHeartbeats 2000000 in
theorem impl_areGarments.calls (A0 : Option Addr) (c0 : Nat) (l0 : List S44) (r : Int) (w : World) (hr0 : Kd.C k44 w A0 l0.length l0) (hc0 : l0.length ≤ c0) (h : impl_areGarments.f l0 = some r) :
  Calls Tryd.prog 55 #[.slice A0 l0.length c0] w fun e w' => e = .returned (.int .i64 r) ∧ Below w.heap.size w w' := by
 unfold impl_areGarments.f at h
 by_cases hb : l0.all gsm = true
 ·rw [if_pos hb] at h
  have hr := Option.some.inj h
  have hc := ContainsFunc_44 A0 c0 l0 87 #[] (fun x => !gok x) w hr0 (enters_of Tryd.func87 (by kernel_rfl) rfl)
   (fun W x hx hB => (impl_areGarments_1.calls x.f0 x.f1 x.f2 x.f3 _ W (areGarments_1_total x (List.all_eq_true.mp hb x hx))))
  rw [List.all_eq_not_any_not] at hr
  obtain ⟨x, hx⟩ : ∃ x, (l0.any fun c => !gok c) = x := ⟨_, rfl⟩
  rw [hx] at hr hc
  have hu : impl_unless.f (!x) 1 = some r := by rw [← hr]; cases x <;> rfl
  have HU := Aside0.mk hu
  clear h hb hr hr0 hx hu
  go_enter Tryd.func55, Tryd.ntmps55
  go_wp2_with (first
   | (go_at_call 84; refine hc.mono ?_; rintro e w1 ⟨rfl, hb1⟩)
   | (go_at_call 82; refine (impl_unless.calls (!x) 1 r _ HU.out).mono ?_; rintro e w2 ⟨rfl, ⟨nd, rfl⟩⟩))
  go_ret
  exact ⟨rfl, pw_below_drewN hb1 _⟩
 ·rw [if_neg hb] at h
  cases h
def impl_fewGarments.f (l0 : List (S44)) : Option (Int) := (impl_unless.f (decide ((l0.length : Int) ≤ 8)) 3).bind fun t137 => (some t137)
set_option maxHeartbeats 8000000 in
set_option maxRecDepth 100000 in
theorem impl_fewGarments.calls (A0 : Option Addr) (c0 : Nat) (l0 : List (S44)) (r : Int) (w : World) (hr0 : Kd.C k44 w A0 l0.length l0) (hc0 : l0.length ≤ c0) (h : impl_fewGarments.f l0 = some r) :
  Calls Tryd.prog 59 #[.slice A0 l0.length c0] w fun e w' => e = .returned (.int .i64 r) ∧ Drawn0 w w' := by
 have HR0 := Aside0.mk hr0
 have HC0 := Aside0.mk hc0
 clear hr0 hc0
 have H : ((impl_unless.f (decide ((l0.length : Int) ≤ 8)) 3).bind fun t137 => (some t137)) = some r := h
 clear h
 replace H := Option.bind_eq_some_iff.mp H
 obtain ⟨t137, A20, H⟩ := H
 replace H : (some t137) = some r := H
 have A2 := Aside0.mk A20
 clear A20
 obtain rfl := Option.some.inj H
 go_enter Tryd.func59, Tryd.ntmps59
 go_wp2_with (first | ((with_reducible refine gate_callee (f := 82) rfl ?_); refine goesL_ (some 6) rfl rfl Tryd.func82 (by kernel_rfl) rfl #[.bool (decide ((l0.length : Int) ≤ 8)), .int .i64 3] rfl (by (try simp only [List.map_toArray, List.map_cons, List.map_nil]); first | done | rfl | (simp only [List.length_drop, List.length_take]; rfl)) ?_; (with_reducible refine (impl_unless.calls (decide ((l0.length : Int) ≤ 8)) 3 t137 _ A2.out).mono ?_); rintro e w' ⟨rfl, ⟨nd, rfl⟩⟩; refine ⟨_, rfl, ?_⟩))
 go_ret
 exact ⟨by first | rfl | (simp; done) | (simp [*]; done), by repeat (first | exact Drawn0.refl _ | apply Drawn0.step)⟩
def TabOK (W : World) : Prop := Lib.TabIs Tryd.prog W "internal/strconv.uint64pow10" .u64 Lib.pow10Tab
theorem TabOK.below {W W' : World} (h : TabOK W) (b : Below W.heap.size W W') : TabOK W' := by
 unfold TabOK Lib.TabIs World.var? at h ⊢
 obtain ⟨g, hg, h⟩ := Option.bind_eq_some_iff.mp h
 rw [hg, Option.bind_some]
 cases hc : W.heap[g]? with
 | none => rw [hc] at h; cases h
 | some o =>
  rw [hc] at h
  rw [b.block g (Array.getElem?_eq_some_iff.1 hc).1, hc]
  exact h
def impl_decimal.f (a0 : Int) : Option (ByteArray) := if 0 ≤ a0 ∧ a0 ≤ 9223372036854775807 then some ⟨(Lib.decDigits a0.toNat).toArray⟩ else none
set_option maxHeartbeats 2000000 in
theorem impl_decimal.calls (a0 : Int) (r : ByteArray) (w : World) (hT : TabOK w) (h : impl_decimal.f a0 = some r) :
  Calls Tryd.prog 73 #[.int .i64 a0] w fun e w' => e = .returned (.string r) ∧ Below w.heap.size w w' := by
 unfold impl_decimal.f at h
 by_cases hq : 0 ≤ a0 ∧ a0 ≤ 9223372036854775807
 case neg => rw [if_neg hq] at h; cases h
 rw [if_pos hq] at h
 obtain rfl := Option.some.inj h
 have hc := Tryd.strconv_FormatInt_10 a0 (by omega) hq.2 w hT
 rw [show Lib.itoa a0 = Lib.decDigits a0.toNat by unfold Lib.itoa; rw [if_neg (by omega)]] at hc
 clear h hq
 go_enter Tryd.func73, Tryd.ntmps73
 go_wp2_with (go_at_call 94; refine hc.mono ?_; rintro e w1 ⟨rfl, kq, os, rfl⟩)
 go_ret
 exact ⟨rfl, Lib.below_grow _ w (Nat.le_refl _) kq os⟩
theorem IsBuilderF_below {T e : TypeId} {B b : Nat} {bs : List Value} {w w' : World} (h : Lib.IsBuilderF T e B b bs w) (hb : Below w.heap.size w w') : Lib.IsBuilderF T e B b bs w' := by
 have one : ∀ p, Lib.BuilderAtF T e B b p bs w → Lib.BuilderAtF T e B b p bs w' := by
  intro p hp
  have hlt := hp.lt
  obtain ⟨h1, v, h2, h3, h4⟩ := hp
  refine ⟨h1, v, (hb.block b hlt).trans h2, ⟨h3.1, ?_⟩, h4⟩
  rcases h3.2 with h3 | ⟨g, cap, cur, fz, rfl, hg, hh, r⟩
  ·exact .inl h3
  ·exact .inr ⟨g, cap, cur, fz, rfl, hg, (hb.block g (Array.getElem?_eq_some_iff.1 hh).1).trans hh, r⟩
 exact h.elim (fun h => .inl (one _ h)) (fun h => .inr (one _ h))
theorem IsBuilderF_lt {T e : TypeId} {B b : Nat} {bs : List Value} {w : World} (h : Lib.IsBuilderF T e B b bs w) : b < w.heap.size := h.elim (fun h => h.lt) (fun h => h.lt)
theorem box_kept {T e : TypeId} {b x : Nat} {cs : Array Value} {w u w9 : World} (hT : T ≠ e) (hx : w.heap[x]? = some (.cells cs T (0, 0))) (hbx : b < x) (hb : Below w.heap.size w u) (hk : Lib.OthersKept e (some b) u w9) : w9.heap[x]? = some (.cells cs T (0, 0)) :=
 hk x _ ((hb.block x (Array.getElem?_eq_some_iff.1 hx).1).trans hx) (by intro h; cases h; omega) (by intro c fz h; cases h; exact hT rfl)
theorem cells_len (l : List UInt8) : (Lib.byteCells l).length = l.length := by simp [Lib.byteCells]
theorem C_new2 (w : World) (x y : Int) : Kd.C (Kd.int .i64) (w.alloc (.cells #[.int .i64 x, .int .i64 y] 2)) (some ⟨w.heap.size, 0, none⟩) [x, y].length [x, y] := by
 refine ⟨rfl, by simp, fun _ => ⟨_, rfl, fun j p hj => ?_⟩⟩
 rcases j with _ | _ | j
 ·simp at hj
  subst hj
  refine ⟨[.int .i64 x], rfl, rfl, fun i u hu => ?_⟩
  rcases i with _ | i
  ·simp at hu
   subst hu
   first | (simp [go_sem]; done) | (simp [go_sem]; rfl)
  ·simp at hu
 ·simp at hj
  subst hj
  refine ⟨[.int .i64 y], rfl, rfl, fun i u hu => ?_⟩
  rcases i with _ | i
  ·simp at hu
   subst hu
   first | (simp [go_sem]; done) | (simp [go_sem]; rfl)
  ·simp at hu
 ·simp at hj
def impl_GarmentsText.f (k : Nat) (l0 : List S44) : Option (ByteArray) := (impl_areGarments.f l0).bind fun c1 => (impl_fewGarments.f l0).bind fun c2 => (impl_firstOf.f k [c1, c2]).bind fun c => if c = 0 then (if l0.length ≤ 8 ∧ l0.all smallC = true then some ⟨(textG l0).toArray⟩ else none) else some ⟨#[]⟩
set_option maxHeartbeats 16000000 in
set_option maxRecDepth 100000 in
theorem impl_GarmentsText.calls (k : Nat) (A0 : Option Addr) (c0 : Nat) (l0 : List S44) (r : ByteArray) (w : World) (hr0 : Kd.C k44 w A0 l0.length l0) (hc0 : l0.length ≤ c0) (hT : TabOK w) (h : impl_GarmentsText.f k l0 = some r) :
  Calls Tryd.prog 36 #[.slice A0 l0.length c0] w fun e w' => e = .returned (.string r) ∧ Below w.heap.size w w' := by
 obtain ⟨c1, h1, h⟩ := Option.bind_eq_some_iff.mp h
 obtain ⟨c2, h2, h⟩ := Option.bind_eq_some_iff.mp h
 obtain ⟨c, h3, h⟩ := Option.bind_eq_some_iff.mp h
 have H1 := Aside0.mk h1
 have H2 := Aside0.mk h2
 have H3 := Aside0.mk h3
 have HR0 := Aside0.mk hr0
 have HT := Aside0.mk hT
 have hn0 : l0.length ≤ 9223372036854775807 := hr0.2.1
 clear h1 h2 h3 hr0 hT
 by_cases h0 : c = 0
 ·subst h0
  rw [if_pos rfl] at h
  by_cases hq : l0.length ≤ 8 ∧ l0.all smallC = true
  case neg => rw [if_neg hq] at h; cases h
  rw [if_pos hq] at h
  have HR := Aside0.mk (Option.some.inj h)
  have HS := Aside0.mk hq.2
  have hn := hq.1
  clear h hq
  go_enter Tryd.func36, Tryd.ntmps36
  go_wp2_with (first
   | (go_at_call 55; refine (impl_areGarments.calls A0 c0 l0 c1 _ HR0.out hc0 H1.out).mono ?_; rintro e w1 ⟨rfl, hb1⟩)
   | (go_at_call 59; refine (impl_fewGarments.calls A0 c0 l0 c2 _ (Kd.C_below HR0.out (below_step (by repeat (first | exact Below.refl _ _ | apply pw_below_drewN | apply below_drew | apply below_alloc)) hb1)) hc0 H2.out).mono ?_; rintro e w2 ⟨rfl, hd2⟩; have HB2 := Aside0.mk (show Below w.heap.size w w2 from below_step (below_step (by repeat (first | exact Below.refl _ _ | apply pw_below_drewN | apply below_drew | apply below_alloc)) hb1) hd2.below); clear hb1 hd2)
   | (go_at_call 53; refine (impl_firstOf.calls k _ 2 [c1, c2] 0 _ (by repeat (first | exact C_new2 _ c1 c2 | (with_reducible refine Kd.C_drewN ?_ _) | (with_reducible refine Kd.C_drew ?_))) (Nat.le_refl _) H3.out).mono ?_; rintro e w3 ⟨rfl, hd3⟩; have HB3 := Aside0.mk (show Below w.heap.size w w3 from below_step (below_alloc HB2.out _) hd3.below); clear hd3))
  go_loopg [5, 16] l0.length (fun gg _ v16 w' => ∃ (kk : Nat), kk ≤ l0.length ∧ l0.length - kk ≤ gg ∧ v16 = .int .i64 (kk : Int) ∧ Aside0 (Lib.IsBuilderF 94 5 w3.heap.size w3.heap.size (Lib.byteCells (textG (l0.take kk))) w') ∧ Aside0 (Below w3.heap.size w3 w'))
  case atStart => exact ⟨0, Nat.zero_le _, by omega, rfl, ⟨Lib.IsBuilderF.of (Lib.fresh_isBuilder 94 5 w3)⟩, ⟨below_alloc (Below.refl _ _) _⟩⟩
  case round =>
   obtain ⟨kk, hkk, hg, rfl, HBL, HBW⟩ := hrel
   have HB := Aside0.mk (below_step HB3.out HBW.out)
   have HBS := Aside0.mk HBW.out.size
   have HTr := Aside0.mk (HT.out.below HB.out)
   by_cases hlt : kk < l0.length
   ·have htl : (textG (l0.take kk)).length ≤ 700 := by
     have := textG_len (l0.take kk) (all_take HS.out kk)
     rw [List.length_take] at this
     omega
    obtain ⟨y, hy⟩ : ∃ y, l0[kk] = y := ⟨_, rfl⟩
    have hsy : smallC y = true := by rw [← hy]; exact List.all_eq_true.mp HS.out l0[kk] (List.getElem_mem hlt)
    have hyb := of_decide_eq_true hsy
    obtain ⟨ad, e3, hx0, hx1, hx2, hx3⟩ := at_T44 (Kd.C_below HR0.out HB.out) (kk : Int) (by omega) (by omega)
    have ey : rd_T44 l0 (kk : Int) = y := by rw [← hy]; simp [rd_T44, List.getD_eq_getElem?_getD, List.getElem?_eq_getElem hlt]
    rw [ey, Int.toNat_natCast] at hx0 hx1 hx2 hx3
    have hblk : (wr.alloc (.cells #[.int .u8 y.f0, .int .i8 y.f1, .int .i8 y.f2, .int .i16 y.f3] 44)).heap[wr.heap.size]? = some (.cells #[.int .u8 y.f0, .int .i8 y.f1, .int .i8 y.f2, .int .i16 y.f3] 44 (0, 0)) := blk_new wr _
    have HQ0 := Aside0.mk (show (wr.alloc (.cells #[.int .u8 y.f0, .int .i8 y.f1, .int .i8 y.f2, .int .i16 y.f3] 44)).cell? ⟨wr.heap.size, 0, none⟩ = some (.int .u8 y.f0) from (blk_cell hblk 0).trans rfl)
    have HQ1 := Aside0.mk (show (wr.alloc (.cells #[.int .u8 y.f0, .int .i8 y.f1, .int .i8 y.f2, .int .i16 y.f3] 44)).cell? ⟨wr.heap.size, 1, none⟩ = some (.int .i8 y.f1) from (blk_cell hblk 1).trans rfl)
    have HQ2 := Aside0.mk (show (wr.alloc (.cells #[.int .u8 y.f0, .int .i8 y.f1, .int .i8 y.f2, .int .i16 y.f3] 44)).cell? ⟨wr.heap.size, 2, none⟩ = some (.int .i8 y.f2) from (blk_cell hblk 2).trans rfl)
    have HQ3 := Aside0.mk (show (wr.alloc (.cells #[.int .u8 y.f0, .int .i8 y.f1, .int .i8 y.f2, .int .i16 y.f3] 44)).cell? ⟨wr.heap.size, 3, none⟩ = some (.int .i16 y.f3) from (blk_cell hblk 3).trans rfl)
    have q0 : (wr.alloc (.cells #[.int .u8 y.f0, .int .i8 y.f1, .int .i8 y.f2, .int .i16 y.f3] 44)).cell? ⟨wr.heap.size, 0, none⟩ = some (.int .u8 y.f0) := HQ0.out
    have q1 : (wr.alloc (.cells #[.int .u8 y.f0, .int .i8 y.f1, .int .i8 y.f2, .int .i16 y.f3] 44)).cell? ⟨wr.heap.size, 1, none⟩ = some (.int .i8 y.f1) := HQ1.out
    have q2 : (wr.alloc (.cells #[.int .u8 y.f0, .int .i8 y.f1, .int .i8 y.f2, .int .i16 y.f3] 44)).cell? ⟨wr.heap.size, 2, none⟩ = some (.int .i8 y.f2) := HQ2.out
    have q3 : (wr.alloc (.cells #[.int .u8 y.f0, .int .i8 y.f1, .int .i8 y.f2, .int .i16 y.f3] 44)).cell? ⟨wr.heap.size, 3, none⟩ = some (.int .i16 y.f3) := HQ3.out
    obtain ⟨s0, hs0⟩ : ∃ s : ByteArray, s = ⟨(Lib.decDigits y.f0.toNat).toArray⟩ := ⟨_, rfl⟩
    have hz0 : s0.size ≤ 20 := by rw [hs0, dec_size]; exact dec_len _ (by omega)
    obtain ⟨s1, hs1⟩ : ∃ s : ByteArray, s = ⟨(Lib.decDigits y.f1.toNat).toArray⟩ := ⟨_, rfl⟩
    have hz1 : s1.size ≤ 20 := by rw [hs1, dec_size]; exact dec_len _ (by omega)
    obtain ⟨s2, hs2⟩ : ∃ s : ByteArray, s = ⟨(Lib.decDigits y.f2.toNat).toArray⟩ := ⟨_, rfl⟩
    have hz2 : s2.size ≤ 20 := by rw [hs2, dec_size]; exact dec_len _ (by omega)
    obtain ⟨s3, hs3⟩ : ∃ s : ByteArray, s = ⟨(Lib.decDigits y.f3.toNat).toArray⟩ := ⟨_, rfl⟩
    have hz3 : s3.size ≤ 20 := by rw [hs3, dec_size]; exact dec_len _ (by omega)
    have HD0 := Aside0.mk (show impl_decimal.f y.f0 = some s0 by unfold impl_decimal.f; rw [if_pos (by omega), hs0])
    have HD1 := Aside0.mk (show impl_decimal.f y.f1 = some s1 by unfold impl_decimal.f; rw [if_pos (by omega), hs1])
    have HD2 := Aside0.mk (show impl_decimal.f y.f2 = some s2 by unfold impl_decimal.f; rw [if_pos (by omega), hs2])
    have HD3 := Aside0.mk (show impl_decimal.f y.f3 = some s3 by unfold impl_decimal.f; rw [if_pos (by omega), hs3])
    have HEL := Aside0.mk (elG_mk y s0 s1 s2 s3 hs0 hs1 hs2 hs3)
    have HY := Aside0.mk hy
    have HLT := Aside0.mk hlt
    have z0 := nlt (a := s0.size + 1) (by omega)
    have z1 := nlt (a := s0.size + 1 + s1.size) (by omega)
    have z2 := nlt (a := s0.size + 1 + s1.size + 1) (by omega)
    have z3 := nlt (a := s0.size + 1 + s1.size + 1 + s2.size) (by omega)
    have z4 := nlt (a := s0.size + 1 + s1.size + 1 + s2.size + 1) (by omega)
    have z5 := nlt (a := s0.size + 1 + s1.size + 1 + s2.size + 1 + s3.size) (by omega)
    have z6 := nlt (a := s0.size + 1 + s1.size + 1 + s2.size + 1 + s3.size + 1) (by omega)
    have hw0 : IntKind.i64.wrap y.f0 = y.f0 := IntWalk.i64_in _ (by omega)
    have hw1 : IntKind.i64.wrap y.f1 = y.f1 := IntWalk.i64_in _ (by omega)
    have hw2 : IntKind.i64.wrap y.f2 = y.f2 := IntWalk.i64_in _ (by omega)
    have hw3 : IntKind.i64.wrap y.f3 = y.f3 := IntWalk.i64_in _ (by omega)
    have hlti : (kk : Int) < (l0.length : Int) := by omega
    have hk0 : (0 : Int) ≤ (kk : Int) := by omega
    cases e3
    have HSZ := Aside0.mk (show (Lib.byteCells (textG (l0.take kk))).length + (s0 ++ (⟨#[47]⟩ : ByteArray) ++ s1 ++ (⟨#[45]⟩ : ByteArray) ++ s2 ++ (⟨#[32]⟩ : ByteArray) ++ s3 ++ (⟨#[10]⟩ : ByteArray)).size ≤ 140737488355328 by
      rw [cells_len]
      simp only [ByteArray.size_append]
      have e1 : (⟨#[47]⟩ : ByteArray).size = 1 := rfl
      have e2 : (⟨#[45]⟩ : ByteArray).size = 1 := rfl
      have e3 : (⟨#[32]⟩ : ByteArray).size = 1 := rfl
      have e4 : (⟨#[10]⟩ : ByteArray).size = 1 := rfl
      omega)
    have HK := Aside0.mk (show ∀ (u w9 : World), Below (wr.alloc (.cells #[.int .u8 y.f0, .int .i8 y.f1, .int .i8 y.f2, .int .i16 y.f3] 44)).heap.size (wr.alloc (.cells #[.int .u8 y.f0, .int .i8 y.f1, .int .i8 y.f2, .int .i16 y.f3] 44)) u → Lib.OthersKept 5 (some w3.heap.size) u w9 → (fun w' => w'.cell? ⟨wr.heap.size, 0, none⟩ = some (.int .u8 y.f0) ∧ w'.cell? ⟨wr.heap.size, 1, none⟩ = some (.int .i8 y.f1) ∧ w'.cell? ⟨wr.heap.size, 2, none⟩ = some (.int .i8 y.f2) ∧ w'.cell? ⟨wr.heap.size, 3, none⟩ = some (.int .i16 y.f3)) w9 from fun u w9 hb hk => by
     have h9 := box_kept (by decide) hblk (IsBuilderF_lt HBL.out) hb hk
     exact ⟨(blk_cell h9 0).trans rfl, (blk_cell h9 1).trans rfl, (blk_cell h9 2).trans rfl, (blk_cell h9 3).trans rfl⟩)
    clear hs0 hs1 hs2 hs3 hz0 hz1 hz2 hz3 htl ey hy hyb hsy hblk
    go_wp2
    go_region_held3 (fun w' => w'.cell? ⟨wr.heap.size, 0, none⟩ = some (.int .u8 y.f0) ∧ w'.cell? ⟨wr.heap.size, 1, none⟩ = some (.int .i8 y.f1) ∧ w'.cell? ⟨wr.heap.size, 2, none⟩ = some (.int .i8 y.f2) ∧ w'.cell? ⟨wr.heap.size, 3, none⟩ = some (.int .i16 y.f3))
     (first | exact HS9 | (exact ⟨pw_cell_below (by repeat (first | exact Below.refl _ _ | apply pw_below_drewN | apply below_drew | apply below_alloc | refine below_step ?_ hb1 | refine below_step ?_ hb2 | refine below_step ?_ hb3 | refine below_step ?_ hb4)) HQ0.out, pw_cell_below (by repeat (first | exact Below.refl _ _ | apply pw_below_drewN | apply below_drew | apply below_alloc | refine below_step ?_ hb1 | refine below_step ?_ hb2 | refine below_step ?_ hb3 | refine below_step ?_ hb4)) HQ1.out, pw_cell_below (by repeat (first | exact Below.refl _ _ | apply pw_below_drewN | apply below_drew | apply below_alloc | refine below_step ?_ hb1 | refine below_step ?_ hb2 | refine below_step ?_ hb3 | refine below_step ?_ hb4)) HQ2.out, pw_cell_below (by repeat (first | exact Below.refl _ _ | apply pw_below_drewN | apply below_drew | apply below_alloc | refine below_step ?_ hb1 | refine below_step ?_ hb2 | refine below_step ?_ hb3 | refine below_step ?_ hb4)) HQ3.out⟩))
     (first
      | (go_at_call_of 73 (Value.int .i64 y.f0); refine (impl_decimal.calls y.f0 s0 _ (HTr.out.below (below_step (below_alloc (Below.refl _ _) _) (by repeat (first | exact Below.refl _ _ | apply pw_below_drewN | apply below_drew | apply below_alloc | refine below_step ?_ hb1 | refine below_step ?_ hb2 | refine below_step ?_ hb3 | refine below_step ?_ hb4)))) HD0.out).mono ?_; rintro e u1 ⟨rfl, hb1⟩)
      | (go_at_call_of 73 (Value.int .i64 y.f1); refine (impl_decimal.calls y.f1 s1 _ (HTr.out.below (below_step (below_alloc (Below.refl _ _) _) (by repeat (first | exact Below.refl _ _ | apply pw_below_drewN | apply below_drew | apply below_alloc | refine below_step ?_ hb1 | refine below_step ?_ hb2 | refine below_step ?_ hb3 | refine below_step ?_ hb4)))) HD1.out).mono ?_; rintro e u2 ⟨rfl, hb2⟩)
      | (go_at_call_of 73 (Value.int .i64 y.f2); refine (impl_decimal.calls y.f2 s2 _ (HTr.out.below (below_step (below_alloc (Below.refl _ _) _) (by repeat (first | exact Below.refl _ _ | apply pw_below_drewN | apply below_drew | apply below_alloc | refine below_step ?_ hb1 | refine below_step ?_ hb2 | refine below_step ?_ hb3 | refine below_step ?_ hb4)))) HD2.out).mono ?_; rintro e u3 ⟨rfl, hb3⟩)
      | (go_at_call_of 73 (Value.int .i64 y.f3); refine (impl_decimal.calls y.f3 s3 _ (HTr.out.below (below_step (below_alloc (Below.refl _ _) _) (by repeat (first | exact Below.refl _ _ | apply pw_below_drewN | apply below_drew | apply below_alloc | refine below_step ?_ hb1 | refine below_step ?_ hb2 | refine below_step ?_ hb3 | refine below_step ?_ hb4)))) HD3.out).mono ?_; rintro e u4 ⟨rfl, hb4⟩)
      | (go_at_call 72; refine (Tryd.Builder_WriteString_k w3.heap.size w3.heap.size (Lib.byteCells (textG (l0.take kk))) (s0 ++ (⟨#[47]⟩ : ByteArray) ++ s1 ++ (⟨#[45]⟩ : ByteArray) ++ s2 ++ (⟨#[32]⟩ : ByteArray) ++ s3 ++ (⟨#[10]⟩ : ByteArray)) _ (by exact IsBuilderF_below HBL.out (show Below wr.heap.size wr _ from below_step (below_alloc (Below.refl _ _) (.cells #[.int .u8 y.f0, .int .i8 y.f1, .int .i8 y.f2, .int .i16 y.f3] 44)) (by repeat (first | exact Below.refl _ _ | apply pw_below_drewN | apply below_drew | apply below_alloc | refine below_step ?_ hb1 | refine below_step ?_ hb2 | refine below_step ?_ hb3 | refine below_step ?_ hb4)))) HSZ.out (by exact Nat.le_trans HBS.out (Below.size (show Below wr.heap.size wr _ from below_step (below_alloc (Below.refl _ _) (.cells #[.int .u8 y.f0, .int .i8 y.f1, .int .i8 y.f2, .int .i16 y.f3] 44)) (by repeat (first | exact Below.refl _ _ | apply pw_below_drewN | apply below_drew | apply below_alloc | refine below_step ?_ hb1 | refine below_step ?_ hb2 | refine below_step ?_ hb3 | refine below_step ?_ hb4)))))).mono ?_; rintro e w9 ⟨rfl, hbl9, hb9, hk9⟩; have HBL9 := Aside0.mk hbl9; have HB9 := Aside0.mk (show Below w3.heap.size wr w9 from Below.trans (Below.mono (show Below wr.heap.size wr _ from below_step (below_alloc (Below.refl _ _) (.cells #[.int .u8 y.f0, .int .i8 y.f1, .int .i8 y.f2, .int .i16 y.f3] 44)) (by repeat (first | exact Below.refl _ _ | apply pw_below_drewN | apply below_drew | apply below_alloc | refine below_step ?_ hb1 | refine below_step ?_ hb2 | refine below_step ?_ hb3 | refine below_step ?_ hb4))) HBS.out) hb9); have HS9 := HK.out _ _ (by repeat (first | exact Below.refl _ _ | apply pw_below_drewN | apply below_drew | apply below_alloc | refine below_step ?_ hb1 | refine below_step ?_ hb2 | refine below_step ?_ hb3 | refine below_step ?_ hb4)) hk9; clear hbl9 hb9 hk9))
    all_goals
     go_wp2
     go_roundg (l0.length - (kk + 1))
     case measure => omega
     case rel => exact ⟨kk + 1, by have := HLT.out; omega, by omega, by go_num, ⟨by
      have h9 := HBL9.out
      rw [HEL.out, Lib.strCells_toArray, ← Lib.byteCells_append] at h9
      rw [textG_succ l0 kk HLT.out, HY.out]
      exact .inr h9⟩, ⟨HBW.out.trans HB9.out⟩⟩
   ·have hlti : ¬ (kk : Int) < (l0.length : Int) := by omega
    go_wp2_with (go_at_call 74; refine (Tryd.Builder_String_any_k w3.heap.size w3.heap.size (textG (l0.take kk)) _ HBL.out HBS.out).mono ?_; rintro e w8 ⟨rfl, _, hb8, _⟩; have HB8 := Aside0.mk hb8; clear hb8)
    go_ret
    have er : (⟨(textG (l0.take kk)).toArray⟩ : ByteArray) = r := by rw [← HR.out, show kk = l0.length by omega, List.take_length]
    exact ⟨congrArg (fun s => Ending.returned (Value.string s)) er, (HB.out.trans (HB8.out.mono HB3.out.size))⟩
 ·rw [if_neg h0] at h
  obtain rfl := Option.some.inj h
  have hc1' : (c != 0) = true := by simp [h0]
  have hc2' : (c == 0) = false := by simp [h0]
  clear h0 h
  go_enter Tryd.func36, Tryd.ntmps36
  go_wp2_with (first
   | (go_at_call 55; refine (impl_areGarments.calls A0 c0 l0 c1 _ HR0.out hc0 H1.out).mono ?_; rintro e w1 ⟨rfl, hb1⟩)
   | (go_at_call 59; refine (impl_fewGarments.calls A0 c0 l0 c2 _ (Kd.C_below HR0.out (below_step (by repeat (first | exact Below.refl _ _ | apply pw_below_drewN | apply below_drew | apply below_alloc)) hb1)) hc0 H2.out).mono ?_; rintro e w2 ⟨rfl, hd2⟩; have HB2 := Aside0.mk (show Below w.heap.size w w2 from below_step (below_step (by repeat (first | exact Below.refl _ _ | apply pw_below_drewN | apply below_drew | apply below_alloc)) hb1) hd2.below); clear hb1 hd2)
   | (go_at_call 53; refine (impl_firstOf.calls k _ 2 [c1, c2] c _ (by repeat (first | exact C_new2 _ c1 c2 | (with_reducible refine Kd.C_drewN ?_ _) | (with_reducible refine Kd.C_drew ?_))) (Nat.le_refl _) H3.out).mono ?_; rintro e w3 ⟨rfl, hd3⟩; have HB3 := Aside0.mk (show Below w.heap.size w w3 from below_step (below_alloc HB2.out _) hd3.below); clear hd3))
  go_ret
  exact ⟨rfl, HB3.out⟩
def laws_FnExactGarmentsText.f (k : Nat) (l0 : List (S89)) : Option (Bool) := (laws_szGarmentS.f l0 1048576).bind fun t138 => (if t138 < 0 then (some true) else ((laws_toGarmentS.f k l0).bind fun t139 => ((spec_GarmentsText.f k t139).bind fun t142 => ((laws_toGarmentS.f k l0).bind fun t143 => ((impl_GarmentsText.f k t143).bind fun t146 => (if t146.toList = t142.toList then ((laws_toGarmentS.f k l0).bind fun t147 => ((laws_eqGarmentS.f k t143 t147).bind fun t150 => (if t150 = true then (some true) else (none)))) else (none)))))))
set_option maxHeartbeats 8000000 in
set_option maxRecDepth 100000 in
theorem laws_FnExactGarmentsText.calls (k : Nat) (A0 : Option Addr) (c0 : Nat) (l0 : List (S89)) (r : Bool) (w : World) (hr0 : Kd.C k89 w A0 l0.length l0) (hc0 : l0.length ≤ c0) (hT : TabOK w) (h : laws_FnExactGarmentsText.f k l0 = some r) :
  Calls Tryd.prog 6 #[.slice A0 l0.length c0] w fun e w' => e = .returned (.bool r) ∧ Below w.heap.size w w' := by
 have HR0 := Aside0.mk hr0
 have HC0 := Aside0.mk hc0
 clear hr0 hc0
 have HB := Aside0.mk (Below.refl w.heap.size w)
 have HTAB := Aside0.mk hT
 clear hT
 have H : ((laws_szGarmentS.f l0 1048576).bind fun t138 => (if t138 < 0 then (some true) else ((laws_toGarmentS.f k l0).bind fun t139 => ((spec_GarmentsText.f k t139).bind fun t142 => ((laws_toGarmentS.f k l0).bind fun t143 => ((impl_GarmentsText.f k t143).bind fun t146 => (if t146.toList = t142.toList then ((laws_toGarmentS.f k l0).bind fun t147 => ((laws_eqGarmentS.f k t143 t147).bind fun t150 => (if t150 = true then (some true) else (none)))) else (none)))))))) = some r := h
 clear h
 replace H := Option.bind_eq_some_iff.mp H
 obtain ⟨t138, A20, H⟩ := H
 replace H : (if t138 < 0 then (some true) else ((laws_toGarmentS.f k l0).bind fun t139 => ((spec_GarmentsText.f k t139).bind fun t142 => ((laws_toGarmentS.f k l0).bind fun t143 => ((impl_GarmentsText.f k t143).bind fun t146 => (if t146.toList = t142.toList then ((laws_toGarmentS.f k l0).bind fun t147 => ((laws_eqGarmentS.f k t143 t147).bind fun t150 => (if t150 = true then (some true) else (none)))) else (none))))))) = some r := H
 have A2 := Aside0.mk A20
 clear A20
 by_cases c3 : t138 < 0
 ·rw [if_pos c3] at H
  have c3b0 : decide (t138 < 0) = true := decide_eq_true c3
  clear c3
  obtain rfl := Option.some.inj H
  go_enter Tryd.func6, Tryd.ntmps6
  go_wp2_with (first | ((with_reducible refine gate_callee (f := 25) rfl ?_); refine goesL_ (some 9) rfl rfl Tryd.func25 (by kernel_rfl) rfl #[.slice A0 l0.length c0, .int .i64 1048576] rfl (by (try simp only [List.map_toArray, List.map_cons, List.map_nil]); first | done | rfl | (simp only [List.length_drop, List.length_take]; rfl)) ?_; (with_reducible refine (laws_szGarmentS.calls _ _ l0 1048576 t138 _ ?side1 ?side2 A2.out).mono ?_); (case side1 => repeat (first | exact HR0.out | (with_reducible refine Kd.C_alloc ?_ _) | (with_reducible refine Kd.C_drewN ?_ _) | (with_reducible refine Kd.C_drew ?_))); (case side2 => exact HC0.out); rintro e w' ⟨rfl, ⟨nd, rfl⟩⟩; refine ⟨_, rfl, ?_⟩))
  go_ret
  exact ⟨by first | rfl | (simp [errW_none, errW_some] <;> rfl) | (simp [*, errW_none, errW_some] <;> rfl), by repeat (first | (with_reducible first | exact HB.out | apply below_alloc | apply pw_below_drewN | apply below_drew1) | exact HB.out)⟩
 ·rw [if_neg c3] at H
  have c3b0 : decide (t138 < 0) = false := decide_eq_false c3
  clear c3
  replace H := Option.bind_eq_some_iff.mp H
  obtain ⟨t139, A40, H⟩ := H
  replace H : ((spec_GarmentsText.f k t139).bind fun t142 => ((laws_toGarmentS.f k l0).bind fun t143 => ((impl_GarmentsText.f k t143).bind fun t146 => (if t146.toList = t142.toList then ((laws_toGarmentS.f k l0).bind fun t147 => ((laws_eqGarmentS.f k t143 t147).bind fun t150 => (if t150 = true then (some true) else (none)))) else (none))))) = some r := H
  have A4 := Aside0.mk A40
  clear A40
  replace H := Option.bind_eq_some_iff.mp H
  obtain ⟨t142, A50, H⟩ := H
  replace H : ((laws_toGarmentS.f k l0).bind fun t143 => ((impl_GarmentsText.f k t143).bind fun t146 => (if t146.toList = t142.toList then ((laws_toGarmentS.f k l0).bind fun t147 => ((laws_eqGarmentS.f k t143 t147).bind fun t150 => (if t150 = true then (some true) else (none)))) else (none)))) = some r := H
  have A5 := Aside0.mk A50
  clear A50
  replace H := Option.bind_eq_some_iff.mp H
  obtain ⟨t143, A60, H⟩ := H
  replace H : ((impl_GarmentsText.f k t143).bind fun t146 => (if t146.toList = t142.toList then ((laws_toGarmentS.f k l0).bind fun t147 => ((laws_eqGarmentS.f k t143 t147).bind fun t150 => (if t150 = true then (some true) else (none)))) else (none))) = some r := H
  have A6 := Aside0.mk A60
  clear A60
  replace H := Option.bind_eq_some_iff.mp H
  obtain ⟨t146, A70, H⟩ := H
  replace H : (if t146.toList = t142.toList then ((laws_toGarmentS.f k l0).bind fun t147 => ((laws_eqGarmentS.f k t143 t147).bind fun t150 => (if t150 = true then (some true) else (none)))) else (none)) = some r := H
  have A7 := Aside0.mk A70
  clear A70
  by_cases c8 : t146.toList = t142.toList
  ·rw [if_pos c8] at H
   have c8b0 : (t146.toList == t142.toList) = true := beq_iff_eq.mpr c8
   have c8b1 : (t146.toList != t142.toList) = false := bne_eq_false_iff_eq.mpr c8
   clear c8
   replace H := Option.bind_eq_some_iff.mp H
   obtain ⟨t147, A90, H⟩ := H
   replace H : ((laws_eqGarmentS.f k t143 t147).bind fun t150 => (if t150 = true then (some true) else (none))) = some r := H
   have A9 := Aside0.mk A90
   clear A90
   replace H := Option.bind_eq_some_iff.mp H
   obtain ⟨t150, A100, H⟩ := H
   replace H : (if t150 = true then (some true) else (none)) = some r := H
   have A10 := Aside0.mk A100
   clear A100
   by_cases c11 : t150 = true
   ·subst c11
    have H1 : (some true) = some r := by rw [if_pos rfl] at H; exact H
    clear H
    have H := H1
    clear H1
    obtain rfl := Option.some.inj H
    go_enter Tryd.func6, Tryd.ntmps6
    go_wp2_with (first | ((with_reducible refine gate_callee (f := 25) rfl ?_); refine goesL_ (some 9) rfl rfl Tryd.func25 (by kernel_rfl) rfl #[.slice A0 l0.length c0, .int .i64 1048576] rfl (by (try simp only [List.map_toArray, List.map_cons, List.map_nil]); first | done | rfl | (simp only [List.length_drop, List.length_take]; rfl)) ?_; (with_reducible refine (laws_szGarmentS.calls _ _ l0 1048576 t138 _ ?side1 ?side2 A2.out).mono ?_); (case side1 => repeat (first | exact HR0.out | (with_reducible refine Kd.C_alloc ?_ _) | (with_reducible refine Kd.C_drewN ?_ _) | (with_reducible refine Kd.C_drew ?_))); (case side2 => exact HC0.out); rintro e w' ⟨rfl, ⟨nd, rfl⟩⟩; refine ⟨_, rfl, ?_⟩) | ((with_reducible refine gate_callee (f := 28) rfl ?_); refine goesL_ (some 13) rfl rfl Tryd.func28 (by kernel_rfl) rfl #[.slice A0 l0.length c0] rfl (by (try simp only [List.map_toArray, List.map_cons, List.map_nil]); first | done | rfl | (simp only [List.length_drop, List.length_take]; rfl)) ?_; (with_reducible refine (laws_toGarmentS.calls k _ _ l0 t139 _ ?side1 ?side2 A4.out).mono ?_); (case side1 => repeat (first | exact HR0.out | (with_reducible refine Kd.C_alloc ?_ _) | (with_reducible refine Kd.C_drewN ?_ _) | (with_reducible refine Kd.C_drew ?_))); (case side2 => exact HC0.out); rintro e w12 ⟨v140, rfl, ho0, hb⟩; refine ⟨_, rfl, ?_⟩; have n0_ := Aside0.mk (Kd.R_lower ho0 (below_size (by repeat (first | (with_reducible first | exact HB.out | apply below_alloc | apply pw_below_drewN | apply below_drew1) | exact HB.out)))); have n1_ := Aside0.mk (below_step (by repeat (first | (with_reducible first | exact HB.out | apply below_alloc | apply pw_below_drewN | apply below_drew1) | exact HB.out)) hb); clear HB; have HO141 := n0_; have HB := n1_; clear n0_ n1_; (try clear hb); (try clear hb2); (try clear hk); (try clear hi); (try clear ho0); obtain ⟨Ao13, co13, eo13⟩ := Kd.R_slice HO141.out; subst eo13) | ((with_reducible refine gate_callee (f := 35) rfl ?_); refine goesL_ (some 14) rfl rfl Tryd.func35 (by kernel_rfl) rfl #[.slice Ao13 t139.length co13] rfl (by (try simp only [List.map_toArray, List.map_cons, List.map_nil]); first | done | rfl | (simp only [List.length_drop, List.length_take]; rfl)) ?_; (with_reducible refine (spec_GarmentsText.calls k _ _ t139 t142 _ ?side1 ?side2 A5.out).mono ?_); (case side1 => repeat (first | exact (Kd.R_reads' HO141.out).2.2 | (with_reducible refine Kd.C_alloc ?_ _) | (with_reducible refine Kd.C_drewN ?_ _) | (with_reducible refine Kd.C_drew ?_))); (case side2 => exact (Kd.R_reads' HO141.out).2.1); rintro e w14 ⟨rfl, hb⟩; refine ⟨_, rfl, ?_⟩; have n0_ := Aside0.mk (Kd.R_below (by (with_reducible repeat (first | apply Kd.R_alloc | apply Kd.R_drewN | apply Kd.R_drew)); exact HO141.out) hb); have n1_ := Aside0.mk (below_step (by repeat (first | (with_reducible first | exact HB.out | apply below_alloc | apply pw_below_drewN | apply below_drew1) | exact HB.out)) hb); clear HO141; clear HB; have HO141 := n0_; have HB := n1_; clear n0_ n1_; (try clear hb); (try clear hb2); (try clear hk); (try clear hi)) | ((with_reducible refine gate_callee (f := 28) rfl ?_); refine goesL_ (some 16) rfl rfl Tryd.func28 (by kernel_rfl) rfl #[.slice A0 l0.length c0] rfl (by (try simp only [List.map_toArray, List.map_cons, List.map_nil]); first | done | rfl | (simp only [List.length_drop, List.length_take]; rfl)) ?_; (with_reducible refine (laws_toGarmentS.calls k _ _ l0 t143 _ ?side1 ?side2 A6.out).mono ?_); (case side1 => repeat (first | exact (Kd.C_below HR0.out HB.out) | (with_reducible refine Kd.C_alloc ?_ _) | (with_reducible refine Kd.C_drewN ?_ _) | (with_reducible refine Kd.C_drew ?_))); (case side2 => exact HC0.out); rintro e w15 ⟨v144, rfl, ho0, hb⟩; refine ⟨_, rfl, ?_⟩; have n0_ := Aside0.mk (Kd.R_elder' (by (with_reducible repeat (first | apply Kd.R_alloc | apply Kd.R_drewN | apply Kd.R_drew)); exact HO141.out) (Kd.R_base ho0) hb); have n1_ := Aside0.mk (Kd.R_lower (Kd.R_new' ho0 (Kd.R_lt (by (with_reducible repeat (first | apply Kd.R_alloc | apply Kd.R_drewN | apply Kd.R_drew)); exact HO141.out))) (below_size (by repeat (first | (with_reducible first | exact HB.out | apply below_alloc | apply pw_below_drewN | apply below_drew1) | exact HB.out)))); have n2_ := Aside0.mk (below_step (by repeat (first | (with_reducible first | exact HB.out | apply below_alloc | apply pw_below_drewN | apply below_drew1) | exact HB.out)) hb); clear HO141; clear HB; have HO141 := n0_; have HO145 := n1_; have HB := n2_; clear n0_ n1_ n2_; (try clear hb); (try clear hb2); (try clear hk); (try clear hi); (try clear ho0); obtain ⟨Ao16, co16, eo16⟩ := Kd.R_slice HO145.out; subst eo16) | ((with_reducible refine gate_callee (f := 36) rfl ?_); refine goesL_ (some 18) rfl rfl Tryd.func36 (by kernel_rfl) rfl #[.slice Ao16 t143.length co16] rfl (by (try simp only [List.map_toArray, List.map_cons, List.map_nil]); first | done | rfl | (simp only [List.length_drop, List.length_take]; rfl)) ?_; (with_reducible refine (impl_GarmentsText.calls k _ _ t143 t146 _ ?side1 ?side2 ?side3 A7.out).mono ?_); (case side1 => repeat (first | exact (Kd.R_reads' HO145.out).2.2 | (with_reducible refine Kd.C_alloc ?_ _) | (with_reducible refine Kd.C_drewN ?_ _) | (with_reducible refine Kd.C_drew ?_))); (case side2 => exact (Kd.R_reads' HO145.out).2.1); (case side3 => exact TabOK.below HTAB.out (by repeat (first | (with_reducible first | exact HB.out | apply below_alloc | apply pw_below_drewN | apply below_drew1) | exact HB.out))); rintro e w17 ⟨rfl, hb⟩; refine ⟨_, rfl, ?_⟩; have n0_ := Aside0.mk (Kd.R_below (by (with_reducible repeat (first | apply Kd.R_alloc | apply Kd.R_drewN | apply Kd.R_drew)); exact HO141.out) hb); have n1_ := Aside0.mk (Kd.R_below (by (with_reducible repeat (first | apply Kd.R_alloc | apply Kd.R_drewN | apply Kd.R_drew)); exact HO145.out) hb); have n2_ := Aside0.mk (below_step (by repeat (first | (with_reducible first | exact HB.out | apply below_alloc | apply pw_below_drewN | apply below_drew1) | exact HB.out)) hb); clear HO141; clear HO145; clear HB; have HO141 := n0_; have HO145 := n1_; have HB := n2_; clear n0_ n1_ n2_; (try clear hb); (try clear hb2); (try clear hk); (try clear hi)) | ((with_reducible refine gate_callee (f := 28) rfl ?_); refine goesL_ (some 24) rfl rfl Tryd.func28 (by kernel_rfl) rfl #[.slice A0 l0.length c0] rfl (by (try simp only [List.map_toArray, List.map_cons, List.map_nil]); first | done | rfl | (simp only [List.length_drop, List.length_take]; rfl)) ?_; (with_reducible refine (laws_toGarmentS.calls k _ _ l0 t147 _ ?side1 ?side2 A9.out).mono ?_); (case side1 => repeat (first | exact (Kd.C_below HR0.out HB.out) | (with_reducible refine Kd.C_alloc ?_ _) | (with_reducible refine Kd.C_drewN ?_ _) | (with_reducible refine Kd.C_drew ?_))); (case side2 => exact HC0.out); rintro e w18 ⟨v148, rfl, ho0, hb⟩; refine ⟨_, rfl, ?_⟩; have n0_ := Aside0.mk (Kd.R_elder' (by (with_reducible repeat (first | apply Kd.R_alloc | apply Kd.R_drewN | apply Kd.R_drew)); exact HO141.out) (Kd.R_base ho0) hb); have n1_ := Aside0.mk (Kd.R_elder' (by (with_reducible repeat (first | apply Kd.R_alloc | apply Kd.R_drewN | apply Kd.R_drew)); exact HO145.out) (Kd.R_base ho0) hb); have n2_ := Aside0.mk (Kd.R_lower (Kd.R_new' (Kd.R_new' ho0 (Kd.R_lt (by (with_reducible repeat (first | apply Kd.R_alloc | apply Kd.R_drewN | apply Kd.R_drew)); exact HO141.out))) (Kd.R_lt (by (with_reducible repeat (first | apply Kd.R_alloc | apply Kd.R_drewN | apply Kd.R_drew)); exact HO145.out))) (below_size (by repeat (first | (with_reducible first | exact HB.out | apply below_alloc | apply pw_below_drewN | apply below_drew1) | exact HB.out)))); have n3_ := Aside0.mk (below_step (by repeat (first | (with_reducible first | exact HB.out | apply below_alloc | apply pw_below_drewN | apply below_drew1) | exact HB.out)) hb); clear HO141; clear HO145; clear HB; have HO141 := n0_; have HO145 := n1_; have HO149 := n2_; have HB := n3_; clear n0_ n1_ n2_ n3_; (try clear hb); (try clear hb2); (try clear hk); (try clear hi); (try clear ho0); obtain ⟨Ao19, co19, eo19⟩ := Kd.R_slice HO149.out; subst eo19) | ((with_reducible refine gate_callee (f := 30) rfl ?_); refine goesL_ (some 25) rfl rfl Tryd.func30 (by kernel_rfl) rfl #[.slice Ao16 t143.length co16, .slice Ao19 t147.length co19] rfl (by (try simp only [List.map_toArray, List.map_cons, List.map_nil]); first | done | rfl | (simp only [List.length_drop, List.length_take]; rfl)) ?_; (with_reducible refine (laws_eqGarmentS.calls k _ _ t143 _ _ t147 true _ ?side1 ?side2 ?side3 ?side4 A10.out).mono ?_); (case side1 => repeat (first | exact (Kd.R_reads' HO145.out).2.2 | (with_reducible refine Kd.C_alloc ?_ _) | (with_reducible refine Kd.C_drewN ?_ _) | (with_reducible refine Kd.C_drew ?_))); (case side2 => exact (Kd.R_reads' HO145.out).2.1); (case side3 => repeat (first | exact (Kd.R_reads' HO149.out).2.2 | (with_reducible refine Kd.C_alloc ?_ _) | (with_reducible refine Kd.C_drewN ?_ _) | (with_reducible refine Kd.C_drew ?_))); (case side4 => exact (Kd.R_reads' HO149.out).2.1); rintro e w20 ⟨rfl, hb⟩; refine ⟨_, rfl, ?_⟩; have n0_ := Aside0.mk (Kd.R_below (by (with_reducible repeat (first | apply Kd.R_alloc | apply Kd.R_drewN | apply Kd.R_drew)); exact HO141.out) hb); have n1_ := Aside0.mk (Kd.R_below (by (with_reducible repeat (first | apply Kd.R_alloc | apply Kd.R_drewN | apply Kd.R_drew)); exact HO145.out) hb); have n2_ := Aside0.mk (Kd.R_below (by (with_reducible repeat (first | apply Kd.R_alloc | apply Kd.R_drewN | apply Kd.R_drew)); exact HO149.out) hb); have n3_ := Aside0.mk (below_step (by repeat (first | (with_reducible first | exact HB.out | apply below_alloc | apply pw_below_drewN | apply below_drew1) | exact HB.out)) hb); clear HO141; clear HO145; clear HO149; clear HB; have HO141 := n0_; have HO145 := n1_; have HO149 := n2_; have HB := n3_; clear n0_ n1_ n2_ n3_; (try clear hb); (try clear hb2); (try clear hk); (try clear hi)))
    go_ret
    exact ⟨by first | rfl | (simp [errW_none, errW_some] <;> rfl) | (simp [*, errW_none, errW_some] <;> rfl), by repeat (first | (with_reducible first | exact HB.out | apply below_alloc | apply pw_below_drewN | apply below_drew1) | exact HB.out)⟩
   ·replace c11 := Bool.eq_false_iff.mpr c11
    subst c11
    have H1 : (none) = some r := by rw [if_neg (show ¬ (false = true) by decide)] at H; exact H
    clear H
    have H := H1
    clear H1
    exact absurd H (by simp)
  ·rw [if_neg c8] at H
   exact absurd H (by simp)
end Go.Proofs.YthodfhcaaidnmaaDoor.Gt
