/- Words and walks for the law FnExactDayText. -/
import Derived.Test.YtanalckdmamepaaDoorTDx23
import Derived.Test.YtanalckdmamepaaDoorTDx24
namespace Go.Proofs.YtanalckdmamepaaDoor.Dx
open Go.RowKit Go.Proofs.YtanalckdmamepaaDoorW.PrintWords Go.Proofs.YtanalckdmamepaaDoorW.PrintLast Go.Proofs.YtanalckdmamepaaDoorW.PrintMore
attribute [local go_sem] max2_int min2_int max_two min_two max_three min_three max_four min_four   -- for this text's walks alone
set_option linter.unusedVariables false
set_option linter.unusedSimpArgs false
def elD (x : S27) : List UInt8 := Lib.decDigits (wrap64 x.f0).toNat ++ [47] ++ Lib.decDigits (wrap64 x.f1).toNat ++ [47] ++ Lib.decDigits (wrap64 x.f2).toNat
def textD (l : List S27) : List UInt8 := Lib.join (l.map elD) [32]
theorem dec_len (n : Nat) (h : n ≤ 32767) : (Lib.decDigits n).length ≤ 20 := by rw [Lib.decDigits_length]; exact Lib.nDigits_le20 n (by omega)
theorem wok_b {y : S27} (h : wokB y = true) : (0 ≤ wrap64 y.f0 ∧ wrap64 y.f0 ≤ 9) ∧ (0 ≤ wrap64 y.f1 ∧ wrap64 y.f1 ≤ 9) ∧ (0 ≤ wrap64 y.f2 ∧ wrap64 y.f2 ≤ 9) := by
 unfold wokB at h
 simpa only [Bool.and_eq_true, decide_eq_true_eq] using h
theorem elD_len (c : S27) (h : wokB c = true) : (elD c).length ≤ 62 := by
 have h := wok_b h
 have h0 := dec_len (wrap64 c.f0).toNat (by omega)
 have h1 := dec_len (wrap64 c.f1).toNat (by omega)
 have h2 := dec_len (wrap64 c.f2).toNat (by omega)
 unfold elD
 simp only [List.length_append, List.length_cons, List.length_nil]
 omega
theorem join_snoc (xs : List (List UInt8)) (x sep : List UInt8) (h : xs ≠ []) : Lib.join (xs ++ [x]) sep = Lib.join xs sep ++ sep ++ x := by
 cases xs with
 | nil => exact absurd rfl h
 | cons a r => rw [List.cons_append, Lib.join_cons, Lib.join_cons]; simp [Lib.joinTail]
theorem textD_len : ∀ (l : List S27), l.all wokB = true → (textD l).length ≤ l.length * 63
 | l, h => by
  cases l with
  | nil => simp [textD, Lib.join_nil]
  | cons a r =>
   unfold textD
   rw [List.map_cons, Lib.join_cons, List.length_append]
   rw [List.all_cons, Bool.and_eq_true] at h
   have h0 := elD_len a h.1
   have ht : ∀ (r : List S27), r.all wokB = true → (Lib.joinTail [32] (r.map elD)).length ≤ r.length * 63 := by
    intro r
    induction r with
    | nil => intro _; simp [Lib.joinTail]
    | cons b r ih =>
     intro hr
     rw [List.all_cons, Bool.and_eq_true] at hr
     have h1 := elD_len b hr.1
     have h2 := ih hr.2
     simp only [Lib.joinTail, List.map_cons, List.flatten_cons, List.length_append, List.length_cons, List.length_nil] at h2 ⊢
     omega
   have := ht r h.2
   rw [List.length_cons]
   omega
theorem textD_succ (l : List S27) (kk : Nat) (h : kk < l.length) (h0 : kk ≠ 0) : textD (l.take (kk + 1)) = textD (l.take kk) ++ [32] ++ elD l[kk] := by
 unfold textD
 rw [List.take_succ_eq_append_getElem h, List.map_append, List.map_cons, List.map_nil, join_snoc _ _ _ (by rw [Ne, List.map_eq_nil_iff]; intro e; have := congrArg List.length e; rw [List.length_take, List.length_nil] at this; omega)]
theorem textD_one (l : List S27) (h : 0 < l.length) : textD (l.take 1) = elD l[0] := by
 unfold textD
 rw [show (1 : Nat) = 0 + 1 from rfl, List.take_succ_eq_append_getElem h]
 simp [Lib.join_one]
theorem textD_zero (l : List S27) (kk : Nat) (h : kk < l.length) (h0 : kk = 0) : textD (l.take (kk + 1)) = textD (l.take kk) ++ elD l[kk] := by
 subst h0
 rw [textD_one l h]
 simp [textD, Lib.join_nil]
theorem all_take {l : List S27} {p : S27 → Bool} (h : l.all p = true) (kk : Nat) : (l.take kk).all p = true := by
 rw [List.all_eq_true] at h ⊢
 exact fun x hx => h x (List.mem_of_mem_take hx)
theorem nlt {a : Nat} (h : a ≤ 1000000) : (9223372036854775807 < a) = False := eq_false (by omega)
theorem elD_mk (y : S27) (v0 v1 v2 : Int) (e0 : v0 = wrap64 y.f0) (e1 : v1 = wrap64 y.f1) (e2 : v2 = wrap64 y.f2) (s0 s1 s2 : ByteArray) (h0 : s0 = ⟨(Lib.decDigits v0.toNat).toArray⟩) (h1 : s1 = ⟨(Lib.decDigits v1.toNat).toArray⟩) (h2 : s2 = ⟨(Lib.decDigits v2.toNat).toArray⟩) :
  s0 ++ (⟨#[47]⟩ : ByteArray) ++ s1 ++ (⟨#[47]⟩ : ByteArray) ++ s2 = ⟨(elD y).toArray⟩ := by
 subst h0 h1 h2 e0 e1 e2
 rw [show (⟨#[47]⟩ : ByteArray) = ⟨([47] : List UInt8).toArray⟩ from rfl]
 simp only [dec_mk]
 rfl
set_option maxHeartbeats 8000000 in
set_option maxRecDepth 100000 in
theorem l03Text_calls (ws : List S27) (hl : ws.length = 24) (hok : ws.all wokB = true) (g t : Nat) (W : World) (hg : W.heap[g]? = some (.cells (dayC ws).toArray t (0, 0))) :
  Calls Tryd.prog 8 #[.pointer (some ⟨g, 0, none⟩)] W fun e w' => e = .returned (.string ⟨(textD ws).toArray⟩) ∧ Below W.heap.size W w' := by
 have HG := Aside0.mk hg
 have HL := Aside0.mk hl
 have HS := Aside0.mk hok
 clear hg hl hok
 go_enter Tryd.func8, Tryd.ntmps8
 go_wp2
 go_loopg [3, 4] 24 (fun gg v3 v4 w' => ∃ (kk : Nat) (o : ByteArray), kk ≤ 24 ∧ 24 - kk ≤ gg ∧ v4 = .int .i64 (kk : Int) ∧ v3 = .string o ∧ Aside0 (o = ⟨(textD (ws.take kk)).toArray⟩) ∧ Aside0 (Below W.heap.size W w'))
 case atStart => exact ⟨0, ⟨#[]⟩, Nat.zero_le _, by omega, rfl, rfl, ⟨rfl⟩, ⟨Below.refl _ _⟩⟩
 case round =>
  obtain ⟨kk, o, hkk, hgg, rfl, rfl, HO, HB⟩ := hrel
  by_cases hlt : kk < 24
  ·have hlti : (kk : Int) < 24 := by omega
   have hlw : kk < ws.length := by rw [HL.out]; exact hlt
   have hb := blk_below HG.out HB.out
   have hx0 := day_cell hb kk 0 hlw (by omega)
   have hx1 := day_cell hb kk 1 hlw (by omega)
   have hx2 := day_cell hb kk 2 hlw (by omega)
   obtain ⟨y, hy⟩ : ∃ y, ws[kk] = y := ⟨_, rfl⟩
   have hsy : wokB y = true := by rw [← hy]; exact List.all_eq_true.mp HS.out ws[kk] (List.getElem_mem hlw)
   rw [hy] at hx0 hx1 hx2
   simp only [cs3, List.getElem?_cons_zero, List.getElem?_cons_succ, Nat.add_zero] at hx0 hx1 hx2
   have HX0 := Aside0.mk hx0
   have HX1 := Aside0.mk hx1
   have HX2 := Aside0.mk hx2
   have hzo : o.size ≤ 1600 := by
    rw [HO.out, dec_size]
    have := textD_len (ws.take kk) (all_take HS.out kk)
    rw [List.length_take] at this
    omega
   obtain ⟨v0, hv0⟩ : ∃ v, v = wrap64 y.f0 := ⟨_, rfl⟩
   obtain ⟨v1, hv1⟩ : ∃ v, v = wrap64 y.f1 := ⟨_, rfl⟩
   obtain ⟨v2, hv2⟩ : ∃ v, v = wrap64 y.f2 := ⟨_, rfl⟩
   have hyb := wok_b hsy
   rw [← hv0, ← hv1, ← hv2] at hyb
   have hw0 : IntKind.i64.wrap y.f0 = v0 := (i64_w _).trans hv0.symm
   have hw1 : IntKind.i64.wrap y.f1 = v1 := (i64_w _).trans hv1.symm
   have hw2 : IntKind.i64.wrap y.f2 = v2 := (i64_w _).trans hv2.symm
   obtain ⟨s0, hs0⟩ : ∃ s : ByteArray, s = ⟨(Lib.decDigits v0.toNat).toArray⟩ := ⟨_, rfl⟩
   have hz0 : s0.size ≤ 20 := by rw [hs0, dec_size]; exact dec_len _ (by omega)
   obtain ⟨s1, hs1⟩ : ∃ s : ByteArray, s = ⟨(Lib.decDigits v1.toNat).toArray⟩ := ⟨_, rfl⟩
   have hz1 : s1.size ≤ 20 := by rw [hs1, dec_size]; exact dec_len _ (by omega)
   obtain ⟨s2, hs2⟩ : ∃ s : ByteArray, s = ⟨(Lib.decDigits v2.toNat).toArray⟩ := ⟨_, rfl⟩
   have hz2 : s2.size ≤ 20 := by rw [hs2, dec_size]; exact dec_len _ (by omega)
   have HD0 := Aside0.mk (show spec_Decimalw.f v0 = some s0 by unfold spec_Decimalw.f; rw [if_pos (by omega), hs0])
   have HD1 := Aside0.mk (show spec_Decimalw.f v1 = some s1 by unfold spec_Decimalw.f; rw [if_pos (by omega), hs1])
   have HD2 := Aside0.mk (show spec_Decimalw.f v2 = some s2 by unfold spec_Decimalw.f; rw [if_pos (by omega), hs2])
   have HEL := Aside0.mk (elD_mk y v0 v1 v2 hv0 hv1 hv2 s0 s1 s2 hs0 hs1 hs2)
   have HY := Aside0.mk hy
   have z0 := nlt (a := s0.size + 1) (by omega)
   have z1 := nlt (a := s0.size + 1 + s1.size) (by omega)
   have z2 := nlt (a := s0.size + 1 + s1.size + 1) (by omega)
   have z3 := nlt (a := s0.size + 1 + s1.size + 1 + s2.size) (by omega)
   have z4 := nlt (a := o.size + (s0.size + 1 + s1.size + 1 + s2.size)) (by omega)
   have z5 := nlt (a := o.size + 1) (by omega)
   have z6 := nlt (a := o.size + 1 + (s0.size + 1 + s1.size + 1 + s2.size)) (by omega)
   have hk0 : (0 : Int) ≤ (kk : Int) := by omega
   have HLT := Aside0.mk hlw
   clear hb hs0 hs1 hs2 hz0 hz1 hz2 hzo hv0 hv1 hv2 hy hyb hsy
   by_cases hk : kk = 0
   ·have hk1 : decide ((kk : Int) > 0) = false := decide_eq_false (by omega)
    have hk2 : decide (0 < (kk : Int)) = false := decide_eq_false (by omega)
    have hk3 : decide (0 < kk) = false := decide_eq_false (by omega)
    have hk4 : (0 < kk) = False := eq_false (by omega)
    have HK := Aside0.mk hk
    clear hk
    go_wp2
    go_region_held3 (fun w' => w'.cell? ⟨g, kk * 3, none⟩ = some (.int .i8 y.f0) ∧ w'.cell? ⟨g, kk * 3 + 1, none⟩ = some (.int .i8 y.f1) ∧ w'.cell? ⟨g, kk * 3 + 2, none⟩ = some (.int .i8 y.f2))
     (exact ⟨pw_cell_below (by repeat (first | exact Below.refl _ _ | apply pw_below_drewN | apply below_drew | apply below_alloc | refine below_step ?_ hb1 | refine below_step ?_ hb2 | refine below_step ?_ hb3)) HX0.out, pw_cell_below (by repeat (first | exact Below.refl _ _ | apply pw_below_drewN | apply below_drew | apply below_alloc | refine below_step ?_ hb1 | refine below_step ?_ hb2 | refine below_step ?_ hb3)) HX1.out, pw_cell_below (by repeat (first | exact Below.refl _ _ | apply pw_below_drewN | apply below_drew | apply below_alloc | refine below_step ?_ hb1 | refine below_step ?_ hb2 | refine below_step ?_ hb3)) HX2.out⟩)
     (first
      | (go_at_call_of 14 (Value.int .i64 v0); refine (spec_Decimalw.calls v0 s0 _ HD0.out).mono ?_; rintro e w1 ⟨rfl, hb1⟩)
      | (go_at_call_of 14 (Value.int .i64 v1); refine (spec_Decimalw.calls v1 s1 _ HD1.out).mono ?_; rintro e w2 ⟨rfl, hb2⟩)
      | (go_at_call_of 14 (Value.int .i64 v2); refine (spec_Decimalw.calls v2 s2 _ HD2.out).mono ?_; rintro e w3 ⟨rfl, hb3⟩))
    all_goals
     go_wp2
     go_roundg (24 - (kk + 1))
     case measure => omega
     case rel => exact ⟨kk + 1, _, by omega, by omega, by go_num, rfl, ⟨by rw [textD_zero ws kk HLT.out HK.out, HY.out, ← dec_mk, ← HEL.out, ← HO.out]⟩, ⟨below_step HB.out (by repeat (first | exact Below.refl _ _ | apply pw_below_drewN | apply below_drew | apply below_alloc | refine below_step ?_ hb1 | refine below_step ?_ hb2 | refine below_step ?_ hb3))⟩⟩
   ·have hk1 : decide ((kk : Int) > 0) = true := decide_eq_true (by omega)
    have hk2 : decide (0 < (kk : Int)) = true := decide_eq_true (by omega)
    have hk3 : decide (0 < kk) = true := decide_eq_true (by omega)
    have hk4 : (0 < kk) = True := eq_true (by omega)
    have HK := Aside0.mk hk
    clear hk
    go_wp2
    go_region_held3 (fun w' => w'.cell? ⟨g, kk * 3, none⟩ = some (.int .i8 y.f0) ∧ w'.cell? ⟨g, kk * 3 + 1, none⟩ = some (.int .i8 y.f1) ∧ w'.cell? ⟨g, kk * 3 + 2, none⟩ = some (.int .i8 y.f2))
     (exact ⟨pw_cell_below (by repeat (first | exact Below.refl _ _ | apply pw_below_drewN | apply below_drew | apply below_alloc | refine below_step ?_ hb1 | refine below_step ?_ hb2 | refine below_step ?_ hb3)) HX0.out, pw_cell_below (by repeat (first | exact Below.refl _ _ | apply pw_below_drewN | apply below_drew | apply below_alloc | refine below_step ?_ hb1 | refine below_step ?_ hb2 | refine below_step ?_ hb3)) HX1.out, pw_cell_below (by repeat (first | exact Below.refl _ _ | apply pw_below_drewN | apply below_drew | apply below_alloc | refine below_step ?_ hb1 | refine below_step ?_ hb2 | refine below_step ?_ hb3)) HX2.out⟩)
     (first
      | (go_at_call_of 14 (Value.int .i64 v0); refine (spec_Decimalw.calls v0 s0 _ HD0.out).mono ?_; rintro e w1 ⟨rfl, hb1⟩)
      | (go_at_call_of 14 (Value.int .i64 v1); refine (spec_Decimalw.calls v1 s1 _ HD1.out).mono ?_; rintro e w2 ⟨rfl, hb2⟩)
      | (go_at_call_of 14 (Value.int .i64 v2); refine (spec_Decimalw.calls v2 s2 _ HD2.out).mono ?_; rintro e w3 ⟨rfl, hb3⟩))
    all_goals
     go_wp2
     go_roundg (24 - (kk + 1))
     case measure => omega
     case rel => exact ⟨kk + 1, _, by omega, by omega, by go_num, rfl, ⟨by rw [textD_succ ws kk HLT.out HK.out, HY.out, ← dec_mk, ← dec_mk, ← HEL.out, ← HO.out]⟩, ⟨below_step HB.out (by repeat (first | exact Below.refl _ _ | apply pw_below_drewN | apply below_drew | apply below_alloc | refine below_step ?_ hb1 | refine below_step ?_ hb2 | refine below_step ?_ hb3))⟩⟩
  ·have hlti : ¬ (kk : Int) < 24 := by omega
   go_wp2
   go_ret
   have er : o = (⟨(textD ws).toArray⟩ : ByteArray) := by rw [HO.out, List.take_of_length_le (by have := HL.out; omega)]
   exact ⟨congrArg (fun s => Ending.returned (Value.string s)) er, HB.out⟩
def dayR (ws : List S27) : ByteArray := if ws.all wokB = true then ⟨(textD ws).toArray⟩ else ⟨#[]⟩
set_option maxHeartbeats 4000000 in
set_option maxRecDepth 100000 in
theorem specDayText_calls (ws : List S27) (hl : ws.length = 24) (w : World) :
  Calls Tryd.prog 4 #[.agg (dayC ws).toArray] w fun e w' => e = .returned (.string (dayR ws)) ∧ Below w.heap.size w w' := by
 have HO := Aside0.mk (fun g t W h => l03Ok_calls ws hl g t W h)
 have HX := Aside0.mk (fun hok g t W h => l03Text_calls ws hl hok g t W h)
 unfold dayR
 obtain ⟨x, hx⟩ : ∃ x, ws.all wokB = x := ⟨_, rfl⟩
 rw [hx] at HO HX ⊢
 clear hx hl
 cases x with
 | true =>
  rw [if_pos rfl]
  go_enter Tryd.func4, Tryd.ntmps4
  go_wp2_with (first
   | ((with_reducible refine gate_dst (N := 1) rfl ?_); refine box_event ?hg (N := 1) ?hd (cs := (dayC ws).toArray) (t := 29) ?hr ?_; (case hd => rfl); (case hg => rfl); (case hr => first | (go_simp; done) | (go_simp; rfl)); intro ga hga w1 h1 hb1; have B1 := Aside0.mk hb1; have K1 := Aside0.mk h1; clear hga h1 hb1)
   | (go_at_call 7; refine (HO.out ga _ _ K1.out).mono ?_; rintro e w2 ⟨rfl, hb2⟩; have B2 := Aside0.mk (below_step B1.out hb2); have K2 := Aside0.mk (blk_below K1.out hb2); clear hb2)
   | (go_at_call 8; (refine (HX.out trivial ga _ _ K2.out).mono ?_; rintro e w3 ⟨rfl, hb3⟩; have B3 := Aside0.mk (below_step B2.out hb3); clear hb3)))
  go_ret
  exact ⟨rfl, B3.out⟩
 | false =>
  rw [if_neg (by decide)]
  go_enter Tryd.func4, Tryd.ntmps4
  go_wp2_with (first
   | ((with_reducible refine gate_dst (N := 1) rfl ?_); refine box_event ?hg (N := 1) ?hd (cs := (dayC ws).toArray) (t := 29) ?hr ?_; (case hd => rfl); (case hg => rfl); (case hr => first | (go_simp; done) | (go_simp; rfl)); intro ga hga w1 h1 hb1; have B1 := Aside0.mk hb1; have K1 := Aside0.mk h1; clear hga h1 hb1)
   | (go_at_call 7; refine (HO.out ga _ _ K1.out).mono ?_; rintro e w2 ⟨rfl, hb2⟩; have B2 := Aside0.mk (below_step B1.out hb2); clear hb2))
  go_ret
  exact ⟨rfl, B2.out⟩
set_option maxHeartbeats 2000000 in
theorem ContainsFunc_27 (A0 : Option Addr) (c0 : Nat) (l0 : List S27) (g : Nat) (lb : Array Value) (p : S27 → Bool) (w : World) (hr0 : Kd.C k27 w A0 l0.length l0)
  (eg : ∀ args w, (callFunc g args).run Tryd.prog w = .ok (.enter g args) w)
  (hp : ∀ (W : World) (x : S27), x ∈ l0 → Below w.heap.size w W → Calls Tryd.prog g (#[.agg #[.int .i8 x.f0, .int .i8 x.f1, .int .i8 x.f2]] ++ lb) W fun e w' => e = .returned (.bool (p x)) ∧ Below W.heap.size W w') :
  Calls Tryd.prog 15 #[.slice A0 l0.length c0, .func (.func g) #[] lb] w fun e w' => e = .returned (.bool (l0.any p)) ∧ Below w.heap.size w w' := by
 have hi := IndexFunc_27 A0 c0 l0 g lb p w hr0 eg hp
 have HN := Aside0.mk (Own.firstIdx_nonneg p l0)
 clear hp hr0
 obtain ⟨x, hx⟩ : ∃ x, Own.firstIdx p l0 = x := ⟨_, rfl⟩
 rw [hx] at hi
 have HX := Aside0.mk hx
 clear hx
 go_enter Tryd.func15, Tryd.ntmps15
 go_wp2_with (go_at_call 23; refine hi.mono ?_; rintro e w1 ⟨rfl, hb1⟩)
 go_ret
 exact ⟨by rw [← HN.out, HX.out]; rfl, hb1⟩
set_option maxHeartbeats 2000000 in
theorem IndexFunc_i64 (A0 : Option Addr) (c0 : Nat) (l0 : List Int) (g : Nat) (lb : Array Value) (p : Int → Bool) (w : World) (hr0 : Kd.C (Kd.int .i64) w A0 l0.length l0)
  (eg : ∀ args w, (callFunc g args).run Tryd.prog w = .ok (.enter g args) w)
  (hp : ∀ (W : World) (x : Int), x ∈ l0 → Below w.heap.size w W → Calls Tryd.prog g (#[.int .i64 x] ++ lb) W fun e w' => e = .returned (.bool (p x)) ∧ Below W.heap.size W w') :
  Calls Tryd.prog 37 #[.slice A0 l0.length c0, .func (.func g) #[] lb] w fun e w' => e = .returned (.int .i64 (Own.firstIdx p l0)) ∧ Below w.heap.size w w' := by
 have HR0 := Aside0.mk hr0
 have hn : l0.length ≤ 9223372036854775807 := hr0.2.1
 have HP := Aside0.mk hp
 clear hr0 hp
 go_enter Tryd.func37, Tryd.ntmps37
 go_wp2
 go_loopg [5, 8] l0.length (fun gg _ v8 w' => ∃ kk : Nat, kk ≤ l0.length ∧ l0.length - kk ≤ gg ∧ v8 = .int .i64 kk ∧ Aside0 (Below w.heap.size w w') ∧ Aside0 (∀ j, (h : j < kk) → (h2 : j < l0.length) → p l0[j] = false))
 case atStart => exact ⟨0, Nat.zero_le _, by omega, rfl, ⟨Below.refl _ w⟩, ⟨fun j hj => absurd hj (Nat.not_lt_zero _)⟩⟩
 case round =>
  obtain ⟨kk, hkk, hg, rfl, BW, AF⟩ := hrel
  by_cases hlt : kk < l0.length
  ·have hlti : (kk : Int) < (l0.length : Int) := by omega
   have hcall := HP.out wr l0[kk] (List.getElem_mem hlt) BW.out
   obtain ⟨ad, e1, hx0⟩ := Kd.at_int (Kd.C_below HR0.out BW.out) (kk : Int) (by omega) hlti
   cases e1
   have ey : rd l0 (kk : Int) = l0[kk] := by simp [rd, List.getD_eq_getElem?_getD, List.getElem?_eq_getElem hlt]
   rw [ey] at hx0
   simp only [Int.toNat_natCast] at hx0
   obtain ⟨y, hy⟩ : ∃ y, l0[kk] = y := ⟨_, rfl⟩
   rw [hy] at hx0 hcall
   have HY := Aside0.mk hy
   clear hy ey
   cases hq : p y with
   | true =>
    rw [hq] at hcall
    have HQ := Aside0.mk hq
    clear hq
    go_wp2_with (go_at_fn g; refine hcall.mono ?_; rintro e w1 ⟨rfl, hb1⟩)
    go_ret
    refine ⟨?_, below_step BW.out hb1⟩
    rw [Own.firstIdx_hit hlt (fun j hj => AF.out j hj (by omega)) (by rw [HY.out]; exact HQ.out)]
    rfl
   | false =>
    rw [hq] at hcall
    have HQ := Aside0.mk hq
    clear hq
    go_wp2_with (go_at_fn g; refine hcall.mono ?_; rintro e w1 ⟨rfl, hb1⟩)
    go_roundg (l0.length - (kk + 1))
    case measure => omega
    case rel =>
     refine ⟨kk + 1, by omega, by omega, by go_num, ⟨below_step BW.out hb1⟩, ⟨fun j hj h2 => ?_⟩⟩
     by_cases e : j = kk
     ·subst e
      rw [HY.out]; exact HQ.out
     ·exact AF.out j (by omega) h2
  ·have hlti : ¬ (kk : Int) < (l0.length : Int) := by omega
   go_wp2
   go_ret
   refine ⟨?_, BW.out⟩
   rw [Own.firstIdx_miss (fun j hj => AF.out j (by omega) hj)]
   rfl
set_option maxHeartbeats 2000000 in
theorem ContainsFunc_i64 (A0 : Option Addr) (c0 : Nat) (l0 : List Int) (g : Nat) (lb : Array Value) (p : Int → Bool) (w : World) (hr0 : Kd.C (Kd.int .i64) w A0 l0.length l0)
  (eg : ∀ args w, (callFunc g args).run Tryd.prog w = .ok (.enter g args) w)
  (hp : ∀ (W : World) (x : Int), x ∈ l0 → Below w.heap.size w W → Calls Tryd.prog g (#[.int .i64 x] ++ lb) W fun e w' => e = .returned (.bool (p x)) ∧ Below W.heap.size W w') :
  Calls Tryd.prog 28 #[.slice A0 l0.length c0, .func (.func g) #[] lb] w fun e w' => e = .returned (.bool (l0.any p)) ∧ Below w.heap.size w w' := by
 have hi := IndexFunc_i64 A0 c0 l0 g lb p w hr0 eg hp
 have HN := Aside0.mk (Own.firstIdx_nonneg p l0)
 clear hp hr0
 obtain ⟨x, hx⟩ : ∃ x, Own.firstIdx p l0 = x := ⟨_, rfl⟩
 rw [hx] at hi
 have HX := Aside0.mk hx
 clear hx
 go_enter Tryd.func28, Tryd.ntmps28
 go_wp2_with (go_at_call 37; refine hi.mono ?_; rintro e w1 ⟨rfl, hb1⟩)
 go_ret
 exact ⟨by rw [← HN.out, HX.out]; rfl, hb1⟩
def impl_within.f (a0 : Int) (a1 : Int) (a2 : Int) : Option (Bool) := if a1 ≤ a0 then (some (decide (a0 ≤ a2))) else (some false)
set_option maxHeartbeats 8000000 in
set_option maxRecDepth 100000 in
theorem impl_within.calls (a0 : Int) (a1 : Int) (a2 : Int) (r : Bool) (w : World) (h : impl_within.f a0 a1 a2 = some r) :
  Calls Tryd.prog 30 #[.int .i64 a0, .int .i64 a1, .int .i64 a2] w fun e w' => e = .returned (.bool r) ∧ Drawn0 w w' := by
 have H : (if a1 ≤ a0 then (some (decide (a0 ≤ a2))) else (some false)) = some r := h
 clear h
 by_cases c4 : a1 ≤ a0
 ·rw [if_pos c4] at H
  have c4b0 : decide (a1 ≤ a0) = true := decide_eq_true c4
  clear c4
  obtain rfl := Option.some.inj H
  go_enter Tryd.func30, Tryd.ntmps30
  go_wp2
  go_ret
  exact ⟨by first | rfl | (simp; done) | (simp [*]; done), by repeat (first | exact Drawn0.refl _ | apply Drawn0.step)⟩
 ·rw [if_neg c4] at H
  have c4b0 : decide (a1 ≤ a0) = false := decide_eq_false c4
  clear c4
  obtain rfl := Option.some.inj H
  go_enter Tryd.func30, Tryd.ntmps30
  go_wp2
  go_ret
  exact ⟨by first | rfl | (simp; done) | (simp [*]; done), by repeat (first | exact Drawn0.refl _ | apply Drawn0.step)⟩
def impl_areWithin.f (l0 : List Int) (a1 : Int) (a2 : Int) : Option Bool := some (l0.all fun n => decide (a1 ≤ n ∧ n ≤ a2))
theorem within_some (a b c : Int) : impl_within.f a b c = some (decide (b ≤ a ∧ a ≤ c)) := by
 unfold impl_within.f
 by_cases h : b ≤ a <;> simp [h]
set_option maxHeartbeats 2000000 in
theorem areWithin_1 (n a b : Int) (g1 g2 : Nat) (w : World) (h1 : w.cell? ⟨g1, 0, none⟩ = some (.int .i64 a)) (h2 : w.cell? ⟨g2, 0, none⟩ = some (.int .i64 b)) :
  Calls Tryd.prog 29 #[.int .i64 n, .pointer (some ⟨g1, 0, none⟩), .pointer (some ⟨g2, 0, none⟩)] w fun e w' => e = .returned (.bool (!decide (a ≤ n ∧ n ≤ b))) ∧ Below w.heap.size w w' := by
 have hw := impl_within.calls n a b _ w (within_some n a b)
 obtain ⟨x, hx⟩ : ∃ x, decide (a ≤ n ∧ n ≤ b) = x := ⟨_, rfl⟩
 rw [hx] at hw
 rw [hx]
 clear hx
 go_enter Tryd.func29, Tryd.ntmps29
 go_wp2_with (go_at_call 30; refine hw.mono ?_; rintro e w1 ⟨rfl, ⟨nd, rfl⟩⟩)
 go_ret
 exact ⟨rfl, pw_below_drewN (Below.refl _ _) _⟩
set_option maxHeartbeats 2000000 in
theorem impl_areWithin.calls (A0 : Option Addr) (c0 : Nat) (l0 : List Int) (a1 : Int) (a2 : Int) (r : Bool) (w : World) (hr0 : Kd.C (Kd.int .i64) w A0 l0.length l0) (hc0 : l0.length ≤ c0) (h : impl_areWithin.f l0 a1 a2 = some r) :
  Calls Tryd.prog 24 #[.slice A0 l0.length c0, .int .i64 a1, .int .i64 a2] w fun e w' => e = .returned (.bool r) ∧ Below w.heap.size w w' := by
 have hr := Option.some.inj h
 have hany : l0.any (fun x => !decide (a1 ≤ x ∧ x ≤ a2)) = !r := by rw [← hr, List.all_eq_not_any_not]; simp
 have hC : ∀ (W : World) (g1 g2 : Nat), Below w.heap.size w W → g1 < W.heap.size → g2 < W.heap.size → W.cell? ⟨g1, 0, none⟩ = some (.int .i64 a1) → W.cell? ⟨g2, 0, none⟩ = some (.int .i64 a2) →
   Calls Tryd.prog 28 #[.slice A0 l0.length c0, .func (.func 29) #[] #[.pointer (some ⟨g1, 0, none⟩), .pointer (some ⟨g2, 0, none⟩)]] W fun e w' => e = .returned (.bool (!r)) ∧ Below W.heap.size W w' := by
  intro W g1 g2 hB l1 l2 h1 h2
  rw [← hany]
  exact ContainsFunc_i64 A0 c0 l0 29 _ (fun x => !decide (a1 ≤ x ∧ x ≤ a2)) W (Kd.C_below hr0 hB) (enters_of Tryd.func29 (by kernel_rfl) rfl)
   (fun W' x _ hB' => areWithin_1 x a1 a2 g1 g2 W' ((hB'.cell (p := ⟨g1, 0, none⟩) l1).trans h1) ((hB'.cell (p := ⟨g2, 0, none⟩) l2).trans h2))
 have HC := Aside0.mk hC
 clear h hr hany hr0 hC
 go_enter Tryd.func24, Tryd.ntmps24
 go_wp2_with (go_at_call 28; refine (HC.out _ _ _ (below_alloc (below_alloc (Below.refl _ _) _) _) (by first | (simp; done) | (simp; omega)) (by first | (simp; done) | (simp; omega)) (by simp; done) (by simp; done)).mono ?_; rintro e w1 ⟨rfl, hb1⟩)
 go_ret
 exact ⟨by simp, below_step (below_alloc (below_alloc (Below.refl _ _) _) _) hb1⟩
def impl_isWeather.f (a0_0 : Int) (a0_1 : Int) (a0_2 : Int) : Option (Bool) := (impl_areWithin.f (([wrap64 (a0_0), wrap64 (a0_1), wrap64 (a0_2)] : List Int)) 0 9).bind fun t119 => (some t119)
set_option maxHeartbeats 8000000 in
set_option maxRecDepth 100000 in
theorem impl_isWeather.calls (a0_0 : Int) (a0_1 : Int) (a0_2 : Int) (r : Bool) (w : World) (h : impl_isWeather.f a0_0 a0_1 a0_2 = some r) :
  Calls Tryd.prog 17 #[.agg #[.int .i8 a0_0, .int .i8 a0_1, .int .i8 a0_2]] w fun e w' => e = .returned (.bool r) ∧ Below w.heap.size w w' := by
 have hu27 := Tryd.underlying27
 have HB := Aside0.mk (Below.refl w.heap.size w)
 have H : ((impl_areWithin.f (([wrap64 (a0_0), wrap64 (a0_1), wrap64 (a0_2)] : List Int)) 0 9).bind fun t119 => (some t119)) = some r := h
 clear h
 obtain ⟨y116, hy116⟩ : ∃ y_ : List Int, y_ = (([wrap64 (a0_0), wrap64 (a0_1), wrap64 (a0_2)] : List Int)) := ⟨_, rfl⟩
 replace H : ((impl_areWithin.f y116 0 9).bind fun t119 => (some t119)) = some r := by first | (rw [hy116]; with_reducible exact H) | (have H2_ := (Option.bind_some _ _).symm.trans H; rw [hy116]; with_reducible exact H2_) | (have H2_ := (Option.bind_some _ _).symm.trans H; with_reducible exact H2_) | with_reducible exact H | (rw [hy116]; exact H) | exact H
 have Ny116 := Aside0.mk hy116
 clear hy116
 replace H := Option.bind_eq_some_iff.mp H
 obtain ⟨t119, A20, H⟩ := H
 replace H : (some t119) = some r := H
 have A2 := Aside0.mk A20
 clear A20
 obtain rfl := Option.some.inj H
 go_enter Tryd.func17, Tryd.ntmps17
 go_wp2_with (first | ((with_reducible refine gate_dst (N := 1) rfl ?_); refine box_event ?hg (N := 1) ?hd (cs := #[.int .i8 a0_0, .int .i8 a0_1, .int .i8 a0_2]) (t := 27) ?hr ?_; (case hd => rfl); (case hg => rfl); (case hr => first | (go_simp; done) | (go_simp; rfl)); intro gb115 hg w3 hbox hb; have n0_ := Aside0.mk (below_step (by repeat (first | (with_reducible first | exact HB.out | apply below_alloc | apply pw_below_drewN | apply below_drew1) | exact HB.out)) hb); have n1_ := Aside0.mk (hbox); have n2_ := Aside0.mk ((by rw [hg]; exact (below_size (by repeat (first | (with_reducible first | exact HB.out | apply below_alloc | apply pw_below_drewN | apply below_drew1) | exact HB.out))) : w.heap.size ≤ gb115)); have n3_ := Aside0.mk ((by rw [hg]; exact (below_size (by repeat (first | (with_reducible first | exact HB.out | apply below_alloc | apply pw_below_drewN | apply below_drew1) | exact HB.out))) : w.heap.size ≤ gb115)); clear HB; have HB := n0_; have BK115 := n1_; have GW115 := n2_; have GE115 := n3_; clear n0_ n1_ n2_ n3_; clear hb hbox hg; have hcz4_0 : w3.cell? ⟨gb115, 0, none⟩ = some (.int .i8 a0_0) := (blk_cell BK115.out 0).trans rfl; have hcz4_1 : w3.cell? ⟨gb115, 1, none⟩ = some (.int .i8 a0_1) := (blk_cell BK115.out 1).trans rfl; have hcz4_2 : w3.cell? ⟨gb115, 2, none⟩ = some (.int .i8 a0_2) := (blk_cell BK115.out 2).trans rfl; have hfz4_0 := blk_frozen BK115.out 0; have hfz4_1 := blk_frozen BK115.out 1; have hfz4_2 := blk_frozen BK115.out 2) | ((with_reducible refine gate_dst (N := 12) rfl ?_); refine Kd.R_lit (Kd.int .i64) _ 2 ?hg (N := 12) ?hd (xs := ([wrap64 (a0_0), wrap64 (a0_1), wrap64 (a0_2)] : List Int)) (inner := [.int .i64 (wrap64 (a0_0)), .int .i64 (wrap64 (a0_1)), .int .i64 (wrap64 (a0_2))]) (ok := fun _ => True) (okp := fun _ => True) ?hr ?hp (fun _ hk => hk) trivial (Below.refl _ _) (Nat.le_refl _) (by simp) ?_; (case hd => rfl); (case hg => rfl); (case hr => first | (go_simp; done) | (go_simp; rfl)); (case hp => exact (Reps.one (show Kd.M (Kd.int .i64) _ _ _ (wrap64 (a0_0)) [.int .i64 (wrap64 (a0_0))] from rfl) (Reps.one (show Kd.M (Kd.int .i64) _ _ _ (wrap64 (a0_1)) [.int .i64 (wrap64 (a0_1))] from rfl) (Reps.one (show Kd.M (Kd.int .i64) _ _ _ (wrap64 (a0_2)) [.int .i64 (wrap64 (a0_2))] from rfl) (Reps.none _ _))))); intro v117 w5 ho6 hb hg_ hnew_; clear hg_ hnew_; (first | rw [← Ny116.out] at ho6 | (simp only [Int.reduceToNat] at ho6; rw [← Ny116.out] at ho6)); have n0_ := Aside0.mk (Kd.R_lower ho6 (below_size (by repeat (first | (with_reducible first | exact HB.out | apply below_alloc | apply pw_below_drewN | apply below_drew1 | refine below_set ?_ GE115.out) | exact HB.out)))); have n1_ := Aside0.mk (blk_below (g := gb115) (o := .cells #[.int .i8 a0_0, .int .i8 a0_1, .int .i8 a0_2] 27 (0, 0)) (by (with_reducible repeat (first | refine blk_drewN ?_ _ | refine blk_drew ?_ | refine blk_alloc ?_ _)); exact BK115.out) hb); have n2_ := Aside0.mk (below_step (by repeat (first | (with_reducible first | exact HB.out | apply below_alloc | apply pw_below_drewN | apply below_drew1 | refine below_set ?_ GE115.out) | exact HB.out)) hb); clear BK115; clear HB; have HO118 := n0_; have BK115 := n1_; have HB := n2_; clear n0_ n1_ n2_; clear hb ho6; obtain ⟨Ao7, co7, eo7⟩ := Kd.R_slice HO118.out; subst eo7) | ((with_reducible refine gate_callee (f := 24) rfl ?_); refine goesL_ (some 13) rfl rfl Tryd.func24 (by kernel_rfl) rfl #[.slice Ao7 y116.length co7, .int .i64 0, .int .i64 9] rfl (by (try simp only [List.map_toArray, List.map_cons, List.map_nil]); first | done | rfl | (simp only [List.length_drop, List.length_take]; rfl)) ?_; (with_reducible refine (impl_areWithin.calls _ _ y116 0 9 t119 _ ?side1 ?side2 A2.out).mono ?_); (case side1 => repeat (first | exact (Kd.R_reads' HO118.out).2.2 | (with_reducible refine Kd.C_alloc ?_ _) | (with_reducible refine Kd.C_drewN ?_ _) | (with_reducible refine Kd.C_drew ?_))); (case side2 => exact (Kd.R_reads' HO118.out).2.1); rintro e w8 ⟨rfl, hb⟩; refine ⟨_, rfl, ?_⟩; have n0_ := Aside0.mk (Kd.R_below (by (with_reducible repeat (first | apply Kd.R_alloc | apply Kd.R_drewN | apply Kd.R_drew)); exact HO118.out) hb); have n1_ := Aside0.mk (blk_below (g := gb115) (o := .cells #[.int .i8 a0_0, .int .i8 a0_1, .int .i8 a0_2] 27 (0, 0)) (by (with_reducible repeat (first | refine blk_drewN ?_ _ | refine blk_drew ?_ | refine blk_alloc ?_ _)); exact BK115.out) hb); have n2_ := Aside0.mk (below_step (by repeat (first | (with_reducible first | exact HB.out | apply below_alloc | apply pw_below_drewN | apply below_drew1 | refine below_set ?_ GE115.out) | exact HB.out)) hb); clear HO118; clear BK115; clear HB; have HO118 := n0_; have BK115 := n1_; have HB := n2_; clear n0_ n1_ n2_; (try clear hb); (try clear hb2); (try clear hk); (try clear hi)))
 go_ret
 exact ⟨by first | rfl | (simp [errW_none, errW_some] <;> rfl) | (simp [*, errW_none, errW_some] <;> rfl), by repeat (first | (with_reducible first | exact HB.out | apply below_alloc | apply pw_below_drewN | apply below_drew1 | refine below_set ?_ GE115.out) | exact HB.out)⟩
def impl_ValidDay_1.f (a0_0 : Int) (a0_1 : Int) (a0_2 : Int) : Option (Bool) := (impl_isWeather.f a0_0 a0_1 a0_2).bind fun t121 => (some (!t121))
set_option maxHeartbeats 8000000 in
set_option maxRecDepth 100000 in
theorem impl_ValidDay_1.calls (a0_0 : Int) (a0_1 : Int) (a0_2 : Int) (r : Bool) (w : World) (h : impl_ValidDay_1.f a0_0 a0_1 a0_2 = some r) :
  Calls Tryd.prog 16 #[.agg #[.int .i8 a0_0, .int .i8 a0_1, .int .i8 a0_2]] w fun e w' => e = .returned (.bool r) ∧ Below w.heap.size w w' := by
 have hu27 := Tryd.underlying27
 have HB := Aside0.mk (Below.refl w.heap.size w)
 have H : ((impl_isWeather.f a0_0 a0_1 a0_2).bind fun t121 => (some (!t121))) = some r := h
 clear h
 replace H := Option.bind_eq_some_iff.mp H
 obtain ⟨t121, A20, H⟩ := H
 replace H : (some (!t121)) = some r := H
 have A2 := Aside0.mk A20
 clear A20
 obtain rfl := Option.some.inj H
 go_enter Tryd.func16, Tryd.ntmps16
 go_wp2_with (first | ((with_reducible refine gate_dst (N := 1) rfl ?_); refine box_event ?hg (N := 1) ?hd (cs := #[.int .i8 a0_0, .int .i8 a0_1, .int .i8 a0_2]) (t := 27) ?hr ?_; (case hd => rfl); (case hg => rfl); (case hr => first | (go_simp; done) | (go_simp; rfl)); intro gb120 hg w3 hbox hb; have n0_ := Aside0.mk (below_step (by repeat (first | (with_reducible first | exact HB.out | apply below_alloc | apply pw_below_drewN | apply below_drew1) | exact HB.out)) hb); have n1_ := Aside0.mk (hbox); have n2_ := Aside0.mk ((by rw [hg]; exact (below_size (by repeat (first | (with_reducible first | exact HB.out | apply below_alloc | apply pw_below_drewN | apply below_drew1) | exact HB.out))) : w.heap.size ≤ gb120)); have n3_ := Aside0.mk ((by rw [hg]; exact (below_size (by repeat (first | (with_reducible first | exact HB.out | apply below_alloc | apply pw_below_drewN | apply below_drew1) | exact HB.out))) : w.heap.size ≤ gb120)); clear HB; have HB := n0_; have BK120 := n1_; have GW120 := n2_; have GE120 := n3_; clear n0_ n1_ n2_ n3_; clear hb hbox hg; have hcz4_0 : w3.cell? ⟨gb120, 0, none⟩ = some (.int .i8 a0_0) := (blk_cell BK120.out 0).trans rfl; have hcz4_1 : w3.cell? ⟨gb120, 1, none⟩ = some (.int .i8 a0_1) := (blk_cell BK120.out 1).trans rfl; have hcz4_2 : w3.cell? ⟨gb120, 2, none⟩ = some (.int .i8 a0_2) := (blk_cell BK120.out 2).trans rfl; have hfz4_0 := blk_frozen BK120.out 0; have hfz4_1 := blk_frozen BK120.out 1; have hfz4_2 := blk_frozen BK120.out 2) | ((with_reducible refine gate_callee (f := 17) rfl ?_); refine goesL_ (some 4) rfl rfl Tryd.func17 (by kernel_rfl) rfl #[.agg #[.int .i8 a0_0, .int .i8 a0_1, .int .i8 a0_2]] rfl (by (try simp only [List.map_toArray, List.map_cons, List.map_nil]); first | done | rfl | (simp only [List.length_drop, List.length_take]; rfl)) ?_; (with_reducible refine (impl_isWeather.calls a0_0 a0_1 a0_2 t121 _ A2.out).mono ?_); rintro e w5 ⟨rfl, hb⟩; refine ⟨_, rfl, ?_⟩; have n0_ := Aside0.mk (blk_below (g := gb120) (o := .cells #[.int .i8 a0_0, .int .i8 a0_1, .int .i8 a0_2] 27 (0, 0)) (by (with_reducible repeat (first | refine blk_drewN ?_ _ | refine blk_drew ?_ | refine blk_alloc ?_ _)); exact BK120.out) hb); have n1_ := Aside0.mk (below_step (by repeat (first | (with_reducible first | exact HB.out | apply below_alloc | apply pw_below_drewN | apply below_drew1 | refine below_set ?_ GE120.out) | exact HB.out)) hb); clear BK120; clear HB; have BK120 := n0_; have HB := n1_; clear n0_ n1_; (try clear hb); (try clear hb2); (try clear hk); (try clear hi)))
 go_ret
 exact ⟨by first | rfl | (simp [errW_none, errW_some] <;> rfl) | (simp [*, errW_none, errW_some] <;> rfl), by repeat (first | (with_reducible first | exact HB.out | apply below_alloc | apply pw_below_drewN | apply below_drew1 | refine below_set ?_ GE120.out) | exact HB.out)⟩
theorem ValidDay_1_tot (x : S27) : impl_ValidDay_1.f x.f0 x.f1 x.f2 = some (!wokB x) := by
 unfold impl_ValidDay_1.f impl_isWeather.f impl_areWithin.f wokB
 simp only [Option.bind_some, List.all_cons, List.all_nil, Bool.and_true]
theorem C_day {W : World} {g t : Nat} {ws : List S27} (hg : W.heap[g]? = some (.cells (dayC ws).toArray t (0, 0))) (hl : ws.length ≤ 1000) : Kd.C k27 W (some ⟨g, 0, none⟩) ws.length ws := by
 refine ⟨rfl, by omega, fun _ => ⟨_, rfl, fun j p hj => ?_⟩⟩
 obtain ⟨hjl, rfl⟩ := List.getElem?_eq_some_iff.1 hj
 refine ⟨cs3 ws[j], rfl, k27_mk _ _, fun i u hu => ?_⟩
 have hi : i < 3 := (List.getElem?_eq_some_iff.1 hu).1
 rw [show (⟨g, 0, none⟩ : Addr).add (j * k27.sz + i) = ⟨g, j * 3 + i, none⟩ from add_plain g _, day_cell hg j i hjl hi]
 exact hu
set_option maxHeartbeats 4000000 in
set_option maxRecDepth 100000 in
theorem implValidDay_calls (ws : List S27) (hl : ws.length = 24) (w : World) :
  Calls Tryd.prog 10 #[.agg (dayC ws).toArray] w fun e w' => e = .returned (.bool (ws.all wokB)) ∧ Below w.heap.size w w' := by
 have hC : ∀ (W : World) (g t : Nat), W.heap[g]? = some (.cells (dayC ws).toArray t (0, 0)) →
   Calls Tryd.prog 15 #[.slice (some ⟨g, 0, none⟩) 24 24, .func (.func 16) #[] #[]] W fun e w' => e = .returned (.bool (!ws.all wokB)) ∧ Below W.heap.size W w' := by
  intro W g t hg
  have := ContainsFunc_27 (some ⟨g, 0, none⟩) 24 ws 16 #[] (fun x => !wokB x) W (C_day hg (by omega)) (enters_of Tryd.func16 (by kernel_rfl) rfl)
   (fun W' x _ _ => impl_ValidDay_1.calls x.f0 x.f1 x.f2 _ W' (ValidDay_1_tot x))
  rw [hl] at this
  rw [List.all_eq_not_any_not, Bool.not_not]
  exact this
 have HC := Aside0.mk hC
 obtain ⟨x, hx⟩ : ∃ x, ws.all wokB = x := ⟨_, rfl⟩
 rw [hx] at HC ⊢
 clear hl hC hx
 go_enter Tryd.func10, Tryd.ntmps10
 go_wp2_with (first
  | ((with_reducible refine gate_dst (N := 1) rfl ?_); refine box_event ?hg (N := 1) ?hd (cs := (dayC ws).toArray) (t := 29) ?hr ?_; (case hd => rfl); (case hg => rfl); (case hr => first | (go_simp; done) | (go_simp; rfl)); intro ga hga w1 h1 hb1; have B1 := Aside0.mk hb1; have K1 := Aside0.mk h1; clear hga h1 hb1)
  | (go_at_call 15; refine (HC.out _ ga _ K1.out).mono ?_; rintro e w2 ⟨rfl, hb2⟩))
 go_ret
 exact ⟨by simp, below_step B1.out hb2⟩
def TabOK (W : World) : Prop := Lib.TabIs Tryd.prog W "internal/strconv.uint64pow10" .u64 Lib.pow10Tab
theorem TabOK.below {W W' : World} (h : TabOK W) (b : Below W.heap.size W W') : TabOK W' := by
 unfold TabOK Lib.TabIs World.var? at h ⊢
 obtain ⟨g, hg, h⟩ := Option.bind_eq_some_iff.mp h
 rw [hg, Option.bind_some]
 cases hc : W.heap[g]? with
 | none => rw [hc] at h; cases h
 | some o =>
  rw [hc] at h
  rw [b.block g (Array.getElem?_eq_some_iff.1 hc).1, hc]
  exact h
def impl_decimal.f (a0 : Int) : Option (ByteArray) := if 0 ≤ a0 ∧ a0 ≤ 9223372036854775807 then some ⟨(Lib.decDigits a0.toNat).toArray⟩ else none
set_option maxHeartbeats 2000000 in
theorem impl_decimal.calls (a0 : Int) (r : ByteArray) (w : World) (hT : TabOK w) (h : impl_decimal.f a0 = some r) :
  Calls Tryd.prog 11 #[.int .i64 a0] w fun e w' => e = .returned (.string r) ∧ Below w.heap.size w w' := by
 unfold impl_decimal.f at h
 by_cases hq : 0 ≤ a0 ∧ a0 ≤ 9223372036854775807
 case neg => rw [if_neg hq] at h; cases h
 rw [if_pos hq] at h
 obtain rfl := Option.some.inj h
 have hc := Tryd.strconv_FormatInt_10 a0 (by omega) hq.2 w hT
 rw [show Lib.itoa a0 = Lib.decDigits a0.toNat by unfold Lib.itoa; rw [if_neg (by omega)]] at hc
 clear h hq
 go_enter Tryd.func11, Tryd.ntmps11
 go_wp2_with (go_at_call 18; refine hc.mono ?_; rintro e w1 ⟨rfl, kq, os, rfl⟩)
 go_ret
 exact ⟨rfl, Lib.below_grow _ w (Nat.le_refl _) kq os⟩
def strings_Join.f (l0 : List ByteArray) (a1 : ByteArray) : Option (ByteArray) := if l0.length ≤ 1048576 ∧ (Lib.join (l0.map (·.data.toList)) a1.data.toList).length ≤ 140737488355328 then some ⟨(Lib.join (l0.map (·.data.toList)) a1.data.toList).toArray⟩ else none
theorem strings_Join.calls (A0 : Option Addr) (c0 : Nat) (l0 : List ByteArray) (a1 : ByteArray) (r : ByteArray) (w : World) (hr0 : Kd.C Kd.string w A0 l0.length l0) (hc0 : l0.length ≤ c0) (h : strings_Join.f l0 a1 = some r) :
  Calls Tryd.prog 12 #[.slice A0 l0.length c0, .string a1] w fun e w' => e = .returned (.string r) ∧ Below w.heap.size w w' := by
 unfold strings_Join.f at h
 by_cases hq : l0.length ≤ 1048576 ∧ (Lib.join (l0.map (·.data.toList)) a1.data.toList).length ≤ 140737488355328
 case neg => rw [if_neg hq] at h; cases h
 rw [if_pos hq] at h
 obtain rfl := Option.some.inj h
 rcases l0 with _ | ⟨x, xs⟩
 ·exact (Tryd.strings_Join_none A0 c0 a1 w).mono fun e w' ⟨he, hw⟩ => ⟨he, hw ▸ Below.refl _ _⟩
 ·obtain ⟨_, _, hx⟩ := hr0
  obtain ⟨ad, rfl, hcell⟩ := hx (by simp)
  have hat : ∀ (j : Nat) y, (x :: xs)[j]? = some y → w.cell? (ad.add j) = some (.string y) := by
   intro j y hy
   obtain ⟨cs, _, hk, hc⟩ := hcell j y hy
   have hcs : cs = [.string y] := hk
   have := hc 0 (.string y) (by rw [hcs]; rfl)
   simpa [Kd.string, Kd.scalar] using this
  obtain ⟨b, off, spot⟩ := ad
  have h0 := hat 0 x rfl
  have hspot : spot = none := by simpa [Addr.add] using World.cell?_spot h0
  subst hspot
  have hlt : b < w.heap.size := World.block_lt_of_cell? w _ h0
  exact Tryd.strings_Join b off c0 (x :: xs) a1 w (fun j y hy => by
   have := hat j y hy
   by_cases hj : j = 0
   ·subst hj; simpa [Addr.add] using this
   ·simpa [Addr.add, hj] using this) hlt (by omega) hc0 hq.2
theorem day_index (ws : List S27) (k : Nat) (h : k < ws.length) : List.take 3 (List.drop (k * 3) (dayC ws)) = [.int .i8 ws[k].f0, .int .i8 ws[k].f1, .int .i8 ws[k].f2] := by
 have hl := dayC_len ws
 apply List.ext_getElem?
 intro j
 rw [List.getElem?_take, List.getElem?_drop]
 by_cases hj : j < 3
 ·rw [if_pos hj]
  exact dayC_get ws k j h hj
 ·rw [if_neg hj, List.getElem?_eq_none (by simp; omega)]
theorem day_index_run (W : World) (ws : List S27) (k : Nat) (h : k < 24) (y : S27) (hx : List.take 3 (List.drop (k * 3) (dayC ws)) = [.int .i8 y.f0, .int .i8 y.f1, .int .i8 y.f2]) :
  (Instr.index 29 (.agg (dayC ws).toArray) (.int .i64 (k : Int))).run Tryd.prog W = .ok (.agg #[.int .i8 y.f0, .int .i8 y.f1, .int .i8 y.f2]) W := by
 have h0 : (0 : Int) ≤ (k : Int) ∧ (k : Int) < ((24 : Nat) : Int) := by omega
 simp [Instr.index, run_underlying Tryd.underlying29, asIntOf, h0, h, hx, part, go_sem]
theorem day_index_event {ops : Array Oper} {rest : List Oper} {o : Oper} {a : Act} {W : World} {Q : Exit → Act → World → Prop} (hgd : o.guard = none) (x i : Operand) (ho : o.op = .index 29 x i) (ws : List S27) (k : Nat) (y : S27)
  (hx : a.eval x = .agg (dayC ws).toArray) (hi : a.eval i = .int .i64 (k : Int)) (hk : k < 24) (hy : List.take 3 (List.drop (k * 3) (dayC ws)) = [.int .i8 y.f0, .int .i8 y.f1, .int .i8 y.f2])
  (h : wpList Tryd.prog ops Q rest (a.put o.dst (.agg #[.int .i8 y.f0, .int .i8 y.f1, .int .i8 y.f2])) W) : wpList Tryd.prog ops Q (o :: rest) a W := by
 refine Kd.event_run hgd (w1 := W) (v := .agg #[.int .i8 y.f0, .int .i8 y.f1, .int .i8 y.f2]) ?_ h
 unfold execOp
 simp only [ho, hx, hi, Sem.run_bind, day_index_run W ws k hk y hy, Result.andThen_ok]
 rfl
theorem infoS : (Tryd.prog.info? 9).map (fun i => (i.zero, i.size, i.bytes)) = some (some (.string ⟨#[]⟩), 1, 16) := by kernel_rfl
def belD (x : S27) : ByteArray := ⟨(elD x).toArray⟩
theorem belD_join (ws : List S27) (hl : ws.length = 24) (hok : ws.all wokB = true) : strings_Join.f (ws.map belD) (⟨#[32]⟩ : ByteArray) = some ⟨(textD ws).toArray⟩ := by
 have e : (ws.map belD).map (·.data.toList) = ws.map elD := by rw [List.map_map]; rfl
 unfold strings_Join.f
 rw [e, show (⟨#[32]⟩ : ByteArray).data.toList = [32] from rfl]
 have ht := textD_len ws hok
 rw [if_pos ⟨by rw [List.length_map]; omega, by unfold textD at ht; omega⟩]
 rfl
set_option maxHeartbeats 16000000 in
set_option maxRecDepth 100000 in
theorem implDayText_calls (ws : List S27) (hl : ws.length = 24) (w : World) (hT : TabOK w) :
  Calls Tryd.prog 6 #[.agg (dayC ws).toArray] w fun e w' => e = .returned (.string (dayR ws)) ∧ Below w.heap.size w w' := by
 have HV := Aside0.mk (fun W => implValidDay_calls ws hl W)
 have HI := Aside0.mk (show (Tryd.prog.info? 29).map (·.size) = some (dayC ws).toArray.size from by rw [dayC_size ws hl]; kernel_rfl)
 have HL := Aside0.mk hl
 have HT := Aside0.mk hT
 unfold dayR
 obtain ⟨x, hx⟩ : ∃ x, ws.all wokB = x := ⟨_, rfl⟩
 have HXX := Aside0.mk hx
 rw [hx] at HV ⊢
 clear hx hl hT
 cases x with
 | false =>
  rw [if_neg (by decide)]
  go_enter Tryd.func6, Tryd.ntmps6
  go_wp2_with (first
   | ((with_reducible refine gate_dst (N := 1) rfl ?_); refine box_event ?hg (N := 1) ?hd (cs := (dayC ws).toArray) (t := 29) ?hr ?_; (case hd => rfl); (case hg => rfl); (case hr => first | (go_simp; done) | (go_simp; rfl)); intro ga hga w1 h1 hb1; have B1 := Aside0.mk hb1; have K1 := Aside0.mk h1; clear hga h1 hb1)
   | ((with_reducible refine gate_dst (N := 6) rfl ?_); refine wpList_load_row rfl 29 (.tmp 1) rfl ga rfl 29 (dayC ws).toArray (0, 0) _ K1.out Tryd.underlying29 rfl HI.out ?_)
   | (go_at_call 10; refine (HV.out _).mono ?_; rintro e w2 ⟨rfl, hb2⟩; have B2 := Aside0.mk (below_step B1.out hb2); clear hb2))
  go_ret
  exact ⟨rfl, B2.out⟩
 | true =>
  rw [if_pos rfl]
  have HJ := Aside0.mk (belD_join ws HL.out HXX.out)
  go_enter Tryd.func6, Tryd.ntmps6
  go_wp2_with (first
   | ((with_reducible refine gate_dst (N := 1) rfl ?_); refine box_event ?hg (N := 1) ?hd (cs := (dayC ws).toArray) (t := 29) ?hr ?_; (case hd => rfl); (case hg => rfl); (case hr => first | (go_simp; done) | (go_simp; rfl)); intro ga hga w1 h1 hb1; have B1 := Aside0.mk hb1; have K1 := Aside0.mk h1; clear hga h1 hb1)
   | ((with_reducible refine gate_dst (N := 6) rfl ?_); refine wpList_load_row rfl 29 (.tmp 1) rfl ga rfl 29 (dayC ws).toArray (0, 0) _ K1.out Tryd.underlying29 rfl HI.out ?_)
   | (go_at_call 10; refine (HV.out _).mono ?_; rintro e w2 ⟨rfl, hb2⟩; have B2 := Aside0.mk (below_step B1.out hb2); have K2 := Aside0.mk (blk_below K1.out hb2); clear hb2)
   | ((with_reducible refine gate_dst (N := 9) rfl ?_); refine Kd.R_lit Kd.string _ 9 ?hg (N := 9) ?hd (xs := ([] : List ByteArray)) (inner := []) (ok := fun _ => True) (okp := fun _ => True) ?hr ?hp (fun _ hk => hk) trivial (Below.refl _ _) (Nat.le_refl _) (by simp) ?_; (case hd => rfl); (case hg => rfl); (case hr => first | (go_simp; done) | (go_simp; rfl)); (case hp => exact (Reps.none _ _)); intro v9 w3 ho3 hb3 hg3 _; have HOA := Aside0.mk (Kd.R_lower ho3 (below_size B2.out)); have B3 := Aside0.mk (below_step B2.out hb3); have K3 := Aside0.mk (blk_below K2.out hb3); clear ho3 hb3 hg3)
   | ((with_reducible refine gate_dst (N := 10) rfl ?_); refine wpList_load_row rfl 29 (.tmp 1) rfl ga rfl 29 (dayC ws).toArray (0, 0) _ K3.out Tryd.underlying29 rfl HI.out ?_))
  go_loopg [3, 11] 24 (fun gg v3 v11 w' => ∃ (kk : Nat) (xs : List ByteArray), kk ≤ 24 ∧ 24 - kk ≤ gg ∧ v11 = .int .i64 (kk : Int) ∧ Aside0 (xs = (ws.take kk).map belD) ∧ Aside0 (Kd.R Kd.string 9 w' w.heap.size (fun _ => True) v3 xs) ∧ Aside0 (Below w.heap.size w w'))
  case atStart => exact ⟨0, [], Nat.zero_le _, by omega, rfl, ⟨rfl⟩, HOA, B3⟩
  case round =>
   obtain ⟨kk, xs, hkk, hgg, rfl, HXS, HO, HB⟩ := hrel
   by_cases hlt : kk < 24
   ·have hlti : (kk : Int) < 24 := by omega
    have hlw : kk < ws.length := by rw [HL.out]; exact hlt
    have hidx := day_index ws kk hlw
    obtain ⟨y, hy⟩ : ∃ y, ws[kk] = y := ⟨_, rfl⟩
    have hsy : wokB y = true := by rw [← hy]; exact List.all_eq_true.mp HXX.out ws[kk] (List.getElem_mem hlw)
    rw [hy] at hidx
    have HIX := Aside0.mk hidx
    have HXL := Aside0.mk (show xs.length ≤ 24 by rw [HXS.out, List.length_map, List.length_take]; omega)
    have hblk : (wr.alloc (.cells #[.int .i8 y.f0, .int .i8 y.f1, .int .i8 y.f2] 27)).heap[wr.heap.size]? = some (.cells #[.int .i8 y.f0, .int .i8 y.f1, .int .i8 y.f2] 27 (0, 0)) := blk_new wr _
    have HQ0 := Aside0.mk (show (wr.alloc (.cells #[.int .i8 y.f0, .int .i8 y.f1, .int .i8 y.f2] 27)).cell? ⟨wr.heap.size, 0, none⟩ = some (.int .i8 y.f0) from (blk_cell hblk 0).trans rfl)
    have q0 := HQ0.out
    have HQ1 := Aside0.mk (show (wr.alloc (.cells #[.int .i8 y.f0, .int .i8 y.f1, .int .i8 y.f2] 27)).cell? ⟨wr.heap.size, 1, none⟩ = some (.int .i8 y.f1) from (blk_cell hblk 1).trans rfl)
    have q1 := HQ1.out
    have HQ2 := Aside0.mk (show (wr.alloc (.cells #[.int .i8 y.f0, .int .i8 y.f1, .int .i8 y.f2] 27)).cell? ⟨wr.heap.size, 2, none⟩ = some (.int .i8 y.f2) from (blk_cell hblk 2).trans rfl)
    have q2 := HQ2.out
    have HBX := Aside0.mk (show ∀ u : World, Below (wr.alloc (.cells #[.int .i8 y.f0, .int .i8 y.f1, .int .i8 y.f2] 27)).heap.size (wr.alloc (.cells #[.int .i8 y.f0, .int .i8 y.f1, .int .i8 y.f2] 27)) u → u.heap[wr.heap.size]? = some (.cells #[.int .i8 y.f0, .int .i8 y.f1, .int .i8 y.f2] 27 (0, 0)) from fun u hb => blk_below hblk hb)
    have HS9F := Aside0.mk (show ∀ (C u : World) (v : Value) (xs : List ByteArray), C.grownBy u v.ownBlock → Kd.R Kd.string 9 C w.heap.size (fun _ => True) v xs → Below (wr.alloc (.cells #[.int .i8 y.f0, .int .i8 y.f1, .int .i8 y.f2] 27)).heap.size (wr.alloc (.cells #[.int .i8 y.f0, .int .i8 y.f1, .int .i8 y.f2] 27)) C → (fun w' => w'.cell? ⟨wr.heap.size, 0, none⟩ = some (.int .i8 y.f0) ∧ w'.cell? ⟨wr.heap.size, 1, none⟩ = some (.int .i8 y.f1) ∧ w'.cell? ⟨wr.heap.size, 2, none⟩ = some (.int .i8 y.f2)) u from fun C u v xs hgr hr hb => by
     have hk := HBX.out C hb
     have h := blk_grown hk hgr (Kd.R_ne hr hk (by decide))
     exact ⟨(blk_cell h 0).trans rfl, (blk_cell h 1).trans rfl, (blk_cell h 2).trans rfl⟩)
    obtain ⟨v0, hv0⟩ : ∃ v, v = wrap64 y.f0 := ⟨_, rfl⟩
    obtain ⟨v1, hv1⟩ : ∃ v, v = wrap64 y.f1 := ⟨_, rfl⟩
    obtain ⟨v2, hv2⟩ : ∃ v, v = wrap64 y.f2 := ⟨_, rfl⟩
    have hyb := wok_b hsy
    rw [← hv0, ← hv1, ← hv2] at hyb
    have hw0 : IntKind.i64.wrap y.f0 = v0 := (i64_w _).trans hv0.symm
    have hw1 : IntKind.i64.wrap y.f1 = v1 := (i64_w _).trans hv1.symm
    have hw2 : IntKind.i64.wrap y.f2 = v2 := (i64_w _).trans hv2.symm
    obtain ⟨s0, hs0⟩ : ∃ s : ByteArray, s = ⟨(Lib.decDigits v0.toNat).toArray⟩ := ⟨_, rfl⟩
    have hz0 : s0.size ≤ 20 := by rw [hs0, dec_size]; exact dec_len _ (by omega)
    obtain ⟨s1, hs1⟩ : ∃ s : ByteArray, s = ⟨(Lib.decDigits v1.toNat).toArray⟩ := ⟨_, rfl⟩
    have hz1 : s1.size ≤ 20 := by rw [hs1, dec_size]; exact dec_len _ (by omega)
    obtain ⟨s2, hs2⟩ : ∃ s : ByteArray, s = ⟨(Lib.decDigits v2.toNat).toArray⟩ := ⟨_, rfl⟩
    have hz2 : s2.size ≤ 20 := by rw [hs2, dec_size]; exact dec_len _ (by omega)
    have HD0 := Aside0.mk (show impl_decimal.f v0 = some s0 by unfold impl_decimal.f; rw [if_pos (by omega), hs0])
    have HD1 := Aside0.mk (show impl_decimal.f v1 = some s1 by unfold impl_decimal.f; rw [if_pos (by omega), hs1])
    have HD2 := Aside0.mk (show impl_decimal.f v2 = some s2 by unfold impl_decimal.f; rw [if_pos (by omega), hs2])
    have HEL := Aside0.mk (elD_mk y v0 v1 v2 hv0 hv1 hv2 s0 s1 s2 hs0 hs1 hs2)
    have HY := Aside0.mk hy
    have z0 := nlt (a := s0.size + 1) (by omega)
    have z1 := nlt (a := s0.size + 1 + s1.size) (by omega)
    have z2 := nlt (a := s0.size + 1 + s1.size + 1) (by omega)
    have z3 := nlt (a := s0.size + 1 + s1.size + 1 + s2.size) (by omega)
    have hk0 : (0 : Int) ≤ (kk : Int) := by omega
    have HLT := Aside0.mk hlw
    clear hidx hblk hs0 hs1 hs2 hz0 hz1 hz2 hv0 hv1 hv2 hy hyb hsy
    go_wp2_with (first | ((with_reducible refine gate_dst (N := 13) rfl ?_); refine day_index_event rfl (.tmp 10) (.tmp 11) rfl ws kk y rfl rfl (by omega) HIX.out ?_))
    go_region_held3 (fun w' => w'.cell? ⟨wr.heap.size, 0, none⟩ = some (.int .i8 y.f0) ∧ w'.cell? ⟨wr.heap.size, 1, none⟩ = some (.int .i8 y.f1) ∧ w'.cell? ⟨wr.heap.size, 2, none⟩ = some (.int .i8 y.f2))
     (first | exact HS9 | exact ⟨pw_cell_below (by repeat (first | exact Below.refl _ _ | apply pw_below_drewN | apply below_drew | apply below_alloc | refine below_step ?_ hb1 | refine below_step ?_ hb2 | refine below_step ?_ hb3)) HQ0.out, pw_cell_below (by repeat (first | exact Below.refl _ _ | apply pw_below_drewN | apply below_drew | apply below_alloc | refine below_step ?_ hb1 | refine below_step ?_ hb2 | refine below_step ?_ hb3)) HQ1.out, pw_cell_below (by repeat (first | exact Below.refl _ _ | apply pw_below_drewN | apply below_drew | apply below_alloc | refine below_step ?_ hb1 | refine below_step ?_ hb2 | refine below_step ?_ hb3)) HQ2.out⟩)
     (first
      | (go_at_call_of 11 (Value.int .i64 v0); refine (impl_decimal.calls v0 s0 _ (HT.out.below (by repeat (first | exact HB.out | apply below_alloc | apply pw_below_drewN | apply below_drew1 | refine below_step ?_ hb3 | refine below_step ?_ hb2 | refine below_step ?_ hb1))) HD0.out).mono ?_; rintro e u1 ⟨rfl, hb1⟩; have HO1 := Aside0.mk (Kd.R_below (by (with_reducible repeat (first | apply Kd.R_alloc | apply Kd.R_drewN | apply Kd.R_drew)); exact HO.out) hb1))
      | (go_at_call_of 11 (Value.int .i64 v1); refine (impl_decimal.calls v1 s1 _ (HT.out.below (by repeat (first | exact HB.out | apply below_alloc | apply pw_below_drewN | apply below_drew1 | refine below_step ?_ hb3 | refine below_step ?_ hb2 | refine below_step ?_ hb1))) HD1.out).mono ?_; rintro e u2 ⟨rfl, hb2⟩; have HO2 := Aside0.mk (Kd.R_below (by (with_reducible repeat (first | apply Kd.R_alloc | apply Kd.R_drewN | apply Kd.R_drew)); exact HO1.out) hb2))
      | (go_at_call_of 11 (Value.int .i64 v2); refine (impl_decimal.calls v2 s2 _ (HT.out.below (by repeat (first | exact HB.out | apply below_alloc | apply pw_below_drewN | apply below_drew1 | refine below_step ?_ hb3 | refine below_step ?_ hb2 | refine below_step ?_ hb1))) HD2.out).mono ?_; rintro e u3 ⟨rfl, hb3⟩; have HO3 := Aside0.mk (Kd.R_below (by (with_reducible repeat (first | apply Kd.R_alloc | apply Kd.R_drewN | apply Kd.R_drew)); exact HO2.out) hb3))
      | (refine Kd.R_append_step Kd.string (w0 := w) w.heap.size (by rfl) (.tmp 14) (.tmp 31) 37 9 (.string ⟨#[]⟩) 16 rfl Tryd.underlying37 infoS rfl (by decide) (by omega) _ xs (s0 ++ (⟨#[47]⟩ : ByteArray) ++ s1 ++ (⟨#[47]⟩ : ByteArray) ++ s2) [.string (s0 ++ (⟨#[47]⟩ : ByteArray) ++ s1 ++ (⟨#[47]⟩ : ByteArray) ++ s2)] (fun _ => True) (fun _ => False) rfl rfl ?aP (fun _ hk => hk.elim) ?aF ?aO ?aB ?aS ?aL ?_; (case aP => exact rfl); (case aB => exact (by repeat (first | exact HB.out | apply below_alloc | apply pw_below_drewN | apply below_drew1 | refine below_step ?_ hb3 | refine below_step ?_ hb2 | refine below_step ?_ hb1))); (case aF => exact (fun _ _ => trivial)); (case aO => exact (by (with_reducible repeat (first | apply Kd.R_alloc | apply Kd.R_drewN | apply Kd.R_drew)); exact HO3.out)); (case aS => exact (below_size (by repeat (first | exact HB.out | apply below_alloc | apply pw_below_drewN | apply below_drew1 | refine below_step ?_ hb3 | refine below_step ?_ hb2 | refine below_step ?_ hb1)))); (case aL => have := HXL.out; omega); intro v9 u9 ho hb hgr _; have HS9 := HS9F.out _ _ _ xs hgr (by (with_reducible repeat (first | apply Kd.R_alloc | apply Kd.R_drewN | apply Kd.R_drew)); exact HO3.out) (by repeat (first | exact Below.refl _ _ | apply pw_below_drewN | apply below_drew | apply below_alloc | refine below_step ?_ hb1 | refine below_step ?_ hb2 | refine below_step ?_ hb3)); have HO9 := Aside0.mk ho; have HB9 := Aside0.mk hb; clear ho hb hgr))
    all_goals
     go_wp2
     go_roundg (24 - (kk + 1))
     case measure => omega
     case rel => exact ⟨kk + 1, _, by omega, by omega, by go_num, ⟨by rw [List.take_succ_eq_append_getElem HLT.out, List.map_append, List.map_cons, List.map_nil, HY.out, ← HXS.out]; exact congrArg (fun s => xs ++ [s]) HEL.out⟩, HO9, HB9⟩
   ·have hlti : ¬ (kk : Int) < 24 := by omega
    have hxe : xs = ws.map belD := by rw [HXS.out, List.take_of_length_le (by have := HL.out; omega)]
    have HJ2 := Aside0.mk (show strings_Join.f xs (⟨#[32]⟩ : ByteArray) = some ⟨(textD ws).toArray⟩ by rw [hxe]; exact HJ.out)
    obtain ⟨Ao, co, eo⟩ := Kd.R_slice HO.out
    subst eo
    clear hxe
    go_wp2_with (go_at_call 12; refine (strings_Join.calls Ao co xs (⟨#[32]⟩ : ByteArray) _ _ (Kd.R_reads' HO.out).2.2 (Kd.R_reads' HO.out).2.1 HJ2.out).mono ?_; rintro e w9 ⟨rfl, hb9⟩; have HB9 := Aside0.mk (below_step HB.out hb9); clear hb9)
    go_ret
    exact ⟨rfl, HB9.out⟩
set_option maxHeartbeats 4000000 in
set_option maxRecDepth 100000 in
theorem lawDayText_calls (ws : List S27) (hl : ws.length = 24) (w : World) (hT : TabOK w) :
  Calls Tryd.prog 3 #[.agg (dayC ws).toArray] w fun e w' => e = .returned (.bool true) ∧ Below w.heap.size w w' := by
 have HI := Aside0.mk (show (Tryd.prog.info? 25).map (·.size) = some (dayC ws).toArray.size from by rw [dayC_size ws hl]; kernel_rfl)
 have HS := Aside0.mk (fun W => specDayText_calls ws hl W)
 have HM := Aside0.mk (fun W hW => implDayText_calls ws hl W hW)
 have HT := Aside0.mk (fun W => toDay_calls ws hl W)
 have HTab := Aside0.mk hT
 obtain ⟨x, hx⟩ : ∃ x, dayR ws = x := ⟨_, rfl⟩
 rw [hx] at HS HM
 clear hx hl hT
 go_enter Tryd.func3, Tryd.ntmps3
 go_wp2_with (first
  | ((with_reducible refine gate_dst (N := 1) rfl ?_); refine box_event ?hg (N := 1) ?hd (cs := (dayC ws).toArray) (t := 25) ?hr ?_; (case hd => rfl); (case hg => rfl); (case hr => first | (go_simp; done) | (go_simp; rfl)); intro ga hga w1 h1 hb1; have B1 := Aside0.mk hb1; have K1 := Aside0.mk h1; clear hga h1 hb1)
  | ((with_reducible refine gate_dst (N := 5) rfl ?_); refine wpList_load_row rfl 25 (.tmp 1) rfl ga rfl 25 (dayC ws).toArray (0, 0) _ K1.out Tryd.underlying25 rfl HI.out ?_)
  | (go_at_call 4; refine (HS.out _).mono ?_; rintro e w3 ⟨rfl, hb3⟩; have B3 := Aside0.mk (below_step B2.out hb3); have K3 := Aside0.mk (blk_below K2.out hb3); clear hb3)
  | ((with_reducible refine gate_dst (N := 8) rfl ?_); refine wpList_load_row rfl 25 (.tmp 1) rfl ga rfl 25 (dayC ws).toArray (0, 0) _ K3.out Tryd.underlying25 rfl HI.out ?_)
  | (go_at_call 5; refine (HT.out _).mono ?_; rintro e w4 ⟨rfl, hb4⟩; (first | have B4 := Aside0.mk (below_step B3.out hb4) | (have B2 := Aside0.mk (below_step B1.out hb4); have K2 := Aside0.mk (blk_below K1.out hb4))); clear hb4)
  | (go_at_call 6; refine (HM.out _ (HTab.out.below B4.out)).mono ?_; rintro e w5 ⟨rfl, hb5⟩; have B5 := Aside0.mk (below_step B4.out hb5); clear hb5))
 go_ret
 exact ⟨by first | rfl | simp, B5.out⟩
end Go.Proofs.YtanalckdmamepaaDoor.Dx
