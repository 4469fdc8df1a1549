/- The plain law of FnExactCostOf. -/
import Derived.Test.YthodfhcaaidnmaaCo8
import Derived.OpenShut
namespace Go.Proofs.Ythodfhcaaidnmaa.Pure
set_option linter.unusedSimpArgs false
set_option linter.unusedVariables false
open Go.RowKit Go.Proofs.Ythodfhcaaidnmaa.Co Go.Proofs.YthodfhcaaidnmaaW.PrintWords Go.Proofs.YthodfhcaaidnmaaW.PrintLast Go.Proofs.YthodfhcaaidnmaaW.PrintMore
theorem rdm (pre : List S37) (c : S37) (cs : List S37) : rd_T37 (pre ++ c :: cs) (pre.length : Int) = c := by simp [rd_T37, List.getD_eq_getElem?_getD]
theorem rdim (pre : List Int) (c : Int) (cs : List Int) : rd (pre ++ c :: cs) (pre.length : Int) = c := by simp [rd, List.getD_eq_getElem?_getD]
theorem wsuc {i n : Nat} (h : i < n) (hn : n ≤ 1048576) : wrap64 ((i : Int) + 1) = ((i + 1 : Nat) : Int) := by unfold wrap64; omega
theorem l00In_eq (a b c : Int) : spec_l00In.f a b c = some (decide (b ≤ a ∧ a ≤ c)) := by
  unfold spec_l00In.f
  by_cases h : b ≤ a
  · rw [if_pos (show a ≥ b from h)]; simp [h]
  · rw [if_neg (show ¬ a ≥ b from h)]; simp [h]
theorem within_eq (a b c : Int) : impl_within.f a b c = some (decide (b ≤ a ∧ a ≤ c)) := l00In_eq a b c
theorem unless_eq (b : Bool) (c : Int) : impl_unless.f b c = some (if b = true then 0 else c) := by
  unfold impl_unless.f
  cases b <;> rfl
def firstL : List Int → Int
  | [] => 0
  | c :: cs => if c = 0 then firstL cs else c
theorem firstOf_l0 (l : List Int) (hl : l.length ≤ 1048576) : ∀ (cs pre : List Int), l = pre ++ cs → Ev (fun k => impl_firstOf.l0 k l (l.length : Int) (pre.length : Int)) (firstL cs) := by
  intro cs
  induction cs with
  | nil =>
    intro pre hpre
    refine Ev.step (fun k => by rw [impl_firstOf.l0]) ?_
    have : l.length = pre.length := by rw [hpre]; simp
    simp only [show ¬ (pre.length : Int) < (l.length : Int) by omega, ↓reduceIte]
    exact Ev.now _
  | cons c cs ih =>
    intro pre hpre
    have hlen : l.length = pre.length + cs.length + 1 := by rw [hpre]; simp; omega
    have hc : rd l (pre.length : Int) = c := by rw [hpre]; exact rdim pre c cs
    have hnext := ih (pre ++ [c]) (by rw [hpre]; simp)
    simp only [List.length_append, List.length_cons, List.length_nil, Nat.zero_add] at hnext
    refine Ev.step (fun k => by rw [impl_firstOf.l0]) ?_
    simp only [show (pre.length : Int) < (l.length : Int) by omega, show (0 : Int) ≤ (pre.length : Int) by omega, ↓reduceIte, hc, wsuc (show pre.length < l.length by omega) hl]
    rw [firstL]
    by_cases h0 : c = 0
    · simp only [h0, ↓reduceIte]
      exact hnext
    · simp only [h0, ↓reduceIte]
      exact Ev.now _
theorem firstOf_ev (l : List Int) (hl : l.length ≤ 1048576) : Ev (fun k => impl_firstOf.f k l) (firstL l) := by
  unfold impl_firstOf.f
  exact firstOf_l0 l hl l [] rfl
def toS (l : List S32) : List S37 := l.map fun x => ⟨x.f0, x.f1, x.f2, x.f3⟩
theorem toS_len (l : List S32) : (toS l).length = l.length := by simp [toS]
theorem rdL_mid (pre : List S32) (c : S32) (cs : List S32) : rd_T32 (pre ++ c :: cs) (pre.length : Int) = c := by simp [rd_T32, List.getD_eq_getElem?_getD]
theorem toGarmentS_l0 (l : List S32) (hl : l.length ≤ 1048576) : ∀ (cs pre : List S32), l = pre ++ cs →
    Ev (fun k => laws_toGarmentS.l0 k l (toS pre ++ List.replicate cs.length z37) (pre.length : Int)) (toS l) := by
  intro cs
  induction cs with
  | nil =>
    intro pre hpre
    refine Ev.step (fun k => by rw [laws_toGarmentS.l0]) ?_
    have : l.length = pre.length := by rw [hpre]; simp
    simp only [show ¬ (pre.length : Int) < (l.length : Int) by omega, ↓reduceIte]
    rw [show l = pre by rw [hpre]; simp]
    simp only [List.length_nil, List.replicate_zero, List.append_nil]
    exact Ev.now _
  | cons c cs ih =>
    intro pre hpre
    have hlen : l.length = pre.length + cs.length + 1 := by rw [hpre]; simp; omega
    have hc : rd_T32 l (pre.length : Int) = c := by rw [hpre]; exact rdL_mid pre c cs
    have hnext := ih (pre ++ [c]) (by rw [hpre]; simp)
    simp only [List.length_append, List.length_cons, List.length_nil, Nat.zero_add] at hnext
    have hx : (pre.length : Int) < ((toS pre ++ List.replicate (cs.length + 1) z37).length : Int) := by simp [toS]; omega
    have hset : (toS pre ++ List.replicate (cs.length + 1) z37).set (pre.length : Int).toNat (⟨c.f0, c.f1, c.f2, c.f3⟩ : S37) = toS (pre ++ [c]) ++ List.replicate cs.length z37 := by
      rw [Int.toNat_natCast, List.set_append_right _ _ (by simp [toS]), toS_len, Nat.sub_self, List.replicate_succ, List.set_cons_zero]
      simp [toS]
    refine Ev.step (fun k => by rw [laws_toGarmentS.l0]) ?_
    simp only [List.length_cons, show (pre.length : Int) < (l.length : Int) by omega, show (0 : Int) ≤ (pre.length : Int) by omega, ↓reduceIte, hc, laws_toGarment.f, Option.bind_some, hx, hset, wsuc (show pre.length < l.length by omega) hl]
    exact hnext
theorem toGarmentS_ev (l : List S32) (hl : l.length ≤ 1048576) : Ev (fun k => laws_toGarmentS.f k l) (toS l) := by
  have := toGarmentS_l0 l hl l [] rfl
  unfold laws_toGarmentS.f
  simp only [show (0 : Int) ≤ (l.length : Int) by omega, Int.toNat_natCast, show l.length ≤ 46912496118442 by omega, ↓reduceIte]
  exact this
theorem eqGarmentS_l0 (l : List S37) (hl : l.length ≤ 1048576) : ∀ (cs pre : List S37), l = pre ++ cs → Ev (fun k => laws_eqGarmentS.l0 k l l (pre.length : Int)) true := by
  intro cs
  induction cs with
  | nil =>
    intro pre hpre
    refine Ev.step (fun k => by rw [laws_eqGarmentS.l0]) ?_
    have : l.length = pre.length := by rw [hpre]; simp
    simp only [show ¬ (pre.length : Int) < (l.length : Int) by omega, ↓reduceIte]
    exact Ev.now _
  | cons c cs ih =>
    intro pre hpre
    have hlen : l.length = pre.length + cs.length + 1 := by rw [hpre]; simp; omega
    have hnext := ih (pre ++ [c]) (by rw [hpre]; simp)
    simp only [List.length_append, List.length_cons, List.length_nil, Nat.zero_add] at hnext
    refine Ev.step (fun k => by rw [laws_eqGarmentS.l0]) ?_
    simp only [show (pre.length : Int) < (l.length : Int) by omega, show (0 : Int) ≤ (pre.length : Int) by omega, ↓reduceIte, laws_eqGarment.f, Option.bind_some, wsuc (show pre.length < l.length by omega) hl]
    exact hnext
theorem eqGarmentS_ev (l : List S37) (hl : l.length ≤ 1048576) : Ev (fun k => laws_eqGarmentS.f k l l) true := by
  unfold laws_eqGarmentS.f
  simp only [↓reduceIte]
  exact eqGarmentS_l0 l hl l [] rfl
theorem szGarmentS_eq (l : List S32) (a : Int) (h0 : 0 ≤ a) (h1 : a ≤ 1048576) (hl : l.length ≤ 9223372036854775807) : laws_szGarmentS.f l a = some (if (l.length : Int) ≤ a then a - (l.length : Int) else -1) := by
  unfold laws_szGarmentS.f
  have e : wrap64 (a - (l.length : Int)) = a - (l.length : Int) := by unfold wrap64; omega
  rw [e]
  by_cases h : (l.length : Int) ≤ a
  · rw [if_neg (by omega), if_pos h]
  · rw [if_pos (by omega), if_neg h]
theorem toS_small {l : List S32} (w : ∀ x ∈ l, (Lit.int .u8 x.f0).wf = true ∧ (Lit.int .i8 x.f1).wf = true ∧ (Lit.int .i8 x.f2).wf = true ∧ (Lit.int .i16 x.f3).wf = true) : (toS l).all gsm = true := by
  rw [List.all_eq_true]
  intro x hx
  obtain ⟨y, hy, rfl⟩ := List.mem_map.mp hx
  have h0 := bounds_u8 (w y hy).1
  have h1 := bounds_i8 (w y hy).2.1
  have h2 := bounds_i8 (w y hy).2.2.1
  have h3 := bounds_i16 (w y hy).2.2.2
  exact decide_eq_true ⟨h0.1, h0.2, h1.1, h1.2, h2.1, h2.2, h3.1, h3.2⟩
theorem toInt64S_l0 (l : List Int) (hl : l.length ≤ 1048576) : ∀ (cs pre : List Int), l = pre ++ cs →
    Ev (fun k => laws_toInt64S.l0 k l (pre ++ List.replicate cs.length 0) (pre.length : Int)) l := by
  intro cs
  induction cs with
  | nil =>
    intro pre hpre
    refine Ev.step (fun k => by rw [laws_toInt64S.l0]) ?_
    have : l.length = pre.length := by rw [hpre]; simp
    simp only [show ¬ (pre.length : Int) < (l.length : Int) by omega, ↓reduceIte, List.length_nil, List.replicate_zero, List.append_nil]
    rw [show l = pre by rw [hpre]; simp]
    exact Ev.now _
  | cons c cs ih =>
    intro pre hpre
    have hlen : l.length = pre.length + cs.length + 1 := by rw [hpre]; simp; omega
    have hc : rd l (pre.length : Int) = c := by rw [hpre]; exact rdim pre c cs
    have hnext := ih (pre ++ [c]) (by rw [hpre]; simp)
    simp only [List.length_append, List.length_cons, List.length_nil, Nat.zero_add] at hnext
    have hx : (pre.length : Int) < ((pre ++ List.replicate (cs.length + 1) (0 : Int)).length : Int) := by simp; omega
    have hset : (pre ++ List.replicate (cs.length + 1) (0 : Int)).set (pre.length : Int).toNat c = pre ++ [c] ++ List.replicate cs.length 0 := by
      rw [Int.toNat_natCast, List.set_append_right _ _ (Nat.le_refl _), Nat.sub_self, List.replicate_succ, List.set_cons_zero]
      simp
    refine Ev.step (fun k => by rw [laws_toInt64S.l0]) ?_
    simp only [List.length_cons, show (pre.length : Int) < (l.length : Int) by omega, show (0 : Int) ≤ (pre.length : Int) by omega, ↓reduceIte, hc, hx, hset, wsuc (show pre.length < l.length by omega) hl]
    exact hnext
theorem toInt64S_ev (l : List Int) (hl : l.length ≤ 1048576) : Ev (fun k => laws_toInt64S.f k l) l := by
  have := toInt64S_l0 l hl l [] rfl
  unfold laws_toInt64S.f
  simp only [show (0 : Int) ≤ (l.length : Int) by omega, Int.toNat_natCast, show l.length ≤ 35184372088832 by omega, ↓reduceIte]
  exact this
theorem eqInt64S_l0 (l : List Int) (hl : l.length ≤ 1048576) : ∀ (cs pre : List Int), l = pre ++ cs → Ev (fun k => laws_eqInt64S.l0 k l l (pre.length : Int)) true := by
  intro cs
  induction cs with
  | nil =>
    intro pre hpre
    refine Ev.step (fun k => by rw [laws_eqInt64S.l0]) ?_
    have : l.length = pre.length := by rw [hpre]; simp
    simp only [show ¬ (pre.length : Int) < (l.length : Int) by omega, ↓reduceIte]
    exact Ev.now _
  | cons c cs ih =>
    intro pre hpre
    have hlen : l.length = pre.length + cs.length + 1 := by rw [hpre]; simp; omega
    have hnext := ih (pre ++ [c]) (by rw [hpre]; simp)
    simp only [List.length_append, List.length_cons, List.length_nil, Nat.zero_add] at hnext
    refine Ev.step (fun k => by rw [laws_eqInt64S.l0]) ?_
    simp only [show (pre.length : Int) < (l.length : Int) by omega, show (0 : Int) ≤ (pre.length : Int) by omega, ↓reduceIte, wsuc (show pre.length < l.length by omega) hl]
    exact hnext
theorem eqInt64S_ev (l : List Int) (hl : l.length ≤ 1048576) : Ev (fun k => laws_eqInt64S.f k l l) true := by
  unfold laws_eqInt64S.f
  simp only [↓reduceIte]
  exact eqInt64S_l0 l hl l [] rfl
def bit (rs : List Int) (a b : Int) : Bool := (Go.bits .and .u8 (shr .u8 (rd rs a) b) 1) == 1
theorem l01Bit_eq (rs : List Int) (a b : Int) (h0 : 0 ≤ b) (h1 : b < 6) : spec_l01Bit.f (rd rs a) b = some (bit rs a b) := by
  have e : IntKind.u64.wrap b = b := by rw [IntKind.wrap_u64]; omega
  unfold spec_l01Bit.f bit
  rw [e, if_pos h0]
def inn (rs : List Int) (a : Int) : Nat → Bool
  | 0 => true
  | d + 1 => (bit rs a (6 - ((d + 1 : Nat) : Int)) == bit rs (6 - ((d + 1 : Nat) : Int)) a) && inn rs a d
def out (rs : List Int) : Nat → Bool
  | 0 => true
  | d + 1 => (!decide (64 ≤ rd rs (6 - ((d + 1 : Nat) : Int))) && bit rs (6 - ((d + 1 : Nat) : Int)) (6 - ((d + 1 : Nat) : Int)) && inn rs (6 - ((d + 1 : Nat) : Int)) 6) && out rs d
section
variable (a0 a1 a2 a3 a4 a5 : Int)
theorem wrap_small {i : Int} (h0 : 0 ≤ i) (h : i < 6) : wrap64 (i + 1) = i + 1 := by unfold wrap64; omega
theorem spec_l1 (a : Int) (h0 : 0 ≤ a) (h6 : a < 6) (R : Bool) (hR : Ev (fun k => spec_l01Rules.l0 k (a + 1) a0 a1 a2 a3 a4 a5) R) : ∀ (d : Nat) (b : Int), d ≤ 6 → b = 6 - d →
    Ev (fun k => spec_l01Rules.l1 k a b a0 a1 a2 a3 a4 a5) (inn [a0, a1, a2, a3, a4, a5] a d && R) := by
  intro d
  induction d with
  | zero =>
    intro b _ hb
    refine Ev.step (fun k => by rw [spec_l01Rules.l1]) ?_
    simp only [show ¬ b < 6 by omega, ↓reduceIte, wrap_small h0 h6]
    exact hR
  | succ d ih =>
    intro b hd hb
    refine Ev.step (fun k => by rw [spec_l01Rules.l1]) ?_
    have hb0 : 0 ≤ b := by omega
    have hb6 : b < 6 := by omega
    simp only [hb6, h0, h6, hb0, ↓reduceIte, l01Bit_eq _ _ _ hb0 hb6, l01Bit_eq _ _ _ h0 h6, Option.bind_some, wrap_small hb0 hb6]
    rw [inn, ← hb]
    by_cases he : bit [a0, a1, a2, a3, a4, a5] a b = bit [a0, a1, a2, a3, a4, a5] b a
    · simp only [he, bne_self_eq_false, Bool.false_eq_true, ↓reduceIte, beq_self_eq_true, Bool.true_and]
      exact ih (b + 1) (by omega) (by omega)
    · simp only [bne_iff_ne.mpr he, ↓reduceIte, beq_eq_false_iff_ne.mpr he, Bool.false_and]
      exact Ev.now false
theorem spec_l0 : ∀ (d : Nat) (a : Int), d ≤ 6 → a = 6 - d → Ev (fun k => spec_l01Rules.l0 k a a0 a1 a2 a3 a4 a5) (out [a0, a1, a2, a3, a4, a5] d) := by
  intro d
  induction d with
  | zero =>
    intro a _ ha
    refine Ev.step (fun k => by rw [spec_l01Rules.l0]) ?_
    simp only [show ¬ a < 6 by omega, ↓reduceIte]
    exact Ev.now true
  | succ d ih =>
    intro a hd ha
    have h0 : 0 ≤ a := by omega
    have h6 : a < 6 := by omega
    refine Ev.step (fun k => by rw [spec_l01Rules.l0]) ?_
    simp only [h6, h0, ↓reduceIte, l01Bit_eq _ _ _ h0 h6, Option.bind_some]
    rw [out, ← ha]
    by_cases h64 : rd [a0, a1, a2, a3, a4, a5] a ≥ 64
    · simp only [h64, ↓reduceIte, decide_true, Bool.not_true, Bool.false_and]
      refine Ev.step (fun k => by rw [spec_l01Rules.j1]) ?_
      simp only [↓reduceIte]
      exact Ev.now false
    · simp only [h64, ↓reduceIte, decide_false, Bool.not_false, Bool.true_and]
      refine Ev.step (fun k => by rw [spec_l01Rules.j1]) ?_
      cases hb : bit [a0, a1, a2, a3, a4, a5] a a with
      | false => exact Ev.now false
      | true =>
        simp only [Bool.not_true, Bool.false_eq_true, ↓reduceIte, Bool.not_false, Bool.true_and]
        exact spec_l1 a0 a1 a2 a3 a4 a5 a h0 h6 _ (ih (a + 1) (by omega) (by omega)) 6 0 (by omega) (by omega)

theorem may_eq (a b : Int) (h0 : 0 ≤ a) (h6 : a < 6) (hb : 0 ≤ b) : impl_Rules_may.f a0 a1 a2 a3 a4 a5 a b = some (bit [a0, a1, a2, a3, a4, a5] a b) := by
  unfold impl_Rules_may.f
  rw [if_pos ⟨h0, h6, hb⟩]
  rfl
/-- The program's own order: below the diagonal alone. -/
def innI (rs : List Int) (a : Int) : Nat → Bool
  | 0 => true
  | d + 1 => (bit rs a (a - ((d + 1 : Nat) : Int)) == bit rs (a - ((d + 1 : Nat) : Int)) a) && innI rs a d
def outI (rs : List Int) : Nat → Bool
  | 0 => true
  | d + 1 => (!decide (64 ≤ rd rs (6 - ((d + 1 : Nat) : Int))) && bit rs (6 - ((d + 1 : Nat) : Int)) (6 - ((d + 1 : Nat) : Int)) && innI rs (6 - ((d + 1 : Nat) : Int)) (5 - d)) && outI rs d
theorem impl_l1 (a : Int) (h0 : 0 ≤ a) (h6 : a < 6) (R : Bool) (hR : Ev (fun k => impl_ValidRules.l0 k (a + 1) a0 a1 a2 a3 a4 a5) R) : ∀ (d : Nat) (b : Int), (d : Int) ≤ a → b = a - d →
    Ev (fun k => impl_ValidRules.l1 k a a a b a0 a1 a2 a3 a4 a5) (innI [a0, a1, a2, a3, a4, a5] a d && R) := by
  intro d
  induction d with
  | zero =>
    intro b _ hb
    refine Ev.step (fun k => by rw [impl_ValidRules.l1]) ?_
    simp only [show ¬ b < a by omega, ↓reduceIte, show (a + 1) % 256 = a + 1 by omega]
    exact hR
  | succ d ih =>
    intro b hd hb
    refine Ev.step (fun k => by rw [impl_ValidRules.l1]) ?_
    have hb0 : 0 ≤ b := by omega
    have hb6 : b < 6 := by omega
    simp only [show b < a by omega, ↓reduceIte, may_eq _ _ _ _ _ _ a b h0 h6 hb0, may_eq _ _ _ _ _ _ b a hb0 hb6 h0, Option.bind_some, show (b + 1) % 256 = b + 1 by omega]
    rw [innI, ← hb]
    by_cases he : bit [a0, a1, a2, a3, a4, a5] a b = bit [a0, a1, a2, a3, a4, a5] b a
    · simp only [he, bne_self_eq_false, Bool.false_eq_true, ↓reduceIte, beq_self_eq_true, Bool.true_and]
      exact ih (b + 1) (by omega) (by omega)
    · simp only [bne_iff_ne.mpr he, ↓reduceIte, beq_eq_false_iff_ne.mpr he, Bool.false_and]
      exact Ev.now false
theorem impl_l0 (hn : ∀ a : Int, 0 ≤ a → a < 6 → 0 ≤ rd [a0, a1, a2, a3, a4, a5] a) : ∀ (d : Nat) (a : Int), d ≤ 6 → a = 6 - d → Ev (fun k => impl_ValidRules.l0 k a a0 a1 a2 a3 a4 a5) (outI [a0, a1, a2, a3, a4, a5] d) := by
  intro d
  induction d with
  | zero =>
    intro a _ ha
    refine Ev.step (fun k => by rw [impl_ValidRules.l0]) ?_
    simp only [show ¬ a < 6 by omega, ↓reduceIte]
    exact Ev.now true
  | succ d ih =>
    intro a hd ha
    have h0 : 0 ≤ a := by omega
    have h6 : a < 6 := by omega
    refine Ev.step (fun k => by rw [impl_ValidRules.l0]) ?_
    simp only [h6, h0, ↓reduceIte, may_eq _ _ _ _ _ _ a a h0 h6 h0, Option.bind_some]
    rw [outI, ← ha]
    have hz : 0 ≤ rd [a0, a1, a2, a3, a4, a5] a := hn a h0 h6
    by_cases h64 : rd [a0, a1, a2, a3, a4, a5] a / 64 = 0
    · simp only [h64, ↓reduceIte, show ¬ 64 ≤ rd [a0, a1, a2, a3, a4, a5] a by omega, decide_false, Bool.not_false, Bool.true_and]
      refine Ev.step (fun k => by rw [impl_ValidRules.j1]) ?_
      cases hb : bit [a0, a1, a2, a3, a4, a5] a a with
      | false => exact Ev.now false
      | true =>
        simp only [Bool.not_true, Bool.false_eq_true, ↓reduceIte, Bool.true_and]
        exact impl_l1 a0 a1 a2 a3 a4 a5 a h0 h6 _ (ih (a + 1) (by omega) (by omega)) (5 - d) 0 (by omega) (by omega)
    · simp only [h64, ↓reduceIte, show 64 ≤ rd [a0, a1, a2, a3, a4, a5] a by omega, decide_true, Bool.not_true, Bool.false_and]
      refine Ev.step (fun k => by rw [impl_ValidRules.j1]) ?_
      simp only [↓reduceIte]
      exact Ev.now false
end
theorem inn_iff (rs : List Int) (a : Int) : ∀ d : Nat, inn rs a d = true ↔ ∀ b : Int, 6 - d ≤ b → b < 6 → bit rs a b = bit rs b a
  | 0 => by simp only [inn, true_iff]; intro b h1 h2; omega
  | d + 1 => by
    rw [inn, Bool.and_eq_true, beq_iff_eq, inn_iff rs a d]
    refine ⟨fun ⟨h, k⟩ b h1 h2 => ?_, fun h => ⟨h _ (Int.le_refl _) (by omega), fun b h1 h2 => h b (by omega) h2⟩⟩
    by_cases e : b = 6 - ((d + 1 : Nat) : Int)
    · rw [e]; exact h
    · exact k b (by omega) h2
theorem out_iff (rs : List Int) : ∀ d : Nat, out rs d = true ↔ ∀ a : Int, 6 - d ≤ a → a < 6 → ¬ 64 ≤ rd rs a ∧ bit rs a a = true ∧ inn rs a 6 = true
  | 0 => by simp only [out, true_iff]; intro b h1 h2; omega
  | d + 1 => by
    rw [out, Bool.and_eq_true, out_iff rs d]
    simp only [Bool.and_eq_true, Bool.not_eq_true', decide_eq_false_iff_not]
    refine ⟨fun ⟨⟨⟨h, k⟩, l⟩, m⟩ b h1 h2 => ?_, fun h => ?_⟩
    · by_cases e : b = 6 - ((d + 1 : Nat) : Int)
      · rw [e]; exact ⟨h, k, l⟩
      · exact m b (by omega) h2
    · obtain ⟨x, y, z⟩ := h _ (Int.le_refl _) (by omega)
      exact ⟨⟨⟨x, y⟩, z⟩, fun b h1 h2 => h b (by omega) h2⟩
theorem innI_iff (rs : List Int) (a : Int) : ∀ d : Nat, innI rs a d = true ↔ ∀ b : Int, a - d ≤ b → b < a → bit rs a b = bit rs b a
  | 0 => by simp only [innI, true_iff]; intro b h1 h2; omega
  | d + 1 => by
    rw [innI, Bool.and_eq_true, beq_iff_eq, innI_iff rs a d]
    refine ⟨fun ⟨h, k⟩ b h1 h2 => ?_, fun h => ⟨h _ (Int.le_refl _) (by omega), fun b h1 h2 => h b (by omega) h2⟩⟩
    by_cases e : b = a - ((d + 1 : Nat) : Int)
    · rw [e]; exact h
    · exact k b (by omega) h2
theorem outI_iff (rs : List Int) : ∀ d : Nat, d ≤ 6 → (outI rs d = true ↔ ∀ a : Int, 6 - d ≤ a → a < 6 → ¬ 64 ≤ rd rs a ∧ bit rs a a = true ∧ ∀ b : Int, 0 ≤ b → b < a → bit rs a b = bit rs b a)
  | 0, _ => by simp only [outI, true_iff]; intro b h1 h2; omega
  | d + 1, hd => by
    rw [outI, Bool.and_eq_true, outI_iff rs d (by omega)]
    simp only [Bool.and_eq_true, Bool.not_eq_true', decide_eq_false_iff_not, innI_iff]
    refine ⟨fun ⟨⟨⟨h, k⟩, l⟩, m⟩ b h1 h2 => ?_, fun h => ?_⟩
    · by_cases e : b = 6 - ((d + 1 : Nat) : Int)
      · rw [e]; exact ⟨h, k, fun c h3 h4 => l c (by omega) h4⟩
      · exact m b (by omega) h2
    · obtain ⟨x, y, z⟩ := h _ (Int.le_refl _) (by omega)
      exact ⟨⟨⟨x, y⟩, fun c h3 h4 => z c (by omega) h4⟩, fun b h1 h2 => h b (by omega) h2⟩
theorem outs (rs : List Int) : outI rs 6 = out rs 6 := by
  rw [Bool.eq_iff_iff, out_iff, outI_iff rs 6 (Nat.le_refl _)]
  simp only [inn_iff]
  refine ⟨fun h a h1 h2 => ?_, fun h a h1 h2 => ?_⟩
  · obtain ⟨x, y, z⟩ := h a h1 h2
    refine ⟨x, y, fun b h3 h4 => ?_⟩
    rcases Int.lt_trichotomy a b with hlt | rfl | hgt
    · exact ((h b (by omega) h4).2.2 a (by omega) hlt).symm
    · rfl
    · exact z b (by omega) hgt
  · obtain ⟨x, y, z⟩ := h a h1 h2
    exact ⟨x, y, fun b h3 h4 => z b (by omega) (by omega)⟩
def rsOk (rs : List Int) : Bool := out rs 6
def rsWf (rs : List Int) : Prop := ∀ a : Int, 0 ≤ a → a < 6 → 0 ≤ rd rs a ∧ rd rs a ≤ 255
theorem rsWf_of (a0 a1 a2 a3 a4 a5 : Int) (w0 : (Lit.int .u8 a0).wf = true) (w1 : (Lit.int .u8 a1).wf = true) (w2 : (Lit.int .u8 a2).wf = true) (w3 : (Lit.int .u8 a3).wf = true) (w4 : (Lit.int .u8 a4).wf = true) (w5 : (Lit.int .u8 a5).wf = true) : rsWf [a0, a1, a2, a3, a4, a5] := by
  have b0 := bounds_u8 w0
  have b1 := bounds_u8 w1
  have b2 := bounds_u8 w2
  have b3 := bounds_u8 w3
  have b4 := bounds_u8 w4
  have b5 := bounds_u8 w5
  intro a h0 h6
  have : a = 0 ∨ a = 1 ∨ a = 2 ∨ a = 3 ∨ a = 4 ∨ a = 5 := by omega
  rcases this with rfl | rfl | rfl | rfl | rfl | rfl <;> simp [rd] <;> omega
theorem rules_spec (a0 a1 a2 a3 a4 a5 : Int) : Ev (fun k => spec_l01Rules.f k a0 a1 a2 a3 a4 a5) (rsOk [a0, a1, a2, a3, a4, a5]) := by
  unfold spec_l01Rules.f
  exact spec_l0 a0 a1 a2 a3 a4 a5 6 0 (Nat.le_refl _) (by omega)
theorem rules_impl (a0 a1 a2 a3 a4 a5 : Int) (h : rsWf [a0, a1, a2, a3, a4, a5]) : Ev (fun k => impl_ValidRules.f k a0 a1 a2 a3 a4 a5) (rsOk [a0, a1, a2, a3, a4, a5]) := by
  have hi := impl_l0 a0 a1 a2 a3 a4 a5 (fun a h0 h6 => (h a h0 h6).1) 6 0 (Nat.le_refl _) (by omega)
  rw [outs] at hi
  unfold impl_ValidRules.f
  exact hi
theorem garment_eq (x : S37) (h : gsm x = true) : spec_l01Garment.f x.f0 x.f1 x.f2 x.f3 = some (gok x) := by
  obtain ⟨h0, h0', h1, h1', h2, h2', h3, h3'⟩ := of_decide_eq_true h
  have e3 : wrap64 x.f3 = x.f3 := by unfold wrap64; omega
  unfold spec_l01Garment.f gok
  rw [l00In_eq, e3]
  by_cases q0 : x.f0 < 6 <;> by_cases q1 : 0 ≤ x.f1 <;> by_cases q1' : x.f1 ≤ x.f2 <;> by_cases q2 : x.f2 ≤ 95 <;> by_cases q3 : 1 ≤ x.f3 ∧ x.f3 ≤ 2000 <;> simp [q0, q1, q1', q2, q3]
theorem gars_eq (l : List S37) (h : l.all gsm = true) : impl_areGarments.f l = some (if l.all gok = true then 0 else 1) := by
  unfold impl_areGarments.f
  rw [if_pos h]
theorem gok_col {x : S37} (h : gok x = true) (hs : gsm x = true) : 0 ≤ x.f0 ∧ x.f0 < 6 := by
  obtain ⟨h0, h0', h1, h1', h2, h2', h3, h3'⟩ := of_decide_eq_true hs
  unfold gok at h
  simp only [Bool.and_eq_true, decide_eq_true_eq] at h
  exact ⟨h0, h.1⟩
def metS (rs : List Int) (x y : S37) : Bool := bit rs x.f0 y.f0 && decide (mx x.f1 y.f1 ≤ mn x.f2 y.f2)
theorem impl_meet_eq (a0 a1 a2 a3 a4 a5 : Int) (x y : S37) (hx : 0 ≤ x.f0 ∧ x.f0 < 6) (hy : 0 ≤ y.f0) : impl_Rules_meet.f a0 a1 a2 a3 a4 a5 x.f0 x.f1 x.f2 x.f3 y.f0 y.f1 y.f2 y.f3 = some (metS [a0, a1, a2, a3, a4, a5] x y) := by
  unfold impl_Rules_meet.f metS
  rw [may_eq _ _ _ _ _ _ _ _ hx.1 hx.2 hy]
  cases bit [a0, a1, a2, a3, a4, a5] x.f0 y.f0 <;> simp
theorem spec_meet_eq (a0 a1 a2 a3 a4 a5 : Int) (x y : S37) (sx : gsm x = true) (sy : gsm y = true) (gx : gok x = true) (gy : gok y = true) : spec_l01Meet.f a0 a1 a2 a3 a4 a5 x.f0 x.f1 x.f2 x.f3 y.f0 y.f1 y.f2 y.f3 = some (metS [a0, a1, a2, a3, a4, a5] x y) := by
  have hx := gok_col gx sx
  have hy := gok_col gy sy
  have e : wrap64 y.f0 = y.f0 := by unfold wrap64; omega
  unfold spec_l01Meet.f metS
  rw [if_pos hx.1, if_pos hx.2, e, l01Bit_eq _ _ _ hy.1 hy.2]
  unfold gok at gx gy
  simp only [Bool.and_eq_true, decide_eq_true_eq] at gx gy
  cases bit [a0, a1, a2, a3, a4, a5] x.f0 y.f0 with
  | false => simp
  | true =>
    simp only [Option.bind_some, ↓reduceIte, Bool.true_and]
    have hm : mx x.f1 y.f1 ≤ mn x.f2 y.f2 ↔ x.f1 ≤ y.f2 ∧ y.f1 ≤ x.f2 := by
      unfold mx mn
      split <;> split <;> omega
    by_cases h1 : x.f1 ≤ y.f2 <;> by_cases h2 : y.f1 ≤ x.f2 <;> simp [hm, h1, h2]
theorem areRules_ev (a0 a1 a2 a3 a4 a5 : Int) (h : rsWf [a0, a1, a2, a3, a4, a5]) : Ev (fun k => impl_areRules.f k a0 a1 a2 a3 a4 a5) (if rsOk [a0, a1, a2, a3, a4, a5] = true then 0 else 1) := by
  unfold impl_areRules.f
  refine Ev.bind (rules_impl a0 a1 a2 a3 a4 a5 h) ?_
  simp only [unless_eq, Option.bind_some]
  exact Ev.now _
def allC (l : List S37) (fine : Bool) : Int := if l.all gok = true then (if fine = true then (if (l.length : Int) ≤ 8 then 0 else 3) else 2) else 1
def codeL (rs : List Int) (l : List S37) (fine : Bool) : Int := if rsOk rs = true then allC l fine else 1
theorem l01All_l0 (l : List S37) (hs : l.all gsm = true) (hl : l.length ≤ 1048576) (fine : Bool) : ∀ (cs pre : List S37), l = pre ++ cs → Ev (fun k => spec_l01All.l0 k l fine (pre.length : Int)) (if cs.all gok = true then (if fine = true then (if (l.length : Int) ≤ 8 then 0 else 3) else 2) else 1) := by
  intro cs
  induction cs with
  | nil =>
    intro pre hpre
    refine Ev.step (fun k => by rw [spec_l01All.l0]) ?_
    have : l.length = pre.length := by rw [hpre]; simp
    simp only [show ¬ (pre.length : Int) < (l.length : Int) by omega, ↓reduceIte, List.all_nil]
    cases fine with
    | false => simp only [Bool.false_eq_true, ↓reduceIte]; exact Ev.now _
    | true =>
      simp only [↓reduceIte]
      by_cases h8 : (l.length : Int) ≤ 8
      · simp only [h8, show ¬ (l.length : Int) > 8 by omega, ↓reduceIte]; exact Ev.now _
      · simp only [h8, show (l.length : Int) > 8 by omega, ↓reduceIte]; exact Ev.now _
  | cons c cs ih =>
    intro pre hpre
    have hlen : l.length = pre.length + cs.length + 1 := by rw [hpre]; simp; omega
    have hc : rd_T37 l (pre.length : Int) = c := by rw [hpre]; exact rdm pre c cs
    have hsc : gsm c = true := List.all_eq_true.mp hs c (by rw [hpre]; simp)
    have hnext := ih (pre ++ [c]) (by rw [hpre]; simp)
    simp only [List.length_append, List.length_cons, List.length_nil, Nat.zero_add] at hnext
    refine Ev.step (fun k => by rw [spec_l01All.l0]) ?_
    simp only [show (pre.length : Int) < (l.length : Int) by omega, show (0 : Int) ≤ (pre.length : Int) by omega, ↓reduceIte, hc, garment_eq c hsc, Option.bind_some, wsuc (show pre.length < l.length by omega) hl, List.all_cons]
    by_cases hg : gok c = true
    · simp only [hg, Bool.true_and, ↓reduceIte]; exact hnext
    · rw [Bool.not_eq_true] at hg
      simp only [hg, Bool.false_eq_true, Bool.false_and, ↓reduceIte]; exact Ev.now _
theorem l01All_ev (l : List S37) (hs : l.all gsm = true) (hl : l.length ≤ 1048576) (fine : Bool) : Ev (fun k => spec_l01All.f k l fine) (allC l fine) := by
  unfold spec_l01All.f allC
  exact l01All_l0 l hs hl fine l [] rfl
theorem few_eq (l : List S37) : impl_fewGarments.f l = some (if (l.length : Int) ≤ 8 then 0 else 3) := by
  unfold impl_fewGarments.f
  rw [unless_eq]
  by_cases h : (l.length : Int) ≤ 8 <;> simp [h]
theorem l01Asked_ev (a0 a1 a2 a3 a4 a5 : Int) (l : List S37) (hs : l.all gsm = true) (hl : l.length ≤ 1048576) (fine : Bool) : Ev (fun k => spec_l01Asked.f k a0 a1 a2 a3 a4 a5 l fine) (codeL [a0, a1, a2, a3, a4, a5] l fine) := by
  unfold spec_l01Asked.f codeL
  refine Ev.bind (rules_spec a0 a1 a2 a3 a4 a5) ?_
  cases h : rsOk [a0, a1, a2, a3, a4, a5] with
  | false => simp only [Bool.false_eq_true, ↓reduceIte]; exact Ev.now _
  | true =>
    simp only [↓reduceIte]
    exact Ev.bind (l01All_ev l hs hl fine) (Ev.now _)
def holdB (h : Int) : Bool := decide (1 ≤ h ∧ h ≤ 20000)
theorem hold_eq (h : Int) : spec_l01Hold.f h = some (holdB h) := by
  unfold spec_l01Hold.f
  rw [l00In_eq]
  rfl
theorem loadCode_ev (a0 a1 a2 a3 a4 a5 : Int) (hr : rsWf [a0, a1, a2, a3, a4, a5]) (hold : Int) (l : List S37) (hs : l.all gsm = true) : Ev (fun k => impl_loadCode.f k a0 a1 a2 a3 a4 a5 hold l) (codeL [a0, a1, a2, a3, a4, a5] l (holdB hold)) := by
  unfold impl_loadCode.f
  refine Ev.bind (areRules_ev a0 a1 a2 a3 a4 a5 hr) ?_
  simp only [gars_eq l hs, within_eq, unless_eq, few_eq, Option.bind_some]
  refine Ev.bind (r := codeL [a0, a1, a2, a3, a4, a5] l (holdB hold)) ?_ (Ev.now _)
  have := firstOf_ev [(if rsOk [a0, a1, a2, a3, a4, a5] = true then 0 else 1), (if l.all gok = true then 0 else 1), (if decide (1 ≤ hold ∧ hold ≤ 20000) = true then 0 else 2), (if (l.length : Int) ≤ 8 then 0 else 3)] (by simp)
  refine cast ?_ this
  congr 1
  unfold codeL allC holdB
  cases rsOk [a0, a1, a2, a3, a4, a5] <;> cases l.all gok <;> cases decide (1 ≤ hold ∧ hold ≤ 20000) <;> by_cases h8 : (l.length : Int) ≤ 8 <;> simp [firstL, h8]
theorem met_eq (rs : List Int) (x y : S37) : metB rs x y = metS rs x y := rfl
theorem all_mem {l : List S37} {p : S37 → Bool} (h : l.all p = true) {x : S37} (hx : x ∈ l) : p x = true := List.all_eq_true.mp h x hx
theorem spec_weight_l0 (l : List S37) (hl : l.length ≤ 1048576) : ∀ (cs pre : List S37), l = pre ++ cs → ∀ a : Int, Ev (fun k => spec_l01Weight.l0 k l a (pre.length : Int)) (weightFrom a cs) := by
  intro cs
  induction cs with
  | nil =>
    intro pre hpre a
    refine Ev.step (fun k => by rw [spec_l01Weight.l0]) ?_
    have : l.length = pre.length := by rw [hpre]; simp
    simp only [show ¬ (pre.length : Int) < (l.length : Int) by omega, ↓reduceIte]
    exact Ev.now _
  | cons c cs ih =>
    intro pre hpre a
    have hlen : l.length = pre.length + cs.length + 1 := by rw [hpre]; simp; omega
    have hc : rd_T37 l (pre.length : Int) = c := by rw [hpre]; exact rdm pre c cs
    have hnext := ih (pre ++ [c]) (by rw [hpre]; simp)
    simp only [List.length_append, List.length_cons, List.length_nil, Nat.zero_add] at hnext
    refine Ev.step (fun k => by rw [spec_l01Weight.l0]) ?_
    simp only [show (pre.length : Int) < (l.length : Int) by omega, show (0 : Int) ≤ (pre.length : Int) by omega, ↓reduceIte, hc, wsuc (show pre.length < l.length by omega) hl]
    exact hnext _
theorem spec_weight_ev (l : List S37) (hl : l.length ≤ 1048576) : Ev (fun k => spec_l01Weight.f k l) (weightB l) := by
  unfold spec_l01Weight.f
  exact spec_weight_l0 l hl l [] rfl 0
section
variable (a0 a1 a2 a3 a4 a5 hold : Int) (l : List S37) (hs : l.all gsm = true) (hg : l.all gok = true) (hl : l.length ≤ 1048576)
include hs hg hl
theorem load_l1 (pre cs : List S37) (c : S37) (hpre : l = pre ++ c :: cs) (R : Bool) (hR : Ev (fun k => spec_l01Load.l0 k hold l ((pre.length + 1 : Nat) : Int) a0 a1 a2 a3 a4 a5) R) : ∀ (p2 p1 : List S37), pre = p1 ++ p2 →
    Ev (fun k => spec_l01Load.l1 k hold l (pre.length : Int) (p1.length : Int) a0 a1 a2 a3 a4 a5) (!(p2.any fun h => !metB [a0, a1, a2, a3, a4, a5] c h) && R) := by
  have hlen : l.length = pre.length + cs.length + 1 := by rw [hpre]; simp; omega
  have hc : rd_T37 l (pre.length : Int) = c := by rw [hpre]; exact rdm pre c cs
  have hcm : c ∈ l := by rw [hpre]; simp
  intro p2
  induction p2 with
  | nil =>
    intro p1 hp
    refine Ev.step (fun k => by rw [spec_l01Load.l1]) ?_
    have : pre.length = p1.length := by rw [hp]; simp
    simp only [show ¬ (p1.length : Int) < (pre.length : Int) by omega, ↓reduceIte, List.any_nil, Bool.not_false, Bool.true_and, wsuc (show pre.length < l.length by omega) hl]
    exact hR
  | cons d p2 ih =>
    intro p1 hp
    have hpl : pre.length = p1.length + p2.length + 1 := by rw [hp]; simp; omega
    have hdm : d ∈ l := by rw [hpre, hp]; simp
    have hd : rd_T37 l (p1.length : Int) = d := by rw [hpre, hp, List.append_assoc, List.cons_append]; exact rdm p1 d _
    have hnext := ih (p1 ++ [d]) (by rw [hp]; simp)
    simp only [List.length_append, List.length_cons, List.length_nil, Nat.zero_add] at hnext
    refine Ev.step (fun k => by rw [spec_l01Load.l1]) ?_
    simp only [show (p1.length : Int) < (pre.length : Int) by omega, show (0 : Int) ≤ (pre.length : Int) by omega, show (pre.length : Int) < (l.length : Int) by omega, show (0 : Int) ≤ (p1.length : Int) by omega, show (p1.length : Int) < (l.length : Int) by omega, ↓reduceIte, hc, hd,
      spec_meet_eq a0 a1 a2 a3 a4 a5 c d (all_mem hs hcm) (all_mem hs hdm) (all_mem hg hcm) (all_mem hg hdm), Option.bind_some, wsuc (show p1.length < l.length by omega) hl, List.any_cons, met_eq]
    simp only [met_eq] at hnext
    by_cases hm : metS [a0, a1, a2, a3, a4, a5] c d = true
    · simp only [hm, ↓reduceIte, Bool.not_true, Bool.false_or]
      exact hnext
    · rw [Bool.not_eq_true] at hm
      simp only [hm, Bool.false_eq_true, ↓reduceIte, Bool.not_false, Bool.true_or, Bool.not_true, Bool.false_and]
      exact Ev.now _
theorem load_l0 : ∀ (cs pre : List S37), l = pre ++ cs → Ev (fun k => spec_l01Load.l0 k hold l (pre.length : Int) a0 a1 a2 a3 a4 a5) (apartFrom [a0, a1, a2, a3, a4, a5] pre cs && decide (weightB l ≤ hold)) := by
  intro cs
  induction cs with
  | nil =>
    intro pre hpre
    refine Ev.step (fun k => by rw [spec_l01Load.l0]) ?_
    have : l.length = pre.length := by rw [hpre]; simp
    simp only [show ¬ (pre.length : Int) < (l.length : Int) by omega, ↓reduceIte, apartFrom, Bool.true_and]
    exact Ev.bind (spec_weight_ev l hl) (Ev.now _)
  | cons c cs ih =>
    intro pre hpre
    have hlen : l.length = pre.length + cs.length + 1 := by rw [hpre]; simp; omega
    have hnext := ih (pre ++ [c]) (by rw [hpre]; simp)
    simp only [List.length_append, List.length_cons, List.length_nil, Nat.zero_add] at hnext
    refine Ev.step (fun k => by rw [spec_l01Load.l0]) ?_
    simp only [show (pre.length : Int) < (l.length : Int) by omega, ↓reduceIte]
    rw [apartFrom, Bool.and_assoc]
    exact load_l1 a0 a1 a2 a3 a4 a5 hold l hs hg hl pre cs c hpre _ hnext pre [] rfl
theorem load_ev : Ev (fun k => spec_l01Load.f k a0 a1 a2 a3 a4 a5 hold l) (washB [a0, a1, a2, a3, a4, a5] hold l) := by
  unfold spec_l01Load.f washB
  exact load_l0 a0 a1 a2 a3 a4 a5 hold l hs hg hl l [] rfl
theorem wash_eq : impl_Rules_washable.f a0 a1 a2 a3 a4 a5 hold l = some (washB [a0, a1, a2, a3, a4, a5] hold l) := by
  have hc : colB l = true := by
    unfold colB
    rw [List.all_eq_true]
    intro x hx
    exact decide_eq_true (gok_col (all_mem hg hx) (all_mem hs hx))
  unfold impl_Rules_washable.f
  rw [if_pos ⟨hl, hc⟩]
end
theorem codeL_ok {rs : List Int} {l : List S37} {fine : Bool} (h : codeL rs l fine = 0) : rsOk rs = true ∧ l.all gok = true ∧ fine = true ∧ l.length ≤ 8 := by
  unfold codeL allC at h
  by_cases h1 : rsOk rs = true
  · rw [if_pos h1] at h
    by_cases h2 : l.all gok = true
    · rw [if_pos h2] at h
      by_cases h3 : fine = true
      · rw [if_pos h3] at h
        by_cases h4 : (l.length : Int) ≤ 8
        · exact ⟨h1, h2, h3, by omega⟩
        · rw [if_neg h4] at h; omega
      · rw [if_neg h3] at h; omega
    · rw [if_neg h2] at h; omega
  · rw [if_neg h1] at h; omega
theorem l01With_l0 (l : List S37) (o : List Int) (n : Int) (ho : o.length ≤ 1048576) : ∀ (cs pre : List Int) (ls lp : List S37), o = pre ++ cs → l = lp ++ ls → lp.length = pre.length → cs.length ≤ ls.length → ∀ x : List S37, x.length ≤ pre.length →
    Ev (fun k => spec_l01With.l0 k l o n x (pre.length : Int)) (x ++ withB ls cs n) := by
  intro cs
  induction cs with
  | nil =>
    intro pre ls lp hpre hl hlp hle x hx
    refine Ev.step (fun k => by rw [spec_l01With.l0]) ?_
    have : o.length = pre.length := by rw [hpre]; simp
    simp only [show ¬ (pre.length : Int) < (o.length : Int) by omega, ↓reduceIte]
    rw [show x ++ withB ls [] n = x by simp [withB]]
    exact Ev.now _
  | cons c cs ih =>
    intro pre ls lp hpre hl hlp hle x hx
    match ls, hl, hle with
    | [], _, h => simp at h
    | d :: ls, hl, hle =>
    have hlen : o.length = pre.length + cs.length + 1 := by rw [hpre]; simp; omega
    have hllen : l.length = lp.length + ls.length + 1 := by rw [hl]; simp; omega
    have hc : rd o (pre.length : Int) = c := by rw [hpre]; exact rdim pre c cs
    have hd : rd_T37 l (pre.length : Int) = d := by rw [hl, ← hlp]; exact rdm lp d ls
    have hnext := ih (pre ++ [c]) ls (lp ++ [d]) (by rw [hpre]; simp) (by rw [hl]; simp) (by simp [hlp]) (by simpa using hle)
    simp only [List.length_append, List.length_cons, List.length_nil, Nat.zero_add] at hnext
    refine Ev.step (fun k => by rw [spec_l01With.l0]) ?_
    simp only [show (pre.length : Int) < (o.length : Int) by omega, show (0 : Int) ≤ (pre.length : Int) by omega, ↓reduceIte, hc, hd, show (pre.length : Int) < (l.length : Int) by omega, show x.length < 23456248059221 by omega, wsuc (show pre.length < o.length by omega) ho]
    by_cases h : c = n
    · simp only [h, ↓reduceIte]
      rw [show x ++ withB (d :: ls) (n :: cs) n = (x ++ [d]) ++ withB ls cs n by simp [withB]]
      exact hnext _ (by simp; omega)
    · simp only [h, ↓reduceIte]
      rw [show x ++ withB (d :: ls) (c :: cs) n = x ++ withB ls cs n by simp [withB, h]]
      exact hnext _ (by omega)
theorem l01With_ev (l : List S37) (o : List Int) (n : Int) (ho : o.length ≤ 1048576) (hle : o.length ≤ l.length) : Ev (fun k => spec_l01With.f k l o n) (withB l o n) := by
  unfold spec_l01With.f
  exact l01With_l0 l o n ho o [] l [] rfl rfl rfl hle [] (Nat.le_refl _)
theorem withB_len (l : List S37) (o : List Int) (n : Int) : (withB l o n).length ≤ o.length := by
  unfold withB
  rw [List.length_map]
  refine Nat.le_trans (List.length_filter_le _ _) ?_
  rw [List.length_zip]
  omega
theorem w8 {x : Int} (h0 : 0 ≤ x) (h : x < 8) : wrap64 (x + 1) = x + 1 := by unfold wrap64; omega
def goodK (rs : List Int) (hold : Int) (l : List S37) (ns : List Int) : Nat → Bool
  | 0 => true
  | d + 1 => washB rs hold (withB l ns (8 - ((d + 1 : Nat) : Int))) && goodK rs hold l ns d
theorem goodK_iff (rs : List Int) (hold : Int) (l : List S37) (ns : List Int) : ∀ d : Nat, goodK rs hold l ns d = true ↔ ∀ n : Int, 8 - d ≤ n → n < 8 → washB rs hold (withB l ns n) = true
  | 0 => by simp only [goodK, true_iff]; intro n h1 h2; omega
  | d + 1 => by
    rw [goodK, Bool.and_eq_true, goodK_iff rs hold l ns d]
    refine ⟨fun ⟨h, k⟩ n h1 h2 => ?_, fun h => ⟨h _ (Int.le_refl _) (by omega), fun n h1 h2 => h n (by omega) h2⟩⟩
    by_cases e : n = 8 - ((d + 1 : Nat) : Int)
    · rw [e]; exact h
    · exact k n (by omega) h2
theorem withB_nil (l : List S37) (ns : List Int) (n : Int) (h : n ∉ ns) : withB l ns n = [] := by
  unfold withB
  rw [List.map_eq_nil_iff, List.filter_eq_nil_iff]
  intro x hx
  have := (List.of_mem_zip hx).1
  simp only [decide_eq_true_eq]
  intro e
  exact h (e ▸ this)
theorem goodK_all (rs : List Int) (hold : Int) (h0 : 0 ≤ hold) (l : List S37) (ns : List Int) (hw : (ns.all fun n => decide (0 ≤ n ∧ n ≤ 7)) = true) : goodK rs hold l ns 8 = ns.all fun n => washB rs hold (withB l ns n) := by
  rw [Bool.eq_iff_iff, goodK_iff, List.all_eq_true]
  rw [List.all_eq_true] at hw
  refine ⟨fun h n hn => ?_, fun h n h1 h2 => ?_⟩
  · have := of_decide_eq_true (hw n hn)
    exact h n (by omega) (by omega)
  · by_cases hn : n ∈ ns
    · exact h n hn
    · rw [withB_nil l ns n hn]
      unfold washB
      simp only [apartFrom, Bool.true_and]
      exact decide_eq_true h0
theorem with_all (l : List S37) (ns : List Int) {p : S37 → Bool} (h : l.all p = true) (n : Int) : (withB l ns n).all p = true := by
  rw [List.all_eq_true] at h ⊢
  exact fun x hx => h x (withB_mem hx)
section
variable (a0 a1 a2 a3 a4 a5 hold : Int) (l : List S37) (ns : List Int) (hs : l.all gsm = true) (hg : l.all gok = true) (hl : l.length ≤ 1048576) (hn : ns.length = l.length)
include hs hg hl hn
theorem right_l1 : ∀ (d : Nat) (x : Int), d ≤ 8 → x = 8 - d → Ev (fun k => spec_l01Right.l1 k hold l ns x a0 a1 a2 a3 a4 a5) (goodK [a0, a1, a2, a3, a4, a5] hold l ns d) := by
  intro d
  induction d with
  | zero =>
    intro x _ hx
    refine Ev.step (fun k => by rw [spec_l01Right.l1]) ?_
    simp only [show ¬ x < 8 by omega, ↓reduceIte]
    exact Ev.now true
  | succ d ih =>
    intro x hd hx
    refine Ev.step (fun k => by rw [spec_l01Right.l1]) ?_
    simp only [show x < 8 by omega, ↓reduceIte]
    refine Ev.bind (l01With_ev l ns x (by omega) (by omega)) ?_
    refine Ev.bind (load_ev a0 a1 a2 a3 a4 a5 hold _ (with_all l ns hs x) (with_all l ns hg x) (by have := withB_length l ns x; omega)) ?_
    rw [goodK, ← hx]
    by_cases h : washB [a0, a1, a2, a3, a4, a5] hold (withB l ns x) = true
    · simp only [h, ↓reduceIte, Bool.true_and, w8 (show 0 ≤ x by omega) (show x < 8 by omega)]
      exact ih (x + 1) (by omega) (by omega)
    · rw [Bool.not_eq_true] at h
      simp only [h, Bool.false_eq_true, ↓reduceIte, Bool.false_and]
      exact Ev.now _
theorem right_l0 : ∀ (cs pre : List Int), ns = pre ++ cs → Ev (fun k => spec_l01Right.l0 k hold l ns (pre.length : Int) a0 a1 a2 a3 a4 a5) ((cs.all fun n => decide (0 ≤ n ∧ n ≤ 7)) && goodK [a0, a1, a2, a3, a4, a5] hold l ns 8) := by
  intro cs
  induction cs with
  | nil =>
    intro pre hpre
    refine Ev.step (fun k => by rw [spec_l01Right.l0]) ?_
    have : ns.length = pre.length := by rw [hpre]; simp
    simp only [show ¬ (pre.length : Int) < (ns.length : Int) by omega, ↓reduceIte, List.all_nil, Bool.true_and]
    exact right_l1 a0 a1 a2 a3 a4 a5 hold l ns hs hg hl hn 8 0 (Nat.le_refl _) (by omega)
  | cons c cs ih =>
    intro pre hpre
    have hlen : ns.length = pre.length + cs.length + 1 := by rw [hpre]; simp; omega
    have hc : rd ns (pre.length : Int) = c := by rw [hpre]; exact rdim pre c cs
    have hnext := ih (pre ++ [c]) (by rw [hpre]; simp)
    simp only [List.length_append, List.length_cons, List.length_nil, Nat.zero_add] at hnext
    refine Ev.step (fun k => by rw [spec_l01Right.l0]) ?_
    simp only [show (pre.length : Int) < (ns.length : Int) by omega, show (0 : Int) ≤ (pre.length : Int) by omega, ↓reduceIte, hc, l00In_eq, Option.bind_some, decide_eq_true_eq, wsuc (show pre.length < ns.length by omega) (by omega : ns.length ≤ 1048576), List.all_cons]
    by_cases h : 0 ≤ c ∧ c ≤ 7
    · simp only [h, and_self, ↓reduceIte, decide_true, Bool.true_and]
      exact hnext
    · simp only [h, ↓reduceIte, decide_false, Bool.false_and]
      exact Ev.now _
end
theorem right_ev (a0 a1 a2 a3 a4 a5 hold : Int) (l : List S37) (ns : List Int) (hs : l.all gsm = true) (hg : l.all gok = true) (hl : l.length ≤ 1048576) (h0 : 0 ≤ hold) : Ev (fun k => spec_l01Right.f k a0 a1 a2 a3 a4 a5 hold l ns) (loadsB [a0, a1, a2, a3, a4, a5] hold l ns) := by
  unfold spec_l01Right.f loadsB
  by_cases h : ns.length = l.length
  · simp only [show (ns.length : Int) = (l.length : Int) by omega, ↓reduceIte, h, decide_true, Bool.true_and]
    have := right_l0 a0 a1 a2 a3 a4 a5 hold l ns hs hg hl h ns [] rfl
    refine cast ?_ this
    congr 1
    cases hw : (ns.all fun n => decide (0 ≤ n ∧ n ≤ 7)) with
    | false => rfl
    | true => rw [goodK_all _ hold h0 l ns hw]
  · simp only [show ¬ (ns.length : Int) = (l.length : Int) by omega, ↓reduceIte, h, decide_false, Bool.false_and]
    exact Ev.now _
theorem areLoads_eq (a0 a1 a2 a3 a4 a5 hold : Int) (l : List S37) (ns : List Int) (hs : l.all gsm = true) (hg : l.all gok = true) (hl : l.length ≤ 1048576) : impl_Rules_areLoads.f a0 a1 a2 a3 a4 a5 hold l ns = some (loadsB [a0, a1, a2, a3, a4, a5] hold l ns) := by
  have hc : colB l = true := by
    unfold colB
    rw [List.all_eq_true]
    intro x hx
    exact decide_eq_true (gok_col (all_mem hg hx) (all_mem hs hx))
  unfold impl_Rules_areLoads.f
  rw [if_pos ⟨hl, hc⟩]
theorem holdB_pos {h : Int} (hb : holdB h = true) : 0 ≤ h := by
  have := of_decide_eq_true hb
  omega
def heatsFrom : Int × Int → List S37 → Int × Int
  | s, [] => s
  | s, c :: cs => heatsFrom (mx s.1 (wrap64 c.f1), mn s.2 (wrap64 c.f2)) cs
def heatsB (l : List S37) : Int × Int := heatsFrom (0, 95) l
theorem l00Max_eq (a b : Int) : spec_l00Max.f a b = some (mx a b) := by
  unfold spec_l00Max.f mx
  by_cases h : a > b
  · rw [if_pos h, if_neg (by omega)]
  · rw [if_neg h]
    by_cases h2 : a < b
    · rw [if_pos h2]
    · rw [if_neg h2, show a = b by omega]
theorem l00Min_eq (a b : Int) : spec_l00Min.f a b = some (mn a b) := by
  unfold spec_l00Min.f mn
  by_cases h : a < b
  · rw [if_pos h]
    first | rw [if_pos h] | rw [if_neg (by omega)]
  · rw [if_neg h]
    first | rw [if_neg h] | (by_cases h2 : b < a; rw [if_pos h2]; rw [if_neg h2, show a = b by omega])
theorem spec_heats_l0 (l : List S37) (hl : l.length ≤ 1048576) : ∀ (cs pre : List S37), l = pre ++ cs → ∀ a b : Int, Ev (fun k => spec_l01Heats.l0 k l a b (pre.length : Int)) (heatsFrom (a, b) cs) := by
  intro cs
  induction cs with
  | nil =>
    intro pre hpre a b
    refine Ev.step (fun k => by rw [spec_l01Heats.l0]) ?_
    have : l.length = pre.length := by rw [hpre]; simp
    simp only [show ¬ (pre.length : Int) < (l.length : Int) by omega, ↓reduceIte]
    exact Ev.now _
  | cons c cs ih =>
    intro pre hpre a b
    have hlen : l.length = pre.length + cs.length + 1 := by rw [hpre]; simp; omega
    have hc : rd_T37 l (pre.length : Int) = c := by rw [hpre]; exact rdm pre c cs
    have hnext := ih (pre ++ [c]) (by rw [hpre]; simp)
    simp only [List.length_append, List.length_cons, List.length_nil, Nat.zero_add] at hnext
    refine Ev.step (fun k => by rw [spec_l01Heats.l0]) ?_
    simp only [show (pre.length : Int) < (l.length : Int) by omega, show (0 : Int) ≤ (pre.length : Int) by omega, ↓reduceIte, hc, l00Max_eq, l00Min_eq, Option.bind_some, wsuc (show pre.length < l.length by omega) hl]
    exact hnext _ _
theorem spec_heats_ev (l : List S37) (hl : l.length ≤ 1048576) : Ev (fun k => spec_l01Heats.f k l) (heatsB l) := by
  unfold spec_l01Heats.f
  exact spec_heats_l0 l hl l [] rfl 0 95
theorem impl_heats_l0 (l : List S37) (hl : l.length ≤ 1048576) : ∀ (cs pre : List S37), l = pre ++ cs → ∀ a b : Int, Ev (fun k => impl_heats.l0 k a b l (l.length : Int) (pre.length : Int)) (heatsFrom (a, b) cs) := by
  intro cs
  induction cs with
  | nil =>
    intro pre hpre a b
    refine Ev.step (fun k => by rw [impl_heats.l0]) ?_
    have : l.length = pre.length := by rw [hpre]; simp
    simp only [show ¬ (pre.length : Int) < (l.length : Int) by omega, ↓reduceIte]
    exact Ev.now _
  | cons c cs ih =>
    intro pre hpre a b
    have hlen : l.length = pre.length + cs.length + 1 := by rw [hpre]; simp; omega
    have hc : rd_T37 l (pre.length : Int) = c := by rw [hpre]; exact rdm pre c cs
    have hnext := ih (pre ++ [c]) (by rw [hpre]; simp)
    simp only [List.length_append, List.length_cons, List.length_nil, Nat.zero_add] at hnext
    refine Ev.step (fun k => by rw [impl_heats.l0]) ?_
    simp only [show (pre.length : Int) < (l.length : Int) by omega, show (0 : Int) ≤ (pre.length : Int) by omega, ↓reduceIte, hc, wsuc (show pre.length < l.length by omega) hl]
    exact hnext _ _
theorem impl_heats_ev (l : List S37) (hl : l.length ≤ 1048576) : Ev (fun k => impl_heats.f k l) (heatsB l) := by
  unfold impl_heats.f
  exact impl_heats_l0 l hl l [] rfl 0 95
def costFrom (l : List S37) (ns : List Int) (each : Int) : Nat → Int → Int
  | 0, s => s
  | d + 1, s => costFrom l ns each d (if (((withB l ns (8 - ((d + 1 : Nat) : Int))).length : Nat) : Int) > 0 then wrap64 (s + wrap64 (each + (heatsB (withB l ns (8 - ((d + 1 : Nat) : Int)))).1)) else s)
def costB (l : List S37) (ns : List Int) (each : Int) : Int := costFrom l ns each 8 0
theorem spec_cost_l0 (l : List S37) (ns : List Int) (each : Int) (hl : l.length ≤ 1048576) (hn : ns.length = l.length) : ∀ (d : Nat) (x s : Int), d ≤ 8 → x = 8 - d → Ev (fun k => spec_l01Cost.l0 k l ns each s x) (costFrom l ns each d s) := by
  intro d
  induction d with
  | zero =>
    intro x s _ hx
    refine Ev.step (fun k => by rw [spec_l01Cost.l0]) ?_
    simp only [show ¬ x < 8 by omega, ↓reduceIte]
    exact Ev.now _
  | succ d ih =>
    intro x s hd hx
    refine Ev.step (fun k => by rw [spec_l01Cost.l0]) ?_
    simp only [show x < 8 by omega, ↓reduceIte]
    refine Ev.bind (l01With_ev l ns x (by omega) (by omega)) ?_
    rw [costFrom, ← hx]
    by_cases h : ((withB l ns x).length : Int) > 0
    · simp only [h, ↓reduceIte, w8 (show 0 ≤ x by omega) (show x < 8 by omega)]
      refine Ev.bind (spec_heats_ev _ (by have := withB_length l ns x; omega)) ?_
      exact ih (x + 1) _ (by omega) (by omega)
    · simp only [h, ↓reduceIte, w8 (show 0 ≤ x by omega) (show x < 8 by omega)]
      exact ih (x + 1) _ (by omega) (by omega)
theorem spec_cost_ev (l : List S37) (ns : List Int) (each : Int) (hl : l.length ≤ 1048576) (hn : ns.length = l.length) : Ev (fun k => spec_l01Cost.f k l ns each) (costB l ns each) := by
  unfold spec_l01Cost.f
  exact spec_cost_l0 l ns each hl hn 8 0 0 (Nat.le_refl _) (by omega)
theorem impl_cost_l0 (l : List S37) (ns : List Int) (each : Int) (hl : l.length ≤ 1048576) (hn : ns.length = l.length) : ∀ (d : Nat) (x s : Int), d ≤ 8 → x = 8 - d → Ev (fun k => impl_cost.l0 k l ns each s x) (costFrom l ns each d s) := by
  intro d
  induction d with
  | zero =>
    intro x s _ hx
    refine Ev.step (fun k => by rw [impl_cost.l0]) ?_
    simp only [show ¬ x < 8 by omega, ↓reduceIte]
    exact Ev.now _
  | succ d ih =>
    intro x s hd hx
    have hw : impl_withNumber_impl_Garmentw.f l ns x = some (withB l ns x) := by unfold impl_withNumber_impl_Garmentw.f; rw [if_pos ⟨by omega, by omega⟩]
    refine Ev.step (fun k => by rw [impl_cost.l0]) ?_
    simp only [show x < 8 by omega, ↓reduceIte, hw, Option.bind_some]
    rw [costFrom, ← hx]
    by_cases h : ((withB l ns x).length : Int) > 0
    · simp only [h, ↓reduceIte, w8 (show 0 ≤ x by omega) (show x < 8 by omega)]
      refine Ev.bind (impl_heats_ev _ (by have := withB_length l ns x; omega)) ?_
      exact ih (x + 1) _ (by omega) (by omega)
    · simp only [h, ↓reduceIte, w8 (show 0 ≤ x by omega) (show x < 8 by omega)]
      exact ih (x + 1) _ (by omega) (by omega)
theorem impl_cost_ev (l : List S37) (ns : List Int) (each : Int) (hl : l.length ≤ 1048576) (hn : ns.length = l.length) : Ev (fun k => impl_cost.f k l ns each) (costB l ns each) := by
  unfold impl_cost.f
  exact impl_cost_l0 l ns each hl hn 8 0 0 (Nat.le_refl _) (by omega)
def eachB (e : Int) : Bool := decide (0 ≤ e ∧ e ≤ 1000)
theorem each_eq (e : Int) : spec_l01Each.f e = some (eachB e) := by
  unfold spec_l01Each.f
  rw [l00In_eq]
  rfl
theorem eachCode_ev (a0 a1 a2 a3 a4 a5 : Int) (hr : rsWf [a0, a1, a2, a3, a4, a5]) (hold : Int) (l : List S37) (hs : l.all gsm = true) (each : Int) : Ev (fun k => impl_eachCode.f k a0 a1 a2 a3 a4 a5 hold l each) (codeL [a0, a1, a2, a3, a4, a5] l (holdB hold && eachB each)) := by
  unfold impl_eachCode.f
  refine Ev.bind (loadCode_ev a0 a1 a2 a3 a4 a5 hr hold l hs) ?_
  simp only [within_eq, Option.bind_some, decide_eq_true_eq]
  have e : (if codeL [a0, a1, a2, a3, a4, a5] l (holdB hold) = 0 then (if 0 ≤ each ∧ each ≤ 1000 then some (codeL [a0, a1, a2, a3, a4, a5] l (holdB hold)) else some 2) else (if codeL [a0, a1, a2, a3, a4, a5] l (holdB hold) = 3 then (if 0 ≤ each ∧ each ≤ 1000 then some (codeL [a0, a1, a2, a3, a4, a5] l (holdB hold)) else some 2) else some (codeL [a0, a1, a2, a3, a4, a5] l (holdB hold)))) = some (codeL [a0, a1, a2, a3, a4, a5] l (holdB hold && eachB each)) := by
    unfold codeL allC eachB
    by_cases h1 : rsOk [a0, a1, a2, a3, a4, a5] = true <;> by_cases h2 : l.all gok = true <;> by_cases h3 : holdB hold = true <;> by_cases h4 : 0 ≤ each ∧ each ≤ 1000 <;> by_cases h8 : (l.length : Int) ≤ 8 <;> simp [h1, h2, h3, h4, h8]
  exact cast (by simp only [e]) (Ev.now (codeL [a0, a1, a2, a3, a4, a5] l (holdB hold && eachB each)))
def coR (rs : List Int) (hold : Int) (l : List S37) (ns : List Int) (each : Int) : Int × Int := if codeL rs l (holdB hold && eachB each) = 0 then (if loadsB rs hold l ns = true then (costB l ns each, 0) else (0, 4)) else (0, codeL rs l (holdB hold && eachB each))
theorem loadsB_len {rs : List Int} {hold : Int} {l : List S37} {ns : List Int} (h : loadsB rs hold l ns = true) : ns.length = l.length := by
  unfold loadsB at h
  rw [Bool.and_eq_true] at h
  exact of_decide_eq_true h.1
theorem co_spec (a0 a1 a2 a3 a4 a5 hold : Int) (l : List S37) (ns : List Int) (each : Int) (hs : l.all gsm = true) (hl : l.length ≤ 1048576) : Ev (fun k => spec_CostOf.f k a0 a1 a2 a3 a4 a5 hold l ns each) (coR [a0, a1, a2, a3, a4, a5] hold l ns each) := by
  have hj : ∀ c : Int, c = codeL [a0, a1, a2, a3, a4, a5] l (holdB hold && eachB each) → Ev (fun k => spec_CostOf.j0 k hold l ns each c a0 a1 a2 a3 a4 a5) (coR [a0, a1, a2, a3, a4, a5] hold l ns each) := by
    intro c hc
    subst hc
    refine Ev.step (fun k => by rw [spec_CostOf.j0]) ?_
    unfold coR
    by_cases h : codeL [a0, a1, a2, a3, a4, a5] l (holdB hold && eachB each) = 0
    · have hok := codeL_ok h
      rw [Bool.and_eq_true] at hok
      simp only [h, ↓reduceIte]
      refine Ev.bind (right_ev a0 a1 a2 a3 a4 a5 hold l ns hs hok.2.1 hl (holdB_pos hok.2.2.1.1)) ?_
      by_cases h2 : loadsB [a0, a1, a2, a3, a4, a5] hold l ns = true
      · simp only [h2, ↓reduceIte]
        exact Ev.bind (spec_cost_ev l ns each hl (loadsB_len h2)) (Ev.now _)
      · simp only [h2, Bool.false_eq_true, ↓reduceIte]; exact Ev.now _
    · simp only [h, ↓reduceIte]; exact Ev.now _
  unfold spec_CostOf.f
  simp only [hold_eq, each_eq, Option.bind_some]
  by_cases hh : holdB hold = true
  · simp only [hh, ↓reduceIte]
    exact Ev.bind (l01Asked_ev a0 a1 a2 a3 a4 a5 l hs hl _) (hj _ (by rw [hh, Bool.true_and]))
  · rw [Bool.not_eq_true] at hh
    simp only [hh, Bool.false_eq_true, ↓reduceIte]
    exact Ev.bind (l01Asked_ev a0 a1 a2 a3 a4 a5 l hs hl _) (hj _ (by rw [hh, Bool.false_and]))
theorem co_impl (a0 a1 a2 a3 a4 a5 hold : Int) (hr : rsWf [a0, a1, a2, a3, a4, a5]) (l : List S37) (ns : List Int) (each : Int) (hs : l.all gsm = true) (hl : l.length ≤ 1048576) : Ev (fun k => impl_CostOf.f k a0 a1 a2 a3 a4 a5 hold l ns each) (coR [a0, a1, a2, a3, a4, a5] hold l ns each) := by
  unfold impl_CostOf.f coR
  refine Ev.bind (eachCode_ev a0 a1 a2 a3 a4 a5 hr hold l hs each) ?_
  by_cases h : codeL [a0, a1, a2, a3, a4, a5] l (holdB hold && eachB each) = 0
  · simp only [h, ↓reduceIte, areLoads_eq a0 a1 a2 a3 a4 a5 hold l ns hs (codeL_ok h).2.1 hl, Option.bind_some]
    by_cases h2 : loadsB [a0, a1, a2, a3, a4, a5] hold l ns = true
    · simp only [h2, ↓reduceIte]
      exact Ev.bind (impl_cost_ev l ns each hl (loadsB_len h2)) (Ev.now _)
    · simp only [h2, Bool.false_eq_true, ↓reduceIte]; exact Ev.now _
  · simp only [h, ↓reduceIte]; exact Ev.now _
theorem FnExactCostOf (a0_0 : Int) (a0_1 : Int) (a0_2 : Int) (a0_3 : Int) (a0_4 : Int) (a0_5 : Int) (a1 : Int) (l2 : List S32) (l3 : List Int) (a4 : Int) (w0_0 : (Lit.int .u8 a0_0).wf = true) (w0_1 : (Lit.int .u8 a0_1).wf = true) (w0_2 : (Lit.int .u8 a0_2).wf = true) (w0_3 : (Lit.int .u8 a0_3).wf = true) (w0_4 : (Lit.int .u8 a0_4).wf = true) (w0_5 : (Lit.int .u8 a0_5).wf = true) (w1 : (Lit.int .i64 a1).wf = true) (y2 : l2.length ≤ 9223372036854775807) (w2 : ∀ x ∈ l2, (Lit.int .u8 x.f0).wf = true ∧ (Lit.int .i8 x.f1).wf = true ∧ (Lit.int .i8 x.f2).wf = true ∧ (Lit.int .i16 x.f3).wf = true) (y3 : l3.length ≤ 9223372036854775807) (w3 : ∀ x ∈ l3, (Lit.int .i64 x).wf = true) (w4 : (Lit.int .i64 a4).wf = true) : ∃ k, laws_FnExactCostOf.f k a0_0 a0_1 a0_2 a0_3 a0_4 a0_5 a1 l2 l3 a4 = some true := by
  have hr := rsWf_of a0_0 a0_1 a0_2 a0_3 a0_4 a0_5 w0_0 w0_1 w0_2 w0_3 w0_4 w0_5
  refine Ev.rounds ?_
  unfold laws_FnExactCostOf.f
  by_cases h3 : (l3.length : Int) > 1048576
  · simp only [h3, ↓reduceIte]; exact Ev.now _
  simp only [h3, ↓reduceIte, szGarmentS_eq l2 1048576 (by omega) (by omega) y2, laws_toRules.f, Option.bind_some]
  by_cases hl : (l2.length : Int) ≤ 1048576
  · simp only [hl, ↓reduceIte, show ¬ (1048576 - (l2.length : Int) < 0) by omega]
    have h0 : l2.length ≤ 1048576 := by omega
    have h30 : l3.length ≤ 1048576 := by omega
    have s0 : (toS l2).length ≤ 1048576 := by rw [toS_len]; exact h0
    have hs := toS_small w2
    refine Ev.bind (toGarmentS_ev l2 h0) ?_
    refine Ev.bind (toInt64S_ev l3 h30) ?_
    refine Ev.bind (co_spec _ _ _ _ _ _ _ _ _ _ hs s0) ?_
    refine Ev.bind (toGarmentS_ev l2 h0) ?_
    refine Ev.bind (toInt64S_ev l3 h30) ?_
    refine Ev.bind (co_impl _ _ _ _ _ _ _ hr _ _ _ hs s0) ?_
    simp only [↓reduceIte, bne_self_eq_false, Bool.false_eq_true]
    refine Ev.step (fun k => by rw [laws_FnExactCostOf.j0]) ?_
    simp only [Bool.false_eq_true, ↓reduceIte]
    refine Ev.bind (toGarmentS_ev l2 h0) ?_
    refine Ev.bind (eqGarmentS_ev _ s0) ?_
    simp only [↓reduceIte]
    refine Ev.bind (toInt64S_ev l3 h30) ?_
    refine Ev.bind (eqInt64S_ev _ h30) ?_
    simp only [↓reduceIte]
    exact Ev.now _
  · simp only [hl, ↓reduceIte, show (-1 : Int) < 0 by omega]
    exact Ev.now _
end Go.Proofs.Ythodfhcaaidnmaa.Pure
