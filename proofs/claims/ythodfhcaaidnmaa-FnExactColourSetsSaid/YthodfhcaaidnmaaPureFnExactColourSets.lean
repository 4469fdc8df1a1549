/- The plain law of FnExactColourSets. -/
import Derived.Test.YthodfhcaaidnmaaCs3
import Derived.OpenShut
import Derived.Laws.BitsAllLaws
namespace Go.Proofs.Ythodfhcaaidnmaa.Pure
set_option linter.unusedSimpArgs false
set_option linter.unusedVariables false
open Go.RowKit Go.Proofs.Ythodfhcaaidnmaa.Cs Go.Proofs.YthodfhcaaidnmaaW.PrintWords Go.Proofs.YthodfhcaaidnmaaW.PrintLast Go.Proofs.YthodfhcaaidnmaaW.PrintMore
theorem rdim (pre : List Int) (c : Int) (cs : List Int) : rd (pre ++ c :: cs) (pre.length : Int) = c := by simp [rd, List.getD_eq_getElem?_getD]
theorem wsuc {i n : Nat} (h : i < n) (hn : n ≤ 1048576) : wrap64 ((i : Int) + 1) = ((i + 1 : Nat) : Int) := by unfold wrap64; omega
def bit (rs : List Int) (a b : Int) : Bool := (Go.bits .and .u8 (shr .u8 (rd rs a) b) 1) == 1
theorem l01Bit_eq (rs : List Int) (a b : Int) (h0 : 0 ≤ b) (h1 : b < 6) : spec_l01Bit.f (rd rs a) b = some (bit rs a b) := by
  have e : IntKind.u64.wrap b = b := by rw [IntKind.wrap_u64]; omega
  unfold spec_l01Bit.f bit
  rw [e, if_pos h0]
def inn (rs : List Int) (a : Int) : Nat → Bool
  | 0 => true
  | d + 1 => (bit rs a (6 - ((d + 1 : Nat) : Int)) == bit rs (6 - ((d + 1 : Nat) : Int)) a) && inn rs a d
def out (rs : List Int) : Nat → Bool
  | 0 => true
  | d + 1 => (!decide (64 ≤ rd rs (6 - ((d + 1 : Nat) : Int))) && bit rs (6 - ((d + 1 : Nat) : Int)) (6 - ((d + 1 : Nat) : Int)) && inn rs (6 - ((d + 1 : Nat) : Int)) 6) && out rs d
section
variable (a0 a1 a2 a3 a4 a5 : Int)
theorem wrap_small {i : Int} (h0 : 0 ≤ i) (h : i < 6) : wrap64 (i + 1) = i + 1 := by unfold wrap64; omega
theorem spec_l1 (a : Int) (h0 : 0 ≤ a) (h6 : a < 6) (R : Bool) (hR : Ev (fun k => spec_l01Rules.l0 k (a + 1) a0 a1 a2 a3 a4 a5) R) : ∀ (d : Nat) (b : Int), d ≤ 6 → b = 6 - d →
    Ev (fun k => spec_l01Rules.l1 k a b a0 a1 a2 a3 a4 a5) (inn [a0, a1, a2, a3, a4, a5] a d && R) := by
  intro d
  induction d with
  | zero =>
    intro b _ hb
    refine Ev.step (fun k => by rw [spec_l01Rules.l1]) ?_
    simp only [show ¬ b < 6 by omega, ↓reduceIte, wrap_small h0 h6]
    exact hR
  | succ d ih =>
    intro b hd hb
    refine Ev.step (fun k => by rw [spec_l01Rules.l1]) ?_
    have hb0 : 0 ≤ b := by omega
    have hb6 : b < 6 := by omega
    simp only [hb6, h0, h6, hb0, ↓reduceIte, l01Bit_eq _ _ _ hb0 hb6, l01Bit_eq _ _ _ h0 h6, Option.bind_some, wrap_small hb0 hb6]
    rw [inn, ← hb]
    by_cases he : bit [a0, a1, a2, a3, a4, a5] a b = bit [a0, a1, a2, a3, a4, a5] b a
    · simp only [he, bne_self_eq_false, Bool.false_eq_true, ↓reduceIte, beq_self_eq_true, Bool.true_and]
      exact ih (b + 1) (by omega) (by omega)
    · simp only [bne_iff_ne.mpr he, ↓reduceIte, beq_eq_false_iff_ne.mpr he, Bool.false_and]
      exact Ev.now false
theorem spec_l0 : ∀ (d : Nat) (a : Int), d ≤ 6 → a = 6 - d → Ev (fun k => spec_l01Rules.l0 k a a0 a1 a2 a3 a4 a5) (out [a0, a1, a2, a3, a4, a5] d) := by
  intro d
  induction d with
  | zero =>
    intro a _ ha
    refine Ev.step (fun k => by rw [spec_l01Rules.l0]) ?_
    simp only [show ¬ a < 6 by omega, ↓reduceIte]
    exact Ev.now true
  | succ d ih =>
    intro a hd ha
    have h0 : 0 ≤ a := by omega
    have h6 : a < 6 := by omega
    refine Ev.step (fun k => by rw [spec_l01Rules.l0]) ?_
    simp only [h6, h0, ↓reduceIte, l01Bit_eq _ _ _ h0 h6, Option.bind_some]
    rw [out, ← ha]
    by_cases h64 : rd [a0, a1, a2, a3, a4, a5] a ≥ 64
    · simp only [h64, ↓reduceIte, decide_true, Bool.not_true, Bool.false_and]
      refine Ev.step (fun k => by rw [spec_l01Rules.j1]) ?_
      simp only [↓reduceIte]
      exact Ev.now false
    · simp only [h64, ↓reduceIte, decide_false, Bool.not_false, Bool.true_and]
      refine Ev.step (fun k => by rw [spec_l01Rules.j1]) ?_
      cases hb : bit [a0, a1, a2, a3, a4, a5] a a with
      | false => exact Ev.now false
      | true =>
        simp only [Bool.not_true, Bool.false_eq_true, ↓reduceIte, Bool.not_false, Bool.true_and]
        exact spec_l1 a0 a1 a2 a3 a4 a5 a h0 h6 _ (ih (a + 1) (by omega) (by omega)) 6 0 (by omega) (by omega)

theorem may_eq (a b : Int) (h0 : 0 ≤ a) (h6 : a < 6) (hb : 0 ≤ b) : impl_Rules_may.f a0 a1 a2 a3 a4 a5 a b = some (bit [a0, a1, a2, a3, a4, a5] a b) := by
  unfold impl_Rules_may.f
  rw [if_pos ⟨h0, h6, hb⟩]
  rfl
/-- The program's own order: below the diagonal alone. -/
def innI (rs : List Int) (a : Int) : Nat → Bool
  | 0 => true
  | d + 1 => (bit rs a (a - ((d + 1 : Nat) : Int)) == bit rs (a - ((d + 1 : Nat) : Int)) a) && innI rs a d
def outI (rs : List Int) : Nat → Bool
  | 0 => true
  | d + 1 => (!decide (64 ≤ rd rs (6 - ((d + 1 : Nat) : Int))) && bit rs (6 - ((d + 1 : Nat) : Int)) (6 - ((d + 1 : Nat) : Int)) && innI rs (6 - ((d + 1 : Nat) : Int)) (5 - d)) && outI rs d
theorem impl_l1 (a : Int) (h0 : 0 ≤ a) (h6 : a < 6) (R : Bool) (hR : Ev (fun k => impl_ValidRules.l0 k (a + 1) a0 a1 a2 a3 a4 a5) R) : ∀ (d : Nat) (b : Int), (d : Int) ≤ a → b = a - d →
    Ev (fun k => impl_ValidRules.l1 k a a a b a0 a1 a2 a3 a4 a5) (innI [a0, a1, a2, a3, a4, a5] a d && R) := by
  intro d
  induction d with
  | zero =>
    intro b _ hb
    refine Ev.step (fun k => by rw [impl_ValidRules.l1]) ?_
    simp only [show ¬ b < a by omega, ↓reduceIte, show (a + 1) % 256 = a + 1 by omega]
    exact hR
  | succ d ih =>
    intro b hd hb
    refine Ev.step (fun k => by rw [impl_ValidRules.l1]) ?_
    have hb0 : 0 ≤ b := by omega
    have hb6 : b < 6 := by omega
    simp only [show b < a by omega, ↓reduceIte, may_eq _ _ _ _ _ _ a b h0 h6 hb0, may_eq _ _ _ _ _ _ b a hb0 hb6 h0, Option.bind_some, show (b + 1) % 256 = b + 1 by omega]
    rw [innI, ← hb]
    by_cases he : bit [a0, a1, a2, a3, a4, a5] a b = bit [a0, a1, a2, a3, a4, a5] b a
    · simp only [he, bne_self_eq_false, Bool.false_eq_true, ↓reduceIte, beq_self_eq_true, Bool.true_and]
      exact ih (b + 1) (by omega) (by omega)
    · simp only [bne_iff_ne.mpr he, ↓reduceIte, beq_eq_false_iff_ne.mpr he, Bool.false_and]
      exact Ev.now false
theorem impl_l0 (hn : ∀ a : Int, 0 ≤ a → a < 6 → 0 ≤ rd [a0, a1, a2, a3, a4, a5] a) : ∀ (d : Nat) (a : Int), d ≤ 6 → a = 6 - d → Ev (fun k => impl_ValidRules.l0 k a a0 a1 a2 a3 a4 a5) (outI [a0, a1, a2, a3, a4, a5] d) := by
  intro d
  induction d with
  | zero =>
    intro a _ ha
    refine Ev.step (fun k => by rw [impl_ValidRules.l0]) ?_
    simp only [show ¬ a < 6 by omega, ↓reduceIte]
    exact Ev.now true
  | succ d ih =>
    intro a hd ha
    have h0 : 0 ≤ a := by omega
    have h6 : a < 6 := by omega
    refine Ev.step (fun k => by rw [impl_ValidRules.l0]) ?_
    simp only [h6, h0, ↓reduceIte, may_eq _ _ _ _ _ _ a a h0 h6 h0, Option.bind_some]
    rw [outI, ← ha]
    have hz : 0 ≤ rd [a0, a1, a2, a3, a4, a5] a := hn a h0 h6
    by_cases h64 : rd [a0, a1, a2, a3, a4, a5] a / 64 = 0
    · simp only [h64, ↓reduceIte, show ¬ 64 ≤ rd [a0, a1, a2, a3, a4, a5] a by omega, decide_false, Bool.not_false, Bool.true_and]
      refine Ev.step (fun k => by rw [impl_ValidRules.j1]) ?_
      cases hb : bit [a0, a1, a2, a3, a4, a5] a a with
      | false => exact Ev.now false
      | true =>
        simp only [Bool.not_true, Bool.false_eq_true, ↓reduceIte, Bool.true_and]
        exact impl_l1 a0 a1 a2 a3 a4 a5 a h0 h6 _ (ih (a + 1) (by omega) (by omega)) (5 - d) 0 (by omega) (by omega)
    · simp only [h64, ↓reduceIte, show 64 ≤ rd [a0, a1, a2, a3, a4, a5] a by omega, decide_true, Bool.not_true, Bool.false_and]
      refine Ev.step (fun k => by rw [impl_ValidRules.j1]) ?_
      simp only [↓reduceIte]
      exact Ev.now false
end
theorem inn_iff (rs : List Int) (a : Int) : ∀ d : Nat, inn rs a d = true ↔ ∀ b : Int, 6 - d ≤ b → b < 6 → bit rs a b = bit rs b a
  | 0 => by simp only [inn, true_iff]; intro b h1 h2; omega
  | d + 1 => by
    rw [inn, Bool.and_eq_true, beq_iff_eq, inn_iff rs a d]
    refine ⟨fun ⟨h, k⟩ b h1 h2 => ?_, fun h => ⟨h _ (Int.le_refl _) (by omega), fun b h1 h2 => h b (by omega) h2⟩⟩
    by_cases e : b = 6 - ((d + 1 : Nat) : Int)
    · rw [e]; exact h
    · exact k b (by omega) h2
theorem out_iff (rs : List Int) : ∀ d : Nat, out rs d = true ↔ ∀ a : Int, 6 - d ≤ a → a < 6 → ¬ 64 ≤ rd rs a ∧ bit rs a a = true ∧ inn rs a 6 = true
  | 0 => by simp only [out, true_iff]; intro b h1 h2; omega
  | d + 1 => by
    rw [out, Bool.and_eq_true, out_iff rs d]
    simp only [Bool.and_eq_true, Bool.not_eq_true', decide_eq_false_iff_not]
    refine ⟨fun ⟨⟨⟨h, k⟩, l⟩, m⟩ b h1 h2 => ?_, fun h => ?_⟩
    · by_cases e : b = 6 - ((d + 1 : Nat) : Int)
      · rw [e]; exact ⟨h, k, l⟩
      · exact m b (by omega) h2
    · obtain ⟨x, y, z⟩ := h _ (Int.le_refl _) (by omega)
      exact ⟨⟨⟨x, y⟩, z⟩, fun b h1 h2 => h b (by omega) h2⟩
theorem innI_iff (rs : List Int) (a : Int) : ∀ d : Nat, innI rs a d = true ↔ ∀ b : Int, a - d ≤ b → b < a → bit rs a b = bit rs b a
  | 0 => by simp only [innI, true_iff]; intro b h1 h2; omega
  | d + 1 => by
    rw [innI, Bool.and_eq_true, beq_iff_eq, innI_iff rs a d]
    refine ⟨fun ⟨h, k⟩ b h1 h2 => ?_, fun h => ⟨h _ (Int.le_refl _) (by omega), fun b h1 h2 => h b (by omega) h2⟩⟩
    by_cases e : b = a - ((d + 1 : Nat) : Int)
    · rw [e]; exact h
    · exact k b (by omega) h2
theorem outI_iff (rs : List Int) : ∀ d : Nat, d ≤ 6 → (outI rs d = true ↔ ∀ a : Int, 6 - d ≤ a → a < 6 → ¬ 64 ≤ rd rs a ∧ bit rs a a = true ∧ ∀ b : Int, 0 ≤ b → b < a → bit rs a b = bit rs b a)
  | 0, _ => by simp only [outI, true_iff]; intro b h1 h2; omega
  | d + 1, hd => by
    rw [outI, Bool.and_eq_true, outI_iff rs d (by omega)]
    simp only [Bool.and_eq_true, Bool.not_eq_true', decide_eq_false_iff_not, innI_iff]
    refine ⟨fun ⟨⟨⟨h, k⟩, l⟩, m⟩ b h1 h2 => ?_, fun h => ?_⟩
    · by_cases e : b = 6 - ((d + 1 : Nat) : Int)
      · rw [e]; exact ⟨h, k, fun c h3 h4 => l c (by omega) h4⟩
      · exact m b (by omega) h2
    · obtain ⟨x, y, z⟩ := h _ (Int.le_refl _) (by omega)
      exact ⟨⟨⟨x, y⟩, fun c h3 h4 => z c (by omega) h4⟩, fun b h1 h2 => h b (by omega) h2⟩
theorem outs (rs : List Int) : outI rs 6 = out rs 6 := by
  rw [Bool.eq_iff_iff, out_iff, outI_iff rs 6 (Nat.le_refl _)]
  simp only [inn_iff]
  refine ⟨fun h a h1 h2 => ?_, fun h a h1 h2 => ?_⟩
  · obtain ⟨x, y, z⟩ := h a h1 h2
    refine ⟨x, y, fun b h3 h4 => ?_⟩
    rcases Int.lt_trichotomy a b with hlt | rfl | hgt
    · exact ((h b (by omega) h4).2.2 a (by omega) hlt).symm
    · rfl
    · exact z b (by omega) hgt
  · obtain ⟨x, y, z⟩ := h a h1 h2
    exact ⟨x, y, fun b h3 h4 => z b (by omega) (by omega)⟩
def rsOk (rs : List Int) : Bool := out rs 6
def rsWf (rs : List Int) : Prop := ∀ a : Int, 0 ≤ a → a < 6 → 0 ≤ rd rs a ∧ rd rs a ≤ 255
theorem rsWf_of (a0 a1 a2 a3 a4 a5 : Int) (w0 : (Lit.int .u8 a0).wf = true) (w1 : (Lit.int .u8 a1).wf = true) (w2 : (Lit.int .u8 a2).wf = true) (w3 : (Lit.int .u8 a3).wf = true) (w4 : (Lit.int .u8 a4).wf = true) (w5 : (Lit.int .u8 a5).wf = true) : rsWf [a0, a1, a2, a3, a4, a5] := by
  have b0 := bounds_u8 w0
  have b1 := bounds_u8 w1
  have b2 := bounds_u8 w2
  have b3 := bounds_u8 w3
  have b4 := bounds_u8 w4
  have b5 := bounds_u8 w5
  intro a h0 h6
  have : a = 0 ∨ a = 1 ∨ a = 2 ∨ a = 3 ∨ a = 4 ∨ a = 5 := by omega
  rcases this with rfl | rfl | rfl | rfl | rfl | rfl <;> simp [rd] <;> omega
theorem rules_spec (a0 a1 a2 a3 a4 a5 : Int) : Ev (fun k => spec_l01Rules.f k a0 a1 a2 a3 a4 a5) (rsOk [a0, a1, a2, a3, a4, a5]) := by
  unfold spec_l01Rules.f
  exact spec_l0 a0 a1 a2 a3 a4 a5 6 0 (Nat.le_refl _) (by omega)
theorem rules_impl (a0 a1 a2 a3 a4 a5 : Int) (h : rsWf [a0, a1, a2, a3, a4, a5]) : Ev (fun k => impl_ValidRules.f k a0 a1 a2 a3 a4 a5) (rsOk [a0, a1, a2, a3, a4, a5]) := by
  have hi := impl_l0 a0 a1 a2 a3 a4 a5 (fun a h0 h6 => (h a h0 h6).1) 6 0 (Nat.le_refl _) (by omega)
  rw [outs] at hi
  unfold impl_ValidRules.f
  exact hi
def tb (x i : Int) : Bool := (Go.bits .and .u8 (shr .u8 x i) 1) == 1
theorem tb_nat (a j : Nat) (ha : a < 256) (hj : j < 8) : tb (a : Int) (j : Int) = a.testBit j := by
  have hm : min ((j : Int).toNat) (IntKind.u8.bits) = j := by
    show min ((j : Int).toNat) 8 = j
    rw [Int.toNat_natCast]
    omega
  have hs : shr .u8 (a : Int) (j : Int) = ((a / 2 ^ j : Nat) : Int) := by
    unfold shr
    rw [hm]
    norm_cast
  have hlt : a / 2 ^ j < 256 := Nat.lt_of_le_of_lt (Nat.div_le_self _ _) ha
  have hb := (bits_nat .u8 8 (by decide) wraps_u8 (a / 2 ^ j) 1 hlt (by decide)).1
  unfold tb
  rw [hs, show (1 : Int) = ((1 : Nat) : Int) from rfl, hb, Nat.and_one_is_mod, Nat.testBit_eq_decide_div_mod_eq]
  rw [Bool.eq_iff_iff, beq_iff_eq, decide_eq_true_eq]
  omega
theorem nat_of {x n : Int} (h0 : 0 ≤ x) (h1 : x < n) : ∃ a : Nat, x = (a : Int) ∧ (a : Int) < n := ⟨x.toNat, by omega, by omega⟩
theorem tb_and (x y i : Int) (hx0 : 0 ≤ x) (hx : x < 256) (hy0 : 0 ≤ y) (hy : y < 256) (hi0 : 0 ≤ i) (hi : i < 8) : tb (Go.bits .and .u8 x y) i = (tb x i && tb y i) := by
  obtain ⟨a, rfl, ha⟩ := nat_of hx0 hx
  obtain ⟨b, rfl, hb⟩ := nat_of hy0 hy
  obtain ⟨j, rfl, hj⟩ := nat_of hi0 hi
  rw [(bits_nat .u8 8 (by decide) wraps_u8 a b (by omega) (by omega)).1, tb_nat _ j (Nat.lt_of_le_of_lt Nat.and_le_left (by omega)) (by omega), tb_nat a j (by omega) (by omega), tb_nat b j (by omega) (by omega), Nat.testBit_and]
theorem and_range (x y : Int) (hx0 : 0 ≤ x) (hx : x < 64) (hy0 : 0 ≤ y) (hy : y < 256) : 0 ≤ Go.bits .and .u8 x y ∧ Go.bits .and .u8 x y < 64 := by
  obtain ⟨a, rfl, ha⟩ := nat_of hx0 hx
  obtain ⟨b, rfl, hb⟩ := nat_of hy0 hy
  rw [(bits_nat .u8 8 (by decide) wraps_u8 a b (by omega) (by omega)).1]
  have := @Nat.and_le_left a b
  omega
theorem one_shl (j : Nat) (hj : j < 6) : shl .u8 1 (j : Int) = ((2 ^ j : Nat) : Int) := by
  have : j = 0 ∨ j = 1 ∨ j = 2 ∨ j = 3 ∨ j = 4 ∨ j = 5 := by omega
  rcases this with rfl | rfl | rfl | rfl | rfl | rfl <;> rfl
theorem pow6 (j : Nat) (hj : j < 6) : 2 ^ j < 64 := by
  have : j = 0 ∨ j = 1 ∨ j = 2 ∨ j = 3 ∨ j = 4 ∨ j = 5 := by omega
  rcases this with rfl | rfl | rfl | rfl | rfl | rfl <;> decide
theorem or_range (x i : Int) (hx0 : 0 ≤ x) (hx : x < 64) (hi0 : 0 ≤ i) (hi : i < 6) : 0 ≤ Go.bits .or .u8 x (shl .u8 1 i) ∧ Go.bits .or .u8 x (shl .u8 1 i) < 64 := by
  obtain ⟨a, rfl, ha⟩ := nat_of hx0 hx
  obtain ⟨j, rfl, hj⟩ := nat_of hi0 hi
  have hp := pow6 j (by omega)
  rw [one_shl j (by omega), (bits_nat .u8 8 (by decide) wraps_u8 a (2 ^ j) (by omega) (by omega)).2]
  have := @Nat.or_lt_two_pow a (2 ^ j) 6 (by omega) (by omega)
  omega
theorem tb_or (x i k : Int) (hx0 : 0 ≤ x) (hx : x < 64) (hi0 : 0 ≤ i) (hi : i < 6) (hk0 : 0 ≤ k) (hk : k < 6) : tb (Go.bits .or .u8 x (shl .u8 1 i)) k = (tb x k || decide (i = k)) := by
  obtain ⟨a, rfl, ha⟩ := nat_of hx0 hx
  obtain ⟨j, rfl, hj⟩ := nat_of hi0 hi
  obtain ⟨c, rfl, hc⟩ := nat_of hk0 hk
  have hp := pow6 j (by omega)
  have hor := @Nat.or_lt_two_pow a (2 ^ j) 6 (by omega) (by omega)
  rw [one_shl j (by omega), (bits_nat .u8 8 (by decide) wraps_u8 a (2 ^ j) (by omega) (by omega)).2, tb_nat _ c (by omega) (by omega), tb_nat a c (by omega) (by omega), Nat.testBit_or, Nat.testBit_two_pow]
  congr 1
  rw [Bool.eq_iff_iff, decide_eq_true_eq, decide_eq_true_eq]
  omega
theorem andNot_zero (x y : Int) (hx0 : 0 ≤ x) (hx : x < 64) (hy0 : 0 ≤ y) (hy : y < 256) : Go.bits .andNot .u8 x y = 0 ↔ ∀ b : Int, 0 ≤ b → b < 6 → tb x b = true → tb y b = true := by
  obtain ⟨a, rfl, ha⟩ := nat_of hx0 hx
  obtain ⟨b, rfl, hb⟩ := nat_of hy0 hy
  rw [u8_andNot_nat a b (by omega) (by omega)]
  have hsub : 255 - b = 2 ^ 8 - (b + 1) := by omega
  refine ⟨fun h i hi0 hi hx => ?_, fun h => ?_⟩
  · obtain ⟨j, rfl, hj⟩ := nat_of hi0 hi
    rw [tb_nat a j (by omega) (by omega)] at hx
    rw [tb_nat b j (by omega) (by omega)]
    have h0 : a &&& (255 - b) = 0 := by omega
    have h1 : (a &&& (255 - b)).testBit j = false := by rw [h0]; exact Nat.zero_testBit j
    rw [Nat.testBit_and, hx, Bool.true_and, hsub, Nat.testBit_two_pow_sub_succ (by omega)] at h1
    simpa [show j < 8 by omega] using h1
  · have : a &&& (255 - b) = 0 := by
      apply Nat.eq_of_testBit_eq
      intro j
      rw [Nat.zero_testBit, Nat.testBit_and]
      by_cases hj : j < 6
      · have := h (j : Int) (by omega) (by omega)
        rw [tb_nat a j (by omega) (by omega), tb_nat b j (by omega) (by omega)] at this
        cases ha' : a.testBit j with
        | false => rfl
        | true => rw [Bool.true_and, hsub, Nat.testBit_two_pow_sub_succ (by omega), this ha']; simp
      · rw [Nat.testBit_lt_two_pow (Nat.lt_of_lt_of_le (show a < 2 ^ 6 by omega) (Nat.pow_le_pow_right (by decide) (by omega))), Bool.false_and]
    omega
theorem tb_ext (x y : Int) (hx0 : 0 ≤ x) (hx : x < 64) (hy0 : 0 ≤ y) (hy : y < 64) (h : ∀ b : Int, 0 ≤ b → b < 6 → tb x b = tb y b) : x = y := by
  obtain ⟨a, rfl, ha⟩ := nat_of hx0 hx
  obtain ⟨b, rfl, hb⟩ := nat_of hy0 hy
  have : a = b := by
    apply Nat.eq_of_testBit_eq
    intro j
    by_cases hj : j < 6
    · have := h (j : Int) (by omega) (by omega)
      rwa [tb_nat a j (by omega) (by omega), tb_nat b j (by omega) (by omega)] at this
    · rw [Nat.testBit_lt_two_pow (Nat.lt_of_lt_of_le (show a < 2 ^ 6 by omega) (Nat.pow_le_pow_right (by decide) (by omega))), Nat.testBit_lt_two_pow (Nat.lt_of_lt_of_le (show b < 2 ^ 6 by omega) (Nat.pow_le_pow_right (by decide) (by omega)))]
  omega
theorem tb_63 (b : Int) (h0 : 0 ≤ b) (h : b < 6) : tb 63 b = true := by
  have : b = 0 ∨ b = 1 ∨ b = 2 ∨ b = 3 ∨ b = 4 ∨ b = 5 := by omega
  rcases this with rfl | rfl | rfl | rfl | rfl | rfl <;> rfl
theorem bit_tb (rs : List Int) (a b : Int) : bit rs a b = tb (rd rs a) b := rfl
/-- What valid rules are, by bits. -/
structure RsV (rs : List Int) : Prop where
  lo : ∀ a : Int, 0 ≤ a → a < 6 → 0 ≤ rd rs a
  hi : ∀ a : Int, 0 ≤ a → a < 6 → rd rs a < 64
  refl : ∀ a : Int, 0 ≤ a → a < 6 → tb (rd rs a) a = true
  sym : ∀ a b : Int, 0 ≤ a → a < 6 → 0 ≤ b → b < 6 → tb (rd rs a) b = tb (rd rs b) a
theorem RsV.of {rs : List Int} (hw : rsWf rs) (h : rsOk rs = true) : RsV rs := by
  unfold rsOk at h
  rw [out_iff] at h
  refine ⟨fun a h0 h1 => (hw a h0 h1).1, fun a h0 h1 => by have := (h a (by omega) h1).1; omega, fun a h0 h1 => (h a (by omega) h1).2.1, fun a b h0 h1 h2 h3 => ?_⟩
  have := (inn_iff rs a 6).mp (h a (by omega) h1).2.2
  exact this b (by omega) h3
def fineK (rs : List Int) (s : Int) : Nat → Bool
  | 0 => true
  | d + 1 => (!tb s (6 - ((d + 1 : Nat) : Int)) || decide (Go.bits .andNot .u8 s (rd rs (6 - ((d + 1 : Nat) : Int))) = 0)) && fineK rs s d
theorem fineK_iff (rs : List Int) (s : Int) : ∀ d : Nat, fineK rs s d = true ↔ ∀ a : Int, 6 - d ≤ a → a < 6 → tb s a = true → Go.bits .andNot .u8 s (rd rs a) = 0
  | 0 => by simp only [fineK, true_iff]; intro b h1 h2; omega
  | d + 1 => by
    rw [fineK, Bool.and_eq_true, fineK_iff rs s d, Bool.or_eq_true, Bool.not_eq_true', decide_eq_true_eq]
    refine ⟨fun ⟨h, k⟩ a h1 h2 h3 => ?_, fun h => ⟨?_, fun a h1 h2 => h a (by omega) h2⟩⟩
    · by_cases e : a = 6 - ((d + 1 : Nat) : Int)
      · rw [e] at h3 ⊢
        rcases h with h | h
        · rw [h3] at h; cases h
        · exact h
      · exact k a (by omega) h2 h3
    · cases hc : tb s (6 - ((d + 1 : Nat) : Int)) with
      | false => exact .inl rfl
      | true => exact .inr (h _ (Int.le_refl _) (by omega) hc)
def Cliq (rs : List Int) (s : Int) : Prop := ∀ a b : Int, 0 ≤ a → a < 6 → 0 ≤ b → b < 6 → tb s a = true → tb s b = true → tb (rd rs a) b = true
theorem fine_iff {rs : List Int} (hv : RsV rs) (s : Int) (h0 : 0 ≤ s) (h1 : s < 64) : fineK rs s 6 = true ↔ Cliq rs s := by
  rw [fineK_iff]
  refine ⟨fun h a b ha0 ha1 hb0 hb1 hsa hsb => ?_, fun h a ha0 ha1 hsa => ?_⟩
  · exact (andNot_zero s _ h0 h1 (hv.lo a ha0 ha1) (by have := hv.hi a ha0 ha1; omega)).mp (h a (by omega) ha1 hsa) b hb0 hb1 hsb
  · exact (andNot_zero s _ h0 h1 (hv.lo a (by omega) ha1) (by have := hv.hi a (by omega) ha1; omega)).mpr (fun b hb0 hb1 hsb => h a b (by omega) ha1 hb0 hb1 hsa hsb)
def fullK (rs : List Int) (s : Int) : Nat → Bool
  | 0 => true
  | d + 1 => (tb s (6 - ((d + 1 : Nat) : Int)) || !fineK rs (Go.bits .or .u8 s (shl .u8 1 (6 - ((d + 1 : Nat) : Int)))) 6) && fullK rs s d
theorem fullK_iff (rs : List Int) (s : Int) : ∀ d : Nat, fullK rs s d = true ↔ ∀ a : Int, 6 - d ≤ a → a < 6 → tb s a = true ∨ fineK rs (Go.bits .or .u8 s (shl .u8 1 a)) 6 = false
  | 0 => by simp only [fullK, true_iff]; intro b h1 h2; omega
  | d + 1 => by
    rw [fullK, Bool.and_eq_true, fullK_iff rs s d, Bool.or_eq_true, Bool.not_eq_true']
    refine ⟨fun ⟨h, k⟩ a h1 h2 => ?_, fun h => ⟨h _ (Int.le_refl _) (by omega), fun a h1 h2 => h a (by omega) h2⟩⟩
    by_cases e : a = 6 - ((d + 1 : Nat) : Int)
    · rw [e]; exact h
    · exact k a (by omega) h2
def comK (rs : List Int) (s : Int) : Nat → Int → Int
  | 0, c => c
  | d + 1, c => comK rs s d (if tb s (6 - ((d + 1 : Nat) : Int)) = true then Go.bits .and .u8 c (rd rs (6 - ((d + 1 : Nat) : Int))) else c)
theorem comK_spec {rs : List Int} (hv : RsV rs) (s : Int) : ∀ (d : Nat) (c : Int), d ≤ 6 → 0 ≤ c → c < 64 → (0 ≤ comK rs s d c ∧ comK rs s d c < 64) ∧
    ∀ b : Int, 0 ≤ b → b < 6 → (tb (comK rs s d c) b = true ↔ tb c b = true ∧ ∀ a : Int, 6 - d ≤ a → a < 6 → tb s a = true → tb (rd rs a) b = true)
  | 0, c, _, h0, h1 => ⟨⟨h0, h1⟩, fun b _ _ => by simp only [comK]; exact ⟨fun h => ⟨h, fun a h2 h3 => by omega⟩, fun h => h.1⟩⟩
  | d + 1, c, hd, h0, h1 => by
    have ha0 : 0 ≤ 6 - ((d + 1 : Nat) : Int) := by omega
    have ha1 : 6 - ((d + 1 : Nat) : Int) < 6 := by omega
    have l := hv.lo _ ha0 ha1
    have u := hv.hi _ ha0 ha1
    rw [comK]
    by_cases hs : tb s (6 - ((d + 1 : Nat) : Int)) = true
    · rw [if_pos hs]
      have hr := and_range c _ h0 h1 l (show _ < 256 by omega)
      have ih := comK_spec hv s d _ (by omega) hr.1 hr.2
      refine ⟨ih.1, fun b hb0 hb1 => ?_⟩
      rw [ih.2 b hb0 hb1, tb_and c _ b h0 (by omega) l (by omega) hb0 (by omega), Bool.and_eq_true]
      refine ⟨fun ⟨⟨x, y⟩, z⟩ => ⟨x, fun a h2 h3 h4 => ?_⟩, fun ⟨x, z⟩ => ⟨⟨x, z _ (Int.le_refl _) ha1 hs⟩, fun a h2 h3 h4 => z a (by omega) h3 h4⟩⟩
      by_cases e : a = 6 - ((d + 1 : Nat) : Int)
      · rw [e]; exact y
      · exact z a (by omega) h3 h4
    · rw [if_neg hs]
      have ih := comK_spec hv s d c (by omega) h0 h1
      refine ⟨ih.1, fun b hb0 hb1 => ?_⟩
      rw [ih.2 b hb0 hb1]
      refine ⟨fun ⟨x, z⟩ => ⟨x, fun a h2 h3 h4 => ?_⟩, fun ⟨x, z⟩ => ⟨x, fun a h2 h3 h4 => z a (by omega) h3 h4⟩⟩
      by_cases e : a = 6 - ((d + 1 : Nat) : Int)
      · rw [e] at h4; exact absurd h4 hs
      · exact z a (by omega) h3 h4
theorem same_sets {rs : List Int} (hv : RsV rs) (s : Int) (h0 : 0 ≤ s) (h1 : s < 64) : decide (comK rs s 6 63 = s) = (fineK rs s 6 && fullK rs s 6) := by
  have hc := comK_spec hv s 6 63 (Nat.le_refl _) (by omega) (by omega)
  rw [Bool.eq_iff_iff, decide_eq_true_eq, Bool.and_eq_true, fine_iff hv s h0 h1, fullK_iff]
  constructor
  · intro h
    have hq : ∀ b : Int, 0 ≤ b → b < 6 → (tb s b = true ↔ ∀ a : Int, 0 ≤ a → a < 6 → tb s a = true → tb (rd rs a) b = true) := by
      intro b hb0 hb1
      have := hc.2 b hb0 hb1
      rw [h] at this
      rw [this]
      exact ⟨fun k a h2 h3 h4 => k.2 a (by omega) h3 h4, fun k => ⟨tb_63 b hb0 hb1, fun a h2 h3 h4 => k a (by omega) h3 h4⟩⟩
    refine ⟨fun a b ha0 ha1 hb0 hb1 hsa hsb => (hq b hb0 hb1).mp hsb a ha0 ha1 hsa, fun a ha0 ha1 => ?_⟩
    cases hsa : tb s a with
    | true => exact .inl rfl
    | false =>
      right
      have ha0' : 0 ≤ a := by omega
      have hr := or_range s a h0 h1 ha0' ha1
      by_cases hf : fineK rs (Go.bits .or .u8 s (shl .u8 1 a)) 6 = true
      · rw [fine_iff hv _ hr.1 hr.2] at hf
        have : tb s a = true := (hq a ha0' ha1).mpr (fun c hc0 hc1 hsc => by
          refine hf c a hc0 hc1 ha0' ha1 ?_ ?_
          · rw [tb_or s a c h0 h1 ha0' ha1 hc0 hc1, hsc]; rfl
          · rw [tb_or s a a h0 h1 ha0' ha1 ha0' ha1]; simp)
        rw [hsa] at this
        cases this
      · exact Bool.not_eq_true _ |>.mp hf
  · rintro ⟨hf, hfull⟩
    refine tb_ext _ _ hc.1.1 hc.1.2 h0 h1 (fun b hb0 hb1 => ?_)
    rw [Bool.eq_iff_iff, hc.2 b hb0 hb1]
    constructor
    · rintro ⟨_, hall⟩
      rcases hfull b (by omega) hb1 with h | h
      · exact h
      · have hr := or_range s b h0 h1 hb0 hb1
        have : fineK rs (Go.bits .or .u8 s (shl .u8 1 b)) 6 = true := by
          rw [fine_iff hv _ hr.1 hr.2]
          intro x y hx0 hx1 hy0 hy1 hsx hsy
          rw [tb_or s b x h0 h1 hb0 hb1 hx0 hx1, Bool.or_eq_true, decide_eq_true_eq] at hsx
          rw [tb_or s b y h0 h1 hb0 hb1 hy0 hy1, Bool.or_eq_true, decide_eq_true_eq] at hsy
          rcases hsx with hsx | rfl
          · rcases hsy with hsy | rfl
            · exact hf x y hx0 hx1 hy0 hy1 hsx hsy
            · exact hall x (by omega) hx1 hsx
          · rcases hsy with hsy | rfl
            · rw [hv.sym b y hx0 hx1 hy0 hy1]
              exact hall y (by omega) hy1 hsy
            · exact hv.refl b hx0 hx1
        rw [h] at this
        cases this
    · intro hsb
      exact ⟨tb_63 b hb0 hb1, fun a ha0 ha1 hsa => hf a b (by omega) ha1 hb0 hb1 hsa hsb⟩
theorem eqByteS_l0 (l : List Int) (hl : l.length ≤ 1048576) : ∀ (cs pre : List Int), l = pre ++ cs → Ev (fun k => laws_eqByteS.l0 k l l (pre.length : Int)) true := by
  intro cs
  induction cs with
  | nil =>
    intro pre hpre
    refine Ev.step (fun k => by rw [laws_eqByteS.l0]) ?_
    have : l.length = pre.length := by rw [hpre]; simp
    simp only [show ¬ (pre.length : Int) < (l.length : Int) by omega, ↓reduceIte]
    exact Ev.now _
  | cons c cs ih =>
    intro pre hpre
    have hlen : l.length = pre.length + cs.length + 1 := by rw [hpre]; simp; omega
    have hnext := ih (pre ++ [c]) (by rw [hpre]; simp)
    simp only [List.length_append, List.length_cons, List.length_nil, Nat.zero_add] at hnext
    refine Ev.step (fun k => by rw [laws_eqByteS.l0]) ?_
    simp only [show (pre.length : Int) < (l.length : Int) by omega, show (0 : Int) ≤ (pre.length : Int) by omega, ↓reduceIte, wsuc (show pre.length < l.length by omega) hl]
    exact hnext
theorem eqByteS_ev (l : List Int) (hl : l.length ≤ 1048576) : Ev (fun k => laws_eqByteS.f k l l) true := by
  unfold laws_eqByteS.f
  simp only [↓reduceIte]
  exact eqByteS_l0 l hl l [] rfl
def upFrom : Nat → Nat → List Int
  | _, 0 => []
  | a, n + 1 => (a : Int) :: upFrom (a + 1) n
theorem upFrom_len : ∀ n a, (upFrom a n).length = n
  | 0, _ => rfl
  | n + 1, a => by simp [upFrom, upFrom_len n]
theorem upFrom_snoc : ∀ n a, upFrom a (n + 1) = upFrom a n ++ [((a + n : Nat) : Int)]
  | 0, a => by simp [upFrom]
  | n + 1, a => by rw [upFrom, upFrom_snoc n (a + 1), upFrom, List.cons_append, show a + 1 + n = a + (n + 1) by omega]
theorem markByteS_l0 : ∀ (cs : List Int) (n : Nat), n + cs.length ≤ 250 → Ev (fun k => laws_markByteS.l0 k (upFrom 1 n ++ cs) ((n + 1 : Nat) : Int) (n : Int)) (((n + cs.length + 1 : Nat) : Int), upFrom 1 (n + cs.length)) := by
  intro cs
  induction cs with
  | nil =>
    intro n hn
    refine Ev.step (fun k => by rw [laws_markByteS.l0]) ?_
    have : (upFrom 1 n).length = n := upFrom_len n 1
    simp only [List.append_nil, List.length_nil, Nat.add_zero, show ¬ (n : Int) < ((upFrom 1 n).length : Int) by omega, ↓reduceIte]
    exact Ev.now _
  | cons c cs ih =>
    intro n hn
    have hnext := ih (n + 1) (by simp only [List.length_cons] at hn; omega)
    simp only [List.length_cons] at hn
    have hlen : (upFrom 1 n ++ c :: cs).length = n + cs.length + 1 := by simp [upFrom_len]; omega
    have hset : (upFrom 1 n ++ c :: cs).set (n : Int).toNat ((n + 1 : Nat) : Int) = upFrom 1 (n + 1) ++ cs := by
      rw [Int.toNat_natCast, List.set_append_right _ _ (by simp [upFrom_len]), upFrom_len, Nat.sub_self, List.set_cons_zero, upFrom_snoc, Nat.add_comm 1 n]
      simp
    refine Ev.step (fun k => by rw [laws_markByteS.l0]) ?_
    have hw : wrap64 (((n + 1 : Nat) : Int) + 1) = ((n + 1 + 1 : Nat) : Int) := by unfold wrap64; omega
    have hmod : ((n + 1 : Nat) : Int) % 256 = ((n + 1 : Nat) : Int) := by omega
    have hw0 : wrap64 ((n : Int) + 1) = ((n + 1 : Nat) : Int) := by unfold wrap64; omega
    simp only [show (n : Int) < ((upFrom 1 n ++ c :: cs).length : Int) by omega, show (0 : Int) ≤ (n : Int) by omega, ↓reduceIte, hmod, hset, hw, hw0]
    rw [show n + (c :: cs).length = n + 1 + cs.length by simp only [List.length_cons]; omega]
    exact hnext
theorem markByteS_ev (l : List Int) (hl : l.length ≤ 250) : Ev (fun k => laws_markByteS.f k l 1) (((l.length + 1 : Nat) : Int), upFrom 1 l.length) := by
  unfold laws_markByteS.f
  have := markByteS_l0 l 0 (by omega)
  simpa [upFrom] using this
theorem heldByteS_l0 (m : Nat) (hm : m ≤ 250) : ∀ (d n : Nat), n + d = m → Ev (fun k => laws_heldByteS.l0 k (upFrom 1 m) ((n + 1 : Nat) : Int) (n : Int)) ((m + 1 : Nat) : Int) := by
  intro d
  induction d with
  | zero =>
    intro n hn
    refine Ev.step (fun k => by rw [laws_heldByteS.l0]) ?_
    have : (upFrom 1 m).length = m := upFrom_len m 1
    simp only [show ¬ (n : Int) < ((upFrom 1 m).length : Int) by omega, ↓reduceIte]
    rw [show n = m by omega]
    exact Ev.now _
  | succ d ih =>
    intro n hn
    have hlen : (upFrom 1 m).length = m := upFrom_len m 1
    have hget : ∀ (m a n : Nat), n < m → rd (upFrom a m) (n : Int) = ((a + n : Nat) : Int) := by
      intro m
      induction m with
      | zero => intro a n h; omega
      | succ m ihm =>
        intro a n h
        match n, h with
        | 0, _ => simp [rd, upFrom]
        | n + 1, h =>
          have := ihm (a + 1) n (by omega)
          simp only [rd, Int.toNat_natCast] at this ⊢
          rw [upFrom, List.getD_cons_succ, this, show a + 1 + n = a + (n + 1) by omega]
    have hr : rd (upFrom 1 m) (n : Int) = ((n + 1 : Nat) : Int) := by rw [hget m 1 n (by omega), Nat.add_comm]
    have hw : wrap64 (((n + 1 : Nat) : Int) + 1) = ((n + 1 + 1 : Nat) : Int) := by unfold wrap64; omega
    have hmod : ((n + 1 : Nat) : Int) % 256 = ((n + 1 : Nat) : Int) := by omega
    have hw0 : wrap64 ((n : Int) + 1) = ((n + 1 : Nat) : Int) := by unfold wrap64; omega
    refine Ev.step (fun k => by rw [laws_heldByteS.l0]) ?_
    simp only [show (n : Int) < ((upFrom 1 m).length : Int) by omega, show (0 : Int) ≤ (n : Int) by omega, ↓reduceIte, hr, hmod, hw, hw0]
    exact ih (n + 1) (by omega)
theorem heldByteS_ev (m : Nat) (hm : m ≤ 250) : Ev (fun k => laws_heldByteS.f k (upFrom 1 m) 1) ((m + 1 : Nat) : Int) := by
  unfold laws_heldByteS.f
  have := heldByteS_l0 m hm m 0 (by omega)
  simpa using this
def setsK (rs : List Int) : Nat → List Int → List Int
  | 0, o => o
  | d + 1, o => setsK rs d (if comK rs (64 - ((d + 1 : Nat) : Int)) 6 63 = 64 - ((d + 1 : Nat) : Int) then o ++ [64 - ((d + 1 : Nat) : Int)] else o)
theorem setsK_len (rs : List Int) : ∀ (d : Nat) (o : List Int), (setsK rs d o).length ≤ o.length + d
  | 0, o => Nat.le_refl _
  | d + 1, o => by
    rw [setsK]
    refine Nat.le_trans (setsK_len rs d _) ?_
    split <;> simp <;> omega
theorem setsK_byte (rs : List Int) : ∀ (d : Nat) (o : List Int), d ≤ 63 → (∀ x ∈ o, 0 ≤ x ∧ x < 256) → ∀ x ∈ setsK rs d o, 0 ≤ x ∧ x < 256
  | 0, o, _, h => h
  | d + 1, o, hd, h => by
    rw [setsK]
    refine setsK_byte rs d _ (by omega) ?_
    split
    · intro x hx
      rcases List.mem_append.mp hx with hx | hx
      · exact h x hx
      · rw [List.mem_singleton] at hx; omega
    · exact h
section
variable (a0 a1 a2 a3 a4 a5 : Int) (hv : RsV [a0, a1, a2, a3, a4, a5])
theorem w6 {i : Int} (h0 : 0 ≤ i) (h : i < 6) : wrap64 (i + 1) = i + 1 := by unfold wrap64; omega
theorem bitT (s i : Int) (h0 : 0 ≤ i) (h : i < 6) : spec_l01Bit.f s i = some (tb s i) := by
  have e : IntKind.u64.wrap i = i := by rw [IntKind.wrap_u64]; omega
  unfold spec_l01Bit.f tb
  rw [e, if_pos h0]
theorem spec_fine_l0 (s : Int) : ∀ (d : Nat) (x : Int), d ≤ 6 → x = 6 - d → Ev (fun k => spec_l01Fine.l0 k s x a0 a1 a2 a3 a4 a5) (fineK [a0, a1, a2, a3, a4, a5] s d) := by
  intro d
  induction d with
  | zero =>
    intro x _ hx
    refine Ev.step (fun k => by rw [spec_l01Fine.l0]) ?_
    simp only [show ¬ x < 6 by omega, ↓reduceIte]
    exact Ev.now true
  | succ d ih =>
    intro x hd hx
    refine Ev.step (fun k => by rw [spec_l01Fine.l0]) ?_
    simp only [show x < 6 by omega, show 0 ≤ x by omega, ↓reduceIte, bitT s x (by omega) (by omega), Option.bind_some, w6 (show 0 ≤ x by omega) (show x < 6 by omega)]
    rw [fineK, ← hx]
    cases hb : tb s x with
    | false =>
      simp only [Bool.false_eq_true, ↓reduceIte, Bool.not_false, Bool.true_or, Bool.true_and]
      exact ih (x + 1) (by omega) (by omega)
    | true =>
      simp only [↓reduceIte, Bool.not_true, Bool.false_or]
      by_cases h : Go.bits .andNot .u8 s (rd [a0, a1, a2, a3, a4, a5] x) = 0
      · simp only [h, ↓reduceIte, decide_true, Bool.true_and]
        exact ih (x + 1) (by omega) (by omega)
      · simp only [h, ↓reduceIte, decide_false, Bool.false_and]
        exact Ev.now _
theorem spec_fine_ev (s : Int) : Ev (fun k => spec_l01Fine.f k a0 a1 a2 a3 a4 a5 s) (fineK [a0, a1, a2, a3, a4, a5] s 6) := by
  unfold spec_l01Fine.f
  exact spec_fine_l0 a0 a1 a2 a3 a4 a5 s 6 0 (Nat.le_refl _) (by omega)
theorem spec_sets_l1 (o : List Int) (ho : o.length ≤ 1048576) (s : Int) (h0 : 0 ≤ s) (h64 : s < 64) (R : List Int × Int) : ∀ (d : Nat) (x : Int) (t : Bool), d ≤ 6 → x = 6 - d →
    Ev (fun k => spec_ColourSets.l0 k (if (t && fullK [a0, a1, a2, a3, a4, a5] s d) = true then o ++ [s] else o) (s + 1) a0 a1 a2 a3 a4 a5) R →
    Ev (fun k => spec_ColourSets.l1 k o s t x a0 a1 a2 a3 a4 a5) R := by
  have hm : (s + 1) % 256 = s + 1 := by omega
  have hend : ∀ (t : Bool) (x : Int), Ev (fun k => spec_ColourSets.l0 k (if t = true then o ++ [s] else o) (s + 1) a0 a1 a2 a3 a4 a5) R → Ev (fun k => spec_ColourSets.j2 k o s t x false a0 a1 a2 a3 a4 a5) R := by
    intro t x h
    refine Ev.step (fun k => by rw [spec_ColourSets.j2]) ?_
    cases t with
    | true =>
      simp only [Bool.false_eq_true, ↓reduceIte, show o.length < 140737488355328 by omega, hm] at h ⊢
      exact h
    | false =>
      simp only [Bool.false_eq_true, ↓reduceIte, hm] at h ⊢
      exact h
  intro d
  induction d with
  | zero =>
    intro x t _ hx hR
    rw [fullK, Bool.and_true] at hR
    refine Ev.step (fun k => by rw [spec_ColourSets.l1]) ?_
    simp only [show ¬ x < 6 by omega, ↓reduceIte]
    exact hend t x hR
  | succ d ih =>
    intro x t hd hx hR
    refine Ev.step (fun k => by rw [spec_ColourSets.l1]) ?_
    simp only [show x < 6 by omega, ↓reduceIte]
    cases t with
    | false =>
      rw [Bool.false_and] at hR
      exact hend false x hR
    | true =>
      refine Ev.step (fun k => by rw [spec_ColourSets.j2]) ?_
      have e : IntKind.u64.wrap x = x := by rw [IntKind.wrap_u64]; omega
      simp only [↓reduceIte, bitT s x (by omega) (by omega), Option.bind_some, w6 (show 0 ≤ x by omega) (show x < 6 by omega), e, show 0 ≤ x by omega]
      rw [fullK, ← hx, Bool.true_and] at hR
      cases hb : tb s x with
      | true =>
        rw [hb, Bool.true_or] at hR
        simp only [↓reduceIte]
        exact ih (x + 1) true (by omega) (by omega) hR
      | false =>
        rw [hb, Bool.false_or] at hR
        simp only [Bool.false_eq_true, ↓reduceIte]
        refine Ev.bind (spec_fine_ev a0 a1 a2 a3 a4 a5 _) ?_
        exact ih (x + 1) _ (by omega) (by omega) hR
include hv in
theorem spec_sets_l0 : ∀ (d : Nat) (o : List Int) (s : Int), d ≤ 63 → s = 64 - d → o.length + d ≤ 1000 → Ev (fun k => spec_ColourSets.l0 k o s a0 a1 a2 a3 a4 a5) (setsK [a0, a1, a2, a3, a4, a5] d o, 0) := by
  intro d
  induction d with
  | zero =>
    intro o s _ hs ho
    refine Ev.step (fun k => by rw [spec_ColourSets.l0]) ?_
    simp only [show ¬ s < 64 by omega, ↓reduceIte]
    exact Ev.now _
  | succ d ih =>
    intro o s hd hs ho
    refine Ev.step (fun k => by rw [spec_ColourSets.l0]) ?_
    simp only [show s < 64 by omega, ↓reduceIte]
    refine Ev.bind (spec_fine_ev a0 a1 a2 a3 a4 a5 s) ?_
    refine spec_sets_l1 a0 a1 a2 a3 a4 a5 o (by omega) s (by omega) (by omega) _ 6 0 _ (Nat.le_refl _) (by omega) ?_
    rw [← same_sets hv s (by omega) (by omega), setsK, ← hs]
    by_cases h : comK [a0, a1, a2, a3, a4, a5] s 6 63 = s
    · simp only [h, decide_true, ↓reduceIte]
      exact ih _ (s + 1) (by omega) (by omega) (by simp; omega)
    · simp only [h, decide_false, Bool.false_eq_true, ↓reduceIte]
      exact ih _ (s + 1) (by omega) (by omega) (by omega)
theorem impl_sets_l1 (o : List Int) (ho : o.length ≤ 1048576) (s : Int) (h0 : 0 ≤ s) (h64 : s < 64) (R : List Int × Int) : ∀ (d : Nat) (x c : Int), d ≤ 6 → x = 6 - d →
    Ev (fun k => impl_ColourSets.l0 k (if comK [a0, a1, a2, a3, a4, a5] s d c = s then o ++ [s] else o) (s + 1) a0 a1 a2 a3 a4 a5) R →
    Ev (fun k => impl_ColourSets.l1 k o s c x a0 a1 a2 a3 a4 a5) R := by
  have hm : (s + 1) % 256 = s + 1 := by omega
  intro d
  induction d with
  | zero =>
    intro x c _ hx hR
    rw [comK] at hR
    refine Ev.step (fun k => by rw [impl_ColourSets.l1]) ?_
    simp only [show ¬ x < 6 by omega, ↓reduceIte, show o.length < 140737488355328 by omega, hm]
    by_cases h : c = s
    · simp only [h, ↓reduceIte] at hR ⊢; exact hR
    · simp only [h, ↓reduceIte] at hR ⊢; exact hR
  | succ d ih =>
    intro x c hd hx hR
    refine Ev.step (fun k => by rw [impl_ColourSets.l1]) ?_
    rw [comK, ← hx] at hR
    have hm2 : (x + 1) % 256 = x + 1 := by omega
    simp only [show x < 6 by omega, show 0 ≤ x by omega, ↓reduceIte, hm2]
    by_cases h : tb s x = true
    · have h' : Go.bits .and .u8 (shr .u8 s x) 1 = 1 := by unfold tb at h; exact beq_iff_eq.mp h
      rw [if_pos h] at hR
      simp only [h', ↓reduceIte]
      exact ih (x + 1) _ (by omega) (by omega) hR
    · have h' : ¬ Go.bits .and .u8 (shr .u8 s x) 1 = 1 := fun e => h (by unfold tb; exact beq_iff_eq.mpr e)
      rw [if_neg h] at hR
      simp only [h', ↓reduceIte]
      exact ih (x + 1) _ (by omega) (by omega) hR
theorem impl_sets_l0 : ∀ (d : Nat) (o : List Int) (s : Int), d ≤ 63 → s = 64 - d → o.length + d ≤ 1000 → Ev (fun k => impl_ColourSets.l0 k o s a0 a1 a2 a3 a4 a5) (setsK [a0, a1, a2, a3, a4, a5] d o, 0) := by
  intro d
  induction d with
  | zero =>
    intro o s _ hs ho
    refine Ev.step (fun k => by rw [impl_ColourSets.l0]) ?_
    simp only [show ¬ s < 64 by omega, ↓reduceIte]
    exact Ev.now _
  | succ d ih =>
    intro o s hd hs ho
    refine Ev.step (fun k => by rw [impl_ColourSets.l0]) ?_
    simp only [show s < 64 by omega, ↓reduceIte]
    refine impl_sets_l1 a0 a1 a2 a3 a4 a5 o (by omega) s (by omega) (by omega) _ 6 0 63 (Nat.le_refl _) (by omega) ?_
    rw [setsK, ← hs]
    by_cases h : comK [a0, a1, a2, a3, a4, a5] s 6 63 = s
    · simp only [h, ↓reduceIte]
      exact ih _ (s + 1) (by omega) (by omega) (by simp; omega)
    · simp only [h, ↓reduceIte]
      exact ih _ (s + 1) (by omega) (by omega) (by omega)
end
def setsR (rs : List Int) : List Int × Int := if rsOk rs = true then (setsK rs 63 [], 0) else ([], 1)
theorem sets_spec (a0 a1 a2 a3 a4 a5 : Int) (hw : rsWf [a0, a1, a2, a3, a4, a5]) : Ev (fun k => spec_ColourSets.f k a0 a1 a2 a3 a4 a5) (setsR [a0, a1, a2, a3, a4, a5]) := by
  unfold spec_ColourSets.f setsR
  simp only [Option.bind_some]
  refine Ev.bind (rules_spec a0 a1 a2 a3 a4 a5) ?_
  by_cases h : rsOk [a0, a1, a2, a3, a4, a5] = true
  · simp only [h, ↓reduceIte]
    exact spec_sets_l0 a0 a1 a2 a3 a4 a5 (RsV.of hw h) 63 [] 1 (Nat.le_refl _) (by omega) (by simp)
  · simp only [h, Bool.false_eq_true, ↓reduceIte]; exact Ev.now _
theorem sets_impl (a0 a1 a2 a3 a4 a5 : Int) (hw : rsWf [a0, a1, a2, a3, a4, a5]) : Ev (fun k => impl_ColourSets.f k a0 a1 a2 a3 a4 a5) (setsR [a0, a1, a2, a3, a4, a5]) := by
  unfold impl_ColourSets.f setsR
  refine Ev.bind (rules_impl a0 a1 a2 a3 a4 a5 hw) ?_
  by_cases h : rsOk [a0, a1, a2, a3, a4, a5] = true
  · simp only [h, ↓reduceIte]
    exact impl_sets_l0 a0 a1 a2 a3 a4 a5 63 [] 1 (Nat.le_refl _) (by omega) (by simp)
  · simp only [h, Bool.false_eq_true, ↓reduceIte]; exact Ev.now _
theorem FnExactColourSets (a0_0 : Int) (a0_1 : Int) (a0_2 : Int) (a0_3 : Int) (a0_4 : Int) (a0_5 : Int) (w0_0 : (Lit.int .u8 a0_0).wf = true) (w0_1 : (Lit.int .u8 a0_1).wf = true) (w0_2 : (Lit.int .u8 a0_2).wf = true) (w0_3 : (Lit.int .u8 a0_3).wf = true) (w0_4 : (Lit.int .u8 a0_4).wf = true) (w0_5 : (Lit.int .u8 a0_5).wf = true) : ∃ k, laws_FnExactColourSets.f k a0_0 a0_1 a0_2 a0_3 a0_4 a0_5 = some true := by
  have hw := rsWf_of a0_0 a0_1 a0_2 a0_3 a0_4 a0_5 w0_0 w0_1 w0_2 w0_3 w0_4 w0_5
  have hR : (setsR [a0_0, a0_1, a0_2, a0_3, a0_4, a0_5]).1.length ≤ 250 := by
    unfold setsR
    split
    · have := setsK_len [a0_0, a0_1, a0_2, a0_3, a0_4, a0_5] 63 []
      simp at this ⊢
      omega
    · simp
  refine Ev.rounds ?_
  unfold laws_FnExactColourSets.f
  simp only [laws_toRules.f, Option.bind_some]
  refine Ev.bind (sets_spec _ _ _ _ _ _ hw) ?_
  refine Ev.bind (sets_impl _ _ _ _ _ _ hw) ?_
  refine Ev.bind (eqByteS_ev _ (by omega)) ?_
  simp only [↓reduceIte, bne_self_eq_false]
  refine Ev.step (fun k => by rw [laws_FnExactColourSets.j0]) ?_
  simp only [Bool.false_eq_true, ↓reduceIte]
  refine Ev.bind (markByteS_ev _ hR) ?_
  refine Ev.bind (heldByteS_ev _ hR) ?_
  simp only [show ∀ n : Nat, ¬ ((n + 1 : Nat) : Int) < 0 by intro n; omega, ↓reduceIte, laws_toRules.f, Option.bind_some]
  refine Ev.bind (sets_impl _ _ _ _ _ _ hw) ?_
  refine Ev.bind (eqByteS_ev _ (by omega)) ?_
  simp only [↓reduceIte, bne_self_eq_false]
  refine Ev.step (fun k => by rw [laws_FnExactColourSets.j1]) ?_
  simp only [Bool.false_eq_true, ↓reduceIte]
  refine Ev.bind (heldByteS_ev _ hR) ?_
  simp only [show ∀ n : Nat, ¬ ((n + 1 : Nat) : Int) < 0 by intro n; omega, ↓reduceIte]
  exact Ev.now _
end Go.Proofs.Ythodfhcaaidnmaa.Pure
