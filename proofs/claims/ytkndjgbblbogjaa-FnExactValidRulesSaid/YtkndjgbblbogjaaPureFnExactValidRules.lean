/- The plain law of FnExactValidRules. -/
import Derived.Test.YtkndjgbblbogjaaV2
import Derived.OpenShut
namespace Go.Proofs.Ytkndjgbblbogjaa.Pure
set_option linter.unusedSimpArgs false
set_option linter.unusedVariables false
open Go.RowKit Go.Proofs.Ytkndjgbblbogjaa.V Go.Proofs.YtkndjgbblbogjaaW.PrintWords Go.Proofs.YtkndjgbblbogjaaW.PrintLast Go.Proofs.YtkndjgbblbogjaaW.PrintMore

def bit (rs : List Int) (a b : Int) : Bool := (Go.bits .and .u8 (shr .u8 (rd rs a) b) 1) == 1
theorem l01Bit_eq (rs : List Int) (a b : Int) (h0 : 0 ≤ b) (h1 : b < 6) : spec_l01Bit.f (rd rs a) b = some (bit rs a b) := by
  have e : IntKind.u64.wrap b = b := by rw [IntKind.wrap_u64]; omega
  unfold spec_l01Bit.f bit
  rw [e, if_pos h0]
def inn (rs : List Int) (a : Int) : Nat → Bool
  | 0 => true
  | d + 1 => (bit rs a (6 - ((d + 1 : Nat) : Int)) == bit rs (6 - ((d + 1 : Nat) : Int)) a) && inn rs a d
def out (rs : List Int) : Nat → Bool
  | 0 => true
  | d + 1 => (!decide (64 ≤ rd rs (6 - ((d + 1 : Nat) : Int))) && bit rs (6 - ((d + 1 : Nat) : Int)) (6 - ((d + 1 : Nat) : Int)) && inn rs (6 - ((d + 1 : Nat) : Int)) 6) && out rs d
section
variable (a0 a1 a2 a3 a4 a5 : Int)
theorem wrap_small {i : Int} (h0 : 0 ≤ i) (h : i < 6) : wrap64 (i + 1) = i + 1 := by unfold wrap64; omega
theorem spec_l1 (a : Int) (h0 : 0 ≤ a) (h6 : a < 6) (R : Bool) (hR : Ev (fun k => spec_l01Rules.l0 k (a + 1) a0 a1 a2 a3 a4 a5) R) : ∀ (d : Nat) (b : Int), d ≤ 6 → b = 6 - d →
    Ev (fun k => spec_l01Rules.l1 k a b a0 a1 a2 a3 a4 a5) (inn [a0, a1, a2, a3, a4, a5] a d && R) := by
  intro d
  induction d with
  | zero =>
    intro b _ hb
    refine Ev.step (fun k => by rw [spec_l01Rules.l1]) ?_
    simp only [show ¬ b < 6 by omega, ↓reduceIte, wrap_small h0 h6]
    exact hR
  | succ d ih =>
    intro b hd hb
    refine Ev.step (fun k => by rw [spec_l01Rules.l1]) ?_
    have hb0 : 0 ≤ b := by omega
    have hb6 : b < 6 := by omega
    simp only [hb6, h0, h6, hb0, ↓reduceIte, l01Bit_eq _ _ _ hb0 hb6, l01Bit_eq _ _ _ h0 h6, Option.bind_some, wrap_small hb0 hb6]
    rw [inn, ← hb]
    by_cases he : bit [a0, a1, a2, a3, a4, a5] a b = bit [a0, a1, a2, a3, a4, a5] b a
    · simp only [he, bne_self_eq_false, Bool.false_eq_true, ↓reduceIte, beq_self_eq_true, Bool.true_and]
      exact ih (b + 1) (by omega) (by omega)
    · simp only [bne_iff_ne.mpr he, ↓reduceIte, beq_eq_false_iff_ne.mpr he, Bool.false_and]
      exact Ev.now false
theorem spec_l0 : ∀ (d : Nat) (a : Int), d ≤ 6 → a = 6 - d → Ev (fun k => spec_l01Rules.l0 k a a0 a1 a2 a3 a4 a5) (out [a0, a1, a2, a3, a4, a5] d) := by
  intro d
  induction d with
  | zero =>
    intro a _ ha
    refine Ev.step (fun k => by rw [spec_l01Rules.l0]) ?_
    simp only [show ¬ a < 6 by omega, ↓reduceIte]
    exact Ev.now true
  | succ d ih =>
    intro a hd ha
    have h0 : 0 ≤ a := by omega
    have h6 : a < 6 := by omega
    refine Ev.step (fun k => by rw [spec_l01Rules.l0]) ?_
    simp only [h6, h0, ↓reduceIte, l01Bit_eq _ _ _ h0 h6, Option.bind_some]
    rw [out, ← ha]
    by_cases h64 : rd [a0, a1, a2, a3, a4, a5] a ≥ 64
    · simp only [h64, ↓reduceIte, decide_true, Bool.not_true, Bool.false_and]
      refine Ev.step (fun k => by rw [spec_l01Rules.j1]) ?_
      simp only [↓reduceIte]
      exact Ev.now false
    · simp only [h64, ↓reduceIte, decide_false, Bool.not_false, Bool.true_and]
      refine Ev.step (fun k => by rw [spec_l01Rules.j1]) ?_
      cases hb : bit [a0, a1, a2, a3, a4, a5] a a with
      | false => exact Ev.now false
      | true =>
        simp only [Bool.not_true, Bool.false_eq_true, ↓reduceIte, Bool.not_false, Bool.true_and]
        exact spec_l1 a0 a1 a2 a3 a4 a5 a h0 h6 _ (ih (a + 1) (by omega) (by omega)) 6 0 (by omega) (by omega)

theorem may_eq (a b : Int) (h0 : 0 ≤ a) (h6 : a < 6) (hb : 0 ≤ b) : impl_Rules_may.f a0 a1 a2 a3 a4 a5 a b = some (bit [a0, a1, a2, a3, a4, a5] a b) := by
  unfold impl_Rules_may.f
  rw [if_pos ⟨h0, h6, hb⟩]
  rfl
/-- The program's own order: below the diagonal alone. -/
def innI (rs : List Int) (a : Int) : Nat → Bool
  | 0 => true
  | d + 1 => (bit rs a (a - ((d + 1 : Nat) : Int)) == bit rs (a - ((d + 1 : Nat) : Int)) a) && innI rs a d
def outI (rs : List Int) : Nat → Bool
  | 0 => true
  | d + 1 => (!decide (64 ≤ rd rs (6 - ((d + 1 : Nat) : Int))) && bit rs (6 - ((d + 1 : Nat) : Int)) (6 - ((d + 1 : Nat) : Int)) && innI rs (6 - ((d + 1 : Nat) : Int)) (5 - d)) && outI rs d
theorem impl_l1 (a : Int) (h0 : 0 ≤ a) (h6 : a < 6) (R : Bool) (hR : Ev (fun k => impl_ValidRules.l0 k (a + 1) a0 a1 a2 a3 a4 a5) R) : ∀ (d : Nat) (b : Int), (d : Int) ≤ a → b = a - d →
    Ev (fun k => impl_ValidRules.l1 k a a a b a0 a1 a2 a3 a4 a5) (innI [a0, a1, a2, a3, a4, a5] a d && R) := by
  intro d
  induction d with
  | zero =>
    intro b _ hb
    refine Ev.step (fun k => by rw [impl_ValidRules.l1]) ?_
    simp only [show ¬ b < a by omega, ↓reduceIte, show (a + 1) % 256 = a + 1 by omega]
    exact hR
  | succ d ih =>
    intro b hd hb
    refine Ev.step (fun k => by rw [impl_ValidRules.l1]) ?_
    have hb0 : 0 ≤ b := by omega
    have hb6 : b < 6 := by omega
    simp only [show b < a by omega, ↓reduceIte, may_eq _ _ _ _ _ _ a b h0 h6 hb0, may_eq _ _ _ _ _ _ b a hb0 hb6 h0, Option.bind_some, show (b + 1) % 256 = b + 1 by omega]
    rw [innI, ← hb]
    by_cases he : bit [a0, a1, a2, a3, a4, a5] a b = bit [a0, a1, a2, a3, a4, a5] b a
    · simp only [he, bne_self_eq_false, Bool.false_eq_true, ↓reduceIte, beq_self_eq_true, Bool.true_and]
      exact ih (b + 1) (by omega) (by omega)
    · simp only [bne_iff_ne.mpr he, ↓reduceIte, beq_eq_false_iff_ne.mpr he, Bool.false_and]
      exact Ev.now false
theorem impl_l0 (hn : ∀ a : Int, 0 ≤ a → a < 6 → 0 ≤ rd [a0, a1, a2, a3, a4, a5] a) : ∀ (d : Nat) (a : Int), d ≤ 6 → a = 6 - d → Ev (fun k => impl_ValidRules.l0 k a a0 a1 a2 a3 a4 a5) (outI [a0, a1, a2, a3, a4, a5] d) := by
  intro d
  induction d with
  | zero =>
    intro a _ ha
    refine Ev.step (fun k => by rw [impl_ValidRules.l0]) ?_
    simp only [show ¬ a < 6 by omega, ↓reduceIte]
    exact Ev.now true
  | succ d ih =>
    intro a hd ha
    have h0 : 0 ≤ a := by omega
    have h6 : a < 6 := by omega
    refine Ev.step (fun k => by rw [impl_ValidRules.l0]) ?_
    simp only [h6, h0, ↓reduceIte, may_eq _ _ _ _ _ _ a a h0 h6 h0, Option.bind_some]
    rw [outI, ← ha]
    have hz : 0 ≤ rd [a0, a1, a2, a3, a4, a5] a := hn a h0 h6
    by_cases h64 : rd [a0, a1, a2, a3, a4, a5] a / 64 = 0
    · simp only [h64, ↓reduceIte, show ¬ 64 ≤ rd [a0, a1, a2, a3, a4, a5] a by omega, decide_false, Bool.not_false, Bool.true_and]
      refine Ev.step (fun k => by rw [impl_ValidRules.j1]) ?_
      cases hb : bit [a0, a1, a2, a3, a4, a5] a a with
      | false => exact Ev.now false
      | true =>
        simp only [Bool.not_true, Bool.false_eq_true, ↓reduceIte, Bool.true_and]
        exact impl_l1 a0 a1 a2 a3 a4 a5 a h0 h6 _ (ih (a + 1) (by omega) (by omega)) (5 - d) 0 (by omega) (by omega)
    · simp only [h64, ↓reduceIte, show 64 ≤ rd [a0, a1, a2, a3, a4, a5] a by omega, decide_true, Bool.not_true, Bool.false_and]
      refine Ev.step (fun k => by rw [impl_ValidRules.j1]) ?_
      simp only [↓reduceIte]
      exact Ev.now false
end
theorem inn_iff (rs : List Int) (a : Int) : ∀ d : Nat, inn rs a d = true ↔ ∀ b : Int, 6 - d ≤ b → b < 6 → bit rs a b = bit rs b a
  | 0 => by simp only [inn, true_iff]; intro b h1 h2; omega
  | d + 1 => by
    rw [inn, Bool.and_eq_true, beq_iff_eq, inn_iff rs a d]
    refine ⟨fun ⟨h, k⟩ b h1 h2 => ?_, fun h => ⟨h _ (Int.le_refl _) (by omega), fun b h1 h2 => h b (by omega) h2⟩⟩
    by_cases e : b = 6 - ((d + 1 : Nat) : Int)
    · rw [e]; exact h
    · exact k b (by omega) h2
theorem out_iff (rs : List Int) : ∀ d : Nat, out rs d = true ↔ ∀ a : Int, 6 - d ≤ a → a < 6 → ¬ 64 ≤ rd rs a ∧ bit rs a a = true ∧ inn rs a 6 = true
  | 0 => by simp only [out, true_iff]; intro b h1 h2; omega
  | d + 1 => by
    rw [out, Bool.and_eq_true, out_iff rs d]
    simp only [Bool.and_eq_true, Bool.not_eq_true', decide_eq_false_iff_not]
    refine ⟨fun ⟨⟨⟨h, k⟩, l⟩, m⟩ b h1 h2 => ?_, fun h => ?_⟩
    · by_cases e : b = 6 - ((d + 1 : Nat) : Int)
      · rw [e]; exact ⟨h, k, l⟩
      · exact m b (by omega) h2
    · obtain ⟨x, y, z⟩ := h _ (Int.le_refl _) (by omega)
      exact ⟨⟨⟨x, y⟩, z⟩, fun b h1 h2 => h b (by omega) h2⟩
theorem innI_iff (rs : List Int) (a : Int) : ∀ d : Nat, innI rs a d = true ↔ ∀ b : Int, a - d ≤ b → b < a → bit rs a b = bit rs b a
  | 0 => by simp only [innI, true_iff]; intro b h1 h2; omega
  | d + 1 => by
    rw [innI, Bool.and_eq_true, beq_iff_eq, innI_iff rs a d]
    refine ⟨fun ⟨h, k⟩ b h1 h2 => ?_, fun h => ⟨h _ (Int.le_refl _) (by omega), fun b h1 h2 => h b (by omega) h2⟩⟩
    by_cases e : b = a - ((d + 1 : Nat) : Int)
    · rw [e]; exact h
    · exact k b (by omega) h2
theorem outI_iff (rs : List Int) : ∀ d : Nat, d ≤ 6 → (outI rs d = true ↔ ∀ a : Int, 6 - d ≤ a → a < 6 → ¬ 64 ≤ rd rs a ∧ bit rs a a = true ∧ ∀ b : Int, 0 ≤ b → b < a → bit rs a b = bit rs b a)
  | 0, _ => by simp only [outI, true_iff]; intro b h1 h2; omega
  | d + 1, hd => by
    rw [outI, Bool.and_eq_true, outI_iff rs d (by omega)]
    simp only [Bool.and_eq_true, Bool.not_eq_true', decide_eq_false_iff_not, innI_iff]
    refine ⟨fun ⟨⟨⟨h, k⟩, l⟩, m⟩ b h1 h2 => ?_, fun h => ?_⟩
    · by_cases e : b = 6 - ((d + 1 : Nat) : Int)
      · rw [e]; exact ⟨h, k, fun c h3 h4 => l c (by omega) h4⟩
      · exact m b (by omega) h2
    · obtain ⟨x, y, z⟩ := h _ (Int.le_refl _) (by omega)
      exact ⟨⟨⟨x, y⟩, fun c h3 h4 => z c (by omega) h4⟩, fun b h1 h2 => h b (by omega) h2⟩
theorem outs (rs : List Int) : outI rs 6 = out rs 6 := by
  rw [Bool.eq_iff_iff, out_iff, outI_iff rs 6 (Nat.le_refl _)]
  simp only [inn_iff]
  refine ⟨fun h a h1 h2 => ?_, fun h a h1 h2 => ?_⟩
  · obtain ⟨x, y, z⟩ := h a h1 h2
    refine ⟨x, y, fun b h3 h4 => ?_⟩
    rcases Int.lt_trichotomy a b with hlt | rfl | hgt
    · exact ((h b (by omega) h4).2.2 a (by omega) hlt).symm
    · rfl
    · exact z b (by omega) hgt
  · obtain ⟨x, y, z⟩ := h a h1 h2
    exact ⟨x, y, fun b h3 h4 => z b (by omega) (by omega)⟩
theorem FnExactValidRules (a0_0 : Int) (a0_1 : Int) (a0_2 : Int) (a0_3 : Int) (a0_4 : Int) (a0_5 : Int) (w0_0 : (Lit.int .u8 a0_0).wf = true) (w0_1 : (Lit.int .u8 a0_1).wf = true) (w0_2 : (Lit.int .u8 a0_2).wf = true) (w0_3 : (Lit.int .u8 a0_3).wf = true) (w0_4 : (Lit.int .u8 a0_4).wf = true) (w0_5 : (Lit.int .u8 a0_5).wf = true) : ∃ k, laws_FnExactValidRules.f k a0_0 a0_1 a0_2 a0_3 a0_4 a0_5 = some true := by
  have b0 := bounds_u8 w0_0
  have b1 := bounds_u8 w0_1
  have b2 := bounds_u8 w0_2
  have b3 := bounds_u8 w0_3
  have b4 := bounds_u8 w0_4
  have b5 := bounds_u8 w0_5
  have hn : ∀ a : Int, 0 ≤ a → a < 6 → 0 ≤ rd [a0_0, a0_1, a0_2, a0_3, a0_4, a0_5] a := by
    intro a h0 h6
    have : a = 0 ∨ a = 1 ∨ a = 2 ∨ a = 3 ∨ a = 4 ∨ a = 5 := by omega
    rcases this with rfl | rfl | rfl | rfl | rfl | rfl <;> simp [rd] <;> omega
  refine Ev.rounds ?_
  have hs := spec_l0 a0_0 a0_1 a0_2 a0_3 a0_4 a0_5 6 0 (Nat.le_refl _) (by omega)
  have hi := impl_l0 a0_0 a0_1 a0_2 a0_3 a0_4 a0_5 hn 6 0 (Nat.le_refl _) (by omega)
  rw [outs] at hi
  unfold laws_FnExactValidRules.f spec_ValidRules.f spec_l01Rules.f impl_ValidRules.f laws_toRules.f
  simp only [Option.bind_some]
  refine Ev.bind (Ev.bind hs (Ev.now _)) (Ev.bind hi ?_)
  simp only [bne_self_eq_false, Bool.false_eq_true, ↓reduceIte]
  exact Ev.now true
end Go.Proofs.Ytkndjgbblbogjaa.Pure
