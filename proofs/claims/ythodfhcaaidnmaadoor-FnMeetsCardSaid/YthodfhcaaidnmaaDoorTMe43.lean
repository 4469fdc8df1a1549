/- Words and walks for the law FnMeets. -/
import Derived.Test.YthodfhcaaidnmaaDoorTMe38
import Derived.OpenShut
import Derived.Test.YthodfhcaaidnmaaDoorTMe25
import Derived.Test.YthodfhcaaidnmaaDoorTMe26
import Derived.Test.YthodfhcaaidnmaaDoorTMe27
import Derived.Test.YthodfhcaaidnmaaDoorTMe28
import Derived.Test.YthodfhcaaidnmaaDoorTMe29
import Derived.Test.YthodfhcaaidnmaaDoorTMe30
import Derived.Test.YthodfhcaaidnmaaDoorTMe31
import Derived.Test.YthodfhcaaidnmaaDoorTMe32
import Derived.Test.YthodfhcaaidnmaaDoorTMe33
import Derived.Test.YthodfhcaaidnmaaDoorTMe34
import Derived.Test.YthodfhcaaidnmaaDoorTMe35
import Derived.Test.YthodfhcaaidnmaaDoorTMe36
import Derived.Test.YthodfhcaaidnmaaDoorTMe37
import Derived.Laws.BitsAllLaws
namespace Go.Proofs.YthodfhcaaidnmaaDoor.Pure
set_option linter.unusedSimpArgs false
set_option linter.unusedVariables false
open Go.RowKit Go.Proofs.YthodfhcaaidnmaaDoor.Me Go.Proofs.YthodfhcaaidnmaaDoorW.PrintWords Go.Proofs.YthodfhcaaidnmaaDoorW.PrintLast Go.Proofs.YthodfhcaaidnmaaDoorW.PrintMore
theorem rdm (pre : List S44) (c : S44) (cs : List S44) : rd_T44 (pre ++ c :: cs) (pre.length : Int) = c := by simp [rd_T44, List.getD_eq_getElem?_getD]
theorem rdim (pre : List Int) (c : Int) (cs : List Int) : rd (pre ++ c :: cs) (pre.length : Int) = c := by simp [rd, List.getD_eq_getElem?_getD]
theorem wsuc {i n : Nat} (h : i < n) (hn : n ≤ 1048576) : wrap64 ((i : Int) + 1) = ((i + 1 : Nat) : Int) := by unfold wrap64; omega
theorem l00In_eq (a b c : Int) : spec_l00In.f a b c = some (decide (b ≤ a ∧ a ≤ c)) := by
  unfold spec_l00In.f
  by_cases h : b ≤ a
  · rw [if_pos (show a ≥ b from h)]; simp [h]
  · rw [if_neg (show ¬ a ≥ b from h)]; simp [h]
theorem within_eq (a b c : Int) : impl_within.f a b c = some (decide (b ≤ a ∧ a ≤ c)) := l00In_eq a b c
theorem unless_eq (b : Bool) (c : Int) : impl_unless.f b c = some (if b = true then 0 else c) := by
  unfold impl_unless.f
  cases b <;> rfl
def firstL : List Int → Int
  | [] => 0
  | c :: cs => if c = 0 then firstL cs else c
theorem firstOf_l0 (l : List Int) (hl : l.length ≤ 1048576) : ∀ (cs pre : List Int), l = pre ++ cs → Ev (fun k => impl_firstOf.l0 k l (l.length : Int) (pre.length : Int)) (firstL cs) := by
  intro cs
  induction cs with
  | nil =>
    intro pre hpre
    refine Ev.step (fun k => by rw [impl_firstOf.l0]) ?_
    have : l.length = pre.length := by rw [hpre]; simp
    simp only [show ¬ (pre.length : Int) < (l.length : Int) by omega, ↓reduceIte]
    exact Ev.now _
  | cons c cs ih =>
    intro pre hpre
    have hlen : l.length = pre.length + cs.length + 1 := by rw [hpre]; simp; omega
    have hc : rd l (pre.length : Int) = c := by rw [hpre]; exact rdim pre c cs
    have hnext := ih (pre ++ [c]) (by rw [hpre]; simp)
    simp only [List.length_append, List.length_cons, List.length_nil, Nat.zero_add] at hnext
    refine Ev.step (fun k => by rw [impl_firstOf.l0]) ?_
    simp only [show (pre.length : Int) < (l.length : Int) by omega, show (0 : Int) ≤ (pre.length : Int) by omega, ↓reduceIte, hc, wsuc (show pre.length < l.length by omega) hl]
    rw [firstL]
    by_cases h0 : c = 0
    · simp only [h0, ↓reduceIte]
      exact hnext
    · simp only [h0, ↓reduceIte]
      exact Ev.now _
theorem firstOf_ev (l : List Int) (hl : l.length ≤ 1048576) : Ev (fun k => impl_firstOf.f k l) (firstL l) := by
  unfold impl_firstOf.f
  exact firstOf_l0 l hl l [] rfl
def bit (rs : List Int) (a b : Int) : Bool := (Go.bits .and .u8 (shr .u8 (rd rs a) b) 1) == 1
theorem l01Bit_eq (rs : List Int) (a b : Int) (h0 : 0 ≤ b) (h1 : b < 6) : spec_l01Bit.f (rd rs a) b = some (bit rs a b) := by
  have e : IntKind.u64.wrap b = b := by rw [IntKind.wrap_u64]; omega
  unfold spec_l01Bit.f bit
  rw [e, if_pos h0]
def inn (rs : List Int) (a : Int) : Nat → Bool
  | 0 => true
  | d + 1 => (bit rs a (6 - ((d + 1 : Nat) : Int)) == bit rs (6 - ((d + 1 : Nat) : Int)) a) && inn rs a d
def out (rs : List Int) : Nat → Bool
  | 0 => true
  | d + 1 => (!decide (64 ≤ rd rs (6 - ((d + 1 : Nat) : Int))) && bit rs (6 - ((d + 1 : Nat) : Int)) (6 - ((d + 1 : Nat) : Int)) && inn rs (6 - ((d + 1 : Nat) : Int)) 6) && out rs d
section
variable (a0 a1 a2 a3 a4 a5 : Int)
theorem wrap_small {i : Int} (h0 : 0 ≤ i) (h : i < 6) : wrap64 (i + 1) = i + 1 := by unfold wrap64; omega
theorem spec_l1 (a : Int) (h0 : 0 ≤ a) (h6 : a < 6) (R : Bool) (hR : Ev (fun k => spec_l01Rules.l0 k (a + 1) a0 a1 a2 a3 a4 a5) R) : ∀ (d : Nat) (b : Int), d ≤ 6 → b = 6 - d →
    Ev (fun k => spec_l01Rules.l1 k a b a0 a1 a2 a3 a4 a5) (inn [a0, a1, a2, a3, a4, a5] a d && R) := by
  intro d
  induction d with
  | zero =>
    intro b _ hb
    refine Ev.step (fun k => by rw [spec_l01Rules.l1]) ?_
    simp only [show ¬ b < 6 by omega, ↓reduceIte, wrap_small h0 h6]
    exact hR
  | succ d ih =>
    intro b hd hb
    refine Ev.step (fun k => by rw [spec_l01Rules.l1]) ?_
    have hb0 : 0 ≤ b := by omega
    have hb6 : b < 6 := by omega
    simp only [hb6, h0, h6, hb0, ↓reduceIte, l01Bit_eq _ _ _ hb0 hb6, l01Bit_eq _ _ _ h0 h6, Option.bind_some, wrap_small hb0 hb6]
    rw [inn, ← hb]
    by_cases he : bit [a0, a1, a2, a3, a4, a5] a b = bit [a0, a1, a2, a3, a4, a5] b a
    · simp only [he, bne_self_eq_false, Bool.false_eq_true, ↓reduceIte, beq_self_eq_true, Bool.true_and]
      exact ih (b + 1) (by omega) (by omega)
    · simp only [bne_iff_ne.mpr he, ↓reduceIte, beq_eq_false_iff_ne.mpr he, Bool.false_and]
      exact Ev.now false
theorem spec_l0 : ∀ (d : Nat) (a : Int), d ≤ 6 → a = 6 - d → Ev (fun k => spec_l01Rules.l0 k a a0 a1 a2 a3 a4 a5) (out [a0, a1, a2, a3, a4, a5] d) := by
  intro d
  induction d with
  | zero =>
    intro a _ ha
    refine Ev.step (fun k => by rw [spec_l01Rules.l0]) ?_
    simp only [show ¬ a < 6 by omega, ↓reduceIte]
    exact Ev.now true
  | succ d ih =>
    intro a hd ha
    have h0 : 0 ≤ a := by omega
    have h6 : a < 6 := by omega
    refine Ev.step (fun k => by rw [spec_l01Rules.l0]) ?_
    simp only [h6, h0, ↓reduceIte, l01Bit_eq _ _ _ h0 h6, Option.bind_some]
    rw [out, ← ha]
    by_cases h64 : rd [a0, a1, a2, a3, a4, a5] a ≥ 64
    · simp only [h64, ↓reduceIte, decide_true, Bool.not_true, Bool.false_and]
      refine Ev.step (fun k => by rw [spec_l01Rules.j1]) ?_
      simp only [↓reduceIte]
      exact Ev.now false
    · simp only [h64, ↓reduceIte, decide_false, Bool.not_false, Bool.true_and]
      refine Ev.step (fun k => by rw [spec_l01Rules.j1]) ?_
      cases hb : bit [a0, a1, a2, a3, a4, a5] a a with
      | false => exact Ev.now false
      | true =>
        simp only [Bool.not_true, Bool.false_eq_true, ↓reduceIte, Bool.not_false, Bool.true_and]
        exact spec_l1 a0 a1 a2 a3 a4 a5 a h0 h6 _ (ih (a + 1) (by omega) (by omega)) 6 0 (by omega) (by omega)
theorem may_eq (a b : Int) (h0 : 0 ≤ a) (h6 : a < 6) (hb : 0 ≤ b) : impl_Rules_may.f a0 a1 a2 a3 a4 a5 a b = some (bit [a0, a1, a2, a3, a4, a5] a b) := by
  unfold impl_Rules_may.f
  rw [if_pos ⟨h0, h6, hb⟩]
  rfl
def innI (rs : List Int) (a : Int) : Nat → Bool
  | 0 => true
  | d + 1 => (bit rs a (a - ((d + 1 : Nat) : Int)) == bit rs (a - ((d + 1 : Nat) : Int)) a) && innI rs a d
def outI (rs : List Int) : Nat → Bool
  | 0 => true
  | d + 1 => (!decide (64 ≤ rd rs (6 - ((d + 1 : Nat) : Int))) && bit rs (6 - ((d + 1 : Nat) : Int)) (6 - ((d + 1 : Nat) : Int)) && innI rs (6 - ((d + 1 : Nat) : Int)) (5 - d)) && outI rs d
theorem impl_l1 (a : Int) (h0 : 0 ≤ a) (h6 : a < 6) (R : Bool) (hR : Ev (fun k => impl_ValidRules.l0 k (a + 1) a0 a1 a2 a3 a4 a5) R) : ∀ (d : Nat) (b : Int), (d : Int) ≤ a → b = a - d →
    Ev (fun k => impl_ValidRules.l1 k a a a b a0 a1 a2 a3 a4 a5) (innI [a0, a1, a2, a3, a4, a5] a d && R) := by
  intro d
  induction d with
  | zero =>
    intro b _ hb
    refine Ev.step (fun k => by rw [impl_ValidRules.l1]) ?_
    simp only [show ¬ b < a by omega, ↓reduceIte, show (a + 1) % 256 = a + 1 by omega]
    exact hR
  | succ d ih =>
    intro b hd hb
    refine Ev.step (fun k => by rw [impl_ValidRules.l1]) ?_
    have hb0 : 0 ≤ b := by omega
    have hb6 : b < 6 := by omega
    simp only [show b < a by omega, ↓reduceIte, may_eq _ _ _ _ _ _ a b h0 h6 hb0, may_eq _ _ _ _ _ _ b a hb0 hb6 h0, Option.bind_some, show (b + 1) % 256 = b + 1 by omega]
    rw [innI, ← hb]
    by_cases he : bit [a0, a1, a2, a3, a4, a5] a b = bit [a0, a1, a2, a3, a4, a5] b a
    · simp only [he, bne_self_eq_false, Bool.false_eq_true, ↓reduceIte, beq_self_eq_true, Bool.true_and]
      exact ih (b + 1) (by omega) (by omega)
    · simp only [bne_iff_ne.mpr he, ↓reduceIte, beq_eq_false_iff_ne.mpr he, Bool.false_and]
      exact Ev.now false
theorem impl_l0 (hn : ∀ a : Int, 0 ≤ a → a < 6 → 0 ≤ rd [a0, a1, a2, a3, a4, a5] a) : ∀ (d : Nat) (a : Int), d ≤ 6 → a = 6 - d → Ev (fun k => impl_ValidRules.l0 k a a0 a1 a2 a3 a4 a5) (outI [a0, a1, a2, a3, a4, a5] d) := by
  intro d
  induction d with
  | zero =>
    intro a _ ha
    refine Ev.step (fun k => by rw [impl_ValidRules.l0]) ?_
    simp only [show ¬ a < 6 by omega, ↓reduceIte]
    exact Ev.now true
  | succ d ih =>
    intro a hd ha
    have h0 : 0 ≤ a := by omega
    have h6 : a < 6 := by omega
    refine Ev.step (fun k => by rw [impl_ValidRules.l0]) ?_
    simp only [h6, h0, ↓reduceIte, may_eq _ _ _ _ _ _ a a h0 h6 h0, Option.bind_some]
    rw [outI, ← ha]
    have hz : 0 ≤ rd [a0, a1, a2, a3, a4, a5] a := hn a h0 h6
    by_cases h64 : rd [a0, a1, a2, a3, a4, a5] a / 64 = 0
    · simp only [h64, ↓reduceIte, show ¬ 64 ≤ rd [a0, a1, a2, a3, a4, a5] a by omega, decide_false, Bool.not_false, Bool.true_and]
      refine Ev.step (fun k => by rw [impl_ValidRules.j1]) ?_
      cases hb : bit [a0, a1, a2, a3, a4, a5] a a with
      | false => exact Ev.now false
      | true =>
        simp only [Bool.not_true, Bool.false_eq_true, ↓reduceIte, Bool.true_and]
        exact impl_l1 a0 a1 a2 a3 a4 a5 a h0 h6 _ (ih (a + 1) (by omega) (by omega)) (5 - d) 0 (by omega) (by omega)
    · simp only [h64, ↓reduceIte, show 64 ≤ rd [a0, a1, a2, a3, a4, a5] a by omega, decide_true, Bool.not_true, Bool.false_and]
      refine Ev.step (fun k => by rw [impl_ValidRules.j1]) ?_
      simp only [↓reduceIte]
      exact Ev.now false
end
theorem inn_iff (rs : List Int) (a : Int) : ∀ d : Nat, inn rs a d = true ↔ ∀ b : Int, 6 - d ≤ b → b < 6 → bit rs a b = bit rs b a
  | 0 => by simp only [inn, true_iff]; intro b h1 h2; omega
  | d + 1 => by
    rw [inn, Bool.and_eq_true, beq_iff_eq, inn_iff rs a d]
    refine ⟨fun ⟨h, k⟩ b h1 h2 => ?_, fun h => ⟨h _ (Int.le_refl _) (by omega), fun b h1 h2 => h b (by omega) h2⟩⟩
    by_cases e : b = 6 - ((d + 1 : Nat) : Int)
    · rw [e]; exact h
    · exact k b (by omega) h2
theorem out_iff (rs : List Int) : ∀ d : Nat, out rs d = true ↔ ∀ a : Int, 6 - d ≤ a → a < 6 → ¬ 64 ≤ rd rs a ∧ bit rs a a = true ∧ inn rs a 6 = true
  | 0 => by simp only [out, true_iff]; intro b h1 h2; omega
  | d + 1 => by
    rw [out, Bool.and_eq_true, out_iff rs d]
    simp only [Bool.and_eq_true, Bool.not_eq_true', decide_eq_false_iff_not]
    refine ⟨fun ⟨⟨⟨h, k⟩, l⟩, m⟩ b h1 h2 => ?_, fun h => ?_⟩
    · by_cases e : b = 6 - ((d + 1 : Nat) : Int)
      · rw [e]; exact ⟨h, k, l⟩
      · exact m b (by omega) h2
    · obtain ⟨x, y, z⟩ := h _ (Int.le_refl _) (by omega)
      exact ⟨⟨⟨x, y⟩, z⟩, fun b h1 h2 => h b (by omega) h2⟩
theorem innI_iff (rs : List Int) (a : Int) : ∀ d : Nat, innI rs a d = true ↔ ∀ b : Int, a - d ≤ b → b < a → bit rs a b = bit rs b a
  | 0 => by simp only [innI, true_iff]; intro b h1 h2; omega
  | d + 1 => by
    rw [innI, Bool.and_eq_true, beq_iff_eq, innI_iff rs a d]
    refine ⟨fun ⟨h, k⟩ b h1 h2 => ?_, fun h => ⟨h _ (Int.le_refl _) (by omega), fun b h1 h2 => h b (by omega) h2⟩⟩
    by_cases e : b = a - ((d + 1 : Nat) : Int)
    · rw [e]; exact h
    · exact k b (by omega) h2
theorem outI_iff (rs : List Int) : ∀ d : Nat, d ≤ 6 → (outI rs d = true ↔ ∀ a : Int, 6 - d ≤ a → a < 6 → ¬ 64 ≤ rd rs a ∧ bit rs a a = true ∧ ∀ b : Int, 0 ≤ b → b < a → bit rs a b = bit rs b a)
  | 0, _ => by simp only [outI, true_iff]; intro b h1 h2; omega
  | d + 1, hd => by
    rw [outI, Bool.and_eq_true, outI_iff rs d (by omega)]
    simp only [Bool.and_eq_true, Bool.not_eq_true', decide_eq_false_iff_not, innI_iff]
    refine ⟨fun ⟨⟨⟨h, k⟩, l⟩, m⟩ b h1 h2 => ?_, fun h => ?_⟩
    · by_cases e : b = 6 - ((d + 1 : Nat) : Int)
      · rw [e]; exact ⟨h, k, fun c h3 h4 => l c (by omega) h4⟩
      · exact m b (by omega) h2
    · obtain ⟨x, y, z⟩ := h _ (Int.le_refl _) (by omega)
      exact ⟨⟨⟨x, y⟩, fun c h3 h4 => z c (by omega) h4⟩, fun b h1 h2 => h b (by omega) h2⟩
theorem outs (rs : List Int) : outI rs 6 = out rs 6 := by
  rw [Bool.eq_iff_iff, out_iff, outI_iff rs 6 (Nat.le_refl _)]
  simp only [inn_iff]
  refine ⟨fun h a h1 h2 => ?_, fun h a h1 h2 => ?_⟩
  · obtain ⟨x, y, z⟩ := h a h1 h2
    refine ⟨x, y, fun b h3 h4 => ?_⟩
    rcases Int.lt_trichotomy a b with hlt | rfl | hgt
    · exact ((h b (by omega) h4).2.2 a (by omega) hlt).symm
    · rfl
    · exact z b (by omega) hgt
  · obtain ⟨x, y, z⟩ := h a h1 h2
    exact ⟨x, y, fun b h3 h4 => z b (by omega) (by omega)⟩
def rsOk (rs : List Int) : Bool := out rs 6
def rsWf (rs : List Int) : Prop := ∀ a : Int, 0 ≤ a → a < 6 → 0 ≤ rd rs a ∧ rd rs a ≤ 255
theorem rules_spec (a0 a1 a2 a3 a4 a5 : Int) : Ev (fun k => spec_l01Rules.f k a0 a1 a2 a3 a4 a5) (rsOk [a0, a1, a2, a3, a4, a5]) := by
  unfold spec_l01Rules.f
  exact spec_l0 a0 a1 a2 a3 a4 a5 6 0 (Nat.le_refl _) (by omega)
theorem rules_impl (a0 a1 a2 a3 a4 a5 : Int) (h : rsWf [a0, a1, a2, a3, a4, a5]) : Ev (fun k => impl_ValidRules.f k a0 a1 a2 a3 a4 a5) (rsOk [a0, a1, a2, a3, a4, a5]) := by
  have hi := impl_l0 a0 a1 a2 a3 a4 a5 (fun a h0 h6 => (h a h0 h6).1) 6 0 (Nat.le_refl _) (by omega)
  rw [outs] at hi
  unfold impl_ValidRules.f
  exact hi
def tb (x i : Int) : Bool := (Go.bits .and .u8 (shr .u8 x i) 1) == 1
theorem tb_nat (a j : Nat) (ha : a < 256) (hj : j < 8) : tb (a : Int) (j : Int) = a.testBit j := by
  have hm : min ((j : Int).toNat) (IntKind.u8.bits) = j := by
    show min ((j : Int).toNat) 8 = j
    rw [Int.toNat_natCast]
    omega
  have hs : shr .u8 (a : Int) (j : Int) = ((a / 2 ^ j : Nat) : Int) := by
    unfold shr
    rw [hm]
    norm_cast
  have hlt : a / 2 ^ j < 256 := Nat.lt_of_le_of_lt (Nat.div_le_self _ _) ha
  have hb := (bits_nat .u8 8 (by decide) wraps_u8 (a / 2 ^ j) 1 hlt (by decide)).1
  unfold tb
  rw [hs, show (1 : Int) = ((1 : Nat) : Int) from rfl, hb, Nat.and_one_is_mod, Nat.testBit_eq_decide_div_mod_eq]
  rw [Bool.eq_iff_iff, beq_iff_eq, decide_eq_true_eq]
  omega
theorem nat_of {x n : Int} (h0 : 0 ≤ x) (h1 : x < n) : ∃ a : Nat, x = (a : Int) ∧ (a : Int) < n := ⟨x.toNat, by omega, by omega⟩
theorem tb_and (x y i : Int) (hx0 : 0 ≤ x) (hx : x < 256) (hy0 : 0 ≤ y) (hy : y < 256) (hi0 : 0 ≤ i) (hi : i < 8) : tb (Go.bits .and .u8 x y) i = (tb x i && tb y i) := by
  obtain ⟨a, rfl, ha⟩ := nat_of hx0 hx
  obtain ⟨b, rfl, hb⟩ := nat_of hy0 hy
  obtain ⟨j, rfl, hj⟩ := nat_of hi0 hi
  rw [(bits_nat .u8 8 (by decide) wraps_u8 a b (by omega) (by omega)).1, tb_nat _ j (Nat.lt_of_le_of_lt Nat.and_le_left (by omega)) (by omega), tb_nat a j (by omega) (by omega), tb_nat b j (by omega) (by omega), Nat.testBit_and]
theorem and_range (x y : Int) (hx0 : 0 ≤ x) (hx : x < 64) (hy0 : 0 ≤ y) (hy : y < 256) : 0 ≤ Go.bits .and .u8 x y ∧ Go.bits .and .u8 x y < 64 := by
  obtain ⟨a, rfl, ha⟩ := nat_of hx0 hx
  obtain ⟨b, rfl, hb⟩ := nat_of hy0 hy
  rw [(bits_nat .u8 8 (by decide) wraps_u8 a b (by omega) (by omega)).1]
  have := @Nat.and_le_left a b
  omega
theorem one_shl (j : Nat) (hj : j < 6) : shl .u8 1 (j : Int) = ((2 ^ j : Nat) : Int) := by
  have : j = 0 ∨ j = 1 ∨ j = 2 ∨ j = 3 ∨ j = 4 ∨ j = 5 := by omega
  rcases this with rfl | rfl | rfl | rfl | rfl | rfl <;> rfl
theorem pow6 (j : Nat) (hj : j < 6) : 2 ^ j < 64 := by
  have : j = 0 ∨ j = 1 ∨ j = 2 ∨ j = 3 ∨ j = 4 ∨ j = 5 := by omega
  rcases this with rfl | rfl | rfl | rfl | rfl | rfl <;> decide
theorem or_range (x i : Int) (hx0 : 0 ≤ x) (hx : x < 64) (hi0 : 0 ≤ i) (hi : i < 6) : 0 ≤ Go.bits .or .u8 x (shl .u8 1 i) ∧ Go.bits .or .u8 x (shl .u8 1 i) < 64 := by
  obtain ⟨a, rfl, ha⟩ := nat_of hx0 hx
  obtain ⟨j, rfl, hj⟩ := nat_of hi0 hi
  have hp := pow6 j (by omega)
  rw [one_shl j (by omega), (bits_nat .u8 8 (by decide) wraps_u8 a (2 ^ j) (by omega) (by omega)).2]
  have := @Nat.or_lt_two_pow a (2 ^ j) 6 (by omega) (by omega)
  omega
theorem tb_or (x i k : Int) (hx0 : 0 ≤ x) (hx : x < 64) (hi0 : 0 ≤ i) (hi : i < 6) (hk0 : 0 ≤ k) (hk : k < 6) : tb (Go.bits .or .u8 x (shl .u8 1 i)) k = (tb x k || decide (i = k)) := by
  obtain ⟨a, rfl, ha⟩ := nat_of hx0 hx
  obtain ⟨j, rfl, hj⟩ := nat_of hi0 hi
  obtain ⟨c, rfl, hc⟩ := nat_of hk0 hk
  have hp := pow6 j (by omega)
  have hor := @Nat.or_lt_two_pow a (2 ^ j) 6 (by omega) (by omega)
  rw [one_shl j (by omega), (bits_nat .u8 8 (by decide) wraps_u8 a (2 ^ j) (by omega) (by omega)).2, tb_nat _ c (by omega) (by omega), tb_nat a c (by omega) (by omega), Nat.testBit_or, Nat.testBit_two_pow]
  congr 1
  rw [Bool.eq_iff_iff, decide_eq_true_eq, decide_eq_true_eq]
  omega
theorem andNot_zero (x y : Int) (hx0 : 0 ≤ x) (hx : x < 64) (hy0 : 0 ≤ y) (hy : y < 256) : Go.bits .andNot .u8 x y = 0 ↔ ∀ b : Int, 0 ≤ b → b < 6 → tb x b = true → tb y b = true := by
  obtain ⟨a, rfl, ha⟩ := nat_of hx0 hx
  obtain ⟨b, rfl, hb⟩ := nat_of hy0 hy
  rw [u8_andNot_nat a b (by omega) (by omega)]
  have hsub : 255 - b = 2 ^ 8 - (b + 1) := by omega
  refine ⟨fun h i hi0 hi hx => ?_, fun h => ?_⟩
  · obtain ⟨j, rfl, hj⟩ := nat_of hi0 hi
    rw [tb_nat a j (by omega) (by omega)] at hx
    rw [tb_nat b j (by omega) (by omega)]
    have h0 : a &&& (255 - b) = 0 := by omega
    have h1 : (a &&& (255 - b)).testBit j = false := by rw [h0]; exact Nat.zero_testBit j
    rw [Nat.testBit_and, hx, Bool.true_and, hsub, Nat.testBit_two_pow_sub_succ (by omega)] at h1
    simpa [show j < 8 by omega] using h1
  · have : a &&& (255 - b) = 0 := by
      apply Nat.eq_of_testBit_eq
      intro j
      rw [Nat.zero_testBit, Nat.testBit_and]
      by_cases hj : j < 6
      · have := h (j : Int) (by omega) (by omega)
        rw [tb_nat a j (by omega) (by omega), tb_nat b j (by omega) (by omega)] at this
        cases ha' : a.testBit j with
        | false => rfl
        | true => rw [Bool.true_and, hsub, Nat.testBit_two_pow_sub_succ (by omega), this ha']; simp
      · rw [Nat.testBit_lt_two_pow (Nat.lt_of_lt_of_le (show a < 2 ^ 6 by omega) (Nat.pow_le_pow_right (by decide) (by omega))), Bool.false_and]
    omega
theorem tb_ext (x y : Int) (hx0 : 0 ≤ x) (hx : x < 64) (hy0 : 0 ≤ y) (hy : y < 64) (h : ∀ b : Int, 0 ≤ b → b < 6 → tb x b = tb y b) : x = y := by
  obtain ⟨a, rfl, ha⟩ := nat_of hx0 hx
  obtain ⟨b, rfl, hb⟩ := nat_of hy0 hy
  have : a = b := by
    apply Nat.eq_of_testBit_eq
    intro j
    by_cases hj : j < 6
    · have := h (j : Int) (by omega) (by omega)
      rwa [tb_nat a j (by omega) (by omega), tb_nat b j (by omega) (by omega)] at this
    · rw [Nat.testBit_lt_two_pow (Nat.lt_of_lt_of_le (show a < 2 ^ 6 by omega) (Nat.pow_le_pow_right (by decide) (by omega))), Nat.testBit_lt_two_pow (Nat.lt_of_lt_of_le (show b < 2 ^ 6 by omega) (Nat.pow_le_pow_right (by decide) (by omega)))]
  omega
theorem tb_63 (b : Int) (h0 : 0 ≤ b) (h : b < 6) : tb 63 b = true := by
  have : b = 0 ∨ b = 1 ∨ b = 2 ∨ b = 3 ∨ b = 4 ∨ b = 5 := by omega
  rcases this with rfl | rfl | rfl | rfl | rfl | rfl <;> rfl
theorem garment_eq (x : S44) (h : gsm x = true) : spec_l01Garment.f x.f0 x.f1 x.f2 x.f3 = some (gok x) := by
  obtain ⟨h0, h0', h1, h1', h2, h2', h3, h3'⟩ := of_decide_eq_true h
  have e3 : wrap64 x.f3 = x.f3 := by unfold wrap64; omega
  unfold spec_l01Garment.f gok
  rw [l00In_eq, e3]
  by_cases q0 : x.f0 < 6 <;> by_cases q1 : 0 ≤ x.f1 <;> by_cases q1' : x.f1 ≤ x.f2 <;> by_cases q2 : x.f2 ≤ 95 <;> by_cases q3 : 1 ≤ x.f3 ∧ x.f3 ≤ 2000 <;> simp [q0, q1, q1', q2, q3]
theorem gars_eq (l : List S44) (h : l.all gsm = true) : impl_areGarments.f l = some (if l.all gok = true then 0 else 1) := by
  unfold impl_areGarments.f
  rw [if_pos h]
theorem gok_col {x : S44} (h : gok x = true) (hs : gsm x = true) : 0 ≤ x.f0 ∧ x.f0 < 6 := by
  obtain ⟨h0, h0', h1, h1', h2, h2', h3, h3'⟩ := of_decide_eq_true hs
  unfold gok at h
  simp only [Bool.and_eq_true, decide_eq_true_eq] at h
  exact ⟨h0, h.1⟩
def metS (rs : List Int) (x y : S44) : Bool := bit rs x.f0 y.f0 && decide (mx x.f1 y.f1 ≤ mn x.f2 y.f2)
theorem impl_meet_eq (a0 a1 a2 a3 a4 a5 : Int) (x y : S44) (hx : 0 ≤ x.f0 ∧ x.f0 < 6) (hy : 0 ≤ y.f0) : impl_Rules_meet.f a0 a1 a2 a3 a4 a5 x.f0 x.f1 x.f2 x.f3 y.f0 y.f1 y.f2 y.f3 = some (metS [a0, a1, a2, a3, a4, a5] x y) := by
  unfold impl_Rules_meet.f metS
  rw [may_eq _ _ _ _ _ _ _ _ hx.1 hx.2 hy]
  cases bit [a0, a1, a2, a3, a4, a5] x.f0 y.f0 <;> simp
theorem spec_meet_eq (a0 a1 a2 a3 a4 a5 : Int) (x y : S44) (sx : gsm x = true) (sy : gsm y = true) (gx : gok x = true) (gy : gok y = true) : spec_l01Meet.f a0 a1 a2 a3 a4 a5 x.f0 x.f1 x.f2 x.f3 y.f0 y.f1 y.f2 y.f3 = some (metS [a0, a1, a2, a3, a4, a5] x y) := by
  have hx := gok_col gx sx
  have hy := gok_col gy sy
  have e : wrap64 y.f0 = y.f0 := by unfold wrap64; omega
  unfold spec_l01Meet.f metS
  rw [if_pos hx.1, if_pos hx.2, e, l01Bit_eq _ _ _ hy.1 hy.2]
  unfold gok at gx gy
  simp only [Bool.and_eq_true, decide_eq_true_eq] at gx gy
  cases bit [a0, a1, a2, a3, a4, a5] x.f0 y.f0 with
  | false => simp
  | true =>
    simp only [Option.bind_some, ↓reduceIte, Bool.true_and]
    have hm : mx x.f1 y.f1 ≤ mn x.f2 y.f2 ↔ x.f1 ≤ y.f2 ∧ y.f1 ≤ x.f2 := by
      unfold mx mn
      split <;> split <;> omega
    by_cases h1 : x.f1 ≤ y.f2 <;> by_cases h2 : y.f1 ≤ x.f2 <;> simp [hm, h1, h2]
theorem areRules_ev (a0 a1 a2 a3 a4 a5 : Int) (h : rsWf [a0, a1, a2, a3, a4, a5]) : Ev (fun k => impl_areRules.f k a0 a1 a2 a3 a4 a5) (if rsOk [a0, a1, a2, a3, a4, a5] = true then 0 else 1) := by
  unfold impl_areRules.f
  refine Ev.bind (rules_impl a0 a1 a2 a3 a4 a5 h) ?_
  simp only [unless_eq, Option.bind_some]
  exact Ev.now _
def allC (l : List S44) (fine : Bool) : Int := if l.all gok = true then (if fine = true then (if (l.length : Int) ≤ 8 then 0 else 3) else 2) else 1
def codeL (rs : List Int) (l : List S44) (fine : Bool) : Int := if rsOk rs = true then allC l fine else 1
theorem l01All_l0 (l : List S44) (hs : l.all gsm = true) (hl : l.length ≤ 1048576) (fine : Bool) : ∀ (cs pre : List S44), l = pre ++ cs → Ev (fun k => spec_l01All.l0 k l fine (pre.length : Int)) (if cs.all gok = true then (if fine = true then (if (l.length : Int) ≤ 8 then 0 else 3) else 2) else 1) := by
  intro cs
  induction cs with
  | nil =>
    intro pre hpre
    refine Ev.step (fun k => by rw [spec_l01All.l0]) ?_
    have : l.length = pre.length := by rw [hpre]; simp
    simp only [show ¬ (pre.length : Int) < (l.length : Int) by omega, ↓reduceIte, List.all_nil]
    cases fine with
    | false => simp only [Bool.false_eq_true, ↓reduceIte]; exact Ev.now _
    | true =>
      simp only [↓reduceIte]
      by_cases h8 : (l.length : Int) ≤ 8
      · simp only [h8, show ¬ (l.length : Int) > 8 by omega, ↓reduceIte]; exact Ev.now _
      · simp only [h8, show (l.length : Int) > 8 by omega, ↓reduceIte]; exact Ev.now _
  | cons c cs ih =>
    intro pre hpre
    have hlen : l.length = pre.length + cs.length + 1 := by rw [hpre]; simp; omega
    have hc : rd_T44 l (pre.length : Int) = c := by rw [hpre]; exact rdm pre c cs
    have hsc : gsm c = true := List.all_eq_true.mp hs c (by rw [hpre]; simp)
    have hnext := ih (pre ++ [c]) (by rw [hpre]; simp)
    simp only [List.length_append, List.length_cons, List.length_nil, Nat.zero_add] at hnext
    refine Ev.step (fun k => by rw [spec_l01All.l0]) ?_
    simp only [show (pre.length : Int) < (l.length : Int) by omega, show (0 : Int) ≤ (pre.length : Int) by omega, ↓reduceIte, hc, garment_eq c hsc, Option.bind_some, wsuc (show pre.length < l.length by omega) hl, List.all_cons]
    by_cases hg : gok c = true
    · simp only [hg, Bool.true_and, ↓reduceIte]; exact hnext
    · rw [Bool.not_eq_true] at hg
      simp only [hg, Bool.false_eq_true, Bool.false_and, ↓reduceIte]; exact Ev.now _
theorem l01All_ev (l : List S44) (hs : l.all gsm = true) (hl : l.length ≤ 1048576) (fine : Bool) : Ev (fun k => spec_l01All.f k l fine) (allC l fine) := by
  unfold spec_l01All.f allC
  exact l01All_l0 l hs hl fine l [] rfl
theorem few_eq (l : List S44) : impl_fewGarments.f l = some (if (l.length : Int) ≤ 8 then 0 else 3) := by
  unfold impl_fewGarments.f
  rw [unless_eq]
  by_cases h : (l.length : Int) ≤ 8 <;> simp [h]
theorem l01Asked_ev (a0 a1 a2 a3 a4 a5 : Int) (l : List S44) (hs : l.all gsm = true) (hl : l.length ≤ 1048576) (fine : Bool) : Ev (fun k => spec_l01Asked.f k a0 a1 a2 a3 a4 a5 l fine) (codeL [a0, a1, a2, a3, a4, a5] l fine) := by
  unfold spec_l01Asked.f codeL
  refine Ev.bind (rules_spec a0 a1 a2 a3 a4 a5) ?_
  cases h : rsOk [a0, a1, a2, a3, a4, a5] with
  | false => simp only [Bool.false_eq_true, ↓reduceIte]; exact Ev.now _
  | true =>
    simp only [↓reduceIte]
    exact Ev.bind (l01All_ev l hs hl fine) (Ev.now _)
def holdB (h : Int) : Bool := decide (1 ≤ h ∧ h ≤ 20000)
theorem hold_eq (h : Int) : spec_l01Hold.f h = some (holdB h) := by
  unfold spec_l01Hold.f
  rw [l00In_eq]
  rfl
theorem loadCode_ev (a0 a1 a2 a3 a4 a5 : Int) (hr : rsWf [a0, a1, a2, a3, a4, a5]) (hold : Int) (l : List S44) (hs : l.all gsm = true) : Ev (fun k => impl_loadCode.f k a0 a1 a2 a3 a4 a5 hold l) (codeL [a0, a1, a2, a3, a4, a5] l (holdB hold)) := by
  unfold impl_loadCode.f
  refine Ev.bind (areRules_ev a0 a1 a2 a3 a4 a5 hr) ?_
  simp only [gars_eq l hs, within_eq, unless_eq, few_eq, Option.bind_some]
  refine Ev.bind (r := codeL [a0, a1, a2, a3, a4, a5] l (holdB hold)) ?_ (Ev.now _)
  have := firstOf_ev [(if rsOk [a0, a1, a2, a3, a4, a5] = true then 0 else 1), (if l.all gok = true then 0 else 1), (if decide (1 ≤ hold ∧ hold ≤ 20000) = true then 0 else 2), (if (l.length : Int) ≤ 8 then 0 else 3)] (by simp)
  refine cast ?_ this
  congr 1
  unfold codeL allC holdB
  cases rsOk [a0, a1, a2, a3, a4, a5] <;> cases l.all gok <;> cases decide (1 ≤ hold ∧ hold ≤ 20000) <;> by_cases h8 : (l.length : Int) ≤ 8 <;> simp [firstL, h8]
theorem bit_tb (rs : List Int) (a b : Int) : bit rs a b = tb (rd rs a) b := rfl
structure RsV (rs : List Int) : Prop where
  lo : ∀ a : Int, 0 ≤ a → a < 6 → 0 ≤ rd rs a
  hi : ∀ a : Int, 0 ≤ a → a < 6 → rd rs a < 64
  refl : ∀ a : Int, 0 ≤ a → a < 6 → tb (rd rs a) a = true
  sym : ∀ a b : Int, 0 ≤ a → a < 6 → 0 ≤ b → b < 6 → tb (rd rs a) b = tb (rd rs b) a
theorem RsV.of {rs : List Int} (hw : rsWf rs) (h : rsOk rs = true) : RsV rs := by
  unfold rsOk at h
  rw [out_iff] at h
  refine ⟨fun a h0 h1 => (hw a h0 h1).1, fun a h0 h1 => by have := (h a (by omega) h1).1; omega, fun a h0 h1 => (h a (by omega) h1).2.1, fun a b h0 h1 h2 h3 => ?_⟩
  have := (inn_iff rs a 6).mp (h a (by omega) h1).2.2
  exact this b (by omega) h3
def fineK (rs : List Int) (s : Int) : Nat → Bool
  | 0 => true
  | d + 1 => (!tb s (6 - ((d + 1 : Nat) : Int)) || decide (Go.bits .andNot .u8 s (rd rs (6 - ((d + 1 : Nat) : Int))) = 0)) && fineK rs s d
theorem fineK_iff (rs : List Int) (s : Int) : ∀ d : Nat, fineK rs s d = true ↔ ∀ a : Int, 6 - d ≤ a → a < 6 → tb s a = true → Go.bits .andNot .u8 s (rd rs a) = 0
  | 0 => by simp only [fineK, true_iff]; intro b h1 h2; omega
  | d + 1 => by
    rw [fineK, Bool.and_eq_true, fineK_iff rs s d, Bool.or_eq_true, Bool.not_eq_true', decide_eq_true_eq]
    refine ⟨fun ⟨h, k⟩ a h1 h2 h3 => ?_, fun h => ⟨?_, fun a h1 h2 => h a (by omega) h2⟩⟩
    · by_cases e : a = 6 - ((d + 1 : Nat) : Int)
      · rw [e] at h3 ⊢
        rcases h with h | h
        · rw [h3] at h; cases h
        · exact h
      · exact k a (by omega) h2 h3
    · cases hc : tb s (6 - ((d + 1 : Nat) : Int)) with
      | false => exact .inl rfl
      | true => exact .inr (h _ (Int.le_refl _) (by omega) hc)
def Cliq (rs : List Int) (s : Int) : Prop := ∀ a b : Int, 0 ≤ a → a < 6 → 0 ≤ b → b < 6 → tb s a = true → tb s b = true → tb (rd rs a) b = true
theorem fine_iff {rs : List Int} (hv : RsV rs) (s : Int) (h0 : 0 ≤ s) (h1 : s < 64) : fineK rs s 6 = true ↔ Cliq rs s := by
  rw [fineK_iff]
  refine ⟨fun h a b ha0 ha1 hb0 hb1 hsa hsb => ?_, fun h a ha0 ha1 hsa => ?_⟩
  · exact (andNot_zero s _ h0 h1 (hv.lo a ha0 ha1) (by have := hv.hi a ha0 ha1; omega)).mp (h a (by omega) ha1 hsa) b hb0 hb1 hsb
  · exact (andNot_zero s _ h0 h1 (hv.lo a (by omega) ha1) (by have := hv.hi a (by omega) ha1; omega)).mpr (fun b hb0 hb1 hsb => h a b (by omega) ha1 hb0 hb1 hsa hsb)
def fullK (rs : List Int) (s : Int) : Nat → Bool
  | 0 => true
  | d + 1 => (tb s (6 - ((d + 1 : Nat) : Int)) || !fineK rs (Go.bits .or .u8 s (shl .u8 1 (6 - ((d + 1 : Nat) : Int)))) 6) && fullK rs s d
theorem fullK_iff (rs : List Int) (s : Int) : ∀ d : Nat, fullK rs s d = true ↔ ∀ a : Int, 6 - d ≤ a → a < 6 → tb s a = true ∨ fineK rs (Go.bits .or .u8 s (shl .u8 1 a)) 6 = false
  | 0 => by simp only [fullK, true_iff]; intro b h1 h2; omega
  | d + 1 => by
    rw [fullK, Bool.and_eq_true, fullK_iff rs s d, Bool.or_eq_true, Bool.not_eq_true']
    refine ⟨fun ⟨h, k⟩ a h1 h2 => ?_, fun h => ⟨h _ (Int.le_refl _) (by omega), fun a h1 h2 => h a (by omega) h2⟩⟩
    by_cases e : a = 6 - ((d + 1 : Nat) : Int)
    · rw [e]; exact h
    · exact k a (by omega) h2
def comK (rs : List Int) (s : Int) : Nat → Int → Int
  | 0, c => c
  | d + 1, c => comK rs s d (if tb s (6 - ((d + 1 : Nat) : Int)) = true then Go.bits .and .u8 c (rd rs (6 - ((d + 1 : Nat) : Int))) else c)
theorem comK_spec {rs : List Int} (hv : RsV rs) (s : Int) : ∀ (d : Nat) (c : Int), d ≤ 6 → 0 ≤ c → c < 64 → (0 ≤ comK rs s d c ∧ comK rs s d c < 64) ∧
    ∀ b : Int, 0 ≤ b → b < 6 → (tb (comK rs s d c) b = true ↔ tb c b = true ∧ ∀ a : Int, 6 - d ≤ a → a < 6 → tb s a = true → tb (rd rs a) b = true)
  | 0, c, _, h0, h1 => ⟨⟨h0, h1⟩, fun b _ _ => by simp only [comK]; exact ⟨fun h => ⟨h, fun a h2 h3 => by omega⟩, fun h => h.1⟩⟩
  | d + 1, c, hd, h0, h1 => by
    have ha0 : 0 ≤ 6 - ((d + 1 : Nat) : Int) := by omega
    have ha1 : 6 - ((d + 1 : Nat) : Int) < 6 := by omega
    have l := hv.lo _ ha0 ha1
    have u := hv.hi _ ha0 ha1
    rw [comK]
    by_cases hs : tb s (6 - ((d + 1 : Nat) : Int)) = true
    · rw [if_pos hs]
      have hr := and_range c _ h0 h1 l (show _ < 256 by omega)
      have ih := comK_spec hv s d _ (by omega) hr.1 hr.2
      refine ⟨ih.1, fun b hb0 hb1 => ?_⟩
      rw [ih.2 b hb0 hb1, tb_and c _ b h0 (by omega) l (by omega) hb0 (by omega), Bool.and_eq_true]
      refine ⟨fun ⟨⟨x, y⟩, z⟩ => ⟨x, fun a h2 h3 h4 => ?_⟩, fun ⟨x, z⟩ => ⟨⟨x, z _ (Int.le_refl _) ha1 hs⟩, fun a h2 h3 h4 => z a (by omega) h3 h4⟩⟩
      by_cases e : a = 6 - ((d + 1 : Nat) : Int)
      · rw [e]; exact y
      · exact z a (by omega) h3 h4
    · rw [if_neg hs]
      have ih := comK_spec hv s d c (by omega) h0 h1
      refine ⟨ih.1, fun b hb0 hb1 => ?_⟩
      rw [ih.2 b hb0 hb1]
      refine ⟨fun ⟨x, z⟩ => ⟨x, fun a h2 h3 h4 => ?_⟩, fun ⟨x, z⟩ => ⟨x, fun a h2 h3 h4 => z a (by omega) h3 h4⟩⟩
      by_cases e : a = 6 - ((d + 1 : Nat) : Int)
      · rw [e] at h4; exact absurd h4 hs
      · exact z a (by omega) h3 h4
theorem same_sets {rs : List Int} (hv : RsV rs) (s : Int) (h0 : 0 ≤ s) (h1 : s < 64) : decide (comK rs s 6 63 = s) = (fineK rs s 6 && fullK rs s 6) := by
  have hc := comK_spec hv s 6 63 (Nat.le_refl _) (by omega) (by omega)
  rw [Bool.eq_iff_iff, decide_eq_true_eq, Bool.and_eq_true, fine_iff hv s h0 h1, fullK_iff]
  constructor
  · intro h
    have hq : ∀ b : Int, 0 ≤ b → b < 6 → (tb s b = true ↔ ∀ a : Int, 0 ≤ a → a < 6 → tb s a = true → tb (rd rs a) b = true) := by
      intro b hb0 hb1
      have := hc.2 b hb0 hb1
      rw [h] at this
      rw [this]
      exact ⟨fun k a h2 h3 h4 => k.2 a (by omega) h3 h4, fun k => ⟨tb_63 b hb0 hb1, fun a h2 h3 h4 => k a (by omega) h3 h4⟩⟩
    refine ⟨fun a b ha0 ha1 hb0 hb1 hsa hsb => (hq b hb0 hb1).mp hsb a ha0 ha1 hsa, fun a ha0 ha1 => ?_⟩
    cases hsa : tb s a with
    | true => exact .inl rfl
    | false =>
      right
      have ha0' : 0 ≤ a := by omega
      have hr := or_range s a h0 h1 ha0' ha1
      by_cases hf : fineK rs (Go.bits .or .u8 s (shl .u8 1 a)) 6 = true
      · rw [fine_iff hv _ hr.1 hr.2] at hf
        have : tb s a = true := (hq a ha0' ha1).mpr (fun c hc0 hc1 hsc => by
          refine hf c a hc0 hc1 ha0' ha1 ?_ ?_
          · rw [tb_or s a c h0 h1 ha0' ha1 hc0 hc1, hsc]; rfl
          · rw [tb_or s a a h0 h1 ha0' ha1 ha0' ha1]; simp)
        rw [hsa] at this
        cases this
      · exact Bool.not_eq_true _ |>.mp hf
  · rintro ⟨hf, hfull⟩
    refine tb_ext _ _ hc.1.1 hc.1.2 h0 h1 (fun b hb0 hb1 => ?_)
    rw [Bool.eq_iff_iff, hc.2 b hb0 hb1]
    constructor
    · rintro ⟨_, hall⟩
      rcases hfull b (by omega) hb1 with h | h
      · exact h
      · have hr := or_range s b h0 h1 hb0 hb1
        have : fineK rs (Go.bits .or .u8 s (shl .u8 1 b)) 6 = true := by
          rw [fine_iff hv _ hr.1 hr.2]
          intro x y hx0 hx1 hy0 hy1 hsx hsy
          rw [tb_or s b x h0 h1 hb0 hb1 hx0 hx1, Bool.or_eq_true, decide_eq_true_eq] at hsx
          rw [tb_or s b y h0 h1 hb0 hb1 hy0 hy1, Bool.or_eq_true, decide_eq_true_eq] at hsy
          rcases hsx with hsx | rfl
          · rcases hsy with hsy | rfl
            · exact hf x y hx0 hx1 hy0 hy1 hsx hsy
            · exact hall x (by omega) hx1 hsx
          · rcases hsy with hsy | rfl
            · rw [hv.sym b y hx0 hx1 hy0 hy1]
              exact hall y (by omega) hy1 hsy
            · exact hv.refl b hx0 hx1
        rw [h] at this
        cases this
    · intro hsb
      exact ⟨tb_63 b hb0 hb1, fun a ha0 ha1 hsa => hf a b (by omega) ha1 hb0 hb1 hsa hsb⟩
def bytesB (s : List Int) : Prop := ∀ x ∈ s, 0 ≤ x ∧ x ≤ 255
theorem bits255 (x : Int) (h0 : 0 ≤ x) (h1 : x < 18446744073709551616) : 0 ≤ Go.bits .and .u64 x 255 ∧ Go.bits .and .u64 x 255 ≤ 255 := by
  rw [u64_and x 255 h0 h1 (by decide) (by decide)]
  have : x.toNat &&& (255 : Int).toNat ≤ 255 := Nat.and_le_right
  omega
theorem rd_byte {s : List Int} (hb : bytesB s) (i : Int) : 0 ≤ rd s i ∧ rd s i ≤ 255 := by
  unfold rd
  rw [List.getD_eq_getElem?_getD]
  cases h : s[i.toNat]? with
  | none => simp
  | some x => exact hb x (List.mem_of_getElem? h)
theorem u64w (x : Int) : 0 ≤ IntKind.u64.wrap x ∧ IntKind.u64.wrap x < 18446744073709551616 := by
  rw [IntKind.wrap_u64]; omega
theorem next_ok (s : List Int) (hb : bytesB s) (at_ sd : Int) (h0 : 0 ≤ at_) (h1 : at_ ≤ 100000) : ∃ v sd', spec_l00Src_next.f s at_ sd = some (v, at_ + 1, sd') ∧ 0 ≤ v ∧ v ≤ 255 := by
  have hw : wrap64 (at_ + 1) = at_ + 1 := by unfold wrap64; omega
  have small : ∀ v : Int, 0 ≤ v → v ≤ 255 → wrap64 v = v := fun v a b => by unfold wrap64; omega
  have hbits : ∀ z : Int, 0 ≤ wrap64 (Go.bits .and .u64 (IntKind.u64.wrap z / 1099511627776) 255) ∧ wrap64 (Go.bits .and .u64 (IntKind.u64.wrap z / 1099511627776) 255) ≤ 255 := fun z => by
    have hz := u64w z
    have := bits255 (IntKind.u64.wrap z / 1099511627776) (by omega) (by omega)
    rw [small _ this.1 this.2]
    exact this
  unfold spec_l00Src_next.f
  rw [hw]
  by_cases hl : at_ < (s.length : Int)
  · have hr := rd_byte hb at_
    rw [if_pos hl, if_pos h0]
    by_cases hm : at_ + 1 ≤ (s.length : Int)
    · rw [if_pos hm]
      exact ⟨_, _, rfl, by rw [small _ hr.1 hr.2]; exact hr.1, by rw [small _ hr.1 hr.2]; exact hr.2⟩
    · rw [if_neg hm]
      exact ⟨_, _, rfl, (hbits _).1, (hbits _).2⟩
  · rw [if_neg hl]
    by_cases hm : at_ + 1 ≤ (s.length : Int)
    · rw [if_pos hm]
      exact ⟨_, _, rfl, by decide, by decide⟩
    · rw [if_neg hm]
      exact ⟨_, _, rfl, (hbits _).1, (hbits _).2⟩
theorem pick_ok (s : List Int) (hb : bytesB s) (at_ sd n : Int) (h0 : 0 ≤ at_) (h1 : at_ ≤ 90000) (hn : 1 ≤ n) (hn2 : n ≤ 60000) : ∃ v a sd', spec_l00Src_pick.f s at_ sd n = some (v, a, sd') ∧ 0 ≤ v ∧ v < n ∧ at_ ≤ a ∧ a ≤ at_ + 2 := by
  unfold spec_l00Src_pick.f
  by_cases h : n ≤ 1
  · rw [if_pos h]
    exact ⟨_, _, _, rfl, by omega, by omega, by omega, by omega⟩
  · rw [if_neg h]
    obtain ⟨v, sd1, e1, v0, v1⟩ := next_ok s hb at_ sd h0 (by omega)
    rw [e1]
    simp only [Option.bind_some]
    by_cases h2 : n > 200
    · obtain ⟨v2, sd2, e2, w0, w1⟩ := next_ok s hb (at_ + 1) sd1 (by omega) (by omega)
      have hx : wrap64 (wrap64 (v * 256) + v2) = v * 256 + v2 := by unfold wrap64; omega
      simp only [h2, ↓reduceIte, e2, Option.bind_some, show ¬ n = 0 by omega, hx]
      refine ⟨_, _, _, rfl, ?_, ?_, by omega, by omega⟩
      · rw [Int.tmod_eq_emod_of_nonneg (by omega)]; exact Int.emod_nonneg _ (by omega)
      · rw [Int.tmod_eq_emod_of_nonneg (by omega)]; exact Int.emod_lt_of_pos _ (by omega)
    · simp only [h2, ↓reduceIte, show ¬ n = 0 by omega]
      refine ⟨_, _, _, rfl, ?_, ?_, by omega, by omega⟩
      · rw [Int.tmod_eq_emod_of_nonneg (by omega)]; exact Int.emod_nonneg _ (by omega)
      · rw [Int.tmod_eq_emod_of_nonneg (by omega)]; exact Int.emod_lt_of_pos _ (by omega)
theorem u8_bytes {l : List Int} (w : ∀ x ∈ l, (Lit.int .u8 x).wf = true) : bytesB l := fun x hx => bounds_u8 (w x hx)
theorem one_ok (s : List Int) (hb : bytesB s) (at_ sd n : Int) (h0 : 0 ≤ at_) (h1 : at_ ≤ 90000) (hn : 1 ≤ n) (hn2 : n ≤ 60000) : ∃ v a sd', spec_l00Src_one.f s at_ sd n = some (v, a, sd') ∧ at_ ≤ a ∧ a ≤ at_ + 2 := by
  obtain ⟨v, a, sd', e, _, _, h2, h3⟩ := pick_ok s hb at_ sd n h0 h1 hn hn2
  exact ⟨_, a, sd', by unfold spec_l00Src_one.f; rw [e]; rfl, h2, h3⟩
theorem pow_is (b : Nat) (hb : b < 6) : (2 : Int) ^ b % 256 = shl .u8 1 (b : Int) := by
  rw [one_shl b hb]
  have : b = 0 ∨ b = 1 ∨ b = 2 ∨ b = 3 ∨ b = 4 ∨ b = 5 := by omega
  rcases this with rfl | rfl | rfl | rfl | rfl | rfl <;> rfl
structure Mx (rs : List Int) : Prop where
  len : rs.length = 6
  rng : ∀ i : Nat, i < 6 → 0 ≤ rs.getD i 0 ∧ rs.getD i 0 < 64
  sym : ∀ i j : Nat, i < 6 → j < 6 → tb (rs.getD i 0) (j : Int) = tb (rs.getD j 0) (i : Int)
def Dg (a : Nat) (rs : List Int) : Prop := ∀ i : Nat, i < a → i < 6 → tb (rs.getD i 0) (i : Int) = true
theorem orBit_get (rs : List Int) (a b : Nat) (ha : a < 6) (hb : b < 6) (hl : rs.length = 6) (hr : ∀ i : Nat, i < 6 → 0 ≤ rs.getD i 0 ∧ rs.getD i 0 < 64) :
    (∀ i : Nat, i < 6 → 0 ≤ (orBit rs a b).getD i 0 ∧ (orBit rs a b).getD i 0 < 64) ∧ ∀ i k : Nat, i < 6 → k < 6 → tb ((orBit rs a b).getD i 0) (k : Int) = (tb (rs.getD i 0) (k : Int) || (decide (i = a) && decide (b = k))) := by
  have hs : (orBit rs a b).getD a 0 = Go.bits .or .u8 (rs.getD a 0) (shl .u8 1 (b : Int)) := by
    unfold orBit
    rw [pow_is b hb, List.getD_eq_getElem?_getD, List.getElem?_set_self (by omega)]
    rfl
  have hra := hr a ha
  refine ⟨fun i hi => ?_, fun i k hi hk => ?_⟩
  · by_cases h : i = a
    · rw [h, hs]
      exact or_range _ _ hra.1 hra.2 (by omega) (by omega)
    · rw [orBit_other rs a b i h]
      exact hr i hi
  · by_cases h : i = a
    · rw [h, hs, tb_or _ _ _ hra.1 hra.2 (by omega) (by omega) (by omega) (by omega)]
      congr 1
      rw [Bool.eq_iff_iff]
      simp only [decide_eq_true_eq, Bool.and_eq_true, true_and]
      omega
    · rw [orBit_other rs a b i h]
      simp [h]
theorem or_self_ok {rs : List Int} {a : Nat} (ha : a < 6) (h : Mx rs) (hd : Dg a rs) : Mx (orBit rs a a) ∧ Dg (a + 1) (orBit rs a a) := by
  obtain ⟨h1, h2⟩ := orBit_get rs a a ha ha h.len h.rng
  refine ⟨⟨by rw [orBit_len]; exact h.len, h1, fun i j hi hj => ?_⟩, fun i hi hi6 => ?_⟩
  · rw [h2 i j hi hj, h2 j i hj hi, h.sym i j hi hj]
    congr 1
    rw [Bool.eq_iff_iff]
    simp only [decide_eq_true_eq, Bool.and_eq_true]
    omega
  · rw [h2 i i hi6 hi6, Bool.or_eq_true]
    by_cases hia : i = a
    · right
      simp [hia]
    · left
      exact hd i (by omega) hi6
theorem or_pair_ok {rs : List Int} {a b : Nat} (ha : a < 6) (hb : b < 6) (h : Mx rs) {c : Nat} (hd : Dg c rs) : Mx (orBit (orBit rs a b) b a) ∧ Dg c (orBit (orBit rs a b) b a) := by
  obtain ⟨h1, h2⟩ := orBit_get rs a b ha hb h.len h.rng
  obtain ⟨h3, h4⟩ := orBit_get (orBit rs a b) b a hb ha (by rw [orBit_len]; exact h.len) h1
  refine ⟨⟨by rw [orBit_len, orBit_len]; exact h.len, h3, fun i j hi hj => ?_⟩, fun i hi hi6 => ?_⟩
  · rw [h4 i j hi hj, h4 j i hj hi, h2 i j hi hj, h2 j i hj hi, h.sym i j hi hj, Bool.or_assoc, Bool.or_assoc]
    congr 1
    rw [Bool.eq_iff_iff]
    simp only [decide_eq_true_eq, Bool.and_eq_true, Bool.or_eq_true]
    omega
  · rw [h4 i i hi6 hi6, h2 i i hi6 hi6, hd i hi hi6]
    simp
theorem mixIn_ok (s : List Int) (hb : bytesB s) (a : Nat) (ha : a < 6) : ∀ (d b : Nat) (rs : List Int) (at_ sd : Int), b + d = a → Mx rs → Dg (a + 1) rs → 0 ≤ at_ → at_ + 2 * d ≤ 80000 →
    ∃ rs' at' sd', mixIn s a d b rs at_ sd = some (rs', at', sd') ∧ Mx rs' ∧ Dg (a + 1) rs' ∧ at_ ≤ at' ∧ at' ≤ at_ + 2 * d
  | 0, b, rs, at_, sd, _, hM, hD, _, _ => ⟨rs, at_, sd, by rw [mixIn], hM, hD, Int.le_refl _, by omega⟩
  | d + 1, b, rs, at_, sd, hbd, hM, hD, h0, h1 => by
    obtain ⟨v, at1, sd1, e, l1, l2⟩ := one_ok s hb at_ sd 2 h0 (by omega) (by omega) (by omega)
    have hq : Mx (if v = true then orBit (orBit rs a b) b a else rs) ∧ Dg (a + 1) (if v = true then orBit (orBit rs a b) b a else rs) := by
      split
      · exact or_pair_ok ha (by omega) hM hD
      · exact ⟨hM, hD⟩
    obtain ⟨rs', at', sd', e', hM', hD', l3, l4⟩ := mixIn_ok s hb a ha d (b + 1) _ at1 sd1 (by omega) hq.1 hq.2 (by omega) (by omega)
    exact ⟨rs', at', sd', by rw [mixIn, e]; exact e', hM', hD', by omega, by omega⟩
theorem mixOut_ok (s : List Int) (hb : bytesB s) : ∀ (d a : Nat) (rs : List Int) (at_ sd : Int), a + d = 6 → Mx rs → Dg a rs → 0 ≤ at_ → at_ + 12 * d ≤ 80000 →
    ∃ rs' at' sd', mixOut s d a rs at_ sd = some (rs', at', sd') ∧ Mx rs' ∧ Dg 6 rs'
  | 0, a, rs, at_, sd, h, hM, hD, _, _ => ⟨rs, at_, sd, by rw [mixOut], hM, by rw [← h]; exact hD⟩
  | d + 1, a, rs, at_, sd, h, hM, hD, h0, h1 => by
    obtain ⟨q1, q2⟩ := or_self_ok (show a < 6 by omega) hM hD
    obtain ⟨rs1, at1, sd1, e1, hM1, hD1, l1, l2⟩ := mixIn_ok s hb a (by omega) a 0 (orBit rs a a) at_ sd (by omega) q1 q2 h0 (by omega)
    obtain ⟨rs', at', sd', e', hM', hD'⟩ := mixOut_ok s hb d (a + 1) rs1 at1 sd1 (by omega) hM1 hD1 (by omega) (by omega)
    exact ⟨rs', at', sd', by rw [mixOut, e1]; exact e', hM', hD'⟩
theorem rd_getD (rs : List Int) (i : Nat) : rd rs (i : Int) = rs.getD i 0 := by simp [rd]
theorem Mx.wf {rs : List Int} (h : Mx rs) : rsWf rs := by
  intro a h0 h1
  obtain ⟨i, rfl, hi⟩ := nat_of h0 h1
  rw [rd_getD]
  have := h.rng i (by omega)
  omega
theorem Mx.ok {rs : List Int} (h : Mx rs) (hd : Dg 6 rs) : rsOk rs = true := by
  unfold rsOk
  rw [out_iff]
  intro a h0 h1
  obtain ⟨i, rfl, hi⟩ := nat_of (show 0 ≤ a by omega) h1
  refine ⟨?_, ?_, ?_⟩
  · rw [rd_getD]
    have := h.rng i (by omega)
    omega
  · rw [bit_tb, rd_getD]
    exact hd i (by omega) (by omega)
  · rw [inn_iff]
    intro b hb0 hb1
    obtain ⟨j, rfl, hj⟩ := nat_of (show 0 ≤ b by omega) hb1
    rw [bit_tb, bit_tb, rd_getD, rd_getD]
    exact h.sym i j (by omega) (by omega)
theorem P6Rules_ok (s : List Int) (hb : bytesB s) : ∃ r0 r1 r2 r3 r4 r5 : Int, spec_P6Rules.f s = some (r0, r1, r2, r3, r4, r5) ∧ rsWf [r0, r1, r2, r3, r4, r5] ∧ rsOk [r0, r1, r2, r3, r4, r5] = true := by
  have hz : Mx [0, 0, 0, 0, 0, 0] := by
    have hg : ∀ i : Nat, i < 6 → ([0, 0, 0, 0, 0, 0] : List Int).getD i 0 = 0 := by
      intro i hi
      have : i = 0 ∨ i = 1 ∨ i = 2 ∨ i = 3 ∨ i = 4 ∨ i = 5 := by omega
      rcases this with rfl | rfl | rfl | rfl | rfl | rfl <;> rfl
    have ht : ∀ j : Nat, j < 6 → tb 0 (j : Int) = false := by
      intro j hj
      have := tb_nat 0 j (by omega) (by omega)
      rw [Nat.zero_testBit] at this
      exact this
    exact ⟨rfl, fun i hi => by rw [hg i hi]; omega, fun i j hi hj => by rw [hg i hi, hg j hj, ht j hj, ht i hi]⟩
  obtain ⟨rs, at', sd', e, hM, hD⟩ := mixOut_ok s hb 6 0 [0, 0, 0, 0, 0, 0] 0 0 (by omega) hz (fun i h => by omega) (by omega) (by omega)
  obtain ⟨b0, b1, b2, b3, b4, b5, rfl⟩ := six hM.len
  refine ⟨b0, b1, b2, b3, b4, b5, ?_, hM.wf, hM.ok hD⟩
  unfold spec_P6Rules.f spec_l00From.f
  simp only [Option.bind_some]
  rw [e]
  rfl
def light (x : S44) : Bool := gok x && gsm x && decide (x.f3 ≤ 20)
theorem i8_small (x : Int) (h0 : 0 ≤ x) (h1 : x ≤ 100) : IntKind.i8.wrap (wrap64 x) = x ∧ IntKind.i8.wrap x = x := by
  have h : wrap64 x = x := by unfold wrap64; omega
  rw [h]
  simp [IntKind.wrap, IntKind.bits, IntKind.signed]; omega
theorem i16_small (x : Int) (h0 : 0 ≤ x) (h1 : x ≤ 20000) : IntKind.i16.wrap (wrap64 x) = x := by
  have h : wrap64 x = x := by unfold wrap64; omega
  rw [h]; simp [IntKind.wrap, IntKind.bits, IntKind.signed]; omega
theorem among_ok (s : List Int) (hb : bytesB s) (at_ sd : Int) (l : List Int) (hl : 1 ≤ l.length) (hl2 : l.length ≤ 100) (h0 : 0 ≤ at_) (h1 : at_ ≤ 90000) : ∃ v a sd', spec_l00Src_among.f s at_ sd l = some (v, a, sd') ∧ v ∈ l ∧ at_ ≤ a ∧ a ≤ at_ + 2 := by
  obtain ⟨v, a, sd', e, v0, v1, h2, h3⟩ := pick_ok s hb at_ sd (l.length : Int) h0 h1 (by omega) (by omega)
  refine ⟨rd l v, a, sd', ?_, ?_, h2, h3⟩
  · unfold spec_l00Src_among.f
    rw [e]
    simp only [Option.bind_some, v0, v1, ↓reduceIte]
  · have hlt : v.toNat < l.length := by omega
    have : rd l v = l[v.toNat] := by simp [rd, List.getD_eq_getElem?_getD, List.getElem?_eq_getElem hlt]
    rw [this]
    exact List.getElem_mem hlt
theorem One_ok (s : List Int) (hb : bytesB s) (at_ sd : Int) (h0 : 0 ≤ at_) (h1 : at_ ≤ 80000) : ∃ c n m w a sd', spec_l01One.f s at_ sd = some (c, n, m, w, a, sd') ∧ light ⟨c, n, m, w⟩ = true ∧ at_ ≤ a ∧ a ≤ at_ + 8 := by
  obtain ⟨n, a1, sd1, e1, hn, l1, l2⟩ := among_ok s hb at_ sd [0, 20, 30, 40, 60] (by simp) (by simp) h0 (by omega)
  obtain ⟨c, a2, sd2, e2, c0, c1, l3, l4⟩ := pick_ok s hb a1 sd1 6 (by omega) (by omega) (by omega) (by omega)
  obtain ⟨p, a3, sd3, e3, hp, l5, l6⟩ := among_ok s hb a2 sd2 [0, 10, 20, 35] (by simp) (by simp) (by omega) (by omega)
  obtain ⟨w, a4, sd4, e4, w0, w1, l7, l8⟩ := pick_ok s hb a3 sd3 20 (by omega) (by omega) (by omega) (by omega)
  have hn2 : 0 ≤ n ∧ n ≤ 60 := by
    simp only [List.mem_cons, List.not_mem_nil, or_false] at hn
    omega
  have hp2 : 0 ≤ p ∧ p ≤ 35 := by
    simp only [List.mem_cons, List.not_mem_nil, or_false] at hp
    omega
  refine ⟨c, n, n + p, 1 + w, a4, sd4, ?_, ?_, by omega, by omega⟩
  · unfold spec_l01One.f
    simp only [e1, e2, e3, e4, Option.bind_some]
    rw [(i8_small n hn2.1 (by omega)).2, (i8_small (n + p) (by omega) (by omega)).1, i16_small (1 + w) (by omega) (by omega), show c % 256 = c by omega]
  · unfold light gok gsm
    simp only [Bool.and_eq_true, decide_eq_true_eq]
    omega
theorem P6Garments_l0 (s : List Int) (hb : bytesB s) : ∀ (n : Nat) (x : List S44) (a sd : Int), 0 ≤ a → a + 8 * n ≤ 70000 → n + x.length ≤ 100 → ∃ L : List S44, Ev (fun k => spec_P6Garments.l0 k x (n : Int) s a sd) (x ++ L) ∧ L.length = n ∧ L.all light = true := by
  intro n
  induction n with
  | zero =>
    intro x a sd h0 h1 h2
    refine ⟨[], Ev.step (fun k => by rw [spec_P6Garments.l0]) ?_, rfl, rfl⟩
    simp only [show ¬ ((0 : Nat) : Int) > 0 by omega, ↓reduceIte, List.append_nil]
    exact Ev.now _
  | succ n ih =>
    intro x a sd h0 h1 h2
    obtain ⟨c, m1, m2, w, a1, sd1, e1, hg, l1, l2⟩ := One_ok s hb a sd h0 (by omega)
    obtain ⟨L, hev, hl, hal⟩ := ih (x ++ [⟨c, m1, m2, w⟩]) a1 sd1 (by omega) (by omega) (by simp; omega)
    refine ⟨⟨c, m1, m2, w⟩ :: L, Ev.step (fun k => by rw [spec_P6Garments.l0]) ?_, by simp [hl], by rw [List.all_cons, hg, hal]; rfl⟩
    simp only [show ((n + 1 : Nat) : Int) > 0 by omega, ↓reduceIte, e1, Option.bind_some, show x.length < 23456248059221 by omega, show wrap64 (((n + 1 : Nat) : Int) - 1) = (n : Int) by unfold wrap64; omega]
    rw [show x ++ (⟨c, m1, m2, w⟩ : S44) :: L = x ++ [⟨c, m1, m2, w⟩] ++ L by simp]
    exact hev
theorem P6Garments_ok (s : List Int) (hb : bytesB s) : ∃ L : List S44, Ev (fun k => spec_P6Garments.f k s) L ∧ L.length ≤ 6 ∧ L.all light = true := by
  obtain ⟨v, a1, sd1, e1, v0, v1, l1, l2⟩ := pick_ok s hb 0 0 7 (by omega) (by omega) (by omega) (by omega)
  obtain ⟨n, rfl⟩ : ∃ n : Nat, v = (n : Int) := ⟨v.toNat, by omega⟩
  obtain ⟨L, hev, hl, hg⟩ := P6Garments_l0 s hb n [] a1 sd1 (by omega) (by omega) (by rw [List.length_nil]; omega)
  rw [List.nil_append] at hev
  refine ⟨L, ?_, by omega, hg⟩
  have hf : ∀ k, spec_P6Garments.f k s = spec_P6Garments.l0 k [] (n : Int) s a1 sd1 := fun k => by
    unfold spec_P6Garments.f spec_l00From.f
    rw [Option.bind_some, e1, Option.bind_some]
  simp only [hf]
  exact hev
theorem P6Pick_ok (s : List Int) (hb : bytesB s) : ∃ v : Int, spec_P6Pick.f s 30 = some v ∧ 0 ≤ v ∧ v < 30 := by
  obtain ⟨v, a1, sd1, e1, v0, v1, _, _⟩ := pick_ok s hb 0 0 30 (by omega) (by omega) (by omega) (by omega)
  refine ⟨v, ?_, v0, v1⟩
  unfold spec_P6Pick.f spec_l00From.f
  rw [Option.bind_some, e1, Option.bind_some]
def setsK (rs : List Int) : Nat → List Int → List Int
  | 0, o => o
  | d + 1, o => setsK rs d (if comK rs (64 - ((d + 1 : Nat) : Int)) 6 63 = 64 - ((d + 1 : Nat) : Int) then o ++ [64 - ((d + 1 : Nat) : Int)] else o)
theorem setsK_len (rs : List Int) : ∀ (d : Nat) (o : List Int), (setsK rs d o).length ≤ o.length + d
  | 0, o => Nat.le_refl _
  | d + 1, o => by
    rw [setsK]
    refine Nat.le_trans (setsK_len rs d _) ?_
    split <;> simp <;> omega
theorem setsK_mem (rs : List Int) (x : Int) : ∀ (d : Nat) (o : List Int), x ∈ setsK rs d o ↔ x ∈ o ∨ (64 - (d : Int) ≤ x ∧ x < 64 ∧ comK rs x 6 63 = x)
  | 0, o => by
    rw [setsK]
    refine ⟨.inl, fun h => h.elim id (fun h => by omega)⟩
  | d + 1, o => by
    rw [setsK, setsK_mem rs x d]
    by_cases h : comK rs (64 - ((d + 1 : Nat) : Int)) 6 63 = 64 - ((d + 1 : Nat) : Int)
    · rw [if_pos h, List.mem_append, List.mem_singleton]
      constructor
      · rintro ((h1 | h1) | h1)
        · exact .inl h1
        · right
          rw [h1]
          exact ⟨Int.le_refl _, by omega, h⟩
        · exact .inr ⟨by omega, h1.2⟩
      · rintro (h1 | h1)
        · exact .inl (.inl h1)
        · by_cases he : x = 64 - ((d + 1 : Nat) : Int)
          · exact .inl (.inr he)
          · exact .inr ⟨by omega, h1.2⟩
    · rw [if_neg h]
      constructor
      · rintro (h1 | h1)
        · exact .inl h1
        · exact .inr ⟨by omega, h1.2⟩
      · rintro (h1 | h1)
        · exact .inl h1
        · by_cases he : x = 64 - ((d + 1 : Nat) : Int)
          · rw [he] at h1
            exact absurd h1.2.2 h
          · exact .inr ⟨by omega, h1.2⟩
theorem setsK_sorted (rs : List Int) : ∀ (d : Nat) (o : List Int), o.Pairwise (· < ·) → (∀ x ∈ o, x < 64 - (d : Int)) → (setsK rs d o).Pairwise (· < ·)
  | 0, o, h, _ => by rw [setsK]; exact h
  | d + 1, o, h, hx => by
    rw [setsK]
    refine setsK_sorted rs d _ ?_ (fun x hm => ?_)
    · split
      · rw [List.pairwise_append]
        refine ⟨h, List.pairwise_singleton _ _, fun a ha b hb => ?_⟩
        rw [List.mem_singleton] at hb
        have := hx a ha
        omega
      · exact h
    · split at hm
      · rcases List.mem_append.1 hm with hm | hm
        · have := hx x hm; omega
        · rw [List.mem_singleton] at hm; omega
      · have := hx x hm; omega
theorem closed_iff {rs : List Int} (hv : RsV rs) {s : Int} (h0 : 0 ≤ s) (h1 : s < 64) (h : comK rs s 6 63 = s) : ∀ b : Int, 0 ≤ b → b < 6 → (tb s b = true ↔ ∀ a : Int, 0 ≤ a → a < 6 → tb s a = true → tb (rd rs a) b = true) := by
  intro b hb0 hb1
  have := (comK_spec hv s 6 63 (Nat.le_refl _) (by omega) (by omega)).2 b hb0 hb1
  rw [h] at this
  rw [this]
  exact ⟨fun k a h2 h3 h4 => k.2 a (by omega) h3 h4, fun k => ⟨tb_63 b hb0 hb1, fun a h2 h3 h4 => k a (by omega) h3 h4⟩⟩
theorem closed_cliq {rs : List Int} (hv : RsV rs) {s : Int} (h0 : 0 ≤ s) (h1 : s < 64) (h : comK rs s 6 63 = s) : Cliq rs s :=
  fun a b ha0 ha1 hb0 hb1 hsa hsb => (closed_iff hv h0 h1 h b hb0 hb1).mp hsb a ha0 ha1 hsa
theorem le_or (x i : Int) (hx0 : 0 ≤ x) (hx : x < 64) (hi0 : 0 ≤ i) (hi : i < 6) : x ≤ Go.bits .or .u8 x (shl .u8 1 i) := by
  obtain ⟨a, rfl, ha⟩ := nat_of hx0 hx
  obtain ⟨j, rfl, hj⟩ := nat_of hi0 hi
  have hp := pow6 j (by omega)
  rw [one_shl j (by omega), (bits_nat .u8 8 (by decide) wraps_u8 a (2 ^ j) (by omega) (by omega)).2]
  have := @Nat.left_le_or a (2 ^ j)
  omega
theorem grow {rs : List Int} (hv : RsV rs) : ∀ (d : Nat) (s : Int), 0 ≤ s → s < 64 → 64 - s ≤ (d : Int) → Cliq rs s →
    ∃ t : Int, 0 ≤ t ∧ t < 64 ∧ comK rs t 6 63 = t ∧ ∀ b : Int, 0 ≤ b → b < 6 → tb s b = true → tb t b = true
  | 0, s, h0, h1, hd, _ => by omega
  | d + 1, s, h0, h1, hd, hc => by
    by_cases hcl : comK rs s 6 63 = s
    · exact ⟨s, h0, h1, hcl, fun _ _ _ h => h⟩
    · have hss := same_sets hv s h0 h1
      rw [decide_eq_false hcl, (fine_iff hv s h0 h1).mpr hc, Bool.true_and] at hss
      by_cases hall : ∀ a : Int, 6 - ((6 : Nat) : Int) ≤ a → a < 6 → tb s a = true ∨ fineK rs (Go.bits .or .u8 s (shl .u8 1 a)) 6 = false
      · rw [(fullK_iff rs s 6).mpr hall] at hss
        cases hss
      · obtain ⟨a, ha⟩ := Classical.not_forall.mp hall
        obtain ⟨ha0, ha⟩ := Classical.not_imp.mp ha
        obtain ⟨ha1, ha⟩ := Classical.not_imp.mp ha
        have ha0' : 0 ≤ a := by omega
        have hta : ¬ tb s a = true := fun h => ha (.inl h)
        have hfa : fineK rs (Go.bits .or .u8 s (shl .u8 1 a)) 6 = true := by
          cases hq : fineK rs (Go.bits .or .u8 s (shl .u8 1 a)) 6 with
          | true => rfl
          | false => exact absurd (.inr hq) ha
        have hr := or_range s a h0 h1 ha0' ha1
        have hle := le_or s a h0 h1 ha0' ha1
        have hne : Go.bits .or .u8 s (shl .u8 1 a) ≠ s := by
          intro he
          have := tb_or s a a h0 h1 ha0' ha1 ha0' ha1
          rw [he, decide_eq_true rfl, Bool.or_true] at this
          exact hta this
        obtain ⟨t, t0, t1, t2, t3⟩ := grow hv d _ hr.1 hr.2 (by omega) ((fine_iff hv _ hr.1 hr.2).mp hfa)
        refine ⟨t, t0, t1, t2, fun b hb0 hb1 hb => t3 b hb0 hb1 ?_⟩
        rw [tb_or s a b h0 h1 ha0' ha1 hb0 hb1, hb]
        rfl
theorem tb_zero (b : Int) (h0 : 0 ≤ b) (h1 : b < 6) : tb 0 b = false := by
  obtain ⟨j, rfl, hj⟩ := nat_of h0 h1
  have := tb_nat 0 j (by omega) (by omega)
  rw [Nat.zero_testBit] at this
  exact this
theorem edge_set {rs : List Int} (hv : RsV rs) {a b : Int} (ha0 : 0 ≤ a) (ha1 : a < 6) (hb0 : 0 ≤ b) (hb1 : b < 6) : ((setsK rs 63 []).any fun s => tb s a && tb s b) = tb (rd rs a) b := by
  rw [Bool.eq_iff_iff, List.any_eq_true]
  constructor
  · rintro ⟨s, hs, hab⟩
    rw [Bool.and_eq_true] at hab
    have hm := (setsK_mem rs s 63 []).mp hs
    have hm := hm.resolve_left (by simp)
    exact closed_cliq hv (by omega) hm.2.1 hm.2.2 a b ha0 ha1 hb0 hb1 hab.1 hab.2
  · intro he
    have r1 := or_range 0 a (Int.le_refl _) (by omega) ha0 ha1
    have r2 := or_range _ b r1.1 r1.2 hb0 hb1
    have ht : ∀ k : Int, 0 ≤ k → k < 6 → tb (Go.bits .or .u8 (Go.bits .or .u8 0 (shl .u8 1 a)) (shl .u8 1 b)) k = (decide (a = k) || decide (b = k)) := fun k k0 k1 => by
      rw [tb_or _ b k r1.1 r1.2 hb0 hb1 k0 k1, tb_or 0 a k (Int.le_refl _) (by omega) ha0 ha1 k0 k1, tb_zero k k0 k1, Bool.false_or]
    obtain ⟨t, t0, t1, t2, t3⟩ := grow hv 64 _ r2.1 r2.2 (by omega) (fun x y x0 x1 y0 y1 hx hy => by
      rw [ht x x0 x1, Bool.or_eq_true, decide_eq_true_eq, decide_eq_true_eq] at hx
      rw [ht y y0 y1, Bool.or_eq_true, decide_eq_true_eq, decide_eq_true_eq] at hy
      rcases hx with rfl | rfl <;> rcases hy with rfl | rfl
      · exact hv.refl _ x0 x1
      · exact he
      · rw [hv.sym _ _ x0 x1 y0 y1]; exact he
      · exact hv.refl _ x0 x1)
    have hta := t3 a ha0 ha1 (by rw [ht a ha0 ha1]; simp)
    have htb := t3 b hb0 hb1 (by rw [ht b hb0 hb1]; simp)
    refine ⟨t, (setsK_mem rs t 63 []).mpr (.inr ⟨?_, t1, t2⟩), by rw [hta, htb]; rfl⟩
    by_cases hz : t = 0
    · rw [hz, tb_zero a ha0 ha1] at hta
      cases hta
    · omega
theorem not_within {rs : List Int} (hv : RsV rs) {x y : Int} (hx : x ∈ setsK rs 63 []) (hy : y ∈ setsK rs 63 []) (h : Go.bits .and .u8 x y = y) : x = y := by
  have hmx := ((setsK_mem rs x 63 []).mp hx).resolve_left (by simp)
  have hmy := ((setsK_mem rs y 63 []).mp hy).resolve_left (by simp)
  refine tb_ext x y (by omega) hmx.2.1 (by omega) hmy.2.1 (fun b hb0 hb1 => ?_)
  have hsub : ∀ b : Int, 0 ≤ b → b < 6 → tb y b = true → tb x b = true := fun b hb0 hb1 hb => by
    have := tb_and x y b (by omega) (by omega) (by omega) (by omega) hb0 (by omega)
    rw [h, hb] at this
    have := this.symm
    rw [Bool.and_eq_true] at this
    exact this.1
  rw [Bool.eq_iff_iff]
  refine ⟨fun hb => ?_, hsub b hb0 hb1⟩
  refine (closed_iff hv (by omega) hmy.2.1 hmy.2.2 b hb0 hb1).mpr (fun a ha0 ha1 hya => ?_)
  exact closed_cliq hv (by omega) hmx.2.1 hmx.2.2 a b ha0 ha1 hb0 hb1 (hsub a ha0 ha1 hya) hb
section
variable (more : List Int) (list : List S44) (model : List Int) (a0 a1 a2 a3 a4 a5 : Int) (hv : RsV [a0, a1, a2, a3, a4, a5])
theorem me_l2 (due : List Int) (hdl : due.length ≤ 1000) (a b : Int) (ha0 : 0 ≤ a) (ha1 : a < 6) (hb0 : 0 ≤ b) (hb1 : b < 6) (he : (due.any fun s => tb s a && tb s b) = tb (rd [a0, a1, a2, a3, a4, a5] a) b)
    (hnext : Ev (fun k => laws_FnMeets.l1 k more list due model a (b + 1) a0 a1 a2 a3 a4 a5) true) : ∀ (cs pre : List Int) (f : Bool), due = pre ++ cs → f = (pre.any fun s => tb s a && tb s b) →
    Ev (fun k => laws_FnMeets.l2 k more list due model a b f (pre.length : Int) a0 a1 a2 a3 a4 a5) true := by
  have ea : IntKind.u64.wrap a = a := by rw [IntKind.wrap_u64]; omega
  have eb : IntKind.u64.wrap b = b := by rw [IntKind.wrap_u64]; omega
  have ew : wrap64 (b + 1) = b + 1 := by unfold wrap64; omega
  intro cs
  induction cs with
  | nil =>
    intro pre f hpre hf
    rw [List.append_nil] at hpre
    subst hpre
    refine Ev.step (fun k => by rw [laws_FnMeets.l2]) ?_
    rw [he] at hf
    have hz : (f != ((Go.bits .and .u8 (shr .u8 (rd [a0, a1, a2, a3, a4, a5] a) b) 1) == 1)) = false := by
      rw [hf]
      unfold tb
      simp
    simp only [Int.lt_irrefl, ↓reduceIte, ha0, ha1, ea, eb, hb0, hz, Bool.false_eq_true, ew]
    exact hnext
  | cons c cs ih =>
    intro pre f hpre hf
    have hlen : due.length = pre.length + cs.length + 1 := by rw [hpre]; simp; omega
    have hc : rd due (pre.length : Int) = c := by rw [hpre]; exact rdim pre c cs
    have hn := fun f hf => ih (pre ++ [c]) f (by rw [hpre]; simp) hf
    simp only [List.length_append, List.length_cons, List.length_nil, Nat.zero_add, List.any_append, List.any_cons, List.any_nil, Bool.or_false, ← hf] at hn
    have hca : (Go.bits .and .u8 (shr .u8 c a) 1 = 1) ↔ tb c a = true := by unfold tb; rw [beq_iff_eq]
    have hcb : (Go.bits .and .u8 (shr .u8 c b) 1 = 1) ↔ tb c b = true := by unfold tb; rw [beq_iff_eq]
    refine Ev.step (fun k => by rw [laws_FnMeets.l2]) ?_
    simp only [show (pre.length : Int) < (due.length : Int) by omega, show (0 : Int) ≤ (pre.length : Int) by omega, ↓reduceIte, hc, ea, eb, ha0, hb0, wsuc (show pre.length < due.length by omega) (by omega : due.length ≤ 1048576), hca, hcb]
    by_cases h1 : tb c a = true
    · by_cases h2 : tb c b = true
      · simp only [h1, h2, ↓reduceIte]
        exact hn true (by rw [h1, h2]; simp)
      · simp only [h1, h2, ↓reduceIte, Bool.false_eq_true]
        rw [Bool.not_eq_true] at h2
        exact hn f (by rw [h2]; simp)
    · simp only [h1, ↓reduceIte, Bool.false_eq_true]
      rw [Bool.not_eq_true] at h1
      exact hn f (by rw [h1]; simp)
theorem me_l1 (due : List Int) (hdl : due.length ≤ 1000) (he : ∀ a b : Int, 0 ≤ a → a < 6 → 0 ≤ b → b < 6 → (due.any fun s => tb s a && tb s b) = tb (rd [a0, a1, a2, a3, a4, a5] a) b) (a : Int) (ha0 : 0 ≤ a) (ha1 : a < 6)
    (hnext : Ev (fun k => laws_FnMeets.l0 k more list due model (a + 1) a0 a1 a2 a3 a4 a5) true) : ∀ (d : Nat) (b : Int), 0 ≤ b → b + d = 6 → Ev (fun k => laws_FnMeets.l1 k more list due model a b a0 a1 a2 a3 a4 a5) true := by
  have ew : wrap64 (a + 1) = a + 1 := by unfold wrap64; omega
  intro d
  induction d with
  | zero =>
    intro b hb0 hb
    refine Ev.step (fun k => by rw [laws_FnMeets.l1]) ?_
    simp only [show ¬ b < 6 by omega, ↓reduceIte, ew]
    exact hnext
  | succ d ih =>
    intro b hb0 hb
    refine Ev.step (fun k => by rw [laws_FnMeets.l1]) ?_
    simp only [show b < 6 by omega, ↓reduceIte]
    exact me_l2 more list model a0 a1 a2 a3 a4 a5 due hdl a b ha0 ha1 hb0 (by omega) (he a b ha0 ha1 hb0 (by omega)) (ih (b + 1) (by omega) (by omega)) due [] false rfl rfl
theorem me_l0 (due : List Int) (hdl : due.length ≤ 1000) (he : ∀ a b : Int, 0 ≤ a → a < 6 → 0 ≤ b → b < 6 → (due.any fun s => tb s a && tb s b) = tb (rd [a0, a1, a2, a3, a4, a5] a) b)
    (hnext : Ev (fun k => laws_FnMeets.l3 k more list due model 1 a0 a1 a2 a3 a4 a5) true) : ∀ (d : Nat) (a : Int), 0 ≤ a → a + d = 6 → Ev (fun k => laws_FnMeets.l0 k more list due model a a0 a1 a2 a3 a4 a5) true := by
  intro d
  induction d with
  | zero =>
    intro a ha0 ha
    refine Ev.step (fun k => by rw [laws_FnMeets.l0]) ?_
    simp only [show ¬ a < 6 by omega, ↓reduceIte]
    exact hnext
  | succ d ih =>
    intro a ha0 ha
    refine Ev.step (fun k => by rw [laws_FnMeets.l0]) ?_
    simp only [show a < 6 by omega, ↓reduceIte]
    exact me_l1 more list model a0 a1 a2 a3 a4 a5 due hdl he a ha0 (by omega) (ih (a + 1) (by omega) (by omega)) 6 0 (Int.le_refl _) (by omega)
theorem me_l3 (due : List Int) (hdl : due.length ≤ 1000) (hso : due.Pairwise (· < ·)) (hnw : ∀ x ∈ due, ∀ y ∈ due, Go.bits .and .u8 x y = y → x = y)
    (hnext : Ev (fun k => laws_FnMeets.l4 k more list model 0 a0 a1 a2 a3 a4 a5) true) : ∀ (cs pre : List Int) (p : Int), due = pre ++ p :: cs → Ev (fun k => laws_FnMeets.l3 k more list due model ((pre.length + 1 : Nat) : Int) a0 a1 a2 a3 a4 a5) true := by
  intro cs
  induction cs with
  | nil =>
    intro pre p hpre
    have : due.length = pre.length + 1 := by rw [hpre]; simp
    refine Ev.step (fun k => by rw [laws_FnMeets.l3]) ?_
    simp only [show ¬ ((pre.length + 1 : Nat) : Int) < (due.length : Int) by omega, ↓reduceIte]
    exact hnext
  | cons c cs ih =>
    intro pre p hpre
    have hlen : due.length = pre.length + 1 + cs.length + 1 := by rw [hpre]; simp; omega
    have hp : rd due (pre.length : Int) = p := by rw [hpre]; exact rdim pre p (c :: cs)
    have hc : rd due ((pre.length + 1 : Nat) : Int) = c := by
      have := rdim (pre ++ [p]) c cs
      rw [hpre]
      simpa using this
    have hlt : p < c := by
      rw [hpre, List.pairwise_append] at hso
      exact (List.pairwise_cons.1 hso.2.1).1 c (by simp)
    have hne : ¬ Go.bits .and .u8 c p = p := fun h => by
      have := hnw c (by rw [hpre]; simp) p (by rw [hpre]; simp) h
      omega
    have hn := ih (pre ++ [p]) c (by rw [hpre]; simp)
    simp only [List.length_append, List.length_cons, List.length_nil, Nat.zero_add] at hn
    have hw : wrap64 (((pre.length + 1 : Nat) : Int) - 1) = (pre.length : Int) := by unfold wrap64; omega
    refine Ev.step (fun k => by rw [laws_FnMeets.l3]) ?_
    simp only [show ((pre.length + 1 : Nat) : Int) < (due.length : Int) by omega, show (0 : Int) ≤ ((pre.length + 1 : Nat) : Int) by omega, hw, show (0 : Int) ≤ (pre.length : Int) by omega, show (pre.length : Int) < (due.length : Int) by omega, ↓reduceIte, hc, hp, show ¬ c ≤ p by omega, hne, wsuc (show pre.length + 1 < due.length by omega) (by omega : due.length ≤ 1048576)]
    exact hn
end
section
variable (a0 a1 a2 a3 a4 a5 : Int) (hv : RsV [a0, a1, a2, a3, a4, a5])
theorem w6 {i : Int} (h0 : 0 ≤ i) (h : i < 6) : wrap64 (i + 1) = i + 1 := by unfold wrap64; omega
theorem bitT (s i : Int) (h0 : 0 ≤ i) (h : i < 6) : spec_l01Bit.f s i = some (tb s i) := by
  have e : IntKind.u64.wrap i = i := by rw [IntKind.wrap_u64]; omega
  unfold spec_l01Bit.f tb
  rw [e, if_pos h0]
theorem spec_fine_l0 (s : Int) : ∀ (d : Nat) (x : Int), d ≤ 6 → x = 6 - d → Ev (fun k => spec_l01Fine.l0 k s x a0 a1 a2 a3 a4 a5) (fineK [a0, a1, a2, a3, a4, a5] s d) := by
  intro d
  induction d with
  | zero =>
    intro x _ hx
    refine Ev.step (fun k => by rw [spec_l01Fine.l0]) ?_
    simp only [show ¬ x < 6 by omega, ↓reduceIte]
    exact Ev.now true
  | succ d ih =>
    intro x hd hx
    refine Ev.step (fun k => by rw [spec_l01Fine.l0]) ?_
    simp only [show x < 6 by omega, show 0 ≤ x by omega, ↓reduceIte, bitT s x (by omega) (by omega), Option.bind_some, w6 (show 0 ≤ x by omega) (show x < 6 by omega)]
    rw [fineK, ← hx]
    cases hb : tb s x with
    | false =>
      simp only [Bool.false_eq_true, ↓reduceIte, Bool.not_false, Bool.true_or, Bool.true_and]
      exact ih (x + 1) (by omega) (by omega)
    | true =>
      simp only [↓reduceIte, Bool.not_true, Bool.false_or]
      by_cases h : Go.bits .andNot .u8 s (rd [a0, a1, a2, a3, a4, a5] x) = 0
      · simp only [h, ↓reduceIte, decide_true, Bool.true_and]
        exact ih (x + 1) (by omega) (by omega)
      · simp only [h, ↓reduceIte, decide_false, Bool.false_and]
        exact Ev.now _
theorem spec_fine_ev (s : Int) : Ev (fun k => spec_l01Fine.f k a0 a1 a2 a3 a4 a5 s) (fineK [a0, a1, a2, a3, a4, a5] s 6) := by
  unfold spec_l01Fine.f
  exact spec_fine_l0 a0 a1 a2 a3 a4 a5 s 6 0 (Nat.le_refl _) (by omega)
theorem spec_sets_l1 (o : List Int) (ho : o.length ≤ 1048576) (s : Int) (h0 : 0 ≤ s) (h64 : s < 64) (R : List Int × Int) : ∀ (d : Nat) (x : Int) (t : Bool), d ≤ 6 → x = 6 - d →
    Ev (fun k => spec_ColourSets.l0 k (if (t && fullK [a0, a1, a2, a3, a4, a5] s d) = true then o ++ [s] else o) (s + 1) a0 a1 a2 a3 a4 a5) R →
    Ev (fun k => spec_ColourSets.l1 k o s t x a0 a1 a2 a3 a4 a5) R := by
  have hm : (s + 1) % 256 = s + 1 := by omega
  have hend : ∀ (t : Bool) (x : Int), Ev (fun k => spec_ColourSets.l0 k (if t = true then o ++ [s] else o) (s + 1) a0 a1 a2 a3 a4 a5) R → Ev (fun k => spec_ColourSets.j2 k o s t x false a0 a1 a2 a3 a4 a5) R := by
    intro t x h
    refine Ev.step (fun k => by rw [spec_ColourSets.j2]) ?_
    cases t with
    | true =>
      simp only [Bool.false_eq_true, ↓reduceIte, show o.length < 140737488355328 by omega, hm] at h ⊢
      exact h
    | false =>
      simp only [Bool.false_eq_true, ↓reduceIte, hm] at h ⊢
      exact h
  intro d
  induction d with
  | zero =>
    intro x t _ hx hR
    rw [fullK, Bool.and_true] at hR
    refine Ev.step (fun k => by rw [spec_ColourSets.l1]) ?_
    simp only [show ¬ x < 6 by omega, ↓reduceIte]
    exact hend t x hR
  | succ d ih =>
    intro x t hd hx hR
    refine Ev.step (fun k => by rw [spec_ColourSets.l1]) ?_
    simp only [show x < 6 by omega, ↓reduceIte]
    cases t with
    | false =>
      rw [Bool.false_and] at hR
      exact hend false x hR
    | true =>
      refine Ev.step (fun k => by rw [spec_ColourSets.j2]) ?_
      have e : IntKind.u64.wrap x = x := by rw [IntKind.wrap_u64]; omega
      simp only [↓reduceIte, bitT s x (by omega) (by omega), Option.bind_some, w6 (show 0 ≤ x by omega) (show x < 6 by omega), e, show 0 ≤ x by omega]
      rw [fullK, ← hx, Bool.true_and] at hR
      cases hb : tb s x with
      | true =>
        rw [hb, Bool.true_or] at hR
        simp only [↓reduceIte]
        exact ih (x + 1) true (by omega) (by omega) hR
      | false =>
        rw [hb, Bool.false_or] at hR
        simp only [Bool.false_eq_true, ↓reduceIte]
        refine Ev.bind (spec_fine_ev a0 a1 a2 a3 a4 a5 _) ?_
        exact ih (x + 1) _ (by omega) (by omega) hR
include hv in
theorem spec_sets_l0 : ∀ (d : Nat) (o : List Int) (s : Int), d ≤ 63 → s = 64 - d → o.length + d ≤ 1000 → Ev (fun k => spec_ColourSets.l0 k o s a0 a1 a2 a3 a4 a5) (setsK [a0, a1, a2, a3, a4, a5] d o, 0) := by
  intro d
  induction d with
  | zero =>
    intro o s _ hs ho
    refine Ev.step (fun k => by rw [spec_ColourSets.l0]) ?_
    simp only [show ¬ s < 64 by omega, ↓reduceIte]
    exact Ev.now _
  | succ d ih =>
    intro o s hd hs ho
    refine Ev.step (fun k => by rw [spec_ColourSets.l0]) ?_
    simp only [show s < 64 by omega, ↓reduceIte]
    refine Ev.bind (spec_fine_ev a0 a1 a2 a3 a4 a5 s) ?_
    refine spec_sets_l1 a0 a1 a2 a3 a4 a5 o (by omega) s (by omega) (by omega) _ 6 0 _ (Nat.le_refl _) (by omega) ?_
    rw [← same_sets hv s (by omega) (by omega), setsK, ← hs]
    by_cases h : comK [a0, a1, a2, a3, a4, a5] s 6 63 = s
    · simp only [h, decide_true, ↓reduceIte]
      exact ih _ (s + 1) (by omega) (by omega) (by simp; omega)
    · simp only [h, decide_false, Bool.false_eq_true, ↓reduceIte]
      exact ih _ (s + 1) (by omega) (by omega) (by omega)
theorem impl_sets_l1 (o : List Int) (ho : o.length ≤ 1048576) (s : Int) (h0 : 0 ≤ s) (h64 : s < 64) (R : List Int × Int) : ∀ (d : Nat) (x c : Int), d ≤ 6 → x = 6 - d →
    Ev (fun k => impl_ColourSets.l0 k (if comK [a0, a1, a2, a3, a4, a5] s d c = s then o ++ [s] else o) (s + 1) a0 a1 a2 a3 a4 a5) R →
    Ev (fun k => impl_ColourSets.l1 k o s c x a0 a1 a2 a3 a4 a5) R := by
  have hm : (s + 1) % 256 = s + 1 := by omega
  intro d
  induction d with
  | zero =>
    intro x c _ hx hR
    rw [comK] at hR
    refine Ev.step (fun k => by rw [impl_ColourSets.l1]) ?_
    simp only [show ¬ x < 6 by omega, ↓reduceIte, show o.length < 140737488355328 by omega, hm]
    by_cases h : c = s
    · simp only [h, ↓reduceIte] at hR ⊢; exact hR
    · simp only [h, ↓reduceIte] at hR ⊢; exact hR
  | succ d ih =>
    intro x c hd hx hR
    refine Ev.step (fun k => by rw [impl_ColourSets.l1]) ?_
    rw [comK, ← hx] at hR
    have hm2 : (x + 1) % 256 = x + 1 := by omega
    simp only [show x < 6 by omega, show 0 ≤ x by omega, ↓reduceIte, hm2]
    by_cases h : tb s x = true
    · have h' : Go.bits .and .u8 (shr .u8 s x) 1 = 1 := by unfold tb at h; exact beq_iff_eq.mp h
      rw [if_pos h] at hR
      simp only [h', ↓reduceIte]
      exact ih (x + 1) _ (by omega) (by omega) hR
    · have h' : ¬ Go.bits .and .u8 (shr .u8 s x) 1 = 1 := fun e => h (by unfold tb; exact beq_iff_eq.mpr e)
      rw [if_neg h] at hR
      simp only [h', ↓reduceIte]
      exact ih (x + 1) _ (by omega) (by omega) hR
theorem impl_sets_l0 : ∀ (d : Nat) (o : List Int) (s : Int), d ≤ 63 → s = 64 - d → o.length + d ≤ 1000 → Ev (fun k => impl_ColourSets.l0 k o s a0 a1 a2 a3 a4 a5) (setsK [a0, a1, a2, a3, a4, a5] d o, 0) := by
  intro d
  induction d with
  | zero =>
    intro o s _ hs ho
    refine Ev.step (fun k => by rw [impl_ColourSets.l0]) ?_
    simp only [show ¬ s < 64 by omega, ↓reduceIte]
    exact Ev.now _
  | succ d ih =>
    intro o s hd hs ho
    refine Ev.step (fun k => by rw [impl_ColourSets.l0]) ?_
    simp only [show s < 64 by omega, ↓reduceIte]
    refine impl_sets_l1 a0 a1 a2 a3 a4 a5 o (by omega) s (by omega) (by omega) _ 6 0 63 (Nat.le_refl _) (by omega) ?_
    rw [setsK, ← hs]
    by_cases h : comK [a0, a1, a2, a3, a4, a5] s 6 63 = s
    · simp only [h, ↓reduceIte]
      exact ih _ (s + 1) (by omega) (by omega) (by simp; omega)
    · simp only [h, ↓reduceIte]
      exact ih _ (s + 1) (by omega) (by omega) (by omega)
end
def setsR (rs : List Int) : List Int × Int := if rsOk rs = true then (setsK rs 63 [], 0) else ([], 1)
theorem sets_spec (a0 a1 a2 a3 a4 a5 : Int) (hw : rsWf [a0, a1, a2, a3, a4, a5]) : Ev (fun k => spec_ColourSets.f k a0 a1 a2 a3 a4 a5) (setsR [a0, a1, a2, a3, a4, a5]) := by
  unfold spec_ColourSets.f setsR
  simp only [Option.bind_some]
  refine Ev.bind (rules_spec a0 a1 a2 a3 a4 a5) ?_
  by_cases h : rsOk [a0, a1, a2, a3, a4, a5] = true
  · simp only [h, ↓reduceIte]
    exact spec_sets_l0 a0 a1 a2 a3 a4 a5 (RsV.of hw h) 63 [] 1 (Nat.le_refl _) (by omega) (by simp)
  · simp only [h, Bool.false_eq_true, ↓reduceIte]; exact Ev.now _
theorem sets_impl (a0 a1 a2 a3 a4 a5 : Int) (hw : rsWf [a0, a1, a2, a3, a4, a5]) : Ev (fun k => impl_ColourSets.f k a0 a1 a2 a3 a4 a5) (setsR [a0, a1, a2, a3, a4, a5]) := by
  unfold impl_ColourSets.f setsR
  refine Ev.bind (rules_impl a0 a1 a2 a3 a4 a5 hw) ?_
  by_cases h : rsOk [a0, a1, a2, a3, a4, a5] = true
  · simp only [h, ↓reduceIte]
    exact impl_sets_l0 a0 a1 a2 a3 a4 a5 63 [] 1 (Nat.le_refl _) (by omega) (by simp)
  · simp only [h, Bool.false_eq_true, ↓reduceIte]; exact Ev.now _
theorem met_eq (rs : List Int) (x y : S44) : metB rs x y = metS rs x y := rfl
theorem all_mem {l : List S44} {p : S44 → Bool} (h : l.all p = true) {x : S44} (hx : x ∈ l) : p x = true := List.all_eq_true.mp h x hx
theorem spec_weight_l0 (l : List S44) (hl : l.length ≤ 1048576) : ∀ (cs pre : List S44), l = pre ++ cs → ∀ a : Int, Ev (fun k => spec_l01Weight.l0 k l a (pre.length : Int)) (weightFrom a cs) := by
  intro cs
  induction cs with
  | nil =>
    intro pre hpre a
    refine Ev.step (fun k => by rw [spec_l01Weight.l0]) ?_
    have : l.length = pre.length := by rw [hpre]; simp
    simp only [show ¬ (pre.length : Int) < (l.length : Int) by omega, ↓reduceIte]
    exact Ev.now _
  | cons c cs ih =>
    intro pre hpre a
    have hlen : l.length = pre.length + cs.length + 1 := by rw [hpre]; simp; omega
    have hc : rd_T44 l (pre.length : Int) = c := by rw [hpre]; exact rdm pre c cs
    have hnext := ih (pre ++ [c]) (by rw [hpre]; simp)
    simp only [List.length_append, List.length_cons, List.length_nil, Nat.zero_add] at hnext
    refine Ev.step (fun k => by rw [spec_l01Weight.l0]) ?_
    simp only [show (pre.length : Int) < (l.length : Int) by omega, show (0 : Int) ≤ (pre.length : Int) by omega, ↓reduceIte, hc, wsuc (show pre.length < l.length by omega) hl]
    exact hnext _
theorem spec_weight_ev (l : List S44) (hl : l.length ≤ 1048576) : Ev (fun k => spec_l01Weight.f k l) (weightB l) := by
  unfold spec_l01Weight.f
  exact spec_weight_l0 l hl l [] rfl 0
section
variable (a0 a1 a2 a3 a4 a5 hold : Int) (l : List S44) (hs : l.all gsm = true) (hg : l.all gok = true) (hl : l.length ≤ 1048576)
include hs hg hl
theorem load_l1 (pre cs : List S44) (c : S44) (hpre : l = pre ++ c :: cs) (R : Bool) (hR : Ev (fun k => spec_l01Load.l0 k hold l ((pre.length + 1 : Nat) : Int) a0 a1 a2 a3 a4 a5) R) : ∀ (p2 p1 : List S44), pre = p1 ++ p2 →
    Ev (fun k => spec_l01Load.l1 k hold l (pre.length : Int) (p1.length : Int) a0 a1 a2 a3 a4 a5) (!(p2.any fun h => !metB [a0, a1, a2, a3, a4, a5] c h) && R) := by
  have hlen : l.length = pre.length + cs.length + 1 := by rw [hpre]; simp; omega
  have hc : rd_T44 l (pre.length : Int) = c := by rw [hpre]; exact rdm pre c cs
  have hcm : c ∈ l := by rw [hpre]; simp
  intro p2
  induction p2 with
  | nil =>
    intro p1 hp
    refine Ev.step (fun k => by rw [spec_l01Load.l1]) ?_
    have : pre.length = p1.length := by rw [hp]; simp
    simp only [show ¬ (p1.length : Int) < (pre.length : Int) by omega, ↓reduceIte, List.any_nil, Bool.not_false, Bool.true_and, wsuc (show pre.length < l.length by omega) hl]
    exact hR
  | cons d p2 ih =>
    intro p1 hp
    have hpl : pre.length = p1.length + p2.length + 1 := by rw [hp]; simp; omega
    have hdm : d ∈ l := by rw [hpre, hp]; simp
    have hd : rd_T44 l (p1.length : Int) = d := by rw [hpre, hp, List.append_assoc, List.cons_append]; exact rdm p1 d _
    have hnext := ih (p1 ++ [d]) (by rw [hp]; simp)
    simp only [List.length_append, List.length_cons, List.length_nil, Nat.zero_add] at hnext
    refine Ev.step (fun k => by rw [spec_l01Load.l1]) ?_
    simp only [show (p1.length : Int) < (pre.length : Int) by omega, show (0 : Int) ≤ (pre.length : Int) by omega, show (pre.length : Int) < (l.length : Int) by omega, show (0 : Int) ≤ (p1.length : Int) by omega, show (p1.length : Int) < (l.length : Int) by omega, ↓reduceIte, hc, hd,
      spec_meet_eq a0 a1 a2 a3 a4 a5 c d (all_mem hs hcm) (all_mem hs hdm) (all_mem hg hcm) (all_mem hg hdm), Option.bind_some, wsuc (show p1.length < l.length by omega) hl, List.any_cons, met_eq]
    simp only [met_eq] at hnext
    by_cases hm : metS [a0, a1, a2, a3, a4, a5] c d = true
    · simp only [hm, ↓reduceIte, Bool.not_true, Bool.false_or]
      exact hnext
    · rw [Bool.not_eq_true] at hm
      simp only [hm, Bool.false_eq_true, ↓reduceIte, Bool.not_false, Bool.true_or, Bool.not_true, Bool.false_and]
      exact Ev.now _
theorem load_l0 : ∀ (cs pre : List S44), l = pre ++ cs → Ev (fun k => spec_l01Load.l0 k hold l (pre.length : Int) a0 a1 a2 a3 a4 a5) (apartFrom [a0, a1, a2, a3, a4, a5] pre cs && decide (weightB l ≤ hold)) := by
  intro cs
  induction cs with
  | nil =>
    intro pre hpre
    refine Ev.step (fun k => by rw [spec_l01Load.l0]) ?_
    have : l.length = pre.length := by rw [hpre]; simp
    simp only [show ¬ (pre.length : Int) < (l.length : Int) by omega, ↓reduceIte, apartFrom, Bool.true_and]
    exact Ev.bind (spec_weight_ev l hl) (Ev.now _)
  | cons c cs ih =>
    intro pre hpre
    have hlen : l.length = pre.length + cs.length + 1 := by rw [hpre]; simp; omega
    have hnext := ih (pre ++ [c]) (by rw [hpre]; simp)
    simp only [List.length_append, List.length_cons, List.length_nil, Nat.zero_add] at hnext
    refine Ev.step (fun k => by rw [spec_l01Load.l0]) ?_
    simp only [show (pre.length : Int) < (l.length : Int) by omega, ↓reduceIte]
    rw [apartFrom, Bool.and_assoc]
    exact load_l1 a0 a1 a2 a3 a4 a5 hold l hs hg hl pre cs c hpre _ hnext pre [] rfl
theorem load_ev : Ev (fun k => spec_l01Load.f k a0 a1 a2 a3 a4 a5 hold l) (washB [a0, a1, a2, a3, a4, a5] hold l) := by
  unfold spec_l01Load.f washB
  exact load_l0 a0 a1 a2 a3 a4 a5 hold l hs hg hl l [] rfl
theorem wash_eq : impl_Rules_washable.f a0 a1 a2 a3 a4 a5 hold l = some (washB [a0, a1, a2, a3, a4, a5] hold l) := by
  have hc : colB l = true := by
    unfold colB
    rw [List.all_eq_true]
    intro x hx
    exact decide_eq_true (gok_col (all_mem hg hx) (all_mem hs hx))
  unfold impl_Rules_washable.f
  rw [if_pos ⟨hl, hc⟩]
end
theorem codeL_ok {rs : List Int} {l : List S44} {fine : Bool} (h : codeL rs l fine = 0) : rsOk rs = true ∧ l.all gok = true ∧ fine = true ∧ l.length ≤ 8 := by
  unfold codeL allC at h
  by_cases h1 : rsOk rs = true
  · rw [if_pos h1] at h
    by_cases h2 : l.all gok = true
    · rw [if_pos h2] at h
      by_cases h3 : fine = true
      · rw [if_pos h3] at h
        by_cases h4 : (l.length : Int) ≤ 8
        · exact ⟨h1, h2, h3, by omega⟩
        · rw [if_neg h4] at h; omega
      · rw [if_neg h3] at h; omega
    · rw [if_neg h2] at h; omega
  · rw [if_neg h1] at h; omega
theorem lex_irrefl : ∀ a : List Int, lexlt a a = false
  | [] => rfl
  | x :: xs => by simp [lexlt, lex_irrefl xs]
theorem lex_ntrans : ∀ a b c : List Int, lexlt a b = false → lexlt b c = false → lexlt a c = false
  | a, b, [], _, _ => by cases a <;> rfl
  | [], [], _ :: _, _, h => by simp [lexlt] at h
  | [], _ :: _, _ :: _, h, _ => by simp [lexlt] at h
  | x :: xs, [], z :: zs, _, h => by simp [lexlt] at h
  | x :: xs, y :: ys, z :: zs, h1, h2 => by
    simp only [lexlt, Bool.or_eq_false_iff, Bool.and_eq_false_iff, decide_eq_false_iff_not] at h1 h2 ⊢
    refine ⟨by omega, ?_⟩
    by_cases hx : x = z
    · by_cases hy : x = y
      · exact .inr (lex_ntrans xs ys zs (h1.2.resolve_left (fun h => h hy)) (h2.2.resolve_left (fun h => h (by omega))))
      · have := h1.1
        have := h2.1
        omega
    · exact .inl hx
theorem lex_total : ∀ a b : List Int, lexlt a b = false → lexlt b a = false → a = b
  | [], [], _, _ => rfl
  | [], _ :: _, h, _ => by simp [lexlt] at h
  | _ :: _, [], _, h => by simp [lexlt] at h
  | x :: xs, y :: ys, h1, h2 => by
    simp only [lexlt, Bool.or_eq_false_iff, Bool.and_eq_false_iff, decide_eq_false_iff_not] at h1 h2
    have hxy : x = y := by omega
    rw [hxy, lex_total xs ys (h1.2.resolve_left (fun h => h hxy)) (h2.2.resolve_left (fun h => h hxy.symm))]
theorem updS_fold (sc : List Int → Int) : ∀ (os : List (List Int)) (s : List Int × Int),
    (os.foldl (fun s o => updS sc o s) s = s ∨ ∃ o ∈ os, os.foldl (fun s o => updS sc o s) s = (o, sc o))
    ∧ (∀ o ∈ os, sc o < (os.foldl (fun s o => updS sc o s) s).2 ∨ (sc o = (os.foldl (fun s o => updS sc o s) s).2 ∧ (sc o < 0 ∨ lexlt o (os.foldl (fun s o => updS sc o s) s).1 = false)))
    ∧ (s.2 < (os.foldl (fun s o => updS sc o s) s).2 ∨ (s.2 = (os.foldl (fun s o => updS sc o s) s).2 ∧ (s.2 < 0 ∨ lexlt s.1 (os.foldl (fun s o => updS sc o s) s).1 = false)))
  | [], s => ⟨.inl rfl, fun o h => (by cases h), .inr ⟨rfl, .inr (lex_irrefl _)⟩⟩
  | o :: os, s => by
    rw [List.foldl_cons]
    by_cases hC : sc o > s.2 ∨ (sc o = s.2 ∧ sc o ≥ 0 ∧ lexlt o s.1 = true)
    · rw [show updS sc o s = (o, sc o) from if_pos hC]
      obtain ⟨h1, h2, h3⟩ := updS_fold sc os (o, sc o)
      simp only at h3
      refine ⟨.inr ?_, fun x hx => ?_, ?_⟩
      · rcases h1 with h1 | ⟨x, hx, h1⟩
        · exact ⟨o, by simp, h1⟩
        · exact ⟨x, by simp [hx], h1⟩
      · rcases List.mem_cons.1 hx with rfl | hx
        · exact h3
        · exact h2 x hx
      · rcases hC with hC | ⟨hC, h0, hl⟩
        · rcases h3 with h3 | ⟨h3, _⟩
          · exact .inl (by omega)
          · exact .inl (by omega)
        · rcases h3 with h3 | ⟨h3, h4⟩
          · exact .inl (by omega)
          · refine .inr ⟨by omega, .inr (lex_ntrans _ o _ ?_ (h4.resolve_left (by omega)))⟩
            cases hq : lexlt s.1 o with
            | false => rfl
            | true =>
              have : ∀ a b : List Int, lexlt a b = true → lexlt b a = true → False := by
                intro a b ha hb
                cases hb2 : lexlt a b with
                | false => rw [hb2] at ha; cases ha
                | true =>
                  induction a generalizing b with
                  | nil => cases b <;> simp [lexlt] at hb
                  | cons x xs ih =>
                    cases b with
                    | nil => simp [lexlt] at ha
                    | cons y ys =>
                      simp only [lexlt, Bool.or_eq_true, Bool.and_eq_true, decide_eq_true_eq] at ha hb
                      rcases ha with ha | ⟨ha, ha'⟩
                      · rcases hb with hb | ⟨hb, _⟩ <;> omega
                      · rcases hb with hb | ⟨hb, hb'⟩
                        · omega
                        · exact ih ys ha' hb' ha'
              exact (this _ _ hl hq).elim
    · rw [show updS sc o s = s from if_neg hC]
      obtain ⟨h1, h2, h3⟩ := updS_fold sc os s
      refine ⟨h1.imp id (fun ⟨x, hx, h⟩ => ⟨x, by simp [hx], h⟩), fun x hx => ?_, h3⟩
      rcases List.mem_cons.1 hx with rfl | hx
      · by_cases hlt : sc x < s.2
        · rcases h3 with h3 | ⟨h3, _⟩
          · exact .inl (by omega)
          · exact .inl (by omega)
        · have he : sc x = s.2 := by
            by_cases hg : sc x > s.2
            · exact absurd (.inl hg) hC
            · omega
          rcases h3 with h3 | ⟨h3, h4⟩
          · exact .inl (by omega)
          · by_cases h0 : sc x < 0
            · exact .inr ⟨by omega, .inl h0⟩
            · refine .inr ⟨by omega, .inr (lex_ntrans _ s.1 _ ?_ (h4.resolve_left (by omega)))⟩
              cases hq : lexlt x s.1 with
              | false => rfl
              | true => exact absurd (.inr ⟨he, by omega, hq⟩) hC
      · exact h2 x hx
def incI (n : Nat) : Nat → List Int → Prop
  | _, [] => True
  | i, y :: ys => ∃ j : Nat, y = (j : Int) ∧ i ≤ j ∧ j < n ∧ incI n (j + 1) ys
theorem inc_mem {n : Nat} : ∀ (ys : List Int) (i : Nat), incI n i ys → ∀ y ∈ ys, (i : Int) ≤ y ∧ y < (n : Int)
  | [], _, _, y, h => by cases h
  | _ :: ys, i, ⟨j, e, h1, h2, h3⟩, y, h => by
    rcases List.mem_cons.1 h with rfl | h
    · omega
    · have := inc_mem ys (j + 1) h3 y h
      omega
theorem inc_filter {n : Nat} : ∀ (d i : Nat) (ys : List Int), i + d = n → incI n i ys → ((List.range' i d).filter fun j : Nat => ys.contains (j : Int)).map (fun j : Nat => (j : Int)) = ys
  | 0, i, [], _, _ => rfl
  | 0, i, y :: ys, h, ⟨j, e, h1, h2, h3⟩ => by omega
  | d + 1, i, [], h, _ => by simp
  | d + 1, i, y :: ys, h, ⟨j, e, h1, h2, h3⟩ => by
    subst e
    rw [List.range'_succ]
    by_cases hj : j = i
    · subst hj
      rw [List.filter_cons, if_pos (by simp), List.map_cons]
      congr 1
      have := inc_filter d (j + 1) ys (by omega) h3
      rw [← this]
      congr 1
      refine List.filter_congr (fun x hx => ?_)
      have hx := List.mem_range'_1.1 hx
      rw [this, List.contains_cons]
      rw [show ((x : Int) == (j : Int)) = false by simp; omega, Bool.false_or]
    · have hm := inc_mem ys (j + 1) h3
      rw [List.filter_cons, if_neg]
      · exact inc_filter d (i + 1) ((j : Int) :: ys) (by omega) ⟨j, rfl, by omega, h2, h3⟩
      · rw [List.contains_iff_mem]
        intro hc
        rcases List.mem_cons.1 hc with hc | hc
        · omega
        · have := hm _ hc
          omega
theorem set_of (n : Nat) : ∀ (ys : List Int), (∀ y ∈ ys, 0 ≤ y ∧ y < (n : Int)) → ∃ s : Nat, s < 2 ^ n ∧ ∀ j : Nat, s.testBit j = ys.contains (j : Int)
  | [], _ => ⟨0, Nat.two_pow_pos n, fun j => by simp⟩
  | y :: ys, h => by
    obtain ⟨s, hs, hb⟩ := set_of n ys (fun x hx => h x (by simp [hx]))
    have hy := h y (by simp)
    refine ⟨s ||| 2 ^ y.toNat, Nat.or_lt_two_pow hs (Nat.pow_lt_pow_right (by omega) (by omega)), fun j => ?_⟩
    rw [Nat.testBit_or, hb, Nat.testBit_two_pow, List.contains_cons, Bool.or_comm]
    congr 1
    rw [Bool.eq_iff_iff, decide_eq_true_eq, beq_iff_eq]
    omega
theorem subs_all {n : Nat} {ys : List Int} (h : incI n 0 ys) : ∃ s, s < 2 ^ n ∧ subsOf n s = ys := by
  obtain ⟨s, hs, hb⟩ := set_of n ys (fun y hy => by have := inc_mem ys 0 h y hy; omega)
  refine ⟨s, hs, ?_⟩
  unfold subsOf
  have := inc_filter n 0 ys (by omega) h
  rw [← List.range_eq_range'] at this
  rw [← this]
  congr 1
  refine List.filter_congr (fun x _ => ?_)
  rw [hb]
theorem inc_of_filter {n : Nat} (p : Nat → Bool) : ∀ (d i : Nat), i + d = n → incI n i (((List.range' i d).filter p).map fun j : Nat => (j : Int))
  | 0, i, _ => trivial
  | d + 1, i, h => by
    have ih := inc_of_filter (n := n) p d (i + 1) (by omega)
    rw [List.range'_succ, List.filter_cons]
    by_cases hp : p i = true
    · rw [if_pos hp]
      exact ⟨i, rfl, Nat.le_refl _, by omega, ih⟩
    · rw [if_neg hp]
      have mono : ∀ (ys : List Int), incI n (i + 1) ys → incI n i ys := by
        intro ys hys
        cases ys with
        | nil => trivial
        | cons y ys =>
          obtain ⟨j, e, h1, h2, h3⟩ := hys
          exact ⟨j, e, by omega, h2, h3⟩
      exact mono _ ih
theorem subs_inc (n s : Nat) : incI n 0 (subsOf n s) := by
  unfold subsOf
  rw [List.range_eq_range']
  exact inc_of_filter _ n 0 (by omega)
def fineB (m : Nat → Nat → Bool) (i : Nat) (ch : List Int) : Bool := ch.all fun k => !m i k.toNat
def apartF (m : Nat → Nat → Bool) : List Int → List Int → Bool
  | _, [] => true
  | ch, y :: ys => fineB m y.toNat ch && apartF m (ch ++ [y]) ys
def apartS (m : Nat → Nat → Bool) : Nat → Nat → List Int → List Int → List Int
  | 0, _, _, best => best
  | d + 1, i, ch, best => apartS m d (i + 1) ch (if fineB m i ch = true then (if (apartS m d (i + 1) (ch ++ [(i : Int)]) (ch ++ [(i : Int)])).length > best.length then apartS m d (i + 1) (ch ++ [(i : Int)]) (ch ++ [(i : Int)]) else best) else best)
def okE (m : Nat → Nat → Bool) (n i : Nat) (ch ys : List Int) : Prop := incI n i ys ∧ apartF m ch ys = true
theorem apart_spec (m : Nat → Nat → Bool) (n : Nat) : ∀ (d i : Nat) (ch bs : List Int), i + d = n → (∀ y ys, bs = y :: ys → y < (i : Int)) →
    ∃ xs, apartS m d i ch (ch ++ bs) = ch ++ xs ∧ (xs = bs ∨ okE m n i ch xs) ∧ (xs = bs ∨ bs.length < xs.length) ∧ ∀ ys, okE m n i ch ys → ys.length < xs.length ∨ (ys.length = xs.length ∧ lexlt ys xs = false)
  | 0, i, ch, bs, hd, hb => by
    refine ⟨bs, rfl, .inl rfl, .inl rfl, fun ys hy => ?_⟩
    match ys, hy with
    | [], _ =>
      match bs with
      | [] => exact .inr ⟨rfl, rfl⟩
      | b :: bs => exact .inl (by simp)
    | y :: ys, ⟨⟨j, e, h1, h2, h3⟩, _⟩ => omega
  | d + 1, i, ch, bs, hd, hb => by
    rw [apartS]
    obtain ⟨x1, e1, a1, _, c1⟩ := apart_spec m n d (i + 1) (ch ++ [(i : Int)]) [] (by omega) (fun y ys h => by cases h)
    rw [List.append_nil] at e1
    rw [e1]
    have skip : ∀ ys, okE m n i ch ys → okE m n (i + 1) ch ys ∨ ∃ zs, ys = (i : Int) :: zs ∧ fineB m i ch = true ∧ okE m n (i + 1) (ch ++ [(i : Int)]) zs := by
      intro ys hy
      match ys, hy with
      | [], _ => exact .inl ⟨trivial, rfl⟩
      | y :: ys, ⟨⟨j, e, h1, h2, h3⟩, ha⟩ =>
        subst e
        by_cases hj : j = i
        · subst hj
          rw [apartF, Bool.and_eq_true, Int.toNat_natCast] at ha
          exact .inr ⟨ys, rfl, ha.1, h3, ha.2⟩
        · exact .inl ⟨⟨j, rfl, by omega, h2, h3⟩, ha⟩
    have up : ∀ ys, okE m n (i + 1) ch ys → okE m n i ch ys := by
      intro ys hy
      match ys, hy with
      | [], _ => exact ⟨trivial, rfl⟩
      | y :: ys, ⟨⟨j, e, h1, h2, h3⟩, ha⟩ => exact ⟨⟨j, e, by omega, h2, h3⟩, ha⟩
    by_cases hf : fineB m i ch = true
    · rw [if_pos hf]
      have hx1 : okE m n (i + 1) (ch ++ [(i : Int)]) x1 := a1.elim (fun h => by rw [h]; exact ⟨trivial, rfl⟩) id
      have hok : okE m n i ch ((i : Int) :: x1) := ⟨⟨i, rfl, Nat.le_refl _, by omega, hx1.1⟩, by rw [apartF, Bool.and_eq_true, Int.toNat_natCast]; exact ⟨hf, hx1.2⟩⟩
      by_cases hl : (ch ++ [(i : Int)] ++ x1).length > (ch ++ bs).length
      · rw [if_pos hl, show ch ++ [(i : Int)] ++ x1 = ch ++ ((i : Int) :: x1) by simp]
        simp only [List.length_append, List.length_cons, List.length_nil] at hl
        obtain ⟨xs, e2, a2, b2, c2⟩ := apart_spec m n d (i + 1) ch ((i : Int) :: x1) (by omega) (fun y ys h => by cases h; omega)
        refine ⟨xs, e2, .inr (a2.elim (fun h => h ▸ hok) (up xs)), .inr (by rcases b2 with h | h <;> simp_all <;> omega), fun ys hy => ?_⟩
        rcases skip ys hy with hy | ⟨zs, rfl, _, hz⟩
        · exact c2 ys hy
        · have h3 := c1 zs hz
          have h4 : ((i : Int) :: x1).length ≤ xs.length := by rcases b2 with h | h; exact Nat.le_of_eq (by rw [h]); omega
          simp only [List.length_cons] at h4 ⊢
          by_cases hq : zs.length + 1 < xs.length
          · exact .inl hq
          · have h5 : xs = (i : Int) :: x1 := b2.resolve_right (by simp only [List.length_cons]; omega)
            refine .inr ⟨by rw [h5, List.length_cons] at hq ⊢; omega, ?_⟩
            rw [h5]
            rw [h5, List.length_cons] at hq
            simp only [lexlt, Int.lt_irrefl, decide_false, Bool.false_or, decide_true, Bool.true_and]
            rcases h3 with h3 | h3
            · omega
            · exact h3.2
      · rw [if_neg hl]
        simp only [List.length_append, List.length_cons, List.length_nil] at hl
        obtain ⟨xs, e2, a2, b2, c2⟩ := apart_spec m n d (i + 1) ch bs (by omega) (fun y ys h => by have := hb y ys h; omega)
        refine ⟨xs, e2, a2.imp id (up xs), b2, fun ys hy => ?_⟩
        rcases skip ys hy with hy | ⟨zs, rfl, _, hz⟩
        · exact c2 ys hy
        · have h3 := c1 zs hz
          have h4 : bs.length ≤ xs.length := by rcases b2 with h | h; exact Nat.le_of_eq (by rw [h]); omega
          simp only [List.length_cons]
          by_cases hq : zs.length + 1 < xs.length
          · exact .inl hq
          · have h5 : xs = bs := b2.resolve_right (by omega)
            refine .inr ⟨by omega, ?_⟩
            rw [h5] at hq ⊢
            match bs, hb, hq with
            | [], _, _ =>
              exfalso
              apply hl
              simp only [List.length_nil]
              omega
            | b :: bs, hb, _ =>
              have := hb b bs rfl
              simp only [lexlt, Bool.or_eq_false_iff, Bool.and_eq_false_iff, decide_eq_false_iff_not]
              exact ⟨by omega, .inl (by omega)⟩
    · rw [if_neg hf]
      obtain ⟨xs, e2, a2, b2, c2⟩ := apart_spec m n d (i + 1) ch bs (by omega) (fun y ys h => by have := hb y ys h; omega)
      refine ⟨xs, e2, a2.imp id (up xs), b2, fun ys hy => ?_⟩
      rcases skip ys hy with hy | ⟨zs, _, h, _⟩
      · exact c2 ys hy
      · exact absurd h hf
def apSc (m : Nat → Nat → Bool) (o : List Int) : Int := if apartF m [] o = true then (o.length : Int) else -1
theorem apart_same (m : Nat → Nat → Bool) (n : Nat) : (bestS (apSc m) n).1 = apartS m n 0 [] [] := by
  obtain ⟨xs, e, a, _, c⟩ := apart_spec m n n 0 [] [] (by omega) (fun y ys h => by cases h)
  rw [List.nil_append, List.nil_append] at e
  have hxs : okE m n 0 [] xs := a.elim (fun h => by rw [h]; exact ⟨trivial, rfl⟩) id
  rw [e]
  have hb : bestS (apSc m) n = ((List.range (2 ^ n)).map (subsOf n)).foldl (fun s o => updS (apSc m) o s) ([], -1) := by rw [bestS, List.foldl_map]
  obtain ⟨h1, h2, _⟩ := updS_fold (apSc m) ((List.range (2 ^ n)).map (subsOf n)) ([], -1)
  rw [← hb] at h1 h2
  have mem : ∀ ys, incI n 0 ys → ys ∈ (List.range (2 ^ n)).map (subsOf n) := by
    intro ys hy
    obtain ⟨s, hs, rfl⟩ := subs_all hy
    exact List.mem_map.2 ⟨s, List.mem_range.2 hs, rfl⟩
  have hx := h2 xs (mem xs hxs.1)
  have hsx : apSc m xs = (xs.length : Int) := if_pos hxs.2
  rw [hsx] at hx
  rcases h1 with h1 | ⟨o, ho, h1⟩
  · rw [h1] at hx
    simp only at hx
    omega
  · obtain ⟨s, hs, rfl⟩ := List.mem_map.1 ho
    rw [h1] at hx ⊢
    simp only at hx ⊢
    by_cases hok : apartF m [] (subsOf n s) = true
    · rw [show apSc m (subsOf n s) = ((subsOf n s).length : Int) from if_pos hok] at hx
      have := c _ ⟨subs_inc n s, hok⟩
      rcases this with h | ⟨h, hl⟩
      · omega
      · refine lex_total _ _ hl ?_
        rcases hx with hx | ⟨_, hx⟩
        · omega
        · exact hx.resolve_left (by omega)
    · rw [show apSc m (subsOf n s) = -1 from if_neg hok] at hx
      omega
def mI (rs : List Int) (l : List S44) (i j : Nat) : Bool := metB rs (rd_T44 l (i : Int)) (rd_T44 l (j : Int))
theorem clean_apart (rs : List Int) (l : List S44) : ∀ (ys ch : List Int), (∀ y ∈ ys, 0 ≤ y) → (∀ k ∈ ch, 0 ≤ k) → cleanFrom rs (pickedB l ch) (pickedB l ys) = apartF (mI rs l) ch ys
  | [], ch, _, _ => rfl
  | y :: ys, ch, hy, hk => by
    have h0 := hy y (by simp)
    have ih := clean_apart rs l ys (ch ++ [y]) (fun z hz => hy z (by simp [hz])) (fun k h => by
      rcases List.mem_append.1 h with h | h
      · exact hk k h
      · rw [List.mem_singleton] at h; omega)
    have e2 : pickedB l (ch ++ [y]) = pickedB l ch ++ [rd_T44 l y] := by simp [pickedB]
    rw [e2] at ih
    rw [show pickedB l (y :: ys) = rd_T44 l y :: pickedB l ys from rfl, cleanFrom, apartF, ih]
    congr 1
    unfold fineB pickedB mI
    rw [Bool.eq_iff_iff, Bool.not_eq_true', List.any_eq_false, List.all_eq_true]
    have ey : ((y.toNat : Nat) : Int) = y := by omega
    constructor
    · intro h k hkm
      have := hk k hkm
      have ek : ((k.toNat : Nat) : Int) = k := by omega
      rw [ey, ek]
      simpa using h _ (List.mem_map.2 ⟨k, hkm, rfl⟩)
    · intro h x hx
      obtain ⟨k, hkm, rfl⟩ := List.mem_map.1 hx
      have := hk k hkm
      have ek : ((k.toNat : Nat) : Int) = k := by omega
      have h2 := h k hkm
      rw [ey, ek] at h2
      simpa using h2
theorem bestS_congr (sc1 sc2 : List Int → Int) (n : Nat) (h : ∀ s, sc1 (subsOf n s) = sc2 (subsOf n s)) : bestS sc1 n = bestS sc2 n := by
  unfold bestS updS
  simp only [h]
theorem apart_best (rs : List Int) (l : List S44) : (bestS (apartSc rs l) l.length).1 = apartS (mI rs l) l.length 0 [] [] := by
  rw [← apart_same]
  congr 1
  refine bestS_congr _ _ _ (fun s => ?_)
  have := clean_apart rs l (subsOf l.length s) [] (fun y hy => (inc_mem _ 0 (subs_inc l.length s) y hy).1) (fun k h => by cases h)
  unfold apartSc apSc
  rw [show cleanFrom rs [] (pickedB l (subsOf l.length s)) = apartF (mI rs l) [] (subsOf l.length s) from this]
theorem rd_mem (l : List S44) {i : Int} (h0 : 0 ≤ i) (h1 : i < (l.length : Int)) : rd_T44 l i ∈ l := by
  have hlt : i.toNat < l.length := by omega
  have e : rd_T44 l i = l[i.toNat] := by simp [rd_T44, List.getD_eq_getElem?_getD, List.getElem?_eq_getElem hlt]
  rw [e]
  exact List.getElem_mem hlt
section
variable (a0 a1 a2 a3 a4 a5 : Int) (l : List S44) (hs : l.all gsm = true) (hg : l.all gok = true) (hl : l.length ≤ 8)
include hs hg hl
omit hl in
theorem ap_l1 (i : Nat) (hi : i < l.length) (ch : List Int) (hch : ∀ k ∈ ch, 0 ≤ k ∧ k < (l.length : Int)) (hcl : ch.length ≤ 8) (best : List Int) (R : List Int) : ∀ (p2 p1 : List Int) (b : Bool), ch = p1 ++ p2 →
    Ev (fun k => spec_l01Apart.l1 k l ch best (i : Int) (b && p2.all fun k => !mI [a0, a1, a2, a3, a4, a5] l i k.toNat) (ch.length : Int) a0 a1 a2 a3 a4 a5) R →
    Ev (fun k => spec_l01Apart.l1 k l ch best (i : Int) b (p1.length : Int) a0 a1 a2 a3 a4 a5) R := by
  intro p2
  induction p2 with
  | nil =>
    intro p1 b hp hR
    rw [List.all_nil, Bool.and_true] at hR
    rw [show p1.length = ch.length by rw [hp]; simp]
    exact hR
  | cons d p2 ih =>
    intro p1 b hp hR
    have hpl : ch.length = p1.length + p2.length + 1 := by rw [hp]; simp; omega
    have hd := hch d (by rw [hp]; simp)
    have hdr : rd ch (p1.length : Int) = d := by rw [hp]; exact rdim p1 d p2
    have him := rd_mem l (i := (i : Int)) (by omega) (by omega)
    have hdm := rd_mem l hd.1 hd.2
    have hm := spec_meet_eq a0 a1 a2 a3 a4 a5 (rd_T44 l (i : Int)) (rd_T44 l d) (all_mem hs him) (all_mem hs hdm) (all_mem hg him) (all_mem hg hdm)
    have hmi : mI [a0, a1, a2, a3, a4, a5] l i d.toNat = metS [a0, a1, a2, a3, a4, a5] (rd_T44 l (i : Int)) (rd_T44 l d) := by
      unfold mI
      rw [show ((d.toNat : Nat) : Int) = d by omega]
      rfl
    rw [List.all_cons, hmi] at hR
    refine Ev.step (fun k => by rw [spec_l01Apart.l1]) ?_
    have hnext := fun b' => ih (p1 ++ [d]) b' (by rw [hp]; simp)
    simp only [List.length_append, List.length_cons, List.length_nil, Nat.zero_add] at hnext
    cases b with
    | true =>
      simp only [show (p1.length : Int) < (ch.length : Int) by omega, show (0 : Int) ≤ (i : Int) by omega, show (i : Int) < (l.length : Int) by omega, show (0 : Int) ≤ (p1.length : Int) by omega, hdr, hd.1, hd.2, ↓reduceIte, hm, Option.bind_some, wsuc (show p1.length < ch.length by omega) (by omega : ch.length ≤ 1048576)]
      rw [Bool.true_and] at hR
      exact hnext _ hR
    | false =>
      simp only [show (p1.length : Int) < (ch.length : Int) by omega, ↓reduceIte, Bool.false_eq_true, wsuc (show p1.length < ch.length by omega) (by omega : ch.length ≤ 1048576)]
      rw [Bool.false_and] at hR
      exact hnext false (by rw [Bool.false_and]; exact hR)
theorem ap_l0 : ∀ (d i : Nat) (ch best : List Int), i + d = l.length → ch.length ≤ i → (∀ k ∈ ch, 0 ≤ k ∧ k < (l.length : Int)) →
    Ev (fun k => spec_l01Apart.l0 k l ch best (i : Int) a0 a1 a2 a3 a4 a5) (apartS (mI [a0, a1, a2, a3, a4, a5] l) d i ch best) := by
  intro d
  induction d with
  | zero =>
    intro i ch best hi hc hch
    refine Ev.step (fun k => by rw [spec_l01Apart.l0]) ?_
    simp only [show ¬ (i : Int) < (l.length : Int) by omega, ↓reduceIte]
    exact Ev.now _
  | succ d ih =>
    intro i ch best hi hc hch
    have hw : wrap64 ((i : Int) + 1) = ((i + 1 : Nat) : Int) := by unfold wrap64; omega
    refine Ev.step (fun k => by rw [spec_l01Apart.l0]) ?_
    simp only [show (i : Int) < (l.length : Int) by omega, ↓reduceIte]
    refine ap_l1 a0 a1 a2 a3 a4 a5 l hs hg i (by omega) ch hch (by omega) best _ ch [] true rfl ?_
    rw [Bool.true_and, show (ch.all fun k => !mI [a0, a1, a2, a3, a4, a5] l i k.toNat) = fineB (mI [a0, a1, a2, a3, a4, a5] l) i ch from rfl]
    rw [apartS]
    refine Ev.step (fun k => by rw [spec_l01Apart.l1]) ?_
    cases hf : fineB (mI [a0, a1, a2, a3, a4, a5] l) i ch with
    | true =>
      have hrec : Ev (fun k => spec_l01Apart.f k a0 a1 a2 a3 a4 a5 l ((i + 1 : Nat) : Int) (ch ++ [(i : Int)])) (apartS (mI [a0, a1, a2, a3, a4, a5] l) d (i + 1) (ch ++ [(i : Int)]) (ch ++ [(i : Int)])) := by
        refine Ev.step (fun k => by rw [spec_l01Apart.f]) ?_
        refine ih (i + 1) (ch ++ [(i : Int)]) (ch ++ [(i : Int)]) (by omega) (by simp; omega) (fun k hk => ?_)
        rcases List.mem_append.1 hk with hk | hk
        · exact hch k hk
        · rw [List.mem_singleton] at hk; omega
      simp only [Int.lt_irrefl, ↓reduceIte, Option.bind_some, List.length_nil, Nat.zero_add, List.nil_append, show ch.length < 17592186044416 by omega, List.length_cons, show ch.length + 1 < 17592186044416 by omega, hw]
      refine Ev.bind hrec ?_
      by_cases hlong : (apartS (mI [a0, a1, a2, a3, a4, a5] l) d (i + 1) (ch ++ [(i : Int)]) (ch ++ [(i : Int)])).length > best.length
      · rw [if_pos hlong]
        simp only [show ((apartS (mI [a0, a1, a2, a3, a4, a5] l) d (i + 1) (ch ++ [(i : Int)]) (ch ++ [(i : Int)])).length : Int) > (best.length : Int) by omega, ↓reduceIte]
        exact ih (i + 1) ch _ (by omega) (by omega) hch
      · rw [if_neg hlong]
        simp only [show ¬ ((apartS (mI [a0, a1, a2, a3, a4, a5] l) d (i + 1) (ch ++ [(i : Int)]) (ch ++ [(i : Int)])).length : Int) > (best.length : Int) by omega, ↓reduceIte]
        exact ih (i + 1) ch _ (by omega) (by omega) hch
    | false =>
      simp only [Int.lt_irrefl, ↓reduceIte, Bool.false_eq_true, hw]
      exact ih (i + 1) ch _ (by omega) (by omega) hch
theorem ap_spec : Ev (fun k => spec_l01Apart.f k a0 a1 a2 a3 a4 a5 l 0 []) (apartS (mI [a0, a1, a2, a3, a4, a5] l) l.length 0 [] []) := by
  refine Ev.step (fun k => by rw [spec_l01Apart.f]) ?_
  exact ap_l0 a0 a1 a2 a3 a4 a5 l hs hg hl l.length 0 [] [] (by omega) (by simp) (fun k h => by cases h)
theorem ap_impl : impl_Rules_apart.f a0 a1 a2 a3 a4 a5 l = some (apartS (mI [a0, a1, a2, a3, a4, a5] l) l.length 0 [] []) := by
  unfold impl_Rules_apart.f
  have hcol : colB l = true := by
    unfold colB
    rw [List.all_eq_true]
    intro x hx
    exact decide_eq_true (gok_col (all_mem hg hx) (all_mem hs hx))
  rw [if_pos ⟨hl, hcol⟩, apart_best]
end
theorem apart_len (m : Nat → Nat → Bool) (n : Nat) : (apartS m n 0 [] []).length ≤ n := by
  obtain ⟨xs, e, a, _, _⟩ := apart_spec m n n 0 [] [] (by omega) (fun y ys h => by cases h)
  rw [List.nil_append, List.nil_append] at e
  rw [e]
  have hinc : ∀ (xs : List Int) (i : Nat), incI n i xs → i ≤ n → xs.length + i ≤ n := by
    intro xs
    induction xs with
    | nil => intro i _ h; simpa using h
    | cons x xs ih =>
      intro i h hi
      obtain ⟨j, _, h1, h2, h3⟩ := h
      have := ih (j + 1) h3 (by omega)
      rw [List.length_cons]
      omega
  rcases a with rfl | h
  · simp
  · have := hinc xs 0 h.1 (by omega)
    omega
def apR (rs : List Int) (l : List S44) : List Int × Int := if codeL rs l true = 0 then (apartS (mI rs l) l.length 0 [] [], 0) else ([], codeL rs l true)
theorem spec_apR (a0 a1 a2 a3 a4 a5 : Int) (l : List S44) (hs : l.all gsm = true) (hl : l.length ≤ 1048576) : Ev (fun k => spec_ApartSet.f k a0 a1 a2 a3 a4 a5 l) (apR [a0, a1, a2, a3, a4, a5] l) := by
  unfold spec_ApartSet.f apR
  refine Ev.bind (l01Asked_ev a0 a1 a2 a3 a4 a5 l hs hl true) ?_
  by_cases h : codeL [a0, a1, a2, a3, a4, a5] l true = 0
  · have hc := codeL_ok h
    simp only [h, ↓reduceIte]
    exact Ev.bind (ap_spec a0 a1 a2 a3 a4 a5 l hs hc.2.1 hc.2.2.2) (Ev.now _)
  · simp only [h, ↓reduceIte]
    exact Ev.now _
theorem impl_apR (a0 a1 a2 a3 a4 a5 : Int) (hr : rsWf [a0, a1, a2, a3, a4, a5]) (l : List S44) (hs : l.all gsm = true) : Ev (fun k => impl_ApartSet.f k a0 a1 a2 a3 a4 a5 l) (apR [a0, a1, a2, a3, a4, a5] l) := by
  unfold impl_ApartSet.f apR
  have h1 := loadCode_ev a0 a1 a2 a3 a4 a5 hr 1 l hs
  rw [show holdB 1 = true from rfl] at h1
  refine Ev.bind h1 ?_
  by_cases h : codeL [a0, a1, a2, a3, a4, a5] l true = 0
  · have hc := codeL_ok h
    simp only [h, ↓reduceIte, ap_impl a0 a1 a2 a3 a4 a5 l hs hc.2.1 hc.2.2.2, Option.bind_some]
    exact Ev.now _
  · simp only [h, ↓reduceIte]
    exact Ev.now _
def mayR (rs : List Int) (x y : S44) : Bool × Int := if rsOk rs = true then (if gok x = true then (if gok y = true then (metS rs x y, 0) else (false, 1)) else (false, 1)) else (false, 1)
theorem may_impl (a0 a1 a2 a3 a4 a5 : Int) (hr : rsWf [a0, a1, a2, a3, a4, a5]) (x y : S44) (sx : gsm x = true) (sy : gsm y = true) : Ev (fun k => impl_MayMeet.f k a0 a1 a2 a3 a4 a5 x.f0 x.f1 x.f2 x.f3 y.f0 y.f1 y.f2 y.f3) (mayR [a0, a1, a2, a3, a4, a5] x y) := by
  unfold impl_MayMeet.f mayR
  refine Ev.bind (areRules_ev a0 a1 a2 a3 a4 a5 hr) ?_
  have hg : impl_areGarments.f ([(⟨x.f0, x.f1, x.f2, x.f3⟩ : S44), (⟨y.f0, y.f1, y.f2, y.f3⟩ : S44)] : List (S44)) = some (if gok x = true then (if gok y = true then 0 else 1) else 1) := by
    have := gars_eq [x, y] (by simp [sx, sy])
    refine this.trans ?_
    by_cases gx : gok x = true <;> by_cases gy : gok y = true <;> simp [gx, gy]
  simp only [hg, Option.bind_some]
  refine Ev.bind (firstOf_ev _ (by simp)) ?_
  cases h : rsOk [a0, a1, a2, a3, a4, a5] with
  | false => simp only [firstL, Bool.false_eq_true, ↓reduceIte, show ¬ (1 : Int) = 0 by omega]; exact Ev.now _
  | true =>
    cases gx : gok x with
    | false => simp only [firstL, Bool.false_eq_true, ↓reduceIte, show ¬ (1 : Int) = 0 by omega]; exact Ev.now _
    | true =>
      cases gy : gok y with
      | false => simp only [firstL, Bool.false_eq_true, ↓reduceIte, show ¬ (1 : Int) = 0 by omega]; exact Ev.now _
      | true =>
        simp only [firstL, ↓reduceIte, impl_meet_eq a0 a1 a2 a3 a4 a5 x y (gok_col gx sx) (gok_col gy sy).1, Option.bind_some]
        exact Ev.now _
def fwCode (rs : List Int) (hold : Int) (l2 l3 : List S44) : Int :=
  if rsOk rs = true then (if (l2 ++ l3).all gok = true then (if holdB hold = true then (if (l2.length : Int) ≤ 8 ∧ (l3.length : Int) ≤ 8 then 0 else 3) else 2) else 1) else 1
def fitsFrom (rs : List Int) (hold : Int) (l2 : List S44) : Nat → List S44 → List Int → List Int
  | _, [], out => out
  | i, c :: cs, out => fitsFrom rs hold l2 (i + 1) cs (if washB rs hold (l2 ++ [c]) = true then out ++ [(i : Int)] else out)
theorem fitsFrom_len (rs : List Int) (hold : Int) (l2 : List S44) : ∀ (cs : List S44) (i : Nat) (out : List Int), (fitsFrom rs hold l2 i cs out).length ≤ out.length + cs.length
  | [], i, out => by simp [fitsFrom]
  | c :: cs, i, out => by
    rw [fitsFrom]
    have := fitsFrom_len rs hold l2 cs (i + 1) (if washB rs hold (l2 ++ [c]) = true then out ++ [(i : Int)] else out)
    split at this <;> simp at this ⊢ <;> split <;> simp_all <;> omega
def fwR (rs : List Int) (hold : Int) (l2 l3 : List S44) : List Int × Int :=
  if fwCode rs hold l2 l3 = 0 then (if washB rs hold l2 = true then (fitsFrom rs hold l2 0 l3 [], 0) else ([], 4)) else ([], fwCode rs hold l2 l3)
theorem fwCode_ok {rs : List Int} {hold : Int} {l2 l3 : List S44} (h : fwCode rs hold l2 l3 = 0) : rsOk rs = true ∧ (l2 ++ l3).all gok = true ∧ holdB hold = true ∧ l2.length ≤ 8 ∧ l3.length ≤ 8 := by
  unfold fwCode at h
  by_cases h1 : rsOk rs = true
  · rw [if_pos h1] at h
    by_cases h2 : (l2 ++ l3).all gok = true
    · rw [if_pos h2] at h
      by_cases h3 : holdB hold = true
      · rw [if_pos h3] at h
        by_cases h4 : (l2.length : Int) ≤ 8 ∧ (l3.length : Int) ≤ 8
        · exact ⟨h1, h2, h3, by omega, by omega⟩
        · rw [if_neg h4] at h; omega
      · rw [if_neg h3] at h; omega
    · rw [if_neg h2] at h; omega
  · rw [if_neg h1] at h; omega
theorem all_left {l2 l3 : List S44} {p : S44 → Bool} (h : (l2 ++ l3).all p = true) : l2.all p = true := by rw [List.all_append, Bool.and_eq_true] at h; exact h.1
theorem all_right {l2 l3 : List S44} {p : S44 → Bool} (h : (l2 ++ l3).all p = true) : l3.all p = true := by rw [List.all_append, Bool.and_eq_true] at h; exact h.2
theorem all_snoc {l2 : List S44} {c : S44} {p : S44 → Bool} (h : l2.all p = true) (hc : p c = true) : (l2 ++ [c]).all p = true := by rw [List.all_append, Bool.and_eq_true]; exact ⟨h, by simp [hc]⟩
section
variable (a0 a1 a2 a3 a4 a5 hold : Int) (l2 l3 : List S44) (hs2 : l2.all gsm = true) (hs3 : l3.all gsm = true) (hg2 : l2.all gok = true) (hg3 : l3.all gok = true) (h2 : l2.length ≤ 8) (h3 : l3.length ≤ 8)
include hs2 hs3 hg2 hg3 h2 h3
theorem fw_spec_l0 : ∀ (cs pre : List S44), l3 = pre ++ cs → ∀ out : List Int, out.length ≤ pre.length → Ev (fun k => spec_FitsWith.l0 k hold l2 l3 out (pre.length : Int) a0 a1 a2 a3 a4 a5) (fitsFrom [a0, a1, a2, a3, a4, a5] hold l2 pre.length cs out, 0) := by
  intro cs
  induction cs with
  | nil =>
    intro pre hpre out ho
    refine Ev.step (fun k => by rw [spec_FitsWith.l0]) ?_
    have : l3.length = pre.length := by rw [hpre]; simp
    simp only [show ¬ (pre.length : Int) < (l3.length : Int) by omega, ↓reduceIte]
    exact Ev.now _
  | cons c cs ih =>
    intro pre hpre out ho
    have hlen : l3.length = pre.length + cs.length + 1 := by rw [hpre]; simp; omega
    have hc : rd_T44 l3 (pre.length : Int) = c := by rw [hpre]; exact rdm pre c cs
    have hcm : c ∈ l3 := by rw [hpre]; simp
    have hnext := ih (pre ++ [c]) (by rw [hpre]; simp)
    simp only [List.length_append, List.length_cons, List.length_nil, Nat.zero_add] at hnext
    refine Ev.step (fun k => by rw [spec_FitsWith.l0]) ?_
    simp only [show (pre.length : Int) < (l3.length : Int) by omega, show (0 : Int) ≤ (pre.length : Int) by omega, ↓reduceIte, hc, Option.bind_some, List.length_nil, List.nil_append, List.length_cons, Nat.zero_add, show l2.length < 23456248059221 by omega, show l2.length + 1 < 23456248059221 by omega, wsuc (show pre.length < l3.length by omega) (by omega : l3.length ≤ 1048576)]
    refine Ev.bind (load_ev a0 a1 a2 a3 a4 a5 hold (l2 ++ [c]) (all_snoc hs2 (all_mem hs3 hcm)) (all_snoc hg2 (all_mem hg3 hcm)) (by simp; omega)) ?_
    rw [fitsFrom]
    by_cases hw : washB [a0, a1, a2, a3, a4, a5] hold (l2 ++ [c]) = true
    · simp only [hw, ↓reduceIte, show out.length + 1 < 17592186044416 by omega]
      exact hnext _ (by simp; omega)
    · simp only [hw, Bool.false_eq_true, ↓reduceIte]
      exact hnext _ (by omega)
theorem fw_impl_l0 : ∀ (cs pre : List S44), l3 = pre ++ cs → ∀ out : List Int, out.length ≤ pre.length → Ev (fun k => impl_FitsWith.l0 k hold l2 out l3 (l3.length : Int) (pre.length : Int) a0 a1 a2 a3 a4 a5) (fitsFrom [a0, a1, a2, a3, a4, a5] hold l2 pre.length cs out, 0) := by
  intro cs
  induction cs with
  | nil =>
    intro pre hpre out ho
    refine Ev.step (fun k => by rw [impl_FitsWith.l0]) ?_
    have : l3.length = pre.length := by rw [hpre]; simp
    simp only [show ¬ (pre.length : Int) < (l3.length : Int) by omega, ↓reduceIte]
    exact Ev.now _
  | cons c cs ih =>
    intro pre hpre out ho
    have hlen : l3.length = pre.length + cs.length + 1 := by rw [hpre]; simp; omega
    have hc : rd_T44 l3 (pre.length : Int) = c := by rw [hpre]; exact rdm pre c cs
    have hcm : c ∈ l3 := by rw [hpre]; simp
    have hnext := ih (pre ++ [c]) (by rw [hpre]; simp)
    simp only [List.length_append, List.length_cons, List.length_nil, Nat.zero_add] at hnext
    have hcl : slices_Clone_impl_Garment.f l2 = some l2 := by unfold slices_Clone_impl_Garment.f; rw [if_pos (by omega)]
    have hwe : impl_Rules_washable.f a0 a1 a2 a3 a4 a5 hold (l2 ++ [c]) = some (washB [a0, a1, a2, a3, a4, a5] hold (l2 ++ [c])) := wash_eq a0 a1 a2 a3 a4 a5 hold (l2 ++ [c]) (all_snoc hs2 (all_mem hs3 hcm)) (all_snoc hg2 (all_mem hg3 hcm)) (by simp; omega)
    refine Ev.step (fun k => by rw [impl_FitsWith.l0]) ?_
    simp only [show (pre.length : Int) < (l3.length : Int) by omega, show (0 : Int) ≤ (pre.length : Int) by omega, ↓reduceIte, hc, Option.bind_some, hcl, List.length_cons, List.length_nil, Nat.zero_add, show l2.length + 1 < 23456248059221 by omega, hwe, wsuc (show pre.length < l3.length by omega) (by omega : l3.length ≤ 1048576)]
    rw [fitsFrom]
    by_cases hw : washB [a0, a1, a2, a3, a4, a5] hold (l2 ++ [c]) = true
    · simp only [hw, ↓reduceIte, show out.length + 1 < 17592186044416 by omega, Option.bind_some]
      exact hnext _ (by simp; omega)
    · simp only [hw, Bool.false_eq_true, ↓reduceIte]
      exact hnext _ (by omega)
end
theorem fw_spec (a0 a1 a2 a3 a4 a5 hold : Int) (l2 l3 : List S44) (hs2 : l2.all gsm = true) (hs3 : l3.all gsm = true) (hl : l2.length + l3.length ≤ 1048576) : Ev (fun k => spec_FitsWith.f k a0 a1 a2 a3 a4 a5 hold l2 l3) (fwR [a0, a1, a2, a3, a4, a5] hold l2 l3) := by
  unfold spec_FitsWith.f
  simp only [Option.bind_some, List.length_nil, Nat.zero_add, List.nil_append, show l2.length < 23456248059221 by omega, show l2.length + l3.length < 23456248059221 by omega, ↓reduceIte, hold_eq]
  refine Ev.bind (l01Asked_ev a0 a1 a2 a3 a4 a5 (l2 ++ l3) (by rw [List.all_append, hs2, hs3]; rfl) (by simp; omega) _) ?_
  -- the code behind the three tests
  have key : ∀ (b : Bool) (c : Int), (if b = true then 0 else c) = fwCode [a0, a1, a2, a3, a4, a5] hold l2 l3 → Ev (fun k => spec_FitsWith.j0 k hold l2 l3 [] c b a0 a1 a2 a3 a4 a5) (fwR [a0, a1, a2, a3, a4, a5] hold l2 l3) := by
    intro b c hbc
    have k1 : Ev (fun k => spec_FitsWith.j1 k hold l2 l3 [] (fwCode [a0, a1, a2, a3, a4, a5] hold l2 l3) a0 a1 a2 a3 a4 a5) (fwR [a0, a1, a2, a3, a4, a5] hold l2 l3) := by
      refine Ev.step (fun k => by rw [spec_FitsWith.j1]) ?_
      unfold fwR
      by_cases h : fwCode [a0, a1, a2, a3, a4, a5] hold l2 l3 = 0
      · obtain ⟨_, hg, _, h8, h8'⟩ := fwCode_ok h
        simp only [h, ↓reduceIte]
        refine Ev.bind (load_ev a0 a1 a2 a3 a4 a5 hold l2 hs2 (all_left hg) (by omega)) ?_
        refine Ev.step (fun k => by rw [spec_FitsWith.j2]) ?_
        by_cases hw : washB [a0, a1, a2, a3, a4, a5] hold l2 = true
        · simp only [hw, Bool.not_true, Bool.false_eq_true, ↓reduceIte]
          refine Ev.step (fun k => by rw [spec_FitsWith.j3]) ?_
          simp only [↓reduceIte]
          exact fw_spec_l0 a0 a1 a2 a3 a4 a5 hold l2 l3 hs2 hs3 (all_left hg) (all_right hg) h8 h8' l3 [] rfl [] (Nat.le_refl _)
        · rw [Bool.not_eq_true] at hw
          simp only [hw, Bool.not_false, Bool.false_eq_true, ↓reduceIte]
          refine Ev.step (fun k => by rw [spec_FitsWith.j3]) ?_
          simp only [show ¬ (4 : Int) = 0 by omega, ↓reduceIte]
          exact Ev.now _
      · simp only [h, ↓reduceIte]
        refine Ev.step (fun k => by rw [spec_FitsWith.j2]) ?_
        simp only [Bool.false_eq_true, ↓reduceIte]
        refine Ev.step (fun k => by rw [spec_FitsWith.j3]) ?_
        simp only [h, ↓reduceIte]
        exact Ev.now _
    refine Ev.step (fun k => by rw [spec_FitsWith.j0]) ?_
    cases b with
    | true =>
      simp only [↓reduceIte] at hbc ⊢
      rw [← hbc] at k1
      exact k1
    | false =>
      simp only [Bool.false_eq_true, ↓reduceIte] at hbc ⊢
      rw [← hbc] at k1
      exact k1
  unfold codeL allC
  unfold fwCode at key
  simp only [List.length_append] at key ⊢
  by_cases h1 : rsOk [a0, a1, a2, a3, a4, a5] = true
  · by_cases h2 : (l2 ++ l3).all gok = true
    · by_cases h3 : holdB hold = true
      · by_cases h4 : ((l2.length + l3.length : Nat) : Int) ≤ 8
        · simp only [h1, h2, h3, h4, ↓reduceIte, show ¬ (0 : Int) = 3 by omega] at key ⊢
          exact key false 0 (by rw [if_pos (show (l2.length : Int) ≤ 8 ∧ (l3.length : Int) ≤ 8 by omega)]; rfl)
        · simp only [h1, h2, h3, h4, ↓reduceIte] at key ⊢
          by_cases h5 : (l2.length : Int) ≤ 8
          · simp only [h5, ↓reduceIte, true_and] at key ⊢
            by_cases h6 : (l3.length : Int) ≤ 8
            · simp only [h6, decide_true, ↓reduceIte] at key ⊢
              exact key true 3 rfl
            · simp only [h6, decide_false, ↓reduceIte] at key ⊢
              exact key false 3 rfl
          · simp only [h5, ↓reduceIte, false_and] at key ⊢
            exact key false 3 rfl
      · simp only [h1, h2, h3, ↓reduceIte, show ¬ (2 : Int) = 3 by omega, Bool.false_eq_true] at key ⊢
        exact key false 2 rfl
    · simp only [h1, h2, ↓reduceIte, show ¬ (1 : Int) = 3 by omega, Bool.false_eq_true] at key ⊢
      exact key false 1 rfl
  · simp only [h1, ↓reduceIte, show ¬ (1 : Int) = 3 by omega, Bool.false_eq_true] at key ⊢
    exact key false 1 rfl
theorem fw_impl (a0 a1 a2 a3 a4 a5 hold : Int) (hr : rsWf [a0, a1, a2, a3, a4, a5]) (l2 l3 : List S44) (hs2 : l2.all gsm = true) (hs3 : l3.all gsm = true) (hl : l2.length + l3.length ≤ 1048576) : Ev (fun k => impl_FitsWith.f k a0 a1 a2 a3 a4 a5 hold l2 l3) (fwR [a0, a1, a2, a3, a4, a5] hold l2 l3) := by
  have hcc : slices_Concat_impl_Garment.f [l2, l3] = some (l2 ++ l3) := by
    unfold slices_Concat_impl_Garment.f
    rw [if_pos ⟨by simp, by simp [show l2.length ≤ 1048576 by omega, show l3.length ≤ 1048576 by omega]⟩]
    simp
  unfold impl_FitsWith.f
  simp only [hcc, gars_eq (l2 ++ l3) (by rw [List.all_append, hs2, hs3]; rfl), Option.bind_some, few_eq]
  refine Ev.bind (loadCode_ev a0 a1 a2 a3 a4 a5 hr hold [] (by simp)) ?_
  refine Ev.bind (a := fwCode [a0, a1, a2, a3, a4, a5] hold l2 l3) ?_ ?_
  · have := firstOf_ev [(if (l2 ++ l3).all gok = true then 0 else 1), codeL [a0, a1, a2, a3, a4, a5] [] (holdB hold), (if (l2.length : Int) ≤ 8 then 0 else 3), (if (l3.length : Int) ≤ 8 then 0 else 3)] (by simp)
    refine cast ?_ this
    congr 1
    unfold codeL allC fwCode
    cases rsOk [a0, a1, a2, a3, a4, a5] <;> cases (l2 ++ l3).all gok <;> cases holdB hold <;> by_cases h8 : (l2.length : Int) ≤ 8 <;> by_cases h9 : (l3.length : Int) ≤ 8 <;> simp [firstL, h8, h9]
  · unfold fwR
    by_cases h : fwCode [a0, a1, a2, a3, a4, a5] hold l2 l3 = 0
    · obtain ⟨_, hg, _, h8, h8'⟩ := fwCode_ok h
      simp only [h, ↓reduceIte, wash_eq a0 a1 a2 a3 a4 a5 hold l2 hs2 (all_left hg) (by omega), Option.bind_some]
      refine Ev.step (fun k => by rw [impl_FitsWith.j0]) ?_
      by_cases hw : washB [a0, a1, a2, a3, a4, a5] hold l2 = true
      · simp only [hw, Bool.not_true, Bool.false_eq_true, ↓reduceIte]
        refine Ev.step (fun k => by rw [impl_FitsWith.j1]) ?_
        simp only [↓reduceIte]
        exact fw_impl_l0 a0 a1 a2 a3 a4 a5 hold l2 l3 hs2 hs3 (all_left hg) (all_right hg) h8 h8' l3 [] rfl [] (Nat.le_refl _)
      · rw [Bool.not_eq_true] at hw
        simp only [hw, Bool.not_false, Bool.false_eq_true, ↓reduceIte]
        refine Ev.step (fun k => by rw [impl_FitsWith.j1]) ?_
        simp only [show ¬ (4 : Int) = 0 by omega, ↓reduceIte]
        exact Ev.now _
    · simp only [h, ↓reduceIte]
      refine Ev.step (fun k => by rw [impl_FitsWith.j0]) ?_
      simp only [Bool.false_eq_true, ↓reduceIte]
      refine Ev.step (fun k => by rw [impl_FitsWith.j1]) ?_
      simp only [h, ↓reduceIte]
      exact Ev.now _
def isR (rs : List Int) (hold : Int) (l : List S44) : Bool × Int := if codeL rs l (holdB hold) = 0 then (if (l.length : Int) > 0 then (washB rs hold l, 0) else (false, 0)) else (false, codeL rs l (holdB hold))
theorem is_impl (a0 a1 a2 a3 a4 a5 hold : Int) (hr : rsWf [a0, a1, a2, a3, a4, a5]) (l : List S44) (hs : l.all gsm = true) (hl : l.length ≤ 1048576) : Ev (fun k => impl_IsLoad.f k a0 a1 a2 a3 a4 a5 hold l) (isR [a0, a1, a2, a3, a4, a5] hold l) := by
  unfold impl_IsLoad.f isR
  refine Ev.bind (loadCode_ev a0 a1 a2 a3 a4 a5 hr hold l hs) ?_
  by_cases h : codeL [a0, a1, a2, a3, a4, a5] l (holdB hold) = 0
  · simp only [h, ↓reduceIte]
    by_cases h2 : (l.length : Int) > 0
    · simp only [h2, ↓reduceIte, wash_eq a0 a1 a2 a3 a4 a5 hold l hs (codeL_ok h).2.1 hl, Option.bind_some]
      exact Ev.now _
    · simp only [h2, ↓reduceIte]; exact Ev.now _
  · simp only [h, ↓reduceIte]; exact Ev.now _
theorem apartF_iff (m : Nat → Nat → Bool) : ∀ (ys ch : List Int), apartF m ch ys = true ↔ (∀ y ∈ ys, ∀ c ∈ ch, m y.toNat c.toNat = false) ∧ ys.Pairwise (fun a b => m b.toNat a.toNat = false)
  | [], ch => by simp [apartF]
  | y :: ys, ch => by
    rw [apartF, Bool.and_eq_true, apartF_iff m ys (ch ++ [y]), List.pairwise_cons]
    unfold fineB
    rw [List.all_eq_true]
    constructor
    · rintro ⟨h1, h2, h3⟩
      refine ⟨fun z hz c hc => ?_, fun z hz => h2 z hz y (by simp), h3⟩
      rcases List.mem_cons.1 hz with rfl | hz
      · have := h1 c hc
        simpa using this
      · exact h2 z hz c (by simp [hc])
    · rintro ⟨h1, h2, h3⟩
      refine ⟨fun c hc => by simp [h1 y (by simp) c hc], fun z hz c hc => ?_, h3⟩
      rcases List.mem_append.1 hc with hc | hc
      · exact h1 z (by simp [hz]) c hc
      · rw [List.mem_singleton] at hc
        rw [hc]
        exact h2 z hz
theorem inc_pw {n : Nat} : ∀ (ys : List Int) (i : Nat), incI n i ys → ys.Pairwise (· < ·)
  | [], _, _ => List.Pairwise.nil
  | y :: ys, i, ⟨j, e, h1, h2, h3⟩ => by
    refine List.pairwise_cons.2 ⟨fun z hz => ?_, inc_pw ys (j + 1) h3⟩
    have := inc_mem ys (j + 1) h3 z hz
    omega
def insI (i : Int) : List Int → List Int
  | [] => [i]
  | y :: ys => if i < y then i :: y :: ys else y :: insI i ys
theorem insI_len (i : Int) : ∀ ys : List Int, (insI i ys).length = ys.length + 1
  | [] => rfl
  | y :: ys => by
    rw [insI]
    split
    · rfl
    · rw [List.length_cons, insI_len i ys, List.length_cons]
theorem insI_mem (i z : Int) : ∀ ys : List Int, z ∈ insI i ys ↔ z = i ∨ z ∈ ys
  | [] => by simp [insI]
  | y :: ys => by
    rw [insI]
    split
    · simp only [List.mem_cons]
    · rw [List.mem_cons, insI_mem i z ys, List.mem_cons]
      constructor
      · rintro (h | h | h)
        · exact .inr (.inl h)
        · exact .inl h
        · exact .inr (.inr h)
      · rintro (h | h | h)
        · exact .inr (.inl h)
        · exact .inl h
        · exact .inr (.inr h)
theorem insI_inc {n i : Nat} (hi : i < n) : ∀ (ys : List Int) (lo : Nat), lo ≤ i → incI n lo ys → (i : Int) ∉ ys → incI n lo (insI (i : Int) ys)
  | [], lo, h, _, _ => ⟨i, rfl, h, hi, trivial⟩
  | y :: ys, lo, h, ⟨j, e, h1, h2, h3⟩, hn => by
    subst e
    rw [insI]
    by_cases hij : (i : Int) < (j : Int)
    · rw [if_pos hij]
      exact ⟨i, rfl, h, hi, j, rfl, by omega, h2, h3⟩
    · rw [if_neg hij]
      have hne : (i : Int) ≠ (j : Int) := fun he => hn (by rw [he]; simp)
      exact ⟨j, rfl, h1, h2, insI_inc hi ys (j + 1) (by omega) h3 (fun hm => hn (by simp [hm]))⟩
theorem model_is (m : Nat → Nat → Bool) (n : Nat) (hsym : ∀ i j : Nat, i < n → j < n → m i j = m j i) :
    incI n 0 (apartS m n 0 [] []) ∧ (∀ a ∈ apartS m n 0 [] [], ∀ b ∈ apartS m n 0 [] [], a ≠ b → m a.toNat b.toNat = false)
    ∧ ∀ i : Nat, i < n → (i : Int) ∉ apartS m n 0 [] [] → ∃ k ∈ apartS m n 0 [] [], m i k.toNat = true := by
  obtain ⟨xs, e, a, _, c⟩ := apart_spec m n n 0 [] [] (by omega) (fun y ys h => by cases h)
  rw [List.nil_append, List.nil_append] at e
  rw [e]
  have hxs : okE m n 0 [] xs := a.elim (fun h => by rw [h]; exact ⟨trivial, rfl⟩) id
  have hap : ∀ a ∈ xs, ∀ b ∈ xs, a ≠ b → m a.toNat b.toNat = false := by
    have hpw := ((apartF_iff m xs []).1 hxs.2).2
    have hlt := inc_pw xs 0 hxs.1
    have hall : ∀ l : List Int, (∀ x ∈ l, 0 ≤ x ∧ x < (n : Int)) → l.Pairwise (fun a b => m b.toNat a.toNat = false) → ∀ a ∈ l, ∀ b ∈ l, a ≠ b → m a.toNat b.toNat = false := by
      intro l
      induction l with
      | nil => intro _ _ a ha; cases ha
      | cons y l ih =>
        intro hr hp a ha b hb hab
        rw [List.pairwise_cons] at hp
        have hsy : ∀ z ∈ l, m y.toNat z.toNat = m z.toNat y.toNat := fun z hz => hsym _ _ (by have := hr y (by simp); omega) (by have := hr z (by simp [hz]); omega)
        rcases List.mem_cons.1 ha with ha1 | ha1
        · rcases List.mem_cons.1 hb with hb1 | hb1
          · exact absurd (ha1.trans hb1.symm) hab
          · rw [ha1, hsy b hb1]; exact hp.1 b hb1
        · rcases List.mem_cons.1 hb with hb1 | hb1
          · rw [hb1]; exact hp.1 a ha1
          · exact ih (fun x hx => hr x (by simp [hx])) hp.2 a ha1 b hb1 hab
    exact hall xs (fun x hx => by have := inc_mem xs 0 hxs.1 x hx; omega) hpw
  refine ⟨hxs.1, hap, fun i hi hn => ?_⟩
  by_cases hex : ∃ k ∈ xs, m i k.toNat = true
  · exact hex
  · exfalso
    have hno : ∀ k ∈ xs, m i k.toNat = false := fun k hk => by
      cases hq : m i k.toNat with
      | false => rfl
      | true => exact absurd ⟨k, hk, hq⟩ hex
    have hmem : ∀ x ∈ xs, x.toNat < n := fun x hx => by have := inc_mem xs 0 hxs.1 x hx; omega
    have hinc := insI_inc hi xs 0 (Nat.zero_le _) hxs.1 hn
    have hF : apartF m [] (insI (i : Int) xs) = true := by
      rw [apartF_iff]
      refine ⟨fun y _ c hc => (by cases hc), (inc_pw _ 0 hinc).imp_of_mem (fun {a b} ha hb hab => ?_)⟩
      rw [insI_mem] at ha hb
      rcases ha with rfl | ha
      · rcases hb with rfl | hb
        · omega
        · rw [hsym _ _ (hmem b hb) (by omega), Int.toNat_natCast]
          exact hno b hb
      · rcases hb with rfl | hb
        · rw [Int.toNat_natCast]
          exact hno a ha
        · exact hap b hb a ha (by omega)
    have := c _ ⟨hinc, hF⟩
    rw [insI_len] at this
    omega
theorem SameS_l0 (l : List Int) (hl : l.length ≤ 1048576) : ∀ (cs pre : List Int), l = pre ++ cs → Ev (fun k => spec_SameSets.l0 k l l (pre.length : Int)) true := by
  intro cs
  induction cs with
  | nil =>
    intro pre hpre
    refine Ev.step (fun k => by rw [spec_SameSets.l0]) ?_
    have : l.length = pre.length := by rw [hpre]; simp
    simp only [show ¬ (pre.length : Int) < (l.length : Int) by omega, ↓reduceIte]
    exact Ev.now _
  | cons c cs ih =>
    intro pre hpre
    have hlen : l.length = pre.length + cs.length + 1 := by rw [hpre]; simp; omega
    have hnext := ih (pre ++ [c]) (by rw [hpre]; simp)
    simp only [List.length_append, List.length_cons, List.length_nil, Nat.zero_add] at hnext
    refine Ev.step (fun k => by rw [spec_SameSets.l0]) ?_
    simp only [show (pre.length : Int) < (l.length : Int) by omega, show (0 : Int) ≤ (pre.length : Int) by omega, ↓reduceIte, wsuc (show pre.length < l.length by omega) hl]
    exact hnext
theorem SameS_ev (l : List Int) (hl : l.length ≤ 1048576) : Ev (fun k => spec_SameSets.f k l l) true := by
  unfold spec_SameSets.f
  simp only [↓reduceIte]
  exact SameS_l0 l hl l [] rfl
theorem SameN_l0 (l : List Int) (hl : l.length ≤ 1048576) : ∀ (cs pre : List Int), l = pre ++ cs → Ev (fun k => spec_l00Same.l0 k l l (pre.length : Int)) true := by
  intro cs
  induction cs with
  | nil =>
    intro pre hpre
    refine Ev.step (fun k => by rw [spec_l00Same.l0]) ?_
    have : l.length = pre.length := by rw [hpre]; simp
    simp only [show ¬ (pre.length : Int) < (l.length : Int) by omega, ↓reduceIte]
    exact Ev.now _
  | cons c cs ih =>
    intro pre hpre
    have hlen : l.length = pre.length + cs.length + 1 := by rw [hpre]; simp; omega
    have hnext := ih (pre ++ [c]) (by rw [hpre]; simp)
    simp only [List.length_append, List.length_cons, List.length_nil, Nat.zero_add] at hnext
    refine Ev.step (fun k => by rw [spec_l00Same.l0]) ?_
    simp only [show (pre.length : Int) < (l.length : Int) by omega, show (0 : Int) ≤ (pre.length : Int) by omega, ↓reduceIte, wsuc (show pre.length < l.length by omega) hl]
    exact hnext
theorem SameN_ev (l : List Int) (hl : l.length ≤ 1048576) : Ev (fun k => spec_SameNumbers.f k l l) true := by
  unfold spec_SameNumbers.f spec_l00Same.f
  simp only [↓reduceIte]
  exact Ev.bind (SameN_l0 l hl l [] rfl) (Ev.now _)
theorem Has_l0 (l : List Int) (hl : l.length ≤ 1048576) (x : Int) : ∀ (cs pre : List Int), l = pre ++ cs → Ev (fun k => spec_l00Has.l0 k l x (pre.length : Int)) (decide (x ∈ cs)) := by
  intro cs
  induction cs with
  | nil =>
    intro pre hpre
    refine Ev.step (fun k => by rw [spec_l00Has.l0]) ?_
    have : l.length = pre.length := by rw [hpre]; simp
    simp only [show ¬ (pre.length : Int) < (l.length : Int) by omega, ↓reduceIte]
    exact Ev.now _
  | cons c cs ih =>
    intro pre hpre
    have hlen : l.length = pre.length + cs.length + 1 := by rw [hpre]; simp; omega
    have hc : rd l (pre.length : Int) = c := by rw [hpre]; exact rdim pre c cs
    have hnext := ih (pre ++ [c]) (by rw [hpre]; simp)
    simp only [List.length_append, List.length_cons, List.length_nil, Nat.zero_add] at hnext
    refine Ev.step (fun k => by rw [spec_l00Has.l0]) ?_
    simp only [show (pre.length : Int) < (l.length : Int) by omega, show (0 : Int) ≤ (pre.length : Int) by omega, ↓reduceIte, hc, wsuc (show pre.length < l.length by omega) hl]
    by_cases h : c = x
    · simp only [h, ↓reduceIte]
      exact cast (by simp) (Ev.now (α := Bool) true)
    · simp only [h, ↓reduceIte]
      have e : decide (x ∈ c :: cs) = decide (x ∈ cs) := by
        rw [decide_eq_decide, List.mem_cons]
        exact ⟨fun k => k.resolve_left (fun q => h q.symm), .inr⟩
      rw [e]
      exact hnext
theorem Has_ev (l : List Int) (hl : l.length ≤ 1048576) (x : Int) : Ev (fun k => spec_HasNumber.f k l x) (decide (x ∈ l)) := by
  unfold spec_HasNumber.f spec_l00Has.f
  exact Ev.bind (Has_l0 l hl x l [] rfl) (Ev.now _)
theorem mI_sym {rs : List Int} (hv : RsV rs) {l : List S44} (hs : l.all gsm = true) (hg : l.all gok = true) (i j : Nat) (hi : i < l.length) (hj : j < l.length) : mI rs l i j = mI rs l j i := by
  have him := rd_mem l (i := (i : Int)) (by omega) (by omega)
  have hjm := rd_mem l (i := (j : Int)) (by omega) (by omega)
  have ci := gok_col (all_mem hg him) (all_mem hs him)
  have cj := gok_col (all_mem hg hjm) (all_mem hs hjm)
  unfold mI
  rw [met_eq, met_eq]
  unfold metS
  rw [bit_tb, bit_tb, hv.sym _ _ ci.1 ci.2 cj.1 cj.2]
  congr 1
  rw [decide_eq_decide]
  unfold mx mn
  split <;> split <;> split <;> split <;> omega
theorem valid_eq (x : S44) (h : gsm x = true) : impl_ValidGarment.f x.f0 x.f1 x.f2 x.f3 = some (gok x) := by
  obtain ⟨h0, h0', h1, h1', h2, h2', h3, h3'⟩ := of_decide_eq_true h
  have e1 : wrap64 x.f1 = x.f1 := by unfold wrap64; omega
  have e2 : wrap64 x.f2 = x.f2 := by unfold wrap64; omega
  have e3 : wrap64 x.f3 = x.f3 := by unfold wrap64; omega
  unfold impl_ValidGarment.f gok
  rw [within_eq, within_eq, e1, e2, e3]
  by_cases q0 : x.f0 < 6 <;> by_cases q1 : 0 ≤ x.f1 ∧ x.f1 ≤ x.f2 <;> by_cases q2 : x.f2 ≤ 95 <;> by_cases q3 : 1 ≤ x.f3 ∧ x.f3 ≤ 2000 <;> simp [q0, q1, q2, q3]
section
variable (more : List Int) (list : List S44) (model : List Int) (a0 a1 a2 a3 a4 a5 : Int) (hr : rsWf [a0, a1, a2, a3, a4, a5]) (hok : rsOk [a0, a1, a2, a3, a4, a5] = true) (hs : list.all gsm = true) (hg : list.all gok = true) (hl : list.length ≤ 8) (hml : model.length ≤ 8) (hm : ∀ k ∈ model, 0 ≤ k ∧ k < (list.length : Int))
include hr hok hs hg hl hml hm
theorem me_l5 (i : Nat) (hi : i < list.length) (free : Bool) (hin : free = false → ∀ k ∈ model, k ≠ (i : Int) → mI [a0, a1, a2, a3, a4, a5] list i k.toNat = false)
    (hcl : free = true → ∃ k ∈ model, k ≠ (i : Int) ∧ mI [a0, a1, a2, a3, a4, a5] list i k.toNat = true)
    (hnext : Ev (fun k => laws_FnMeets.l4 k more list model ((i + 1 : Nat) : Int) a0 a1 a2 a3 a4 a5) true) : ∀ (cs pre : List Int) (f : Bool), model = pre ++ cs → (f = true ↔ ∃ k ∈ pre, k ≠ (i : Int) ∧ mI [a0, a1, a2, a3, a4, a5] list i k.toNat = true) →
    Ev (fun k => laws_FnMeets.l5 k more list model (i : Int) free f (pre.length : Int) a0 a1 a2 a3 a4 a5) true := by
  have hv := RsV.of hr hok
  have him := rd_mem list (i := (i : Int)) (by omega) (by omega)
  have hsi := all_mem hs him
  have hgi := all_mem hg him
  have hwi : wrap64 ((i : Int) + 1) = ((i + 1 : Nat) : Int) := by unfold wrap64; omega
  intro cs
  induction cs with
  | nil =>
    intro pre f hpre hf
    rw [List.append_nil] at hpre
    have hlen : model.length = pre.length := by rw [hpre]
    have hvg : impl_ValidGarment.f (rd_T44 list (i : Int)).f0 (rd_T44 list (i : Int)).f1 (rd_T44 list (i : Int)).f2 (rd_T44 list (i : Int)).f3 = some true := by
      rw [← hgi]
      exact valid_eq _ hsi
    refine Ev.step (fun k => by rw [laws_FnMeets.l5]) ?_
    cases free with
    | true =>
      have hft : f = true := hf.2 (by rw [← hpre]; exact hcl rfl)
      simp only [hft, show ¬ (pre.length : Int) < (model.length : Int) by omega, ↓reduceIte, show (0 : Int) ≤ (i : Int) by omega, show (i : Int) < (list.length : Int) by omega, hvg, Option.bind_some, hwi]
      exact hnext
    | false =>
      simp only [Bool.false_eq_true, show ¬ (pre.length : Int) < (model.length : Int) by omega, ↓reduceIte, show (0 : Int) ≤ (i : Int) by omega, show (i : Int) < (list.length : Int) by omega, hvg, Option.bind_some, hwi]
      exact hnext
  | cons c cs ih =>
    intro pre f hpre hf
    have hlen : model.length = pre.length + cs.length + 1 := by rw [hpre]; simp; omega
    have hc : rd model (pre.length : Int) = c := by rw [hpre]; exact rdim pre c cs
    have hcm : c ∈ model := by rw [hpre]; simp
    have hcr := hm c hcm
    have hn := fun f hf => ih (pre ++ [c]) f (by rw [hpre]; simp) hf
    simp only [List.length_append, List.length_cons, List.length_nil, Nat.zero_add] at hn
    refine Ev.step (fun k => by rw [laws_FnMeets.l5]) ?_
    simp only [show (pre.length : Int) < (model.length : Int) by omega, show (0 : Int) ≤ (pre.length : Int) by omega, ↓reduceIte, hc, wsuc (show pre.length < model.length by omega) (by omega : model.length ≤ 1048576)]
    by_cases hci : c = (i : Int)
    · simp only [hci, ↓reduceIte]
      refine hn f ?_
      rw [hf]
      constructor
      · rintro ⟨k, hk, h1, h2⟩
        exact ⟨k, by simp [hk], h1, h2⟩
      · rintro ⟨k, hk, h1, h2⟩
        rcases List.mem_append.1 hk with hk | hk
        · exact ⟨k, hk, h1, h2⟩
        · rw [List.mem_singleton] at hk
          exact absurd (hk.trans hci) h1
    · have hcmem := rd_mem list hcr.1 hcr.2
      have hsc := all_mem hs hcmem
      have hgc := all_mem hg hcmem
      have hij : mI [a0, a1, a2, a3, a4, a5] list i c.toNat = metS [a0, a1, a2, a3, a4, a5] (rd_T44 list (i : Int)) (rd_T44 list c) := by
        unfold mI
        rw [show ((c.toNat : Nat) : Int) = c by omega]
        rfl
      have hji : mI [a0, a1, a2, a3, a4, a5] list i c.toNat = metS [a0, a1, a2, a3, a4, a5] (rd_T44 list c) (rd_T44 list (i : Int)) := by
        rw [mI_sym hv hs hg i c.toNat hi (by omega)]
        unfold mI
        rw [show ((c.toNat : Nat) : Int) = c by omega]
        rfl
      have e1 := may_impl a0 a1 a2 a3 a4 a5 hr (rd_T44 list (i : Int)) (rd_T44 list c) hsi hsc
      have e2 := may_impl a0 a1 a2 a3 a4 a5 hr (rd_T44 list c) (rd_T44 list (i : Int)) hsc hsi
      unfold mayR at e1 e2
      rw [if_pos hok, if_pos hgi, if_pos hgc, ← hij] at e1
      rw [if_pos hok, if_pos hgc, if_pos hgi, ← hji] at e2
      simp only [hci, show (0 : Int) ≤ (i : Int) by omega, show (i : Int) < (list.length : Int) by omega, hcr.1, hcr.2, ↓reduceIte]
      refine Ev.bind e1 ?_
      refine Ev.bind e2 ?_
      have hstep : ∀ b : Bool, (b = true ↔ f = true ∨ mI [a0, a1, a2, a3, a4, a5] list i c.toNat = true) → (b = true ↔ ∃ k ∈ pre ++ [c], k ≠ (i : Int) ∧ mI [a0, a1, a2, a3, a4, a5] list i k.toNat = true) := by
        intro b hb
        rw [hb, hf]
        constructor
        · rintro (⟨k, hk, h1, h2⟩ | h)
          · exact ⟨k, by simp [hk], h1, h2⟩
          · exact ⟨c, by simp, hci, h⟩
        · rintro ⟨k, hk, h1, h2⟩
          rcases List.mem_append.1 hk with hk | hk
          · exact .inl ⟨k, hk, h1, h2⟩
          · rw [List.mem_singleton] at hk
            rw [hk] at h2
            exact .inr h2
      simp only [↓reduceIte, bne_self_eq_false, Bool.false_eq_true]
      cases hq : mI [a0, a1, a2, a3, a4, a5] list i c.toNat with
      | true =>
        cases hfr : free with
        | false =>
          have := hin hfr c hcm hci
          rw [hq] at this
          cases this
        | true =>
          subst hfr
          simp only [↓reduceIte]
          cases f with
          | true =>
            simp only [↓reduceIte]
            exact hn true (hstep true (by simp))
          | false =>
            simp only [Bool.false_eq_true, ↓reduceIte]
            exact hn true (hstep true (by simp [hq]))
      | false =>
        simp only [Bool.false_eq_true, ↓reduceIte]
        cases f with
        | true =>
          simp only [↓reduceIte]
          exact hn true (hstep true (by simp))
        | false =>
          simp only [Bool.false_eq_true, ↓reduceIte]
          exact hn false (hstep false (by simp [hq]))
theorem me_l4 (hap : ∀ a ∈ model, ∀ b ∈ model, a ≠ b → mI [a0, a1, a2, a3, a4, a5] list a.toNat b.toNat = false) (hfr : ∀ i : Nat, i < list.length → (i : Int) ∉ model → ∃ k ∈ model, mI [a0, a1, a2, a3, a4, a5] list i k.toNat = true)
    (hnext : Ev (fun k => laws_FnMeets.j8 k more list (list.take 1) a0 a1 a2 a3 a4 a5) true) : ∀ (d i : Nat), i + d = list.length → Ev (fun k => laws_FnMeets.l4 k more list model (i : Int) a0 a1 a2 a3 a4 a5) true := by
  intro d
  induction d with
  | zero =>
    intro i hi
    refine Ev.step (fun k => by rw [laws_FnMeets.l4]) ?_
    simp only [show ¬ (i : Int) < (list.length : Int) by omega, ↓reduceIte, Option.bind_some]
    by_cases h0 : (list.length : Int) > 0
    · simp only [h0, show (0 : Int) < (list.length : Int) from h0, ↓reduceIte, List.length_nil, List.length_cons, Nat.zero_add, show 1 < 23456248059221 by omega, List.nil_append]
      have e : list.take 1 = [rd_T44 list 0] := by
        cases list with
        | nil => simp at h0
        | cons x xs => simp [rd_T44]
      rw [e] at hnext
      exact hnext
    · simp only [h0, ↓reduceIte]
      have e : list.take 1 = [] := by
        cases list with
        | nil => rfl
        | cons x xs => simp at h0
      rw [e] at hnext
      exact hnext
  | succ d ih =>
    intro i hi
    refine Ev.step (fun k => by rw [laws_FnMeets.l4]) ?_
    simp only [show (i : Int) < (list.length : Int) by omega, ↓reduceIte]
    refine Ev.bind (Has_ev model (by omega) (i : Int)) ?_
    refine me_l5 more list model a0 a1 a2 a3 a4 a5 hr hok hs hg hl hml hm i (by omega) _ (fun hfree k hk hki => ?_) (fun hfree => ?_) (ih (i + 1) (by omega)) model [] false rfl (by simp)
    · have hin : (i : Int) ∈ model := by simpa using hfree
      have := hap _ hin k hk (fun e => hki e.symm)
      rwa [Int.toNat_natCast] at this
    · have hnin : (i : Int) ∉ model := by simpa using hfree
      obtain ⟨k, hk, h⟩ := hfr i (by omega) hnin
      exact ⟨k, hk, fun e => hnin (e ▸ hk), h⟩
end
theorem fits_lt (rs : List Int) (hold : Int) (l2 : List S44) (j : Int) : ∀ (cs : List S44) (i : Nat) (out : List Int), j < (i : Int) → (j ∈ fitsFrom rs hold l2 i cs out ↔ j ∈ out)
  | [], i, out, _ => by rw [fitsFrom]
  | c :: cs, i, out, h => by
    rw [fitsFrom, fits_lt rs hold l2 j cs (i + 1) _ (by omega)]
    split
    · rw [List.mem_append, List.mem_singleton]
      exact ⟨fun h => h.resolve_right (by omega), .inl⟩
    · exact Iff.rfl
theorem fits_at (rs : List Int) (hold : Int) (l2 : List S44) (c : S44) (cs : List S44) : ∀ (pre : List S44) (i : Nat) (out : List Int), (∀ x ∈ out, x < (i : Int)) → (((i + pre.length : Nat) : Int) ∈ fitsFrom rs hold l2 i (pre ++ c :: cs) out ↔ washB rs hold (l2 ++ [c]) = true)
  | [], i, out, h => by
    have hn : ((i + ([] : List S44).length : Nat) : Int) ∉ out := fun hm => by
      have := h _ hm
      simp at this
    rw [List.nil_append, fitsFrom, fits_lt rs hold l2 _ cs (i + 1) _ (by rw [List.length_nil]; omega)]
    by_cases hw : washB rs hold (l2 ++ [c]) = true
    · rw [if_pos hw]
      simp [hw]
    · rw [if_neg hw]
      exact ⟨fun k => absurd k hn, fun k => absurd k hw⟩
  | p :: pre, i, out, h => by
    have hq : ∀ x ∈ (if washB rs hold (l2 ++ [p]) = true then out ++ [(i : Int)] else out), x < ((i + 1 : Nat) : Int) := by
      intro x hx
      split at hx
      · rcases List.mem_append.1 hx with hx | hx
        · have := h x hx; omega
        · rw [List.mem_singleton] at hx; omega
      · have := h x hx; omega
    have := fits_at rs hold l2 c cs pre (i + 1) _ hq
    rw [List.cons_append, fitsFrom, show i + (p :: pre).length = i + 1 + pre.length by rw [List.length_cons]; omega]
    exact this
theorem codeL_zero {rs : List Int} {l : List S44} (h1 : rsOk rs = true) (h2 : l.all gok = true) (h3 : l.length ≤ 8) : codeL rs l true = 0 := by
  unfold codeL allC
  rw [if_pos h1, if_pos h2, if_pos rfl, if_pos (by omega)]
theorem light_gok {x : S44} (h : light x = true) : gok x = true ∧ gsm x = true ∧ x.f3 ≤ 20 := by
  unfold light at h
  simp only [Bool.and_eq_true, decide_eq_true_eq] at h
  exact ⟨h.1.1, h.1.2, h.2⟩
section
variable (more : List Int) (list : List S44) (a0 a1 a2 a3 a4 a5 : Int) (hr : rsWf [a0, a1, a2, a3, a4, a5]) (hok : rsOk [a0, a1, a2, a3, a4, a5] = true) (hli : list.all light = true) (hl : list.length ≤ 6)
theorem light_all {l : List S44} (h : l.all light = true) : l.all gok = true ∧ l.all gsm = true :=
  ⟨List.all_eq_true.2 (fun x hx => (light_gok (all_mem h hx)).1), List.all_eq_true.2 (fun x hx => (light_gok (all_mem h hx)).2.1)⟩
include hr hok hli hl
theorem me_l6 (hold : Int) (hh : holdB hold = true) (load : List S44) (hlo : load.all light = true) (hll : load.length ≤ 1) : ∀ (cs pre : List S44), list = pre ++ cs →
    Ev (fun k => laws_FnMeets.l6 k list load hold (fitsFrom [a0, a1, a2, a3, a4, a5] hold load 0 list []) (pre.length : Int) a0 a1 a2 a3 a4 a5) true := by
  have hfl := fitsFrom_len [a0, a1, a2, a3, a4, a5] hold load list 0 []
  rw [List.length_nil] at hfl
  intro cs
  induction cs with
  | nil =>
    intro pre hpre
    have : list.length = pre.length := by rw [hpre]; simp
    refine Ev.step (fun k => by rw [laws_FnMeets.l6]) ?_
    simp only [show ¬ (pre.length : Int) < (list.length : Int) by omega, ↓reduceIte]
    exact Ev.now _
  | cons c cs ih =>
    intro pre hpre
    have hlen : list.length = pre.length + cs.length + 1 := by rw [hpre]; simp; omega
    have hc : rd_T44 list (pre.length : Int) = c := by rw [hpre]; exact rdm pre c cs
    have hcl : light c = true := all_mem hli (by rw [hpre]; simp)
    have hlc : (load ++ [c]).all light = true := all_snoc hlo hcl
    have hn := ih (pre ++ [c]) (by rw [hpre]; simp)
    simp only [List.length_append, List.length_cons, List.length_nil, Nat.zero_add] at hn
    have hat := fits_at [a0, a1, a2, a3, a4, a5] hold load c cs pre 0 [] (fun x hx => by cases hx)
    rw [← hpre, Nat.zero_add] at hat
    have hev := is_impl a0 a1 a2 a3 a4 a5 hold hr (load ++ [c]) (light_all hlc).2 (by simp; omega)
    have hll2 : (load ++ [c]).length ≤ 8 := by rw [List.length_append, List.length_singleton]; omega
    have hgt : ((load ++ [c]).length : Int) > 0 := by rw [List.length_append, List.length_singleton]; omega
    unfold isR at hev
    rw [hh, if_pos (codeL_zero hok (light_all hlc).1 hll2), if_pos hgt] at hev
    refine Ev.step (fun k => by rw [laws_FnMeets.l6]) ?_
    simp only [show (pre.length : Int) < (list.length : Int) by omega, show (0 : Int) ≤ (pre.length : Int) by omega, ↓reduceIte, hc, Option.bind_some, List.length_nil, Nat.zero_add, List.nil_append, List.length_cons, show load.length < 23456248059221 by omega, show load.length + 1 < 23456248059221 by omega, wsuc (show pre.length < list.length by omega) (by omega : list.length ≤ 1048576)]
    refine Ev.bind hev ?_
    simp only [↓reduceIte]
    refine Ev.bind (Has_ev _ (by omega) (pre.length : Int)) ?_
    have he : washB [a0, a1, a2, a3, a4, a5] hold (load ++ [c]) = decide ((pre.length : Int) ∈ fitsFrom [a0, a1, a2, a3, a4, a5] hold load 0 list []) := by
      rw [Bool.eq_iff_iff, decide_eq_true_eq]
      exact hat.symm
    rw [← he]
    simp only [bne_self_eq_false, Bool.false_eq_true, ↓reduceIte]
    exact hn
theorem me_j8 (hb : bytesB more) : Ev (fun k => laws_FnMeets.j8 k more list (list.take 1) a0 a1 a2 a3 a4 a5) true := by
  obtain ⟨v, hv, v0, v1⟩ := P6Pick_ok more hb
  have hw : wrap64 (20 + v) = 20 + v := by unfold wrap64; omega
  have hh : holdB (20 + v) = true := by unfold holdB; rw [decide_eq_true_eq]; omega
  have hta : (list.take 1).all light = true := List.all_eq_true.2 (fun x hx => all_mem hli (List.mem_of_mem_take hx))
  have htl : (list.take 1).length ≤ 1 := by rw [List.length_take]; omega
  have hR : fwR [a0, a1, a2, a3, a4, a5] (20 + v) (list.take 1) list = (fitsFrom [a0, a1, a2, a3, a4, a5] (20 + v) (list.take 1) 0 list [], 0) := by
    have hcode : fwCode [a0, a1, a2, a3, a4, a5] (20 + v) (list.take 1) list = 0 := by
      unfold fwCode
      rw [if_pos hok, if_pos (by rw [List.all_append, (light_all hta).1, (light_all hli).1]; rfl), if_pos hh, if_pos (by omega)]
    have hwash : washB [a0, a1, a2, a3, a4, a5] (20 + v) (list.take 1) = true := by
      cases hq : list with
      | nil =>
        rw [List.take_nil]
        unfold washB apartFrom weightB weightFrom
        rw [Bool.true_and, decide_eq_true_eq]
        omega
      | cons x xs =>
        have hx := light_gok (all_mem hli (x := x) (by rw [hq]; simp))
        have hs := of_decide_eq_true hx.2.1
        rw [show (x :: xs).take 1 = [x] from rfl]
        have hx3 : wrap64 (0 + wrap64 x.f3) = x.f3 := by unfold wrap64; omega
        have hwb : weightB [x] ≤ 20 + v := by
          show wrap64 (0 + wrap64 x.f3) ≤ 20 + v
          rw [hx3]
          omega
        unfold washB
        rw [decide_eq_true hwb]
        rfl
    unfold fwR
    rw [if_pos hcode, if_pos hwash]
  have hfl := fitsFrom_len [a0, a1, a2, a3, a4, a5] (20 + v) (list.take 1) list 0 []
  rw [List.length_nil] at hfl
  have hi := fw_impl a0 a1 a2 a3 a4 a5 (20 + v) hr (list.take 1) list (light_all hta).2 (light_all hli).2 (by omega)
  have hsp := fw_spec a0 a1 a2 a3 a4 a5 (20 + v) (list.take 1) list (light_all hta).2 (light_all hli).2 (by omega)
  rw [hR] at hi hsp
  refine Ev.step (fun k => by rw [laws_FnMeets.j8]) ?_
  simp only [hv, Option.bind_some, hw]
  refine Ev.bind hi ?_
  refine Ev.bind hsp ?_
  simp only [↓reduceIte]
  refine Ev.bind (SameN_ev _ (by omega)) ?_
  refine Ev.step (fun k => by rw [laws_FnMeets.j9]) ?_
  simp only [Bool.not_true, Bool.false_eq_true, ↓reduceIte]
  exact me_l6 list a0 a1 a2 a3 a4 a5 hr hok hli hl (20 + v) hh (list.take 1) hta htl list [] rfl
end
theorem FnMeets (l0 : List Int) (l1 : List Int) (y0 : l0.length ≤ 9223372036854775807) (w0 : ∀ x ∈ l0, (Lit.int .u8 x).wf = true) (y1 : l1.length ≤ 9223372036854775807) (w1 : ∀ x ∈ l1, (Lit.int .u8 x).wf = true) : ∃ k, laws_FnMeets.f k l0 l1 = some true := by
  refine Ev.rounds ?_
  unfold laws_FnMeets.f laws_f6big.f
  simp only [Option.bind_some]
  by_cases b0 : (l0.length : Int) > 4096
  · simp only [b0, decide_true, ↓reduceIte]
    refine Ev.step (fun k => by rw [laws_FnMeets.j0]) ?_
    simp only [↓reduceIte]
    exact Ev.now _
  · simp only [b0, decide_false, Bool.false_eq_true, ↓reduceIte]
    by_cases b1 : (l1.length : Int) > 4096
    · simp only [b1, decide_true]
      refine Ev.step (fun k => by rw [laws_FnMeets.j0]) ?_
      simp only [↓reduceIte]
      exact Ev.now _
    · simp only [b1, decide_false]
      have hb0 := u8_bytes w0
      have hb1 := u8_bytes w1
      obtain ⟨a0, a1, a2, a3, a4, a5, hR, hr, hok⟩ := P6Rules_ok l0 hb0
      obtain ⟨list, hG, hl, hli⟩ := P6Garments_ok l1 hb1
      obtain ⟨hg, hs⟩ := light_all hli
      have hv := RsV.of hr hok
      have hsi := sets_impl a0 a1 a2 a3 a4 a5 hr
      have hss := sets_spec a0 a1 a2 a3 a4 a5 hr
      unfold setsR at hsi hss
      rw [if_pos hok] at hsi hss
      have hai := impl_apR a0 a1 a2 a3 a4 a5 hr list hs
      have has := spec_apR a0 a1 a2 a3 a4 a5 list hs (by omega)
      unfold apR at hai has
      rw [if_pos (codeL_zero hok hg (by omega))] at hai has
      have hdl := setsK_len [a0, a1, a2, a3, a4, a5] 63 []
      rw [List.length_nil] at hdl
      have hml := apart_len (mI [a0, a1, a2, a3, a4, a5] list) list.length
      obtain ⟨hinc, hap, hfr⟩ := model_is (mI [a0, a1, a2, a3, a4, a5] list) list.length (fun i j hi hj => mI_sym hv hs hg i j hi hj)
      have hm : ∀ k ∈ apartS (mI [a0, a1, a2, a3, a4, a5] list) list.length 0 [] [], 0 ≤ k ∧ k < (list.length : Int) := fun k hk => by
        have := inc_mem _ 0 hinc k hk
        omega
      have hedge : ∀ a b : Int, 0 ≤ a → a < 6 → 0 ≤ b → b < 6 → ((setsK [a0, a1, a2, a3, a4, a5] 63 []).any fun s => tb s a && tb s b) = tb (rd [a0, a1, a2, a3, a4, a5] a) b := fun a b h0 h1 h2 h3 => edge_set hv h0 h1 h2 h3
      obtain ⟨d, ds, hds⟩ : ∃ d ds, setsK [a0, a1, a2, a3, a4, a5] 63 [] = d :: ds := by
        cases hq : setsK [a0, a1, a2, a3, a4, a5] 63 [] with
        | nil =>
          have := hedge 0 0 (by omega) (by omega) (by omega) (by omega)
          rw [hq, hv.refl 0 (by omega) (by omega)] at this
          cases this
        | cons d ds => exact ⟨d, ds, rfl⟩
      have hempty : ((((apartS (mI [a0, a1, a2, a3, a4, a5] list) list.length 0 [] []).length : Int) == 0) != ((list.length : Int) == 0)) = false := by
        cases hq : apartS (mI [a0, a1, a2, a3, a4, a5] list) list.length 0 [] [] with
        | nil =>
          have hz : list.length = 0 := by
            cases hz : list.length with
            | zero => rfl
            | succ n =>
              obtain ⟨k, hk, _⟩ := hfr 0 (by omega) (by rw [hq]; simp)
              rw [hq] at hk
              cases hk
          rw [hz]
          rfl
        | cons k ks =>
          have hk := hm k (by rw [hq]; simp)
          have h1 : (((k :: ks).length : Int) == 0) = false := by rw [List.length_cons, beq_eq_false_iff_ne]; omega
          have h2 : ((list.length : Int) == 0) = false := by rw [beq_eq_false_iff_ne]; omega
          rw [h1, h2]
          rfl
      refine Ev.step (fun k => by rw [laws_FnMeets.j0]) ?_
      simp only [Bool.false_eq_true, ↓reduceIte, hR, Option.bind_some]
      refine Ev.bind hG ?_
      refine Ev.bind hsi ?_
      refine Ev.bind hss ?_
      refine Ev.bind hai ?_
      refine Ev.bind has ?_
      simp only [↓reduceIte]
      refine Ev.bind (SameS_ev _ (by omega)) ?_
      have hd1 : ¬ ((setsK [a0, a1, a2, a3, a4, a5] 63 []).length : Int) < 1 := by rw [hds, List.length_cons]; omega
      simp only [hd1, ↓reduceIte]
      have hri := rules_impl a0 a1 a2 a3 a4 a5 hr
      rw [hok] at hri
      refine Ev.bind hri ?_
      simp only [↓reduceIte]
      refine Ev.bind (SameN_ev _ (by omega)) ?_
      simp only [↓reduceIte]
      rw [hempty]
      refine Ev.step (fun k => by rw [laws_FnMeets.j1]) ?_
      simp only [Bool.false_eq_true, ↓reduceIte]
      refine me_l0 l1 list _ a0 a1 a2 a3 a4 a5 _ (by omega) hedge ?_ 6 0 (Int.le_refl _) (by omega)
      have hl3 := me_l3 l1 list (apartS (mI [a0, a1, a2, a3, a4, a5] list) list.length 0 [] []) a0 a1 a2 a3 a4 a5 (setsK [a0, a1, a2, a3, a4, a5] 63 []) (by omega) (setsK_sorted _ 63 [] List.Pairwise.nil (fun x hx => by cases hx)) (fun x hx y hy h => not_within hv hx hy h)
        (me_l4 l1 list _ a0 a1 a2 a3 a4 a5 hr hok hs hg (by omega) (by omega) hm hap hfr (me_j8 l1 list a0 a1 a2 a3 a4 a5 hr hok hli hl hb1) list.length 0 (by omega)) ds [] d hds
      exact hl3
end Go.Proofs.YthodfhcaaidnmaaDoor.Pure
