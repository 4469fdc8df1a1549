/- Words and walks for the law FnExactLoadsBound. -/
import Derived.Test.YthodfhcaaidnmaaDoorTLb32
import Derived.OpenShut
namespace Go.Proofs.YthodfhcaaidnmaaDoor.Pure
set_option linter.unusedSimpArgs false
set_option linter.unusedVariables false
open Go.RowKit Go.Proofs.YthodfhcaaidnmaaDoor.As Go.Proofs.YthodfhcaaidnmaaDoorW.PrintWords Go.Proofs.YthodfhcaaidnmaaDoorW.PrintLast Go.Proofs.YthodfhcaaidnmaaDoorW.PrintMore
theorem rdm (pre : List S44) (c : S44) (cs : List S44) : rd_T44 (pre ++ c :: cs) (pre.length : Int) = c := by simp [rd_T44, List.getD_eq_getElem?_getD]
theorem rdim (pre : List Int) (c : Int) (cs : List Int) : rd (pre ++ c :: cs) (pre.length : Int) = c := by simp [rd, List.getD_eq_getElem?_getD]
theorem wsuc {i n : Nat} (h : i < n) (hn : n ≤ 1048576) : wrap64 ((i : Int) + 1) = ((i + 1 : Nat) : Int) := by unfold wrap64; omega
theorem l00In_eq (a b c : Int) : spec_l00In.f a b c = some (decide (b ≤ a ∧ a ≤ c)) := by
  unfold spec_l00In.f
  by_cases h : b ≤ a
  · rw [if_pos (show a ≥ b from h)]; simp [h]
  · rw [if_neg (show ¬ a ≥ b from h)]; simp [h]
theorem within_eq (a b c : Int) : impl_within.f a b c = some (decide (b ≤ a ∧ a ≤ c)) := l00In_eq a b c
theorem unless_eq (b : Bool) (c : Int) : impl_unless.f b c = some (if b = true then 0 else c) := by
  unfold impl_unless.f
  cases b <;> rfl
def firstL : List Int → Int
  | [] => 0
  | c :: cs => if c = 0 then firstL cs else c
theorem firstOf_l0 (l : List Int) (hl : l.length ≤ 1048576) : ∀ (cs pre : List Int), l = pre ++ cs → Ev (fun k => impl_firstOf.l0 k l (l.length : Int) (pre.length : Int)) (firstL cs) := by
  intro cs
  induction cs with
  | nil =>
    intro pre hpre
    refine Ev.step (fun k => by rw [impl_firstOf.l0]) ?_
    have : l.length = pre.length := by rw [hpre]; simp
    simp only [show ¬ (pre.length : Int) < (l.length : Int) by omega, ↓reduceIte]
    exact Ev.now _
  | cons c cs ih =>
    intro pre hpre
    have hlen : l.length = pre.length + cs.length + 1 := by rw [hpre]; simp; omega
    have hc : rd l (pre.length : Int) = c := by rw [hpre]; exact rdim pre c cs
    have hnext := ih (pre ++ [c]) (by rw [hpre]; simp)
    simp only [List.length_append, List.length_cons, List.length_nil, Nat.zero_add] at hnext
    refine Ev.step (fun k => by rw [impl_firstOf.l0]) ?_
    simp only [show (pre.length : Int) < (l.length : Int) by omega, show (0 : Int) ≤ (pre.length : Int) by omega, ↓reduceIte, hc, wsuc (show pre.length < l.length by omega) hl]
    rw [firstL]
    by_cases h0 : c = 0
    · simp only [h0, ↓reduceIte]
      exact hnext
    · simp only [h0, ↓reduceIte]
      exact Ev.now _
theorem firstOf_ev (l : List Int) (hl : l.length ≤ 1048576) : Ev (fun k => impl_firstOf.f k l) (firstL l) := by
  unfold impl_firstOf.f
  exact firstOf_l0 l hl l [] rfl
def toS (l : List S89) : List S44 := l.map fun x => ⟨x.f0, x.f1, x.f2, x.f3⟩
theorem toS_len (l : List S89) : (toS l).length = l.length := by simp [toS]
theorem rdL_mid (pre : List S89) (c : S89) (cs : List S89) : rd_T89 (pre ++ c :: cs) (pre.length : Int) = c := by simp [rd_T89, List.getD_eq_getElem?_getD]
theorem toGarmentS_l0 (l : List S89) (hl : l.length ≤ 1048576) : ∀ (cs pre : List S89), l = pre ++ cs →
    Ev (fun k => laws_toGarmentS.l0 k l (toS pre ++ List.replicate cs.length z44) (pre.length : Int)) (toS l) := by
  intro cs
  induction cs with
  | nil =>
    intro pre hpre
    refine Ev.step (fun k => by rw [laws_toGarmentS.l0]) ?_
    have : l.length = pre.length := by rw [hpre]; simp
    simp only [show ¬ (pre.length : Int) < (l.length : Int) by omega, ↓reduceIte]
    rw [show l = pre by rw [hpre]; simp]
    simp only [List.length_nil, List.replicate_zero, List.append_nil]
    exact Ev.now _
  | cons c cs ih =>
    intro pre hpre
    have hlen : l.length = pre.length + cs.length + 1 := by rw [hpre]; simp; omega
    have hc : rd_T89 l (pre.length : Int) = c := by rw [hpre]; exact rdL_mid pre c cs
    have hnext := ih (pre ++ [c]) (by rw [hpre]; simp)
    simp only [List.length_append, List.length_cons, List.length_nil, Nat.zero_add] at hnext
    have hx : (pre.length : Int) < ((toS pre ++ List.replicate (cs.length + 1) z44).length : Int) := by simp [toS]; omega
    have hset : (toS pre ++ List.replicate (cs.length + 1) z44).set (pre.length : Int).toNat (⟨c.f0, c.f1, c.f2, c.f3⟩ : S44) = toS (pre ++ [c]) ++ List.replicate cs.length z44 := by
      rw [Int.toNat_natCast, List.set_append_right _ _ (by simp [toS]), toS_len, Nat.sub_self, List.replicate_succ, List.set_cons_zero]
      simp [toS]
    refine Ev.step (fun k => by rw [laws_toGarmentS.l0]) ?_
    simp only [List.length_cons, show (pre.length : Int) < (l.length : Int) by omega, show (0 : Int) ≤ (pre.length : Int) by omega, ↓reduceIte, hc, laws_toGarment.f, Option.bind_some, hx, hset, wsuc (show pre.length < l.length by omega) hl]
    exact hnext
theorem toGarmentS_ev (l : List S89) (hl : l.length ≤ 1048576) : Ev (fun k => laws_toGarmentS.f k l) (toS l) := by
  have := toGarmentS_l0 l hl l [] rfl
  unfold laws_toGarmentS.f
  simp only [show (0 : Int) ≤ (l.length : Int) by omega, Int.toNat_natCast, show l.length ≤ 46912496118442 by omega, ↓reduceIte]
  exact this
theorem eqGarmentS_l0 (l : List S44) (hl : l.length ≤ 1048576) : ∀ (cs pre : List S44), l = pre ++ cs → Ev (fun k => laws_eqGarmentS.l0 k l l (pre.length : Int)) true := by
  intro cs
  induction cs with
  | nil =>
    intro pre hpre
    refine Ev.step (fun k => by rw [laws_eqGarmentS.l0]) ?_
    have : l.length = pre.length := by rw [hpre]; simp
    simp only [show ¬ (pre.length : Int) < (l.length : Int) by omega, ↓reduceIte]
    exact Ev.now _
  | cons c cs ih =>
    intro pre hpre
    have hlen : l.length = pre.length + cs.length + 1 := by rw [hpre]; simp; omega
    have hnext := ih (pre ++ [c]) (by rw [hpre]; simp)
    simp only [List.length_append, List.length_cons, List.length_nil, Nat.zero_add] at hnext
    refine Ev.step (fun k => by rw [laws_eqGarmentS.l0]) ?_
    simp only [show (pre.length : Int) < (l.length : Int) by omega, show (0 : Int) ≤ (pre.length : Int) by omega, ↓reduceIte, laws_eqGarment.f, Option.bind_some, wsuc (show pre.length < l.length by omega) hl]
    exact hnext
theorem eqGarmentS_ev (l : List S44) (hl : l.length ≤ 1048576) : Ev (fun k => laws_eqGarmentS.f k l l) true := by
  unfold laws_eqGarmentS.f
  simp only [↓reduceIte]
  exact eqGarmentS_l0 l hl l [] rfl
theorem szGarmentS_eq (l : List S89) (a : Int) (h0 : 0 ≤ a) (h1 : a ≤ 1048576) (hl : l.length ≤ 9223372036854775807) : laws_szGarmentS.f l a = some (if (l.length : Int) ≤ a then a - (l.length : Int) else -1) := by
  unfold laws_szGarmentS.f
  have e : wrap64 (a - (l.length : Int)) = a - (l.length : Int) := by unfold wrap64; omega
  rw [e]
  by_cases h : (l.length : Int) ≤ a
  · rw [if_neg (by omega), if_pos h]
  · rw [if_pos (by omega), if_neg h]
theorem toS_small {l : List S89} (w : ∀ x ∈ l, (Lit.int .u8 x.f0).wf = true ∧ (Lit.int .i8 x.f1).wf = true ∧ (Lit.int .i8 x.f2).wf = true ∧ (Lit.int .i16 x.f3).wf = true) : (toS l).all gsm = true := by
  rw [List.all_eq_true]
  intro x hx
  obtain ⟨y, hy, rfl⟩ := List.mem_map.mp hx
  have h0 := bounds_u8 (w y hy).1
  have h1 := bounds_i8 (w y hy).2.1
  have h2 := bounds_i8 (w y hy).2.2.1
  have h3 := bounds_i16 (w y hy).2.2.2
  exact decide_eq_true ⟨h0.1, h0.2, h1.1, h1.2, h2.1, h2.2, h3.1, h3.2⟩
def bit (rs : List Int) (a b : Int) : Bool := (Go.bits .and .u8 (shr .u8 (rd rs a) b) 1) == 1
theorem l01Bit_eq (rs : List Int) (a b : Int) (h0 : 0 ≤ b) (h1 : b < 6) : spec_l01Bit.f (rd rs a) b = some (bit rs a b) := by
  have e : IntKind.u64.wrap b = b := by rw [IntKind.wrap_u64]; omega
  unfold spec_l01Bit.f bit
  rw [e, if_pos h0]
def inn (rs : List Int) (a : Int) : Nat → Bool
  | 0 => true
  | d + 1 => (bit rs a (6 - ((d + 1 : Nat) : Int)) == bit rs (6 - ((d + 1 : Nat) : Int)) a) && inn rs a d
def out (rs : List Int) : Nat → Bool
  | 0 => true
  | d + 1 => (!decide (64 ≤ rd rs (6 - ((d + 1 : Nat) : Int))) && bit rs (6 - ((d + 1 : Nat) : Int)) (6 - ((d + 1 : Nat) : Int)) && inn rs (6 - ((d + 1 : Nat) : Int)) 6) && out rs d
section
variable (a0 a1 a2 a3 a4 a5 : Int)
theorem wrap_small {i : Int} (h0 : 0 ≤ i) (h : i < 6) : wrap64 (i + 1) = i + 1 := by unfold wrap64; omega
theorem spec_l1 (a : Int) (h0 : 0 ≤ a) (h6 : a < 6) (R : Bool) (hR : Ev (fun k => spec_l01Rules.l0 k (a + 1) a0 a1 a2 a3 a4 a5) R) : ∀ (d : Nat) (b : Int), d ≤ 6 → b = 6 - d →
    Ev (fun k => spec_l01Rules.l1 k a b a0 a1 a2 a3 a4 a5) (inn [a0, a1, a2, a3, a4, a5] a d && R) := by
  intro d
  induction d with
  | zero =>
    intro b _ hb
    refine Ev.step (fun k => by rw [spec_l01Rules.l1]) ?_
    simp only [show ¬ b < 6 by omega, ↓reduceIte, wrap_small h0 h6]
    exact hR
  | succ d ih =>
    intro b hd hb
    refine Ev.step (fun k => by rw [spec_l01Rules.l1]) ?_
    have hb0 : 0 ≤ b := by omega
    have hb6 : b < 6 := by omega
    simp only [hb6, h0, h6, hb0, ↓reduceIte, l01Bit_eq _ _ _ hb0 hb6, l01Bit_eq _ _ _ h0 h6, Option.bind_some, wrap_small hb0 hb6]
    rw [inn, ← hb]
    by_cases he : bit [a0, a1, a2, a3, a4, a5] a b = bit [a0, a1, a2, a3, a4, a5] b a
    · simp only [he, bne_self_eq_false, Bool.false_eq_true, ↓reduceIte, beq_self_eq_true, Bool.true_and]
      exact ih (b + 1) (by omega) (by omega)
    · simp only [bne_iff_ne.mpr he, ↓reduceIte, beq_eq_false_iff_ne.mpr he, Bool.false_and]
      exact Ev.now false
theorem spec_l0 : ∀ (d : Nat) (a : Int), d ≤ 6 → a = 6 - d → Ev (fun k => spec_l01Rules.l0 k a a0 a1 a2 a3 a4 a5) (out [a0, a1, a2, a3, a4, a5] d) := by
  intro d
  induction d with
  | zero =>
    intro a _ ha
    refine Ev.step (fun k => by rw [spec_l01Rules.l0]) ?_
    simp only [show ¬ a < 6 by omega, ↓reduceIte]
    exact Ev.now true
  | succ d ih =>
    intro a hd ha
    have h0 : 0 ≤ a := by omega
    have h6 : a < 6 := by omega
    refine Ev.step (fun k => by rw [spec_l01Rules.l0]) ?_
    simp only [h6, h0, ↓reduceIte, l01Bit_eq _ _ _ h0 h6, Option.bind_some]
    rw [out, ← ha]
    by_cases h64 : rd [a0, a1, a2, a3, a4, a5] a ≥ 64
    · simp only [h64, ↓reduceIte, decide_true, Bool.not_true, Bool.false_and]
      refine Ev.step (fun k => by rw [spec_l01Rules.j1]) ?_
      simp only [↓reduceIte]
      exact Ev.now false
    · simp only [h64, ↓reduceIte, decide_false, Bool.not_false, Bool.true_and]
      refine Ev.step (fun k => by rw [spec_l01Rules.j1]) ?_
      cases hb : bit [a0, a1, a2, a3, a4, a5] a a with
      | false => exact Ev.now false
      | true =>
        simp only [Bool.not_true, Bool.false_eq_true, ↓reduceIte, Bool.not_false, Bool.true_and]
        exact spec_l1 a0 a1 a2 a3 a4 a5 a h0 h6 _ (ih (a + 1) (by omega) (by omega)) 6 0 (by omega) (by omega)
theorem may_eq (a b : Int) (h0 : 0 ≤ a) (h6 : a < 6) (hb : 0 ≤ b) : impl_Rules_may.f a0 a1 a2 a3 a4 a5 a b = some (bit [a0, a1, a2, a3, a4, a5] a b) := by
  unfold impl_Rules_may.f
  rw [if_pos ⟨h0, h6, hb⟩]
  rfl
def innI (rs : List Int) (a : Int) : Nat → Bool
  | 0 => true
  | d + 1 => (bit rs a (a - ((d + 1 : Nat) : Int)) == bit rs (a - ((d + 1 : Nat) : Int)) a) && innI rs a d
def outI (rs : List Int) : Nat → Bool
  | 0 => true
  | d + 1 => (!decide (64 ≤ rd rs (6 - ((d + 1 : Nat) : Int))) && bit rs (6 - ((d + 1 : Nat) : Int)) (6 - ((d + 1 : Nat) : Int)) && innI rs (6 - ((d + 1 : Nat) : Int)) (5 - d)) && outI rs d
theorem impl_l1 (a : Int) (h0 : 0 ≤ a) (h6 : a < 6) (R : Bool) (hR : Ev (fun k => impl_ValidRules.l0 k (a + 1) a0 a1 a2 a3 a4 a5) R) : ∀ (d : Nat) (b : Int), (d : Int) ≤ a → b = a - d →
    Ev (fun k => impl_ValidRules.l1 k a a a b a0 a1 a2 a3 a4 a5) (innI [a0, a1, a2, a3, a4, a5] a d && R) := by
  intro d
  induction d with
  | zero =>
    intro b _ hb
    refine Ev.step (fun k => by rw [impl_ValidRules.l1]) ?_
    simp only [show ¬ b < a by omega, ↓reduceIte, show (a + 1) % 256 = a + 1 by omega]
    exact hR
  | succ d ih =>
    intro b hd hb
    refine Ev.step (fun k => by rw [impl_ValidRules.l1]) ?_
    have hb0 : 0 ≤ b := by omega
    have hb6 : b < 6 := by omega
    simp only [show b < a by omega, ↓reduceIte, may_eq _ _ _ _ _ _ a b h0 h6 hb0, may_eq _ _ _ _ _ _ b a hb0 hb6 h0, Option.bind_some, show (b + 1) % 256 = b + 1 by omega]
    rw [innI, ← hb]
    by_cases he : bit [a0, a1, a2, a3, a4, a5] a b = bit [a0, a1, a2, a3, a4, a5] b a
    · simp only [he, bne_self_eq_false, Bool.false_eq_true, ↓reduceIte, beq_self_eq_true, Bool.true_and]
      exact ih (b + 1) (by omega) (by omega)
    · simp only [bne_iff_ne.mpr he, ↓reduceIte, beq_eq_false_iff_ne.mpr he, Bool.false_and]
      exact Ev.now false
theorem impl_l0 (hn : ∀ a : Int, 0 ≤ a → a < 6 → 0 ≤ rd [a0, a1, a2, a3, a4, a5] a) : ∀ (d : Nat) (a : Int), d ≤ 6 → a = 6 - d → Ev (fun k => impl_ValidRules.l0 k a a0 a1 a2 a3 a4 a5) (outI [a0, a1, a2, a3, a4, a5] d) := by
  intro d
  induction d with
  | zero =>
    intro a _ ha
    refine Ev.step (fun k => by rw [impl_ValidRules.l0]) ?_
    simp only [show ¬ a < 6 by omega, ↓reduceIte]
    exact Ev.now true
  | succ d ih =>
    intro a hd ha
    have h0 : 0 ≤ a := by omega
    have h6 : a < 6 := by omega
    refine Ev.step (fun k => by rw [impl_ValidRules.l0]) ?_
    simp only [h6, h0, ↓reduceIte, may_eq _ _ _ _ _ _ a a h0 h6 h0, Option.bind_some]
    rw [outI, ← ha]
    have hz : 0 ≤ rd [a0, a1, a2, a3, a4, a5] a := hn a h0 h6
    by_cases h64 : rd [a0, a1, a2, a3, a4, a5] a / 64 = 0
    · simp only [h64, ↓reduceIte, show ¬ 64 ≤ rd [a0, a1, a2, a3, a4, a5] a by omega, decide_false, Bool.not_false, Bool.true_and]
      refine Ev.step (fun k => by rw [impl_ValidRules.j1]) ?_
      cases hb : bit [a0, a1, a2, a3, a4, a5] a a with
      | false => exact Ev.now false
      | true =>
        simp only [Bool.not_true, Bool.false_eq_true, ↓reduceIte, Bool.true_and]
        exact impl_l1 a0 a1 a2 a3 a4 a5 a h0 h6 _ (ih (a + 1) (by omega) (by omega)) (5 - d) 0 (by omega) (by omega)
    · simp only [h64, ↓reduceIte, show 64 ≤ rd [a0, a1, a2, a3, a4, a5] a by omega, decide_true, Bool.not_true, Bool.false_and]
      refine Ev.step (fun k => by rw [impl_ValidRules.j1]) ?_
      simp only [↓reduceIte]
      exact Ev.now false
end
theorem inn_iff (rs : List Int) (a : Int) : ∀ d : Nat, inn rs a d = true ↔ ∀ b : Int, 6 - d ≤ b → b < 6 → bit rs a b = bit rs b a
  | 0 => by simp only [inn, true_iff]; intro b h1 h2; omega
  | d + 1 => by
    rw [inn, Bool.and_eq_true, beq_iff_eq, inn_iff rs a d]
    refine ⟨fun ⟨h, k⟩ b h1 h2 => ?_, fun h => ⟨h _ (Int.le_refl _) (by omega), fun b h1 h2 => h b (by omega) h2⟩⟩
    by_cases e : b = 6 - ((d + 1 : Nat) : Int)
    · rw [e]; exact h
    · exact k b (by omega) h2
theorem out_iff (rs : List Int) : ∀ d : Nat, out rs d = true ↔ ∀ a : Int, 6 - d ≤ a → a < 6 → ¬ 64 ≤ rd rs a ∧ bit rs a a = true ∧ inn rs a 6 = true
  | 0 => by simp only [out, true_iff]; intro b h1 h2; omega
  | d + 1 => by
    rw [out, Bool.and_eq_true, out_iff rs d]
    simp only [Bool.and_eq_true, Bool.not_eq_true', decide_eq_false_iff_not]
    refine ⟨fun ⟨⟨⟨h, k⟩, l⟩, m⟩ b h1 h2 => ?_, fun h => ?_⟩
    · by_cases e : b = 6 - ((d + 1 : Nat) : Int)
      · rw [e]; exact ⟨h, k, l⟩
      · exact m b (by omega) h2
    · obtain ⟨x, y, z⟩ := h _ (Int.le_refl _) (by omega)
      exact ⟨⟨⟨x, y⟩, z⟩, fun b h1 h2 => h b (by omega) h2⟩
theorem innI_iff (rs : List Int) (a : Int) : ∀ d : Nat, innI rs a d = true ↔ ∀ b : Int, a - d ≤ b → b < a → bit rs a b = bit rs b a
  | 0 => by simp only [innI, true_iff]; intro b h1 h2; omega
  | d + 1 => by
    rw [innI, Bool.and_eq_true, beq_iff_eq, innI_iff rs a d]
    refine ⟨fun ⟨h, k⟩ b h1 h2 => ?_, fun h => ⟨h _ (Int.le_refl _) (by omega), fun b h1 h2 => h b (by omega) h2⟩⟩
    by_cases e : b = a - ((d + 1 : Nat) : Int)
    · rw [e]; exact h
    · exact k b (by omega) h2
theorem outI_iff (rs : List Int) : ∀ d : Nat, d ≤ 6 → (outI rs d = true ↔ ∀ a : Int, 6 - d ≤ a → a < 6 → ¬ 64 ≤ rd rs a ∧ bit rs a a = true ∧ ∀ b : Int, 0 ≤ b → b < a → bit rs a b = bit rs b a)
  | 0, _ => by simp only [outI, true_iff]; intro b h1 h2; omega
  | d + 1, hd => by
    rw [outI, Bool.and_eq_true, outI_iff rs d (by omega)]
    simp only [Bool.and_eq_true, Bool.not_eq_true', decide_eq_false_iff_not, innI_iff]
    refine ⟨fun ⟨⟨⟨h, k⟩, l⟩, m⟩ b h1 h2 => ?_, fun h => ?_⟩
    · by_cases e : b = 6 - ((d + 1 : Nat) : Int)
      · rw [e]; exact ⟨h, k, fun c h3 h4 => l c (by omega) h4⟩
      · exact m b (by omega) h2
    · obtain ⟨x, y, z⟩ := h _ (Int.le_refl _) (by omega)
      exact ⟨⟨⟨x, y⟩, fun c h3 h4 => z c (by omega) h4⟩, fun b h1 h2 => h b (by omega) h2⟩
theorem outs (rs : List Int) : outI rs 6 = out rs 6 := by
  rw [Bool.eq_iff_iff, out_iff, outI_iff rs 6 (Nat.le_refl _)]
  simp only [inn_iff]
  refine ⟨fun h a h1 h2 => ?_, fun h a h1 h2 => ?_⟩
  · obtain ⟨x, y, z⟩ := h a h1 h2
    refine ⟨x, y, fun b h3 h4 => ?_⟩
    rcases Int.lt_trichotomy a b with hlt | rfl | hgt
    · exact ((h b (by omega) h4).2.2 a (by omega) hlt).symm
    · rfl
    · exact z b (by omega) hgt
  · obtain ⟨x, y, z⟩ := h a h1 h2
    exact ⟨x, y, fun b h3 h4 => z b (by omega) (by omega)⟩
def rsOk (rs : List Int) : Bool := out rs 6
def rsWf (rs : List Int) : Prop := ∀ a : Int, 0 ≤ a → a < 6 → 0 ≤ rd rs a ∧ rd rs a ≤ 255
theorem rsWf_of (a0 a1 a2 a3 a4 a5 : Int) (w0 : (Lit.int .u8 a0).wf = true) (w1 : (Lit.int .u8 a1).wf = true) (w2 : (Lit.int .u8 a2).wf = true) (w3 : (Lit.int .u8 a3).wf = true) (w4 : (Lit.int .u8 a4).wf = true) (w5 : (Lit.int .u8 a5).wf = true) : rsWf [a0, a1, a2, a3, a4, a5] := by
  have b0 := bounds_u8 w0
  have b1 := bounds_u8 w1
  have b2 := bounds_u8 w2
  have b3 := bounds_u8 w3
  have b4 := bounds_u8 w4
  have b5 := bounds_u8 w5
  intro a h0 h6
  have : a = 0 ∨ a = 1 ∨ a = 2 ∨ a = 3 ∨ a = 4 ∨ a = 5 := by omega
  rcases this with rfl | rfl | rfl | rfl | rfl | rfl <;> simp [rd] <;> omega
theorem rules_spec (a0 a1 a2 a3 a4 a5 : Int) : Ev (fun k => spec_l01Rules.f k a0 a1 a2 a3 a4 a5) (rsOk [a0, a1, a2, a3, a4, a5]) := by
  unfold spec_l01Rules.f
  exact spec_l0 a0 a1 a2 a3 a4 a5 6 0 (Nat.le_refl _) (by omega)
theorem rules_impl (a0 a1 a2 a3 a4 a5 : Int) (h : rsWf [a0, a1, a2, a3, a4, a5]) : Ev (fun k => impl_ValidRules.f k a0 a1 a2 a3 a4 a5) (rsOk [a0, a1, a2, a3, a4, a5]) := by
  have hi := impl_l0 a0 a1 a2 a3 a4 a5 (fun a h0 h6 => (h a h0 h6).1) 6 0 (Nat.le_refl _) (by omega)
  rw [outs] at hi
  unfold impl_ValidRules.f
  exact hi
theorem garment_eq (x : S44) (h : gsm x = true) : spec_l01Garment.f x.f0 x.f1 x.f2 x.f3 = some (gok x) := by
  obtain ⟨h0, h0', h1, h1', h2, h2', h3, h3'⟩ := of_decide_eq_true h
  have e3 : wrap64 x.f3 = x.f3 := by unfold wrap64; omega
  unfold spec_l01Garment.f gok
  rw [l00In_eq, e3]
  by_cases q0 : x.f0 < 6 <;> by_cases q1 : 0 ≤ x.f1 <;> by_cases q1' : x.f1 ≤ x.f2 <;> by_cases q2 : x.f2 ≤ 95 <;> by_cases q3 : 1 ≤ x.f3 ∧ x.f3 ≤ 2000 <;> simp [q0, q1, q1', q2, q3]
theorem gars_eq (l : List S44) (h : l.all gsm = true) : impl_areGarments.f l = some (if l.all gok = true then 0 else 1) := by
  unfold impl_areGarments.f
  rw [if_pos h]
theorem gok_col {x : S44} (h : gok x = true) (hs : gsm x = true) : 0 ≤ x.f0 ∧ x.f0 < 6 := by
  obtain ⟨h0, h0', h1, h1', h2, h2', h3, h3'⟩ := of_decide_eq_true hs
  unfold gok at h
  simp only [Bool.and_eq_true, decide_eq_true_eq] at h
  exact ⟨h0, h.1⟩
def metS (rs : List Int) (x y : S44) : Bool := bit rs x.f0 y.f0 && decide (mx x.f1 y.f1 ≤ mn x.f2 y.f2)
theorem spec_meet_eq (a0 a1 a2 a3 a4 a5 : Int) (x y : S44) (sx : gsm x = true) (sy : gsm y = true) (gx : gok x = true) (gy : gok y = true) : spec_l01Meet.f a0 a1 a2 a3 a4 a5 x.f0 x.f1 x.f2 x.f3 y.f0 y.f1 y.f2 y.f3 = some (metS [a0, a1, a2, a3, a4, a5] x y) := by
  have hx := gok_col gx sx
  have hy := gok_col gy sy
  have e : wrap64 y.f0 = y.f0 := by unfold wrap64; omega
  unfold spec_l01Meet.f metS
  rw [if_pos hx.1, if_pos hx.2, e, l01Bit_eq _ _ _ hy.1 hy.2]
  unfold gok at gx gy
  simp only [Bool.and_eq_true, decide_eq_true_eq] at gx gy
  cases bit [a0, a1, a2, a3, a4, a5] x.f0 y.f0 with
  | false => simp
  | true =>
    simp only [Option.bind_some, ↓reduceIte, Bool.true_and]
    have hm : mx x.f1 y.f1 ≤ mn x.f2 y.f2 ↔ x.f1 ≤ y.f2 ∧ y.f1 ≤ x.f2 := by
      unfold mx mn
      split <;> split <;> omega
    by_cases h1 : x.f1 ≤ y.f2 <;> by_cases h2 : y.f1 ≤ x.f2 <;> simp [hm, h1, h2]
theorem areRules_ev (a0 a1 a2 a3 a4 a5 : Int) (h : rsWf [a0, a1, a2, a3, a4, a5]) : Ev (fun k => impl_areRules.f k a0 a1 a2 a3 a4 a5) (if rsOk [a0, a1, a2, a3, a4, a5] = true then 0 else 1) := by
  unfold impl_areRules.f
  refine Ev.bind (rules_impl a0 a1 a2 a3 a4 a5 h) ?_
  simp only [unless_eq, Option.bind_some]
  exact Ev.now _
def allC (l : List S44) (fine : Bool) : Int := if l.all gok = true then (if fine = true then (if (l.length : Int) ≤ 8 then 0 else 3) else 2) else 1
def codeL (rs : List Int) (l : List S44) (fine : Bool) : Int := if rsOk rs = true then allC l fine else 1
theorem l01All_l0 (l : List S44) (hs : l.all gsm = true) (hl : l.length ≤ 1048576) (fine : Bool) : ∀ (cs pre : List S44), l = pre ++ cs → Ev (fun k => spec_l01All.l0 k l fine (pre.length : Int)) (if cs.all gok = true then (if fine = true then (if (l.length : Int) ≤ 8 then 0 else 3) else 2) else 1) := by
  intro cs
  induction cs with
  | nil =>
    intro pre hpre
    refine Ev.step (fun k => by rw [spec_l01All.l0]) ?_
    have : l.length = pre.length := by rw [hpre]; simp
    simp only [show ¬ (pre.length : Int) < (l.length : Int) by omega, ↓reduceIte, List.all_nil]
    cases fine with
    | false => simp only [Bool.false_eq_true, ↓reduceIte]; exact Ev.now _
    | true =>
      simp only [↓reduceIte]
      by_cases h8 : (l.length : Int) ≤ 8
      · simp only [h8, show ¬ (l.length : Int) > 8 by omega, ↓reduceIte]; exact Ev.now _
      · simp only [h8, show (l.length : Int) > 8 by omega, ↓reduceIte]; exact Ev.now _
  | cons c cs ih =>
    intro pre hpre
    have hlen : l.length = pre.length + cs.length + 1 := by rw [hpre]; simp; omega
    have hc : rd_T44 l (pre.length : Int) = c := by rw [hpre]; exact rdm pre c cs
    have hsc : gsm c = true := List.all_eq_true.mp hs c (by rw [hpre]; simp)
    have hnext := ih (pre ++ [c]) (by rw [hpre]; simp)
    simp only [List.length_append, List.length_cons, List.length_nil, Nat.zero_add] at hnext
    refine Ev.step (fun k => by rw [spec_l01All.l0]) ?_
    simp only [show (pre.length : Int) < (l.length : Int) by omega, show (0 : Int) ≤ (pre.length : Int) by omega, ↓reduceIte, hc, garment_eq c hsc, Option.bind_some, wsuc (show pre.length < l.length by omega) hl, List.all_cons]
    by_cases hg : gok c = true
    · simp only [hg, Bool.true_and, ↓reduceIte]; exact hnext
    · rw [Bool.not_eq_true] at hg
      simp only [hg, Bool.false_eq_true, Bool.false_and, ↓reduceIte]; exact Ev.now _
theorem l01All_ev (l : List S44) (hs : l.all gsm = true) (hl : l.length ≤ 1048576) (fine : Bool) : Ev (fun k => spec_l01All.f k l fine) (allC l fine) := by
  unfold spec_l01All.f allC
  exact l01All_l0 l hs hl fine l [] rfl
theorem few_eq (l : List S44) : impl_fewGarments.f l = some (if (l.length : Int) ≤ 8 then 0 else 3) := by
  unfold impl_fewGarments.f
  rw [unless_eq]
  by_cases h : (l.length : Int) ≤ 8 <;> simp [h]
theorem l01Asked_ev (a0 a1 a2 a3 a4 a5 : Int) (l : List S44) (hs : l.all gsm = true) (hl : l.length ≤ 1048576) (fine : Bool) : Ev (fun k => spec_l01Asked.f k a0 a1 a2 a3 a4 a5 l fine) (codeL [a0, a1, a2, a3, a4, a5] l fine) := by
  unfold spec_l01Asked.f codeL
  refine Ev.bind (rules_spec a0 a1 a2 a3 a4 a5) ?_
  cases h : rsOk [a0, a1, a2, a3, a4, a5] with
  | false => simp only [Bool.false_eq_true, ↓reduceIte]; exact Ev.now _
  | true =>
    simp only [↓reduceIte]
    exact Ev.bind (l01All_ev l hs hl fine) (Ev.now _)
def holdB (h : Int) : Bool := decide (1 ≤ h ∧ h ≤ 20000)
theorem hold_eq (h : Int) : spec_l01Hold.f h = some (holdB h) := by
  unfold spec_l01Hold.f
  rw [l00In_eq]
  rfl
theorem loadCode_ev (a0 a1 a2 a3 a4 a5 : Int) (hr : rsWf [a0, a1, a2, a3, a4, a5]) (hold : Int) (l : List S44) (hs : l.all gsm = true) : Ev (fun k => impl_loadCode.f k a0 a1 a2 a3 a4 a5 hold l) (codeL [a0, a1, a2, a3, a4, a5] l (holdB hold)) := by
  unfold impl_loadCode.f
  refine Ev.bind (areRules_ev a0 a1 a2 a3 a4 a5 hr) ?_
  simp only [gars_eq l hs, within_eq, unless_eq, few_eq, Option.bind_some]
  refine Ev.bind (r := codeL [a0, a1, a2, a3, a4, a5] l (holdB hold)) ?_ (Ev.now _)
  have := firstOf_ev [(if rsOk [a0, a1, a2, a3, a4, a5] = true then 0 else 1), (if l.all gok = true then 0 else 1), (if decide (1 ≤ hold ∧ hold ≤ 20000) = true then 0 else 2), (if (l.length : Int) ≤ 8 then 0 else 3)] (by simp)
  refine cast ?_ this
  congr 1
  unfold codeL allC holdB
  cases rsOk [a0, a1, a2, a3, a4, a5] <;> cases l.all gok <;> cases decide (1 ≤ hold ∧ hold ≤ 20000) <;> by_cases h8 : (l.length : Int) ≤ 8 <;> simp [firstL, h8]
theorem all_mem {l : List S44} {p : S44 → Bool} (h : l.all p = true) {x : S44} (hx : x ∈ l) : p x = true := List.all_eq_true.mp h x hx
theorem codeL_ok {rs : List Int} {l : List S44} {fine : Bool} (h : codeL rs l fine = 0) : rsOk rs = true ∧ l.all gok = true ∧ fine = true ∧ l.length ≤ 8 := by
  unfold codeL allC at h
  by_cases h1 : rsOk rs = true
  · rw [if_pos h1] at h
    by_cases h2 : l.all gok = true
    · rw [if_pos h2] at h
      by_cases h3 : fine = true
      · rw [if_pos h3] at h
        by_cases h4 : (l.length : Int) ≤ 8
        · exact ⟨h1, h2, h3, by omega⟩
        · rw [if_neg h4] at h; omega
      · rw [if_neg h3] at h; omega
    · rw [if_neg h2] at h; omega
  · rw [if_neg h1] at h; omega
theorem spec_weight_l0 (l : List S44) (hl : l.length ≤ 1048576) : ∀ (cs pre : List S44), l = pre ++ cs → ∀ a : Int, Ev (fun k => spec_l01Weight.l0 k l a (pre.length : Int)) (weightFrom a cs) := by
  intro cs
  induction cs with
  | nil =>
    intro pre hpre a
    refine Ev.step (fun k => by rw [spec_l01Weight.l0]) ?_
    have : l.length = pre.length := by rw [hpre]; simp
    simp only [show ¬ (pre.length : Int) < (l.length : Int) by omega, ↓reduceIte]
    exact Ev.now _
  | cons c cs ih =>
    intro pre hpre a
    have hlen : l.length = pre.length + cs.length + 1 := by rw [hpre]; simp; omega
    have hc : rd_T44 l (pre.length : Int) = c := by rw [hpre]; exact rdm pre c cs
    have hnext := ih (pre ++ [c]) (by rw [hpre]; simp)
    simp only [List.length_append, List.length_cons, List.length_nil, Nat.zero_add] at hnext
    refine Ev.step (fun k => by rw [spec_l01Weight.l0]) ?_
    simp only [show (pre.length : Int) < (l.length : Int) by omega, show (0 : Int) ≤ (pre.length : Int) by omega, ↓reduceIte, hc, wsuc (show pre.length < l.length by omega) hl]
    exact hnext _
theorem spec_weight_ev (l : List S44) (hl : l.length ≤ 1048576) : Ev (fun k => spec_l01Weight.f k l) (weightB l) := by
  unfold spec_l01Weight.f
  exact spec_weight_l0 l hl l [] rfl 0
theorem lex_irrefl : ∀ a : List Int, lexlt a a = false
  | [] => rfl
  | x :: xs => by simp [lexlt, lex_irrefl xs]
theorem lex_ntrans : ∀ a b c : List Int, lexlt a b = false → lexlt b c = false → lexlt a c = false
  | a, b, [], _, _ => by cases a <;> rfl
  | [], [], _ :: _, _, h => by simp [lexlt] at h
  | [], _ :: _, _ :: _, h, _ => by simp [lexlt] at h
  | x :: xs, [], z :: zs, _, h => by simp [lexlt] at h
  | x :: xs, y :: ys, z :: zs, h1, h2 => by
    simp only [lexlt, Bool.or_eq_false_iff, Bool.and_eq_false_iff, decide_eq_false_iff_not] at h1 h2 ⊢
    refine ⟨by omega, ?_⟩
    by_cases hx : x = z
    · by_cases hy : x = y
      · exact .inr (lex_ntrans xs ys zs (h1.2.resolve_left (fun h => h hy)) (h2.2.resolve_left (fun h => h (by omega))))
      · have := h1.1
        have := h2.1
        omega
    · exact .inl hx
theorem lex_total : ∀ a b : List Int, lexlt a b = false → lexlt b a = false → a = b
  | [], [], _, _ => rfl
  | [], _ :: _, h, _ => by simp [lexlt] at h
  | _ :: _, [], _, h => by simp [lexlt] at h
  | x :: xs, y :: ys, h1, h2 => by
    simp only [lexlt, Bool.or_eq_false_iff, Bool.and_eq_false_iff, decide_eq_false_iff_not] at h1 h2
    have hxy : x = y := by omega
    rw [hxy, lex_total xs ys (h1.2.resolve_left (fun h => h hxy)) (h2.2.resolve_left (fun h => h hxy.symm))]
theorem updS_fold (sc : List Int → Int) : ∀ (os : List (List Int)) (s : List Int × Int),
    (os.foldl (fun s o => updS sc o s) s = s ∨ ∃ o ∈ os, os.foldl (fun s o => updS sc o s) s = (o, sc o))
    ∧ (∀ o ∈ os, sc o < (os.foldl (fun s o => updS sc o s) s).2 ∨ (sc o = (os.foldl (fun s o => updS sc o s) s).2 ∧ (sc o < 0 ∨ lexlt o (os.foldl (fun s o => updS sc o s) s).1 = false)))
    ∧ (s.2 < (os.foldl (fun s o => updS sc o s) s).2 ∨ (s.2 = (os.foldl (fun s o => updS sc o s) s).2 ∧ (s.2 < 0 ∨ lexlt s.1 (os.foldl (fun s o => updS sc o s) s).1 = false)))
  | [], s => ⟨.inl rfl, fun o h => (by cases h), .inr ⟨rfl, .inr (lex_irrefl _)⟩⟩
  | o :: os, s => by
    rw [List.foldl_cons]
    by_cases hC : sc o > s.2 ∨ (sc o = s.2 ∧ sc o ≥ 0 ∧ lexlt o s.1 = true)
    · rw [show updS sc o s = (o, sc o) from if_pos hC]
      obtain ⟨h1, h2, h3⟩ := updS_fold sc os (o, sc o)
      simp only at h3
      refine ⟨.inr ?_, fun x hx => ?_, ?_⟩
      · rcases h1 with h1 | ⟨x, hx, h1⟩
        · exact ⟨o, by simp, h1⟩
        · exact ⟨x, by simp [hx], h1⟩
      · rcases List.mem_cons.1 hx with rfl | hx
        · exact h3
        · exact h2 x hx
      · rcases hC with hC | ⟨hC, h0, hl⟩
        · rcases h3 with h3 | ⟨h3, _⟩
          · exact .inl (by omega)
          · exact .inl (by omega)
        · rcases h3 with h3 | ⟨h3, h4⟩
          · exact .inl (by omega)
          · refine .inr ⟨by omega, .inr (lex_ntrans _ o _ ?_ (h4.resolve_left (by omega)))⟩
            cases hq : lexlt s.1 o with
            | false => rfl
            | true =>
              have : ∀ a b : List Int, lexlt a b = true → lexlt b a = true → False := by
                intro a b ha hb
                cases hb2 : lexlt a b with
                | false => rw [hb2] at ha; cases ha
                | true =>
                  induction a generalizing b with
                  | nil => cases b <;> simp [lexlt] at hb
                  | cons x xs ih =>
                    cases b with
                    | nil => simp [lexlt] at ha
                    | cons y ys =>
                      simp only [lexlt, Bool.or_eq_true, Bool.and_eq_true, decide_eq_true_eq] at ha hb
                      rcases ha with ha | ⟨ha, ha'⟩
                      · rcases hb with hb | ⟨hb, _⟩ <;> omega
                      · rcases hb with hb | ⟨hb, hb'⟩
                        · omega
                        · exact ih ys ha' hb' ha'
              exact (this _ _ hl hq).elim
    · rw [show updS sc o s = s from if_neg hC]
      obtain ⟨h1, h2, h3⟩ := updS_fold sc os s
      refine ⟨h1.imp id (fun ⟨x, hx, h⟩ => ⟨x, by simp [hx], h⟩), fun x hx => ?_, h3⟩
      rcases List.mem_cons.1 hx with rfl | hx
      · by_cases hlt : sc x < s.2
        · rcases h3 with h3 | ⟨h3, _⟩
          · exact .inl (by omega)
          · exact .inl (by omega)
        · have he : sc x = s.2 := by
            by_cases hg : sc x > s.2
            · exact absurd (.inl hg) hC
            · omega
          rcases h3 with h3 | ⟨h3, h4⟩
          · exact .inl (by omega)
          · by_cases h0 : sc x < 0
            · exact .inr ⟨by omega, .inl h0⟩
            · refine .inr ⟨by omega, .inr (lex_ntrans _ s.1 _ ?_ (h4.resolve_left (by omega)))⟩
              cases hq : lexlt x s.1 with
              | false => rfl
              | true => exact absurd (.inr ⟨he, by omega, hq⟩) hC
      · exact h2 x hx
def incI (n : Nat) : Nat → List Int → Prop
  | _, [] => True
  | i, y :: ys => ∃ j : Nat, y = (j : Int) ∧ i ≤ j ∧ j < n ∧ incI n (j + 1) ys
theorem inc_mem {n : Nat} : ∀ (ys : List Int) (i : Nat), incI n i ys → ∀ y ∈ ys, (i : Int) ≤ y ∧ y < (n : Int)
  | [], _, _, y, h => by cases h
  | _ :: ys, i, ⟨j, e, h1, h2, h3⟩, y, h => by
    rcases List.mem_cons.1 h with rfl | h
    · omega
    · have := inc_mem ys (j + 1) h3 y h
      omega
theorem inc_filter {n : Nat} : ∀ (d i : Nat) (ys : List Int), i + d = n → incI n i ys → ((List.range' i d).filter fun j : Nat => ys.contains (j : Int)).map (fun j : Nat => (j : Int)) = ys
  | 0, i, [], _, _ => rfl
  | 0, i, y :: ys, h, ⟨j, e, h1, h2, h3⟩ => by omega
  | d + 1, i, [], h, _ => by simp
  | d + 1, i, y :: ys, h, ⟨j, e, h1, h2, h3⟩ => by
    subst e
    rw [List.range'_succ]
    by_cases hj : j = i
    · subst hj
      rw [List.filter_cons, if_pos (by simp), List.map_cons]
      congr 1
      have := inc_filter d (j + 1) ys (by omega) h3
      rw [← this]
      congr 1
      refine List.filter_congr (fun x hx => ?_)
      have hx := List.mem_range'_1.1 hx
      rw [this, List.contains_cons]
      rw [show ((x : Int) == (j : Int)) = false by simp; omega, Bool.false_or]
    · have hm := inc_mem ys (j + 1) h3
      rw [List.filter_cons, if_neg]
      · exact inc_filter d (i + 1) ((j : Int) :: ys) (by omega) ⟨j, rfl, by omega, h2, h3⟩
      · rw [List.contains_iff_mem]
        intro hc
        rcases List.mem_cons.1 hc with hc | hc
        · omega
        · have := hm _ hc
          omega
theorem set_of (n : Nat) : ∀ (ys : List Int), (∀ y ∈ ys, 0 ≤ y ∧ y < (n : Int)) → ∃ s : Nat, s < 2 ^ n ∧ ∀ j : Nat, s.testBit j = ys.contains (j : Int)
  | [], _ => ⟨0, Nat.two_pow_pos n, fun j => by simp⟩
  | y :: ys, h => by
    obtain ⟨s, hs, hb⟩ := set_of n ys (fun x hx => h x (by simp [hx]))
    have hy := h y (by simp)
    refine ⟨s ||| 2 ^ y.toNat, Nat.or_lt_two_pow hs (Nat.pow_lt_pow_right (by omega) (by omega)), fun j => ?_⟩
    rw [Nat.testBit_or, hb, Nat.testBit_two_pow, List.contains_cons, Bool.or_comm]
    congr 1
    rw [Bool.eq_iff_iff, decide_eq_true_eq, beq_iff_eq]
    omega
theorem subs_all {n : Nat} {ys : List Int} (h : incI n 0 ys) : ∃ s, s < 2 ^ n ∧ subsOf n s = ys := by
  obtain ⟨s, hs, hb⟩ := set_of n ys (fun y hy => by have := inc_mem ys 0 h y hy; omega)
  refine ⟨s, hs, ?_⟩
  unfold subsOf
  have := inc_filter n 0 ys (by omega) h
  rw [← List.range_eq_range'] at this
  rw [← this]
  congr 1
  refine List.filter_congr (fun x _ => ?_)
  rw [hb]
theorem inc_of_filter {n : Nat} (p : Nat → Bool) : ∀ (d i : Nat), i + d = n → incI n i (((List.range' i d).filter p).map fun j : Nat => (j : Int))
  | 0, i, _ => trivial
  | d + 1, i, h => by
    have ih := inc_of_filter (n := n) p d (i + 1) (by omega)
    rw [List.range'_succ, List.filter_cons]
    by_cases hp : p i = true
    · rw [if_pos hp]
      exact ⟨i, rfl, Nat.le_refl _, by omega, ih⟩
    · rw [if_neg hp]
      have mono : ∀ (ys : List Int), incI n (i + 1) ys → incI n i ys := by
        intro ys hys
        cases ys with
        | nil => trivial
        | cons y ys =>
          obtain ⟨j, e, h1, h2, h3⟩ := hys
          exact ⟨j, e, by omega, h2, h3⟩
      exact mono _ ih
theorem subs_inc (n s : Nat) : incI n 0 (subsOf n s) := by
  unfold subsOf
  rw [List.range_eq_range']
  exact inc_of_filter _ n 0 (by omega)
def fineB (m : Nat → Nat → Bool) (i : Nat) (ch : List Int) : Bool := ch.all fun k => !m i k.toNat
def apartF (m : Nat → Nat → Bool) : List Int → List Int → Bool
  | _, [] => true
  | ch, y :: ys => fineB m y.toNat ch && apartF m (ch ++ [y]) ys
def apartS (m : Nat → Nat → Bool) : Nat → Nat → List Int → List Int → List Int
  | 0, _, _, best => best
  | d + 1, i, ch, best => apartS m d (i + 1) ch (if fineB m i ch = true then (if (apartS m d (i + 1) (ch ++ [(i : Int)]) (ch ++ [(i : Int)])).length > best.length then apartS m d (i + 1) (ch ++ [(i : Int)]) (ch ++ [(i : Int)]) else best) else best)
def okE (m : Nat → Nat → Bool) (n i : Nat) (ch ys : List Int) : Prop := incI n i ys ∧ apartF m ch ys = true
theorem apart_spec (m : Nat → Nat → Bool) (n : Nat) : ∀ (d i : Nat) (ch bs : List Int), i + d = n → (∀ y ys, bs = y :: ys → y < (i : Int)) →
    ∃ xs, apartS m d i ch (ch ++ bs) = ch ++ xs ∧ (xs = bs ∨ okE m n i ch xs) ∧ (xs = bs ∨ bs.length < xs.length) ∧ ∀ ys, okE m n i ch ys → ys.length < xs.length ∨ (ys.length = xs.length ∧ lexlt ys xs = false)
  | 0, i, ch, bs, hd, hb => by
    refine ⟨bs, rfl, .inl rfl, .inl rfl, fun ys hy => ?_⟩
    match ys, hy with
    | [], _ =>
      match bs with
      | [] => exact .inr ⟨rfl, rfl⟩
      | b :: bs => exact .inl (by simp)
    | y :: ys, ⟨⟨j, e, h1, h2, h3⟩, _⟩ => omega
  | d + 1, i, ch, bs, hd, hb => by
    rw [apartS]
    obtain ⟨x1, e1, a1, _, c1⟩ := apart_spec m n d (i + 1) (ch ++ [(i : Int)]) [] (by omega) (fun y ys h => by cases h)
    rw [List.append_nil] at e1
    rw [e1]
    have skip : ∀ ys, okE m n i ch ys → okE m n (i + 1) ch ys ∨ ∃ zs, ys = (i : Int) :: zs ∧ fineB m i ch = true ∧ okE m n (i + 1) (ch ++ [(i : Int)]) zs := by
      intro ys hy
      match ys, hy with
      | [], _ => exact .inl ⟨trivial, rfl⟩
      | y :: ys, ⟨⟨j, e, h1, h2, h3⟩, ha⟩ =>
        subst e
        by_cases hj : j = i
        · subst hj
          rw [apartF, Bool.and_eq_true, Int.toNat_natCast] at ha
          exact .inr ⟨ys, rfl, ha.1, h3, ha.2⟩
        · exact .inl ⟨⟨j, rfl, by omega, h2, h3⟩, ha⟩
    have up : ∀ ys, okE m n (i + 1) ch ys → okE m n i ch ys := by
      intro ys hy
      match ys, hy with
      | [], _ => exact ⟨trivial, rfl⟩
      | y :: ys, ⟨⟨j, e, h1, h2, h3⟩, ha⟩ => exact ⟨⟨j, e, by omega, h2, h3⟩, ha⟩
    by_cases hf : fineB m i ch = true
    · rw [if_pos hf]
      have hx1 : okE m n (i + 1) (ch ++ [(i : Int)]) x1 := a1.elim (fun h => by rw [h]; exact ⟨trivial, rfl⟩) id
      have hok : okE m n i ch ((i : Int) :: x1) := ⟨⟨i, rfl, Nat.le_refl _, by omega, hx1.1⟩, by rw [apartF, Bool.and_eq_true, Int.toNat_natCast]; exact ⟨hf, hx1.2⟩⟩
      by_cases hl : (ch ++ [(i : Int)] ++ x1).length > (ch ++ bs).length
      · rw [if_pos hl, show ch ++ [(i : Int)] ++ x1 = ch ++ ((i : Int) :: x1) by simp]
        simp only [List.length_append, List.length_cons, List.length_nil] at hl
        obtain ⟨xs, e2, a2, b2, c2⟩ := apart_spec m n d (i + 1) ch ((i : Int) :: x1) (by omega) (fun y ys h => by cases h; omega)
        refine ⟨xs, e2, .inr (a2.elim (fun h => h ▸ hok) (up xs)), .inr (by rcases b2 with h | h <;> simp_all <;> omega), fun ys hy => ?_⟩
        rcases skip ys hy with hy | ⟨zs, rfl, _, hz⟩
        · exact c2 ys hy
        · have h3 := c1 zs hz
          have h4 : ((i : Int) :: x1).length ≤ xs.length := by rcases b2 with h | h; exact Nat.le_of_eq (by rw [h]); omega
          simp only [List.length_cons] at h4 ⊢
          by_cases hq : zs.length + 1 < xs.length
          · exact .inl hq
          · have h5 : xs = (i : Int) :: x1 := b2.resolve_right (by simp only [List.length_cons]; omega)
            refine .inr ⟨by rw [h5, List.length_cons] at hq ⊢; omega, ?_⟩
            rw [h5]
            rw [h5, List.length_cons] at hq
            simp only [lexlt, Int.lt_irrefl, decide_false, Bool.false_or, decide_true, Bool.true_and]
            rcases h3 with h3 | h3
            · omega
            · exact h3.2
      · rw [if_neg hl]
        simp only [List.length_append, List.length_cons, List.length_nil] at hl
        obtain ⟨xs, e2, a2, b2, c2⟩ := apart_spec m n d (i + 1) ch bs (by omega) (fun y ys h => by have := hb y ys h; omega)
        refine ⟨xs, e2, a2.imp id (up xs), b2, fun ys hy => ?_⟩
        rcases skip ys hy with hy | ⟨zs, rfl, _, hz⟩
        · exact c2 ys hy
        · have h3 := c1 zs hz
          have h4 : bs.length ≤ xs.length := by rcases b2 with h | h; exact Nat.le_of_eq (by rw [h]); omega
          simp only [List.length_cons]
          by_cases hq : zs.length + 1 < xs.length
          · exact .inl hq
          · have h5 : xs = bs := b2.resolve_right (by omega)
            refine .inr ⟨by omega, ?_⟩
            rw [h5] at hq ⊢
            match bs, hb, hq with
            | [], _, _ =>
              exfalso
              apply hl
              simp only [List.length_nil]
              omega
            | b :: bs, hb, _ =>
              have := hb b bs rfl
              simp only [lexlt, Bool.or_eq_false_iff, Bool.and_eq_false_iff, decide_eq_false_iff_not]
              exact ⟨by omega, .inl (by omega)⟩
    · rw [if_neg hf]
      obtain ⟨xs, e2, a2, b2, c2⟩ := apart_spec m n d (i + 1) ch bs (by omega) (fun y ys h => by have := hb y ys h; omega)
      refine ⟨xs, e2, a2.imp id (up xs), b2, fun ys hy => ?_⟩
      rcases skip ys hy with hy | ⟨zs, _, h, _⟩
      · exact c2 ys hy
      · exact absurd h hf
def apSc (m : Nat → Nat → Bool) (o : List Int) : Int := if apartF m [] o = true then (o.length : Int) else -1
theorem apart_same (m : Nat → Nat → Bool) (n : Nat) : (bestS (apSc m) n).1 = apartS m n 0 [] [] := by
  obtain ⟨xs, e, a, _, c⟩ := apart_spec m n n 0 [] [] (by omega) (fun y ys h => by cases h)
  rw [List.nil_append, List.nil_append] at e
  have hxs : okE m n 0 [] xs := a.elim (fun h => by rw [h]; exact ⟨trivial, rfl⟩) id
  rw [e]
  have hb : bestS (apSc m) n = ((List.range (2 ^ n)).map (subsOf n)).foldl (fun s o => updS (apSc m) o s) ([], -1) := by rw [bestS, List.foldl_map]
  obtain ⟨h1, h2, _⟩ := updS_fold (apSc m) ((List.range (2 ^ n)).map (subsOf n)) ([], -1)
  rw [← hb] at h1 h2
  have mem : ∀ ys, incI n 0 ys → ys ∈ (List.range (2 ^ n)).map (subsOf n) := by
    intro ys hy
    obtain ⟨s, hs, rfl⟩ := subs_all hy
    exact List.mem_map.2 ⟨s, List.mem_range.2 hs, rfl⟩
  have hx := h2 xs (mem xs hxs.1)
  have hsx : apSc m xs = (xs.length : Int) := if_pos hxs.2
  rw [hsx] at hx
  rcases h1 with h1 | ⟨o, ho, h1⟩
  · rw [h1] at hx
    simp only at hx
    omega
  · obtain ⟨s, hs, rfl⟩ := List.mem_map.1 ho
    rw [h1] at hx ⊢
    simp only at hx ⊢
    by_cases hok : apartF m [] (subsOf n s) = true
    · rw [show apSc m (subsOf n s) = ((subsOf n s).length : Int) from if_pos hok] at hx
      have := c _ ⟨subs_inc n s, hok⟩
      rcases this with h | ⟨h, hl⟩
      · omega
      · refine lex_total _ _ hl ?_
        rcases hx with hx | ⟨_, hx⟩
        · omega
        · exact hx.resolve_left (by omega)
    · rw [show apSc m (subsOf n s) = -1 from if_neg hok] at hx
      omega
def mI (rs : List Int) (l : List S44) (i j : Nat) : Bool := metB rs (rd_T44 l (i : Int)) (rd_T44 l (j : Int))
theorem clean_apart (rs : List Int) (l : List S44) : ∀ (ys ch : List Int), (∀ y ∈ ys, 0 ≤ y) → (∀ k ∈ ch, 0 ≤ k) → cleanFrom rs (pickedB l ch) (pickedB l ys) = apartF (mI rs l) ch ys
  | [], ch, _, _ => rfl
  | y :: ys, ch, hy, hk => by
    have h0 := hy y (by simp)
    have ih := clean_apart rs l ys (ch ++ [y]) (fun z hz => hy z (by simp [hz])) (fun k h => by
      rcases List.mem_append.1 h with h | h
      · exact hk k h
      · rw [List.mem_singleton] at h; omega)
    have e2 : pickedB l (ch ++ [y]) = pickedB l ch ++ [rd_T44 l y] := by simp [pickedB]
    rw [e2] at ih
    rw [show pickedB l (y :: ys) = rd_T44 l y :: pickedB l ys from rfl, cleanFrom, apartF, ih]
    congr 1
    unfold fineB pickedB mI
    rw [Bool.eq_iff_iff, Bool.not_eq_true', List.any_eq_false, List.all_eq_true]
    have ey : ((y.toNat : Nat) : Int) = y := by omega
    constructor
    · intro h k hkm
      have := hk k hkm
      have ek : ((k.toNat : Nat) : Int) = k := by omega
      rw [ey, ek]
      simpa using h _ (List.mem_map.2 ⟨k, hkm, rfl⟩)
    · intro h x hx
      obtain ⟨k, hkm, rfl⟩ := List.mem_map.1 hx
      have := hk k hkm
      have ek : ((k.toNat : Nat) : Int) = k := by omega
      have h2 := h k hkm
      rw [ey, ek] at h2
      simpa using h2
theorem bestS_congr (sc1 sc2 : List Int → Int) (n : Nat) (h : ∀ s, sc1 (subsOf n s) = sc2 (subsOf n s)) : bestS sc1 n = bestS sc2 n := by
  unfold bestS updS
  simp only [h]
theorem apart_best (rs : List Int) (l : List S44) : (bestS (apartSc rs l) l.length).1 = apartS (mI rs l) l.length 0 [] [] := by
  rw [← apart_same]
  congr 1
  refine bestS_congr _ _ _ (fun s => ?_)
  have := clean_apart rs l (subsOf l.length s) [] (fun y hy => (inc_mem _ 0 (subs_inc l.length s) y hy).1) (fun k h => by cases h)
  unfold apartSc apSc
  rw [show cleanFrom rs [] (pickedB l (subsOf l.length s)) = apartF (mI rs l) [] (subsOf l.length s) from this]
theorem rd_mem (l : List S44) {i : Int} (h0 : 0 ≤ i) (h1 : i < (l.length : Int)) : rd_T44 l i ∈ l := by
  have hlt : i.toNat < l.length := by omega
  have e : rd_T44 l i = l[i.toNat] := by simp [rd_T44, List.getD_eq_getElem?_getD, List.getElem?_eq_getElem hlt]
  rw [e]
  exact List.getElem_mem hlt
section
variable (a0 a1 a2 a3 a4 a5 : Int) (l : List S44) (hs : l.all gsm = true) (hg : l.all gok = true) (hl : l.length ≤ 8)
include hs hg hl
omit hl in
theorem ap_l1 (i : Nat) (hi : i < l.length) (ch : List Int) (hch : ∀ k ∈ ch, 0 ≤ k ∧ k < (l.length : Int)) (hcl : ch.length ≤ 8) (best : List Int) (R : List Int) : ∀ (p2 p1 : List Int) (b : Bool), ch = p1 ++ p2 →
    Ev (fun k => spec_l01Apart.l1 k l ch best (i : Int) (b && p2.all fun k => !mI [a0, a1, a2, a3, a4, a5] l i k.toNat) (ch.length : Int) a0 a1 a2 a3 a4 a5) R →
    Ev (fun k => spec_l01Apart.l1 k l ch best (i : Int) b (p1.length : Int) a0 a1 a2 a3 a4 a5) R := by
  intro p2
  induction p2 with
  | nil =>
    intro p1 b hp hR
    rw [List.all_nil, Bool.and_true] at hR
    rw [show p1.length = ch.length by rw [hp]; simp]
    exact hR
  | cons d p2 ih =>
    intro p1 b hp hR
    have hpl : ch.length = p1.length + p2.length + 1 := by rw [hp]; simp; omega
    have hd := hch d (by rw [hp]; simp)
    have hdr : rd ch (p1.length : Int) = d := by rw [hp]; exact rdim p1 d p2
    have him := rd_mem l (i := (i : Int)) (by omega) (by omega)
    have hdm := rd_mem l hd.1 hd.2
    have hm := spec_meet_eq a0 a1 a2 a3 a4 a5 (rd_T44 l (i : Int)) (rd_T44 l d) (all_mem hs him) (all_mem hs hdm) (all_mem hg him) (all_mem hg hdm)
    have hmi : mI [a0, a1, a2, a3, a4, a5] l i d.toNat = metS [a0, a1, a2, a3, a4, a5] (rd_T44 l (i : Int)) (rd_T44 l d) := by
      unfold mI
      rw [show ((d.toNat : Nat) : Int) = d by omega]
      rfl
    rw [List.all_cons, hmi] at hR
    refine Ev.step (fun k => by rw [spec_l01Apart.l1]) ?_
    have hnext := fun b' => ih (p1 ++ [d]) b' (by rw [hp]; simp)
    simp only [List.length_append, List.length_cons, List.length_nil, Nat.zero_add] at hnext
    cases b with
    | true =>
      simp only [show (p1.length : Int) < (ch.length : Int) by omega, show (0 : Int) ≤ (i : Int) by omega, show (i : Int) < (l.length : Int) by omega, show (0 : Int) ≤ (p1.length : Int) by omega, hdr, hd.1, hd.2, ↓reduceIte, hm, Option.bind_some, wsuc (show p1.length < ch.length by omega) (by omega : ch.length ≤ 1048576)]
      rw [Bool.true_and] at hR
      exact hnext _ hR
    | false =>
      simp only [show (p1.length : Int) < (ch.length : Int) by omega, ↓reduceIte, Bool.false_eq_true, wsuc (show p1.length < ch.length by omega) (by omega : ch.length ≤ 1048576)]
      rw [Bool.false_and] at hR
      exact hnext false (by rw [Bool.false_and]; exact hR)
theorem ap_l0 : ∀ (d i : Nat) (ch best : List Int), i + d = l.length → ch.length ≤ i → (∀ k ∈ ch, 0 ≤ k ∧ k < (l.length : Int)) →
    Ev (fun k => spec_l01Apart.l0 k l ch best (i : Int) a0 a1 a2 a3 a4 a5) (apartS (mI [a0, a1, a2, a3, a4, a5] l) d i ch best) := by
  intro d
  induction d with
  | zero =>
    intro i ch best hi hc hch
    refine Ev.step (fun k => by rw [spec_l01Apart.l0]) ?_
    simp only [show ¬ (i : Int) < (l.length : Int) by omega, ↓reduceIte]
    exact Ev.now _
  | succ d ih =>
    intro i ch best hi hc hch
    have hw : wrap64 ((i : Int) + 1) = ((i + 1 : Nat) : Int) := by unfold wrap64; omega
    refine Ev.step (fun k => by rw [spec_l01Apart.l0]) ?_
    simp only [show (i : Int) < (l.length : Int) by omega, ↓reduceIte]
    refine ap_l1 a0 a1 a2 a3 a4 a5 l hs hg i (by omega) ch hch (by omega) best _ ch [] true rfl ?_
    rw [Bool.true_and, show (ch.all fun k => !mI [a0, a1, a2, a3, a4, a5] l i k.toNat) = fineB (mI [a0, a1, a2, a3, a4, a5] l) i ch from rfl]
    rw [apartS]
    refine Ev.step (fun k => by rw [spec_l01Apart.l1]) ?_
    cases hf : fineB (mI [a0, a1, a2, a3, a4, a5] l) i ch with
    | true =>
      have hrec : Ev (fun k => spec_l01Apart.f k a0 a1 a2 a3 a4 a5 l ((i + 1 : Nat) : Int) (ch ++ [(i : Int)])) (apartS (mI [a0, a1, a2, a3, a4, a5] l) d (i + 1) (ch ++ [(i : Int)]) (ch ++ [(i : Int)])) := by
        refine Ev.step (fun k => by rw [spec_l01Apart.f]) ?_
        refine ih (i + 1) (ch ++ [(i : Int)]) (ch ++ [(i : Int)]) (by omega) (by simp; omega) (fun k hk => ?_)
        rcases List.mem_append.1 hk with hk | hk
        · exact hch k hk
        · rw [List.mem_singleton] at hk; omega
      simp only [Int.lt_irrefl, ↓reduceIte, Option.bind_some, List.length_nil, Nat.zero_add, List.nil_append, show ch.length < 17592186044416 by omega, List.length_cons, show ch.length + 1 < 17592186044416 by omega, hw]
      refine Ev.bind hrec ?_
      by_cases hlong : (apartS (mI [a0, a1, a2, a3, a4, a5] l) d (i + 1) (ch ++ [(i : Int)]) (ch ++ [(i : Int)])).length > best.length
      · rw [if_pos hlong]
        simp only [show ((apartS (mI [a0, a1, a2, a3, a4, a5] l) d (i + 1) (ch ++ [(i : Int)]) (ch ++ [(i : Int)])).length : Int) > (best.length : Int) by omega, ↓reduceIte]
        exact ih (i + 1) ch _ (by omega) (by omega) hch
      · rw [if_neg hlong]
        simp only [show ¬ ((apartS (mI [a0, a1, a2, a3, a4, a5] l) d (i + 1) (ch ++ [(i : Int)]) (ch ++ [(i : Int)])).length : Int) > (best.length : Int) by omega, ↓reduceIte]
        exact ih (i + 1) ch _ (by omega) (by omega) hch
    | false =>
      simp only [Int.lt_irrefl, ↓reduceIte, Bool.false_eq_true, hw]
      exact ih (i + 1) ch _ (by omega) (by omega) hch
theorem ap_spec : Ev (fun k => spec_l01Apart.f k a0 a1 a2 a3 a4 a5 l 0 []) (apartS (mI [a0, a1, a2, a3, a4, a5] l) l.length 0 [] []) := by
  refine Ev.step (fun k => by rw [spec_l01Apart.f]) ?_
  exact ap_l0 a0 a1 a2 a3 a4 a5 l hs hg hl l.length 0 [] [] (by omega) (by simp) (fun k h => by cases h)
theorem ap_impl : impl_Rules_apart.f a0 a1 a2 a3 a4 a5 l = some (apartS (mI [a0, a1, a2, a3, a4, a5] l) l.length 0 [] []) := by
  unfold impl_Rules_apart.f
  have hcol : colB l = true := by
    unfold colB
    rw [List.all_eq_true]
    intro x hx
    exact decide_eq_true (gok_col (all_mem hg hx) (all_mem hs hx))
  rw [if_pos ⟨hl, hcol⟩, apart_best]
end
theorem l00Max_eq (a b : Int) : spec_l00Max.f a b = some (mx a b) := by
  unfold spec_l00Max.f mx
  by_cases h : a > b
  · rw [if_pos h, if_neg (by omega)]
  · rw [if_neg h]
    by_cases h2 : a < b
    · rw [if_pos h2]
    · rw [if_neg h2, show a = b by omega]
def lbR (rs : List Int) (hold : Int) (l : List S44) : Int × Int :=
  if codeL rs l (holdB hold) = 0 then (mx ((apartS (mI rs l) l.length 0 [] []).length : Int) (wrap64 (Int.tdiv (wrap64 ((wrap64 (weightB l + hold)) - 1)) hold)), 0) else (0, codeL rs l (holdB hold))
theorem hold_ne {h : Int} (hh : holdB h = true) : ¬ h = 0 := by
  unfold holdB at hh
  rw [decide_eq_true_eq] at hh
  omega
theorem spec_lbR (a0 a1 a2 a3 a4 a5 hold : Int) (l : List S44) (hs : l.all gsm = true) (hl : l.length ≤ 1048576) : Ev (fun k => spec_LoadsBound.f k a0 a1 a2 a3 a4 a5 hold l) (lbR [a0, a1, a2, a3, a4, a5] hold l) := by
  unfold spec_LoadsBound.f lbR
  simp only [hold_eq, Option.bind_some]
  refine Ev.bind (l01Asked_ev a0 a1 a2 a3 a4 a5 l hs hl (holdB hold)) ?_
  by_cases h : codeL [a0, a1, a2, a3, a4, a5] l (holdB hold) = 0
  · have hc := codeL_ok h
    simp only [h, ↓reduceIte]
    refine Ev.bind (ap_spec a0 a1 a2 a3 a4 a5 l hs hc.2.1 hc.2.2.2) ?_
    refine Ev.bind (spec_weight_ev l hl) ?_
    simp only [hold_ne hc.2.2.1, ↓reduceIte, l00Max_eq, Option.bind_some]
    exact Ev.now _
  · simp only [h, ↓reduceIte]
    exact Ev.now _
theorem impl_lbR (a0 a1 a2 a3 a4 a5 : Int) (hr : rsWf [a0, a1, a2, a3, a4, a5]) (hold : Int) (l : List S44) (hs : l.all gsm = true) (hl : l.length ≤ 1048576) : Ev (fun k => impl_LoadsBound.f k a0 a1 a2 a3 a4 a5 hold l) (lbR [a0, a1, a2, a3, a4, a5] hold l) := by
  unfold impl_LoadsBound.f lbR
  refine Ev.bind (loadCode_ev a0 a1 a2 a3 a4 a5 hr hold l hs) ?_
  have hw : impl_weightOfw.f l = some (weightB l) := by unfold impl_weightOfw.f; rw [if_pos hl]
  by_cases h : codeL [a0, a1, a2, a3, a4, a5] l (holdB hold) = 0
  · have hc := codeL_ok h
    simp only [h, ↓reduceIte, ap_impl a0 a1 a2 a3 a4 a5 l hs hc.2.1 hc.2.2.2, Option.bind_some, impl_size_int64.f, hw, hold_ne hc.2.2.1]
    exact Ev.now _
  · simp only [h, ↓reduceIte]
    exact Ev.now _
theorem FnExactLoadsBound (a0_0 : Int) (a0_1 : Int) (a0_2 : Int) (a0_3 : Int) (a0_4 : Int) (a0_5 : Int) (a1 : Int) (l2 : List S89) (w0_0 : (Lit.int .u8 a0_0).wf = true) (w0_1 : (Lit.int .u8 a0_1).wf = true) (w0_2 : (Lit.int .u8 a0_2).wf = true) (w0_3 : (Lit.int .u8 a0_3).wf = true) (w0_4 : (Lit.int .u8 a0_4).wf = true) (w0_5 : (Lit.int .u8 a0_5).wf = true) (w1 : (Lit.int .i64 a1).wf = true) (y2 : l2.length ≤ 9223372036854775807) (w2 : ∀ x ∈ l2, (Lit.int .u8 x.f0).wf = true ∧ (Lit.int .i8 x.f1).wf = true ∧ (Lit.int .i8 x.f2).wf = true ∧ (Lit.int .i16 x.f3).wf = true) : ∃ k, laws_FnExactLoadsBound.f k a0_0 a0_1 a0_2 a0_3 a0_4 a0_5 a1 l2 = some true := by
  have hr := rsWf_of a0_0 a0_1 a0_2 a0_3 a0_4 a0_5 w0_0 w0_1 w0_2 w0_3 w0_4 w0_5
  refine Ev.rounds ?_
  unfold laws_FnExactLoadsBound.f
  simp only [szGarmentS_eq l2 1048576 (by omega) (by omega) y2, laws_toRules.f, Option.bind_some]
  by_cases hl : (l2.length : Int) ≤ 1048576
  · simp only [hl, ↓reduceIte, show ¬ (1048576 - (l2.length : Int) < 0) by omega]
    have h0 : l2.length ≤ 1048576 := by omega
    have s0 : (toS l2).length ≤ 1048576 := by rw [toS_len]; exact h0
    have hs := toS_small w2
    refine Ev.bind (toGarmentS_ev l2 h0) ?_
    refine Ev.bind (spec_lbR _ _ _ _ _ _ _ _ hs s0) ?_
    refine Ev.bind (toGarmentS_ev l2 h0) ?_
    refine Ev.bind (impl_lbR _ _ _ _ _ _ hr _ _ hs s0) ?_
    simp only [↓reduceIte, bne_self_eq_false]
    refine Ev.step (fun k => by rw [laws_FnExactLoadsBound.j0]) ?_
    simp only [Bool.false_eq_true, ↓reduceIte]
    refine Ev.bind (toGarmentS_ev l2 h0) ?_
    refine Ev.bind (eqGarmentS_ev _ s0) ?_
    simp only [↓reduceIte]
    exact Ev.now _
  · simp only [hl, ↓reduceIte, show (-1 : Int) < 0 by omega]
    exact Ev.now _
end Go.Proofs.YthodfhcaaidnmaaDoor.Pure
