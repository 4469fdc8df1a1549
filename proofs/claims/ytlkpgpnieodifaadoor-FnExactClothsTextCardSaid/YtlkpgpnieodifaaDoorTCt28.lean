/- Words and walks for the law FnExactClothsText. -/
import Derived.Test.YtlkpgpnieodifaaDoorTCt27
import Derived.OpenShut
namespace Go.Proofs.YtlkpgpnieodifaaDoor.Pure
set_option linter.unusedSimpArgs false
set_option linter.unusedVariables false
open Go.RowKit Go.Proofs.YtlkpgpnieodifaaDoor.Ct Go.Proofs.YtlkpgpnieodifaaDoorW.PrintWords Go.Proofs.YtlkpgpnieodifaaDoorW.PrintLast Go.Proofs.YtlkpgpnieodifaaDoorW.PrintMore
theorem rdm (pre : List S32) (c : S32) (cs : List S32) : rd_T32 (pre ++ c :: cs) (pre.length : Int) = c := by simp [rd_T32, List.getD_eq_getElem?_getD]
theorem wsuc {i n : Nat} (h : i < n) (hn : n ≤ 1048576) : wrap64 ((i : Int) + 1) = ((i + 1 : Nat) : Int) := by unfold wrap64; omega
def toS (l : List S34) : List S32 := l.map fun x => ⟨x.f0, x.f1⟩
def smallS (l : List S32) : Prop := ∀ x ∈ l, -32768 ≤ x.f0 ∧ x.f0 ≤ 32767 ∧ -32768 ≤ x.f1 ∧ x.f1 ≤ 32767
theorem toS_len (l : List S34) : (toS l).length = l.length := by simp [toS]
theorem toS_small {l : List S34} (w : ∀ x ∈ l, (Lit.int .i16 x.f0).wf = true ∧ (Lit.int .i16 x.f1).wf = true) : smallS (toS l) := by
  intro x hx
  obtain ⟨y, hy, rfl⟩ := List.mem_map.mp hx
  have h0 := bounds_i16 (w y hy).1
  have h1 := bounds_i16 (w y hy).2
  exact ⟨h0.1, h0.2, h1.1, h1.2⟩
theorem rd43_mid (pre : List S34) (c : S34) (cs : List S34) : rd_T34 (pre ++ c :: cs) (pre.length : Int) = c := by simp [rd_T34, List.getD_eq_getElem?_getD]
theorem toClothS_l0 (l : List S34) (hl : l.length ≤ 1048576) : ∀ (cs pre : List S34), l = pre ++ cs →
    Ev (fun k => laws_toClothS.l0 k l (toS pre ++ List.replicate cs.length z32) (pre.length : Int)) (toS l) := by
  intro cs
  induction cs with
  | nil =>
    intro pre hpre
    refine Ev.step (fun k => by rw [laws_toClothS.l0]) ?_
    have : l.length = pre.length := by rw [hpre]; simp
    simp only [show ¬ (pre.length : Int) < (l.length : Int) by omega, ↓reduceIte]
    rw [show l = pre by rw [hpre]; simp]
    simp only [List.length_nil, List.replicate_zero, List.append_nil]
    exact Ev.now _
  | cons c cs ih =>
    intro pre hpre
    have hlen : l.length = pre.length + cs.length + 1 := by rw [hpre]; simp; omega
    have hc : rd_T34 l (pre.length : Int) = c := by rw [hpre]; exact rd43_mid pre c cs
    have hnext := ih (pre ++ [c]) (by rw [hpre]; simp)
    simp only [List.length_append, List.length_cons, List.length_nil, Nat.zero_add] at hnext
    have hx : (pre.length : Int) < ((toS pre ++ List.replicate (cs.length + 1) z32).length : Int) := by simp [toS]; omega
    have hset : (toS pre ++ List.replicate (cs.length + 1) z32).set (pre.length : Int).toNat (⟨c.f0, c.f1⟩ : S32) = toS (pre ++ [c]) ++ List.replicate cs.length z32 := by
      rw [Int.toNat_natCast, List.set_append_right _ _ (by simp [toS]), toS_len, Nat.sub_self, List.replicate_succ, List.set_cons_zero]
      simp [toS]
    refine Ev.step (fun k => by rw [laws_toClothS.l0]) ?_
    simp only [List.length_cons, show (pre.length : Int) < (l.length : Int) by omega, show (0 : Int) ≤ (pre.length : Int) by omega, ↓reduceIte, hc, laws_toCloth.f, Option.bind_some, hx, hset, wsuc (show pre.length < l.length by omega) hl]
    exact hnext
theorem toClothS_ev (l : List S34) (hl : l.length ≤ 1048576) : Ev (fun k => laws_toClothS.f k l) (toS l) := by
  have := toClothS_l0 l hl l [] rfl
  unfold laws_toClothS.f
  simp only [show (0 : Int) ≤ (l.length : Int) by omega, Int.toNat_natCast, show l.length ≤ 70368744177664 by omega, ↓reduceIte]
  exact this
theorem eqClothS_l0 (l : List S32) (hl : l.length ≤ 1048576) : ∀ (cs pre : List S32), l = pre ++ cs → Ev (fun k => laws_eqClothS.l0 k l l (pre.length : Int)) true := by
  intro cs
  induction cs with
  | nil =>
    intro pre hpre
    refine Ev.step (fun k => by rw [laws_eqClothS.l0]) ?_
    have : l.length = pre.length := by rw [hpre]; simp
    simp only [show ¬ (pre.length : Int) < (l.length : Int) by omega, ↓reduceIte]
    exact Ev.now _
  | cons c cs ih =>
    intro pre hpre
    have hlen : l.length = pre.length + cs.length + 1 := by rw [hpre]; simp; omega
    have hnext := ih (pre ++ [c]) (by rw [hpre]; simp)
    simp only [List.length_append, List.length_cons, List.length_nil, Nat.zero_add] at hnext
    refine Ev.step (fun k => by rw [laws_eqClothS.l0]) ?_
    simp only [show (pre.length : Int) < (l.length : Int) by omega, show (0 : Int) ≤ (pre.length : Int) by omega, ↓reduceIte, laws_eqCloth.f, Option.bind_some, wsuc (show pre.length < l.length by omega) hl]
    exact hnext
theorem eqClothS_ev (l : List S32) (hl : l.length ≤ 1048576) : Ev (fun k => laws_eqClothS.f k l l) true := by
  unfold laws_eqClothS.f
  simp only [↓reduceIte]
  exact eqClothS_l0 l hl l [] rfl
theorem szClothS_eq (l : List S34) (a : Int) (h0 : 0 ≤ a) (h1 : a ≤ 1048576) (hl : l.length ≤ 9223372036854775807) : laws_szClothS.f l a = some (if (l.length : Int) ≤ a then a - (l.length : Int) else -1) := by
  unfold laws_szClothS.f
  have e : wrap64 (a - (l.length : Int)) = a - (l.length : Int) := by unfold wrap64; omega
  rw [e]
  by_cases h : (l.length : Int) ≤ a
  · rw [if_neg (by omega), if_pos h]
  · rw [if_pos (by omega), if_neg h]
theorem l00In_eq (a b c : Int) : spec_l00In.f a b c = some (decide (b ≤ a ∧ a ≤ c)) := by
  unfold spec_l00In.f
  by_cases h : b ≤ a
  · rw [if_pos (show a ≥ b from h)]; simp [h]
  · rw [if_neg (show ¬ a ≥ b from h)]; simp [h]
theorem l02Cloths_l0 (l : List S32) (hs : smallS l) (hl : l.length ≤ 1048576) : ∀ (cs pre : List S32), l = pre ++ cs → Ev (fun k => spec_l02Cloths.l0 k l (pre.length : Int)) (cs.all cloth_ok) := by
  intro cs
  induction cs with
  | nil =>
    intro pre hpre
    refine Ev.step (fun k => by rw [spec_l02Cloths.l0]) ?_
    have : l.length = pre.length := by rw [hpre]; simp
    simp only [show ¬ (pre.length : Int) < (l.length : Int) by omega, ↓reduceIte]
    exact Ev.now _
  | cons c cs ih =>
    intro pre hpre
    have hlen : l.length = pre.length + cs.length + 1 := by rw [hpre]; simp; omega
    have hc : rd_T32 l (pre.length : Int) = c := by rw [hpre]; exact rdm pre c cs
    have hb := hs c (by rw [hpre]; simp)
    have hnext := ih (pre ++ [c]) (by rw [hpre]; simp)
    simp only [List.length_append, List.length_cons, List.length_nil, Nat.zero_add] at hnext
    refine Ev.step (fun k => by rw [spec_l02Cloths.l0]) ?_
    have e0 : wrap64 c.f0 = c.f0 := by unfold wrap64; omega
    have e1 : wrap64 c.f1 = c.f1 := by unfold wrap64; omega
    simp only [show (pre.length : Int) < (l.length : Int) by omega, show (0 : Int) ≤ (pre.length : Int) by omega, ↓reduceIte, hc, e0, e1, l00In_eq, Option.bind_some, decide_eq_true_eq, wsuc (show pre.length < l.length by omega) hl, List.all_cons, cloth_ok]
    by_cases h1 : 4 ≤ c.f0 ∧ c.f0 ≤ 200
    · by_cases h2 : 1 ≤ c.f1 ∧ c.f1 ≤ 500
      · simp only [h1, h2, and_self, ↓reduceIte, decide_true, Bool.true_and]
        exact hnext
      · simp only [h1, h2, and_self, ↓reduceIte, decide_true, decide_false, Bool.true_and, Bool.false_and]
        exact Ev.now _
    · simp only [h1, ↓reduceIte, decide_false, Bool.false_and]
      exact Ev.now _
theorem l02Cloths_ev (l : List S32) (hs : smallS l) (hl : l.length ≤ 1048576) : Ev (fun k => spec_l02Cloths.f k l) (l.all cloth_ok) := by
  unfold spec_l02Cloths.f
  exact l02Cloths_l0 l hs hl l [] rfl
theorem ValidCloths_eq (l : List S32) (hs : smallS l) : impl_ValidCloths.f l = some (l.all cloth_ok) := by
  unfold impl_ValidCloths.f
  rw [if_pos]
  rw [List.all_eq_true]
  intro x hx
  exact decide_eq_true (hs x hx)
theorem firstOf2 (a b : Int) : Ev (fun k => impl_firstOf.f k [a, b]) (if a = 0 then b else a) := by
  unfold impl_firstOf.f
  have e2 : ∀ a b : Int, ((([a, b] : List Int).length : Nat) : Int) = 2 := fun _ _ => rfl
  have w1 : wrap64 (0 + 1) = 1 := by unfold wrap64; omega
  have w2 : wrap64 (1 + 1) = 2 := by unfold wrap64; omega
  have r0 : rd [a, b] 0 = a := by simp [rd]
  have r1 : rd [a, b] 1 = b := by simp [rd]
  refine Ev.step (fun k => by rw [impl_firstOf.l0]) ?_
  simp only [e2, show (0 : Int) < 2 by omega, show (0 : Int) ≤ 0 by omega, ↓reduceIte, r0]
  by_cases ha : a = 0
  · simp only [ha, ↓reduceIte, w1]
    rw [ha] at r1
    refine Ev.step (fun k => by rw [impl_firstOf.l0]) ?_
    simp only [e2, show (1 : Int) < 2 by omega, show (0 : Int) ≤ 1 by omega, ↓reduceIte, r1]
    by_cases hb : b = 0
    · simp only [hb, ↓reduceIte, w2]
      refine Ev.step (fun k => by rw [impl_firstOf.l0]) ?_
      simp only [show ¬ (2 : Int) < 2 by omega, ↓reduceIte]
      exact Ev.now _
    · simp only [hb, ↓reduceIte]
      exact Ev.now _
  · simp only [ha, ↓reduceIte]
    exact Ev.now _
def codeOf (l : List S32) (n : Int) : Int := if l.all cloth_ok = true then (if (l.length : Int) ≤ n then 0 else 3) else 1
theorem clothCode_ev (l : List S32) (hs : smallS l) (n : Int) : Ev (fun k => impl_clothCode.f k l n) (codeOf l n) := by
  unfold impl_clothCode.f
  simp only [ValidCloths_eq l hs, Option.bind_some, impl_unless.f]
  cases h : l.all cloth_ok with
  | false =>
    simp only [Bool.false_eq_true, ↓reduceIte, Option.bind_some]
    by_cases hn : (l.length : Int) ≤ n
    · simp only [hn, decide_true, ↓reduceIte, Option.bind_some]
      exact Ev.bind (firstOf2 1 0) (by simp only [codeOf, h, Bool.false_eq_true, ↓reduceIte, show ¬ (1 : Int) = 0 by omega]; exact Ev.now _)
    · simp only [hn, decide_false, Bool.false_eq_true, ↓reduceIte, Option.bind_some]
      exact Ev.bind (firstOf2 1 3) (by simp only [codeOf, h, Bool.false_eq_true, ↓reduceIte, show ¬ (1 : Int) = 0 by omega]; exact Ev.now _)
  | true =>
    simp only [↓reduceIte, Option.bind_some]
    by_cases hn : (l.length : Int) ≤ n
    · simp only [hn, decide_true, ↓reduceIte, Option.bind_some]
      exact Ev.bind (firstOf2 0 0) (by simp only [codeOf, h, hn, ↓reduceIte]; exact Ev.now _)
    · simp only [hn, decide_false, Bool.false_eq_true, ↓reduceIte, Option.bind_some]
      exact Ev.bind (firstOf2 0 3) (by simp only [codeOf, h, hn, ↓reduceIte]; exact Ev.now _)
theorem l02Many_ev (l : List S32) (hs : smallS l) (hl : l.length ≤ 1048576) (n : Int) : Ev (fun k => spec_l02Many.f k l n) (codeOf l n) := by
  unfold spec_l02Many.f
  refine Ev.bind (l02Cloths_ev l hs hl) ?_
  unfold codeOf
  cases h : l.all cloth_ok with
  | false =>
    simp only [Bool.false_eq_true, ↓reduceIte]
    exact Ev.now _
  | true =>
    simp only [↓reduceIte]
    by_cases hn : (l.length : Int) ≤ n
    · simp only [hn, show ¬ (l.length : Int) > n by omega, ↓reduceIte]
      exact Ev.now _
    · simp only [hn, show (l.length : Int) > n by omega, ↓reduceIte]
      exact Ev.now _
theorem code_small {l : List S32} (h : codeOf l 100 = 0) : l.length ≤ 100 ∧ smallT l = true := by
  unfold codeOf at h
  by_cases h1 : l.all cloth_ok = true
  · rw [if_pos h1] at h
    by_cases h2 : (l.length : Int) ≤ 100
    · refine ⟨by omega, ?_⟩
      unfold smallT
      rw [List.all_eq_true] at h1 ⊢
      intro x hx
      have := h1 x hx
      unfold cloth_ok at this
      simp only [Bool.and_eq_true, decide_eq_true_eq] at this
      exact decide_eq_true (by omega)
    · rw [if_neg h2] at h; omega
  · rw [if_neg h1] at h; omega
def bel (c : S32) : ByteArray := ⟨(elT c).toArray⟩
theorem bel_list (l : List S32) : (l.map bel).map (·.data.toList) = l.map elT := by
  rw [List.map_map]
  rfl
theorem small_mem {l : List S32} (h : smallT l = true) {c : S32} (hc : c ∈ l) : 0 ≤ c.f0 ∧ c.f0 ≤ 32767 ∧ 0 ≤ c.f1 ∧ c.f1 ≤ 32767 := by
  unfold smallT at h
  rw [List.all_eq_true] at h
  exact of_decide_eq_true (h c hc)
theorem decimal_eq (n : Int) (h0 : 0 ≤ n) (h1 : n ≤ 32767) : impl_decimal.f (wrap64 n) = some ⟨(Lib.decDigits n.toNat).toArray⟩ := by
  rw [show wrap64 n = n by unfold wrap64; omega]
  unfold impl_decimal.f
  rw [if_pos (by omega)]
theorem text_l0 (l : List S32) (hn : l.length ≤ 100) (hs : smallT l = true) : ∀ (cs pre : List S32), l = pre ++ cs → Ev (fun k => impl_ClothsText.l0 k (pre.map bel) l (l.length : Int) (pre.length : Int)) ⟨(textT l).toArray⟩ := by
  intro cs
  induction cs with
  | nil =>
    intro pre hpre
    refine Ev.step (fun k => by rw [impl_ClothsText.l0]) ?_
    have hlen : l.length = pre.length := by rw [hpre]; simp
    simp only [show ¬ (pre.length : Int) < (l.length : Int) by omega, ↓reduceIte]
    have hl : l = pre := by rw [hpre]; simp
    have hj : strings_Join.f (pre.map bel) (⟨#[32]⟩ : ByteArray) = some ⟨(textT l).toArray⟩ := by
      unfold strings_Join.f
      rw [bel_list, show (⟨#[32]⟩ : ByteArray).data.toList = [32] from rfl, ← hl]
      have ht := textT_len l hs
      rw [if_pos ⟨by simp; omega, by unfold textT at ht; omega⟩]
      rfl
    simp only [hj, Option.bind_some]
    exact Ev.now _
  | cons c cs ih =>
    intro pre hpre
    have hlen : l.length = pre.length + cs.length + 1 := by rw [hpre]; simp; omega
    have hc : rd_T32 l (pre.length : Int) = c := by rw [hpre]; exact rdm pre c cs
    obtain ⟨b0, b1, b2, b3⟩ := small_mem hs (show c ∈ l by rw [hpre]; simp)
    have hnext := ih (pre ++ [c]) (by rw [hpre]; simp)
    simp only [List.length_append, List.length_cons, List.length_nil, Nat.zero_add, List.map_append, List.map_cons, List.map_nil] at hnext
    have z0 := dec_len c.f0.toNat (by omega)
    have z1 := dec_len c.f1.toNat (by omega)
    have hb : ((⟨(Lib.decDigits c.f0.toNat).toArray⟩ : ByteArray) ++ (⟨#[47]⟩ : ByteArray)) ++ (⟨(Lib.decDigits c.f1.toNat).toArray⟩ : ByteArray) = bel c := by
      rw [show (⟨#[47]⟩ : ByteArray) = ⟨([47] : List UInt8).toArray⟩ from rfl, dec_mk, dec_mk]
      rfl
    have s1 : (⟨(Lib.decDigits c.f0.toNat).toArray⟩ : ByteArray).size + 1 ≤ 9223372036854775807 := by rw [dec_size]; omega
    have s2 : ((⟨(Lib.decDigits c.f0.toNat).toArray⟩ : ByteArray) ++ (⟨#[47]⟩ : ByteArray)).size + (⟨(Lib.decDigits c.f1.toNat).toArray⟩ : ByteArray).size ≤ 9223372036854775807 := by
      rw [ByteArray.size_append]; have e1 := dec_size (Lib.decDigits c.f0.toNat); have e2 := dec_size (Lib.decDigits c.f1.toNat); have e3 : (⟨#[47]⟩ : ByteArray).size = 1 := rfl; omega
    refine Ev.step (fun k => by rw [impl_ClothsText.l0]) ?_
    simp only [show (pre.length : Int) < (l.length : Int) by omega, show (0 : Int) ≤ (pre.length : Int) by omega, ↓reduceIte, hc, decimal_eq c.f0 b0 b1, decimal_eq c.f1 b2 b3, Option.bind_some, s1, s2, hb, List.length_map, show pre.length < 8796093022208 by omega, wsuc (show pre.length < l.length by omega) (by omega : l.length ≤ 1048576)]
    exact hnext
def ctR (l : List S32) : ByteArray := if codeOf l 100 = 0 then ⟨(textT l).toArray⟩ else ⟨#[]⟩
theorem impl_ct (l : List S32) (hs : smallS l) : Ev (fun k => impl_ClothsText.f k l) (ctR l) := by
  unfold impl_ClothsText.f ctR
  refine Ev.bind (clothCode_ev l hs 100) ?_
  by_cases h : codeOf l 100 = 0
  · simp only [h, ↓reduceIte]
    obtain ⟨hn, ht⟩ := code_small h
    exact text_l0 l hn ht l [] rfl
  · simp only [h, ↓reduceIte]
    exact Ev.now _
theorem spec_ct (l : List S32) (hs : smallS l) (hl : l.length ≤ 1048576) : Ev (fun k => spec_ClothsText.f k l) (ctR l) := by
  unfold spec_ClothsText.f ctR
  refine Ev.bind (l02Many_ev l hs hl 100) ?_
  by_cases h : codeOf l 100 = 0
  · simp only [h, ↓reduceIte]
    obtain ⟨hn, ht⟩ := code_small h
    have : spec_l02Text.f l = some ⟨(textT l).toArray⟩ := by unfold spec_l02Text.f; rw [if_pos ⟨hn, ht⟩]
    simp only [this, Option.bind_some]
    exact Ev.now _
  · simp only [h, ↓reduceIte]
    exact Ev.now _
theorem FnExactClothsText (l0 : List S34) (y0 : l0.length ≤ 9223372036854775807) (w0 : ∀ x ∈ l0, (Lit.int .i16 x.f0).wf = true ∧ (Lit.int .i16 x.f1).wf = true) : ∃ k, laws_FnExactClothsText.f k l0 = some true := by
  refine Ev.rounds ?_
  unfold laws_FnExactClothsText.f
  simp only [szClothS_eq l0 1048576 (by omega) (by omega) y0, Option.bind_some]
  by_cases hl : (l0.length : Int) ≤ 1048576
  · simp only [hl, ↓reduceIte, show ¬ (1048576 - (l0.length : Int) < 0) by omega]
    have hl' : l0.length ≤ 1048576 := by omega
    have hs := toS_small w0
    have hlS : (toS l0).length ≤ 1048576 := by rw [toS_len]; exact hl'
    refine Ev.bind (toClothS_ev l0 hl') ?_
    refine Ev.bind (spec_ct _ hs hlS) ?_
    refine Ev.bind (toClothS_ev l0 hl') ?_
    refine Ev.bind (impl_ct _ hs) ?_
    simp only [↓reduceIte]
    refine Ev.bind (toClothS_ev l0 hl') ?_
    refine Ev.bind (eqClothS_ev _ hlS) ?_
    simp only [↓reduceIte]
    exact Ev.now _
  · simp only [hl, ↓reduceIte, show (-1 : Int) < 0 by omega]
    exact Ev.now _
end Go.Proofs.YtlkpgpnieodifaaDoor.Pure
