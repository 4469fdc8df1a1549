/- Words and walks for the law FnExactInOrder. -/
import Derived.Test.YtlkpgpnieodifaaTIo29
import Derived.OpenShut
namespace Go.Proofs.Ytlkpgpnieodifaa.Pure
set_option linter.unusedSimpArgs false
set_option linter.unusedVariables false
open Go.RowKit Go.Proofs.Ytlkpgpnieodifaa.Io Go.Proofs.YtlkpgpnieodifaaW.PrintWords Go.Proofs.YtlkpgpnieodifaaW.PrintLast Go.Proofs.YtlkpgpnieodifaaW.PrintMore
theorem rdm (pre : List S38) (c : S38) (cs : List S38) : rd_T38 (pre ++ c :: cs) (pre.length : Int) = c := by simp [rd_T38, List.getD_eq_getElem?_getD]
theorem rdim (pre : List Int) (c : Int) (cs : List Int) : rd (pre ++ c :: cs) (pre.length : Int) = c := by simp [rd, List.getD_eq_getElem?_getD]
theorem wsuc {i n : Nat} (h : i < n) (hn : n ≤ 1048576) : wrap64 ((i : Int) + 1) = ((i + 1 : Nat) : Int) := by unfold wrap64; omega
def toS (l : List S43) : List S38 := l.map fun x => ⟨x.f0, x.f1⟩
def smallS (l : List S38) : Prop := ∀ x ∈ l, -32768 ≤ x.f0 ∧ x.f0 ≤ 32767 ∧ -32768 ≤ x.f1 ∧ x.f1 ≤ 32767
theorem toS_len (l : List S43) : (toS l).length = l.length := by simp [toS]
theorem toS_small {l : List S43} (w : ∀ x ∈ l, (Lit.int .i16 x.f0).wf = true ∧ (Lit.int .i16 x.f1).wf = true) : smallS (toS l) := by
  intro x hx
  obtain ⟨y, hy, rfl⟩ := List.mem_map.mp hx
  have h0 := bounds_i16 (w y hy).1
  have h1 := bounds_i16 (w y hy).2
  exact ⟨h0.1, h0.2, h1.1, h1.2⟩
theorem rd43_mid (pre : List S43) (c : S43) (cs : List S43) : rd_T43 (pre ++ c :: cs) (pre.length : Int) = c := by simp [rd_T43, List.getD_eq_getElem?_getD]
theorem toClothS_l0 (l : List S43) (hl : l.length ≤ 1048576) : ∀ (cs pre : List S43), l = pre ++ cs →
    Ev (fun k => laws_toClothS.l0 k l (toS pre ++ List.replicate cs.length z38) (pre.length : Int)) (toS l) := by
  intro cs
  induction cs with
  | nil =>
    intro pre hpre
    refine Ev.step (fun k => by rw [laws_toClothS.l0]) ?_
    have : l.length = pre.length := by rw [hpre]; simp
    simp only [show ¬ (pre.length : Int) < (l.length : Int) by omega, ↓reduceIte]
    rw [show l = pre by rw [hpre]; simp]
    simp only [List.length_nil, List.replicate_zero, List.append_nil]
    exact Ev.now _
  | cons c cs ih =>
    intro pre hpre
    have hlen : l.length = pre.length + cs.length + 1 := by rw [hpre]; simp; omega
    have hc : rd_T43 l (pre.length : Int) = c := by rw [hpre]; exact rd43_mid pre c cs
    have hnext := ih (pre ++ [c]) (by rw [hpre]; simp)
    simp only [List.length_append, List.length_cons, List.length_nil, Nat.zero_add] at hnext
    have hx : (pre.length : Int) < ((toS pre ++ List.replicate (cs.length + 1) z38).length : Int) := by simp [toS]; omega
    have hset : (toS pre ++ List.replicate (cs.length + 1) z38).set (pre.length : Int).toNat (⟨c.f0, c.f1⟩ : S38) = toS (pre ++ [c]) ++ List.replicate cs.length z38 := by
      rw [Int.toNat_natCast, List.set_append_right _ _ (by simp [toS]), toS_len, Nat.sub_self, List.replicate_succ, List.set_cons_zero]
      simp [toS]
    refine Ev.step (fun k => by rw [laws_toClothS.l0]) ?_
    simp only [List.length_cons, show (pre.length : Int) < (l.length : Int) by omega, show (0 : Int) ≤ (pre.length : Int) by omega, ↓reduceIte, hc, laws_toCloth.f, Option.bind_some, hx, hset, wsuc (show pre.length < l.length by omega) hl]
    exact hnext
theorem toClothS_ev (l : List S43) (hl : l.length ≤ 1048576) : Ev (fun k => laws_toClothS.f k l) (toS l) := by
  have := toClothS_l0 l hl l [] rfl
  unfold laws_toClothS.f
  simp only [show (0 : Int) ≤ (l.length : Int) by omega, Int.toNat_natCast, show l.length ≤ 70368744177664 by omega, ↓reduceIte]
  exact this
theorem eqClothS_l0 (l : List S38) (hl : l.length ≤ 1048576) : ∀ (cs pre : List S38), l = pre ++ cs → Ev (fun k => laws_eqClothS.l0 k l l (pre.length : Int)) true := by
  intro cs
  induction cs with
  | nil =>
    intro pre hpre
    refine Ev.step (fun k => by rw [laws_eqClothS.l0]) ?_
    have : l.length = pre.length := by rw [hpre]; simp
    simp only [show ¬ (pre.length : Int) < (l.length : Int) by omega, ↓reduceIte]
    exact Ev.now _
  | cons c cs ih =>
    intro pre hpre
    have hlen : l.length = pre.length + cs.length + 1 := by rw [hpre]; simp; omega
    have hnext := ih (pre ++ [c]) (by rw [hpre]; simp)
    simp only [List.length_append, List.length_cons, List.length_nil, Nat.zero_add] at hnext
    refine Ev.step (fun k => by rw [laws_eqClothS.l0]) ?_
    simp only [show (pre.length : Int) < (l.length : Int) by omega, show (0 : Int) ≤ (pre.length : Int) by omega, ↓reduceIte, laws_eqCloth.f, Option.bind_some, wsuc (show pre.length < l.length by omega) hl]
    exact hnext
theorem eqClothS_ev (l : List S38) (hl : l.length ≤ 1048576) : Ev (fun k => laws_eqClothS.f k l l) true := by
  unfold laws_eqClothS.f
  simp only [↓reduceIte]
  exact eqClothS_l0 l hl l [] rfl
theorem szClothS_eq (l : List S43) (a : Int) (h0 : 0 ≤ a) (h1 : a ≤ 1048576) (hl : l.length ≤ 9223372036854775807) : laws_szClothS.f l a = some (if (l.length : Int) ≤ a then a - (l.length : Int) else -1) := by
  unfold laws_szClothS.f
  have e : wrap64 (a - (l.length : Int)) = a - (l.length : Int) := by unfold wrap64; omega
  rw [e]
  by_cases h : (l.length : Int) ≤ a
  · rw [if_neg (by omega), if_pos h]
  · rw [if_pos (by omega), if_neg h]
theorem l00In_eq (a b c : Int) : spec_l00In.f a b c = some (decide (b ≤ a ∧ a ≤ c)) := by
  unfold spec_l00In.f
  by_cases h : b ≤ a
  · rw [if_pos (show a ≥ b from h)]; simp [h]
  · rw [if_neg (show ¬ a ≥ b from h)]; simp [h]
theorem l02Cloths_l0 (l : List S38) (hs : smallS l) (hl : l.length ≤ 1048576) : ∀ (cs pre : List S38), l = pre ++ cs → Ev (fun k => spec_l02Cloths.l0 k l (pre.length : Int)) (cs.all cloth_ok) := by
  intro cs
  induction cs with
  | nil =>
    intro pre hpre
    refine Ev.step (fun k => by rw [spec_l02Cloths.l0]) ?_
    have : l.length = pre.length := by rw [hpre]; simp
    simp only [show ¬ (pre.length : Int) < (l.length : Int) by omega, ↓reduceIte]
    exact Ev.now _
  | cons c cs ih =>
    intro pre hpre
    have hlen : l.length = pre.length + cs.length + 1 := by rw [hpre]; simp; omega
    have hc : rd_T38 l (pre.length : Int) = c := by rw [hpre]; exact rdm pre c cs
    have hb := hs c (by rw [hpre]; simp)
    have hnext := ih (pre ++ [c]) (by rw [hpre]; simp)
    simp only [List.length_append, List.length_cons, List.length_nil, Nat.zero_add] at hnext
    refine Ev.step (fun k => by rw [spec_l02Cloths.l0]) ?_
    have e0 : wrap64 c.f0 = c.f0 := by unfold wrap64; omega
    have e1 : wrap64 c.f1 = c.f1 := by unfold wrap64; omega
    simp only [show (pre.length : Int) < (l.length : Int) by omega, show (0 : Int) ≤ (pre.length : Int) by omega, ↓reduceIte, hc, e0, e1, l00In_eq, Option.bind_some, decide_eq_true_eq, wsuc (show pre.length < l.length by omega) hl, List.all_cons, cloth_ok]
    by_cases h1 : 4 ≤ c.f0 ∧ c.f0 ≤ 200
    · by_cases h2 : 1 ≤ c.f1 ∧ c.f1 ≤ 500
      · simp only [h1, h2, and_self, ↓reduceIte, decide_true, Bool.true_and]
        exact hnext
      · simp only [h1, h2, and_self, ↓reduceIte, decide_true, decide_false, Bool.true_and, Bool.false_and]
        exact Ev.now _
    · simp only [h1, ↓reduceIte, decide_false, Bool.false_and]
      exact Ev.now _
theorem l02Cloths_ev (l : List S38) (hs : smallS l) (hl : l.length ≤ 1048576) : Ev (fun k => spec_l02Cloths.f k l) (l.all cloth_ok) := by
  unfold spec_l02Cloths.f
  exact l02Cloths_l0 l hs hl l [] rfl
theorem ValidCloths_eq (l : List S38) (hs : smallS l) : impl_ValidCloths.f l = some (l.all cloth_ok) := by
  unfold impl_ValidCloths.f
  rw [if_pos]
  rw [List.all_eq_true]
  intro x hx
  exact decide_eq_true (hs x hx)
theorem firstOf2 (a b : Int) : Ev (fun k => impl_firstOf.f k [a, b]) (if a = 0 then b else a) := by
  unfold impl_firstOf.f
  have e2 : ∀ a b : Int, ((([a, b] : List Int).length : Nat) : Int) = 2 := fun _ _ => rfl
  have w1 : wrap64 (0 + 1) = 1 := by unfold wrap64; omega
  have w2 : wrap64 (1 + 1) = 2 := by unfold wrap64; omega
  have r0 : rd [a, b] 0 = a := by simp [rd]
  have r1 : rd [a, b] 1 = b := by simp [rd]
  refine Ev.step (fun k => by rw [impl_firstOf.l0]) ?_
  simp only [e2, show (0 : Int) < 2 by omega, show (0 : Int) ≤ 0 by omega, ↓reduceIte, r0]
  by_cases ha : a = 0
  · simp only [ha, ↓reduceIte, w1]
    rw [ha] at r1
    refine Ev.step (fun k => by rw [impl_firstOf.l0]) ?_
    simp only [e2, show (1 : Int) < 2 by omega, show (0 : Int) ≤ 1 by omega, ↓reduceIte, r1]
    by_cases hb : b = 0
    · simp only [hb, ↓reduceIte, w2]
      refine Ev.step (fun k => by rw [impl_firstOf.l0]) ?_
      simp only [show ¬ (2 : Int) < 2 by omega, ↓reduceIte]
      exact Ev.now _
    · simp only [hb, ↓reduceIte]
      exact Ev.now _
  · simp only [ha, ↓reduceIte]
    exact Ev.now _
def codeOf (l : List S38) (n : Int) : Int := if l.all cloth_ok = true then (if (l.length : Int) ≤ n then 0 else 3) else 1
theorem clothCode_ev (l : List S38) (hs : smallS l) (n : Int) : Ev (fun k => impl_clothCode.f k l n) (codeOf l n) := by
  unfold impl_clothCode.f
  simp only [ValidCloths_eq l hs, Option.bind_some, impl_unless.f]
  cases h : l.all cloth_ok with
  | false =>
    simp only [Bool.false_eq_true, ↓reduceIte, Option.bind_some]
    by_cases hn : (l.length : Int) ≤ n
    · simp only [hn, decide_true, ↓reduceIte, Option.bind_some]
      exact Ev.bind (firstOf2 1 0) (by simp only [codeOf, h, Bool.false_eq_true, ↓reduceIte, show ¬ (1 : Int) = 0 by omega]; exact Ev.now _)
    · simp only [hn, decide_false, Bool.false_eq_true, ↓reduceIte, Option.bind_some]
      exact Ev.bind (firstOf2 1 3) (by simp only [codeOf, h, Bool.false_eq_true, ↓reduceIte, show ¬ (1 : Int) = 0 by omega]; exact Ev.now _)
  | true =>
    simp only [↓reduceIte, Option.bind_some]
    by_cases hn : (l.length : Int) ≤ n
    · simp only [hn, decide_true, ↓reduceIte, Option.bind_some]
      exact Ev.bind (firstOf2 0 0) (by simp only [codeOf, h, hn, ↓reduceIte]; exact Ev.now _)
    · simp only [hn, decide_false, Bool.false_eq_true, ↓reduceIte, Option.bind_some]
      exact Ev.bind (firstOf2 0 3) (by simp only [codeOf, h, hn, ↓reduceIte]; exact Ev.now _)
theorem l02Many_ev (l : List S38) (hs : smallS l) (hl : l.length ≤ 1048576) (n : Int) : Ev (fun k => spec_l02Many.f k l n) (codeOf l n) := by
  unfold spec_l02Many.f
  refine Ev.bind (l02Cloths_ev l hs hl) ?_
  unfold codeOf
  cases h : l.all cloth_ok with
  | false =>
    simp only [Bool.false_eq_true, ↓reduceIte]
    exact Ev.now _
  | true =>
    simp only [↓reduceIte]
    by_cases hn : (l.length : Int) ≤ n
    · simp only [hn, show ¬ (l.length : Int) > n by omega, ↓reduceIte]
      exact Ev.now _
    · simp only [hn, show (l.length : Int) > n by omega, ↓reduceIte]
      exact Ev.now _
theorem eqInt64S_l0 (l : List Int) (hl : l.length ≤ 1048576) : ∀ (cs pre : List Int), l = pre ++ cs → Ev (fun k => laws_eqInt64S.l0 k l l (pre.length : Int)) true := by
  intro cs
  induction cs with
  | nil =>
    intro pre hpre
    refine Ev.step (fun k => by rw [laws_eqInt64S.l0]) ?_
    have : l.length = pre.length := by rw [hpre]; simp
    simp only [show ¬ (pre.length : Int) < (l.length : Int) by omega, ↓reduceIte]
    exact Ev.now _
  | cons c cs ih =>
    intro pre hpre
    have hlen : l.length = pre.length + cs.length + 1 := by rw [hpre]; simp; omega
    have hnext := ih (pre ++ [c]) (by rw [hpre]; simp)
    simp only [List.length_append, List.length_cons, List.length_nil, Nat.zero_add] at hnext
    refine Ev.step (fun k => by rw [laws_eqInt64S.l0]) ?_
    simp only [show (pre.length : Int) < (l.length : Int) by omega, show (0 : Int) ≤ (pre.length : Int) by omega, ↓reduceIte, wsuc (show pre.length < l.length by omega) hl]
    exact hnext
theorem eqInt64S_ev (l : List Int) (hl : l.length ≤ 1048576) : Ev (fun k => laws_eqInt64S.f k l l) true := by
  unfold laws_eqInt64S.f
  simp only [↓reduceIte]
  exact eqInt64S_l0 l hl l [] rfl
theorem toInt64S_l0 (l : List Int) (hl : l.length ≤ 1048576) : ∀ (cs pre : List Int), l = pre ++ cs →
    Ev (fun k => laws_toInt64S.l0 k l (pre ++ List.replicate cs.length 0) (pre.length : Int)) l := by
  intro cs
  induction cs with
  | nil =>
    intro pre hpre
    refine Ev.step (fun k => by rw [laws_toInt64S.l0]) ?_
    have : l.length = pre.length := by rw [hpre]; simp
    simp only [show ¬ (pre.length : Int) < (l.length : Int) by omega, ↓reduceIte, List.length_nil, List.replicate_zero, List.append_nil]
    rw [show l = pre by rw [hpre]; simp]
    exact Ev.now _
  | cons c cs ih =>
    intro pre hpre
    have hlen : l.length = pre.length + cs.length + 1 := by rw [hpre]; simp; omega
    have hc : rd l (pre.length : Int) = c := by rw [hpre]; exact rdim pre c cs
    have hnext := ih (pre ++ [c]) (by rw [hpre]; simp)
    simp only [List.length_append, List.length_cons, List.length_nil, Nat.zero_add] at hnext
    have hx : (pre.length : Int) < ((pre ++ List.replicate (cs.length + 1) (0 : Int)).length : Int) := by simp; omega
    have hset : (pre ++ List.replicate (cs.length + 1) (0 : Int)).set (pre.length : Int).toNat c = pre ++ [c] ++ List.replicate cs.length 0 := by
      rw [Int.toNat_natCast, List.set_append_right _ _ (Nat.le_refl _), Nat.sub_self, List.replicate_succ, List.set_cons_zero]
      simp
    refine Ev.step (fun k => by rw [laws_toInt64S.l0]) ?_
    simp only [List.length_cons, show (pre.length : Int) < (l.length : Int) by omega, show (0 : Int) ≤ (pre.length : Int) by omega, ↓reduceIte, hc, hx, hset, wsuc (show pre.length < l.length by omega) hl]
    exact hnext
theorem toInt64S_ev (l : List Int) (hl : l.length ≤ 1048576) : Ev (fun k => laws_toInt64S.f k l) l := by
  have := toInt64S_l0 l hl l [] rfl
  unfold laws_toInt64S.f
  simp only [show (0 : Int) ≤ (l.length : Int) by omega, Int.toNat_natCast, show l.length ≤ 35184372088832 by omega, ↓reduceIte]
  exact this
theorem l02In_l0 (l : List S38) (o : List Int) (ho : o.length ≤ 1048576) : ∀ (cs pre : List Int), o = pre ++ cs → inRange l.length cs = true → ∀ x : List S38, x.length = pre.length →
    Ev (fun k => spec_l02In.l0 k l o x (pre.length : Int)) (x ++ pickedB l cs) := by
  intro cs
  induction cs with
  | nil =>
    intro pre hpre hr x hx
    refine Ev.step (fun k => by rw [spec_l02In.l0]) ?_
    have : o.length = pre.length := by rw [hpre]; simp
    simp only [show ¬ (pre.length : Int) < (o.length : Int) by omega, ↓reduceIte]
    rw [show x ++ pickedB l [] = x by simp [pickedB]]
    exact Ev.now _
  | cons c cs ih =>
    intro pre hpre hr x hx
    have hlen : o.length = pre.length + cs.length + 1 := by rw [hpre]; simp; omega
    have hc : rd o (pre.length : Int) = c := by rw [hpre]; exact rdim pre c cs
    rw [inRange, List.all_cons, Bool.and_eq_true, Bool.and_eq_true, decide_eq_true_eq, decide_eq_true_eq] at hr
    obtain ⟨⟨h0, h1⟩, hr⟩ := hr
    have hnext := ih (pre ++ [c]) (by rw [hpre]; simp) hr
    simp only [List.length_append, List.length_cons, List.length_nil, Nat.zero_add] at hnext
    refine Ev.step (fun k => by rw [spec_l02In.l0]) ?_
    simp only [show (pre.length : Int) < (o.length : Int) by omega, show (0 : Int) ≤ (pre.length : Int) by omega, ↓reduceIte, hc, h0, h1, show x.length < 35184372088832 by omega, wsuc (show pre.length < o.length by omega) ho]
    rw [show x ++ pickedB l (c :: cs) = (x ++ [rd_T38 l c]) ++ pickedB l cs by simp [pickedB]]
    exact hnext _ (by simp [hx])
theorem l02In_ev (l : List S38) (o : List Int) (ho : o.length ≤ 1048576) (hr : inRange l.length o = true) : Ev (fun k => spec_l02In.f k l o) (pickedB l o) := by
  unfold spec_l02In.f
  exact l02In_l0 l o ho o [] rfl hr [] rfl
theorem len_strict : ∀ (xs : List Int) (lo hi : Int), xs.Pairwise (· < ·) → (∀ x ∈ xs, lo ≤ x ∧ x < hi) → lo ≤ hi → (xs.length : Int) ≤ hi - lo
  | [], lo, hi, _, _, h => by simp; omega
  | x :: xs, lo, hi, hp, hm, h => by
    rw [List.pairwise_cons] at hp
    have hx := hm x (by simp)
    have := len_strict xs (x + 1) hi hp.2 (fun y hy => ⟨by have := hp.1 y hy; omega, (hm y (by simp [hy])).2⟩) (by omega)
    rw [List.length_cons]
    omega
theorem ordFrom_of : ∀ (xs : List Int) (a : Nat), xs.Pairwise (· < ·) → (∀ x ∈ xs, (a : Int) ≤ x ∧ x < (a : Int) + (xs.length : Int)) → ordFrom xs a = true
  | [], a, _, _ => rfl
  | x :: xs, a, hp, hm => by
    rw [List.pairwise_cons] at hp
    have hx := hm x (by simp)
    rw [List.length_cons] at hx hm
    have hl := len_strict xs (x + 1) ((a : Int) + ((xs.length + 1 : Nat) : Int)) hp.2 (fun y hy => ⟨by have := hp.1 y hy; omega, (hm y (by simp [hy])).2⟩) (by omega)
    have hxa : x = (a : Int) := by omega
    rw [ordFrom, Bool.and_eq_true, decide_eq_true_eq]
    refine ⟨hxa, ordFrom_of xs (a + 1) hp.2 (fun y hy => ?_)⟩
    have h1 := hp.1 y hy
    have h2 := hm y (by simp [hy])
    omega
theorem of_ordFrom : ∀ (xs : List Int) (a : Nat), ordFrom xs a = true → xs.Pairwise (· < ·) ∧ ∀ x ∈ xs, (a : Int) ≤ x ∧ x < (a : Int) + (xs.length : Int)
  | [], a, _ => ⟨List.Pairwise.nil, fun x h => by cases h⟩
  | x :: xs, a, h => by
    rw [ordFrom, Bool.and_eq_true, decide_eq_true_eq] at h
    obtain ⟨h1, h2⟩ := of_ordFrom xs (a + 1) h.2
    refine ⟨List.pairwise_cons.2 ⟨fun y hy => ?_, h1⟩, fun y hy => ?_⟩
    · have := h2 y hy
      have := h.1
      omega
    · rw [List.length_cons]
      rcases List.mem_cons.1 hy with rfl | hy
      · have := h.1; omega
      · have := h2 y hy; omega
theorem srt_perm (l : List Int) : (srt l).Perm l := List.mergeSort_perm l _
theorem srt_le (l : List Int) : (srt l).Pairwise (· ≤ ·) := by
  have := List.pairwise_mergeSort (le := fun x y : Int => decide (x ≤ y)) (by intro a b c; simp only [decide_eq_true_eq]; omega) (by intro a b; simp only [Bool.or_eq_true, decide_eq_true_eq]; omega) l
  exact this.imp (fun h => of_decide_eq_true h)
theorem nodup_take (l : List Int) : (∀ k, k < l.length → ((l.take k).any (· == rd l (k : Int))) = false) ↔ l.Nodup := by
  have hrd : ∀ k (h : k < l.length), rd l (k : Int) = l[k] := fun k h => by simp [rd, List.getD_eq_getElem?_getD, List.getElem?_eq_getElem h]
  rw [List.Nodup, List.pairwise_iff_getElem]
  constructor
  · intro h i j hi hj hij he
    have := h j hj
    rw [hrd j hj, List.any_eq_false] at this
    exact this l[i] (List.mem_take_iff_getElem.2 ⟨i, by omega, rfl⟩) (by simp [he])
  · intro h k hk
    rw [hrd k hk, List.any_eq_false]
    intro x hx hq
    obtain ⟨i, hi, rfl⟩ := List.mem_take_iff_getElem.1 hx
    exact h i k (by omega) hk (by omega) (by simpa using hq)
theorem ok_iff (m : Int) (l : List Int) : (List.range l.length).all (okAt m l) = true ↔ (∀ x ∈ l, 0 ≤ x ∧ x ≤ m) ∧ l.Nodup := by
  have hrd : ∀ k (h : k < l.length), rd l (k : Int) = l[k] := fun k h => by simp [rd, List.getD_eq_getElem?_getD, List.getElem?_eq_getElem h]
  rw [← nodup_take, List.all_eq_true]
  simp only [List.mem_range, okAt, Bool.and_eq_true, decide_eq_true_eq, Bool.not_eq_true']
  constructor
  · intro h
    refine ⟨fun x hx => ?_, fun k hk => (h k hk).2⟩
    obtain ⟨k, hk, rfl⟩ := List.getElem_of_mem hx
    have := (h k hk).1
    rwa [hrd k hk] at this
  · intro h k hk
    refine ⟨?_, h.2 k hk⟩
    rw [hrd k hk]
    exact h.1 _ (List.getElem_mem hk)
def ordOk (n : Nat) (l : List Int) : Bool := ordFrom (srt l) 0 && decide ((l.length : Int) = (n : Int))
theorem orders_same (n : Nat) (hn : n ≤ 1048576) (l : List Int) : ((List.range l.length).all (okAt (wrap64 ((n : Int) - 1)) l) && decide ((l.length : Int) = (n : Int))) = ordOk n l := by
  unfold ordOk
  by_cases hl : l.length = n
  · subst hl
    have hw : wrap64 ((l.length : Int) - 1) = (l.length : Int) - 1 := by unfold wrap64; omega
    rw [hw]
    congr 1
    rw [Bool.eq_iff_iff, ok_iff]
    constructor
    · intro h
      refine ordFrom_of _ _ ?_ (fun x hx => ?_)
      · have h1 := srt_le l
        have h2 : (srt l).Nodup := (srt_perm l).nodup_iff.2 h.2
        exact (h1.and h2).imp (fun h => by have := h.1; have := h.2; omega)
      · rw [srt_len]
        have := h.1 x ((srt_perm l).mem_iff.1 hx)
        omega
    · intro h
      obtain ⟨h1, h2⟩ := of_ordFrom _ _ h
      refine ⟨fun x hx => ?_, (srt_perm l).nodup_iff.1 (h1.imp (fun h => by omega))⟩
      have := h2 x ((srt_perm l).mem_iff.2 hx)
      rw [srt_len] at this
      omega
  · rw [show decide ((l.length : Int) = (n : Int)) = false from decide_eq_false (by omega), Bool.and_false, Bool.and_false]
theorem ordOk_in {n : Nat} {l : List Int} (h : ordOk n l = true) : inRange n l = true ∧ l.length = n := by
  unfold ordOk at h
  rw [Bool.and_eq_true, decide_eq_true_eq] at h
  obtain ⟨_, h2⟩ := of_ordFrom _ _ h.1
  refine ⟨?_, by omega⟩
  unfold inRange
  rw [List.all_eq_true]
  intro x hx
  have := h2 x ((srt_perm l).mem_iff.2 hx)
  rw [srt_len] at this
  simp only [Bool.and_eq_true, decide_eq_true_eq]
  omega
def mk2 (i : Nat) : S38 := ⟨IntKind.i16.wrap ((2 * i + 1 : Nat) : Int), IntKind.i16.wrap ((2 * i + 2 : Nat) : Int)⟩
def mkS (n : Nat) : List S38 := (List.range n).map mk2
theorem mkS_len (n : Nat) : (mkS n).length = n := by simp [mkS]
theorem mkS_succ (n : Nat) : mkS (n + 1) = mkS n ++ [mk2 n] := by simp [mkS, List.range_succ]
theorem mk_rd (n : Nat) (c : S38) (cs : List S38) : rd_T38 (mkS n ++ c :: cs) (n : Int) = c := by have := rdm (mkS n) c cs; rwa [mkS_len] at this
theorem mk_set (n : Nat) (c d : S38) (cs : List S38) : (mkS n ++ c :: cs).set ((n : Int)).toNat d = mkS n ++ d :: cs := by
  rw [Int.toNat_natCast, List.set_append_right _ _ (by rw [mkS_len]; exact Nat.le_refl _), mkS_len, Nat.sub_self, List.set_cons_zero]
theorem markS_l0 : ∀ (cs : List S38) (n : Nat), n + cs.length ≤ 1048576 → Ev (fun k => laws_markClothS.l0 k (mkS n ++ cs) ((2 * n + 1 : Nat) : Int) (n : Int)) (((2 * (n + cs.length) + 1 : Nat) : Int), mkS (n + cs.length)) := by
  intro cs
  induction cs with
  | nil =>
    intro n hn
    refine Ev.step (fun k => by rw [laws_markClothS.l0]) ?_
    simp only [List.append_nil, mkS_len, show ¬ (n : Int) < (n : Int) by omega, ↓reduceIte, List.length_nil, Nat.add_zero]
    exact Ev.now _
  | cons c cs ih =>
    intro n hn
    rw [List.length_cons] at hn
    have hw : wrap64 (((2 * n + 1 : Nat) : Int) + 1) = ((2 * n + 2 : Nat) : Int) := by unfold wrap64; omega
    have hw1 : wrap64 (((2 * n + 2 : Nat) : Int) + 1) = ((2 * (n + 1) + 1 : Nat) : Int) := by unfold wrap64; omega
    have hw0 : wrap64 ((n : Int) + 1) = ((n + 1 : Nat) : Int) := by unfold wrap64; omega
    have hlen : ((mkS n ++ c :: cs).length : Int) = ((n + cs.length + 1 : Nat) : Int) := by rw [List.length_append, mkS_len, List.length_cons]; omega
    have hnext := ih (n + 1) (by omega)
    refine Ev.step (fun k => by rw [laws_markClothS.l0]) ?_
    simp only [hlen, show (n : Int) < ((n + cs.length + 1 : Nat) : Int) by omega, show (0 : Int) ≤ (n : Int) by omega, ↓reduceIte, Option.bind_some, hw, hw1, hw0, mk_rd, mk_set]
    rw [show mkS n ++ (⟨IntKind.i16.wrap ((2 * n + 1 : Nat) : Int), IntKind.i16.wrap ((2 * n + 2 : Nat) : Int)⟩ : S38) :: cs = mkS (n + 1) ++ cs by rw [mkS_succ, List.append_assoc]; rfl, List.length_cons, show n + (cs.length + 1) = n + 1 + cs.length by omega]
    exact hnext
theorem markS_ev (l : List S38) (hl : l.length ≤ 1048576) : Ev (fun k => laws_markClothS.f k l 1) (((2 * l.length + 1 : Nat) : Int), mkS l.length) := by
  unfold laws_markClothS.f
  have := markS_l0 l 0 (by omega)
  simpa [mkS] using this
theorem heldS_l0 (m : Nat) (hm : m ≤ 1048576) : ∀ (d n : Nat), n + d = m → Ev (fun k => laws_heldClothS.l0 k (mkS m) ((2 * n + 1 : Nat) : Int) (n : Int)) ((2 * m + 1 : Nat) : Int) := by
  intro d
  induction d with
  | zero =>
    intro n hn
    refine Ev.step (fun k => by rw [laws_heldClothS.l0]) ?_
    simp only [mkS_len, show ¬ (n : Int) < (m : Int) by omega, ↓reduceIte]
    rw [show n = m by omega]
    exact Ev.now _
  | succ d ih =>
    intro n hn
    have hw : wrap64 (((2 * n + 1 : Nat) : Int) + 1) = ((2 * n + 2 : Nat) : Int) := by unfold wrap64; omega
    have hw1 : wrap64 (((2 * n + 2 : Nat) : Int) + 1) = ((2 * (n + 1) + 1 : Nat) : Int) := by unfold wrap64; omega
    have hw0 : wrap64 ((n : Int) + 1) = ((n + 1 : Nat) : Int) := by unfold wrap64; omega
    have hr : rd_T38 (mkS m) (n : Int) = mk2 n := by simp [rd_T38, mkS, List.getD_eq_getElem?_getD, List.getElem?_map, List.getElem?_range (show n < m by omega)]
    refine Ev.step (fun k => by rw [laws_heldClothS.l0]) ?_
    simp only [mkS_len, show (n : Int) < (m : Int) by omega, show (0 : Int) ≤ (n : Int) by omega, ↓reduceIte, hr, mk2, hw, hw1, hw0]
    exact ih (n + 1) (by omega)
theorem heldS_ev (m : Nat) (hm : m ≤ 1048576) : Ev (fun k => laws_heldClothS.f k (mkS m) 1) ((2 * m + 1 : Nat) : Int) := by
  unfold laws_heldClothS.f
  have := heldS_l0 m hm m 0 (by omega)
  simpa using this
theorem markI_l0 (s : Nat) (hs : s ≤ 4194304) : ∀ (d n : Nat) (l : List Int), l.length = n + d → n + d ≤ 1048576 → ∃ r : List Int, Ev (fun k => laws_markInt64S.l0 k l ((s + n : Nat) : Int) (n : Int)) (((s + (n + d) : Nat) : Int), r) := by
  intro d
  induction d with
  | zero =>
    intro n l hl hn
    refine ⟨l, Ev.step (fun k => by rw [laws_markInt64S.l0]) ?_⟩
    simp only [show ¬ (n : Int) < (l.length : Int) by omega, ↓reduceIte, Nat.add_zero]
    exact Ev.now _
  | succ d ih =>
    intro n l hl hn
    have hw : wrap64 (((s + n : Nat) : Int) + 1) = ((s + (n + 1) : Nat) : Int) := by unfold wrap64; omega
    have hw0 : wrap64 ((n : Int) + 1) = ((n + 1 : Nat) : Int) := by unfold wrap64; omega
    obtain ⟨r, hr⟩ := ih (n + 1) (l.set (n : Int).toNat ((s + n : Nat) : Int)) (by simp; omega) (by omega)
    refine ⟨r, Ev.step (fun k => by rw [laws_markInt64S.l0]) ?_⟩
    simp only [show (n : Int) < (l.length : Int) by omega, show (0 : Int) ≤ (n : Int) by omega, ↓reduceIte, hw, hw0]
    rw [show n + (d + 1) = n + 1 + d by omega]
    exact hr
theorem markI_ev (s : Nat) (hs : s ≤ 4194304) (l : List Int) (hl : l.length ≤ 1048576) : ∃ r : List Int, Ev (fun k => laws_markInt64S.f k l (s : Int)) (((s + l.length : Nat) : Int), r) := by
  unfold laws_markInt64S.f
  have := markI_l0 s hs l.length 0 l (by omega) (by omega)
  simpa using this
theorem unless_eq (b : Bool) (c : Int) : impl_unless.f b c = some (if b = true then 0 else c) := by
  unfold impl_unless.f
  cases b <;> rfl
def ioR (l : List S38) (o : List Int) : List S38 × Int := if codeOf l 100 = 0 then (if ordOk l.length o = true then (pickedB l o, 0) else ([], 4)) else ([], codeOf l 100)
theorem ioR_len (l : List S38) (o : List Int) (ho : o.length ≤ 1048576) : (ioR l o).1.length ≤ 1048576 := by
  unfold ioR
  split
  · split
    · simpa [pickedB] using ho
    · simp
  · simp
theorem impl_io (l : List S38) (hs : smallS l) (o : List Int) (ho : o.length ≤ 1048576) : Ev (fun k => impl_InOrder.f k l o) (ioR l o) := by
  have hi : impl_isOrder.f o (l.length : Int) = some (ordOk l.length o) := by unfold impl_isOrder.f; rw [if_pos ho]; rfl
  unfold impl_InOrder.f ioR
  refine Ev.bind (clothCode_ev l hs 100) ?_
  simp only [hi, unless_eq, Option.bind_some]
  refine Ev.bind (firstOf2 _ _) ?_
  by_cases hc : codeOf l 100 = 0
  · simp only [hc, ↓reduceIte]
    cases hq : ordOk l.length o with
    | true =>
      have hw : impl_picked_impl_Clothw.f l o = some (pickedB l o) := by unfold impl_picked_impl_Clothw.f; rw [if_pos ⟨ho, (ordOk_in hq).1⟩]
      simp only [↓reduceIte, hw, Option.bind_some]
      exact Ev.now _
    | false =>
      simp only [Bool.false_eq_true, ↓reduceIte, show ¬ (4 : Int) = 0 by decide]
      exact Ev.now _
  · simp only [hc, ↓reduceIte]
    exact Ev.now _
theorem spec_io (l : List S38) (hs : smallS l) (hl : l.length ≤ 1048576) (o : List Int) (ho : o.length ≤ 1048576) : Ev (fun k => spec_InOrder.f k l o) (ioR l o) := by
  have hi : spec_l02Order.f (l.length : Int) o = some (ordOk l.length o) := by unfold spec_l02Order.f; rw [if_pos ho, orders_same _ hl]
  unfold spec_InOrder.f ioR
  refine Ev.bind (l02Many_ev l hs hl 100) ?_
  by_cases hc : codeOf l 100 = 0
  · simp only [hc, ↓reduceIte, hi, Option.bind_some]
    cases hq : ordOk l.length o with
    | true =>
      refine Ev.step (fun k => by rw [spec_InOrder.j0]) ?_
      simp only [Bool.not_true, Bool.false_eq_true, ↓reduceIte]
      exact Ev.bind (l02In_ev l o ho (ordOk_in hq).1) (Ev.now _)
    | false =>
      refine Ev.step (fun k => by rw [spec_InOrder.j0]) ?_
      simp only [Bool.not_false, Bool.false_eq_true, ↓reduceIte]
      exact Ev.now _
  · simp only [hc, ↓reduceIte]
    refine Ev.step (fun k => by rw [spec_InOrder.j0]) ?_
    simp only [Bool.false_eq_true, ↓reduceIte, hc]
    exact Ev.now _
theorem FnExactInOrder (l0 : List S43) (l1 : List Int) (y0 : l0.length ≤ 9223372036854775807) (w0 : ∀ x ∈ l0, (Lit.int .i16 x.f0).wf = true ∧ (Lit.int .i16 x.f1).wf = true) (y1 : l1.length ≤ 9223372036854775807) (w1 : ∀ x ∈ l1, (Lit.int .i64 x).wf = true) : ∃ k, laws_FnExactInOrder.f k l0 l1 = some true := by
  refine Ev.rounds ?_
  unfold laws_FnExactInOrder.f
  by_cases hl1 : (l1.length : Int) > 1048576
  · simp only [hl1, ↓reduceIte]
    exact Ev.now _
  simp only [hl1, ↓reduceIte, szClothS_eq l0 1048576 (by omega) (by omega) y0, Option.bind_some]
  have ho : l1.length ≤ 1048576 := by omega
  by_cases hl : (l0.length : Int) ≤ 1048576
  · simp only [hl, ↓reduceIte, show ¬ (1048576 - (l0.length : Int) < 0) by omega]
    have hl' : l0.length ≤ 1048576 := by omega
    have hs := toS_small w0
    have hlS : (toS l0).length ≤ 1048576 := by rw [toS_len]; exact hl'
    have hR := ioR_len (toS l0) l1 ho
    refine Ev.bind (toClothS_ev l0 hl') ?_
    refine Ev.bind (toInt64S_ev l1 ho) ?_
    refine Ev.bind (spec_io _ hs hlS l1 ho) ?_
    refine Ev.bind (toClothS_ev l0 hl') ?_
    refine Ev.bind (toInt64S_ev l1 ho) ?_
    refine Ev.bind (impl_io _ hs l1 ho) ?_
    refine Ev.bind (eqClothS_ev _ hR) ?_
    simp only [↓reduceIte, bne_self_eq_false]
    refine Ev.step (fun k => by rw [laws_FnExactInOrder.j0]) ?_
    simp only [Bool.false_eq_true, ↓reduceIte]
    refine Ev.bind (toClothS_ev l0 hl') ?_
    refine Ev.bind (eqClothS_ev _ hlS) ?_
    simp only [↓reduceIte]
    refine Ev.bind (toInt64S_ev l1 ho) ?_
    refine Ev.bind (eqInt64S_ev _ ho) ?_
    simp only [↓reduceIte]
    refine Ev.bind (markS_ev (toS l0) hlS) ?_
    obtain ⟨r, hr⟩ := markI_ev (2 * (toS l0).length + 1) (by omega) l1 ho
    refine Ev.bind hr ?_
    simp only [show ∀ n : Nat, ¬ (n : Int) < 0 by intro n; omega, ↓reduceIte]
    refine Ev.bind (eqClothS_ev _ hR) ?_
    simp only [↓reduceIte, bne_self_eq_false]
    refine Ev.step (fun k => by rw [laws_FnExactInOrder.j1]) ?_
    simp only [Bool.false_eq_true, ↓reduceIte]
    refine Ev.bind (markS_ev _ hR) ?_
    refine Ev.bind (heldS_ev _ hR) ?_
    simp only [show ∀ n : Nat, ¬ (n : Int) < 0 by intro n; omega, ↓reduceIte]
    refine Ev.bind (toClothS_ev l0 hl') ?_
    refine Ev.bind (toInt64S_ev l1 ho) ?_
    refine Ev.bind (impl_io _ hs l1 ho) ?_
    refine Ev.bind (eqClothS_ev _ hR) ?_
    simp only [↓reduceIte, bne_self_eq_false]
    refine Ev.step (fun k => by rw [laws_FnExactInOrder.j2]) ?_
    simp only [Bool.false_eq_true, ↓reduceIte]
    refine Ev.bind (heldS_ev _ hR) ?_
    simp only [show ∀ n : Nat, ¬ (n : Int) < 0 by intro n; omega, ↓reduceIte]
    exact Ev.now _
  · simp only [hl, ↓reduceIte, show (-1 : Int) < 0 by omega]
    exact Ev.now _
end Go.Proofs.Ytlkpgpnieodifaa.Pure
