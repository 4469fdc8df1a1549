/- The plain law of FnExactSameGarments. -/
import Derived.Test.YthodfhcaaidnmaaM3
import Derived.OpenShut
namespace Go.Proofs.Ythodfhcaaidnmaa.Pure
set_option linter.unusedSimpArgs false
set_option linter.unusedVariables false
open Go.RowKit Go.Proofs.Ythodfhcaaidnmaa.M Go.Proofs.YthodfhcaaidnmaaW.PrintWords Go.Proofs.YthodfhcaaidnmaaW.PrintLast Go.Proofs.YthodfhcaaidnmaaW.PrintMore
theorem rdm (pre : List S37) (c : S37) (cs : List S37) : rd_T37 (pre ++ c :: cs) (pre.length : Int) = c := by simp [rd_T37, List.getD_eq_getElem?_getD]
theorem rdim (pre : List Int) (c : Int) (cs : List Int) : rd (pre ++ c :: cs) (pre.length : Int) = c := by simp [rd, List.getD_eq_getElem?_getD]
theorem wsuc {i n : Nat} (h : i < n) (hn : n ≤ 1048576) : wrap64 ((i : Int) + 1) = ((i + 1 : Nat) : Int) := by unfold wrap64; omega
def toS (l : List S32) : List S37 := l.map fun x => ⟨x.f0, x.f1, x.f2, x.f3⟩
theorem toS_len (l : List S32) : (toS l).length = l.length := by simp [toS]
theorem rdL_mid (pre : List S32) (c : S32) (cs : List S32) : rd_T32 (pre ++ c :: cs) (pre.length : Int) = c := by simp [rd_T32, List.getD_eq_getElem?_getD]
theorem toGarmentS_l0 (l : List S32) (hl : l.length ≤ 1048576) : ∀ (cs pre : List S32), l = pre ++ cs →
    Ev (fun k => laws_toGarmentS.l0 k l (toS pre ++ List.replicate cs.length z37) (pre.length : Int)) (toS l) := by
  intro cs
  induction cs with
  | nil =>
    intro pre hpre
    refine Ev.step (fun k => by rw [laws_toGarmentS.l0]) ?_
    have : l.length = pre.length := by rw [hpre]; simp
    simp only [show ¬ (pre.length : Int) < (l.length : Int) by omega, ↓reduceIte]
    rw [show l = pre by rw [hpre]; simp]
    simp only [List.length_nil, List.replicate_zero, List.append_nil]
    exact Ev.now _
  | cons c cs ih =>
    intro pre hpre
    have hlen : l.length = pre.length + cs.length + 1 := by rw [hpre]; simp; omega
    have hc : rd_T32 l (pre.length : Int) = c := by rw [hpre]; exact rdL_mid pre c cs
    have hnext := ih (pre ++ [c]) (by rw [hpre]; simp)
    simp only [List.length_append, List.length_cons, List.length_nil, Nat.zero_add] at hnext
    have hx : (pre.length : Int) < ((toS pre ++ List.replicate (cs.length + 1) z37).length : Int) := by simp [toS]; omega
    have hset : (toS pre ++ List.replicate (cs.length + 1) z37).set (pre.length : Int).toNat (⟨c.f0, c.f1, c.f2, c.f3⟩ : S37) = toS (pre ++ [c]) ++ List.replicate cs.length z37 := by
      rw [Int.toNat_natCast, List.set_append_right _ _ (by simp [toS]), toS_len, Nat.sub_self, List.replicate_succ, List.set_cons_zero]
      simp [toS]
    refine Ev.step (fun k => by rw [laws_toGarmentS.l0]) ?_
    simp only [List.length_cons, show (pre.length : Int) < (l.length : Int) by omega, show (0 : Int) ≤ (pre.length : Int) by omega, ↓reduceIte, hc, laws_toGarment.f, Option.bind_some, hx, hset, wsuc (show pre.length < l.length by omega) hl]
    exact hnext
theorem toGarmentS_ev (l : List S32) (hl : l.length ≤ 1048576) : Ev (fun k => laws_toGarmentS.f k l) (toS l) := by
  have := toGarmentS_l0 l hl l [] rfl
  unfold laws_toGarmentS.f
  simp only [show (0 : Int) ≤ (l.length : Int) by omega, Int.toNat_natCast, show l.length ≤ 46912496118442 by omega, ↓reduceIte]
  exact this
theorem eqGarmentS_l0 (l : List S37) (hl : l.length ≤ 1048576) : ∀ (cs pre : List S37), l = pre ++ cs → Ev (fun k => laws_eqGarmentS.l0 k l l (pre.length : Int)) true := by
  intro cs
  induction cs with
  | nil =>
    intro pre hpre
    refine Ev.step (fun k => by rw [laws_eqGarmentS.l0]) ?_
    have : l.length = pre.length := by rw [hpre]; simp
    simp only [show ¬ (pre.length : Int) < (l.length : Int) by omega, ↓reduceIte]
    exact Ev.now _
  | cons c cs ih =>
    intro pre hpre
    have hlen : l.length = pre.length + cs.length + 1 := by rw [hpre]; simp; omega
    have hnext := ih (pre ++ [c]) (by rw [hpre]; simp)
    simp only [List.length_append, List.length_cons, List.length_nil, Nat.zero_add] at hnext
    refine Ev.step (fun k => by rw [laws_eqGarmentS.l0]) ?_
    simp only [show (pre.length : Int) < (l.length : Int) by omega, show (0 : Int) ≤ (pre.length : Int) by omega, ↓reduceIte, laws_eqGarment.f, Option.bind_some, wsuc (show pre.length < l.length by omega) hl]
    exact hnext
theorem eqGarmentS_ev (l : List S37) (hl : l.length ≤ 1048576) : Ev (fun k => laws_eqGarmentS.f k l l) true := by
  unfold laws_eqGarmentS.f
  simp only [↓reduceIte]
  exact eqGarmentS_l0 l hl l [] rfl
theorem szGarmentS_eq (l : List S32) (a : Int) (h0 : 0 ≤ a) (h1 : a ≤ 1048576) (hl : l.length ≤ 9223372036854775807) : laws_szGarmentS.f l a = some (if (l.length : Int) ≤ a then a - (l.length : Int) else -1) := by
  unfold laws_szGarmentS.f
  have e : wrap64 (a - (l.length : Int)) = a - (l.length : Int) := by unfold wrap64; omega
  rw [e]
  by_cases h : (l.length : Int) ≤ a
  · rw [if_neg (by omega), if_pos h]
  · rw [if_pos (by omega), if_neg h]
def neqS (x y : S37) : Bool := !((x.f0) == (y.f0)) || (!((x.f1) == (y.f1)) || (!((x.f2) == (y.f2)) || (!((x.f3) == (y.f3)))))
def sameFrom : List S37 → List S37 → Bool
  | x :: xs, y :: ys => if neqS x y = true then false else sameFrom xs ys
  | _, _ => true
def sameS (a b : List S37) : Bool := if a.length = b.length then sameFrom a b else false
theorem same_spec_l0 (a b : List S37) (ha : a.length ≤ 1048576) (hab : a.length = b.length) : ∀ (xs pre : List S37) (ys qre : List S37), a = pre ++ xs → b = qre ++ ys → pre.length = qre.length → Ev (fun k => spec_SameGarments.l0 k a b (pre.length : Int)) (sameFrom xs ys) := by
  intro xs
  induction xs with
  | nil =>
    intro pre ys qre hpre hqre hq
    refine Ev.step (fun k => by rw [spec_SameGarments.l0]) ?_
    have : a.length = pre.length := by rw [hpre]; simp
    simp only [show ¬ (pre.length : Int) < (a.length : Int) by omega, ↓reduceIte]
    rw [show sameFrom [] ys = true by cases ys <;> rfl]
    exact Ev.now _
  | cons x xs ih =>
    intro pre ys qre hpre hqre hq
    have hlen : a.length = pre.length + xs.length + 1 := by rw [hpre]; simp; omega
    match ys, hqre with
    | [], hqre => have : b.length = qre.length := by rw [hqre]; simp
                  omega
    | y :: ys, hqre =>
      have hc : rd_T37 a (pre.length : Int) = x := by rw [hpre]; exact rdm pre x xs
      have hd : rd_T37 b (pre.length : Int) = y := by rw [hqre, hq]; exact rdm qre y ys
      have hnext := ih (pre ++ [x]) ys (qre ++ [y]) (by rw [hpre]; simp) (by rw [hqre]; simp) (by simp [hq])
      simp only [List.length_append, List.length_cons, List.length_nil, Nat.zero_add] at hnext
      refine Ev.step (fun k => by rw [spec_SameGarments.l0]) ?_
      simp only [show (pre.length : Int) < (a.length : Int) by omega, show (0 : Int) ≤ (pre.length : Int) by omega, show (pre.length : Int) < (b.length : Int) by omega, ↓reduceIte, hc, hd, wsuc (show pre.length < a.length by omega) ha]
      rw [sameFrom]
      change Ev (fun k => if neqS x y = true then some false else _) _
      cases h : neqS x y with
      | true => simp only [↓reduceIte]; exact Ev.now _
      | false => simp only [Bool.false_eq_true, ↓reduceIte]; exact hnext
theorem same_spec (a b : List S37) (ha : a.length ≤ 1048576) : Ev (fun k => spec_SameGarments.f k a b) (sameS a b) := by
  unfold spec_SameGarments.f sameS
  by_cases h : a.length = b.length
  · simp only [h, ↓reduceIte]
    exact same_spec_l0 a b ha h a [] b [] rfl rfl rfl
  · simp only [h, show ¬ (a.length : Int) = (b.length : Int) by omega, ↓reduceIte]
    exact Ev.now _
theorem same_impl_l0 (a b : List S37) (ha : a.length ≤ 1048576) (hab : a.length = b.length) : ∀ (xs pre : List S37) (ys qre : List S37), a = pre ++ xs → b = qre ++ ys → pre.length = qre.length → Ev (fun k => slices_Equal_impl_Garment.l0 k a b (a.length : Int) (pre.length : Int)) (sameFrom xs ys) := by
  intro xs
  induction xs with
  | nil =>
    intro pre ys qre hpre hqre hq
    refine Ev.step (fun k => by rw [slices_Equal_impl_Garment.l0]) ?_
    have : a.length = pre.length := by rw [hpre]; simp
    simp only [show ¬ (pre.length : Int) < (a.length : Int) by omega, ↓reduceIte]
    rw [show sameFrom [] ys = true by cases ys <;> rfl]
    exact Ev.now _
  | cons x xs ih =>
    intro pre ys qre hpre hqre hq
    have hlen : a.length = pre.length + xs.length + 1 := by rw [hpre]; simp; omega
    match ys, hqre with
    | [], hqre => have : b.length = qre.length := by rw [hqre]; simp
                  omega
    | y :: ys, hqre =>
      have hc : rd_T37 a (pre.length : Int) = x := by rw [hpre]; exact rdm pre x xs
      have hd : rd_T37 b (pre.length : Int) = y := by rw [hqre, hq]; exact rdm qre y ys
      have hnext := ih (pre ++ [x]) ys (qre ++ [y]) (by rw [hpre]; simp) (by rw [hqre]; simp) (by simp [hq])
      simp only [List.length_append, List.length_cons, List.length_nil, Nat.zero_add] at hnext
      refine Ev.step (fun k => by rw [slices_Equal_impl_Garment.l0]) ?_
      simp only [show (pre.length : Int) < (a.length : Int) by omega, show (0 : Int) ≤ (pre.length : Int) by omega, show (pre.length : Int) < (b.length : Int) by omega, ↓reduceIte, hc, hd, wsuc (show pre.length < a.length by omega) ha]
      rw [sameFrom]
      change Ev (fun k => if neqS x y = true then some false else _) _
      cases h : neqS x y with
      | true => simp only [↓reduceIte]; exact Ev.now _
      | false => simp only [Bool.false_eq_true, ↓reduceIte]; exact hnext
theorem same_impl (a b : List S37) (ha : a.length ≤ 1048576) : Ev (fun k => impl_SameGarments.f k a b) (sameS a b) := by
  unfold impl_SameGarments.f slices_Equal_impl_Garment.f
  refine Ev.bind (r := sameS a b) ?_ (Ev.now _)
  unfold sameS
  by_cases h : a.length = b.length
  · simp only [h, ↓reduceIte]
    rw [← h]
    exact same_impl_l0 a b ha h a [] b [] rfl rfl rfl
  · simp only [h, show ¬ (a.length : Int) = (b.length : Int) by omega, ↓reduceIte]
    exact Ev.now _
theorem FnExactSameGarments (l0 : List S32) (l1 : List S32) (y0 : l0.length ≤ 9223372036854775807) (w0 : ∀ x ∈ l0, (Lit.int .u8 x.f0).wf = true ∧ (Lit.int .i8 x.f1).wf = true ∧ (Lit.int .i8 x.f2).wf = true ∧ (Lit.int .i16 x.f3).wf = true) (y1 : l1.length ≤ 9223372036854775807) (w1 : ∀ x ∈ l1, (Lit.int .u8 x.f0).wf = true ∧ (Lit.int .i8 x.f1).wf = true ∧ (Lit.int .i8 x.f2).wf = true ∧ (Lit.int .i16 x.f3).wf = true) : ∃ k, laws_FnExactSameGarments.f k l0 l1 = some true := by
  refine Ev.rounds ?_
  unfold laws_FnExactSameGarments.f
  simp only [szGarmentS_eq l0 1048576 (by omega) (by omega) y0, Option.bind_some]
  by_cases hl : (l0.length : Int) ≤ 1048576
  · simp only [hl, ↓reduceIte, show ¬ (1048576 - (l0.length : Int) < 0) by omega, szGarmentS_eq l1 (1048576 - (l0.length : Int)) (by omega) (by omega) y1, Option.bind_some]
    by_cases hl1 : (l1.length : Int) ≤ 1048576 - (l0.length : Int)
    · simp only [hl1, ↓reduceIte, show ¬ (1048576 - (l0.length : Int) - (l1.length : Int) < 0) by omega]
      have h0 : l0.length ≤ 1048576 := by omega
      have h1 : l1.length ≤ 1048576 := by omega
      have s0 : (toS l0).length ≤ 1048576 := by rw [toS_len]; exact h0
      have s1 : (toS l1).length ≤ 1048576 := by rw [toS_len]; exact h1
      refine Ev.bind (toGarmentS_ev l0 h0) ?_
      refine Ev.bind (toGarmentS_ev l1 h1) ?_
      refine Ev.bind (same_spec _ _ s0) ?_
      refine Ev.bind (toGarmentS_ev l0 h0) ?_
      refine Ev.bind (toGarmentS_ev l1 h1) ?_
      refine Ev.bind (same_impl _ _ s0) ?_
      simp only [bne_self_eq_false, Bool.false_eq_true, ↓reduceIte]
      refine Ev.bind (toGarmentS_ev l0 h0) ?_
      refine Ev.bind (eqGarmentS_ev _ s0) ?_
      simp only [↓reduceIte]
      refine Ev.bind (toGarmentS_ev l1 h1) ?_
      refine Ev.bind (eqGarmentS_ev _ s1) ?_
      simp only [↓reduceIte]
      exact Ev.now _
    · simp only [hl1, ↓reduceIte, show (-1 : Int) < 0 by omega]
      exact Ev.now _
  · simp only [hl, ↓reduceIte, show (-1 : Int) < 0 by omega]
    exact Ev.now _
end Go.Proofs.Ythodfhcaaidnmaa.Pure
