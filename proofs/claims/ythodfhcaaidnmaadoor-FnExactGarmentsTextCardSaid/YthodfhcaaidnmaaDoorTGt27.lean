/- Words and walks for the law FnExactGarmentsText. -/
import Derived.Test.YthodfhcaaidnmaaDoorTGt26
import Derived.OpenShut
namespace Go.Proofs.YthodfhcaaidnmaaDoor.Pure
set_option linter.unusedSimpArgs false
set_option linter.unusedVariables false
open Go.RowKit Go.Proofs.YthodfhcaaidnmaaDoor.Gt Go.Proofs.YthodfhcaaidnmaaDoorW.PrintWords Go.Proofs.YthodfhcaaidnmaaDoorW.PrintLast Go.Proofs.YthodfhcaaidnmaaDoorW.PrintMore
theorem rdm (pre : List S44) (c : S44) (cs : List S44) : rd_T44 (pre ++ c :: cs) (pre.length : Int) = c := by simp [rd_T44, List.getD_eq_getElem?_getD]
theorem rdim (pre : List Int) (c : Int) (cs : List Int) : rd (pre ++ c :: cs) (pre.length : Int) = c := by simp [rd, List.getD_eq_getElem?_getD]
theorem wsuc {i n : Nat} (h : i < n) (hn : n ≤ 1048576) : wrap64 ((i : Int) + 1) = ((i + 1 : Nat) : Int) := by unfold wrap64; omega
theorem l00In_eq (a b c : Int) : spec_l00In.f a b c = some (decide (b ≤ a ∧ a ≤ c)) := by
  unfold spec_l00In.f
  by_cases h : b ≤ a
  · rw [if_pos (show a ≥ b from h)]; simp [h]
  · rw [if_neg (show ¬ a ≥ b from h)]; simp [h]
theorem unless_eq (b : Bool) (c : Int) : impl_unless.f b c = some (if b = true then 0 else c) := by
  unfold impl_unless.f
  cases b <;> rfl
def firstL : List Int → Int
  | [] => 0
  | c :: cs => if c = 0 then firstL cs else c
theorem firstOf_l0 (l : List Int) (hl : l.length ≤ 1048576) : ∀ (cs pre : List Int), l = pre ++ cs → Ev (fun k => impl_firstOf.l0 k l (l.length : Int) (pre.length : Int)) (firstL cs) := by
  intro cs
  induction cs with
  | nil =>
    intro pre hpre
    refine Ev.step (fun k => by rw [impl_firstOf.l0]) ?_
    have : l.length = pre.length := by rw [hpre]; simp
    simp only [show ¬ (pre.length : Int) < (l.length : Int) by omega, ↓reduceIte]
    exact Ev.now _
  | cons c cs ih =>
    intro pre hpre
    have hlen : l.length = pre.length + cs.length + 1 := by rw [hpre]; simp; omega
    have hc : rd l (pre.length : Int) = c := by rw [hpre]; exact rdim pre c cs
    have hnext := ih (pre ++ [c]) (by rw [hpre]; simp)
    simp only [List.length_append, List.length_cons, List.length_nil, Nat.zero_add] at hnext
    refine Ev.step (fun k => by rw [impl_firstOf.l0]) ?_
    simp only [show (pre.length : Int) < (l.length : Int) by omega, show (0 : Int) ≤ (pre.length : Int) by omega, ↓reduceIte, hc, wsuc (show pre.length < l.length by omega) hl]
    rw [firstL]
    by_cases h0 : c = 0
    · simp only [h0, ↓reduceIte]
      exact hnext
    · simp only [h0, ↓reduceIte]
      exact Ev.now _
theorem firstOf_ev (l : List Int) (hl : l.length ≤ 1048576) : Ev (fun k => impl_firstOf.f k l) (firstL l) := by
  unfold impl_firstOf.f
  exact firstOf_l0 l hl l [] rfl
def toS (l : List S89) : List S44 := l.map fun x => ⟨x.f0, x.f1, x.f2, x.f3⟩
theorem toS_len (l : List S89) : (toS l).length = l.length := by simp [toS]
theorem rdL_mid (pre : List S89) (c : S89) (cs : List S89) : rd_T89 (pre ++ c :: cs) (pre.length : Int) = c := by simp [rd_T89, List.getD_eq_getElem?_getD]
theorem toGarmentS_l0 (l : List S89) (hl : l.length ≤ 1048576) : ∀ (cs pre : List S89), l = pre ++ cs →
    Ev (fun k => laws_toGarmentS.l0 k l (toS pre ++ List.replicate cs.length z44) (pre.length : Int)) (toS l) := by
  intro cs
  induction cs with
  | nil =>
    intro pre hpre
    refine Ev.step (fun k => by rw [laws_toGarmentS.l0]) ?_
    have : l.length = pre.length := by rw [hpre]; simp
    simp only [show ¬ (pre.length : Int) < (l.length : Int) by omega, ↓reduceIte]
    rw [show l = pre by rw [hpre]; simp]
    simp only [List.length_nil, List.replicate_zero, List.append_nil]
    exact Ev.now _
  | cons c cs ih =>
    intro pre hpre
    have hlen : l.length = pre.length + cs.length + 1 := by rw [hpre]; simp; omega
    have hc : rd_T89 l (pre.length : Int) = c := by rw [hpre]; exact rdL_mid pre c cs
    have hnext := ih (pre ++ [c]) (by rw [hpre]; simp)
    simp only [List.length_append, List.length_cons, List.length_nil, Nat.zero_add] at hnext
    have hx : (pre.length : Int) < ((toS pre ++ List.replicate (cs.length + 1) z44).length : Int) := by simp [toS]; omega
    have hset : (toS pre ++ List.replicate (cs.length + 1) z44).set (pre.length : Int).toNat (⟨c.f0, c.f1, c.f2, c.f3⟩ : S44) = toS (pre ++ [c]) ++ List.replicate cs.length z44 := by
      rw [Int.toNat_natCast, List.set_append_right _ _ (by simp [toS]), toS_len, Nat.sub_self, List.replicate_succ, List.set_cons_zero]
      simp [toS]
    refine Ev.step (fun k => by rw [laws_toGarmentS.l0]) ?_
    simp only [List.length_cons, show (pre.length : Int) < (l.length : Int) by omega, show (0 : Int) ≤ (pre.length : Int) by omega, ↓reduceIte, hc, laws_toGarment.f, Option.bind_some, hx, hset, wsuc (show pre.length < l.length by omega) hl]
    exact hnext
theorem toGarmentS_ev (l : List S89) (hl : l.length ≤ 1048576) : Ev (fun k => laws_toGarmentS.f k l) (toS l) := by
  have := toGarmentS_l0 l hl l [] rfl
  unfold laws_toGarmentS.f
  simp only [show (0 : Int) ≤ (l.length : Int) by omega, Int.toNat_natCast, show l.length ≤ 46912496118442 by omega, ↓reduceIte]
  exact this
theorem eqGarmentS_l0 (l : List S44) (hl : l.length ≤ 1048576) : ∀ (cs pre : List S44), l = pre ++ cs → Ev (fun k => laws_eqGarmentS.l0 k l l (pre.length : Int)) true := by
  intro cs
  induction cs with
  | nil =>
    intro pre hpre
    refine Ev.step (fun k => by rw [laws_eqGarmentS.l0]) ?_
    have : l.length = pre.length := by rw [hpre]; simp
    simp only [show ¬ (pre.length : Int) < (l.length : Int) by omega, ↓reduceIte]
    exact Ev.now _
  | cons c cs ih =>
    intro pre hpre
    have hlen : l.length = pre.length + cs.length + 1 := by rw [hpre]; simp; omega
    have hnext := ih (pre ++ [c]) (by rw [hpre]; simp)
    simp only [List.length_append, List.length_cons, List.length_nil, Nat.zero_add] at hnext
    refine Ev.step (fun k => by rw [laws_eqGarmentS.l0]) ?_
    simp only [show (pre.length : Int) < (l.length : Int) by omega, show (0 : Int) ≤ (pre.length : Int) by omega, ↓reduceIte, laws_eqGarment.f, Option.bind_some, wsuc (show pre.length < l.length by omega) hl]
    exact hnext
theorem eqGarmentS_ev (l : List S44) (hl : l.length ≤ 1048576) : Ev (fun k => laws_eqGarmentS.f k l l) true := by
  unfold laws_eqGarmentS.f
  simp only [↓reduceIte]
  exact eqGarmentS_l0 l hl l [] rfl
theorem szGarmentS_eq (l : List S89) (a : Int) (h0 : 0 ≤ a) (h1 : a ≤ 1048576) (hl : l.length ≤ 9223372036854775807) : laws_szGarmentS.f l a = some (if (l.length : Int) ≤ a then a - (l.length : Int) else -1) := by
  unfold laws_szGarmentS.f
  have e : wrap64 (a - (l.length : Int)) = a - (l.length : Int) := by unfold wrap64; omega
  rw [e]
  by_cases h : (l.length : Int) ≤ a
  · rw [if_neg (by omega), if_pos h]
  · rw [if_pos (by omega), if_neg h]
theorem toS_small {l : List S89} (w : ∀ x ∈ l, (Lit.int .u8 x.f0).wf = true ∧ (Lit.int .i8 x.f1).wf = true ∧ (Lit.int .i8 x.f2).wf = true ∧ (Lit.int .i16 x.f3).wf = true) : (toS l).all gsm = true := by
  rw [List.all_eq_true]
  intro x hx
  obtain ⟨y, hy, rfl⟩ := List.mem_map.mp hx
  have h0 := bounds_u8 (w y hy).1
  have h1 := bounds_i8 (w y hy).2.1
  have h2 := bounds_i8 (w y hy).2.2.1
  have h3 := bounds_i16 (w y hy).2.2.2
  exact decide_eq_true ⟨h0.1, h0.2, h1.1, h1.2, h2.1, h2.2, h3.1, h3.2⟩
theorem garment_eq (x : S44) (h : gsm x = true) : spec_l01Garment.f x.f0 x.f1 x.f2 x.f3 = some (gok x) := by
  obtain ⟨h0, h0', h1, h1', h2, h2', h3, h3'⟩ := of_decide_eq_true h
  have e3 : wrap64 x.f3 = x.f3 := by unfold wrap64; omega
  unfold spec_l01Garment.f gok
  rw [l00In_eq, e3]
  by_cases q0 : x.f0 < 6 <;> by_cases q1 : 0 ≤ x.f1 <;> by_cases q1' : x.f1 ≤ x.f2 <;> by_cases q2 : x.f2 ≤ 95 <;> by_cases q3 : 1 ≤ x.f3 ∧ x.f3 ≤ 2000 <;> simp [q0, q1, q1', q2, q3]
theorem gars_eq (l : List S44) (h : l.all gsm = true) : impl_areGarments.f l = some (if l.all gok = true then 0 else 1) := by
  unfold impl_areGarments.f
  rw [if_pos h]
def allC (l : List S44) (fine : Bool) : Int := if l.all gok = true then (if fine = true then (if (l.length : Int) ≤ 8 then 0 else 3) else 2) else 1
theorem l01All_l0 (l : List S44) (hs : l.all gsm = true) (hl : l.length ≤ 1048576) (fine : Bool) : ∀ (cs pre : List S44), l = pre ++ cs → Ev (fun k => spec_l01All.l0 k l fine (pre.length : Int)) (if cs.all gok = true then (if fine = true then (if (l.length : Int) ≤ 8 then 0 else 3) else 2) else 1) := by
  intro cs
  induction cs with
  | nil =>
    intro pre hpre
    refine Ev.step (fun k => by rw [spec_l01All.l0]) ?_
    have : l.length = pre.length := by rw [hpre]; simp
    simp only [show ¬ (pre.length : Int) < (l.length : Int) by omega, ↓reduceIte, List.all_nil]
    cases fine with
    | false => simp only [Bool.false_eq_true, ↓reduceIte]; exact Ev.now _
    | true =>
      simp only [↓reduceIte]
      by_cases h8 : (l.length : Int) ≤ 8
      · simp only [h8, show ¬ (l.length : Int) > 8 by omega, ↓reduceIte]; exact Ev.now _
      · simp only [h8, show (l.length : Int) > 8 by omega, ↓reduceIte]; exact Ev.now _
  | cons c cs ih =>
    intro pre hpre
    have hlen : l.length = pre.length + cs.length + 1 := by rw [hpre]; simp; omega
    have hc : rd_T44 l (pre.length : Int) = c := by rw [hpre]; exact rdm pre c cs
    have hsc : gsm c = true := List.all_eq_true.mp hs c (by rw [hpre]; simp)
    have hnext := ih (pre ++ [c]) (by rw [hpre]; simp)
    simp only [List.length_append, List.length_cons, List.length_nil, Nat.zero_add] at hnext
    refine Ev.step (fun k => by rw [spec_l01All.l0]) ?_
    simp only [show (pre.length : Int) < (l.length : Int) by omega, show (0 : Int) ≤ (pre.length : Int) by omega, ↓reduceIte, hc, garment_eq c hsc, Option.bind_some, wsuc (show pre.length < l.length by omega) hl, List.all_cons]
    by_cases hg : gok c = true
    · simp only [hg, Bool.true_and, ↓reduceIte]; exact hnext
    · rw [Bool.not_eq_true] at hg
      simp only [hg, Bool.false_eq_true, Bool.false_and, ↓reduceIte]; exact Ev.now _
theorem l01All_ev (l : List S44) (hs : l.all gsm = true) (hl : l.length ≤ 1048576) (fine : Bool) : Ev (fun k => spec_l01All.f k l fine) (allC l fine) := by
  unfold spec_l01All.f allC
  exact l01All_l0 l hs hl fine l [] rfl
theorem few_eq (l : List S44) : impl_fewGarments.f l = some (if (l.length : Int) ≤ 8 then 0 else 3) := by
  unfold impl_fewGarments.f
  rw [unless_eq]
  by_cases h : (l.length : Int) ≤ 8 <;> simp [h]
theorem all_small {l : List S44} (hs : l.all gsm = true) (hg : l.all gok = true) : l.all smallC = true := by
  rw [List.all_eq_true] at hs hg ⊢
  intro x hx
  obtain ⟨h0, h0', h1, h1', h2, h2', h3, h3'⟩ := of_decide_eq_true (hs x hx)
  have g := hg x hx
  unfold gok at g
  simp only [Bool.and_eq_true, decide_eq_true_eq] at g
  exact decide_eq_true (by omega)
def gtR (l : List S44) : ByteArray := if allC l true = 0 then ⟨(textG l).toArray⟩ else ⟨#[]⟩
theorem allC_zero {l : List S44} (hs : l.all gsm = true) (h : allC l true = 0) : l.length ≤ 8 ∧ l.all smallC = true := by
  unfold allC at h
  by_cases h1 : l.all gok = true
  · rw [if_pos h1] at h
    by_cases h2 : (l.length : Int) ≤ 8
    · exact ⟨by omega, all_small hs h1⟩
    · simp [h2] at h
  · rw [if_neg h1] at h; omega
theorem impl_gt (l : List S44) (hs : l.all gsm = true) : Ev (fun k => impl_GarmentsText.f k l) (gtR l) := by
  have hf := firstOf_ev [(if l.all gok = true then 0 else 1), (if (l.length : Int) ≤ 8 then 0 else 3)] (by simp)
  have e : firstL [(if l.all gok = true then 0 else 1), (if (l.length : Int) ≤ 8 then 0 else 3)] = allC l true := by
    unfold allC
    by_cases h1 : l.all gok = true <;> by_cases h2 : (l.length : Int) ≤ 8 <;> simp [h1, h2, firstL]
  rw [e] at hf
  unfold impl_GarmentsText.f gtR
  simp only [gars_eq l hs, few_eq, Option.bind_some]
  refine Ev.bind hf ?_
  by_cases h : allC l true = 0
  · simp only [h, ↓reduceIte, allC_zero hs h, and_self]
    exact Ev.now _
  · simp only [h, ↓reduceIte]
    exact Ev.now _
theorem spec_gt (l : List S44) (hs : l.all gsm = true) (hl : l.length ≤ 1048576) : Ev (fun k => spec_GarmentsText.f k l) (gtR l) := by
  unfold spec_GarmentsText.f gtR
  refine Ev.bind (l01All_ev l hs hl true) ?_
  by_cases h : allC l true = 0
  · have : spec_l01Text.f l = some ⟨(textG l).toArray⟩ := by unfold spec_l01Text.f; rw [if_pos (allC_zero hs h)]
    simp only [h, ↓reduceIte, this, Option.bind_some]
    exact Ev.now _
  · simp only [h, ↓reduceIte]
    exact Ev.now _
theorem FnExactGarmentsText (l0 : List S89) (y0 : l0.length ≤ 9223372036854775807) (w0 : ∀ x ∈ l0, (Lit.int .u8 x.f0).wf = true ∧ (Lit.int .i8 x.f1).wf = true ∧ (Lit.int .i8 x.f2).wf = true ∧ (Lit.int .i16 x.f3).wf = true) : ∃ k, laws_FnExactGarmentsText.f k l0 = some true := by
  refine Ev.rounds ?_
  unfold laws_FnExactGarmentsText.f
  simp only [szGarmentS_eq l0 1048576 (by omega) (by omega) y0, Option.bind_some]
  by_cases hl : (l0.length : Int) ≤ 1048576
  · simp only [hl, ↓reduceIte, show ¬ (1048576 - (l0.length : Int) < 0) by omega]
    have hl' : l0.length ≤ 1048576 := by omega
    have hs := toS_small w0
    have hlS : (toS l0).length ≤ 1048576 := by rw [toS_len]; exact hl'
    refine Ev.bind (toGarmentS_ev l0 hl') ?_
    refine Ev.bind (spec_gt _ hs hlS) ?_
    refine Ev.bind (toGarmentS_ev l0 hl') ?_
    refine Ev.bind (impl_gt _ hs) ?_
    simp only [↓reduceIte]
    refine Ev.bind (toGarmentS_ev l0 hl') ?_
    refine Ev.bind (eqGarmentS_ev _ hlS) ?_
    simp only [↓reduceIte]
    exact Ev.now _
  · simp only [hl, ↓reduceIte, show (-1 : Int) < 0 by omega]
    exact Ev.now _
end Go.Proofs.YthodfhcaaidnmaaDoor.Pure
