/- The plain law of FnExactFirstLines. -/
import Derived.Test.YtlkpgpnieodifaaFr9
import Derived.OpenShut
namespace Go.Proofs.Ytlkpgpnieodifaa.Pure
set_option linter.unusedSimpArgs false
set_option linter.unusedVariables false
open Go.RowKit Go.Proofs.Ytlkpgpnieodifaa.Fr Go.Proofs.YtlkpgpnieodifaaW.PrintWords Go.Proofs.YtlkpgpnieodifaaW.PrintLast Go.Proofs.YtlkpgpnieodifaaW.PrintMore
theorem rdm (pre : List S38) (c : S38) (cs : List S38) : rd_T38 (pre ++ c :: cs) (pre.length : Int) = c := by simp [rd_T38, List.getD_eq_getElem?_getD]
theorem rdim (pre : List Int) (c : Int) (cs : List Int) : rd (pre ++ c :: cs) (pre.length : Int) = c := by simp [rd, List.getD_eq_getElem?_getD]
theorem wsuc {i n : Nat} (h : i < n) (hn : n ≤ 1048576) : wrap64 ((i : Int) + 1) = ((i + 1 : Nat) : Int) := by unfold wrap64; omega
def toS (l : List S43) : List S38 := l.map fun x => ⟨x.f0, x.f1⟩
def smallS (l : List S38) : Prop := ∀ x ∈ l, -32768 ≤ x.f0 ∧ x.f0 ≤ 32767 ∧ -32768 ≤ x.f1 ∧ x.f1 ≤ 32767
theorem toS_len (l : List S43) : (toS l).length = l.length := by simp [toS]
theorem toS_small {l : List S43} (w : ∀ x ∈ l, (Lit.int .i16 x.f0).wf = true ∧ (Lit.int .i16 x.f1).wf = true) : smallS (toS l) := by
  intro x hx
  obtain ⟨y, hy, rfl⟩ := List.mem_map.mp hx
  have h0 := bounds_i16 (w y hy).1
  have h1 := bounds_i16 (w y hy).2
  exact ⟨h0.1, h0.2, h1.1, h1.2⟩
theorem rd43_mid (pre : List S43) (c : S43) (cs : List S43) : rd_T43 (pre ++ c :: cs) (pre.length : Int) = c := by simp [rd_T43, List.getD_eq_getElem?_getD]
theorem toClothS_l0 (l : List S43) (hl : l.length ≤ 1048576) : ∀ (cs pre : List S43), l = pre ++ cs →
    Ev (fun k => laws_toClothS.l0 k l (toS pre ++ List.replicate cs.length z38) (pre.length : Int)) (toS l) := by
  intro cs
  induction cs with
  | nil =>
    intro pre hpre
    refine Ev.step (fun k => by rw [laws_toClothS.l0]) ?_
    have : l.length = pre.length := by rw [hpre]; simp
    simp only [show ¬ (pre.length : Int) < (l.length : Int) by omega, ↓reduceIte]
    rw [show l = pre by rw [hpre]; simp]
    simp only [List.length_nil, List.replicate_zero, List.append_nil]
    exact Ev.now _
  | cons c cs ih =>
    intro pre hpre
    have hlen : l.length = pre.length + cs.length + 1 := by rw [hpre]; simp; omega
    have hc : rd_T43 l (pre.length : Int) = c := by rw [hpre]; exact rd43_mid pre c cs
    have hnext := ih (pre ++ [c]) (by rw [hpre]; simp)
    simp only [List.length_append, List.length_cons, List.length_nil, Nat.zero_add] at hnext
    have hx : (pre.length : Int) < ((toS pre ++ List.replicate (cs.length + 1) z38).length : Int) := by simp [toS]; omega
    have hset : (toS pre ++ List.replicate (cs.length + 1) z38).set (pre.length : Int).toNat (⟨c.f0, c.f1⟩ : S38) = toS (pre ++ [c]) ++ List.replicate cs.length z38 := by
      rw [Int.toNat_natCast, List.set_append_right _ _ (by simp [toS]), toS_len, Nat.sub_self, List.replicate_succ, List.set_cons_zero]
      simp [toS]
    refine Ev.step (fun k => by rw [laws_toClothS.l0]) ?_
    simp only [List.length_cons, show (pre.length : Int) < (l.length : Int) by omega, show (0 : Int) ≤ (pre.length : Int) by omega, ↓reduceIte, hc, laws_toCloth.f, Option.bind_some, hx, hset, wsuc (show pre.length < l.length by omega) hl]
    exact hnext
theorem toClothS_ev (l : List S43) (hl : l.length ≤ 1048576) : Ev (fun k => laws_toClothS.f k l) (toS l) := by
  have := toClothS_l0 l hl l [] rfl
  unfold laws_toClothS.f
  simp only [show (0 : Int) ≤ (l.length : Int) by omega, Int.toNat_natCast, show l.length ≤ 70368744177664 by omega, ↓reduceIte]
  exact this
theorem eqClothS_l0 (l : List S38) (hl : l.length ≤ 1048576) : ∀ (cs pre : List S38), l = pre ++ cs → Ev (fun k => laws_eqClothS.l0 k l l (pre.length : Int)) true := by
  intro cs
  induction cs with
  | nil =>
    intro pre hpre
    refine Ev.step (fun k => by rw [laws_eqClothS.l0]) ?_
    have : l.length = pre.length := by rw [hpre]; simp
    simp only [show ¬ (pre.length : Int) < (l.length : Int) by omega, ↓reduceIte]
    exact Ev.now _
  | cons c cs ih =>
    intro pre hpre
    have hlen : l.length = pre.length + cs.length + 1 := by rw [hpre]; simp; omega
    have hnext := ih (pre ++ [c]) (by rw [hpre]; simp)
    simp only [List.length_append, List.length_cons, List.length_nil, Nat.zero_add] at hnext
    refine Ev.step (fun k => by rw [laws_eqClothS.l0]) ?_
    simp only [show (pre.length : Int) < (l.length : Int) by omega, show (0 : Int) ≤ (pre.length : Int) by omega, ↓reduceIte, laws_eqCloth.f, Option.bind_some, wsuc (show pre.length < l.length by omega) hl]
    exact hnext
theorem eqClothS_ev (l : List S38) (hl : l.length ≤ 1048576) : Ev (fun k => laws_eqClothS.f k l l) true := by
  unfold laws_eqClothS.f
  simp only [↓reduceIte]
  exact eqClothS_l0 l hl l [] rfl
theorem szClothS_eq (l : List S43) (a : Int) (h0 : 0 ≤ a) (h1 : a ≤ 1048576) (hl : l.length ≤ 9223372036854775807) : laws_szClothS.f l a = some (if (l.length : Int) ≤ a then a - (l.length : Int) else -1) := by
  unfold laws_szClothS.f
  have e : wrap64 (a - (l.length : Int)) = a - (l.length : Int) := by unfold wrap64; omega
  rw [e]
  by_cases h : (l.length : Int) ≤ a
  · rw [if_neg (by omega), if_pos h]
  · rw [if_pos (by omega), if_neg h]
theorem l00In_eq (a b c : Int) : spec_l00In.f a b c = some (decide (b ≤ a ∧ a ≤ c)) := by
  unfold spec_l00In.f
  by_cases h : b ≤ a
  · rw [if_pos (show a ≥ b from h)]; simp [h]
  · rw [if_neg (show ¬ a ≥ b from h)]; simp [h]
theorem within_eq (a b c : Int) : impl_within.f a b c = some (decide (b ≤ a ∧ a ≤ c)) := l00In_eq a b c
theorem l02Cloths_l0 (l : List S38) (hs : smallS l) (hl : l.length ≤ 1048576) : ∀ (cs pre : List S38), l = pre ++ cs → Ev (fun k => spec_l02Cloths.l0 k l (pre.length : Int)) (cs.all cloth_ok) := by
  intro cs
  induction cs with
  | nil =>
    intro pre hpre
    refine Ev.step (fun k => by rw [spec_l02Cloths.l0]) ?_
    have : l.length = pre.length := by rw [hpre]; simp
    simp only [show ¬ (pre.length : Int) < (l.length : Int) by omega, ↓reduceIte]
    exact Ev.now _
  | cons c cs ih =>
    intro pre hpre
    have hlen : l.length = pre.length + cs.length + 1 := by rw [hpre]; simp; omega
    have hc : rd_T38 l (pre.length : Int) = c := by rw [hpre]; exact rdm pre c cs
    have hb := hs c (by rw [hpre]; simp)
    have hnext := ih (pre ++ [c]) (by rw [hpre]; simp)
    simp only [List.length_append, List.length_cons, List.length_nil, Nat.zero_add] at hnext
    refine Ev.step (fun k => by rw [spec_l02Cloths.l0]) ?_
    have e0 : wrap64 c.f0 = c.f0 := by unfold wrap64; omega
    have e1 : wrap64 c.f1 = c.f1 := by unfold wrap64; omega
    simp only [show (pre.length : Int) < (l.length : Int) by omega, show (0 : Int) ≤ (pre.length : Int) by omega, ↓reduceIte, hc, e0, e1, l00In_eq, Option.bind_some, decide_eq_true_eq, wsuc (show pre.length < l.length by omega) hl, List.all_cons, cloth_ok]
    by_cases h1 : 4 ≤ c.f0 ∧ c.f0 ≤ 200
    · by_cases h2 : 1 ≤ c.f1 ∧ c.f1 ≤ 500
      · simp only [h1, h2, and_self, ↓reduceIte, decide_true, Bool.true_and]
        exact hnext
      · simp only [h1, h2, and_self, ↓reduceIte, decide_true, decide_false, Bool.true_and, Bool.false_and]
        exact Ev.now _
    · simp only [h1, ↓reduceIte, decide_false, Bool.false_and]
      exact Ev.now _
theorem l02Cloths_ev (l : List S38) (hs : smallS l) (hl : l.length ≤ 1048576) : Ev (fun k => spec_l02Cloths.f k l) (l.all cloth_ok) := by
  unfold spec_l02Cloths.f
  exact l02Cloths_l0 l hs hl l [] rfl
theorem ValidCloths_eq (l : List S38) (hs : smallS l) : impl_ValidCloths.f l = some (l.all cloth_ok) := by
  unfold impl_ValidCloths.f
  rw [if_pos]
  rw [List.all_eq_true]
  intro x hx
  exact decide_eq_true (hs x hx)
theorem firstOf2 (a b : Int) : Ev (fun k => impl_firstOf.f k [a, b]) (if a = 0 then b else a) := by
  unfold impl_firstOf.f
  have e2 : ∀ a b : Int, ((([a, b] : List Int).length : Nat) : Int) = 2 := fun _ _ => rfl
  have w1 : wrap64 (0 + 1) = 1 := by unfold wrap64; omega
  have w2 : wrap64 (1 + 1) = 2 := by unfold wrap64; omega
  have r0 : rd [a, b] 0 = a := by simp [rd]
  have r1 : rd [a, b] 1 = b := by simp [rd]
  refine Ev.step (fun k => by rw [impl_firstOf.l0]) ?_
  simp only [e2, show (0 : Int) < 2 by omega, show (0 : Int) ≤ 0 by omega, ↓reduceIte, r0]
  by_cases ha : a = 0
  · simp only [ha, ↓reduceIte, w1]
    rw [ha] at r1
    refine Ev.step (fun k => by rw [impl_firstOf.l0]) ?_
    simp only [e2, show (1 : Int) < 2 by omega, show (0 : Int) ≤ 1 by omega, ↓reduceIte, r1]
    by_cases hb : b = 0
    · simp only [hb, ↓reduceIte, w2]
      refine Ev.step (fun k => by rw [impl_firstOf.l0]) ?_
      simp only [show ¬ (2 : Int) < 2 by omega, ↓reduceIte]
      exact Ev.now _
    · simp only [hb, ↓reduceIte]
      exact Ev.now _
  · simp only [ha, ↓reduceIte]
    exact Ev.now _
def codeOf (l : List S38) (n : Int) : Int := if l.all cloth_ok = true then (if (l.length : Int) ≤ n then 0 else 3) else 1
theorem clothCode_ev (l : List S38) (hs : smallS l) (n : Int) : Ev (fun k => impl_clothCode.f k l n) (codeOf l n) := by
  unfold impl_clothCode.f
  simp only [ValidCloths_eq l hs, Option.bind_some, impl_unless.f]
  cases h : l.all cloth_ok with
  | false =>
    simp only [Bool.false_eq_true, ↓reduceIte, Option.bind_some]
    by_cases hn : (l.length : Int) ≤ n
    · simp only [hn, decide_true, ↓reduceIte, Option.bind_some]
      exact Ev.bind (firstOf2 1 0) (by simp only [codeOf, h, Bool.false_eq_true, ↓reduceIte, show ¬ (1 : Int) = 0 by omega]; exact Ev.now _)
    · simp only [hn, decide_false, Bool.false_eq_true, ↓reduceIte, Option.bind_some]
      exact Ev.bind (firstOf2 1 3) (by simp only [codeOf, h, Bool.false_eq_true, ↓reduceIte, show ¬ (1 : Int) = 0 by omega]; exact Ev.now _)
  | true =>
    simp only [↓reduceIte, Option.bind_some]
    by_cases hn : (l.length : Int) ≤ n
    · simp only [hn, decide_true, ↓reduceIte, Option.bind_some]
      exact Ev.bind (firstOf2 0 0) (by simp only [codeOf, h, hn, ↓reduceIte]; exact Ev.now _)
    · simp only [hn, decide_false, Bool.false_eq_true, ↓reduceIte, Option.bind_some]
      exact Ev.bind (firstOf2 0 3) (by simp only [codeOf, h, hn, ↓reduceIte]; exact Ev.now _)
theorem l02Many_ev (l : List S38) (hs : smallS l) (hl : l.length ≤ 1048576) (n : Int) : Ev (fun k => spec_l02Many.f k l n) (codeOf l n) := by
  unfold spec_l02Many.f
  refine Ev.bind (l02Cloths_ev l hs hl) ?_
  unfold codeOf
  cases h : l.all cloth_ok with
  | false =>
    simp only [Bool.false_eq_true, ↓reduceIte]
    exact Ev.now _
  | true =>
    simp only [↓reduceIte]
    by_cases hn : (l.length : Int) ≤ n
    · simp only [hn, show ¬ (l.length : Int) > n by omega, ↓reduceIte]
      exact Ev.now _
    · simp only [hn, show (l.length : Int) > n by omega, ↓reduceIte]
      exact Ev.now _
theorem hungw_eq (l : List S38) (hl : l.length ≤ 1048576) : impl_hungw.f l = some (hungOf l) := by
  unfold impl_hungw.f
  rw [if_pos hl]
theorem l02Places_l0 (l : List S38) (hl : l.length ≤ 1048576) : ∀ (cs pre : List S38), l = pre ++ cs → ∀ (p : Int) (pl : List Int) (e : Int), pl.length = pre.length →
    Ev (fun k => spec_l02Places.l0 k l pl e (pre.length : Int)) ((hungFrom pre.getLast? p pl e cs).2.1, (hungFrom pre.getLast? p pl e cs).2.2) := by
  intro cs
  induction cs with
  | nil =>
    intro pre hpre p pl e hp
    refine Ev.step (fun k => by rw [spec_l02Places.l0]) ?_
    have : l.length = pre.length := by rw [hpre]; simp
    simp only [show ¬ (pre.length : Int) < (l.length : Int) by omega, ↓reduceIte]
    have hh : hungFrom pre.getLast? p pl e [] = (p, pl, e) := by cases pre.getLast? <;> rfl
    rw [hh]
    exact Ev.now _
  | cons c cs ih =>
    intro pre hpre p pl e hp
    have hlen : l.length = pre.length + cs.length + 1 := by rw [hpre]; simp; omega
    have hc : rd_T38 l (pre.length : Int) = c := by rw [hpre]; exact rdm pre c cs
    have hlt : (pre.length : Int) < (l.length : Int) := by omega
    have hlim : pl.length < 17592186044416 := by omega
    have hnext := fun p pl e h => ih (pre ++ [c]) (by rw [hpre]; simp) p pl e h
    simp only [List.length_append, List.length_cons, List.length_nil, Nat.zero_add, List.getLast?_append, List.getLast?_singleton, Option.some_or] at hnext
    refine Ev.step (fun k => by rw [spec_l02Places.l0]) ?_
    simp only [hlt, show (0 : Int) ≤ (pre.length : Int) by omega, ↓reduceIte, hc]
    rcases List.eq_nil_or_concat pre with rfl | ⟨pre', b, rfl⟩
    · simp only [List.length_nil, Int.natCast_zero, show ¬ ((0 : Int) > 0) by omega, ↓reduceIte, List.getLast?_nil]
      refine Ev.step (fun k => by rw [spec_l02Places.j1]) ?_
      rw [hungFrom]
      simp only [Bool.false_eq_true, ↓reduceIte, show ¬ ((0 : Int) > 0) by omega, hlim, show (0 : Int) ≤ 0 by omega]
      have h0 : ((0 : Nat) : Int) < (l.length : Int) := by simpa using hlt
      have hc0 : rd_T38 l 0 = c := by simpa using hc
      have hw : wrap64 (0 + 1) = ((0 + 1 : Nat) : Int) := by unfold wrap64; omega
      simp only [show (0 : Int) < (l.length : Int) by omega, ↓reduceIte, hc0, hw]
      exact hnext _ _ _ (by simp [hp])
    · have hw : wrap64 (((pre'.concat b).length : Int) - 1) = (pre'.length : Int) := by simp at hlen ⊢; unfold wrap64; omega
      have hb : rd_T38 l (pre'.length : Int) = b := by rw [hpre]; simp only [List.concat_eq_append, List.append_assoc]; exact rdm pre' b (c :: cs)
      have hlt2 : (pre'.length : Int) < (l.length : Int) := by simp at hlen; omega
      have hgt : ((pre'.concat b).length : Int) > 0 := by simp
      simp only [hw, hb, hgt, hlt2, show (0 : Int) ≤ (pre'.length : Int) by omega, ↓reduceIte, spec_l02Share.f, Option.bind_some]
      refine Ev.step (fun k => by rw [spec_l02Places.j1]) ?_
      have hg : (pre'.concat b).getLast? = some b := by simp
      rw [hg, hungFrom]
      simp only [hgt, hlim, hlt, show (0 : Int) ≤ ((pre'.concat b).length : Int) by omega, ↓reduceIte, hc, wsuc (show (pre'.concat b).length < l.length by omega) hl]
      by_cases hs : shareB b c = true
      · have hs' : wrap64 (wrap64 b.f1 + wrap64 c.f1) ≤ 120 := of_decide_eq_true hs
        simp only [hs, hs', decide_true, ↓reduceIte]
        exact hnext _ _ _ (by simp [hp])
      · have hs' : ¬ wrap64 (wrap64 b.f1 + wrap64 c.f1) ≤ 120 := fun h => hs (decide_eq_true h)
        simp only [hs, hs', decide_false, Bool.false_eq_true, ↓reduceIte]
        exact hnext _ _ _ (by simp [hp])
theorem l02Places_ev (l : List S38) (hl : l.length ≤ 1048576) : Ev (fun k => spec_l02Places.f k l) ((hungOf l).2.1, (hungOf l).2.2) := by
  unfold spec_l02Places.f hungOf
  exact l02Places_l0 l hl l [] rfl 0 [] 0 rfl
theorem i16wrap {x : Int} (h0 : -32768 ≤ x) (h1 : x ≤ 32767) : wrap64 x = x := by unfold wrap64; omega
def lineB (a b : Int) : Bool := decide (4 ≤ a ∧ a ≤ 2000) && decide (1 ≤ b ∧ b ≤ 2000)
theorem l02Line_eq {a b : Int} (ha : -32768 ≤ a ∧ a ≤ 32767) (hb : -32768 ≤ b ∧ b ≤ 32767) : spec_l02Line.f a b = some (lineB a b) := by
  unfold spec_l02Line.f lineB
  simp only [i16wrap ha.1 ha.2, i16wrap hb.1 hb.2, l00In_eq, Option.bind_some]
  by_cases h : 4 ≤ a ∧ a ≤ 2000 <;> simp [h]
theorem ValidLine_eq {a b : Int} (ha : -32768 ≤ a ∧ a ≤ 32767) (hb : -32768 ≤ b ∧ b ≤ 32767) : impl_ValidLine.f a b = some (lineB a b) := by
  unfold impl_ValidLine.f lineB
  simp only [i16wrap ha.1 ha.2, i16wrap hb.1 hb.2, within_eq, Option.bind_some]
  by_cases h : 4 ≤ a ∧ a ≤ 2000 <;> simp [h]
def lcode (a b : Int) (l : List S38) : Int := if lineB a b = true then codeOf l 7 else 1
theorem lineCode_ev {a b : Int} (ha : -32768 ≤ a ∧ a ≤ 32767) (hb : -32768 ≤ b ∧ b ≤ 32767) (l : List S38) (hs : smallS l) : Ev (fun k => impl_lineCode.f k a b l) (lcode a b l) := by
  unfold impl_lineCode.f
  simp only [ValidLine_eq ha hb, Option.bind_some, impl_unless.f]
  unfold lcode
  cases h : lineB a b with
  | false =>
    simp only [Bool.false_eq_true, ↓reduceIte, Option.bind_some]
    refine Ev.bind (clothCode_ev l hs 7) ?_
    refine Ev.bind (firstOf2 1 _) ?_
    simp only [show ¬ (1 : Int) = 0 by omega, ↓reduceIte]
    exact Ev.now _
  | true =>
    simp only [↓reduceIte, Option.bind_some]
    refine Ev.bind (clothCode_ev l hs 7) ?_
    refine Ev.bind (firstOf2 0 _) ?_
    simp only [↓reduceIte]
    exact Ev.now _
theorem l02Hung_ev {a b : Int} (ha : -32768 ≤ a ∧ a ≤ 32767) (hb : -32768 ≤ b ∧ b ≤ 32767) (l : List S38) (hs : smallS l) (hl : l.length ≤ 1048576) : Ev (fun k => spec_l02Hung.f k a b l) (lcode a b l) := by
  unfold spec_l02Hung.f
  simp only [l02Line_eq ha hb, Option.bind_some]
  unfold lcode
  cases h : lineB a b with
  | false =>
    simp only [Bool.false_eq_true, ↓reduceIte]
    exact Ev.now _
  | true =>
    simp only [↓reduceIte]
    exact Ev.bind (l02Many_ev l hs hl 7) (Ev.now _)
theorem lcode_len {a b : Int} {l : List S38} (h : lcode a b l = 0) : l.length ≤ 7 ∧ lineB a b = true ∧ l.all cloth_ok = true := by
  unfold lcode codeOf at h
  by_cases h1 : lineB a b = true
  · by_cases h2 : l.all cloth_ok = true
    · by_cases h3 : (l.length : Int) ≤ 7
      · exact ⟨by omega, h1, h2⟩
      · simp [h1, h2, h3] at h
    · simp [h1, h2] at h
  · simp [h1] at h
theorem l02Fits_l0 (a b : Int) (l : List S38) (hl : l.length ≤ 1048576) : ∀ (cs pre : List S38), l = pre ++ cs → ∀ x : Int,
    Ev (fun k => spec_l02Fits.l0 k l x (pre.length : Int) a b) (decide ((hungOf l).2.2 ≤ wrap64 a) && decide (heavyFrom x cs ≤ wrap64 b)) := by
  intro cs
  induction cs with
  | nil =>
    intro pre hpre x
    refine Ev.step (fun k => by rw [spec_l02Fits.l0]) ?_
    have : l.length = pre.length := by rw [hpre]; simp
    simp only [show ¬ (pre.length : Int) < (l.length : Int) by omega, ↓reduceIte]
    refine Ev.bind (l02Places_ev l hl) ?_
    by_cases h : (hungOf l).2.2 ≤ wrap64 a
    · simp only [h, ↓reduceIte, decide_true, Bool.true_and, heavyFrom]; exact Ev.now _
    · simp only [h, ↓reduceIte, decide_false, Bool.false_and]; exact Ev.now _
  | cons c cs ih =>
    intro pre hpre x
    have hlen : l.length = pre.length + cs.length + 1 := by rw [hpre]; simp; omega
    have hc : rd_T38 l (pre.length : Int) = c := by rw [hpre]; exact rdm pre c cs
    have hnext := ih (pre ++ [c]) (by rw [hpre]; simp)
    simp only [List.length_append, List.length_cons, List.length_nil, Nat.zero_add] at hnext
    refine Ev.step (fun k => by rw [spec_l02Fits.l0]) ?_
    simp only [show (pre.length : Int) < (l.length : Int) by omega, show (0 : Int) ≤ (pre.length : Int) by omega, ↓reduceIte, hc, wsuc (show pre.length < l.length by omega) hl]
    rw [heavyFrom]
    exact hnext _
theorem l02Fits_ev (a b : Int) (l : List S38) (hl : l.length ≤ 1048576) : Ev (fun k => spec_l02Fits.f k a b l) (holdsB a b l) := by
  unfold spec_l02Fits.f
  exact l02Fits_l0 a b l hl l [] rfl 0
theorem holdsw_eq (a b : Int) (l : List S38) (hl : l.length ≤ 1048576) : impl_Line_holdsw.f a b l = some (holdsB a b l) := by
  unfold impl_Line_holdsw.f
  rw [if_pos hl]
theorem l02On_l0 (l : List S38) (o : List Int) (n : Int) (ho : o.length ≤ 1048576) : ∀ (cs pre : List Int) (ls lp : List S38), o = pre ++ cs → l = lp ++ ls → lp.length = pre.length → cs.length ≤ ls.length → ∀ x : List S38, x.length ≤ pre.length →
    Ev (fun k => spec_l02On.l0 k l o n x (pre.length : Int)) (x ++ withB ls cs n) := by
  intro cs
  induction cs with
  | nil =>
    intro pre ls lp hpre hl hlp hle x hx
    refine Ev.step (fun k => by rw [spec_l02On.l0]) ?_
    have : o.length = pre.length := by rw [hpre]; simp
    simp only [show ¬ (pre.length : Int) < (o.length : Int) by omega, ↓reduceIte]
    rw [show x ++ withB ls [] n = x by simp [withB]]
    exact Ev.now _
  | cons c cs ih =>
    intro pre ls lp hpre hl hlp hle x hx
    match ls, hl, hle with
    | [], _, h => simp at h
    | d :: ls, hl, hle =>
    have hlen : o.length = pre.length + cs.length + 1 := by rw [hpre]; simp; omega
    have hllen : l.length = lp.length + ls.length + 1 := by rw [hl]; simp; omega
    have hc : rd o (pre.length : Int) = c := by rw [hpre]; exact rdim pre c cs
    have hd : rd_T38 l (pre.length : Int) = d := by rw [hl, ← hlp]; exact rdm lp d ls
    have hnext := ih (pre ++ [c]) ls (lp ++ [d]) (by rw [hpre]; simp) (by rw [hl]; simp) (by simp [hlp]) (by simpa using hle)
    simp only [List.length_append, List.length_cons, List.length_nil, Nat.zero_add] at hnext
    refine Ev.step (fun k => by rw [spec_l02On.l0]) ?_
    simp only [show (pre.length : Int) < (o.length : Int) by omega, show (0 : Int) ≤ (pre.length : Int) by omega, ↓reduceIte, hc, hd, show (pre.length : Int) < (l.length : Int) by omega, show x.length < 35184372088832 by omega, wsuc (show pre.length < o.length by omega) ho]
    by_cases h : c = n
    · simp only [h, ↓reduceIte]
      rw [show x ++ withB (d :: ls) (n :: cs) n = (x ++ [d]) ++ withB ls cs n by simp [withB]]
      exact hnext _ (by simp; omega)
    · simp only [h, ↓reduceIte]
      rw [show x ++ withB (d :: ls) (c :: cs) n = x ++ withB ls cs n by simp [withB, h]]
      exact hnext _ (by omega)
theorem l02On_ev (l : List S38) (o : List Int) (n : Int) (ho : o.length ≤ 1048576) (hle : o.length ≤ l.length) : Ev (fun k => spec_l02On.f k l o n) (withB l o n) := by
  unfold spec_l02On.f
  exact l02On_l0 l o n ho o [] l [] rfl rfl rfl hle [] (Nat.le_refl _)
theorem withB_len (l : List S38) (o : List Int) (n : Int) : (withB l o n).length ≤ o.length := by
  unfold withB
  rw [List.length_map]
  refine Nat.le_trans (List.length_filter_le _ _) ?_
  rw [List.length_zip]
  omega
theorem eqInt64S_l0 (l : List Int) (hl : l.length ≤ 1048576) : ∀ (cs pre : List Int), l = pre ++ cs → Ev (fun k => laws_eqInt64S.l0 k l l (pre.length : Int)) true := by
  intro cs
  induction cs with
  | nil =>
    intro pre hpre
    refine Ev.step (fun k => by rw [laws_eqInt64S.l0]) ?_
    have : l.length = pre.length := by rw [hpre]; simp
    simp only [show ¬ (pre.length : Int) < (l.length : Int) by omega, ↓reduceIte]
    exact Ev.now _
  | cons c cs ih =>
    intro pre hpre
    have hlen : l.length = pre.length + cs.length + 1 := by rw [hpre]; simp; omega
    have hnext := ih (pre ++ [c]) (by rw [hpre]; simp)
    simp only [List.length_append, List.length_cons, List.length_nil, Nat.zero_add] at hnext
    refine Ev.step (fun k => by rw [laws_eqInt64S.l0]) ?_
    simp only [show (pre.length : Int) < (l.length : Int) by omega, show (0 : Int) ≤ (pre.length : Int) by omega, ↓reduceIte, wsuc (show pre.length < l.length by omega) hl]
    exact hnext
theorem eqInt64S_ev (l : List Int) (hl : l.length ≤ 1048576) : Ev (fun k => laws_eqInt64S.f k l l) true := by
  unfold laws_eqInt64S.f
  simp only [↓reduceIte]
  exact eqInt64S_l0 l hl l [] rfl
def upFrom : Nat → Nat → List Int
  | _, 0 => []
  | a, n + 1 => (a : Int) :: upFrom (a + 1) n
theorem upFrom_len : ∀ n a, (upFrom a n).length = n
  | 0, _ => rfl
  | n + 1, a => by simp [upFrom, upFrom_len n]
theorem upFrom_snoc : ∀ n a, upFrom a (n + 1) = upFrom a n ++ [((a + n : Nat) : Int)]
  | 0, a => by simp [upFrom]
  | n + 1, a => by rw [upFrom, upFrom_snoc n (a + 1), upFrom, List.cons_append, show a + 1 + n = a + (n + 1) by omega]
theorem markInt64S_l0 : ∀ (cs : List Int) (n : Nat), n + cs.length ≤ 1048576 → Ev (fun k => laws_markInt64S.l0 k (upFrom 1 n ++ cs) ((n + 1 : Nat) : Int) (n : Int)) (((n + cs.length + 1 : Nat) : Int), upFrom 1 (n + cs.length)) := by
  intro cs
  induction cs with
  | nil =>
    intro n hn
    refine Ev.step (fun k => by rw [laws_markInt64S.l0]) ?_
    have : (upFrom 1 n).length = n := upFrom_len n 1
    simp only [List.append_nil, List.length_nil, Nat.add_zero, show ¬ (n : Int) < ((upFrom 1 n).length : Int) by omega, ↓reduceIte]
    exact Ev.now _
  | cons c cs ih =>
    intro n hn
    have hnext := ih (n + 1) (by simp only [List.length_cons] at hn; omega)
    simp only [List.length_cons] at hn
    have hlen : (upFrom 1 n ++ c :: cs).length = n + cs.length + 1 := by simp [upFrom_len]; omega
    have hset : (upFrom 1 n ++ c :: cs).set (n : Int).toNat ((n + 1 : Nat) : Int) = upFrom 1 (n + 1) ++ cs := by
      rw [Int.toNat_natCast, List.set_append_right _ _ (by simp [upFrom_len]), upFrom_len, Nat.sub_self, List.set_cons_zero, upFrom_snoc, Nat.add_comm 1 n]
      simp
    refine Ev.step (fun k => by rw [laws_markInt64S.l0]) ?_
    have hw : wrap64 (((n + 1 : Nat) : Int) + 1) = ((n + 1 + 1 : Nat) : Int) := by unfold wrap64; omega
    have hw0 : wrap64 ((n : Int) + 1) = ((n + 1 : Nat) : Int) := by unfold wrap64; omega
    simp only [show (n : Int) < ((upFrom 1 n ++ c :: cs).length : Int) by omega, show (0 : Int) ≤ (n : Int) by omega, ↓reduceIte, hset, hw, hw0]
    rw [show n + (c :: cs).length = n + 1 + cs.length by simp only [List.length_cons]; omega]
    exact hnext
theorem markInt64S_ev (l : List Int) (hl : l.length ≤ 1048576) : Ev (fun k => laws_markInt64S.f k l 1) (((l.length + 1 : Nat) : Int), upFrom 1 l.length) := by
  unfold laws_markInt64S.f
  have := markInt64S_l0 l 0 (by omega)
  simpa [upFrom] using this
theorem heldInt64S_l0 (m : Nat) (hm : m ≤ 1048576) : ∀ (d n : Nat), n + d = m → Ev (fun k => laws_heldInt64S.l0 k (upFrom 1 m) ((n + 1 : Nat) : Int) (n : Int)) ((m + 1 : Nat) : Int) := by
  intro d
  induction d with
  | zero =>
    intro n hn
    refine Ev.step (fun k => by rw [laws_heldInt64S.l0]) ?_
    have : (upFrom 1 m).length = m := upFrom_len m 1
    simp only [show ¬ (n : Int) < ((upFrom 1 m).length : Int) by omega, ↓reduceIte]
    rw [show n = m by omega]
    exact Ev.now _
  | succ d ih =>
    intro n hn
    have hlen : (upFrom 1 m).length = m := upFrom_len m 1
    have hget : ∀ (m a n : Nat), n < m → rd (upFrom a m) (n : Int) = ((a + n : Nat) : Int) := by
      intro m
      induction m with
      | zero => intro a n h; omega
      | succ m ihm =>
        intro a n h
        match n, h with
        | 0, _ => simp [rd, upFrom]
        | n + 1, h =>
          have := ihm (a + 1) n (by omega)
          simp only [rd, Int.toNat_natCast] at this ⊢
          rw [upFrom, List.getD_cons_succ, this, show a + 1 + n = a + (n + 1) by omega]
    have hr : rd (upFrom 1 m) (n : Int) = ((n + 1 : Nat) : Int) := by rw [hget m 1 n (by omega), Nat.add_comm]
    have hw : wrap64 (((n + 1 : Nat) : Int) + 1) = ((n + 1 + 1 : Nat) : Int) := by unfold wrap64; omega
    have hw0 : wrap64 ((n : Int) + 1) = ((n + 1 : Nat) : Int) := by unfold wrap64; omega
    refine Ev.step (fun k => by rw [laws_heldInt64S.l0]) ?_
    simp only [show (n : Int) < ((upFrom 1 m).length : Int) by omega, show (0 : Int) ≤ (n : Int) by omega, ↓reduceIte, hr, hw, hw0]
    exact ih (n + 1) (by omega)
theorem heldInt64S_ev (m : Nat) (hm : m ≤ 1048576) : Ev (fun k => laws_heldInt64S.f k (upFrom 1 m) 1) ((m + 1 : Nat) : Int) := by
  unfold laws_heldInt64S.f
  have := heldInt64S_l0 m hm m 0 (by omega)
  simpa using this
theorem markClothS_l0 : ∀ (d n : Nat) (l : List S38), l.length = n + d → n + d ≤ 1048576 → ∃ r : List S38, Ev (fun k => laws_markClothS.l0 k l ((2 * n + 1 : Nat) : Int) (n : Int)) (((2 * (n + d) + 1 : Nat) : Int), r) := by
  intro d
  induction d with
  | zero =>
    intro n l hl hn
    refine ⟨l, Ev.step (fun k => by rw [laws_markClothS.l0]) ?_⟩
    simp only [show ¬ (n : Int) < (l.length : Int) by omega, ↓reduceIte, Nat.add_zero]
    exact Ev.now _
  | succ d ih =>
    intro n l hl hn
    have hw : wrap64 (((2 * n + 1 : Nat) : Int) + 1) = ((2 * n + 2 : Nat) : Int) := by unfold wrap64; omega
    have hw1 : wrap64 (((2 * n + 2 : Nat) : Int) + 1) = ((2 * (n + 1) + 1 : Nat) : Int) := by unfold wrap64; omega
    have hw0 : wrap64 ((n : Int) + 1) = ((n + 1 : Nat) : Int) := by unfold wrap64; omega
    let y : List S38 := l.set (n : Int).toNat (⟨IntKind.i16.wrap ((2 * n + 1 : Nat) : Int), (rd_T38 l (n : Int)).f1⟩ : S38)
    let z : List S38 := y.set (n : Int).toNat (⟨(rd_T38 y (n : Int)).f0, IntKind.i16.wrap ((2 * n + 2 : Nat) : Int)⟩ : S38)
    obtain ⟨r, hr⟩ := ih (n + 1) z (by simp [z, y]; omega) (by omega)
    refine ⟨r, Ev.step (fun k => by rw [laws_markClothS.l0]) ?_⟩
    simp only [show (n : Int) < (l.length : Int) by omega, show (0 : Int) ≤ (n : Int) by omega, ↓reduceIte, Option.bind_some, hw, hw1, hw0]
    rw [show n + (d + 1) = n + 1 + d by omega]
    exact hr
theorem markClothS_ev (l : List S38) (hl : l.length ≤ 1048576) : ∃ r : List S38, Ev (fun k => laws_markClothS.f k l 1) (((2 * l.length + 1 : Nat) : Int), r) := by
  unfold laws_markClothS.f
  have := markClothS_l0 l.length 0 l (by omega) (by omega)
  simpa using this
theorem alone_l0 (a b : Int) (l : List S38) (hl : l.length ≤ 1048576) : ∀ (cs pre : List S38), l = pre ++ cs →
    Ev (fun k => spec_l02Alone.l0 k l (pre.length : Int) a b) (cs.all fun c => holdsB a b [c]) := by
  intro cs
  induction cs with
  | nil =>
    intro pre hpre
    refine Ev.step (fun k => by rw [spec_l02Alone.l0]) ?_
    have : l.length = pre.length := by rw [hpre]; simp
    simp only [show ¬ (pre.length : Int) < (l.length : Int) by omega, ↓reduceIte, List.all_nil]
    exact Ev.now _
  | cons c cs ih =>
    intro pre hpre
    have hlen : l.length = pre.length + cs.length + 1 := by rw [hpre]; simp; omega
    have hnext := ih (pre ++ [c]) (by rw [hpre]; simp)
    simp only [List.length_append, List.length_cons, List.length_nil, Nat.zero_add] at hnext
    have hsl : (l.take (((pre.length + 1 : Nat) : Int)).toNat).drop (pre.length : Int).toNat = [c] := by
      rw [Int.toNat_natCast, Int.toNat_natCast, hpre, List.take_append, List.drop_append]
      simp
    refine Ev.step (fun k => by rw [spec_l02Alone.l0]) ?_
    simp only [show (pre.length : Int) < (l.length : Int) by omega, show (0 : Int) ≤ (pre.length : Int) by omega, wsuc (show pre.length < l.length by omega) hl, show (pre.length : Int) ≤ ((pre.length + 1 : Nat) : Int) by omega, show ((pre.length + 1 : Nat) : Int) ≤ (l.length : Int) by omega, ↓reduceIte, hsl, List.all_cons]
    refine Ev.bind (l02Fits_ev a b [c] (by simp)) ?_
    cases hh : holdsB a b [c] with
    | true =>
      simp only [↓reduceIte, Bool.true_and]
      exact hnext
    | false =>
      simp only [Bool.false_eq_true, ↓reduceIte, Bool.false_and]
      exact Ev.now _
theorem alone_ev (a b : Int) (l : List S38) (hl : l.length ≤ 1048576) : Ev (fun k => spec_l02Alone.f k a b l) (l.all fun c => holdsB a b [c]) := by
  unfold spec_l02Alone.f
  exact alone_l0 a b l hl l [] rfl
def fit (a b : Int) (l : List S38) (out : List Int) (c : S38) (k : Int) : Bool := holdsB a b (withB l out k ++ [c])
def findK (p : Int → Bool) : Nat → Nat → Nat
  | 0, k => k
  | d + 1, k => if p (k : Int) = true then k else findK p d (k + 1)
theorem findK_le (p : Int → Bool) : ∀ d k, findK p d k ≤ k + d
  | 0, k => Nat.le_refl _
  | d + 1, k => by
    rw [findK]
    split
    · omega
    · have := findK_le p d (k + 1); omega
def firstRun (a b : Int) (l : List S38) : List S38 → List Int → Nat → List Int × Int
  | [], out, m => (out, (m : Int))
  | c :: cs, out, m => firstRun a b l cs (out ++ [((findK (fit a b l out c) m 0 : Nat) : Int)]) (max m (findK (fit a b l out c) m 0 + 1))
theorem firstRun_len (a b : Int) (l : List S38) : ∀ cs out m, (firstRun a b l cs out m).1.length = out.length + cs.length
  | [], out, m => by simp [firstRun]
  | c :: cs, out, m => by rw [firstRun, firstRun_len a b l cs]; simp; omega
theorem withB_none (l : List S38) (out : List Int) (n : Int) (h : ∀ x ∈ out, x ≠ n) : withB l out n = [] := by
  unfold withB
  rw [List.map_eq_nil_iff, List.filter_eq_nil_iff]
  intro x hx
  have := h x.1 (List.of_mem_zip hx).1
  simp [this]
theorem max_eq (m r : Nat) (h : r ≤ 1048576) : mx (m : Int) (wrap64 ((r : Int) + 1)) = ((max m (r + 1) : Nat) : Int) := by
  have e : wrap64 ((r : Int) + 1) = ((r + 1 : Nat) : Int) := by unfold wrap64; omega
  rw [e]
  unfold mx
  by_cases h : m < r + 1
  · rw [if_pos (by omega), Nat.max_eq_right (by omega)]
  · rw [if_neg (by omega), Nat.max_eq_left (by omega)]
theorem l00Max_eq (a b : Int) : spec_l00Max.f a b = some (mx a b) := by
  unfold spec_l00Max.f mx
  by_cases h : a > b
  · rw [if_pos h, if_neg (by omega)]
  · rw [if_neg h]
    by_cases h2 : a < b
    · rw [if_pos h2]
    · rw [if_neg h2, show a = b by omega]
theorem behind_eq (a b : Int) (l : List S38) (hl : l.length ≤ 1048576) (pre cs : List S38) (c : S38) (hpre : l = pre ++ c :: cs) (out : List Int) (ho : out.length = pre.length) (k : Int) :
    impl_Line_fitsBehind.f a b l out k = some (fit a b l out c k) := by
  have hlen : l.length = pre.length + cs.length + 1 := by rw [hpre]; simp; omega
  have hc : rd_T38 l (out.length : Int) = c := by rw [hpre, ho]; exact rdm pre c cs
  have hw := withB_len l out k
  unfold impl_Line_fitsBehind.f impl_withNumber_impl_Clothw.f
  rw [if_pos ⟨by omega, by omega⟩]
  simp only [Option.bind_some, show (0 : Int) ≤ (out.length : Int) by omega, show (out.length : Int) < (l.length : Int) by omega, ↓reduceIte, hc, List.length_cons, List.length_nil, show (withB l out k).length + (0 + 1) < 35184372088832 by omega]
  rw [holdsw_eq _ _ _ (by simp; omega)]
  rfl
theorem impl_First_l1 (a b : Int) (l : List S38) (hl : l.length ≤ 1048576) (pre cs : List S38) (c : S38) (hpre : l = pre ++ c :: cs) (out : List Int) (ho : out.length = pre.length) (m : Nat) (hm : m ≤ out.length)
    (hx : ∀ x ∈ out, x < (m : Int)) (ha : holdsB a b [c] = true) (R : List Int × Int × Int) : ∀ (d j : Nat), j + d = m →
    Ev (fun k => impl_FirstLines.l0 k l (out ++ [((findK (fit a b l out c) d j : Nat) : Int)]) ((max m (findK (fit a b l out c) d j + 1) : Nat) : Int) (l.length : Int) ((pre.length + 1 : Nat) : Int) a b) R →
    Ev (fun k => impl_FirstLines.l1 k l out (m : Int) (j : Int) (l.length : Int) (pre.length : Int) a b) R := by
  have hlen : l.length = pre.length + cs.length + 1 := by rw [hpre]; simp; omega
  intro d
  induction d with
  | zero =>
    intro j hj hR
    rw [findK] at hR
    refine Ev.step (fun k => by rw [impl_FirstLines.l1]) ?_
    have hf : fit a b l out c (j : Int) = true := by
      unfold fit
      rw [withB_none l out _ (fun x h => by have := hx x h; omega)]
      exact ha
    simp only [behind_eq a b l hl pre cs c hpre out ho, Option.bind_some, hf, ↓reduceIte, show out.length < 17592186044416 by omega, max_eq m j (by omega), wsuc (show pre.length < l.length by omega) hl]
    exact hR
  | succ d ih =>
    intro j hj hR
    rw [findK] at hR
    refine Ev.step (fun k => by rw [impl_FirstLines.l1]) ?_
    simp only [behind_eq a b l hl pre cs c hpre out ho, Option.bind_some]
    by_cases hf : fit a b l out c (j : Int) = true
    · simp only [hf, ↓reduceIte] at hR
      simp only [hf, ↓reduceIte, show out.length < 17592186044416 by omega, max_eq m j (by omega), wsuc (show pre.length < l.length by omega) hl]
      exact hR
    · simp only [hf, Bool.false_eq_true, ↓reduceIte] at hR
      simp only [hf, Bool.false_eq_true, ↓reduceIte, wsuc (show j < 1048576 by omega) (Nat.le_refl _)]
      exact ih (j + 1) (by omega) hR
theorem spec_First_l1 (a b : Int) (l : List S38) (hl : l.length ≤ 1048576) (pre cs : List S38) (c : S38) (hpre : l = pre ++ c :: cs) (out : List Int) (ho : out.length = pre.length) (m : Nat) (hm : m ≤ out.length)
    (R : List Int × Int × Int) : ∀ (d j : Nat), j + d = m →
    Ev (fun k => spec_FirstLines.l0 k l (out ++ [((findK (fit a b l out c) d j : Nat) : Int)]) ((max m (findK (fit a b l out c) d j + 1) : Nat) : Int) ((pre.length + 1 : Nat) : Int) a b) R →
    Ev (fun k => spec_FirstLines.l1 k l out (m : Int) (pre.length : Int) (j : Int) a b) R := by
  have hlen : l.length = pre.length + cs.length + 1 := by rw [hpre]; simp; omega
  have hc : rd_T38 l (pre.length : Int) = c := by rw [hpre]; exact rdm pre c cs
  intro d
  induction d with
  | zero =>
    intro j hj hR
    rw [findK] at hR
    refine Ev.step (fun k => by rw [spec_FirstLines.l1]) ?_
    simp only [show ¬ (j : Int) < (m : Int) by omega, ↓reduceIte, Option.bind_some, l00Max_eq, List.length_cons, List.length_nil, show out.length + (0 + 1) < 17592186044416 by omega, max_eq m j (by omega), wsuc (show pre.length < l.length by omega) hl]
    exact hR
  | succ d ih =>
    intro j hj hR
    rw [findK] at hR
    refine Ev.step (fun k => by rw [spec_FirstLines.l1]) ?_
    have hw := withB_len l out (j : Int)
    simp only [show (j : Int) < (m : Int) by omega, ↓reduceIte]
    refine Ev.bind (l02On_ev l out (j : Int) (by omega) (by omega)) ?_
    simp only [show (0 : Int) ≤ (pre.length : Int) by omega, show (pre.length : Int) < (l.length : Int) by omega, ↓reduceIte, hc, Option.bind_some, List.length_cons, List.length_nil, show (withB l out (j : Int)).length + (0 + 1) < 35184372088832 by omega]
    refine Ev.bind (l02Fits_ev a b _ (by simp; omega)) ?_
    have hfe : holdsB a b (withB l out (j : Int) ++ [c]) = fit a b l out c (j : Int) := rfl
    by_cases hf : fit a b l out c (j : Int) = true
    · simp only [hf, ↓reduceIte] at hR
      rw [hf] at hfe
      simp only [hfe, ↓reduceIte, Option.bind_some, l00Max_eq, List.length_cons, List.length_nil, show out.length + (0 + 1) < 17592186044416 by omega, max_eq m j (by omega), wsuc (show pre.length < l.length by omega) hl]
      exact hR
    · simp only [hf, Bool.false_eq_true, ↓reduceIte] at hR
      rw [Bool.not_eq_true] at hf
      rw [hf] at hfe
      simp only [hfe, Bool.false_eq_true, ↓reduceIte, wsuc (show j < 1048576 by omega) (Nat.le_refl _)]
      exact ih (j + 1) (by omega) hR
theorem out_lt (out : List Int) (m r : Nat) (hx : ∀ x ∈ out, x < (m : Int)) : ∀ x ∈ out ++ [((r : Nat) : Int)], x < ((max m (r + 1) : Nat) : Int) := by
  intro x h
  rcases List.mem_append.mp h with h | h
  · have := hx x h
    omega
  · rw [List.mem_singleton] at h
    omega
theorem impl_First_l0 (a b : Int) (l : List S38) (hl : l.length ≤ 1048576) (hal : l.all (fun c => holdsB a b [c]) = true) : ∀ (cs pre : List S38), l = pre ++ cs → ∀ (out : List Int) (m : Nat), out.length = pre.length → m ≤ out.length → (∀ x ∈ out, x < (m : Int)) →
    Ev (fun k => impl_FirstLines.l0 k l out (m : Int) (l.length : Int) (pre.length : Int) a b) ((firstRun a b l cs out m).1, (firstRun a b l cs out m).2, 0) := by
  intro cs
  induction cs with
  | nil =>
    intro pre hpre out m ho hm hx
    refine Ev.step (fun k => by rw [impl_FirstLines.l0]) ?_
    have : l.length = pre.length := by rw [hpre]; simp
    simp only [show ¬ (pre.length : Int) < (l.length : Int) by omega, ↓reduceIte]
    exact Ev.now _
  | cons c cs ih =>
    intro pre hpre out m ho hm hx
    have hlen : l.length = pre.length + cs.length + 1 := by rw [hpre]; simp; omega
    have hnext := ih (pre ++ [c]) (by rw [hpre]; simp)
    simp only [List.length_append, List.length_cons, List.length_nil, Nat.zero_add] at hnext
    refine Ev.step (fun k => by rw [impl_FirstLines.l0]) ?_
    simp only [show (pre.length : Int) < (l.length : Int) by omega, ↓reduceIte]
    rw [firstRun]
    have hk := findK_le (fit a b l out c) m 0
    exact impl_First_l1 a b l hl pre cs c hpre out ho m hm hx (List.all_eq_true.mp hal c (by rw [hpre]; simp)) _ m 0 (by omega) (hnext _ _ (by simp; omega) (by simp; omega) (out_lt out m _ hx))
theorem spec_First_l0 (a b : Int) (l : List S38) (hl : l.length ≤ 1048576) : ∀ (cs pre : List S38), l = pre ++ cs → ∀ (out : List Int) (m : Nat), out.length = pre.length → m ≤ out.length →
    Ev (fun k => spec_FirstLines.l0 k l out (m : Int) (pre.length : Int) a b) ((firstRun a b l cs out m).1, (firstRun a b l cs out m).2, 0) := by
  intro cs
  induction cs with
  | nil =>
    intro pre hpre out m ho hm
    refine Ev.step (fun k => by rw [spec_FirstLines.l0]) ?_
    have : l.length = pre.length := by rw [hpre]; simp
    simp only [show ¬ (pre.length : Int) < (l.length : Int) by omega, ↓reduceIte]
    exact Ev.now _
  | cons c cs ih =>
    intro pre hpre out m ho hm
    have hlen : l.length = pre.length + cs.length + 1 := by rw [hpre]; simp; omega
    have hnext := ih (pre ++ [c]) (by rw [hpre]; simp)
    simp only [List.length_append, List.length_cons, List.length_nil, Nat.zero_add] at hnext
    refine Ev.step (fun k => by rw [spec_FirstLines.l0]) ?_
    simp only [show (pre.length : Int) < (l.length : Int) by omega, ↓reduceIte]
    rw [firstRun]
    have hk := findK_le (fit a b l out c) m 0
    exact spec_First_l1 a b l hl pre cs c hpre out ho m hm _ m 0 (by omega) (hnext _ _ (by simp; omega) (by simp; omega))
def firstR (a b : Int) (l : List S38) : List Int × Int × Int :=
  if lcode a b l = 0 then (if (l.all fun c => holdsB a b [c]) = true then ((firstRun a b l l [] 0).1, (firstRun a b l l [] 0).2, 0) else ([], 0, 6)) else ([], 0, lcode a b l)
theorem impl_First_ev {a b : Int} (ha : -32768 ≤ a ∧ a ≤ 32767) (hb : -32768 ≤ b ∧ b ≤ 32767) (l : List S38) (hs : smallS l) (hl : l.length ≤ 1048576) : Ev (fun k => impl_FirstLines.f k a b l) (firstR a b l) := by
  unfold impl_FirstLines.f firstR impl_Line_fitAlone.f
  refine Ev.bind (lineCode_ev ha hb _ hs) ?_
  simp only [Option.bind_some]
  refine Ev.bind (firstOf2 _ _) ?_
  by_cases h : lcode a b l = 0
  · simp only [h, ↓reduceIte]
    by_cases hal : (l.all fun c => holdsB a b [c]) = true
    · simp only [hal, ↓reduceIte]
      exact impl_First_l0 a b l hl hal l [] rfl [] 0 rfl (Nat.le_refl _) (by simp)
    · simp only [hal, Bool.false_eq_true, ↓reduceIte, show ¬ (6 : Int) = 0 by omega]
      exact Ev.now _
  · simp only [h, ↓reduceIte]
    exact Ev.now _
theorem spec_First_ev {a b : Int} (ha : -32768 ≤ a ∧ a ≤ 32767) (hb : -32768 ≤ b ∧ b ≤ 32767) (l : List S38) (hs : smallS l) (hl : l.length ≤ 1048576) : Ev (fun k => spec_FirstLines.f k a b l) (firstR a b l) := by
  unfold spec_FirstLines.f firstR
  refine Ev.bind (l02Hung_ev ha hb _ hs hl) ?_
  by_cases h : lcode a b l = 0
  · simp only [h, ↓reduceIte]
    refine Ev.bind (alone_ev a b l hl) ?_
    refine Ev.step (fun k => by rw [spec_FirstLines.j0]) ?_
    cases hal : (l.all fun c => holdsB a b [c]) with
    | true =>
      simp only [Bool.not_true, Bool.false_eq_true, ↓reduceIte]
      refine Ev.step (fun k => by rw [spec_FirstLines.j1]) ?_
      simp only [↓reduceIte]
      exact spec_First_l0 a b l hl l [] rfl [] 0 rfl (Nat.le_refl _)
    | false =>
      simp only [Bool.not_false, Bool.false_eq_true, ↓reduceIte]
      refine Ev.step (fun k => by rw [spec_FirstLines.j1]) ?_
      simp only [show ¬ (6 : Int) = 0 by omega, ↓reduceIte]
      exact Ev.now _
  · simp only [h, ↓reduceIte]
    refine Ev.step (fun k => by rw [spec_FirstLines.j0]) ?_
    simp only [Bool.false_eq_true, ↓reduceIte]
    refine Ev.step (fun k => by rw [spec_FirstLines.j1]) ?_
    simp only [h, ↓reduceIte]
    exact Ev.now _
theorem FnExactFirstLines (a0_0 : Int) (a0_1 : Int) (l1 : List S43) (w0_0 : (Lit.int .i16 a0_0).wf = true) (w0_1 : (Lit.int .i16 a0_1).wf = true) (y1 : l1.length ≤ 9223372036854775807) (w1 : ∀ x ∈ l1, (Lit.int .i16 x.f0).wf = true ∧ (Lit.int .i16 x.f1).wf = true) : ∃ k, laws_FnExactFirstLines.f k a0_0 a0_1 l1 = some true := by
  have ha := bounds_i16 w0_0
  have hb := bounds_i16 w0_1
  refine Ev.rounds ?_
  unfold laws_FnExactFirstLines.f
  simp only [szClothS_eq l1 1048576 (by omega) (by omega) y1, Option.bind_some, laws_toLine.f]
  by_cases hl : (l1.length : Int) ≤ 1048576
  · simp only [hl, ↓reduceIte, show ¬ (1048576 - (l1.length : Int) < 0) by omega]
    have hl' : l1.length ≤ 1048576 := by omega
    have hs := toS_small w1
    have hlS : (toS l1).length ≤ 1048576 := by rw [toS_len]; exact hl'
    have hR : (firstR a0_0 a0_1 (toS l1)).1.length ≤ 1048576 := by
      unfold firstR
      split
      · split
        · simp only [firstRun_len, List.length_nil, Nat.zero_add]; exact hlS
        · simp
      · simp
    refine Ev.bind (toClothS_ev l1 hl') ?_
    refine Ev.bind (spec_First_ev ha hb _ hs hlS) ?_
    refine Ev.bind (toClothS_ev l1 hl') ?_
    refine Ev.bind (impl_First_ev ha hb _ hs hlS) ?_
    refine Ev.bind (eqInt64S_ev _ hR) ?_
    simp only [↓reduceIte, bne_self_eq_false]
    refine Ev.step (fun k => by rw [laws_FnExactFirstLines.j0]) ?_
    simp only [Bool.false_eq_true, ↓reduceIte]
    refine Ev.bind (toClothS_ev l1 hl') ?_
    refine Ev.bind (eqClothS_ev _ hlS) ?_
    simp only [↓reduceIte]
    obtain ⟨r, hr⟩ := markClothS_ev (toS l1) hlS
    refine Ev.bind hr ?_
    simp only [show ¬ ((2 * (toS l1).length + 1 : Nat) : Int) < 0 by omega, ↓reduceIte]
    refine Ev.bind (eqInt64S_ev _ hR) ?_
    simp only [↓reduceIte, bne_self_eq_false]
    refine Ev.step (fun k => by rw [laws_FnExactFirstLines.j1]) ?_
    simp only [Bool.false_eq_true, ↓reduceIte]
    refine Ev.bind (markInt64S_ev _ hR) ?_
    refine Ev.bind (heldInt64S_ev _ hR) ?_
    simp only [show ∀ n : Nat, ¬ ((n + 1 : Nat) : Int) < 0 by intro n; omega, ↓reduceIte, laws_toLine.f, Option.bind_some]
    refine Ev.bind (toClothS_ev l1 hl') ?_
    refine Ev.bind (impl_First_ev ha hb _ hs hlS) ?_
    refine Ev.bind (eqInt64S_ev _ hR) ?_
    simp only [↓reduceIte, bne_self_eq_false]
    refine Ev.step (fun k => by rw [laws_FnExactFirstLines.j2]) ?_
    simp only [Bool.false_eq_true, ↓reduceIte]
    refine Ev.bind (heldInt64S_ev _ hR) ?_
    simp only [show ∀ n : Nat, ¬ ((n + 1 : Nat) : Int) < 0 by intro n; omega, ↓reduceIte]
    exact Ev.now _
  · simp only [hl, ↓reduceIte, show (-1 : Int) < 0 by omega]
    exact Ev.now _
end Go.Proofs.Ytlkpgpnieodifaa.Pure
