/- The plain law of FnExactFewestLines. -/
import Derived.Test.YtlkpgpnieodifaaFl8
import Derived.OpenShut
namespace Go.Proofs.Ytlkpgpnieodifaa.Pure
set_option linter.unusedSimpArgs false
set_option linter.unusedVariables false
open Go.RowKit Go.Proofs.Ytlkpgpnieodifaa.Fl Go.Proofs.YtlkpgpnieodifaaW.PrintWords Go.Proofs.YtlkpgpnieodifaaW.PrintLast Go.Proofs.YtlkpgpnieodifaaW.PrintMore
theorem rdm (pre : List S38) (c : S38) (cs : List S38) : rd_T38 (pre ++ c :: cs) (pre.length : Int) = c := by simp [rd_T38, List.getD_eq_getElem?_getD]
theorem rdim (pre : List Int) (c : Int) (cs : List Int) : rd (pre ++ c :: cs) (pre.length : Int) = c := by simp [rd, List.getD_eq_getElem?_getD]
theorem wsuc {i n : Nat} (h : i < n) (hn : n ≤ 1048576) : wrap64 ((i : Int) + 1) = ((i + 1 : Nat) : Int) := by unfold wrap64; omega
def toS (l : List S43) : List S38 := l.map fun x => ⟨x.f0, x.f1⟩
def smallS (l : List S38) : Prop := ∀ x ∈ l, -32768 ≤ x.f0 ∧ x.f0 ≤ 32767 ∧ -32768 ≤ x.f1 ∧ x.f1 ≤ 32767
theorem toS_len (l : List S43) : (toS l).length = l.length := by simp [toS]
theorem toS_small {l : List S43} (w : ∀ x ∈ l, (Lit.int .i16 x.f0).wf = true ∧ (Lit.int .i16 x.f1).wf = true) : smallS (toS l) := by
  intro x hx
  obtain ⟨y, hy, rfl⟩ := List.mem_map.mp hx
  have h0 := bounds_i16 (w y hy).1
  have h1 := bounds_i16 (w y hy).2
  exact ⟨h0.1, h0.2, h1.1, h1.2⟩
theorem rd43_mid (pre : List S43) (c : S43) (cs : List S43) : rd_T43 (pre ++ c :: cs) (pre.length : Int) = c := by simp [rd_T43, List.getD_eq_getElem?_getD]
theorem toClothS_l0 (l : List S43) (hl : l.length ≤ 1048576) : ∀ (cs pre : List S43), l = pre ++ cs →
    Ev (fun k => laws_toClothS.l0 k l (toS pre ++ List.replicate cs.length z38) (pre.length : Int)) (toS l) := by
  intro cs
  induction cs with
  | nil =>
    intro pre hpre
    refine Ev.step (fun k => by rw [laws_toClothS.l0]) ?_
    have : l.length = pre.length := by rw [hpre]; simp
    simp only [show ¬ (pre.length : Int) < (l.length : Int) by omega, ↓reduceIte]
    rw [show l = pre by rw [hpre]; simp]
    simp only [List.length_nil, List.replicate_zero, List.append_nil]
    exact Ev.now _
  | cons c cs ih =>
    intro pre hpre
    have hlen : l.length = pre.length + cs.length + 1 := by rw [hpre]; simp; omega
    have hc : rd_T43 l (pre.length : Int) = c := by rw [hpre]; exact rd43_mid pre c cs
    have hnext := ih (pre ++ [c]) (by rw [hpre]; simp)
    simp only [List.length_append, List.length_cons, List.length_nil, Nat.zero_add] at hnext
    have hx : (pre.length : Int) < ((toS pre ++ List.replicate (cs.length + 1) z38).length : Int) := by simp [toS]; omega
    have hset : (toS pre ++ List.replicate (cs.length + 1) z38).set (pre.length : Int).toNat (⟨c.f0, c.f1⟩ : S38) = toS (pre ++ [c]) ++ List.replicate cs.length z38 := by
      rw [Int.toNat_natCast, List.set_append_right _ _ (by simp [toS]), toS_len, Nat.sub_self, List.replicate_succ, List.set_cons_zero]
      simp [toS]
    refine Ev.step (fun k => by rw [laws_toClothS.l0]) ?_
    simp only [List.length_cons, show (pre.length : Int) < (l.length : Int) by omega, show (0 : Int) ≤ (pre.length : Int) by omega, ↓reduceIte, hc, laws_toCloth.f, Option.bind_some, hx, hset, wsuc (show pre.length < l.length by omega) hl]
    exact hnext
theorem toClothS_ev (l : List S43) (hl : l.length ≤ 1048576) : Ev (fun k => laws_toClothS.f k l) (toS l) := by
  have := toClothS_l0 l hl l [] rfl
  unfold laws_toClothS.f
  simp only [show (0 : Int) ≤ (l.length : Int) by omega, Int.toNat_natCast, show l.length ≤ 70368744177664 by omega, ↓reduceIte]
  exact this
theorem eqClothS_l0 (l : List S38) (hl : l.length ≤ 1048576) : ∀ (cs pre : List S38), l = pre ++ cs → Ev (fun k => laws_eqClothS.l0 k l l (pre.length : Int)) true := by
  intro cs
  induction cs with
  | nil =>
    intro pre hpre
    refine Ev.step (fun k => by rw [laws_eqClothS.l0]) ?_
    have : l.length = pre.length := by rw [hpre]; simp
    simp only [show ¬ (pre.length : Int) < (l.length : Int) by omega, ↓reduceIte]
    exact Ev.now _
  | cons c cs ih =>
    intro pre hpre
    have hlen : l.length = pre.length + cs.length + 1 := by rw [hpre]; simp; omega
    have hnext := ih (pre ++ [c]) (by rw [hpre]; simp)
    simp only [List.length_append, List.length_cons, List.length_nil, Nat.zero_add] at hnext
    refine Ev.step (fun k => by rw [laws_eqClothS.l0]) ?_
    simp only [show (pre.length : Int) < (l.length : Int) by omega, show (0 : Int) ≤ (pre.length : Int) by omega, ↓reduceIte, laws_eqCloth.f, Option.bind_some, wsuc (show pre.length < l.length by omega) hl]
    exact hnext
theorem eqClothS_ev (l : List S38) (hl : l.length ≤ 1048576) : Ev (fun k => laws_eqClothS.f k l l) true := by
  unfold laws_eqClothS.f
  simp only [↓reduceIte]
  exact eqClothS_l0 l hl l [] rfl
theorem szClothS_eq (l : List S43) (a : Int) (h0 : 0 ≤ a) (h1 : a ≤ 1048576) (hl : l.length ≤ 9223372036854775807) : laws_szClothS.f l a = some (if (l.length : Int) ≤ a then a - (l.length : Int) else -1) := by
  unfold laws_szClothS.f
  have e : wrap64 (a - (l.length : Int)) = a - (l.length : Int) := by unfold wrap64; omega
  rw [e]
  by_cases h : (l.length : Int) ≤ a
  · rw [if_neg (by omega), if_pos h]
  · rw [if_pos (by omega), if_neg h]
theorem l00In_eq (a b c : Int) : spec_l00In.f a b c = some (decide (b ≤ a ∧ a ≤ c)) := by
  unfold spec_l00In.f
  by_cases h : b ≤ a
  · rw [if_pos (show a ≥ b from h)]; simp [h]
  · rw [if_neg (show ¬ a ≥ b from h)]; simp [h]
theorem within_eq (a b c : Int) : impl_within.f a b c = some (decide (b ≤ a ∧ a ≤ c)) := l00In_eq a b c
theorem l02Cloths_l0 (l : List S38) (hs : smallS l) (hl : l.length ≤ 1048576) : ∀ (cs pre : List S38), l = pre ++ cs → Ev (fun k => spec_l02Cloths.l0 k l (pre.length : Int)) (cs.all cloth_ok) := by
  intro cs
  induction cs with
  | nil =>
    intro pre hpre
    refine Ev.step (fun k => by rw [spec_l02Cloths.l0]) ?_
    have : l.length = pre.length := by rw [hpre]; simp
    simp only [show ¬ (pre.length : Int) < (l.length : Int) by omega, ↓reduceIte]
    exact Ev.now _
  | cons c cs ih =>
    intro pre hpre
    have hlen : l.length = pre.length + cs.length + 1 := by rw [hpre]; simp; omega
    have hc : rd_T38 l (pre.length : Int) = c := by rw [hpre]; exact rdm pre c cs
    have hb := hs c (by rw [hpre]; simp)
    have hnext := ih (pre ++ [c]) (by rw [hpre]; simp)
    simp only [List.length_append, List.length_cons, List.length_nil, Nat.zero_add] at hnext
    refine Ev.step (fun k => by rw [spec_l02Cloths.l0]) ?_
    have e0 : wrap64 c.f0 = c.f0 := by unfold wrap64; omega
    have e1 : wrap64 c.f1 = c.f1 := by unfold wrap64; omega
    simp only [show (pre.length : Int) < (l.length : Int) by omega, show (0 : Int) ≤ (pre.length : Int) by omega, ↓reduceIte, hc, e0, e1, l00In_eq, Option.bind_some, decide_eq_true_eq, wsuc (show pre.length < l.length by omega) hl, List.all_cons, cloth_ok]
    by_cases h1 : 4 ≤ c.f0 ∧ c.f0 ≤ 200
    · by_cases h2 : 1 ≤ c.f1 ∧ c.f1 ≤ 500
      · simp only [h1, h2, and_self, ↓reduceIte, decide_true, Bool.true_and]
        exact hnext
      · simp only [h1, h2, and_self, ↓reduceIte, decide_true, decide_false, Bool.true_and, Bool.false_and]
        exact Ev.now _
    · simp only [h1, ↓reduceIte, decide_false, Bool.false_and]
      exact Ev.now _
theorem l02Cloths_ev (l : List S38) (hs : smallS l) (hl : l.length ≤ 1048576) : Ev (fun k => spec_l02Cloths.f k l) (l.all cloth_ok) := by
  unfold spec_l02Cloths.f
  exact l02Cloths_l0 l hs hl l [] rfl
theorem ValidCloths_eq (l : List S38) (hs : smallS l) : impl_ValidCloths.f l = some (l.all cloth_ok) := by
  unfold impl_ValidCloths.f
  rw [if_pos]
  rw [List.all_eq_true]
  intro x hx
  exact decide_eq_true (hs x hx)
theorem firstOf2 (a b : Int) : Ev (fun k => impl_firstOf.f k [a, b]) (if a = 0 then b else a) := by
  unfold impl_firstOf.f
  have e2 : ∀ a b : Int, ((([a, b] : List Int).length : Nat) : Int) = 2 := fun _ _ => rfl
  have w1 : wrap64 (0 + 1) = 1 := by unfold wrap64; omega
  have w2 : wrap64 (1 + 1) = 2 := by unfold wrap64; omega
  have r0 : rd [a, b] 0 = a := by simp [rd]
  have r1 : rd [a, b] 1 = b := by simp [rd]
  refine Ev.step (fun k => by rw [impl_firstOf.l0]) ?_
  simp only [e2, show (0 : Int) < 2 by omega, show (0 : Int) ≤ 0 by omega, ↓reduceIte, r0]
  by_cases ha : a = 0
  · simp only [ha, ↓reduceIte, w1]
    rw [ha] at r1
    refine Ev.step (fun k => by rw [impl_firstOf.l0]) ?_
    simp only [e2, show (1 : Int) < 2 by omega, show (0 : Int) ≤ 1 by omega, ↓reduceIte, r1]
    by_cases hb : b = 0
    · simp only [hb, ↓reduceIte, w2]
      refine Ev.step (fun k => by rw [impl_firstOf.l0]) ?_
      simp only [show ¬ (2 : Int) < 2 by omega, ↓reduceIte]
      exact Ev.now _
    · simp only [hb, ↓reduceIte]
      exact Ev.now _
  · simp only [ha, ↓reduceIte]
    exact Ev.now _
def codeOf (l : List S38) (n : Int) : Int := if l.all cloth_ok = true then (if (l.length : Int) ≤ n then 0 else 3) else 1
theorem clothCode_ev (l : List S38) (hs : smallS l) (n : Int) : Ev (fun k => impl_clothCode.f k l n) (codeOf l n) := by
  unfold impl_clothCode.f
  simp only [ValidCloths_eq l hs, Option.bind_some, impl_unless.f]
  cases h : l.all cloth_ok with
  | false =>
    simp only [Bool.false_eq_true, ↓reduceIte, Option.bind_some]
    by_cases hn : (l.length : Int) ≤ n
    · simp only [hn, decide_true, ↓reduceIte, Option.bind_some]
      exact Ev.bind (firstOf2 1 0) (by simp only [codeOf, h, Bool.false_eq_true, ↓reduceIte, show ¬ (1 : Int) = 0 by omega]; exact Ev.now _)
    · simp only [hn, decide_false, Bool.false_eq_true, ↓reduceIte, Option.bind_some]
      exact Ev.bind (firstOf2 1 3) (by simp only [codeOf, h, Bool.false_eq_true, ↓reduceIte, show ¬ (1 : Int) = 0 by omega]; exact Ev.now _)
  | true =>
    simp only [↓reduceIte, Option.bind_some]
    by_cases hn : (l.length : Int) ≤ n
    · simp only [hn, decide_true, ↓reduceIte, Option.bind_some]
      exact Ev.bind (firstOf2 0 0) (by simp only [codeOf, h, hn, ↓reduceIte]; exact Ev.now _)
    · simp only [hn, decide_false, Bool.false_eq_true, ↓reduceIte, Option.bind_some]
      exact Ev.bind (firstOf2 0 3) (by simp only [codeOf, h, hn, ↓reduceIte]; exact Ev.now _)
theorem l02Many_ev (l : List S38) (hs : smallS l) (hl : l.length ≤ 1048576) (n : Int) : Ev (fun k => spec_l02Many.f k l n) (codeOf l n) := by
  unfold spec_l02Many.f
  refine Ev.bind (l02Cloths_ev l hs hl) ?_
  unfold codeOf
  cases h : l.all cloth_ok with
  | false =>
    simp only [Bool.false_eq_true, ↓reduceIte]
    exact Ev.now _
  | true =>
    simp only [↓reduceIte]
    by_cases hn : (l.length : Int) ≤ n
    · simp only [hn, show ¬ (l.length : Int) > n by omega, ↓reduceIte]
      exact Ev.now _
    · simp only [hn, show (l.length : Int) > n by omega, ↓reduceIte]
      exact Ev.now _
theorem hungw_eq (l : List S38) (hl : l.length ≤ 1048576) : impl_hungw.f l = some (hungOf l) := by
  unfold impl_hungw.f
  rw [if_pos hl]
theorem l02Places_l0 (l : List S38) (hl : l.length ≤ 1048576) : ∀ (cs pre : List S38), l = pre ++ cs → ∀ (p : Int) (pl : List Int) (e : Int), pl.length = pre.length →
    Ev (fun k => spec_l02Places.l0 k l pl e (pre.length : Int)) ((hungFrom pre.getLast? p pl e cs).2.1, (hungFrom pre.getLast? p pl e cs).2.2) := by
  intro cs
  induction cs with
  | nil =>
    intro pre hpre p pl e hp
    refine Ev.step (fun k => by rw [spec_l02Places.l0]) ?_
    have : l.length = pre.length := by rw [hpre]; simp
    simp only [show ¬ (pre.length : Int) < (l.length : Int) by omega, ↓reduceIte]
    have hh : hungFrom pre.getLast? p pl e [] = (p, pl, e) := by cases pre.getLast? <;> rfl
    rw [hh]
    exact Ev.now _
  | cons c cs ih =>
    intro pre hpre p pl e hp
    have hlen : l.length = pre.length + cs.length + 1 := by rw [hpre]; simp; omega
    have hc : rd_T38 l (pre.length : Int) = c := by rw [hpre]; exact rdm pre c cs
    have hlt : (pre.length : Int) < (l.length : Int) := by omega
    have hlim : pl.length < 17592186044416 := by omega
    have hnext := fun p pl e h => ih (pre ++ [c]) (by rw [hpre]; simp) p pl e h
    simp only [List.length_append, List.length_cons, List.length_nil, Nat.zero_add, List.getLast?_append, List.getLast?_singleton, Option.some_or] at hnext
    refine Ev.step (fun k => by rw [spec_l02Places.l0]) ?_
    simp only [hlt, show (0 : Int) ≤ (pre.length : Int) by omega, ↓reduceIte, hc]
    rcases List.eq_nil_or_concat pre with rfl | ⟨pre', b, rfl⟩
    · simp only [List.length_nil, Int.natCast_zero, show ¬ ((0 : Int) > 0) by omega, ↓reduceIte, List.getLast?_nil]
      refine Ev.step (fun k => by rw [spec_l02Places.j1]) ?_
      rw [hungFrom]
      simp only [Bool.false_eq_true, ↓reduceIte, show ¬ ((0 : Int) > 0) by omega, hlim, show (0 : Int) ≤ 0 by omega]
      have h0 : ((0 : Nat) : Int) < (l.length : Int) := by simpa using hlt
      have hc0 : rd_T38 l 0 = c := by simpa using hc
      have hw : wrap64 (0 + 1) = ((0 + 1 : Nat) : Int) := by unfold wrap64; omega
      simp only [show (0 : Int) < (l.length : Int) by omega, ↓reduceIte, hc0, hw]
      exact hnext _ _ _ (by simp [hp])
    · have hw : wrap64 (((pre'.concat b).length : Int) - 1) = (pre'.length : Int) := by simp at hlen ⊢; unfold wrap64; omega
      have hb : rd_T38 l (pre'.length : Int) = b := by rw [hpre]; simp only [List.concat_eq_append, List.append_assoc]; exact rdm pre' b (c :: cs)
      have hlt2 : (pre'.length : Int) < (l.length : Int) := by simp at hlen; omega
      have hgt : ((pre'.concat b).length : Int) > 0 := by simp
      simp only [hw, hb, hgt, hlt2, show (0 : Int) ≤ (pre'.length : Int) by omega, ↓reduceIte, spec_l02Share.f, Option.bind_some]
      refine Ev.step (fun k => by rw [spec_l02Places.j1]) ?_
      have hg : (pre'.concat b).getLast? = some b := by simp
      rw [hg, hungFrom]
      simp only [hgt, hlim, hlt, show (0 : Int) ≤ ((pre'.concat b).length : Int) by omega, ↓reduceIte, hc, wsuc (show (pre'.concat b).length < l.length by omega) hl]
      by_cases hs : shareB b c = true
      · have hs' : wrap64 (wrap64 b.f1 + wrap64 c.f1) ≤ 120 := of_decide_eq_true hs
        simp only [hs, hs', decide_true, ↓reduceIte]
        exact hnext _ _ _ (by simp [hp])
      · have hs' : ¬ wrap64 (wrap64 b.f1 + wrap64 c.f1) ≤ 120 := fun h => hs (decide_eq_true h)
        simp only [hs, hs', decide_false, Bool.false_eq_true, ↓reduceIte]
        exact hnext _ _ _ (by simp [hp])
theorem l02Places_ev (l : List S38) (hl : l.length ≤ 1048576) : Ev (fun k => spec_l02Places.f k l) ((hungOf l).2.1, (hungOf l).2.2) := by
  unfold spec_l02Places.f hungOf
  exact l02Places_l0 l hl l [] rfl 0 [] 0 rfl
theorem i16wrap {x : Int} (h0 : -32768 ≤ x) (h1 : x ≤ 32767) : wrap64 x = x := by unfold wrap64; omega
def lineB (a b : Int) : Bool := decide (4 ≤ a ∧ a ≤ 2000) && decide (1 ≤ b ∧ b ≤ 2000)
theorem l02Line_eq {a b : Int} (ha : -32768 ≤ a ∧ a ≤ 32767) (hb : -32768 ≤ b ∧ b ≤ 32767) : spec_l02Line.f a b = some (lineB a b) := by
  unfold spec_l02Line.f lineB
  simp only [i16wrap ha.1 ha.2, i16wrap hb.1 hb.2, l00In_eq, Option.bind_some]
  by_cases h : 4 ≤ a ∧ a ≤ 2000 <;> simp [h]
theorem ValidLine_eq {a b : Int} (ha : -32768 ≤ a ∧ a ≤ 32767) (hb : -32768 ≤ b ∧ b ≤ 32767) : impl_ValidLine.f a b = some (lineB a b) := by
  unfold impl_ValidLine.f lineB
  simp only [i16wrap ha.1 ha.2, i16wrap hb.1 hb.2, within_eq, Option.bind_some]
  by_cases h : 4 ≤ a ∧ a ≤ 2000 <;> simp [h]
def lcode (a b : Int) (l : List S38) : Int := if lineB a b = true then codeOf l 7 else 1
theorem lineCode_ev {a b : Int} (ha : -32768 ≤ a ∧ a ≤ 32767) (hb : -32768 ≤ b ∧ b ≤ 32767) (l : List S38) (hs : smallS l) : Ev (fun k => impl_lineCode.f k a b l) (lcode a b l) := by
  unfold impl_lineCode.f
  simp only [ValidLine_eq ha hb, Option.bind_some, impl_unless.f]
  unfold lcode
  cases h : lineB a b with
  | false =>
    simp only [Bool.false_eq_true, ↓reduceIte, Option.bind_some]
    refine Ev.bind (clothCode_ev l hs 7) ?_
    refine Ev.bind (firstOf2 1 _) ?_
    simp only [show ¬ (1 : Int) = 0 by omega, ↓reduceIte]
    exact Ev.now _
  | true =>
    simp only [↓reduceIte, Option.bind_some]
    refine Ev.bind (clothCode_ev l hs 7) ?_
    refine Ev.bind (firstOf2 0 _) ?_
    simp only [↓reduceIte]
    exact Ev.now _
theorem l02Hung_ev {a b : Int} (ha : -32768 ≤ a ∧ a ≤ 32767) (hb : -32768 ≤ b ∧ b ≤ 32767) (l : List S38) (hs : smallS l) (hl : l.length ≤ 1048576) : Ev (fun k => spec_l02Hung.f k a b l) (lcode a b l) := by
  unfold spec_l02Hung.f
  simp only [l02Line_eq ha hb, Option.bind_some]
  unfold lcode
  cases h : lineB a b with
  | false =>
    simp only [Bool.false_eq_true, ↓reduceIte]
    exact Ev.now _
  | true =>
    simp only [↓reduceIte]
    exact Ev.bind (l02Many_ev l hs hl 7) (Ev.now _)
theorem lcode_len {a b : Int} {l : List S38} (h : lcode a b l = 0) : l.length ≤ 7 ∧ lineB a b = true ∧ l.all cloth_ok = true := by
  unfold lcode codeOf at h
  by_cases h1 : lineB a b = true
  · by_cases h2 : l.all cloth_ok = true
    · by_cases h3 : (l.length : Int) ≤ 7
      · exact ⟨by omega, h1, h2⟩
      · simp [h1, h2, h3] at h
    · simp [h1, h2] at h
  · simp [h1] at h
theorem l02Fits_l0 (a b : Int) (l : List S38) (hl : l.length ≤ 1048576) : ∀ (cs pre : List S38), l = pre ++ cs → ∀ x : Int,
    Ev (fun k => spec_l02Fits.l0 k l x (pre.length : Int) a b) (decide ((hungOf l).2.2 ≤ wrap64 a) && decide (heavyFrom x cs ≤ wrap64 b)) := by
  intro cs
  induction cs with
  | nil =>
    intro pre hpre x
    refine Ev.step (fun k => by rw [spec_l02Fits.l0]) ?_
    have : l.length = pre.length := by rw [hpre]; simp
    simp only [show ¬ (pre.length : Int) < (l.length : Int) by omega, ↓reduceIte]
    refine Ev.bind (l02Places_ev l hl) ?_
    by_cases h : (hungOf l).2.2 ≤ wrap64 a
    · simp only [h, ↓reduceIte, decide_true, Bool.true_and, heavyFrom]; exact Ev.now _
    · simp only [h, ↓reduceIte, decide_false, Bool.false_and]; exact Ev.now _
  | cons c cs ih =>
    intro pre hpre x
    have hlen : l.length = pre.length + cs.length + 1 := by rw [hpre]; simp; omega
    have hc : rd_T38 l (pre.length : Int) = c := by rw [hpre]; exact rdm pre c cs
    have hnext := ih (pre ++ [c]) (by rw [hpre]; simp)
    simp only [List.length_append, List.length_cons, List.length_nil, Nat.zero_add] at hnext
    refine Ev.step (fun k => by rw [spec_l02Fits.l0]) ?_
    simp only [show (pre.length : Int) < (l.length : Int) by omega, show (0 : Int) ≤ (pre.length : Int) by omega, ↓reduceIte, hc, wsuc (show pre.length < l.length by omega) hl]
    rw [heavyFrom]
    exact hnext _
theorem l02Fits_ev (a b : Int) (l : List S38) (hl : l.length ≤ 1048576) : Ev (fun k => spec_l02Fits.f k a b l) (holdsB a b l) := by
  unfold spec_l02Fits.f
  exact l02Fits_l0 a b l hl l [] rfl 0
theorem holdsw_eq (a b : Int) (l : List S38) (hl : l.length ≤ 1048576) : impl_Line_holdsw.f a b l = some (holdsB a b l) := by
  unfold impl_Line_holdsw.f
  rw [if_pos hl]
theorem l02On_l0 (l : List S38) (o : List Int) (n : Int) (ho : o.length ≤ 1048576) : ∀ (cs pre : List Int) (ls lp : List S38), o = pre ++ cs → l = lp ++ ls → lp.length = pre.length → cs.length ≤ ls.length → ∀ x : List S38, x.length ≤ pre.length →
    Ev (fun k => spec_l02On.l0 k l o n x (pre.length : Int)) (x ++ withB ls cs n) := by
  intro cs
  induction cs with
  | nil =>
    intro pre ls lp hpre hl hlp hle x hx
    refine Ev.step (fun k => by rw [spec_l02On.l0]) ?_
    have : o.length = pre.length := by rw [hpre]; simp
    simp only [show ¬ (pre.length : Int) < (o.length : Int) by omega, ↓reduceIte]
    rw [show x ++ withB ls [] n = x by simp [withB]]
    exact Ev.now _
  | cons c cs ih =>
    intro pre ls lp hpre hl hlp hle x hx
    match ls, hl, hle with
    | [], _, h => simp at h
    | d :: ls, hl, hle =>
    have hlen : o.length = pre.length + cs.length + 1 := by rw [hpre]; simp; omega
    have hllen : l.length = lp.length + ls.length + 1 := by rw [hl]; simp; omega
    have hc : rd o (pre.length : Int) = c := by rw [hpre]; exact rdim pre c cs
    have hd : rd_T38 l (pre.length : Int) = d := by rw [hl, ← hlp]; exact rdm lp d ls
    have hnext := ih (pre ++ [c]) ls (lp ++ [d]) (by rw [hpre]; simp) (by rw [hl]; simp) (by simp [hlp]) (by simpa using hle)
    simp only [List.length_append, List.length_cons, List.length_nil, Nat.zero_add] at hnext
    refine Ev.step (fun k => by rw [spec_l02On.l0]) ?_
    simp only [show (pre.length : Int) < (o.length : Int) by omega, show (0 : Int) ≤ (pre.length : Int) by omega, ↓reduceIte, hc, hd, show (pre.length : Int) < (l.length : Int) by omega, show x.length < 35184372088832 by omega, wsuc (show pre.length < o.length by omega) ho]
    by_cases h : c = n
    · simp only [h, ↓reduceIte]
      rw [show x ++ withB (d :: ls) (n :: cs) n = (x ++ [d]) ++ withB ls cs n by simp [withB]]
      exact hnext _ (by simp; omega)
    · simp only [h, ↓reduceIte]
      rw [show x ++ withB (d :: ls) (c :: cs) n = x ++ withB ls cs n by simp [withB, h]]
      exact hnext _ (by omega)
theorem l02On_ev (l : List S38) (o : List Int) (n : Int) (ho : o.length ≤ 1048576) (hle : o.length ≤ l.length) : Ev (fun k => spec_l02On.f k l o n) (withB l o n) := by
  unfold spec_l02On.f
  exact l02On_l0 l o n ho o [] l [] rfl rfl rfl hle [] (Nat.le_refl _)
theorem withB_len (l : List S38) (o : List Int) (n : Int) : (withB l o n).length ≤ o.length := by
  unfold withB
  rw [List.length_map]
  refine Nat.le_trans (List.length_filter_le _ _) ?_
  rw [List.length_zip]
  omega
theorem eqInt64S_l0 (l : List Int) (hl : l.length ≤ 1048576) : ∀ (cs pre : List Int), l = pre ++ cs → Ev (fun k => laws_eqInt64S.l0 k l l (pre.length : Int)) true := by
  intro cs
  induction cs with
  | nil =>
    intro pre hpre
    refine Ev.step (fun k => by rw [laws_eqInt64S.l0]) ?_
    have : l.length = pre.length := by rw [hpre]; simp
    simp only [show ¬ (pre.length : Int) < (l.length : Int) by omega, ↓reduceIte]
    exact Ev.now _
  | cons c cs ih =>
    intro pre hpre
    have hlen : l.length = pre.length + cs.length + 1 := by rw [hpre]; simp; omega
    have hnext := ih (pre ++ [c]) (by rw [hpre]; simp)
    simp only [List.length_append, List.length_cons, List.length_nil, Nat.zero_add] at hnext
    refine Ev.step (fun k => by rw [laws_eqInt64S.l0]) ?_
    simp only [show (pre.length : Int) < (l.length : Int) by omega, show (0 : Int) ≤ (pre.length : Int) by omega, ↓reduceIte, wsuc (show pre.length < l.length by omega) hl]
    exact hnext
theorem eqInt64S_ev (l : List Int) (hl : l.length ≤ 1048576) : Ev (fun k => laws_eqInt64S.f k l l) true := by
  unfold laws_eqInt64S.f
  simp only [↓reduceIte]
  exact eqInt64S_l0 l hl l [] rfl
def upFrom : Nat → Nat → List Int
  | _, 0 => []
  | a, n + 1 => (a : Int) :: upFrom (a + 1) n
theorem upFrom_len : ∀ n a, (upFrom a n).length = n
  | 0, _ => rfl
  | n + 1, a => by simp [upFrom, upFrom_len n]
theorem upFrom_snoc : ∀ n a, upFrom a (n + 1) = upFrom a n ++ [((a + n : Nat) : Int)]
  | 0, a => by simp [upFrom]
  | n + 1, a => by rw [upFrom, upFrom_snoc n (a + 1), upFrom, List.cons_append, show a + 1 + n = a + (n + 1) by omega]
theorem markInt64S_l0 : ∀ (cs : List Int) (n : Nat), n + cs.length ≤ 1048576 → Ev (fun k => laws_markInt64S.l0 k (upFrom 1 n ++ cs) ((n + 1 : Nat) : Int) (n : Int)) (((n + cs.length + 1 : Nat) : Int), upFrom 1 (n + cs.length)) := by
  intro cs
  induction cs with
  | nil =>
    intro n hn
    refine Ev.step (fun k => by rw [laws_markInt64S.l0]) ?_
    have : (upFrom 1 n).length = n := upFrom_len n 1
    simp only [List.append_nil, List.length_nil, Nat.add_zero, show ¬ (n : Int) < ((upFrom 1 n).length : Int) by omega, ↓reduceIte]
    exact Ev.now _
  | cons c cs ih =>
    intro n hn
    have hnext := ih (n + 1) (by simp only [List.length_cons] at hn; omega)
    simp only [List.length_cons] at hn
    have hlen : (upFrom 1 n ++ c :: cs).length = n + cs.length + 1 := by simp [upFrom_len]; omega
    have hset : (upFrom 1 n ++ c :: cs).set (n : Int).toNat ((n + 1 : Nat) : Int) = upFrom 1 (n + 1) ++ cs := by
      rw [Int.toNat_natCast, List.set_append_right _ _ (by simp [upFrom_len]), upFrom_len, Nat.sub_self, List.set_cons_zero, upFrom_snoc, Nat.add_comm 1 n]
      simp
    refine Ev.step (fun k => by rw [laws_markInt64S.l0]) ?_
    have hw : wrap64 (((n + 1 : Nat) : Int) + 1) = ((n + 1 + 1 : Nat) : Int) := by unfold wrap64; omega
    have hw0 : wrap64 ((n : Int) + 1) = ((n + 1 : Nat) : Int) := by unfold wrap64; omega
    simp only [show (n : Int) < ((upFrom 1 n ++ c :: cs).length : Int) by omega, show (0 : Int) ≤ (n : Int) by omega, ↓reduceIte, hset, hw, hw0]
    rw [show n + (c :: cs).length = n + 1 + cs.length by simp only [List.length_cons]; omega]
    exact hnext
theorem markInt64S_ev (l : List Int) (hl : l.length ≤ 1048576) : Ev (fun k => laws_markInt64S.f k l 1) (((l.length + 1 : Nat) : Int), upFrom 1 l.length) := by
  unfold laws_markInt64S.f
  have := markInt64S_l0 l 0 (by omega)
  simpa [upFrom] using this
theorem heldInt64S_l0 (m : Nat) (hm : m ≤ 1048576) : ∀ (d n : Nat), n + d = m → Ev (fun k => laws_heldInt64S.l0 k (upFrom 1 m) ((n + 1 : Nat) : Int) (n : Int)) ((m + 1 : Nat) : Int) := by
  intro d
  induction d with
  | zero =>
    intro n hn
    refine Ev.step (fun k => by rw [laws_heldInt64S.l0]) ?_
    have : (upFrom 1 m).length = m := upFrom_len m 1
    simp only [show ¬ (n : Int) < ((upFrom 1 m).length : Int) by omega, ↓reduceIte]
    rw [show n = m by omega]
    exact Ev.now _
  | succ d ih =>
    intro n hn
    have hlen : (upFrom 1 m).length = m := upFrom_len m 1
    have hget : ∀ (m a n : Nat), n < m → rd (upFrom a m) (n : Int) = ((a + n : Nat) : Int) := by
      intro m
      induction m with
      | zero => intro a n h; omega
      | succ m ihm =>
        intro a n h
        match n, h with
        | 0, _ => simp [rd, upFrom]
        | n + 1, h =>
          have := ihm (a + 1) n (by omega)
          simp only [rd, Int.toNat_natCast] at this ⊢
          rw [upFrom, List.getD_cons_succ, this, show a + 1 + n = a + (n + 1) by omega]
    have hr : rd (upFrom 1 m) (n : Int) = ((n + 1 : Nat) : Int) := by rw [hget m 1 n (by omega), Nat.add_comm]
    have hw : wrap64 (((n + 1 : Nat) : Int) + 1) = ((n + 1 + 1 : Nat) : Int) := by unfold wrap64; omega
    have hw0 : wrap64 ((n : Int) + 1) = ((n + 1 : Nat) : Int) := by unfold wrap64; omega
    refine Ev.step (fun k => by rw [laws_heldInt64S.l0]) ?_
    simp only [show (n : Int) < ((upFrom 1 m).length : Int) by omega, show (0 : Int) ≤ (n : Int) by omega, ↓reduceIte, hr, hw, hw0]
    exact ih (n + 1) (by omega)
theorem heldInt64S_ev (m : Nat) (hm : m ≤ 1048576) : Ev (fun k => laws_heldInt64S.f k (upFrom 1 m) 1) ((m + 1 : Nat) : Int) := by
  unfold laws_heldInt64S.f
  have := heldInt64S_l0 m hm m 0 (by omega)
  simpa using this
theorem markClothS_l0 : ∀ (d n : Nat) (l : List S38), l.length = n + d → n + d ≤ 1048576 → ∃ r : List S38, Ev (fun k => laws_markClothS.l0 k l ((2 * n + 1 : Nat) : Int) (n : Int)) (((2 * (n + d) + 1 : Nat) : Int), r) := by
  intro d
  induction d with
  | zero =>
    intro n l hl hn
    refine ⟨l, Ev.step (fun k => by rw [laws_markClothS.l0]) ?_⟩
    simp only [show ¬ (n : Int) < (l.length : Int) by omega, ↓reduceIte, Nat.add_zero]
    exact Ev.now _
  | succ d ih =>
    intro n l hl hn
    have hw : wrap64 (((2 * n + 1 : Nat) : Int) + 1) = ((2 * n + 2 : Nat) : Int) := by unfold wrap64; omega
    have hw1 : wrap64 (((2 * n + 2 : Nat) : Int) + 1) = ((2 * (n + 1) + 1 : Nat) : Int) := by unfold wrap64; omega
    have hw0 : wrap64 ((n : Int) + 1) = ((n + 1 : Nat) : Int) := by unfold wrap64; omega
    let y : List S38 := l.set (n : Int).toNat (⟨IntKind.i16.wrap ((2 * n + 1 : Nat) : Int), (rd_T38 l (n : Int)).f1⟩ : S38)
    let z : List S38 := y.set (n : Int).toNat (⟨(rd_T38 y (n : Int)).f0, IntKind.i16.wrap ((2 * n + 2 : Nat) : Int)⟩ : S38)
    obtain ⟨r, hr⟩ := ih (n + 1) z (by simp [z, y]; omega) (by omega)
    refine ⟨r, Ev.step (fun k => by rw [laws_markClothS.l0]) ?_⟩
    simp only [show (n : Int) < (l.length : Int) by omega, show (0 : Int) ≤ (n : Int) by omega, ↓reduceIte, Option.bind_some, hw, hw1, hw0]
    rw [show n + (d + 1) = n + 1 + d by omega]
    exact hr
theorem markClothS_ev (l : List S38) (hl : l.length ≤ 1048576) : ∃ r : List S38, Ev (fun k => laws_markClothS.f k l 1) (((2 * l.length + 1 : Nat) : Int), r) := by
  unfold laws_markClothS.f
  have := markClothS_l0 l.length 0 l (by omega) (by omega)
  simpa using this
theorem alone_l0 (a b : Int) (l : List S38) (hl : l.length ≤ 1048576) : ∀ (cs pre : List S38), l = pre ++ cs →
    Ev (fun k => spec_l02Alone.l0 k l (pre.length : Int) a b) (cs.all fun c => holdsB a b [c]) := by
  intro cs
  induction cs with
  | nil =>
    intro pre hpre
    refine Ev.step (fun k => by rw [spec_l02Alone.l0]) ?_
    have : l.length = pre.length := by rw [hpre]; simp
    simp only [show ¬ (pre.length : Int) < (l.length : Int) by omega, ↓reduceIte, List.all_nil]
    exact Ev.now _
  | cons c cs ih =>
    intro pre hpre
    have hlen : l.length = pre.length + cs.length + 1 := by rw [hpre]; simp; omega
    have hnext := ih (pre ++ [c]) (by rw [hpre]; simp)
    simp only [List.length_append, List.length_cons, List.length_nil, Nat.zero_add] at hnext
    have hsl : (l.take (((pre.length + 1 : Nat) : Int)).toNat).drop (pre.length : Int).toNat = [c] := by
      rw [Int.toNat_natCast, Int.toNat_natCast, hpre, List.take_append, List.drop_append]
      simp
    refine Ev.step (fun k => by rw [spec_l02Alone.l0]) ?_
    simp only [show (pre.length : Int) < (l.length : Int) by omega, show (0 : Int) ≤ (pre.length : Int) by omega, wsuc (show pre.length < l.length by omega) hl, show (pre.length : Int) ≤ ((pre.length + 1 : Nat) : Int) by omega, show ((pre.length + 1 : Nat) : Int) ≤ (l.length : Int) by omega, ↓reduceIte, hsl, List.all_cons]
    refine Ev.bind (l02Fits_ev a b [c] (by simp)) ?_
    cases hh : holdsB a b [c] with
    | true =>
      simp only [↓reduceIte, Bool.true_and]
      exact hnext
    | false =>
      simp only [Bool.false_eq_true, ↓reduceIte, Bool.false_and]
      exact Ev.now _
theorem alone_ev (a b : Int) (l : List S38) (hl : l.length ≤ 1048576) : Ev (fun k => spec_l02Alone.f k a b l) (l.all fun c => holdsB a b [c]) := by
  unfold spec_l02Alone.f
  exact alone_l0 a b l hl l [] rfl
theorem withB_none (l : List S38) (out : List Int) (n : Int) (h : ∀ x ∈ out, x ≠ n) : withB l out n = [] := by
  unfold withB
  rw [List.map_eq_nil_iff, List.filter_eq_nil_iff]
  intro x hx
  have := h x.1 (List.of_mem_zip hx).1
  simp [this]
theorem firstOf3 (a b c : Int) : Ev (fun k => impl_firstOf.f k [a, b, c]) (if a = 0 then (if b = 0 then c else b) else a) := by
  unfold impl_firstOf.f
  have e2 : ∀ a b c : Int, ((([a, b, c] : List Int).length : Nat) : Int) = 3 := fun _ _ _ => rfl
  have w1 : wrap64 (0 + 1) = 1 := by unfold wrap64; omega
  have w2 : wrap64 (1 + 1) = 2 := by unfold wrap64; omega
  have w3 : wrap64 (2 + 1) = 3 := by unfold wrap64; omega
  have r0 : rd [a, b, c] 0 = a := by simp [rd]
  have r1 : rd [a, b, c] 1 = b := by simp [rd]
  have r2 : rd [a, b, c] 2 = c := by simp [rd]
  refine Ev.step (fun k => by rw [impl_firstOf.l0]) ?_
  simp only [e2, show (0 : Int) < 3 by omega, show (0 : Int) ≤ 0 by omega, ↓reduceIte, r0]
  by_cases ha : a = 0
  · simp only [ha, ↓reduceIte, w1]
    rw [ha] at r1 r2
    refine Ev.step (fun k => by rw [impl_firstOf.l0]) ?_
    simp only [e2, show (1 : Int) < 3 by omega, show (0 : Int) ≤ 1 by omega, ↓reduceIte, r1]
    by_cases hb : b = 0
    · simp only [hb, ↓reduceIte, w2]
      rw [hb] at r2
      refine Ev.step (fun k => by rw [impl_firstOf.l0]) ?_
      simp only [e2, show (2 : Int) < 3 by omega, show (0 : Int) ≤ 2 by omega, ↓reduceIte, r2]
      by_cases hc : c = 0
      · simp only [hc, ↓reduceIte, w3]
        refine Ev.step (fun k => by rw [impl_firstOf.l0]) ?_
        simp only [show ¬ (3 : Int) < 3 by omega, ↓reduceIte]
        exact Ev.now _
      · simp only [hc, ↓reduceIte]
        exact Ev.now _
    · simp only [hb, ↓reduceIte]
      exact Ev.now _
  · simp only [ha, ↓reduceIte]
    exact Ev.now _
def fitO (a b : Int) (l : List S38) (o : List Int) (k : Int) : Bool := holdsB a b (withB l o k ++ [rd_T38 l (o.length : Int)])
theorem behindO (a b : Int) (l : List S38) (hl : l.length ≤ 1048576) (o : List Int) (ho : o.length < l.length) (k : Int) : impl_Line_fitsBehind.f a b l o k = some (fitO a b l o k) := by
  have hw := withB_len l o k
  unfold impl_Line_fitsBehind.f impl_withNumber_impl_Clothw.f
  rw [if_pos ⟨by omega, by omega⟩]
  simp only [Option.bind_some, show (0 : Int) ≤ (o.length : Int) by omega, show (o.length : Int) < (l.length : Int) by omega, ↓reduceIte, List.length_cons, List.length_nil, show (withB l o k).length + (0 + 1) < 35184372088832 by omega]
  rw [holdsw_eq _ _ _ (by simp; omega)]
  rfl
theorem fitT_ev (a b : Int) (l : List S38) (hl : l.length ≤ 1048575) (o : List Int) (ho : o.length < l.length) (k : Int) : Ev (fun K => fitT K a b l o k) (fitO a b l o k) := by
  have hw := withB_len l o k
  unfold fitT
  refine Ev.bind (l02On_ev l o k (by omega) (by omega)) ?_
  simp only [show (withB l o k).length ≤ 1048576 by omega, ↓reduceIte]
  exact l02Fits_ev a b _ (by simp; omega)
abbrev R4 := List Int × Bool × Int × Bool
def doneR (x : R4) : Prop := x.2.1 = true ∨ x.2.2.2 = true
instance (x : R4) : Decidable (doneR x) := inferInstanceAs (Decidable (x.2.1 = true ∨ x.2.2.2 = true))
def hangLB (step : Nat → Int → R4) : Nat → Nat → Int → R4
  | 0, _, t => ([], false, t, false)
  | r + 1, kk, t => if doneR (step kk t) then step kk t else hangLB step r (kk + 1) (step kk t).2.2.1
def hangB (fit : List Int → Int → Bool) (bud : Int) (most : Nat) : Nat → List Int → Nat → Int → R4
  | 0, o, _, t => (o, true, t, false)
  | d + 1, o, u, t => hangLB (fun k t => if fit o (k : Int) = false then ([], false, t, false) else if t = bud then ([], false, t, true) else hangB fit bud most d (o ++ [(k : Int)]) (max u (k + 1)) (t + 1)) (min (u + 1) most) 0 t
theorem hangL_ev {s : Nat → Nat → Int → Option R4} {sB : Nat → Int → R4} (h : ∀ kk t, Ev (fun K => s K kk t) (sB kk t)) : ∀ (r kk : Nat) (t : Int), Ev (fun K => hangL (s K) r kk t) (hangLB sB r kk t)
  | 0, kk, t => by
    simp only [hangL, hangLB]
    exact Ev.now _
  | r + 1, kk, t => by
    simp only [hangL]
    rw [hangLB]
    refine Ev.bind (h kk t) ?_
    by_cases hc : doneR (sB kk t)
    · rw [if_pos hc]
      have hc' : (sB kk t).2.1 = true ∨ (sB kk t).2.2.2 = true := hc
      simp only [if_pos hc']
      exact Ev.now _
    · rw [if_neg hc]
      have hc' : ¬ ((sB kk t).2.1 = true ∨ (sB kk t).2.2.2 = true) := hc
      simp only [if_neg hc']
      exact hangL_ev h r _ _
theorem hangS_ev {f : Nat → List Int → Int → Option Bool} {fB : List Int → Int → Bool} {n : Nat} (h : ∀ o k, o.length < n → Ev (fun K => f K o k) (fB o k)) (bud : Int) (most : Nat) : ∀ (d : Nat) (o : List Int) (u : Nat) (t : Int), o.length + d = n →
    Ev (fun K => hangS (f K) bud most d o u t) (hangB fB bud most d o u t)
  | 0, o, u, t, _ => by
    simp only [hangS, hangB]
    exact Ev.now _
  | d + 1, o, u, t, ho => by
    simp only [hangS]
    rw [hangB]
    refine hangL_ev (s := fun K k t => (f K o (k : Int)).bind fun b => if b = false then some ([], false, t, false) else if t = bud then some ([], false, t, true) else hangS (f K) bud most d (o ++ [(k : Int)]) (max u (k + 1)) (t + 1)) (fun kk t => ?_) _ _ _
    refine Ev.bind (h o _ (by omega)) ?_
    cases hb : fB o (kk : Int) with
    | false =>
      simp only [↓reduceIte]
      exact Ev.now _
    | true =>
      simp only [Bool.true_eq_false, ↓reduceIte]
      by_cases ht : t = bud
      · simp only [ht, ↓reduceIte]
        exact Ev.now _
      · simp only [ht, ↓reduceIte]
        exact hangS_ev h bud most d _ _ _ (by simp; omega)
theorem hangLB_done {step : Nat → Int → R4} : ∀ (r kk : Nat) (t : Int) (k0 : Nat), kk ≤ k0 → k0 < kk + r → (∀ t', doneR (step k0 t')) → doneR (hangLB step r kk t)
  | 0, _, _, _, h1, h2, _ => by omega
  | r + 1, kk, t, k0, h1, h2, h => by
    rw [hangLB]
    split
    · assumption
    · rename_i hn
      have : kk ≠ k0 := fun e => hn (e ▸ h t)
      exact hangLB_done r (kk + 1) _ k0 (by omega) (by omega) h
theorem hangB_done {fit : List Int → Int → Bool} {n : Nat} (hf : ∀ (o : List Int) (u : Nat), o.length < n → (∀ x ∈ o, x < (u : Int)) → fit o (u : Int) = true) (bud : Int) (most : Nat) (hm : n ≤ most) : ∀ (d : Nat) (o : List Int) (u : Nat) (t : Int), o.length + d = n → u ≤ o.length → (∀ x ∈ o, x < (u : Int)) →
    doneR (hangB fit bud most d o u t)
  | 0, o, u, t, _, _, _ => by
    rw [hangB]
    exact Or.inl rfl
  | d + 1, o, u, t, ho, hu, hx => by
    rw [hangB]
    refine hangLB_done _ 0 t u (Nat.zero_le _) (by omega) (fun t' => ?_)
    rw [if_neg (by rw [hf o u (by omega) hx]; decide)]
    split
    · exact Or.inr rfl
    · refine hangB_done hf bud most hm d _ _ _ (by simp; omega) (by simp; omega) (fun x hxm => ?_)
      rcases List.mem_append.mp hxm with h | h
      · have := hx x h
        omega
      · rw [List.mem_singleton] at h
        omega
theorem hangLB_len {step : Nat → Int → R4} {n : Nat} (h : ∀ k t, (step k t).1.length ≤ n) : ∀ (r kk : Nat) (t : Int), (hangLB step r kk t).1.length ≤ n
  | 0, _, _ => by simp [hangLB]
  | r + 1, kk, t => by
    rw [hangLB]
    split
    · exact h _ _
    · exact hangLB_len h r _ _
theorem hangB_len (fit : List Int → Int → Bool) (bud : Int) (most : Nat) : ∀ (d : Nat) (o : List Int) (u : Nat) (t : Int), (hangB fit bud most d o u t).1.length ≤ o.length + d
  | 0, o, u, t => by simp [hangB]
  | d + 1, o, u, t => by
    rw [hangB]
    refine hangLB_len (fun k t => ?_) _ _ _
    split
    · simp
    · split
      · simp
      · have := hangB_len fit bud most d (o ++ [(k : Int)]) (max u (k + 1)) (t + 1)
        simp only [List.length_append, List.length_cons, List.length_nil] at this
        omega
def hangMB (S : Nat → Int → R4) : Nat → Nat → Int → List Int × Int × Int
  | 0, m, t => if (S m t).2.1 = true then ((S m t).1, (S m t).2.2.1, 0) else ([], 0, 7)
  | d + 1, m, t => if (S m t).2.1 = true then ((S m t).1, (S m t).2.2.1, 0) else if (S m t).2.2.2 = true then ([], 0, 7) else hangMB S d (m + 1) (S m t).2.2.1
theorem hangM_ev {S : Nat → Nat → Int → Option R4} {SB : Nat → Int → R4} (h : ∀ m t, Ev (fun K => S K m t) (SB m t)) {n : Nat} (hn : n ≤ 999) (hd : ∀ t, doneR (SB n t)) : ∀ (d m : Nat) (t : Int), m + d = n →
    ∃ K0 r0, ∀ K, K0 ≤ K → ∀ r, r0 ≤ r → hangM (S K) r m t = some (hangMB SB d m t)
  | 0, m, t, hmd => by
    obtain ⟨K0, h0⟩ := h m t
    refine ⟨K0, 1, fun K hK r hr => ?_⟩
    obtain ⟨r, rfl⟩ : ∃ q, r = q + 1 := ⟨r - 1, by omega⟩
    have hd' := hd t
    rw [show n = m by omega] at hd'
    rw [hangM, show S K m t = some (SB m t) from h0 K hK, hangMB]
    simp only [Option.bind_some]
    by_cases h1 : (SB m t).2.1 = true
    · rw [if_pos h1, if_pos h1]
    · rw [if_neg h1, if_neg h1, if_pos (hd'.resolve_left h1)]
  | d + 1, m, t, hmd => by
    obtain ⟨K0, h0⟩ := h m t
    obtain ⟨K1, r1, h1⟩ := hangM_ev h hn hd d (m + 1) (SB m t).2.2.1 (by omega)
    refine ⟨max K0 K1, r1 + 1, fun K hK r hr => ?_⟩
    obtain ⟨r, rfl⟩ : ∃ q, r = q + 1 := ⟨r - 1, by omega⟩
    rw [hangM, show S K m t = some (SB m t) from h0 K (by omega), hangMB]
    simp only [Option.bind_some]
    by_cases h2 : (SB m t).2.1 = true
    · rw [if_pos h2, if_pos h2]
    · rw [if_neg h2, if_neg h2]
      by_cases h3 : (SB m t).2.2.2 = true
      · rw [if_pos h3, if_pos h3]
      · rw [if_neg h3, if_neg h3, if_pos (by omega)]
        exact h1 K (by omega) r (by omega)
theorem hangM_ev' {S : Nat → Nat → Int → Option R4} {SB : Nat → Int → R4} (h : ∀ m t, Ev (fun K => S K m t) (SB m t)) {n : Nat} (hn : n ≤ 999) (hd : ∀ t, doneR (SB n t)) : Ev (fun K => hangM (S K) K 0 0) (hangMB SB n 0 0) := by
  obtain ⟨K0, r0, h0⟩ := hangM_ev h hn hd n 0 0 (by omega)
  exact ⟨max K0 r0, fun k hk => h0 k (by omega) k (by omega)⟩
theorem hangMB_len {S : Nat → Int → R4} {n : Nat} (h : ∀ m t, (S m t).1.length ≤ n) : ∀ (d m : Nat) (t : Int), (hangMB S d m t).1.length ≤ n
  | 0, m, t => by
    rw [hangMB]
    split
    · exact h _ _
    · simp
  | d + 1, m, t => by
    rw [hangMB]
    split
    · exact h _ _
    · split
      · simp
      · exact hangMB_len h d _ _
theorem fit_alone {a b : Int} {l : List S38} (hal : l.all (fun c => holdsB a b [c]) = true) (o : List Int) (u : Nat) (ho : o.length < l.length) (hx : ∀ x ∈ o, x < (u : Int)) : fitO a b l o (u : Int) = true := by
  unfold fitO
  rw [withB_none l o _ (fun x h => by have := hx x h; omega)]
  refine List.all_eq_true.mp hal _ ?_
  unfold rd_T38
  rw [Int.toNat_natCast, List.getD_eq_getElem?_getD, List.getElem?_eq_getElem ho]
  exact List.getElem_mem ho
def fewSB (a b : Int) (l : List S38) (bud : Int) : Nat → Int → R4 := fun m t => hangB (fitO a b l) bud m l.length [] 0 t
def fewR (a b : Int) (l : List S38) (bud : Int) : List Int × Int × Int :=
  if lcode a b l = 0 then (if 0 ≤ bud ∧ bud ≤ 20000 then (if (l.all fun c => holdsB a b [c]) = true then hangMB (fewSB a b l bud) l.length 0 0 else ([], 0, 6)) else ([], 0, 2)) else ([], 0, lcode a b l)
theorem fewR_len (a b : Int) (l : List S38) (bud : Int) : (fewR a b l bud).1.length ≤ l.length := by
  unfold fewR
  split
  · split
    · split
      · refine hangMB_len (fun m t => ?_) _ _ _
        have := hangB_len (fitO a b l) bud m l.length [] 0 t
        simpa [fewSB] using this
      · simp
    · simp
  · simp
theorem impl_Few_ev {a b : Int} (ha : -32768 ≤ a ∧ a ≤ 32767) (hb : -32768 ≤ b ∧ b ≤ 32767) (l : List S38) (hs : smallS l) (bud : Int) : Ev (fun k => impl_FewestLines.f k a b l bud) (fewR a b l bud) := by
  unfold impl_FewestLines.f fewR impl_Line_fitAlone.f
  refine Ev.bind (lineCode_ev ha hb _ hs) ?_
  have hw : impl_within.f bud 0 20000 = some (decide (0 ≤ bud ∧ bud ≤ 20000)) := by
    unfold impl_within.f
    by_cases h0 : 0 ≤ bud
    · rw [if_pos h0]; simp [h0]
    · rw [if_neg h0]; simp [h0]
  simp only [hw, Option.bind_some, impl_unless.f]
  by_cases hbd : 0 ≤ bud ∧ bud ≤ 20000
  · simp only [hbd, and_self, decide_true, ↓reduceIte, Option.bind_some]
    refine Ev.bind (firstOf3 _ _ _) ?_
    by_cases h : lcode a b l = 0
    · simp only [h, ↓reduceIte]
      by_cases hal : (l.all fun c => holdsB a b [c]) = true
      · simp only [hal, ↓reduceIte]
        have hn := (lcode_len h).1
        simp only [show l.length ≤ 1000 by omega, and_self, ↓reduceIte]
        refine hangM_ev' (S := fun K m t => hangS (impl_Line_fitsBehind.f a b l) bud m l.length [] 0 t) (SB := fewSB a b l bud) (fun m t => ?_) (by omega) (fun t => hangB_done (fun o u ho hx => fit_alone hal o u ho hx) bud _ (Nat.le_refl _) _ [] 0 t (by simp) (Nat.le_refl _) (by simp))
        refine hangS_ev (f := fun _ => impl_Line_fitsBehind.f a b l) (n := l.length) (fun o k ho => ?_) bud m l.length [] 0 t (by simp)
        simp only [behindO a b l (by omega) o ho]
        exact Ev.now _
      · simp only [hal, Bool.false_eq_true, ↓reduceIte, show ¬ (6 : Int) = 0 by omega]
        exact Ev.now _
    · simp only [h, ↓reduceIte]
      exact Ev.now _
  · simp only [hbd, decide_false, Bool.false_eq_true, ↓reduceIte, Option.bind_some]
    refine Ev.bind (firstOf3 _ _ _) ?_
    by_cases h : lcode a b l = 0
    · simp only [h, ↓reduceIte, show ¬ (2 : Int) = 0 by omega]
      exact Ev.now _
    · simp only [h, ↓reduceIte]
      exact Ev.now _
theorem spec_Few_ev {a b : Int} (ha : -32768 ≤ a ∧ a ≤ 32767) (hb : -32768 ≤ b ∧ b ≤ 32767) (l : List S38) (hs : smallS l) (hl : l.length ≤ 1048576) (bud : Int) : Ev (fun k => spec_FewestLines.f k a b l bud) (fewR a b l bud) := by
  unfold spec_FewestLines.f fewR
  refine Ev.bind (l02Hung_ev ha hb _ hs hl) ?_
  by_cases h : lcode a b l = 0
  · simp only [h, ↓reduceIte]
    have hw : spec_l00In.f bud 0 20000 = some (decide (0 ≤ bud ∧ bud ≤ 20000)) := by
      unfold spec_l00In.f
      by_cases h0 : 0 ≤ bud
      · rw [if_pos h0]; simp [h0]
      · rw [if_neg h0]; simp [h0]
    simp only [hw, Option.bind_some]
    by_cases hbd : 0 ≤ bud ∧ bud ≤ 20000
    · simp only [hbd, and_self, decide_true, ↓reduceIte]
      refine Ev.bind (alone_ev a b l hl) ?_
      by_cases hal : (l.all fun c => holdsB a b [c]) = true
      · simp only [hal, ↓reduceIte]
        have hn := (lcode_len h).1
        simp only [show l.length ≤ 1000 by omega, and_self, ↓reduceIte]
        refine hangM_ev' (S := fun K m t => hangS (fitT K a b l) bud m l.length [] 0 t) (SB := fewSB a b l bud) (fun m t => ?_) (by omega) (fun t => hangB_done (fun o u ho hx => fit_alone hal o u ho hx) bud _ (Nat.le_refl _) _ [] 0 t (by simp) (Nat.le_refl _) (by simp))
        exact hangS_ev (f := fun K => fitT K a b l) (n := l.length) (fun o k ho => fitT_ev a b l (by omega) o ho k) bud m l.length [] 0 t (by simp)
      · simp only [hal, Bool.false_eq_true, ↓reduceIte]
        exact Ev.now _
    · simp only [hbd, decide_false, Bool.false_eq_true, ↓reduceIte]
      exact Ev.now _
  · simp only [h, ↓reduceIte]
    exact Ev.now _
theorem FnExactFewestLines (a0_0 : Int) (a0_1 : Int) (l1 : List S43) (a2 : Int) (w0_0 : (Lit.int .i16 a0_0).wf = true) (w0_1 : (Lit.int .i16 a0_1).wf = true) (y1 : l1.length ≤ 9223372036854775807) (w1 : ∀ x ∈ l1, (Lit.int .i16 x.f0).wf = true ∧ (Lit.int .i16 x.f1).wf = true) (w2 : (Lit.int .i64 a2).wf = true) : ∃ k, laws_FnExactFewestLines.f k a0_0 a0_1 l1 a2 = some true := by
  have ha := bounds_i16 w0_0
  have hb := bounds_i16 w0_1
  refine Ev.rounds ?_
  unfold laws_FnExactFewestLines.f
  simp only [szClothS_eq l1 1048576 (by omega) (by omega) y1, Option.bind_some, laws_toLine.f]
  by_cases hl : (l1.length : Int) ≤ 1048576
  · simp only [hl, ↓reduceIte, show ¬ (1048576 - (l1.length : Int) < 0) by omega]
    have hl' : l1.length ≤ 1048576 := by omega
    have hs := toS_small w1
    have hlS : (toS l1).length ≤ 1048576 := by rw [toS_len]; exact hl'
    have hR : (fewR a0_0 a0_1 (toS l1) a2).1.length ≤ 1048576 := Nat.le_trans (fewR_len _ _ _ _) hlS
    refine Ev.bind (toClothS_ev l1 hl') ?_
    refine Ev.bind (spec_Few_ev ha hb _ hs hlS a2) ?_
    refine Ev.bind (toClothS_ev l1 hl') ?_
    refine Ev.bind (impl_Few_ev ha hb _ hs a2) ?_
    refine Ev.bind (eqInt64S_ev _ hR) ?_
    simp only [↓reduceIte, bne_self_eq_false]
    refine Ev.step (fun k => by rw [laws_FnExactFewestLines.j0]) ?_
    simp only [Bool.false_eq_true, ↓reduceIte]
    refine Ev.bind (toClothS_ev l1 hl') ?_
    refine Ev.bind (eqClothS_ev _ hlS) ?_
    simp only [↓reduceIte]
    obtain ⟨r, hr⟩ := markClothS_ev (toS l1) hlS
    refine Ev.bind hr ?_
    simp only [show ¬ ((2 * (toS l1).length + 1 : Nat) : Int) < 0 by omega, ↓reduceIte]
    refine Ev.bind (eqInt64S_ev _ hR) ?_
    simp only [↓reduceIte, bne_self_eq_false]
    refine Ev.step (fun k => by rw [laws_FnExactFewestLines.j1]) ?_
    simp only [Bool.false_eq_true, ↓reduceIte]
    refine Ev.bind (markInt64S_ev _ hR) ?_
    refine Ev.bind (heldInt64S_ev _ hR) ?_
    simp only [show ∀ n : Nat, ¬ ((n + 1 : Nat) : Int) < 0 by intro n; omega, ↓reduceIte, laws_toLine.f, Option.bind_some]
    refine Ev.bind (toClothS_ev l1 hl') ?_
    refine Ev.bind (impl_Few_ev ha hb _ hs a2) ?_
    refine Ev.bind (eqInt64S_ev _ hR) ?_
    simp only [↓reduceIte, bne_self_eq_false]
    refine Ev.step (fun k => by rw [laws_FnExactFewestLines.j2]) ?_
    simp only [Bool.false_eq_true, ↓reduceIte]
    refine Ev.bind (heldInt64S_ev _ hR) ?_
    simp only [show ∀ n : Nat, ¬ ((n + 1 : Nat) : Int) < 0 by intro n; omega, ↓reduceIte]
    exact Ev.now _
  · simp only [hl, ↓reduceIte, show (-1 : Int) < 0 by omega]
    exact Ev.now _
end Go.Proofs.Ytlkpgpnieodifaa.Pure
