/- The plain law of FnExactLeastSag. -/
import Derived.Test.YtlkpgpnieodifaaLs8
import Derived.OpenShut
namespace Go.Proofs.Ytlkpgpnieodifaa.Pure
set_option linter.unusedSimpArgs false
set_option linter.unusedVariables false
open Go.RowKit Go.Proofs.Ytlkpgpnieodifaa.Ls Go.Proofs.YtlkpgpnieodifaaW.PrintWords Go.Proofs.YtlkpgpnieodifaaW.PrintLast Go.Proofs.YtlkpgpnieodifaaW.PrintMore
theorem rdm (pre : List S38) (c : S38) (cs : List S38) : rd_T38 (pre ++ c :: cs) (pre.length : Int) = c := by simp [rd_T38, List.getD_eq_getElem?_getD]
theorem rdim (pre : List Int) (c : Int) (cs : List Int) : rd (pre ++ c :: cs) (pre.length : Int) = c := by simp [rd, List.getD_eq_getElem?_getD]
theorem wsuc {i n : Nat} (h : i < n) (hn : n ≤ 1048576) : wrap64 ((i : Int) + 1) = ((i + 1 : Nat) : Int) := by unfold wrap64; omega
def toS (l : List S43) : List S38 := l.map fun x => ⟨x.f0, x.f1⟩
def smallS (l : List S38) : Prop := ∀ x ∈ l, -32768 ≤ x.f0 ∧ x.f0 ≤ 32767 ∧ -32768 ≤ x.f1 ∧ x.f1 ≤ 32767
theorem toS_len (l : List S43) : (toS l).length = l.length := by simp [toS]
theorem toS_small {l : List S43} (w : ∀ x ∈ l, (Lit.int .i16 x.f0).wf = true ∧ (Lit.int .i16 x.f1).wf = true) : smallS (toS l) := by
  intro x hx
  obtain ⟨y, hy, rfl⟩ := List.mem_map.mp hx
  have h0 := bounds_i16 (w y hy).1
  have h1 := bounds_i16 (w y hy).2
  exact ⟨h0.1, h0.2, h1.1, h1.2⟩
theorem rd43_mid (pre : List S43) (c : S43) (cs : List S43) : rd_T43 (pre ++ c :: cs) (pre.length : Int) = c := by simp [rd_T43, List.getD_eq_getElem?_getD]
theorem toClothS_l0 (l : List S43) (hl : l.length ≤ 1048576) : ∀ (cs pre : List S43), l = pre ++ cs →
    Ev (fun k => laws_toClothS.l0 k l (toS pre ++ List.replicate cs.length z38) (pre.length : Int)) (toS l) := by
  intro cs
  induction cs with
  | nil =>
    intro pre hpre
    refine Ev.step (fun k => by rw [laws_toClothS.l0]) ?_
    have : l.length = pre.length := by rw [hpre]; simp
    simp only [show ¬ (pre.length : Int) < (l.length : Int) by omega, ↓reduceIte]
    rw [show l = pre by rw [hpre]; simp]
    simp only [List.length_nil, List.replicate_zero, List.append_nil]
    exact Ev.now _
  | cons c cs ih =>
    intro pre hpre
    have hlen : l.length = pre.length + cs.length + 1 := by rw [hpre]; simp; omega
    have hc : rd_T43 l (pre.length : Int) = c := by rw [hpre]; exact rd43_mid pre c cs
    have hnext := ih (pre ++ [c]) (by rw [hpre]; simp)
    simp only [List.length_append, List.length_cons, List.length_nil, Nat.zero_add] at hnext
    have hx : (pre.length : Int) < ((toS pre ++ List.replicate (cs.length + 1) z38).length : Int) := by simp [toS]; omega
    have hset : (toS pre ++ List.replicate (cs.length + 1) z38).set (pre.length : Int).toNat (⟨c.f0, c.f1⟩ : S38) = toS (pre ++ [c]) ++ List.replicate cs.length z38 := by
      rw [Int.toNat_natCast, List.set_append_right _ _ (by simp [toS]), toS_len, Nat.sub_self, List.replicate_succ, List.set_cons_zero]
      simp [toS]
    refine Ev.step (fun k => by rw [laws_toClothS.l0]) ?_
    simp only [List.length_cons, show (pre.length : Int) < (l.length : Int) by omega, show (0 : Int) ≤ (pre.length : Int) by omega, ↓reduceIte, hc, laws_toCloth.f, Option.bind_some, hx, hset, wsuc (show pre.length < l.length by omega) hl]
    exact hnext
theorem toClothS_ev (l : List S43) (hl : l.length ≤ 1048576) : Ev (fun k => laws_toClothS.f k l) (toS l) := by
  have := toClothS_l0 l hl l [] rfl
  unfold laws_toClothS.f
  simp only [show (0 : Int) ≤ (l.length : Int) by omega, Int.toNat_natCast, show l.length ≤ 70368744177664 by omega, ↓reduceIte]
  exact this
theorem eqClothS_l0 (l : List S38) (hl : l.length ≤ 1048576) : ∀ (cs pre : List S38), l = pre ++ cs → Ev (fun k => laws_eqClothS.l0 k l l (pre.length : Int)) true := by
  intro cs
  induction cs with
  | nil =>
    intro pre hpre
    refine Ev.step (fun k => by rw [laws_eqClothS.l0]) ?_
    have : l.length = pre.length := by rw [hpre]; simp
    simp only [show ¬ (pre.length : Int) < (l.length : Int) by omega, ↓reduceIte]
    exact Ev.now _
  | cons c cs ih =>
    intro pre hpre
    have hlen : l.length = pre.length + cs.length + 1 := by rw [hpre]; simp; omega
    have hnext := ih (pre ++ [c]) (by rw [hpre]; simp)
    simp only [List.length_append, List.length_cons, List.length_nil, Nat.zero_add] at hnext
    refine Ev.step (fun k => by rw [laws_eqClothS.l0]) ?_
    simp only [show (pre.length : Int) < (l.length : Int) by omega, show (0 : Int) ≤ (pre.length : Int) by omega, ↓reduceIte, laws_eqCloth.f, Option.bind_some, wsuc (show pre.length < l.length by omega) hl]
    exact hnext
theorem eqClothS_ev (l : List S38) (hl : l.length ≤ 1048576) : Ev (fun k => laws_eqClothS.f k l l) true := by
  unfold laws_eqClothS.f
  simp only [↓reduceIte]
  exact eqClothS_l0 l hl l [] rfl
theorem szClothS_eq (l : List S43) (a : Int) (h0 : 0 ≤ a) (h1 : a ≤ 1048576) (hl : l.length ≤ 9223372036854775807) : laws_szClothS.f l a = some (if (l.length : Int) ≤ a then a - (l.length : Int) else -1) := by
  unfold laws_szClothS.f
  have e : wrap64 (a - (l.length : Int)) = a - (l.length : Int) := by unfold wrap64; omega
  rw [e]
  by_cases h : (l.length : Int) ≤ a
  · rw [if_neg (by omega), if_pos h]
  · rw [if_pos (by omega), if_neg h]
theorem l00In_eq (a b c : Int) : spec_l00In.f a b c = some (decide (b ≤ a ∧ a ≤ c)) := by
  unfold spec_l00In.f
  by_cases h : b ≤ a
  · rw [if_pos (show a ≥ b from h)]; simp [h]
  · rw [if_neg (show ¬ a ≥ b from h)]; simp [h]
theorem within_eq (a b c : Int) : impl_within.f a b c = some (decide (b ≤ a ∧ a ≤ c)) := l00In_eq a b c
theorem l02Cloths_l0 (l : List S38) (hs : smallS l) (hl : l.length ≤ 1048576) : ∀ (cs pre : List S38), l = pre ++ cs → Ev (fun k => spec_l02Cloths.l0 k l (pre.length : Int)) (cs.all cloth_ok) := by
  intro cs
  induction cs with
  | nil =>
    intro pre hpre
    refine Ev.step (fun k => by rw [spec_l02Cloths.l0]) ?_
    have : l.length = pre.length := by rw [hpre]; simp
    simp only [show ¬ (pre.length : Int) < (l.length : Int) by omega, ↓reduceIte]
    exact Ev.now _
  | cons c cs ih =>
    intro pre hpre
    have hlen : l.length = pre.length + cs.length + 1 := by rw [hpre]; simp; omega
    have hc : rd_T38 l (pre.length : Int) = c := by rw [hpre]; exact rdm pre c cs
    have hb := hs c (by rw [hpre]; simp)
    have hnext := ih (pre ++ [c]) (by rw [hpre]; simp)
    simp only [List.length_append, List.length_cons, List.length_nil, Nat.zero_add] at hnext
    refine Ev.step (fun k => by rw [spec_l02Cloths.l0]) ?_
    have e0 : wrap64 c.f0 = c.f0 := by unfold wrap64; omega
    have e1 : wrap64 c.f1 = c.f1 := by unfold wrap64; omega
    simp only [show (pre.length : Int) < (l.length : Int) by omega, show (0 : Int) ≤ (pre.length : Int) by omega, ↓reduceIte, hc, e0, e1, l00In_eq, Option.bind_some, decide_eq_true_eq, wsuc (show pre.length < l.length by omega) hl, List.all_cons, cloth_ok]
    by_cases h1 : 4 ≤ c.f0 ∧ c.f0 ≤ 200
    · by_cases h2 : 1 ≤ c.f1 ∧ c.f1 ≤ 500
      · simp only [h1, h2, and_self, ↓reduceIte, decide_true, Bool.true_and]
        exact hnext
      · simp only [h1, h2, and_self, ↓reduceIte, decide_true, decide_false, Bool.true_and, Bool.false_and]
        exact Ev.now _
    · simp only [h1, ↓reduceIte, decide_false, Bool.false_and]
      exact Ev.now _
theorem l02Cloths_ev (l : List S38) (hs : smallS l) (hl : l.length ≤ 1048576) : Ev (fun k => spec_l02Cloths.f k l) (l.all cloth_ok) := by
  unfold spec_l02Cloths.f
  exact l02Cloths_l0 l hs hl l [] rfl
theorem ValidCloths_eq (l : List S38) (hs : smallS l) : impl_ValidCloths.f l = some (l.all cloth_ok) := by
  unfold impl_ValidCloths.f
  rw [if_pos]
  rw [List.all_eq_true]
  intro x hx
  exact decide_eq_true (hs x hx)
theorem firstOf2 (a b : Int) : Ev (fun k => impl_firstOf.f k [a, b]) (if a = 0 then b else a) := by
  unfold impl_firstOf.f
  have e2 : ∀ a b : Int, ((([a, b] : List Int).length : Nat) : Int) = 2 := fun _ _ => rfl
  have w1 : wrap64 (0 + 1) = 1 := by unfold wrap64; omega
  have w2 : wrap64 (1 + 1) = 2 := by unfold wrap64; omega
  have r0 : rd [a, b] 0 = a := by simp [rd]
  have r1 : rd [a, b] 1 = b := by simp [rd]
  refine Ev.step (fun k => by rw [impl_firstOf.l0]) ?_
  simp only [e2, show (0 : Int) < 2 by omega, show (0 : Int) ≤ 0 by omega, ↓reduceIte, r0]
  by_cases ha : a = 0
  · simp only [ha, ↓reduceIte, w1]
    rw [ha] at r1
    refine Ev.step (fun k => by rw [impl_firstOf.l0]) ?_
    simp only [e2, show (1 : Int) < 2 by omega, show (0 : Int) ≤ 1 by omega, ↓reduceIte, r1]
    by_cases hb : b = 0
    · simp only [hb, ↓reduceIte, w2]
      refine Ev.step (fun k => by rw [impl_firstOf.l0]) ?_
      simp only [show ¬ (2 : Int) < 2 by omega, ↓reduceIte]
      exact Ev.now _
    · simp only [hb, ↓reduceIte]
      exact Ev.now _
  · simp only [ha, ↓reduceIte]
    exact Ev.now _
def codeOf (l : List S38) (n : Int) : Int := if l.all cloth_ok = true then (if (l.length : Int) ≤ n then 0 else 3) else 1
theorem clothCode_ev (l : List S38) (hs : smallS l) (n : Int) : Ev (fun k => impl_clothCode.f k l n) (codeOf l n) := by
  unfold impl_clothCode.f
  simp only [ValidCloths_eq l hs, Option.bind_some, impl_unless.f]
  cases h : l.all cloth_ok with
  | false =>
    simp only [Bool.false_eq_true, ↓reduceIte, Option.bind_some]
    by_cases hn : (l.length : Int) ≤ n
    · simp only [hn, decide_true, ↓reduceIte, Option.bind_some]
      exact Ev.bind (firstOf2 1 0) (by simp only [codeOf, h, Bool.false_eq_true, ↓reduceIte, show ¬ (1 : Int) = 0 by omega]; exact Ev.now _)
    · simp only [hn, decide_false, Bool.false_eq_true, ↓reduceIte, Option.bind_some]
      exact Ev.bind (firstOf2 1 3) (by simp only [codeOf, h, Bool.false_eq_true, ↓reduceIte, show ¬ (1 : Int) = 0 by omega]; exact Ev.now _)
  | true =>
    simp only [↓reduceIte, Option.bind_some]
    by_cases hn : (l.length : Int) ≤ n
    · simp only [hn, decide_true, ↓reduceIte, Option.bind_some]
      exact Ev.bind (firstOf2 0 0) (by simp only [codeOf, h, hn, ↓reduceIte]; exact Ev.now _)
    · simp only [hn, decide_false, Bool.false_eq_true, ↓reduceIte, Option.bind_some]
      exact Ev.bind (firstOf2 0 3) (by simp only [codeOf, h, hn, ↓reduceIte]; exact Ev.now _)
theorem l02Many_ev (l : List S38) (hs : smallS l) (hl : l.length ≤ 1048576) (n : Int) : Ev (fun k => spec_l02Many.f k l n) (codeOf l n) := by
  unfold spec_l02Many.f
  refine Ev.bind (l02Cloths_ev l hs hl) ?_
  unfold codeOf
  cases h : l.all cloth_ok with
  | false =>
    simp only [Bool.false_eq_true, ↓reduceIte]
    exact Ev.now _
  | true =>
    simp only [↓reduceIte]
    by_cases hn : (l.length : Int) ≤ n
    · simp only [hn, show ¬ (l.length : Int) > n by omega, ↓reduceIte]
      exact Ev.now _
    · simp only [hn, show (l.length : Int) > n by omega, ↓reduceIte]
      exact Ev.now _
theorem hungw_eq (l : List S38) (hl : l.length ≤ 1048576) : impl_hungw.f l = some (hungOf l) := by
  unfold impl_hungw.f
  rw [if_pos hl]
theorem l02Places_l0 (l : List S38) (hl : l.length ≤ 1048576) : ∀ (cs pre : List S38), l = pre ++ cs → ∀ (p : Int) (pl : List Int) (e : Int), pl.length = pre.length →
    Ev (fun k => spec_l02Places.l0 k l pl e (pre.length : Int)) ((hungFrom pre.getLast? p pl e cs).2.1, (hungFrom pre.getLast? p pl e cs).2.2) := by
  intro cs
  induction cs with
  | nil =>
    intro pre hpre p pl e hp
    refine Ev.step (fun k => by rw [spec_l02Places.l0]) ?_
    have : l.length = pre.length := by rw [hpre]; simp
    simp only [show ¬ (pre.length : Int) < (l.length : Int) by omega, ↓reduceIte]
    have hh : hungFrom pre.getLast? p pl e [] = (p, pl, e) := by cases pre.getLast? <;> rfl
    rw [hh]
    exact Ev.now _
  | cons c cs ih =>
    intro pre hpre p pl e hp
    have hlen : l.length = pre.length + cs.length + 1 := by rw [hpre]; simp; omega
    have hc : rd_T38 l (pre.length : Int) = c := by rw [hpre]; exact rdm pre c cs
    have hlt : (pre.length : Int) < (l.length : Int) := by omega
    have hlim : pl.length < 17592186044416 := by omega
    have hnext := fun p pl e h => ih (pre ++ [c]) (by rw [hpre]; simp) p pl e h
    simp only [List.length_append, List.length_cons, List.length_nil, Nat.zero_add, List.getLast?_append, List.getLast?_singleton, Option.some_or] at hnext
    refine Ev.step (fun k => by rw [spec_l02Places.l0]) ?_
    simp only [hlt, show (0 : Int) ≤ (pre.length : Int) by omega, ↓reduceIte, hc]
    rcases List.eq_nil_or_concat pre with rfl | ⟨pre', b, rfl⟩
    · simp only [List.length_nil, Int.natCast_zero, show ¬ ((0 : Int) > 0) by omega, ↓reduceIte, List.getLast?_nil]
      refine Ev.step (fun k => by rw [spec_l02Places.j1]) ?_
      rw [hungFrom]
      simp only [Bool.false_eq_true, ↓reduceIte, show ¬ ((0 : Int) > 0) by omega, hlim, show (0 : Int) ≤ 0 by omega]
      have h0 : ((0 : Nat) : Int) < (l.length : Int) := by simpa using hlt
      have hc0 : rd_T38 l 0 = c := by simpa using hc
      have hw : wrap64 (0 + 1) = ((0 + 1 : Nat) : Int) := by unfold wrap64; omega
      simp only [show (0 : Int) < (l.length : Int) by omega, ↓reduceIte, hc0, hw]
      exact hnext _ _ _ (by simp [hp])
    · have hw : wrap64 (((pre'.concat b).length : Int) - 1) = (pre'.length : Int) := by simp at hlen ⊢; unfold wrap64; omega
      have hb : rd_T38 l (pre'.length : Int) = b := by rw [hpre]; simp only [List.concat_eq_append, List.append_assoc]; exact rdm pre' b (c :: cs)
      have hlt2 : (pre'.length : Int) < (l.length : Int) := by simp at hlen; omega
      have hgt : ((pre'.concat b).length : Int) > 0 := by simp
      simp only [hw, hb, hgt, hlt2, show (0 : Int) ≤ (pre'.length : Int) by omega, ↓reduceIte, spec_l02Share.f, Option.bind_some]
      refine Ev.step (fun k => by rw [spec_l02Places.j1]) ?_
      have hg : (pre'.concat b).getLast? = some b := by simp
      rw [hg, hungFrom]
      simp only [hgt, hlim, hlt, show (0 : Int) ≤ ((pre'.concat b).length : Int) by omega, ↓reduceIte, hc, wsuc (show (pre'.concat b).length < l.length by omega) hl]
      by_cases hs : shareB b c = true
      · have hs' : wrap64 (wrap64 b.f1 + wrap64 c.f1) ≤ 120 := of_decide_eq_true hs
        simp only [hs, hs', decide_true, ↓reduceIte]
        exact hnext _ _ _ (by simp [hp])
      · have hs' : ¬ wrap64 (wrap64 b.f1 + wrap64 c.f1) ≤ 120 := fun h => hs (decide_eq_true h)
        simp only [hs, hs', decide_false, Bool.false_eq_true, ↓reduceIte]
        exact hnext _ _ _ (by simp [hp])
theorem l02Places_ev (l : List S38) (hl : l.length ≤ 1048576) : Ev (fun k => spec_l02Places.f k l) ((hungOf l).2.1, (hungOf l).2.2) := by
  unfold spec_l02Places.f hungOf
  exact l02Places_l0 l hl l [] rfl 0 [] 0 rfl
theorem hungFrom_plen : ∀ (cs : List S38) (o : Option S38) (p : Int) (pl : List Int) (e : Int), (hungFrom o p pl e cs).2.1.length = pl.length + cs.length
  | [], o, p, pl, e => by cases o <;> simp [hungFrom]
  | c :: cs, none, p, pl, e => by rw [hungFrom, hungFrom_plen cs]; simp; omega
  | c :: cs, some b, p, pl, e => by
    rw [hungFrom]
    split <;> (rw [hungFrom_plen cs]; simp; omega)
theorem hungOf_plen (l : List S38) : (hungOf l).2.1.length = l.length := by unfold hungOf; rw [hungFrom_plen]; simp
theorem i16wrap {x : Int} (h0 : -32768 ≤ x) (h1 : x ≤ 32767) : wrap64 x = x := by unfold wrap64; omega
def lineB (a b : Int) : Bool := decide (4 ≤ a ∧ a ≤ 2000) && decide (1 ≤ b ∧ b ≤ 2000)
theorem l02Line_eq {a b : Int} (ha : -32768 ≤ a ∧ a ≤ 32767) (hb : -32768 ≤ b ∧ b ≤ 32767) : spec_l02Line.f a b = some (lineB a b) := by
  unfold spec_l02Line.f lineB
  simp only [i16wrap ha.1 ha.2, i16wrap hb.1 hb.2, l00In_eq, Option.bind_some]
  by_cases h : 4 ≤ a ∧ a ≤ 2000 <;> simp [h]
theorem ValidLine_eq {a b : Int} (ha : -32768 ≤ a ∧ a ≤ 32767) (hb : -32768 ≤ b ∧ b ≤ 32767) : impl_ValidLine.f a b = some (lineB a b) := by
  unfold impl_ValidLine.f lineB
  simp only [i16wrap ha.1 ha.2, i16wrap hb.1 hb.2, within_eq, Option.bind_some]
  by_cases h : 4 ≤ a ∧ a ≤ 2000 <;> simp [h]
def lcode (a b : Int) (l : List S38) : Int := if lineB a b = true then codeOf l 7 else 1
theorem lineCode_ev {a b : Int} (ha : -32768 ≤ a ∧ a ≤ 32767) (hb : -32768 ≤ b ∧ b ≤ 32767) (l : List S38) (hs : smallS l) : Ev (fun k => impl_lineCode.f k a b l) (lcode a b l) := by
  unfold impl_lineCode.f
  simp only [ValidLine_eq ha hb, Option.bind_some, impl_unless.f]
  unfold lcode
  cases h : lineB a b with
  | false =>
    simp only [Bool.false_eq_true, ↓reduceIte, Option.bind_some]
    refine Ev.bind (clothCode_ev l hs 7) ?_
    refine Ev.bind (firstOf2 1 _) ?_
    simp only [show ¬ (1 : Int) = 0 by omega, ↓reduceIte]
    exact Ev.now _
  | true =>
    simp only [↓reduceIte, Option.bind_some]
    refine Ev.bind (clothCode_ev l hs 7) ?_
    refine Ev.bind (firstOf2 0 _) ?_
    simp only [↓reduceIte]
    exact Ev.now _
theorem l02Hung_ev {a b : Int} (ha : -32768 ≤ a ∧ a ≤ 32767) (hb : -32768 ≤ b ∧ b ≤ 32767) (l : List S38) (hs : smallS l) (hl : l.length ≤ 1048576) : Ev (fun k => spec_l02Hung.f k a b l) (lcode a b l) := by
  unfold spec_l02Hung.f
  simp only [l02Line_eq ha hb, Option.bind_some]
  unfold lcode
  cases h : lineB a b with
  | false =>
    simp only [Bool.false_eq_true, ↓reduceIte]
    exact Ev.now _
  | true =>
    simp only [↓reduceIte]
    exact Ev.bind (l02Many_ev l hs hl 7) (Ev.now _)
theorem lcode_len {a b : Int} {l : List S38} (h : lcode a b l = 0) : l.length ≤ 7 ∧ lineB a b = true ∧ l.all cloth_ok = true := by
  unfold lcode codeOf at h
  by_cases h1 : lineB a b = true
  · by_cases h2 : l.all cloth_ok = true
    · by_cases h3 : (l.length : Int) ≤ 7
      · exact ⟨by omega, h1, h2⟩
      · simp [h1, h2, h3] at h
    · simp [h1, h2] at h
  · simp [h1] at h
theorem l02Fits_l0 (a b : Int) (l : List S38) (hl : l.length ≤ 1048576) : ∀ (cs pre : List S38), l = pre ++ cs → ∀ x : Int,
    Ev (fun k => spec_l02Fits.l0 k l x (pre.length : Int) a b) (decide ((hungOf l).2.2 ≤ wrap64 a) && decide (heavyFrom x cs ≤ wrap64 b)) := by
  intro cs
  induction cs with
  | nil =>
    intro pre hpre x
    refine Ev.step (fun k => by rw [spec_l02Fits.l0]) ?_
    have : l.length = pre.length := by rw [hpre]; simp
    simp only [show ¬ (pre.length : Int) < (l.length : Int) by omega, ↓reduceIte]
    refine Ev.bind (l02Places_ev l hl) ?_
    by_cases h : (hungOf l).2.2 ≤ wrap64 a
    · simp only [h, ↓reduceIte, decide_true, Bool.true_and, heavyFrom]; exact Ev.now _
    · simp only [h, ↓reduceIte, decide_false, Bool.false_and]; exact Ev.now _
  | cons c cs ih =>
    intro pre hpre x
    have hlen : l.length = pre.length + cs.length + 1 := by rw [hpre]; simp; omega
    have hc : rd_T38 l (pre.length : Int) = c := by rw [hpre]; exact rdm pre c cs
    have hnext := ih (pre ++ [c]) (by rw [hpre]; simp)
    simp only [List.length_append, List.length_cons, List.length_nil, Nat.zero_add] at hnext
    refine Ev.step (fun k => by rw [spec_l02Fits.l0]) ?_
    simp only [show (pre.length : Int) < (l.length : Int) by omega, show (0 : Int) ≤ (pre.length : Int) by omega, ↓reduceIte, hc, wsuc (show pre.length < l.length by omega) hl]
    rw [heavyFrom]
    exact hnext _
theorem l02Fits_ev (a b : Int) (l : List S38) (hl : l.length ≤ 1048576) : Ev (fun k => spec_l02Fits.f k a b l) (holdsB a b l) := by
  unfold spec_l02Fits.f
  exact l02Fits_l0 a b l hl l [] rfl 0
theorem holdsw_eq (a b : Int) (l : List S38) (hl : l.length ≤ 1048576) : impl_Line_holdsw.f a b l = some (holdsB a b l) := by
  unfold impl_Line_holdsw.f
  rw [if_pos hl]
theorem l02Sag_l0 (lg : Int) (hg : lg ≠ 0) (l : List S38) (hl : l.length ≤ 1048576) (places : List Int) (hp : places.length = l.length) :
    ∀ (cs pre : List S38) (ps pp : List Int), l = pre ++ cs → places = pp ++ ps → pp.length = pre.length → ∀ x : Int,
    Ev (fun k => spec_l02Sag.l0 k l x lg places (pre.length : Int)) (sagFrom lg x ps cs) := by
  intro cs
  induction cs with
  | nil =>
    intro pre ps pp hpre hpp hlp x
    refine Ev.step (fun k => by rw [spec_l02Sag.l0]) ?_
    have : l.length = pre.length := by rw [hpre]; simp
    simp only [show ¬ (pre.length : Int) < (l.length : Int) by omega, ↓reduceIte]
    cases ps <;> exact Ev.now _
  | cons c cs ih =>
    intro pre ps pp hpre hpp hlp x
    have hlen : l.length = pre.length + cs.length + 1 := by rw [hpre]; simp; omega
    have hplen : places.length = pp.length + ps.length := by rw [hpp]; simp
    match ps, hpp, hplen with
    | [], _, h => simp at h; omega
    | q :: ps, hpp, _ =>
    have hc : rd_T38 l (pre.length : Int) = c := by rw [hpre]; exact rdm pre c cs
    have hq : rd places (pre.length : Int) = q := by rw [hpp, ← hlp]; exact rdim pp q ps
    have hnext := ih (pre ++ [c]) ps (pp ++ [q]) (by rw [hpre]; simp) (by rw [hpp]; simp) (by simp [hlp])
    simp only [List.length_append, List.length_cons, List.length_nil, Nat.zero_add] at hnext
    refine Ev.step (fun k => by rw [spec_l02Sag.l0]) ?_
    have hmin : ∀ m n : Int, spec_l00Min.f m n = some (mn m n) := by
      intro m n
      unfold spec_l00Min.f mn
      by_cases h : m < n
      · simp only [h, ↓reduceIte, show ¬ n < m by omega]
      · simp only [h, ↓reduceIte]
        by_cases h2 : n < m
        · simp only [h2, ↓reduceIte]
        · rw [if_neg h2, show n = m by omega]
    simp only [show (pre.length : Int) < (l.length : Int) by omega, show (pre.length : Int) < (places.length : Int) by omega, show (0 : Int) ≤ (pre.length : Int) by omega, ↓reduceIte, hc, hq, hg, hmin, Option.bind_some, wsuc (show pre.length < l.length by omega) hl]
    rw [sagFrom, sagStep]
    exact hnext _
theorem l02Sag_ev (a b : Int) (l : List S38) (hl : l.length ≤ 1048576) (h0 : wrap64 (2 * wrap64 a) ≠ 0) : Ev (fun k => spec_l02Sag.f k a b l) (sagB a l) := by
  unfold spec_l02Sag.f
  refine Ev.bind (l02Places_ev l hl) ?_
  exact l02Sag_l0 _ h0 l hl _ (hungOf_plen l) l [] _ [] rfl rfl rfl 0
theorem sagw_eq (a b : Int) (l : List S38) (hl : l.length ≤ 1048576) (h0 : wrap64 (2 * wrap64 a) ≠ 0) : impl_Line_sagw.f a b l = some (sagB a l) := by
  unfold impl_Line_sagw.f
  rw [if_pos ⟨hl, h0⟩]
theorem lineB_long {a b : Int} (h : lineB a b = true) : wrap64 (2 * wrap64 a) ≠ 0 := by
  unfold lineB at h
  rw [Bool.and_eq_true, decide_eq_true_eq] at h
  have e : wrap64 a = a := by unfold wrap64; omega
  rw [e]
  unfold wrap64
  omega
def ordersB (n : Nat) : Nat → List Int → List (List Int)
  | 0, o => [o]
  | d + 1, o => (List.range n).flatMap fun (i : Nat) => if o.contains (i : Int) = true then [] else ordersB n d (o ++ [(i : Int)])
theorem dfs_orders (sc : List Int → Int) (n : Nat) : ∀ (d : Nat) (o : List Int) (s : List Int × Int), dfsB sc n d o s = (ordersB n d o).foldl (fun s o => updB sc o s) s
  | 0, o, s => rfl
  | d + 1, o, s => by
    rw [dfsB, ordersB, List.foldl_flatMap]
    congr 1
    funext s i
    by_cases h : o.contains (i : Int) = true
    · rw [if_pos h, if_pos h]; rfl
    · rw [if_neg h, if_neg h, dfs_orders sc n d]
theorem orders_valid (n : Nat) : ∀ (d : Nat) (o : List Int), o.length + d = n → ValidO n o → ∀ x ∈ ordersB n d o, x.length = n ∧ ValidO n x
  | 0, o, hd, hv, x, hx => by
    rw [ordersB, List.mem_singleton] at hx
    subst hx
    exact ⟨by omega, hv⟩
  | d + 1, o, hd, hv, x, hx => by
    rw [ordersB, List.mem_flatMap] at hx
    obtain ⟨i, hi, hx⟩ := hx
    rw [List.mem_range] at hi
    split at hx
    · cases hx
    · refine orders_valid n d (o ++ [(i : Int)]) (by simp; omega) (fun y hy => ?_) x hx
      rcases List.mem_append.mp hy with hy | hy
      · exact hv y hy
      · rw [List.mem_singleton] at hy
        omega
theorem orders_le (n : Nat) : ∀ (d : Nat) (o : List Int), (ordersB n d o).length ≤ n ^ d
  | 0, o => by simp [ordersB]
  | d + 1, o => by
    rw [ordersB, List.length_flatMap]
    have : ∀ (l : List Nat), (l.map fun i : Nat => (if o.contains (i : Int) = true then ([] : List (List Int)) else ordersB n d (o ++ [(i : Int)])).length).sum ≤ l.length * n ^ d := by
      intro l
      induction l with
      | nil => simp
      | cons a l ih =>
        rw [List.map_cons, List.sum_cons, List.length_cons, Nat.add_mul, Nat.one_mul, Nat.add_comm]
        refine Nat.add_le_add ih ?_
        split
        · simp
        · exact orders_le n d _
    have h := this (List.range n)
    rw [List.length_range] at h
    rw [Nat.pow_succ, Nat.mul_comm]
    exact h
def upTo (m : Nat) : List Int := (List.range m).map fun i : Nat => (i : Int)
theorem orders_some (n : Nat) : ∀ (d m : Nat), m + d = n → ordersB n d (upTo m) ≠ []
  | 0, m, _ => by simp [ordersB]
  | d + 1, m, h => by
    intro he
    rw [ordersB, List.flatMap_eq_nil_iff] at he
    have hm := he m (List.mem_range.mpr (by omega))
    have hc : (upTo m).contains (m : Int) = false := by
      rw [Bool.eq_false_iff]
      intro hc
      rw [List.contains_iff_mem] at hc
      obtain ⟨i, hi, hii⟩ := List.mem_map.mp hc
      rw [List.mem_range] at hi
      omega
    rw [if_neg (by rw [hc]; decide)] at hm
    refine orders_some n d (m + 1) (by omega) ?_
    rw [show upTo (m + 1) = upTo m ++ [(m : Int)] by simp [upTo, List.range_succ]]
    exact hm
theorem l00Own_eq (o : List Int) (h : o.length ≤ 1048576) : spec_l00Own.f o = some o := by
  unfold spec_l00Own.f
  simp only [Option.bind_some, List.length_nil, List.nil_append]
  rw [if_pos (by omega)]
theorem l00Has_l0 (l : List Int) (hl : l.length ≤ 1048576) (x : Int) : ∀ (cs pre : List Int), l = pre ++ cs → Ev (fun k => spec_l00Has.l0 k l x (pre.length : Int)) (cs.contains x) := by
  intro cs
  induction cs with
  | nil =>
    intro pre hpre
    refine Ev.step (fun k => by rw [spec_l00Has.l0]) ?_
    have : l.length = pre.length := by rw [hpre]; simp
    simp only [show ¬ (pre.length : Int) < (l.length : Int) by omega, ↓reduceIte]
    exact Ev.now _
  | cons c cs ih =>
    intro pre hpre
    have hlen : l.length = pre.length + cs.length + 1 := by rw [hpre]; simp; omega
    have hc : rd l (pre.length : Int) = c := by rw [hpre]; exact rdim pre c cs
    have hnext := ih (pre ++ [c]) (by rw [hpre]; simp)
    simp only [List.length_append, List.length_cons, List.length_nil, Nat.zero_add] at hnext
    refine Ev.step (fun k => by rw [spec_l00Has.l0]) ?_
    simp only [show (pre.length : Int) < (l.length : Int) by omega, show (0 : Int) ≤ (pre.length : Int) by omega, ↓reduceIte, hc, wsuc (show pre.length < l.length by omega) hl]
    by_cases h : c = x
    · simp only [h, ↓reduceIte]
      rw [show (x :: cs).contains x = true by simp]
      exact Ev.now _
    · simp only [h, ↓reduceIte]
      rw [show (c :: cs).contains x = cs.contains x by simp [List.contains_cons, Ne.symm h]]
      exact hnext
theorem l00Has_ev (l : List Int) (hl : l.length ≤ 1048576) (x : Int) : Ev (fun k => spec_l00Has.f k l x) (l.contains x) := by
  unfold spec_l00Has.f
  exact l00Has_l0 l hl x l [] rfl
def partB (n d : Nat) (o : List Int) (l : List Nat) : List (List Int) := l.flatMap fun (i : Nat) => if o.contains (i : Int) = true then [] else ordersB n d (o ++ [(i : Int)])
theorem pow7 {n d : Nat} (hn : n ≤ 7) (hd : d ≤ 7) : n ^ d ≤ 823543 := Nat.le_trans (Nat.pow_le_pow_left hn d) (Nat.le_trans (Nat.pow_le_pow_right (by omega) hd) (by decide))
theorem part_le (n d : Nat) (o : List Int) (l : List Nat) : (partB n d o l).length ≤ l.length * n ^ d := by
  induction l with
  | nil => simp [partB]
  | cons a l ih =>
    unfold partB at ih ⊢
    rw [List.flatMap_cons, List.length_append, List.length_cons, Nat.add_mul, Nat.one_mul, Nat.add_comm]
    refine Nat.add_le_add ih ?_
    split
    · simp
    · exact orders_le n d _
theorem orders_ev (n : Nat) (hn : n ≤ 7) : ∀ (d : Nat) (o : List Int), o.length + d = n → Ev (fun k => spec_l02Orders.f k (n : Int) o) (ordersB n d o) := by
  intro d
  induction d with
  | zero =>
    intro o hd
    refine Ev.step (fun k => by rw [spec_l02Orders.f]) ?_
    simp only [show (o.length : Int) = (n : Int) by omega, ↓reduceIte, l00Own_eq o (by omega), Option.bind_some]
    exact Ev.now _
  | succ d ih =>
    intro o hd
    refine Ev.step (fun k => by rw [spec_l02Orders.f]) ?_
    simp only [show ¬ (o.length : Int) = (n : Int) by omega, ↓reduceIte]
    have key : ∀ (m i : Nat), i + m = n → Ev (fun k => spec_l02Orders.l0 k (n : Int) o (partB n d o (List.range i)) (i : Int)) (ordersB n (d + 1) o) := by
      intro m
      induction m with
      | zero =>
        intro i hi
        refine Ev.step (fun k => by rw [spec_l02Orders.l0]) ?_
        simp only [show ¬ (i : Int) < (n : Int) by omega, ↓reduceIte]
        rw [show i = n by omega]
        exact Ev.now _
      | succ m ihm =>
        intro i hi
        have hnext := ihm (i + 1) (by omega)
        have hw : wrap64 ((i : Int) + 1) = ((i + 1 : Nat) : Int) := by unfold wrap64; omega
        have hsn : partB n d o (List.range (i + 1)) = partB n d o (List.range i) ++ (if o.contains (i : Int) = true then [] else ordersB n d (o ++ [(i : Int)])) := by
          unfold partB
          rw [List.range_succ, List.flatMap_append]
          simp
        refine Ev.step (fun k => by rw [spec_l02Orders.l0]) ?_
        simp only [show (i : Int) < (n : Int) by omega, ↓reduceIte]
        refine Ev.bind (l00Has_ev o (by omega) (i : Int)) ?_
        by_cases h : o.contains (i : Int) = true
        · rw [if_pos h, List.append_nil] at hsn
          rw [hsn] at hnext
          simp only [h, ↓reduceIte, hw]
          exact hnext
        · rw [if_neg h] at hsn
          rw [hsn] at hnext
          simp only [h, Bool.false_eq_true, ↓reduceIte, hw, l00Own_eq o (by omega), Option.bind_some, show o.length < 17592186044416 by omega]
          refine Ev.bind (ih (o ++ [(i : Int)]) (by simp; omega)) ?_
          have b1 := part_le n d o (List.range i)
          have b2 := orders_le n d (o ++ [(i : Int)])
          have b3 := pow7 (d := d) hn (by omega)
          rw [List.length_range] at b1
          have b4 : i * n ^ d ≤ 7 * 823543 := Nat.mul_le_mul (by omega) b3
          simp only [show (partB n d o (List.range i)).length + (ordersB n d (o ++ [(i : Int)])).length < 5864062014805 by omega, ↓reduceIte]
          exact hnext
    exact key n 0 (by omega)
theorem l02In_l0 (l : List S38) (o : List Int) (ho : o.length ≤ 1048576) : ∀ (cs pre : List Int), o = pre ++ cs → inRange l.length cs = true → ∀ x : List S38, x.length = pre.length →
    Ev (fun k => spec_l02In.l0 k l o x (pre.length : Int)) (x ++ pickedB l cs) := by
  intro cs
  induction cs with
  | nil =>
    intro pre hpre hr x hx
    refine Ev.step (fun k => by rw [spec_l02In.l0]) ?_
    have : o.length = pre.length := by rw [hpre]; simp
    simp only [show ¬ (pre.length : Int) < (o.length : Int) by omega, ↓reduceIte]
    rw [show x ++ pickedB l [] = x by simp [pickedB]]
    exact Ev.now _
  | cons c cs ih =>
    intro pre hpre hr x hx
    have hlen : o.length = pre.length + cs.length + 1 := by rw [hpre]; simp; omega
    have hc : rd o (pre.length : Int) = c := by rw [hpre]; exact rdim pre c cs
    rw [inRange, List.all_cons, Bool.and_eq_true, Bool.and_eq_true, decide_eq_true_eq, decide_eq_true_eq] at hr
    obtain ⟨⟨h0, h1⟩, hr⟩ := hr
    have hnext := ih (pre ++ [c]) (by rw [hpre]; simp) hr
    simp only [List.length_append, List.length_cons, List.length_nil, Nat.zero_add] at hnext
    refine Ev.step (fun k => by rw [spec_l02In.l0]) ?_
    simp only [show (pre.length : Int) < (o.length : Int) by omega, show (0 : Int) ≤ (pre.length : Int) by omega, ↓reduceIte, hc, h0, h1, show x.length < 35184372088832 by omega, wsuc (show pre.length < o.length by omega) ho]
    rw [show x ++ pickedB l (c :: cs) = (x ++ [rd_T38 l c]) ++ pickedB l cs by simp [pickedB]]
    exact hnext _ (by simp [hx])
theorem l02In_ev (l : List S38) (o : List Int) (ho : o.length ≤ 1048576) (hr : inRange l.length o = true) : Ev (fun k => spec_l02In.f k l o) (pickedB l o) := by
  unfold spec_l02In.f
  exact l02In_l0 l o ho o [] rfl hr [] rfl
theorem picked_len (l : List S38) (o : List Int) : (pickedB l o).length = o.length := by simp [pickedB]
theorem inRange_v (l : List S38) (o : List Int) (h : ValidO l.length o) : inRange l.length o = true := by
  unfold inRange
  rw [List.all_eq_true]
  intro x hx
  have := h x hx
  simp [this.1, this.2]
/-- The least of a list of orders, the first of them. -/
def leastB (sc : List Int → Int) : List (List Int) → List Int × Int → List Int × Int
  | [], s => s
  | o :: os, s => leastB sc os (if sc o < s.2 then (o, sc o) else s)
theorem least_upd (sc : List Int → Int) : ∀ (os : List (List Int)) (s : List Int × Int), 0 ≤ s.2 → (∀ o ∈ os, 0 ≤ sc o) → os.foldl (fun s o => updB sc o s) s = leastB sc os s
  | [], s, _, _ => rfl
  | o :: os, s, hs, h => by
    have ho := h o (by simp)
    rw [List.foldl_cons, leastB]
    by_cases hl : sc o < s.2
    · rw [if_pos hl, show updB sc o s = (o, sc o) from if_pos ⟨ho, .inr hl⟩]
      exact least_upd sc os _ ho (fun x hx => h x (by simp [hx]))
    · rw [if_neg hl, show updB sc o s = s from if_neg (fun hh => hh.2.elim (by omega) hl)]
      exact least_upd sc os s hs (fun x hx => h x (by simp [hx]))
theorem best_least (sc : List Int → Int) (n : Nat) (o : List Int) (os : List (List Int)) (he : ordersB n n [] = o :: os) (h : ∀ x ∈ o :: os, 0 ≤ sc x) : bestB sc n = leastB sc os (o, sc o) := by
  rw [bestB, dfs_orders, he, List.foldl_cons, show updB sc o ([], -1) = (o, sc o) from if_pos ⟨h o (by simp), .inl (by omega)⟩]
  exact least_upd sc os _ (h o (by simp)) (fun x hx => h x (by simp [hx]))
theorem least_len (sc : List Int → Int) (n : Nat) : ∀ (os : List (List Int)) (s : List Int × Int), s.1.length = n → (∀ o ∈ os, o.length = n) → (leastB sc os s).1.length = n
  | [], s, hs, _ => hs
  | o :: os, s, hs, h => by
    rw [leastB]
    refine least_len sc n os _ ?_ (fun x hx => h x (by simp [hx]))
    split
    · exact h o (by simp)
    · exact hs
theorem hung_wide : ∀ (cs : List S38) (o : Option S38) (p : Int) (pl : List Int) (e : Int), cs.all cloth_ok = true → 0 ≤ e → e + 201 * cs.length ≤ 4194304 → (o = none ∨ 4 ≤ e) → 0 ≤ (hungFrom o p pl e cs).2.2
  | [], o, p, pl, e, _, h0, _, _ => by cases o <;> simpa [hungFrom] using h0
  | c :: cs, none, p, pl, e, hok, h0, h1, _ => by
    rw [List.all_cons, Bool.and_eq_true] at hok
    obtain ⟨hc, hok⟩ := hok
    unfold cloth_ok at hc
    rw [Bool.and_eq_true, decide_eq_true_eq] at hc
    simp only [List.length_cons] at h1
    have e1 : wrap64 c.f0 = c.f0 := by unfold wrap64; omega
    have e2 : wrap64 (e + c.f0) = e + c.f0 := by unfold wrap64; omega
    rw [hungFrom, e1, e2]
    exact hung_wide cs _ _ _ _ hok (by omega) (by omega) (.inr (by omega))
  | c :: cs, some b, p, pl, e, hok, h0, h1, ho => by
    rw [List.all_cons, Bool.and_eq_true] at hok
    obtain ⟨hc, hok⟩ := hok
    unfold cloth_ok at hc
    rw [Bool.and_eq_true, decide_eq_true_eq] at hc
    simp only [List.length_cons] at h1
    have he : 4 ≤ e := ho.elim (fun h => by cases h) id
    have e1 : wrap64 c.f0 = c.f0 := by unfold wrap64; omega
    have e2 : wrap64 (e - 2) = e - 2 := by unfold wrap64; omega
    have e3 : wrap64 (e - 2 + c.f0) = e - 2 + c.f0 := by unfold wrap64; omega
    have e4 : wrap64 (e + 1) = e + 1 := by unfold wrap64; omega
    have e5 : wrap64 (e + 1 + c.f0) = e + 1 + c.f0 := by unfold wrap64; omega
    rw [hungFrom, e1, e2, e3, e4, e5]
    by_cases h : shareB b c = true
    · rw [if_pos h]
      exact hung_wide cs _ _ _ _ hok (by omega) (by omega) (.inr (by omega))
    · rw [if_neg h]
      exact hung_wide cs _ _ _ _ hok (by omega) (by omega) (.inr (by omega))
theorem picked_ok (l : List S38) (o : List Int) (h : l.all cloth_ok = true) (hv : ValidO l.length o) : (pickedB l o).all cloth_ok = true := by
  rw [List.all_eq_true] at h ⊢
  intro x hx
  obtain ⟨i, hi, rfl⟩ := List.mem_map.mp hx
  have hi2 := hv i hi
  have hlt : i.toNat < l.length := by omega
  refine h _ ?_
  rw [rd_T38, List.getD_eq_getElem?_getD, List.getElem?_eq_getElem hlt]
  exact List.getElem_mem hlt
theorem codeOf_ok {l : List S38} {n : Int} (h : codeOf l n = 0) : l.all cloth_ok = true := by
  unfold codeOf at h
  by_cases h1 : l.all cloth_ok = true
  · exact h1
  · simp [h1] at h
theorem width_nonneg (l : List S38) (o : List Int) (h : l.all cloth_ok = true) (hl : o.length ≤ 7) (hv : ValidO l.length o) : 0 ≤ (hungOf (pickedB l o)).2.2 := by
  unfold hungOf
  exact hung_wide _ none 0 [] 0 (picked_ok l o h hv) (Int.le_refl _) (by rw [picked_len]; omega) (.inl rfl)
/-- Where cloths hang: each lies between 0 and the whole width. -/
theorem hung_places : ∀ (cs : List S38) (o : Option S38) (p : Int) (pl : List Int) (e : Int), cs.all cloth_ok = true → 0 ≤ e → e + 201 * cs.length ≤ 4194304 → (o = none ∨ 4 ≤ e) →
    ∃ qs : List Int, (hungFrom o p pl e cs).2.1 = pl ++ qs ∧ qs.length = cs.length ∧ e ≤ (hungFrom o p pl e cs).2.2 ∧ ∀ x ∈ qs.zip cs, 0 ≤ x.1 ∧ x.1 + x.2.f0 ≤ (hungFrom o p pl e cs).2.2
  | [], o, p, pl, e, _, h0, _, _ => ⟨[], by cases o <;> simp [hungFrom], rfl, by cases o <;> simp [hungFrom], by simp⟩
  | c :: cs, none, p, pl, e, hok, h0, h1, _ => by
    rw [List.all_cons, Bool.and_eq_true] at hok
    obtain ⟨hc, hok⟩ := hok
    unfold cloth_ok at hc
    rw [Bool.and_eq_true, decide_eq_true_eq] at hc
    simp only [List.length_cons] at h1
    have e1 : wrap64 c.f0 = c.f0 := by unfold wrap64; omega
    have e2 : wrap64 (e + c.f0) = e + c.f0 := by unfold wrap64; omega
    rw [hungFrom, e1, e2]
    obtain ⟨qs, k1, k2, k3, k4⟩ := hung_places cs (some c) (wrap64 (p + 2)) (pl ++ [e]) (e + c.f0) hok (by omega) (by omega) (.inr (by omega))
    refine ⟨e :: qs, by rw [k1]; simp, by simp [k2], by omega, fun x hx => ?_⟩
    rw [List.zip_cons_cons, List.mem_cons] at hx
    rcases hx with rfl | hx
    · exact ⟨h0, k3⟩
    · exact k4 x hx
  | c :: cs, some b, p, pl, e, hok, h0, h1, ho => by
    rw [List.all_cons, Bool.and_eq_true] at hok
    obtain ⟨hc, hok⟩ := hok
    unfold cloth_ok at hc
    rw [Bool.and_eq_true, decide_eq_true_eq] at hc
    simp only [List.length_cons] at h1
    have he : 4 ≤ e := ho.elim (fun h => by cases h) id
    have e1 : wrap64 c.f0 = c.f0 := by unfold wrap64; omega
    have e2 : wrap64 (e - 2) = e - 2 := by unfold wrap64; omega
    have e3 : wrap64 (e - 2 + c.f0) = e - 2 + c.f0 := by unfold wrap64; omega
    have e4 : wrap64 (e + 1) = e + 1 := by unfold wrap64; omega
    have e5 : wrap64 (e + 1 + c.f0) = e + 1 + c.f0 := by unfold wrap64; omega
    rw [hungFrom, e1, e2, e3, e4, e5]
    by_cases h : shareB b c = true
    · rw [if_pos h]
      obtain ⟨qs, k1, k2, k3, k4⟩ := hung_places cs (some c) (wrap64 (wrap64 (p + 2) - 1)) (pl ++ [e - 2]) (e - 2 + c.f0) hok (by omega) (by omega) (.inr (by omega))
      refine ⟨(e - 2) :: qs, by rw [k1]; simp, by simp [k2], by omega, fun x hx => ?_⟩
      rw [List.zip_cons_cons, List.mem_cons] at hx
      rcases hx with rfl | hx
      · exact ⟨by simp only; omega, k3⟩
      · exact k4 x hx
    · rw [if_neg h]
      obtain ⟨qs, k1, k2, k3, k4⟩ := hung_places cs (some c) (wrap64 (p + 2)) (pl ++ [e + 1]) (e + 1 + c.f0) hok (by omega) (by omega) (.inr (by omega))
      refine ⟨(e + 1) :: qs, by rw [k1]; simp, by simp [k2], by omega, fun x hx => ?_⟩
      rw [List.zip_cons_cons, List.mem_cons] at hx
      rcases hx with rfl | hx
      · exact ⟨by simp only; omega, k3⟩
      · exact k4 x hx
theorem sagStep_pos (long p : Int) (c : S38) (hl : 4 ≤ long ∧ long ≤ 2000) (hc : cloth_ok c = true) (hp : 0 ≤ p ∧ p + c.f0 ≤ long) : 0 ≤ sagStep (2 * long) p c ∧ sagStep (2 * long) p c ≤ 500 := by
  unfold cloth_ok at hc
  rw [Bool.and_eq_true, decide_eq_true_eq, decide_eq_true_eq] at hc
  have e1 : wrap64 c.f1 = c.f1 := by unfold wrap64; omega
  have e2 : wrap64 c.f0 = c.f0 := by unfold wrap64; omega
  have e3 : wrap64 (2 * p) = 2 * p := by unfold wrap64; omega
  have e4 : wrap64 (2 * p + c.f0) = 2 * p + c.f0 := by unfold wrap64; omega
  have e5 : wrap64 (2 * long - (2 * p + c.f0)) = 2 * long - (2 * p + c.f0) := by unfold wrap64; omega
  unfold sagStep
  rw [e1, e2, e3, e4, e5]
  obtain ⟨m, hm⟩ : ∃ m, mn (2 * p + c.f0) (2 * long - (2 * p + c.f0)) = m := ⟨_, rfl⟩
  have hm0 : 0 ≤ m ∧ m ≤ 2 * long := by rw [← hm]; unfold mn; split <;> omega
  rw [hm]
  have hmul0 : 0 ≤ c.f1 * m := Int.mul_nonneg (by omega) hm0.1
  have hmul1 : c.f1 * m ≤ 500 * (2 * long) := Int.mul_le_mul (by omega) hm0.2 hm0.1 (by omega)
  have e6 : wrap64 (c.f1 * m) = c.f1 * m := by unfold wrap64; omega
  rw [e6, Int.tdiv_eq_ediv_of_nonneg hmul0]
  have d0 : 0 ≤ c.f1 * m / (2 * long) := Int.ediv_nonneg hmul0 (by omega)
  have d1 : c.f1 * m / (2 * long) ≤ 500 := Int.ediv_le_of_le_mul (by omega) hmul1
  have e7 : wrap64 (c.f1 * m / (2 * long)) = c.f1 * m / (2 * long) := by unfold wrap64; omega
  rw [e7]
  exact ⟨d0, d1⟩
theorem sagFrom_pos (long : Int) (hl : 4 ≤ long ∧ long ≤ 2000) : ∀ (cs : List S38) (ps : List Int) (x : Int), 0 ≤ x → x + 500 * cs.length ≤ 1000000000 → cs.all cloth_ok = true → (∀ y ∈ ps.zip cs, 0 ≤ y.1 ∧ y.1 + y.2.f0 ≤ long) → 0 ≤ sagFrom (2 * long) x ps cs
  | [], ps, x, h0, _, _, _ => by cases ps <;> simpa [sagFrom] using h0
  | c :: cs, [], x, h0, _, _, _ => by simpa [sagFrom] using h0
  | c :: cs, p :: ps, x, h0, h1, hok, hp => by
    rw [List.all_cons, Bool.and_eq_true] at hok
    have hs := sagStep_pos long p c hl hok.1 (hp (p, c) (by simp))
    simp only [List.length_cons] at h1
    have e : wrap64 (x + sagStep (2 * long) p c) = x + sagStep (2 * long) p c := by unfold wrap64; omega
    rw [sagFrom, e]
    exact sagFrom_pos long hl cs ps _ (by omega) (by omega) hok.2 (fun y hy => hp y (by rw [List.zip_cons_cons]; exact List.mem_cons_of_mem _ hy))
theorem sag_pos (a b : Int) (hb : lineB a b = true) (l : List S38) (hl : l.length ≤ 7) (hok : l.all cloth_ok = true) (hh : holdsB a b l = true) : 0 ≤ sagB a l := by
  unfold lineB at hb
  rw [Bool.and_eq_true, decide_eq_true_eq] at hb
  have e1 : wrap64 a = a := by unfold wrap64; omega
  have e2 : wrap64 (2 * a) = 2 * a := by unfold wrap64; omega
  unfold holdsB at hh
  rw [Bool.and_eq_true, decide_eq_true_eq, e1] at hh
  unfold sagB
  rw [e1, e2]
  obtain ⟨qs, k1, k2, k3, k4⟩ := hung_places l none 0 [] 0 hok (Int.le_refl _) (by omega) (.inl rfl)
  have k5 : (hungOf l).2.1 = qs := by unfold hungOf; rw [k1]; simp
  rw [k5]
  have hw : (hungFrom none 0 [] 0 l).2.2 ≤ a := hh.1
  exact sagFrom_pos a hb.1 l qs 0 (Int.le_refl _) (by omega) hok (fun y hy => ⟨(k4 y hy).1, by have := (k4 y hy).2; omega⟩)
theorem eqInt64S_l0 (l : List Int) (hl : l.length ≤ 1048576) : ∀ (cs pre : List Int), l = pre ++ cs → Ev (fun k => laws_eqInt64S.l0 k l l (pre.length : Int)) true := by
  intro cs
  induction cs with
  | nil =>
    intro pre hpre
    refine Ev.step (fun k => by rw [laws_eqInt64S.l0]) ?_
    have : l.length = pre.length := by rw [hpre]; simp
    simp only [show ¬ (pre.length : Int) < (l.length : Int) by omega, ↓reduceIte]
    exact Ev.now _
  | cons c cs ih =>
    intro pre hpre
    have hlen : l.length = pre.length + cs.length + 1 := by rw [hpre]; simp; omega
    have hnext := ih (pre ++ [c]) (by rw [hpre]; simp)
    simp only [List.length_append, List.length_cons, List.length_nil, Nat.zero_add] at hnext
    refine Ev.step (fun k => by rw [laws_eqInt64S.l0]) ?_
    simp only [show (pre.length : Int) < (l.length : Int) by omega, show (0 : Int) ≤ (pre.length : Int) by omega, ↓reduceIte, wsuc (show pre.length < l.length by omega) hl]
    exact hnext
theorem eqInt64S_ev (l : List Int) (hl : l.length ≤ 1048576) : Ev (fun k => laws_eqInt64S.f k l l) true := by
  unfold laws_eqInt64S.f
  simp only [↓reduceIte]
  exact eqInt64S_l0 l hl l [] rfl
def upFrom : Nat → Nat → List Int
  | _, 0 => []
  | a, n + 1 => (a : Int) :: upFrom (a + 1) n
theorem upFrom_len : ∀ n a, (upFrom a n).length = n
  | 0, _ => rfl
  | n + 1, a => by simp [upFrom, upFrom_len n]
theorem upFrom_snoc : ∀ n a, upFrom a (n + 1) = upFrom a n ++ [((a + n : Nat) : Int)]
  | 0, a => by simp [upFrom]
  | n + 1, a => by rw [upFrom, upFrom_snoc n (a + 1), upFrom, List.cons_append, show a + 1 + n = a + (n + 1) by omega]
theorem markInt64S_l0 : ∀ (cs : List Int) (n : Nat), n + cs.length ≤ 1048576 → Ev (fun k => laws_markInt64S.l0 k (upFrom 1 n ++ cs) ((n + 1 : Nat) : Int) (n : Int)) (((n + cs.length + 1 : Nat) : Int), upFrom 1 (n + cs.length)) := by
  intro cs
  induction cs with
  | nil =>
    intro n hn
    refine Ev.step (fun k => by rw [laws_markInt64S.l0]) ?_
    have : (upFrom 1 n).length = n := upFrom_len n 1
    simp only [List.append_nil, List.length_nil, Nat.add_zero, show ¬ (n : Int) < ((upFrom 1 n).length : Int) by omega, ↓reduceIte]
    exact Ev.now _
  | cons c cs ih =>
    intro n hn
    have hnext := ih (n + 1) (by simp only [List.length_cons] at hn; omega)
    simp only [List.length_cons] at hn
    have hlen : (upFrom 1 n ++ c :: cs).length = n + cs.length + 1 := by simp [upFrom_len]; omega
    have hset : (upFrom 1 n ++ c :: cs).set (n : Int).toNat ((n + 1 : Nat) : Int) = upFrom 1 (n + 1) ++ cs := by
      rw [Int.toNat_natCast, List.set_append_right _ _ (by simp [upFrom_len]), upFrom_len, Nat.sub_self, List.set_cons_zero, upFrom_snoc, Nat.add_comm 1 n]
      simp
    refine Ev.step (fun k => by rw [laws_markInt64S.l0]) ?_
    have hw : wrap64 (((n + 1 : Nat) : Int) + 1) = ((n + 1 + 1 : Nat) : Int) := by unfold wrap64; omega
    have hw0 : wrap64 ((n : Int) + 1) = ((n + 1 : Nat) : Int) := by unfold wrap64; omega
    simp only [show (n : Int) < ((upFrom 1 n ++ c :: cs).length : Int) by omega, show (0 : Int) ≤ (n : Int) by omega, ↓reduceIte, hset, hw, hw0]
    rw [show n + (c :: cs).length = n + 1 + cs.length by simp only [List.length_cons]; omega]
    exact hnext
theorem markInt64S_ev (l : List Int) (hl : l.length ≤ 1048576) : Ev (fun k => laws_markInt64S.f k l 1) (((l.length + 1 : Nat) : Int), upFrom 1 l.length) := by
  unfold laws_markInt64S.f
  have := markInt64S_l0 l 0 (by omega)
  simpa [upFrom] using this
theorem heldInt64S_l0 (m : Nat) (hm : m ≤ 1048576) : ∀ (d n : Nat), n + d = m → Ev (fun k => laws_heldInt64S.l0 k (upFrom 1 m) ((n + 1 : Nat) : Int) (n : Int)) ((m + 1 : Nat) : Int) := by
  intro d
  induction d with
  | zero =>
    intro n hn
    refine Ev.step (fun k => by rw [laws_heldInt64S.l0]) ?_
    have : (upFrom 1 m).length = m := upFrom_len m 1
    simp only [show ¬ (n : Int) < ((upFrom 1 m).length : Int) by omega, ↓reduceIte]
    rw [show n = m by omega]
    exact Ev.now _
  | succ d ih =>
    intro n hn
    have hlen : (upFrom 1 m).length = m := upFrom_len m 1
    have hget : ∀ (m a n : Nat), n < m → rd (upFrom a m) (n : Int) = ((a + n : Nat) : Int) := by
      intro m
      induction m with
      | zero => intro a n h; omega
      | succ m ihm =>
        intro a n h
        match n, h with
        | 0, _ => simp [rd, upFrom]
        | n + 1, h =>
          have := ihm (a + 1) n (by omega)
          simp only [rd, Int.toNat_natCast] at this ⊢
          rw [upFrom, List.getD_cons_succ, this, show a + 1 + n = a + (n + 1) by omega]
    have hr : rd (upFrom 1 m) (n : Int) = ((n + 1 : Nat) : Int) := by rw [hget m 1 n (by omega), Nat.add_comm]
    have hw : wrap64 (((n + 1 : Nat) : Int) + 1) = ((n + 1 + 1 : Nat) : Int) := by unfold wrap64; omega
    have hw0 : wrap64 ((n : Int) + 1) = ((n + 1 : Nat) : Int) := by unfold wrap64; omega
    refine Ev.step (fun k => by rw [laws_heldInt64S.l0]) ?_
    simp only [show (n : Int) < ((upFrom 1 m).length : Int) by omega, show (0 : Int) ≤ (n : Int) by omega, ↓reduceIte, hr, hw, hw0]
    exact ih (n + 1) (by omega)
theorem heldInt64S_ev (m : Nat) (hm : m ≤ 1048576) : Ev (fun k => laws_heldInt64S.f k (upFrom 1 m) 1) ((m + 1 : Nat) : Int) := by
  unfold laws_heldInt64S.f
  have := heldInt64S_l0 m hm m 0 (by omega)
  simpa using this
theorem markClothS_l0 : ∀ (d n : Nat) (l : List S38), l.length = n + d → n + d ≤ 1048576 → ∃ r : List S38, Ev (fun k => laws_markClothS.l0 k l ((2 * n + 1 : Nat) : Int) (n : Int)) (((2 * (n + d) + 1 : Nat) : Int), r) := by
  intro d
  induction d with
  | zero =>
    intro n l hl hn
    refine ⟨l, Ev.step (fun k => by rw [laws_markClothS.l0]) ?_⟩
    simp only [show ¬ (n : Int) < (l.length : Int) by omega, ↓reduceIte, Nat.add_zero]
    exact Ev.now _
  | succ d ih =>
    intro n l hl hn
    have hw : wrap64 (((2 * n + 1 : Nat) : Int) + 1) = ((2 * n + 2 : Nat) : Int) := by unfold wrap64; omega
    have hw1 : wrap64 (((2 * n + 2 : Nat) : Int) + 1) = ((2 * (n + 1) + 1 : Nat) : Int) := by unfold wrap64; omega
    have hw0 : wrap64 ((n : Int) + 1) = ((n + 1 : Nat) : Int) := by unfold wrap64; omega
    let y : List S38 := l.set (n : Int).toNat (⟨IntKind.i16.wrap ((2 * n + 1 : Nat) : Int), (rd_T38 l (n : Int)).f1⟩ : S38)
    let z : List S38 := y.set (n : Int).toNat (⟨(rd_T38 y (n : Int)).f0, IntKind.i16.wrap ((2 * n + 2 : Nat) : Int)⟩ : S38)
    obtain ⟨r, hr⟩ := ih (n + 1) z (by simp [z, y]; omega) (by omega)
    refine ⟨r, Ev.step (fun k => by rw [laws_markClothS.l0]) ?_⟩
    simp only [show (n : Int) < (l.length : Int) by omega, show (0 : Int) ≤ (n : Int) by omega, ↓reduceIte, Option.bind_some, hw, hw1, hw0]
    rw [show n + (d + 1) = n + 1 + d by omega]
    exact hr
theorem markClothS_ev (l : List S38) (hl : l.length ≤ 1048576) : ∃ r : List S38, Ev (fun k => laws_markClothS.f k l 1) (((2 * l.length + 1 : Nat) : Int), r) := by
  unfold laws_markClothS.f
  have := markClothS_l0 l.length 0 l (by omega) (by omega)
  simpa using this
theorem rdL (xs : List (List Int)) (pre : List (List Int)) (c : List Int) (cs : List (List Int)) (h : xs = pre ++ c :: cs) : rd_L5 xs (pre.length : Int) = c := by
  rw [h]
  simp [rd_L5, List.getD_eq_getElem?_getD]
theorem sc_pos (a b : Int) (hb : lineB a b = true) (l : List S38) (hok : l.all cloth_ok = true) (hl : l.length ≤ 7) (o : List Int) (hol : o.length = l.length) (hv : ValidO l.length o) (hh : holdsB a b (pickedB l o) = true) : 0 ≤ sagB a (pickedB l o) :=
  sag_pos a b hb _ (by rw [picked_len]; omega) (picked_ok l o hok hv) hh
def leastOut (s : List Int × Int) : List Int × Int × Int := if s.2 < 0 then ([], 0, 6) else (s.1, s.2, 0)
def leastR (a b : Int) (l : List S38) : List Int × Int × Int :=
  if lcode a b l = 0 then (if (bestB (sagSc a b l) l.length).2 < 0 then ([], 0, 6) else ((bestB (sagSc a b l) l.length).1, (bestB (sagSc a b l) l.length).2, 0)) else ([], 0, lcode a b l)
theorem spec_Least_l0 (a b : Int) (hb : lineB a b = true) (l : List S38) (hok : l.all cloth_ok = true) (hl : l.length ≤ 7) (all : List (List Int)) (hall : all.length ≤ 823543) (hv : ∀ x ∈ all, x.length = l.length ∧ ValidO l.length x) : ∀ (cs pre : List (List Int)), all = pre ++ cs → ∀ s : List Int × Int,
    Ev (fun k => spec_LeastSag.l0 k l s.1 s.2 all (pre.length : Int) a b) (leastOut (cs.foldl (fun s o => updB (sagSc a b l) o s) s)) := by
  intro cs
  induction cs with
  | nil =>
    intro pre hpre s
    refine Ev.step (fun k => by rw [spec_LeastSag.l0]) ?_
    have : all.length = pre.length := by rw [hpre]; simp
    simp only [show ¬ (pre.length : Int) < (all.length : Int) by omega, ↓reduceIte, List.foldl_nil, leastOut]
    by_cases h : s.2 < 0
    · simp only [h, ↓reduceIte]
      exact Ev.now _
    · simp only [h, ↓reduceIte]
      exact Ev.now _
  | cons c cs ih =>
    intro pre hpre s
    have hlen : all.length = pre.length + cs.length + 1 := by rw [hpre]; simp; omega
    have hc := rdL all pre c cs hpre
    have hvc := hv c (by rw [hpre]; simp)
    have hnext := ih (pre ++ [c]) (by rw [hpre]; simp)
    simp only [List.length_append, List.length_cons, List.length_nil, Nat.zero_add] at hnext
    have h0 := lineB_long hb
    have hpl : (pickedB l c).length ≤ 1048576 := by rw [picked_len]; omega
    refine Ev.step (fun k => by rw [spec_LeastSag.l0]) ?_
    simp only [show (pre.length : Int) < (all.length : Int) by omega, show (0 : Int) ≤ (pre.length : Int) by omega, ↓reduceIte, hc, wsuc (show pre.length < all.length by omega) (by omega : all.length ≤ 1048576), List.foldl_cons]
    refine Ev.bind (l02In_ev l c (by omega) (inRange_v l c hvc.2)) ?_
    refine Ev.bind (l02Fits_ev a b _ hpl) ?_
    by_cases hh : holdsB a b (pickedB l c) = true
    · simp only [hh, ↓reduceIte]
      refine Ev.bind (l02Sag_ev a b _ hpl h0) ?_
      have hsc : sagSc a b l c = sagB a (pickedB l c) := if_pos hh
      have hpos := sc_pos a b hb l hok hl c hvc.1 hvc.2 hh
      by_cases h1 : s.2 < 0
      · rw [show updB (sagSc a b l) c s = (c, sagB a (pickedB l c)) by unfold updB; rw [hsc, if_pos ⟨hpos, .inl h1⟩]]
        simp only [h1, ↓reduceIte]
        exact hnext (c, sagB a (pickedB l c))
      · by_cases h2 : sagB a (pickedB l c) < s.2
        · rw [show updB (sagSc a b l) c s = (c, sagB a (pickedB l c)) by unfold updB; rw [hsc, if_pos ⟨hpos, .inr h2⟩]]
          simp only [h1, h2, ↓reduceIte]
          exact hnext (c, sagB a (pickedB l c))
        · rw [show updB (sagSc a b l) c s = s by unfold updB; rw [hsc, if_neg (fun h => h.2.elim h1 h2)]]
          simp only [h1, h2, ↓reduceIte]
          exact hnext s
    · have hsc : sagSc a b l c = -1 := if_neg hh
      rw [show updB (sagSc a b l) c s = s by unfold updB; rw [hsc, if_neg (fun h => absurd h.1 (by omega))]]
      simp only [hh, Bool.false_eq_true, ↓reduceIte]
      exact hnext s
theorem impl_Least_ev {a b : Int} (ha : -32768 ≤ a ∧ a ≤ 32767) (hb : -32768 ≤ b ∧ b ≤ 32767) (l : List S38) (hs : smallS l) : Ev (fun k => impl_LeastSag.f k a b l) (leastR a b l) := by
  unfold impl_LeastSag.f leastR
  refine Ev.bind (lineCode_ev ha hb _ hs) ?_
  by_cases h : lcode a b l = 0
  · have hl := lcode_len h
    have h0 := lineB_long hl.2.1
    simp only [h, ↓reduceIte]
    rw [if_pos ⟨by omega, h0⟩]
    by_cases h1 : (bestB (sagSc a b l) l.length).2 < 0
    · simp only [h1, ↓reduceIte]
      exact Ev.now _
    · simp only [h1, ↓reduceIte]
      exact Ev.now _
  · simp only [h, ↓reduceIte]
    exact Ev.now _
theorem spec_Least_ev {a b : Int} (ha : -32768 ≤ a ∧ a ≤ 32767) (hb : -32768 ≤ b ∧ b ≤ 32767) (l : List S38) (hs : smallS l) (hl : l.length ≤ 1048576) : Ev (fun k => spec_LeastSag.f k a b l) (leastR a b l) := by
  unfold spec_LeastSag.f leastR
  refine Ev.bind (l02Hung_ev ha hb _ hs hl) ?_
  by_cases h : lcode a b l = 0
  · have hc := lcode_len h
    simp only [h, ↓reduceIte]
    refine Ev.bind (orders_ev l.length hc.1 l.length [] (by simp)) ?_
    have hv := orders_valid l.length l.length [] (by simp) (fun x hx => by cases hx)
    have hle := Nat.le_trans (orders_le l.length l.length []) (pow7 hc.1 hc.1)
    rw [bestB, dfs_orders]
    exact spec_Least_l0 a b hc.2.1 l hc.2.2 hc.1 _ hle hv _ [] rfl ([], -1)
  · simp only [h, ↓reduceIte]
    exact Ev.now _
theorem upd_len (sc : List Int → Int) (n : Nat) : ∀ (os : List (List Int)) (s : List Int × Int), s.1.length ≤ n → (∀ o ∈ os, o.length = n) → (os.foldl (fun s o => updB sc o s) s).1.length ≤ n
  | [], s, hs, _ => hs
  | o :: os, s, hs, h => by
    rw [List.foldl_cons]
    refine upd_len sc n os _ ?_ (fun x hx => h x (by simp [hx]))
    unfold updB
    split
    · exact Nat.le_of_eq (h o (by simp))
    · exact hs
theorem least_rlen (a b : Int) (l : List S38) : (leastR a b l).1.length ≤ 1048576 := by
  unfold leastR
  split
  next h =>
    have hc := lcode_len h
    split
    · simp
    · have := upd_len (sagSc a b l) l.length (ordersB l.length l.length []) ([], -1) (by simp) (fun o ho => (orders_valid l.length l.length [] (by simp) (fun x hx => by cases hx) o ho).1)
      rw [bestB, dfs_orders]
      simp only
      omega
  next => simp
theorem FnExactLeastSag (a0_0 : Int) (a0_1 : Int) (l1 : List S43) (w0_0 : (Lit.int .i16 a0_0).wf = true) (w0_1 : (Lit.int .i16 a0_1).wf = true) (y1 : l1.length ≤ 9223372036854775807) (w1 : ∀ x ∈ l1, (Lit.int .i16 x.f0).wf = true ∧ (Lit.int .i16 x.f1).wf = true) : ∃ k, laws_FnExactLeastSag.f k a0_0 a0_1 l1 = some true := by
  have ha := bounds_i16 w0_0
  have hb := bounds_i16 w0_1
  refine Ev.rounds ?_
  unfold laws_FnExactLeastSag.f
  simp only [szClothS_eq l1 1048576 (by omega) (by omega) y1, Option.bind_some, laws_toLine.f]
  by_cases hl : (l1.length : Int) ≤ 1048576
  · simp only [hl, ↓reduceIte, show ¬ (1048576 - (l1.length : Int) < 0) by omega]
    have hl' : l1.length ≤ 1048576 := by omega
    have hs := toS_small w1
    have hlS : (toS l1).length ≤ 1048576 := by rw [toS_len]; exact hl'
    have hR := least_rlen a0_0 a0_1 (toS l1)
    refine Ev.bind (toClothS_ev l1 hl') ?_
    refine Ev.bind (spec_Least_ev ha hb _ hs hlS) ?_
    refine Ev.bind (toClothS_ev l1 hl') ?_
    refine Ev.bind (impl_Least_ev ha hb _ hs) ?_
    refine Ev.bind (eqInt64S_ev _ hR) ?_
    simp only [↓reduceIte, bne_self_eq_false]
    refine Ev.step (fun k => by rw [laws_FnExactLeastSag.j0]) ?_
    simp only [Bool.false_eq_true, ↓reduceIte]
    refine Ev.bind (toClothS_ev l1 hl') ?_
    refine Ev.bind (eqClothS_ev _ hlS) ?_
    simp only [↓reduceIte]
    obtain ⟨r, hr⟩ := markClothS_ev (toS l1) hlS
    refine Ev.bind hr ?_
    simp only [show ¬ ((2 * (toS l1).length + 1 : Nat) : Int) < 0 by omega, ↓reduceIte]
    refine Ev.bind (eqInt64S_ev _ hR) ?_
    simp only [↓reduceIte, bne_self_eq_false]
    refine Ev.step (fun k => by rw [laws_FnExactLeastSag.j1]) ?_
    simp only [Bool.false_eq_true, ↓reduceIte]
    refine Ev.bind (markInt64S_ev _ hR) ?_
    refine Ev.bind (heldInt64S_ev _ hR) ?_
    simp only [show ∀ n : Nat, ¬ ((n + 1 : Nat) : Int) < 0 by intro n; omega, ↓reduceIte, laws_toLine.f, Option.bind_some]
    refine Ev.bind (toClothS_ev l1 hl') ?_
    refine Ev.bind (impl_Least_ev ha hb _ hs) ?_
    refine Ev.bind (eqInt64S_ev _ hR) ?_
    simp only [↓reduceIte, bne_self_eq_false]
    refine Ev.step (fun k => by rw [laws_FnExactLeastSag.j2]) ?_
    simp only [Bool.false_eq_true, ↓reduceIte]
    refine Ev.bind (heldInt64S_ev _ hR) ?_
    simp only [show ∀ n : Nat, ¬ ((n + 1 : Nat) : Int) < 0 by intro n; omega, ↓reduceIte]
    exact Ev.now _
  · simp only [hl, ↓reduceIte, show (-1 : Int) < 0 by omega]
    exact Ev.now _
end Go.Proofs.Ytlkpgpnieodifaa.Pure
