/- Words and walks for the law FnOrders. -/
import Derived.Test.YtlkpgpnieodifaaTOr35
import Derived.OpenShut
import Derived.Laws.BitsAllLaws
namespace Go.Proofs.Ytlkpgpnieodifaa.Pure
set_option linter.unusedSimpArgs false
set_option linter.unusedVariables false
open Go.RowKit Go.Proofs.Ytlkpgpnieodifaa.Or Go.Proofs.YtlkpgpnieodifaaW.PrintWords Go.Proofs.YtlkpgpnieodifaaW.PrintLast Go.Proofs.YtlkpgpnieodifaaW.PrintMore
theorem rdm (pre : List S38) (c : S38) (cs : List S38) : rd_T38 (pre ++ c :: cs) (pre.length : Int) = c := by simp [rd_T38, List.getD_eq_getElem?_getD]
theorem rdim (pre : List Int) (c : Int) (cs : List Int) : rd (pre ++ c :: cs) (pre.length : Int) = c := by simp [rd, List.getD_eq_getElem?_getD]
theorem wsuc {i n : Nat} (h : i < n) (hn : n ≤ 1048576) : wrap64 ((i : Int) + 1) = ((i + 1 : Nat) : Int) := by unfold wrap64; omega
def smallS (l : List S38) : Prop := ∀ x ∈ l, -32768 ≤ x.f0 ∧ x.f0 ≤ 32767 ∧ -32768 ≤ x.f1 ∧ x.f1 ≤ 32767
theorem l00In_eq (a b c : Int) : spec_l00In.f a b c = some (decide (b ≤ a ∧ a ≤ c)) := by
  unfold spec_l00In.f
  by_cases h : b ≤ a
  · rw [if_pos (show a ≥ b from h)]; simp [h]
  · rw [if_neg (show ¬ a ≥ b from h)]; simp [h]
theorem within_eq (a b c : Int) : impl_within.f a b c = some (decide (b ≤ a ∧ a ≤ c)) := l00In_eq a b c
theorem l02Cloths_l0 (l : List S38) (hs : smallS l) (hl : l.length ≤ 1048576) : ∀ (cs pre : List S38), l = pre ++ cs → Ev (fun k => spec_l02Cloths.l0 k l (pre.length : Int)) (cs.all cloth_ok) := by
  intro cs
  induction cs with
  | nil =>
    intro pre hpre
    refine Ev.step (fun k => by rw [spec_l02Cloths.l0]) ?_
    have : l.length = pre.length := by rw [hpre]; simp
    simp only [show ¬ (pre.length : Int) < (l.length : Int) by omega, ↓reduceIte]
    exact Ev.now _
  | cons c cs ih =>
    intro pre hpre
    have hlen : l.length = pre.length + cs.length + 1 := by rw [hpre]; simp; omega
    have hc : rd_T38 l (pre.length : Int) = c := by rw [hpre]; exact rdm pre c cs
    have hb := hs c (by rw [hpre]; simp)
    have hnext := ih (pre ++ [c]) (by rw [hpre]; simp)
    simp only [List.length_append, List.length_cons, List.length_nil, Nat.zero_add] at hnext
    refine Ev.step (fun k => by rw [spec_l02Cloths.l0]) ?_
    have e0 : wrap64 c.f0 = c.f0 := by unfold wrap64; omega
    have e1 : wrap64 c.f1 = c.f1 := by unfold wrap64; omega
    simp only [show (pre.length : Int) < (l.length : Int) by omega, show (0 : Int) ≤ (pre.length : Int) by omega, ↓reduceIte, hc, e0, e1, l00In_eq, Option.bind_some, decide_eq_true_eq, wsuc (show pre.length < l.length by omega) hl, List.all_cons, cloth_ok]
    by_cases h1 : 4 ≤ c.f0 ∧ c.f0 ≤ 200
    · by_cases h2 : 1 ≤ c.f1 ∧ c.f1 ≤ 500
      · simp only [h1, h2, and_self, ↓reduceIte, decide_true, Bool.true_and]
        exact hnext
      · simp only [h1, h2, and_self, ↓reduceIte, decide_true, decide_false, Bool.true_and, Bool.false_and]
        exact Ev.now _
    · simp only [h1, ↓reduceIte, decide_false, Bool.false_and]
      exact Ev.now _
theorem l02Cloths_ev (l : List S38) (hs : smallS l) (hl : l.length ≤ 1048576) : Ev (fun k => spec_l02Cloths.f k l) (l.all cloth_ok) := by
  unfold spec_l02Cloths.f
  exact l02Cloths_l0 l hs hl l [] rfl
theorem ValidCloths_eq (l : List S38) (hs : smallS l) : impl_ValidCloths.f l = some (l.all cloth_ok) := by
  unfold impl_ValidCloths.f
  rw [if_pos]
  rw [List.all_eq_true]
  intro x hx
  exact decide_eq_true (hs x hx)
theorem firstOf2 (a b : Int) : Ev (fun k => impl_firstOf.f k [a, b]) (if a = 0 then b else a) := by
  unfold impl_firstOf.f
  have e2 : ∀ a b : Int, ((([a, b] : List Int).length : Nat) : Int) = 2 := fun _ _ => rfl
  have w1 : wrap64 (0 + 1) = 1 := by unfold wrap64; omega
  have w2 : wrap64 (1 + 1) = 2 := by unfold wrap64; omega
  have r0 : rd [a, b] 0 = a := by simp [rd]
  have r1 : rd [a, b] 1 = b := by simp [rd]
  refine Ev.step (fun k => by rw [impl_firstOf.l0]) ?_
  simp only [e2, show (0 : Int) < 2 by omega, show (0 : Int) ≤ 0 by omega, ↓reduceIte, r0]
  by_cases ha : a = 0
  · simp only [ha, ↓reduceIte, w1]
    rw [ha] at r1
    refine Ev.step (fun k => by rw [impl_firstOf.l0]) ?_
    simp only [e2, show (1 : Int) < 2 by omega, show (0 : Int) ≤ 1 by omega, ↓reduceIte, r1]
    by_cases hb : b = 0
    · simp only [hb, ↓reduceIte, w2]
      refine Ev.step (fun k => by rw [impl_firstOf.l0]) ?_
      simp only [show ¬ (2 : Int) < 2 by omega, ↓reduceIte]
      exact Ev.now _
    · simp only [hb, ↓reduceIte]
      exact Ev.now _
  · simp only [ha, ↓reduceIte]
    exact Ev.now _
def codeOf (l : List S38) (n : Int) : Int := if l.all cloth_ok = true then (if (l.length : Int) ≤ n then 0 else 3) else 1
theorem clothCode_ev (l : List S38) (hs : smallS l) (n : Int) : Ev (fun k => impl_clothCode.f k l n) (codeOf l n) := by
  unfold impl_clothCode.f
  simp only [ValidCloths_eq l hs, Option.bind_some, impl_unless.f]
  cases h : l.all cloth_ok with
  | false =>
    simp only [Bool.false_eq_true, ↓reduceIte, Option.bind_some]
    by_cases hn : (l.length : Int) ≤ n
    · simp only [hn, decide_true, ↓reduceIte, Option.bind_some]
      exact Ev.bind (firstOf2 1 0) (by simp only [codeOf, h, Bool.false_eq_true, ↓reduceIte, show ¬ (1 : Int) = 0 by omega]; exact Ev.now _)
    · simp only [hn, decide_false, Bool.false_eq_true, ↓reduceIte, Option.bind_some]
      exact Ev.bind (firstOf2 1 3) (by simp only [codeOf, h, Bool.false_eq_true, ↓reduceIte, show ¬ (1 : Int) = 0 by omega]; exact Ev.now _)
  | true =>
    simp only [↓reduceIte, Option.bind_some]
    by_cases hn : (l.length : Int) ≤ n
    · simp only [hn, decide_true, ↓reduceIte, Option.bind_some]
      exact Ev.bind (firstOf2 0 0) (by simp only [codeOf, h, hn, ↓reduceIte]; exact Ev.now _)
    · simp only [hn, decide_false, Bool.false_eq_true, ↓reduceIte, Option.bind_some]
      exact Ev.bind (firstOf2 0 3) (by simp only [codeOf, h, hn, ↓reduceIte]; exact Ev.now _)
theorem l02Many_ev (l : List S38) (hs : smallS l) (hl : l.length ≤ 1048576) (n : Int) : Ev (fun k => spec_l02Many.f k l n) (codeOf l n) := by
  unfold spec_l02Many.f
  refine Ev.bind (l02Cloths_ev l hs hl) ?_
  unfold codeOf
  cases h : l.all cloth_ok with
  | false =>
    simp only [Bool.false_eq_true, ↓reduceIte]
    exact Ev.now _
  | true =>
    simp only [↓reduceIte]
    by_cases hn : (l.length : Int) ≤ n
    · simp only [hn, show ¬ (l.length : Int) > n by omega, ↓reduceIte]
      exact Ev.now _
    · simp only [hn, show (l.length : Int) > n by omega, ↓reduceIte]
      exact Ev.now _
theorem hungw_eq (l : List S38) (hl : l.length ≤ 1048576) : impl_hungw.f l = some (hungOf l) := by
  unfold impl_hungw.f
  rw [if_pos hl]
def shared : Option S38 → List S38 → Nat
  | _, [] => 0
  | none, c :: cs => shared (some c) cs
  | some b, c :: cs => (if shareB b c = true then 1 else 0) + shared (some c) cs
theorem shared_le : ∀ (cs : List S38) (o : Option S38), shared o cs ≤ cs.length
  | [], o => by cases o <;> simp [shared]
  | c :: cs, none => by have := shared_le cs (some c); simp [shared]; omega
  | c :: cs, some b => by have := shared_le cs (some c); simp only [shared, List.length_cons]; split <;> omega
theorem hung_pegs : ∀ (cs : List S38) (o : Option S38) (p : Int) (pl : List Int) (e : Int), 0 ≤ p → p + 2 * cs.length ≤ 4194304 →
    (hungFrom o p pl e cs).1 = p + 2 * cs.length - shared o cs
  | [], o, p, pl, e, _, _ => by cases o <;> simp [hungFrom, shared]
  | c :: cs, none, p, pl, e, h0, h1 => by
    simp only [List.length_cons] at h1
    have hw : wrap64 (p + 2) = p + 2 := by unfold wrap64; omega
    rw [hungFrom, hw, hung_pegs cs _ _ _ _ (by omega) (by omega), shared]
    simp only [List.length_cons]
    omega
  | c :: cs, some b, p, pl, e, h0, h1 => by
    simp only [List.length_cons] at h1
    have hw : wrap64 (p + 2) = p + 2 := by unfold wrap64; omega
    have hw1 : wrap64 (p + 2 - 1) = p + 1 := by unfold wrap64; omega
    rw [hungFrom, hw, hw1]
    by_cases h : shareB b c = true
    · rw [if_pos h, hung_pegs cs _ _ _ _ (by omega) (by omega), shared, if_pos h]
      simp only [List.length_cons]
      omega
    · rw [if_neg h, hung_pegs cs _ _ _ _ (by omega) (by omega), shared, if_neg h]
      simp only [List.length_cons]
      omega
theorem l02Pegs_l0 (l : List S38) (hl : l.length ≤ 1048576) : ∀ (cs pre : List S38) (b : S38), l = pre ++ b :: cs → ∀ x : Int, cs.length ≤ x → x ≤ 4194304 →
    Ev (fun k => spec_l02Pegs.l0 k l x ((pre.length + 1 : Nat) : Int)) (x - shared (some b) cs) := by
  intro cs
  induction cs with
  | nil =>
    intro pre b hpre x _ _
    refine Ev.step (fun k => by rw [spec_l02Pegs.l0]) ?_
    have : l.length = pre.length + 1 := by rw [hpre]; simp
    simp only [show ¬ ((pre.length + 1 : Nat) : Int) < (l.length : Int) by omega, ↓reduceIte]
    simp only [shared, Int.natCast_zero, Int.sub_zero]
    exact Ev.now _
  | cons c cs ih =>
    intro pre b hpre x h0 h1
    have hlen : l.length = pre.length + 1 + cs.length + 1 := by rw [hpre]; simp; omega
    have hb : rd_T38 l (pre.length : Int) = b := by rw [hpre]; exact rdm pre b (c :: cs)
    have hc : rd_T38 l ((pre.length + 1 : Nat) : Int) = c := by
      have := rdm (pre ++ [b]) c cs
      rw [hpre]
      simpa using this
    have hnext := ih (pre ++ [b]) c (by rw [hpre]; simp)
    simp only [List.length_append, List.length_cons, List.length_nil, Nat.zero_add] at hnext
    have hw : wrap64 (((pre.length + 1 : Nat) : Int) - 1) = (pre.length : Int) := by unfold wrap64; omega
    refine Ev.step (fun k => by rw [spec_l02Pegs.l0]) ?_
    simp only [show ((pre.length + 1 : Nat) : Int) < (l.length : Int) by omega, hw, show (0 : Int) ≤ (pre.length : Int) by omega, show (pre.length : Int) < (l.length : Int) by omega, show (0 : Int) ≤ ((pre.length + 1 : Nat) : Int) by omega, ↓reduceIte, hb, hc, spec_l02Share.f, Option.bind_some, wsuc (show pre.length + 1 < l.length by omega) hl]
    simp only [List.length_cons] at h0
    have hx : wrap64 (x - 1) = x - 1 := by unfold wrap64; omega
    rw [shared]
    by_cases hs : shareB b c = true
    · have hs' : wrap64 (wrap64 b.f1 + wrap64 c.f1) ≤ 120 := of_decide_eq_true hs
      simp only [hs, hs', decide_true, ↓reduceIte, hx]
      have := hnext (x - 1) (by omega) (by omega)
      rw [show x - ((1 + shared (some c) cs : Nat) : Int) = x - 1 - (shared (some c) cs : Int) by omega]
      exact this
    · have hs' : ¬ wrap64 (wrap64 b.f1 + wrap64 c.f1) ≤ 120 := fun h => hs (decide_eq_true h)
      simp only [hs, hs', decide_false, Bool.false_eq_true, ↓reduceIte, Nat.zero_add]
      exact hnext x (by omega) (by omega)
theorem l02Pegs_ev (l : List S38) (hl : l.length ≤ 1048576) : Ev (fun k => spec_l02Pegs.f k l) (hungOf l).1 := by
  unfold spec_l02Pegs.f hungOf
  have hw : wrap64 (2 * (l.length : Int)) = 2 * (l.length : Int) := by unfold wrap64; omega
  rw [hung_pegs l none 0 [] 0 (by omega) (by omega), hw]
  match l, hl, hw with
  | [], _, _ =>
    refine Ev.step (fun k => by rw [spec_l02Pegs.l0]) ?_
    simp only [List.length_nil, show ¬ (1 : Int) < ((0 : Nat) : Int) by omega, ↓reduceIte]
    exact Ev.now _
  | b :: cs, hl, hw =>
    have := l02Pegs_l0 (b :: cs) hl cs [] b rfl (2 * ((b :: cs).length : Int)) (by simp only [List.length_cons]; omega) (by omega)
    rw [shared, Int.zero_add]
    exact this
theorem l02Places_l0 (l : List S38) (hl : l.length ≤ 1048576) : ∀ (cs pre : List S38), l = pre ++ cs → ∀ (p : Int) (pl : List Int) (e : Int), pl.length = pre.length →
    Ev (fun k => spec_l02Places.l0 k l pl e (pre.length : Int)) ((hungFrom pre.getLast? p pl e cs).2.1, (hungFrom pre.getLast? p pl e cs).2.2) := by
  intro cs
  induction cs with
  | nil =>
    intro pre hpre p pl e hp
    refine Ev.step (fun k => by rw [spec_l02Places.l0]) ?_
    have : l.length = pre.length := by rw [hpre]; simp
    simp only [show ¬ (pre.length : Int) < (l.length : Int) by omega, ↓reduceIte]
    have hh : hungFrom pre.getLast? p pl e [] = (p, pl, e) := by cases pre.getLast? <;> rfl
    rw [hh]
    exact Ev.now _
  | cons c cs ih =>
    intro pre hpre p pl e hp
    have hlen : l.length = pre.length + cs.length + 1 := by rw [hpre]; simp; omega
    have hc : rd_T38 l (pre.length : Int) = c := by rw [hpre]; exact rdm pre c cs
    have hlt : (pre.length : Int) < (l.length : Int) := by omega
    have hlim : pl.length < 17592186044416 := by omega
    have hnext := fun p pl e h => ih (pre ++ [c]) (by rw [hpre]; simp) p pl e h
    simp only [List.length_append, List.length_cons, List.length_nil, Nat.zero_add, List.getLast?_append, List.getLast?_singleton, Option.some_or] at hnext
    refine Ev.step (fun k => by rw [spec_l02Places.l0]) ?_
    simp only [hlt, show (0 : Int) ≤ (pre.length : Int) by omega, ↓reduceIte, hc]
    rcases List.eq_nil_or_concat pre with rfl | ⟨pre', b, rfl⟩
    · simp only [List.length_nil, Int.natCast_zero, show ¬ ((0 : Int) > 0) by omega, ↓reduceIte, List.getLast?_nil]
      refine Ev.step (fun k => by rw [spec_l02Places.j1]) ?_
      rw [hungFrom]
      simp only [Bool.false_eq_true, ↓reduceIte, show ¬ ((0 : Int) > 0) by omega, hlim, show (0 : Int) ≤ 0 by omega]
      have h0 : ((0 : Nat) : Int) < (l.length : Int) := by simpa using hlt
      have hc0 : rd_T38 l 0 = c := by simpa using hc
      have hw : wrap64 (0 + 1) = ((0 + 1 : Nat) : Int) := by unfold wrap64; omega
      simp only [show (0 : Int) < (l.length : Int) by omega, ↓reduceIte, hc0, hw]
      exact hnext _ _ _ (by simp [hp])
    · have hw : wrap64 (((pre'.concat b).length : Int) - 1) = (pre'.length : Int) := by simp at hlen ⊢; unfold wrap64; omega
      have hb : rd_T38 l (pre'.length : Int) = b := by rw [hpre]; simp only [List.concat_eq_append, List.append_assoc]; exact rdm pre' b (c :: cs)
      have hlt2 : (pre'.length : Int) < (l.length : Int) := by simp at hlen; omega
      have hgt : ((pre'.concat b).length : Int) > 0 := by simp
      simp only [hw, hb, hgt, hlt2, show (0 : Int) ≤ (pre'.length : Int) by omega, ↓reduceIte, spec_l02Share.f, Option.bind_some]
      refine Ev.step (fun k => by rw [spec_l02Places.j1]) ?_
      have hg : (pre'.concat b).getLast? = some b := by simp
      rw [hg, hungFrom]
      simp only [hgt, hlim, hlt, show (0 : Int) ≤ ((pre'.concat b).length : Int) by omega, ↓reduceIte, hc, wsuc (show (pre'.concat b).length < l.length by omega) hl]
      by_cases hs : shareB b c = true
      · have hs' : wrap64 (wrap64 b.f1 + wrap64 c.f1) ≤ 120 := of_decide_eq_true hs
        simp only [hs, hs', decide_true, ↓reduceIte]
        exact hnext _ _ _ (by simp [hp])
      · have hs' : ¬ wrap64 (wrap64 b.f1 + wrap64 c.f1) ≤ 120 := fun h => hs (decide_eq_true h)
        simp only [hs, hs', decide_false, Bool.false_eq_true, ↓reduceIte]
        exact hnext _ _ _ (by simp [hp])
theorem l02Places_ev (l : List S38) (hl : l.length ≤ 1048576) : Ev (fun k => spec_l02Places.f k l) ((hungOf l).2.1, (hungOf l).2.2) := by
  unfold spec_l02Places.f hungOf
  exact l02Places_l0 l hl l [] rfl 0 [] 0 rfl
theorem hungFrom_plen : ∀ (cs : List S38) (o : Option S38) (p : Int) (pl : List Int) (e : Int), (hungFrom o p pl e cs).2.1.length = pl.length + cs.length
  | [], o, p, pl, e => by cases o <;> simp [hungFrom]
  | c :: cs, none, p, pl, e => by rw [hungFrom, hungFrom_plen cs]; simp; omega
  | c :: cs, some b, p, pl, e => by
    rw [hungFrom]
    split <;> (rw [hungFrom_plen cs]; simp; omega)
theorem hungOf_plen (l : List S38) : (hungOf l).2.1.length = l.length := by unfold hungOf; rw [hungFrom_plen]; simp
theorem i16wrap {x : Int} (h0 : -32768 ≤ x) (h1 : x ≤ 32767) : wrap64 x = x := by unfold wrap64; omega
def lineB (a b : Int) : Bool := decide (4 ≤ a ∧ a ≤ 2000) && decide (1 ≤ b ∧ b ≤ 2000)
theorem l02Line_eq {a b : Int} (ha : -32768 ≤ a ∧ a ≤ 32767) (hb : -32768 ≤ b ∧ b ≤ 32767) : spec_l02Line.f a b = some (lineB a b) := by
  unfold spec_l02Line.f lineB
  simp only [i16wrap ha.1 ha.2, i16wrap hb.1 hb.2, l00In_eq, Option.bind_some]
  by_cases h : 4 ≤ a ∧ a ≤ 2000 <;> simp [h]
theorem ValidLine_eq {a b : Int} (ha : -32768 ≤ a ∧ a ≤ 32767) (hb : -32768 ≤ b ∧ b ≤ 32767) : impl_ValidLine.f a b = some (lineB a b) := by
  unfold impl_ValidLine.f lineB
  simp only [i16wrap ha.1 ha.2, i16wrap hb.1 hb.2, within_eq, Option.bind_some]
  by_cases h : 4 ≤ a ∧ a ≤ 2000 <;> simp [h]
def lcode (a b : Int) (l : List S38) : Int := if lineB a b = true then codeOf l 7 else 1
theorem lineCode_ev {a b : Int} (ha : -32768 ≤ a ∧ a ≤ 32767) (hb : -32768 ≤ b ∧ b ≤ 32767) (l : List S38) (hs : smallS l) : Ev (fun k => impl_lineCode.f k a b l) (lcode a b l) := by
  unfold impl_lineCode.f
  simp only [ValidLine_eq ha hb, Option.bind_some, impl_unless.f]
  unfold lcode
  cases h : lineB a b with
  | false =>
    simp only [Bool.false_eq_true, ↓reduceIte, Option.bind_some]
    refine Ev.bind (clothCode_ev l hs 7) ?_
    refine Ev.bind (firstOf2 1 _) ?_
    simp only [show ¬ (1 : Int) = 0 by omega, ↓reduceIte]
    exact Ev.now _
  | true =>
    simp only [↓reduceIte, Option.bind_some]
    refine Ev.bind (clothCode_ev l hs 7) ?_
    refine Ev.bind (firstOf2 0 _) ?_
    simp only [↓reduceIte]
    exact Ev.now _
theorem l02Hung_ev {a b : Int} (ha : -32768 ≤ a ∧ a ≤ 32767) (hb : -32768 ≤ b ∧ b ≤ 32767) (l : List S38) (hs : smallS l) (hl : l.length ≤ 1048576) : Ev (fun k => spec_l02Hung.f k a b l) (lcode a b l) := by
  unfold spec_l02Hung.f
  simp only [l02Line_eq ha hb, Option.bind_some]
  unfold lcode
  cases h : lineB a b with
  | false =>
    simp only [Bool.false_eq_true, ↓reduceIte]
    exact Ev.now _
  | true =>
    simp only [↓reduceIte]
    exact Ev.bind (l02Many_ev l hs hl 7) (Ev.now _)
theorem lcode_len {a b : Int} {l : List S38} (h : lcode a b l = 0) : l.length ≤ 7 ∧ lineB a b = true ∧ l.all cloth_ok = true := by
  unfold lcode codeOf at h
  by_cases h1 : lineB a b = true
  · by_cases h2 : l.all cloth_ok = true
    · by_cases h3 : (l.length : Int) ≤ 7
      · exact ⟨by omega, h1, h2⟩
      · simp [h1, h2, h3] at h
    · simp [h1, h2] at h
  · simp [h1] at h
theorem l02Fits_l0 (a b : Int) (l : List S38) (hl : l.length ≤ 1048576) : ∀ (cs pre : List S38), l = pre ++ cs → ∀ x : Int,
    Ev (fun k => spec_l02Fits.l0 k l x (pre.length : Int) a b) (decide ((hungOf l).2.2 ≤ wrap64 a) && decide (heavyFrom x cs ≤ wrap64 b)) := by
  intro cs
  induction cs with
  | nil =>
    intro pre hpre x
    refine Ev.step (fun k => by rw [spec_l02Fits.l0]) ?_
    have : l.length = pre.length := by rw [hpre]; simp
    simp only [show ¬ (pre.length : Int) < (l.length : Int) by omega, ↓reduceIte]
    refine Ev.bind (l02Places_ev l hl) ?_
    by_cases h : (hungOf l).2.2 ≤ wrap64 a
    · simp only [h, ↓reduceIte, decide_true, Bool.true_and, heavyFrom]; exact Ev.now _
    · simp only [h, ↓reduceIte, decide_false, Bool.false_and]; exact Ev.now _
  | cons c cs ih =>
    intro pre hpre x
    have hlen : l.length = pre.length + cs.length + 1 := by rw [hpre]; simp; omega
    have hc : rd_T38 l (pre.length : Int) = c := by rw [hpre]; exact rdm pre c cs
    have hnext := ih (pre ++ [c]) (by rw [hpre]; simp)
    simp only [List.length_append, List.length_cons, List.length_nil, Nat.zero_add] at hnext
    refine Ev.step (fun k => by rw [spec_l02Fits.l0]) ?_
    simp only [show (pre.length : Int) < (l.length : Int) by omega, show (0 : Int) ≤ (pre.length : Int) by omega, ↓reduceIte, hc, wsuc (show pre.length < l.length by omega) hl]
    rw [heavyFrom]
    exact hnext _
theorem l02Fits_ev (a b : Int) (l : List S38) (hl : l.length ≤ 1048576) : Ev (fun k => spec_l02Fits.f k a b l) (holdsB a b l) := by
  unfold spec_l02Fits.f
  exact l02Fits_l0 a b l hl l [] rfl 0
theorem holdsw_eq (a b : Int) (l : List S38) (hl : l.length ≤ 1048576) : impl_Line_holdsw.f a b l = some (holdsB a b l) := by
  unfold impl_Line_holdsw.f
  rw [if_pos hl]
theorem l02Sag_l0 (lg : Int) (hg : lg ≠ 0) (l : List S38) (hl : l.length ≤ 1048576) (places : List Int) (hp : places.length = l.length) :
    ∀ (cs pre : List S38) (ps pp : List Int), l = pre ++ cs → places = pp ++ ps → pp.length = pre.length → ∀ x : Int,
    Ev (fun k => spec_l02Sag.l0 k l x lg places (pre.length : Int)) (sagFrom lg x ps cs) := by
  intro cs
  induction cs with
  | nil =>
    intro pre ps pp hpre hpp hlp x
    refine Ev.step (fun k => by rw [spec_l02Sag.l0]) ?_
    have : l.length = pre.length := by rw [hpre]; simp
    simp only [show ¬ (pre.length : Int) < (l.length : Int) by omega, ↓reduceIte]
    cases ps <;> exact Ev.now _
  | cons c cs ih =>
    intro pre ps pp hpre hpp hlp x
    have hlen : l.length = pre.length + cs.length + 1 := by rw [hpre]; simp; omega
    have hplen : places.length = pp.length + ps.length := by rw [hpp]; simp
    match ps, hpp, hplen with
    | [], _, h => simp at h; omega
    | q :: ps, hpp, _ =>
    have hc : rd_T38 l (pre.length : Int) = c := by rw [hpre]; exact rdm pre c cs
    have hq : rd places (pre.length : Int) = q := by rw [hpp, ← hlp]; exact rdim pp q ps
    have hnext := ih (pre ++ [c]) ps (pp ++ [q]) (by rw [hpre]; simp) (by rw [hpp]; simp) (by simp [hlp])
    simp only [List.length_append, List.length_cons, List.length_nil, Nat.zero_add] at hnext
    refine Ev.step (fun k => by rw [spec_l02Sag.l0]) ?_
    have hmin : ∀ m n : Int, spec_l00Min.f m n = some (mn m n) := by
      intro m n
      unfold spec_l00Min.f mn
      by_cases h : m < n
      · simp only [h, ↓reduceIte, show ¬ n < m by omega]
      · simp only [h, ↓reduceIte]
        by_cases h2 : n < m
        · simp only [h2, ↓reduceIte]
        · rw [if_neg h2, show n = m by omega]
    simp only [show (pre.length : Int) < (l.length : Int) by omega, show (pre.length : Int) < (places.length : Int) by omega, show (0 : Int) ≤ (pre.length : Int) by omega, ↓reduceIte, hc, hq, hg, hmin, Option.bind_some, wsuc (show pre.length < l.length by omega) hl]
    rw [sagFrom, sagStep]
    exact hnext _
theorem l02Sag_ev (a b : Int) (l : List S38) (hl : l.length ≤ 1048576) (h0 : wrap64 (2 * wrap64 a) ≠ 0) : Ev (fun k => spec_l02Sag.f k a b l) (sagB a l) := by
  unfold spec_l02Sag.f
  refine Ev.bind (l02Places_ev l hl) ?_
  exact l02Sag_l0 _ h0 l hl _ (hungOf_plen l) l [] _ [] rfl rfl rfl 0
theorem sagw_eq (a b : Int) (l : List S38) (hl : l.length ≤ 1048576) (h0 : wrap64 (2 * wrap64 a) ≠ 0) : impl_Line_sagw.f a b l = some (sagB a l) := by
  unfold impl_Line_sagw.f
  rw [if_pos ⟨hl, h0⟩]
theorem lineB_long {a b : Int} (h : lineB a b = true) : wrap64 (2 * wrap64 a) ≠ 0 := by
  unfold lineB at h
  rw [Bool.and_eq_true, decide_eq_true_eq] at h
  have e : wrap64 a = a := by unfold wrap64; omega
  rw [e]
  unfold wrap64
  omega
def ordersB (n : Nat) : Nat → List Int → List (List Int)
  | 0, o => [o]
  | d + 1, o => (List.range n).flatMap fun (i : Nat) => if o.contains (i : Int) = true then [] else ordersB n d (o ++ [(i : Int)])
theorem dfs_orders (sc : List Int → Int) (n : Nat) : ∀ (d : Nat) (o : List Int) (s : List Int × Int), dfsB sc n d o s = (ordersB n d o).foldl (fun s o => updB sc o s) s
  | 0, o, s => rfl
  | d + 1, o, s => by
    rw [dfsB, ordersB, List.foldl_flatMap]
    congr 1
    funext s i
    by_cases h : o.contains (i : Int) = true
    · rw [if_pos h, if_pos h]; rfl
    · rw [if_neg h, if_neg h, dfs_orders sc n d]
theorem orders_valid (n : Nat) : ∀ (d : Nat) (o : List Int), o.length + d = n → ValidO n o → ∀ x ∈ ordersB n d o, x.length = n ∧ ValidO n x
  | 0, o, hd, hv, x, hx => by
    rw [ordersB, List.mem_singleton] at hx
    subst hx
    exact ⟨by omega, hv⟩
  | d + 1, o, hd, hv, x, hx => by
    rw [ordersB, List.mem_flatMap] at hx
    obtain ⟨i, hi, hx⟩ := hx
    rw [List.mem_range] at hi
    split at hx
    · cases hx
    · refine orders_valid n d (o ++ [(i : Int)]) (by simp; omega) (fun y hy => ?_) x hx
      rcases List.mem_append.mp hy with hy | hy
      · exact hv y hy
      · rw [List.mem_singleton] at hy
        omega
theorem orders_le (n : Nat) : ∀ (d : Nat) (o : List Int), (ordersB n d o).length ≤ n ^ d
  | 0, o => by simp [ordersB]
  | d + 1, o => by
    rw [ordersB, List.length_flatMap]
    have : ∀ (l : List Nat), (l.map fun i : Nat => (if o.contains (i : Int) = true then ([] : List (List Int)) else ordersB n d (o ++ [(i : Int)])).length).sum ≤ l.length * n ^ d := by
      intro l
      induction l with
      | nil => simp
      | cons a l ih =>
        rw [List.map_cons, List.sum_cons, List.length_cons, Nat.add_mul, Nat.one_mul, Nat.add_comm]
        refine Nat.add_le_add ih ?_
        split
        · simp
        · exact orders_le n d _
    have h := this (List.range n)
    rw [List.length_range] at h
    rw [Nat.pow_succ, Nat.mul_comm]
    exact h
def upTo (m : Nat) : List Int := (List.range m).map fun i : Nat => (i : Int)
theorem orders_some (n : Nat) : ∀ (d m : Nat), m + d = n → ordersB n d (upTo m) ≠ []
  | 0, m, _ => by simp [ordersB]
  | d + 1, m, h => by
    intro he
    rw [ordersB, List.flatMap_eq_nil_iff] at he
    have hm := he m (List.mem_range.mpr (by omega))
    have hc : (upTo m).contains (m : Int) = false := by
      rw [Bool.eq_false_iff]
      intro hc
      rw [List.contains_iff_mem] at hc
      obtain ⟨i, hi, hii⟩ := List.mem_map.mp hc
      rw [List.mem_range] at hi
      omega
    rw [if_neg (by rw [hc]; decide)] at hm
    refine orders_some n d (m + 1) (by omega) ?_
    rw [show upTo (m + 1) = upTo m ++ [(m : Int)] by simp [upTo, List.range_succ]]
    exact hm
theorem l00Own_eq (o : List Int) (h : o.length ≤ 1048576) : spec_l00Own.f o = some o := by
  unfold spec_l00Own.f
  simp only [Option.bind_some, List.length_nil, List.nil_append]
  rw [if_pos (by omega)]
theorem l00Has_l0 (l : List Int) (hl : l.length ≤ 1048576) (x : Int) : ∀ (cs pre : List Int), l = pre ++ cs → Ev (fun k => spec_l00Has.l0 k l x (pre.length : Int)) (cs.contains x) := by
  intro cs
  induction cs with
  | nil =>
    intro pre hpre
    refine Ev.step (fun k => by rw [spec_l00Has.l0]) ?_
    have : l.length = pre.length := by rw [hpre]; simp
    simp only [show ¬ (pre.length : Int) < (l.length : Int) by omega, ↓reduceIte]
    exact Ev.now _
  | cons c cs ih =>
    intro pre hpre
    have hlen : l.length = pre.length + cs.length + 1 := by rw [hpre]; simp; omega
    have hc : rd l (pre.length : Int) = c := by rw [hpre]; exact rdim pre c cs
    have hnext := ih (pre ++ [c]) (by rw [hpre]; simp)
    simp only [List.length_append, List.length_cons, List.length_nil, Nat.zero_add] at hnext
    refine Ev.step (fun k => by rw [spec_l00Has.l0]) ?_
    simp only [show (pre.length : Int) < (l.length : Int) by omega, show (0 : Int) ≤ (pre.length : Int) by omega, ↓reduceIte, hc, wsuc (show pre.length < l.length by omega) hl]
    by_cases h : c = x
    · simp only [h, ↓reduceIte]
      rw [show (x :: cs).contains x = true by simp]
      exact Ev.now _
    · simp only [h, ↓reduceIte]
      rw [show (c :: cs).contains x = cs.contains x by simp [List.contains_cons, Ne.symm h]]
      exact hnext
theorem l00Has_ev (l : List Int) (hl : l.length ≤ 1048576) (x : Int) : Ev (fun k => spec_l00Has.f k l x) (l.contains x) := by
  unfold spec_l00Has.f
  exact l00Has_l0 l hl x l [] rfl
def partB (n d : Nat) (o : List Int) (l : List Nat) : List (List Int) := l.flatMap fun (i : Nat) => if o.contains (i : Int) = true then [] else ordersB n d (o ++ [(i : Int)])
theorem pow7 {n d : Nat} (hn : n ≤ 7) (hd : d ≤ 7) : n ^ d ≤ 823543 := Nat.le_trans (Nat.pow_le_pow_left hn d) (Nat.le_trans (Nat.pow_le_pow_right (by omega) hd) (by decide))
theorem part_le (n d : Nat) (o : List Int) (l : List Nat) : (partB n d o l).length ≤ l.length * n ^ d := by
  induction l with
  | nil => simp [partB]
  | cons a l ih =>
    unfold partB at ih ⊢
    rw [List.flatMap_cons, List.length_append, List.length_cons, Nat.add_mul, Nat.one_mul, Nat.add_comm]
    refine Nat.add_le_add ih ?_
    split
    · simp
    · exact orders_le n d _
theorem orders_ev (n : Nat) (hn : n ≤ 7) : ∀ (d : Nat) (o : List Int), o.length + d = n → Ev (fun k => spec_l02Orders.f k (n : Int) o) (ordersB n d o) := by
  intro d
  induction d with
  | zero =>
    intro o hd
    refine Ev.step (fun k => by rw [spec_l02Orders.f]) ?_
    simp only [show (o.length : Int) = (n : Int) by omega, ↓reduceIte, l00Own_eq o (by omega), Option.bind_some]
    exact Ev.now _
  | succ d ih =>
    intro o hd
    refine Ev.step (fun k => by rw [spec_l02Orders.f]) ?_
    simp only [show ¬ (o.length : Int) = (n : Int) by omega, ↓reduceIte]
    have key : ∀ (m i : Nat), i + m = n → Ev (fun k => spec_l02Orders.l0 k (n : Int) o (partB n d o (List.range i)) (i : Int)) (ordersB n (d + 1) o) := by
      intro m
      induction m with
      | zero =>
        intro i hi
        refine Ev.step (fun k => by rw [spec_l02Orders.l0]) ?_
        simp only [show ¬ (i : Int) < (n : Int) by omega, ↓reduceIte]
        rw [show i = n by omega]
        exact Ev.now _
      | succ m ihm =>
        intro i hi
        have hnext := ihm (i + 1) (by omega)
        have hw : wrap64 ((i : Int) + 1) = ((i + 1 : Nat) : Int) := by unfold wrap64; omega
        have hsn : partB n d o (List.range (i + 1)) = partB n d o (List.range i) ++ (if o.contains (i : Int) = true then [] else ordersB n d (o ++ [(i : Int)])) := by
          unfold partB
          rw [List.range_succ, List.flatMap_append]
          simp
        refine Ev.step (fun k => by rw [spec_l02Orders.l0]) ?_
        simp only [show (i : Int) < (n : Int) by omega, ↓reduceIte]
        refine Ev.bind (l00Has_ev o (by omega) (i : Int)) ?_
        by_cases h : o.contains (i : Int) = true
        · rw [if_pos h, List.append_nil] at hsn
          rw [hsn] at hnext
          simp only [h, ↓reduceIte, hw]
          exact hnext
        · rw [if_neg h] at hsn
          rw [hsn] at hnext
          simp only [h, Bool.false_eq_true, ↓reduceIte, hw, l00Own_eq o (by omega), Option.bind_some, show o.length < 17592186044416 by omega]
          refine Ev.bind (ih (o ++ [(i : Int)]) (by simp; omega)) ?_
          have b1 := part_le n d o (List.range i)
          have b2 := orders_le n d (o ++ [(i : Int)])
          have b3 := pow7 (d := d) hn (by omega)
          rw [List.length_range] at b1
          have b4 : i * n ^ d ≤ 7 * 823543 := Nat.mul_le_mul (by omega) b3
          simp only [show (partB n d o (List.range i)).length + (ordersB n d (o ++ [(i : Int)])).length < 5864062014805 by omega, ↓reduceIte]
          exact hnext
    exact key n 0 (by omega)
theorem l02In_l0 (l : List S38) (o : List Int) (ho : o.length ≤ 1048576) : ∀ (cs pre : List Int), o = pre ++ cs → inRange l.length cs = true → ∀ x : List S38, x.length = pre.length →
    Ev (fun k => spec_l02In.l0 k l o x (pre.length : Int)) (x ++ pickedB l cs) := by
  intro cs
  induction cs with
  | nil =>
    intro pre hpre hr x hx
    refine Ev.step (fun k => by rw [spec_l02In.l0]) ?_
    have : o.length = pre.length := by rw [hpre]; simp
    simp only [show ¬ (pre.length : Int) < (o.length : Int) by omega, ↓reduceIte]
    rw [show x ++ pickedB l [] = x by simp [pickedB]]
    exact Ev.now _
  | cons c cs ih =>
    intro pre hpre hr x hx
    have hlen : o.length = pre.length + cs.length + 1 := by rw [hpre]; simp; omega
    have hc : rd o (pre.length : Int) = c := by rw [hpre]; exact rdim pre c cs
    rw [inRange, List.all_cons, Bool.and_eq_true, Bool.and_eq_true, decide_eq_true_eq, decide_eq_true_eq] at hr
    obtain ⟨⟨h0, h1⟩, hr⟩ := hr
    have hnext := ih (pre ++ [c]) (by rw [hpre]; simp) hr
    simp only [List.length_append, List.length_cons, List.length_nil, Nat.zero_add] at hnext
    refine Ev.step (fun k => by rw [spec_l02In.l0]) ?_
    simp only [show (pre.length : Int) < (o.length : Int) by omega, show (0 : Int) ≤ (pre.length : Int) by omega, ↓reduceIte, hc, h0, h1, show x.length < 35184372088832 by omega, wsuc (show pre.length < o.length by omega) ho]
    rw [show x ++ pickedB l (c :: cs) = (x ++ [rd_T38 l c]) ++ pickedB l cs by simp [pickedB]]
    exact hnext _ (by simp [hx])
theorem l02In_ev (l : List S38) (o : List Int) (ho : o.length ≤ 1048576) (hr : inRange l.length o = true) : Ev (fun k => spec_l02In.f k l o) (pickedB l o) := by
  unfold spec_l02In.f
  exact l02In_l0 l o ho o [] rfl hr [] rfl
theorem picked_len (l : List S38) (o : List Int) : (pickedB l o).length = o.length := by simp [pickedB]
theorem inRange_v (l : List S38) (o : List Int) (h : ValidO l.length o) : inRange l.length o = true := by
  unfold inRange
  rw [List.all_eq_true]
  intro x hx
  have := h x hx
  simp [this.1, this.2]
def leastB (sc : List Int → Int) : List (List Int) → List Int × Int → List Int × Int
  | [], s => s
  | o :: os, s => leastB sc os (if sc o < s.2 then (o, sc o) else s)
theorem least_upd (sc : List Int → Int) : ∀ (os : List (List Int)) (s : List Int × Int), 0 ≤ s.2 → (∀ o ∈ os, 0 ≤ sc o) → os.foldl (fun s o => updB sc o s) s = leastB sc os s
  | [], s, _, _ => rfl
  | o :: os, s, hs, h => by
    have ho := h o (by simp)
    rw [List.foldl_cons, leastB]
    by_cases hl : sc o < s.2
    · rw [if_pos hl, show updB sc o s = (o, sc o) from if_pos ⟨ho, .inr hl⟩]
      exact least_upd sc os _ ho (fun x hx => h x (by simp [hx]))
    · rw [if_neg hl, show updB sc o s = s from if_neg (fun hh => hh.2.elim (by omega) hl)]
      exact least_upd sc os s hs (fun x hx => h x (by simp [hx]))
theorem best_least (sc : List Int → Int) (n : Nat) (o : List Int) (os : List (List Int)) (he : ordersB n n [] = o :: os) (h : ∀ x ∈ o :: os, 0 ≤ sc x) : bestB sc n = leastB sc os (o, sc o) := by
  rw [bestB, dfs_orders, he, List.foldl_cons, show updB sc o ([], -1) = (o, sc o) from if_pos ⟨h o (by simp), .inl (by omega)⟩]
  exact least_upd sc os _ (h o (by simp)) (fun x hx => h x (by simp [hx]))
theorem hung_wide : ∀ (cs : List S38) (o : Option S38) (p : Int) (pl : List Int) (e : Int), cs.all cloth_ok = true → 0 ≤ e → e + 201 * cs.length ≤ 4194304 → (o = none ∨ 4 ≤ e) → 0 ≤ (hungFrom o p pl e cs).2.2
  | [], o, p, pl, e, _, h0, _, _ => by cases o <;> simpa [hungFrom] using h0
  | c :: cs, none, p, pl, e, hok, h0, h1, _ => by
    rw [List.all_cons, Bool.and_eq_true] at hok
    obtain ⟨hc, hok⟩ := hok
    unfold cloth_ok at hc
    rw [Bool.and_eq_true, decide_eq_true_eq] at hc
    simp only [List.length_cons] at h1
    have e1 : wrap64 c.f0 = c.f0 := by unfold wrap64; omega
    have e2 : wrap64 (e + c.f0) = e + c.f0 := by unfold wrap64; omega
    rw [hungFrom, e1, e2]
    exact hung_wide cs _ _ _ _ hok (by omega) (by omega) (.inr (by omega))
  | c :: cs, some b, p, pl, e, hok, h0, h1, ho => by
    rw [List.all_cons, Bool.and_eq_true] at hok
    obtain ⟨hc, hok⟩ := hok
    unfold cloth_ok at hc
    rw [Bool.and_eq_true, decide_eq_true_eq] at hc
    simp only [List.length_cons] at h1
    have he : 4 ≤ e := ho.elim (fun h => by cases h) id
    have e1 : wrap64 c.f0 = c.f0 := by unfold wrap64; omega
    have e2 : wrap64 (e - 2) = e - 2 := by unfold wrap64; omega
    have e3 : wrap64 (e - 2 + c.f0) = e - 2 + c.f0 := by unfold wrap64; omega
    have e4 : wrap64 (e + 1) = e + 1 := by unfold wrap64; omega
    have e5 : wrap64 (e + 1 + c.f0) = e + 1 + c.f0 := by unfold wrap64; omega
    rw [hungFrom, e1, e2, e3, e4, e5]
    by_cases h : shareB b c = true
    · rw [if_pos h]
      exact hung_wide cs _ _ _ _ hok (by omega) (by omega) (.inr (by omega))
    · rw [if_neg h]
      exact hung_wide cs _ _ _ _ hok (by omega) (by omega) (.inr (by omega))
theorem picked_ok (l : List S38) (o : List Int) (h : l.all cloth_ok = true) (hv : ValidO l.length o) : (pickedB l o).all cloth_ok = true := by
  rw [List.all_eq_true] at h ⊢
  intro x hx
  obtain ⟨i, hi, rfl⟩ := List.mem_map.mp hx
  have hi2 := hv i hi
  have hlt : i.toNat < l.length := by omega
  refine h _ ?_
  rw [rd_T38, List.getD_eq_getElem?_getD, List.getElem?_eq_getElem hlt]
  exact List.getElem_mem hlt
theorem codeOf_ok {l : List S38} {n : Int} (h : codeOf l n = 0) : l.all cloth_ok = true := by
  unfold codeOf at h
  by_cases h1 : l.all cloth_ok = true
  · exact h1
  · simp [h1] at h
theorem width_nonneg (l : List S38) (o : List Int) (h : l.all cloth_ok = true) (hl : o.length ≤ 7) (hv : ValidO l.length o) : 0 ≤ (hungOf (pickedB l o)).2.2 := by
  unfold hungOf
  exact hung_wide _ none 0 [] 0 (picked_ok l o h hv) (Int.le_refl _) (by rw [picked_len]; omega) (.inl rfl)
theorem hung_places : ∀ (cs : List S38) (o : Option S38) (p : Int) (pl : List Int) (e : Int), cs.all cloth_ok = true → 0 ≤ e → e + 201 * cs.length ≤ 4194304 → (o = none ∨ 4 ≤ e) →
    ∃ qs : List Int, (hungFrom o p pl e cs).2.1 = pl ++ qs ∧ qs.length = cs.length ∧ e ≤ (hungFrom o p pl e cs).2.2 ∧ ∀ x ∈ qs.zip cs, 0 ≤ x.1 ∧ x.1 + x.2.f0 ≤ (hungFrom o p pl e cs).2.2
  | [], o, p, pl, e, _, h0, _, _ => ⟨[], by cases o <;> simp [hungFrom], rfl, by cases o <;> simp [hungFrom], by simp⟩
  | c :: cs, none, p, pl, e, hok, h0, h1, _ => by
    rw [List.all_cons, Bool.and_eq_true] at hok
    obtain ⟨hc, hok⟩ := hok
    unfold cloth_ok at hc
    rw [Bool.and_eq_true, decide_eq_true_eq] at hc
    simp only [List.length_cons] at h1
    have e1 : wrap64 c.f0 = c.f0 := by unfold wrap64; omega
    have e2 : wrap64 (e + c.f0) = e + c.f0 := by unfold wrap64; omega
    rw [hungFrom, e1, e2]
    obtain ⟨qs, k1, k2, k3, k4⟩ := hung_places cs (some c) (wrap64 (p + 2)) (pl ++ [e]) (e + c.f0) hok (by omega) (by omega) (.inr (by omega))
    refine ⟨e :: qs, by rw [k1]; simp, by simp [k2], by omega, fun x hx => ?_⟩
    rw [List.zip_cons_cons, List.mem_cons] at hx
    rcases hx with rfl | hx
    · exact ⟨h0, k3⟩
    · exact k4 x hx
  | c :: cs, some b, p, pl, e, hok, h0, h1, ho => by
    rw [List.all_cons, Bool.and_eq_true] at hok
    obtain ⟨hc, hok⟩ := hok
    unfold cloth_ok at hc
    rw [Bool.and_eq_true, decide_eq_true_eq] at hc
    simp only [List.length_cons] at h1
    have he : 4 ≤ e := ho.elim (fun h => by cases h) id
    have e1 : wrap64 c.f0 = c.f0 := by unfold wrap64; omega
    have e2 : wrap64 (e - 2) = e - 2 := by unfold wrap64; omega
    have e3 : wrap64 (e - 2 + c.f0) = e - 2 + c.f0 := by unfold wrap64; omega
    have e4 : wrap64 (e + 1) = e + 1 := by unfold wrap64; omega
    have e5 : wrap64 (e + 1 + c.f0) = e + 1 + c.f0 := by unfold wrap64; omega
    rw [hungFrom, e1, e2, e3, e4, e5]
    by_cases h : shareB b c = true
    · rw [if_pos h]
      obtain ⟨qs, k1, k2, k3, k4⟩ := hung_places cs (some c) (wrap64 (wrap64 (p + 2) - 1)) (pl ++ [e - 2]) (e - 2 + c.f0) hok (by omega) (by omega) (.inr (by omega))
      refine ⟨(e - 2) :: qs, by rw [k1]; simp, by simp [k2], by omega, fun x hx => ?_⟩
      rw [List.zip_cons_cons, List.mem_cons] at hx
      rcases hx with rfl | hx
      · exact ⟨by simp only; omega, k3⟩
      · exact k4 x hx
    · rw [if_neg h]
      obtain ⟨qs, k1, k2, k3, k4⟩ := hung_places cs (some c) (wrap64 (p + 2)) (pl ++ [e + 1]) (e + 1 + c.f0) hok (by omega) (by omega) (.inr (by omega))
      refine ⟨(e + 1) :: qs, by rw [k1]; simp, by simp [k2], by omega, fun x hx => ?_⟩
      rw [List.zip_cons_cons, List.mem_cons] at hx
      rcases hx with rfl | hx
      · exact ⟨by simp only; omega, k3⟩
      · exact k4 x hx
theorem sagStep_pos (long p : Int) (c : S38) (hl : 4 ≤ long ∧ long ≤ 2000) (hc : cloth_ok c = true) (hp : 0 ≤ p ∧ p + c.f0 ≤ long) : 0 ≤ sagStep (2 * long) p c ∧ sagStep (2 * long) p c ≤ 500 := by
  unfold cloth_ok at hc
  rw [Bool.and_eq_true, decide_eq_true_eq, decide_eq_true_eq] at hc
  have e1 : wrap64 c.f1 = c.f1 := by unfold wrap64; omega
  have e2 : wrap64 c.f0 = c.f0 := by unfold wrap64; omega
  have e3 : wrap64 (2 * p) = 2 * p := by unfold wrap64; omega
  have e4 : wrap64 (2 * p + c.f0) = 2 * p + c.f0 := by unfold wrap64; omega
  have e5 : wrap64 (2 * long - (2 * p + c.f0)) = 2 * long - (2 * p + c.f0) := by unfold wrap64; omega
  unfold sagStep
  rw [e1, e2, e3, e4, e5]
  obtain ⟨m, hm⟩ : ∃ m, mn (2 * p + c.f0) (2 * long - (2 * p + c.f0)) = m := ⟨_, rfl⟩
  have hm0 : 0 ≤ m ∧ m ≤ 2 * long := by rw [← hm]; unfold mn; split <;> omega
  rw [hm]
  have hmul0 : 0 ≤ c.f1 * m := Int.mul_nonneg (by omega) hm0.1
  have hmul1 : c.f1 * m ≤ 500 * (2 * long) := Int.mul_le_mul (by omega) hm0.2 hm0.1 (by omega)
  have e6 : wrap64 (c.f1 * m) = c.f1 * m := by unfold wrap64; omega
  rw [e6, Int.tdiv_eq_ediv_of_nonneg hmul0]
  have d0 : 0 ≤ c.f1 * m / (2 * long) := Int.ediv_nonneg hmul0 (by omega)
  have d1 : c.f1 * m / (2 * long) ≤ 500 := Int.ediv_le_of_le_mul (by omega) hmul1
  have e7 : wrap64 (c.f1 * m / (2 * long)) = c.f1 * m / (2 * long) := by unfold wrap64; omega
  rw [e7]
  exact ⟨d0, d1⟩
theorem sagFrom_pos (long : Int) (hl : 4 ≤ long ∧ long ≤ 2000) : ∀ (cs : List S38) (ps : List Int) (x : Int), 0 ≤ x → x + 500 * cs.length ≤ 1000000000 → cs.all cloth_ok = true → (∀ y ∈ ps.zip cs, 0 ≤ y.1 ∧ y.1 + y.2.f0 ≤ long) → 0 ≤ sagFrom (2 * long) x ps cs
  | [], ps, x, h0, _, _, _ => by cases ps <;> simpa [sagFrom] using h0
  | c :: cs, [], x, h0, _, _, _ => by simpa [sagFrom] using h0
  | c :: cs, p :: ps, x, h0, h1, hok, hp => by
    rw [List.all_cons, Bool.and_eq_true] at hok
    have hs := sagStep_pos long p c hl hok.1 (hp (p, c) (by simp))
    simp only [List.length_cons] at h1
    have e : wrap64 (x + sagStep (2 * long) p c) = x + sagStep (2 * long) p c := by unfold wrap64; omega
    rw [sagFrom, e]
    exact sagFrom_pos long hl cs ps _ (by omega) (by omega) hok.2 (fun y hy => hp y (by rw [List.zip_cons_cons]; exact List.mem_cons_of_mem _ hy))
theorem sag_pos (a b : Int) (hb : lineB a b = true) (l : List S38) (hl : l.length ≤ 7) (hok : l.all cloth_ok = true) (hh : holdsB a b l = true) : 0 ≤ sagB a l := by
  unfold lineB at hb
  rw [Bool.and_eq_true, decide_eq_true_eq] at hb
  have e1 : wrap64 a = a := by unfold wrap64; omega
  have e2 : wrap64 (2 * a) = 2 * a := by unfold wrap64; omega
  unfold holdsB at hh
  rw [Bool.and_eq_true, decide_eq_true_eq, e1] at hh
  unfold sagB
  rw [e1, e2]
  obtain ⟨qs, k1, k2, k3, k4⟩ := hung_places l none 0 [] 0 hok (Int.le_refl _) (by omega) (.inl rfl)
  have k5 : (hungOf l).2.1 = qs := by unfold hungOf; rw [k1]; simp
  rw [k5]
  have hw : (hungFrom none 0 [] 0 l).2.2 ≤ a := hh.1
  exact sagFrom_pos a hb.1 l qs 0 (Int.le_refl _) (by omega) hok (fun y hy => ⟨(k4 y hy).1, by have := (k4 y hy).2; omega⟩)
theorem len_strict : ∀ (xs : List Int) (lo hi : Int), xs.Pairwise (· < ·) → (∀ x ∈ xs, lo ≤ x ∧ x < hi) → lo ≤ hi → (xs.length : Int) ≤ hi - lo
  | [], lo, hi, _, _, h => by simp; omega
  | x :: xs, lo, hi, hp, hm, h => by
    rw [List.pairwise_cons] at hp
    have hx := hm x (by simp)
    have := len_strict xs (x + 1) hi hp.2 (fun y hy => ⟨by have := hp.1 y hy; omega, (hm y (by simp [hy])).2⟩) (by omega)
    rw [List.length_cons]
    omega
theorem ordFrom_of : ∀ (xs : List Int) (a : Nat), xs.Pairwise (· < ·) → (∀ x ∈ xs, (a : Int) ≤ x ∧ x < (a : Int) + (xs.length : Int)) → ordFrom xs a = true
  | [], a, _, _ => rfl
  | x :: xs, a, hp, hm => by
    rw [List.pairwise_cons] at hp
    have hx := hm x (by simp)
    rw [List.length_cons] at hx hm
    have hl := len_strict xs (x + 1) ((a : Int) + ((xs.length + 1 : Nat) : Int)) hp.2 (fun y hy => ⟨by have := hp.1 y hy; omega, (hm y (by simp [hy])).2⟩) (by omega)
    have hxa : x = (a : Int) := by omega
    rw [ordFrom, Bool.and_eq_true, decide_eq_true_eq]
    refine ⟨hxa, ordFrom_of xs (a + 1) hp.2 (fun y hy => ?_)⟩
    have h1 := hp.1 y hy
    have h2 := hm y (by simp [hy])
    omega
theorem of_ordFrom : ∀ (xs : List Int) (a : Nat), ordFrom xs a = true → xs.Pairwise (· < ·) ∧ ∀ x ∈ xs, (a : Int) ≤ x ∧ x < (a : Int) + (xs.length : Int)
  | [], a, _ => ⟨List.Pairwise.nil, fun x h => by cases h⟩
  | x :: xs, a, h => by
    rw [ordFrom, Bool.and_eq_true, decide_eq_true_eq] at h
    obtain ⟨h1, h2⟩ := of_ordFrom xs (a + 1) h.2
    refine ⟨List.pairwise_cons.2 ⟨fun y hy => ?_, h1⟩, fun y hy => ?_⟩
    · have := h2 y hy
      have := h.1
      omega
    · rw [List.length_cons]
      rcases List.mem_cons.1 hy with rfl | hy
      · have := h.1; omega
      · have := h2 y hy; omega
theorem srt_perm (l : List Int) : (srt l).Perm l := List.mergeSort_perm l _
theorem srt_le (l : List Int) : (srt l).Pairwise (· ≤ ·) := by
  have := List.pairwise_mergeSort (le := fun x y : Int => decide (x ≤ y)) (by intro a b c; simp only [decide_eq_true_eq]; omega) (by intro a b; simp only [Bool.or_eq_true, decide_eq_true_eq]; omega) l
  exact this.imp (fun h => of_decide_eq_true h)
theorem nodup_take (l : List Int) : (∀ k, k < l.length → ((l.take k).any (· == rd l (k : Int))) = false) ↔ l.Nodup := by
  have hrd : ∀ k (h : k < l.length), rd l (k : Int) = l[k] := fun k h => by simp [rd, List.getD_eq_getElem?_getD, List.getElem?_eq_getElem h]
  rw [List.Nodup, List.pairwise_iff_getElem]
  constructor
  · intro h i j hi hj hij he
    have := h j hj
    rw [hrd j hj, List.any_eq_false] at this
    exact this l[i] (List.mem_take_iff_getElem.2 ⟨i, by omega, rfl⟩) (by simp [he])
  · intro h k hk
    rw [hrd k hk, List.any_eq_false]
    intro x hx hq
    obtain ⟨i, hi, rfl⟩ := List.mem_take_iff_getElem.1 hx
    exact h i k (by omega) hk (by omega) (by simpa using hq)
theorem ok_iff (m : Int) (l : List Int) : (List.range l.length).all (okAt m l) = true ↔ (∀ x ∈ l, 0 ≤ x ∧ x ≤ m) ∧ l.Nodup := by
  have hrd : ∀ k (h : k < l.length), rd l (k : Int) = l[k] := fun k h => by simp [rd, List.getD_eq_getElem?_getD, List.getElem?_eq_getElem h]
  rw [← nodup_take, List.all_eq_true]
  simp only [List.mem_range, okAt, Bool.and_eq_true, decide_eq_true_eq, Bool.not_eq_true']
  constructor
  · intro h
    refine ⟨fun x hx => ?_, fun k hk => (h k hk).2⟩
    obtain ⟨k, hk, rfl⟩ := List.getElem_of_mem hx
    have := (h k hk).1
    rwa [hrd k hk] at this
  · intro h k hk
    refine ⟨?_, h.2 k hk⟩
    rw [hrd k hk]
    exact h.1 _ (List.getElem_mem hk)
def ordOk (n : Nat) (l : List Int) : Bool := ordFrom (srt l) 0 && decide ((l.length : Int) = (n : Int))
theorem orders_same (n : Nat) (hn : n ≤ 1048576) (l : List Int) : ((List.range l.length).all (okAt (wrap64 ((n : Int) - 1)) l) && decide ((l.length : Int) = (n : Int))) = ordOk n l := by
  unfold ordOk
  by_cases hl : l.length = n
  · subst hl
    have hw : wrap64 ((l.length : Int) - 1) = (l.length : Int) - 1 := by unfold wrap64; omega
    rw [hw]
    congr 1
    rw [Bool.eq_iff_iff, ok_iff]
    constructor
    · intro h
      refine ordFrom_of _ _ ?_ (fun x hx => ?_)
      · have h1 := srt_le l
        have h2 : (srt l).Nodup := (srt_perm l).nodup_iff.2 h.2
        exact (h1.and h2).imp (fun h => by have := h.1; have := h.2; omega)
      · rw [srt_len]
        have := h.1 x ((srt_perm l).mem_iff.1 hx)
        omega
    · intro h
      obtain ⟨h1, h2⟩ := of_ordFrom _ _ h
      refine ⟨fun x hx => ?_, (srt_perm l).nodup_iff.1 (h1.imp (fun h => by omega))⟩
      have := h2 x ((srt_perm l).mem_iff.2 hx)
      rw [srt_len] at this
      omega
  · rw [show decide ((l.length : Int) = (n : Int)) = false from decide_eq_false (by omega), Bool.and_false, Bool.and_false]
theorem ordOk_in {n : Nat} {l : List Int} (h : ordOk n l = true) : inRange n l = true ∧ l.length = n := by
  unfold ordOk at h
  rw [Bool.and_eq_true, decide_eq_true_eq] at h
  obtain ⟨_, h2⟩ := of_ordFrom _ _ h.1
  refine ⟨?_, by omega⟩
  unfold inRange
  rw [List.all_eq_true]
  intro x hx
  have := h2 x ((srt_perm l).mem_iff.2 hx)
  rw [srt_len] at this
  simp only [Bool.and_eq_true, decide_eq_true_eq]
  omega
def bytesB (s : List Int) : Prop := ∀ x ∈ s, 0 ≤ x ∧ x ≤ 255
theorem bits255 (x : Int) (h0 : 0 ≤ x) (h1 : x < 18446744073709551616) : 0 ≤ Go.bits .and .u64 x 255 ∧ Go.bits .and .u64 x 255 ≤ 255 := by
  rw [u64_and x 255 h0 h1 (by decide) (by decide)]
  have : x.toNat &&& (255 : Int).toNat ≤ 255 := Nat.and_le_right
  omega
theorem rd_byte {s : List Int} (hb : bytesB s) (i : Int) : 0 ≤ rd s i ∧ rd s i ≤ 255 := by
  unfold rd
  rw [List.getD_eq_getElem?_getD]
  cases h : s[i.toNat]? with
  | none => simp
  | some x => exact hb x (List.mem_of_getElem? h)
theorem u64w (x : Int) : 0 ≤ IntKind.u64.wrap x ∧ IntKind.u64.wrap x < 18446744073709551616 := by
  rw [IntKind.wrap_u64]; omega
theorem next_ok (s : List Int) (hb : bytesB s) (at_ sd : Int) (h0 : 0 ≤ at_) (h1 : at_ ≤ 100000) : ∃ v sd', spec_l00Src_next.f s at_ sd = some (v, at_ + 1, sd') ∧ 0 ≤ v ∧ v ≤ 255 := by
  have hw : wrap64 (at_ + 1) = at_ + 1 := by unfold wrap64; omega
  have small : ∀ v : Int, 0 ≤ v → v ≤ 255 → wrap64 v = v := fun v a b => by unfold wrap64; omega
  have hbits : ∀ z : Int, 0 ≤ wrap64 (Go.bits .and .u64 (IntKind.u64.wrap z / 1099511627776) 255) ∧ wrap64 (Go.bits .and .u64 (IntKind.u64.wrap z / 1099511627776) 255) ≤ 255 := fun z => by
    have hz := u64w z
    have := bits255 (IntKind.u64.wrap z / 1099511627776) (by omega) (by omega)
    rw [small _ this.1 this.2]
    exact this
  unfold spec_l00Src_next.f
  rw [hw]
  by_cases hl : at_ < (s.length : Int)
  · have hr := rd_byte hb at_
    rw [if_pos hl, if_pos h0]
    by_cases hm : at_ + 1 ≤ (s.length : Int)
    · rw [if_pos hm]
      exact ⟨_, _, rfl, by rw [small _ hr.1 hr.2]; exact hr.1, by rw [small _ hr.1 hr.2]; exact hr.2⟩
    · rw [if_neg hm]
      exact ⟨_, _, rfl, (hbits _).1, (hbits _).2⟩
  · rw [if_neg hl]
    by_cases hm : at_ + 1 ≤ (s.length : Int)
    · rw [if_pos hm]
      exact ⟨_, _, rfl, by decide, by decide⟩
    · rw [if_neg hm]
      exact ⟨_, _, rfl, (hbits _).1, (hbits _).2⟩
theorem pick_ok (s : List Int) (hb : bytesB s) (at_ sd n : Int) (h0 : 0 ≤ at_) (h1 : at_ ≤ 90000) (hn : 1 ≤ n) (hn2 : n ≤ 60000) : ∃ v a sd', spec_l00Src_pick.f s at_ sd n = some (v, a, sd') ∧ 0 ≤ v ∧ v < n ∧ at_ ≤ a ∧ a ≤ at_ + 2 := by
  unfold spec_l00Src_pick.f
  by_cases h : n ≤ 1
  · rw [if_pos h]
    exact ⟨_, _, _, rfl, by omega, by omega, by omega, by omega⟩
  · rw [if_neg h]
    obtain ⟨v, sd1, e1, v0, v1⟩ := next_ok s hb at_ sd h0 (by omega)
    rw [e1]
    simp only [Option.bind_some]
    by_cases h2 : n > 200
    · obtain ⟨v2, sd2, e2, w0, w1⟩ := next_ok s hb (at_ + 1) sd1 (by omega) (by omega)
      have hx : wrap64 (wrap64 (v * 256) + v2) = v * 256 + v2 := by unfold wrap64; omega
      simp only [h2, ↓reduceIte, e2, Option.bind_some, show ¬ n = 0 by omega, hx]
      refine ⟨_, _, _, rfl, ?_, ?_, by omega, by omega⟩
      · rw [Int.tmod_eq_emod_of_nonneg (by omega)]; exact Int.emod_nonneg _ (by omega)
      · rw [Int.tmod_eq_emod_of_nonneg (by omega)]; exact Int.emod_lt_of_pos _ (by omega)
    · simp only [h2, ↓reduceIte, show ¬ n = 0 by omega]
      refine ⟨_, _, _, rfl, ?_, ?_, by omega, by omega⟩
      · rw [Int.tmod_eq_emod_of_nonneg (by omega)]; exact Int.emod_nonneg _ (by omega)
      · rw [Int.tmod_eq_emod_of_nonneg (by omega)]; exact Int.emod_lt_of_pos _ (by omega)
def goodC (c : S38) : Bool := decide (4 ≤ c.f0 ∧ c.f0 ≤ 63 ∧ 10 ≤ c.f1 ∧ c.f1 ≤ 99)
theorem i16_small (x : Int) (h0 : 0 ≤ x) (h1 : x ≤ 20000) : IntKind.i16.wrap (wrap64 x) = x := by
  have h : wrap64 x = x := by unfold wrap64; omega
  rw [h]; simp [IntKind.wrap, IntKind.bits, IntKind.signed]; omega
theorem drawn_l0 (s : List Int) (hb : bytesB s) : ∀ (n : Nat) (x : List S38) (a sd : Int), 0 ≤ a → a + 4 * n ≤ 80000 → n + x.length ≤ 100 → ∃ (L : List S38) (a' sd' : Int), Ev (fun k => spec_l02Drawn.l0 k x (n : Int) s a sd) (x ++ L, a', sd') ∧ L.length = n ∧ L.all goodC = true := by
  intro n
  induction n with
  | zero =>
    intro x a sd h0 h1 h2
    refine ⟨[], a, sd, Ev.step (fun k => by rw [spec_l02Drawn.l0]) ?_, rfl, rfl⟩
    simp only [show ¬ ((0 : Nat) : Int) > 0 by omega, ↓reduceIte, List.append_nil]
    exact Ev.now _
  | succ n ih =>
    intro x a sd h0 h1 h2
    obtain ⟨v, a1, sd1, e1, v0, v1, w0, w1⟩ := pick_ok s hb a sd 60 h0 (by omega) (by omega) (by omega)
    obtain ⟨u, a2, sd2, e2, u0, u1, z0, z1⟩ := pick_ok s hb a1 sd1 90 (by omega) (by omega) (by omega) (by omega)
    have hc : (⟨IntKind.i16.wrap (wrap64 (4 + v)), IntKind.i16.wrap (wrap64 (10 + u))⟩ : S38) = ⟨4 + v, 10 + u⟩ := by rw [i16_small _ (by omega) (by omega), i16_small _ (by omega) (by omega)]
    obtain ⟨L, a', sd', hev, hl, hg⟩ := ih (x ++ [⟨4 + v, 10 + u⟩]) a2 sd2 (by omega) (by omega) (by simp; omega)
    refine ⟨⟨4 + v, 10 + u⟩ :: L, a', sd', Ev.step (fun k => by rw [spec_l02Drawn.l0]) ?_, by simp [hl], ?_⟩
    · simp only [show ((n + 1 : Nat) : Int) > 0 by omega, ↓reduceIte, e1, e2, Option.bind_some, show x.length < 35184372088832 by omega, hc, show wrap64 (((n + 1 : Nat) : Int) - 1) = (n : Int) by unfold wrap64; omega]
      rw [show x ++ (⟨4 + v, 10 + u⟩ : S38) :: L = x ++ [⟨4 + v, 10 + u⟩] ++ L by simp]
      exact hev
    · rw [List.all_cons, hg, Bool.and_true]
      exact decide_eq_true (by simp only []; omega)
theorem Drawn_ok (s : List Int) (hb : bytesB s) (m : Nat) (hm : m ≤ 50) : ∃ (L : List S38) (a' sd' : Int), Ev (fun k => spec_l02Drawn.f k s 0 0 (m : Int)) (L, a', sd') ∧ L.length ≤ m ∧ L.all goodC = true := by
  obtain ⟨v, a1, sd1, e1, v0, v1, w0, w1⟩ := pick_ok s hb 0 0 ((m : Int) + 1) (by omega) (by omega) (by omega) (by omega)
  obtain ⟨n, rfl⟩ : ∃ n : Nat, v = (n : Int) := ⟨v.toNat, by omega⟩
  obtain ⟨L, a', sd', hev, hl, hg⟩ := drawn_l0 s hb n [] a1 sd1 (by omega) (by omega) (by rw [List.length_nil]; omega)
  rw [List.nil_append] at hev
  refine ⟨L, a', sd', ?_, by omega, hg⟩
  have hw : wrap64 ((m : Int) + 1) = (m : Int) + 1 := by unfold wrap64; omega
  have hf : ∀ k, spec_l02Drawn.f k s 0 0 (m : Int) = spec_l02Drawn.l0 k [] (n : Int) s a1 sd1 := fun k => by
    unfold spec_l02Drawn.f
    rw [hw, e1, Option.bind_some]
  simp only [hf]
  exact hev
theorem A2Cloths_ok (s : List Int) (hb : bytesB s) (m : Nat) (hm : m ≤ 50) : ∃ L : List S38, Ev (fun k => spec_A2Cloths.f k s (m : Int)) L ∧ L.length ≤ m ∧ L.all goodC = true := by
  obtain ⟨L, a', sd', hev, hl, hg⟩ := Drawn_ok s hb m hm
  refine ⟨L, ?_, hl, hg⟩
  have hf : ∀ k, spec_A2Cloths.f k s (m : Int) = (spec_l02Drawn.f k s 0 0 (m : Int)).bind fun bt129 => some bt129.1 := fun k => by
    unfold spec_A2Cloths.f spec_l00From.f
    rw [Option.bind_some]
  simp only [hf]
  exact Ev.bind hev (Ev.now _)
theorem A2Line_ok (s : List Int) (hb : bytesB s) : ∃ a b : Int, spec_A2Line.f s = some (a, b) ∧ 64 ≤ a ∧ a ≤ 213 ∧ 100 ≤ b ∧ b ≤ 399 := by
  obtain ⟨v, a1, sd1, e1, v0, v1, w0, w1⟩ := pick_ok s hb 0 0 150 (by omega) (by omega) (by omega) (by omega)
  obtain ⟨u, a2, sd2, e2, u0, u1, z0, z1⟩ := pick_ok s hb a1 sd1 300 (by omega) (by omega) (by omega) (by omega)
  refine ⟨64 + v, 100 + u, ?_, by omega, by omega, by omega, by omega⟩
  unfold spec_A2Line.f spec_l00From.f
  simp only [Option.bind_some, e1, e2]
  rw [i16_small _ (by omega) (by omega), i16_small _ (by omega) (by omega)]
def ordV (n : Nat) (x : List Int) : Prop := x.length = n ∧ x.Nodup ∧ ∀ y ∈ x, 0 ≤ y ∧ y < (n : Int)
theorem own_eq (o : List Int) (h : o.length ≤ 1048576) : spec_l00Own.f o = some o := by
  unfold spec_l00Own.f
  simp only [Option.bind_some, List.length_nil, List.nil_append, show 0 + o.length < 17592186044416 by omega, ↓reduceIte]
theorem ordV_put {n : Nat} {x : List Int} (h : ordV n x) (v : Nat) : ordV (n + 1) (x.take v ++ [(n : Int)] ++ x.drop v) := by
  have hp : (x.take v ++ [(n : Int)] ++ x.drop v).Perm ((n : Int) :: x) := by
    rw [List.append_assoc]
    have := List.perm_middle (a := (n : Int)) (l₁ := x.take v) (l₂ := x.drop v)
    rwa [List.take_append_drop] at this
  obtain ⟨h1, h2, h3⟩ := h
  refine ⟨by rw [hp.length_eq, List.length_cons, h1], ?_, fun y hy => ?_⟩
  · rw [hp.nodup_iff, List.nodup_cons]
    exact ⟨fun hm => by have := h3 _ hm; omega, h2⟩
  · rcases List.mem_cons.1 (hp.mem_iff.1 hy) with rfl | hy
    · omega
    · have := h3 y hy; omega
theorem mixed_l0 (s : List Int) (hb : bytesB s) (n : Nat) (hn : n ≤ 100) : ∀ (d i : Nat) (x : List Int) (a sd : Int), i + d = n → ordV i x → 0 ≤ a → a + 2 * d ≤ 80000 → ∃ (o : List Int) (a' sd' : Int), Ev (fun k => spec_l02Mixed.l0 k (n : Int) x (i : Int) s a sd) (o, a', sd') ∧ ordV n o := by
  intro d
  induction d with
  | zero =>
    intro i x a sd hi hx h0 h1
    refine ⟨x, a, sd, Ev.step (fun k => by rw [spec_l02Mixed.l0]) ?_, by rw [← hi]; exact hx⟩
    simp only [show ¬ (i : Int) < (n : Int) by omega, ↓reduceIte]
    exact Ev.now _
  | succ d ih =>
    intro i x a sd hi hx h0 h1
    have hw : wrap64 ((i : Int) + 1) = ((i + 1 : Nat) : Int) := by unfold wrap64; omega
    obtain ⟨v, a1, sd1, e1, v0, v1, w0, w1⟩ := pick_ok s hb a sd ((i + 1 : Nat) : Int) h0 (by omega) (by omega) (by omega)
    have hxl := hx.1
    have hown : spec_l00Own.f (x.drop v.toNat) = some (x.drop v.toNat) := own_eq _ (by rw [List.length_drop]; omega)
    obtain ⟨o, a', sd', hev, ho⟩ := ih (i + 1) (x.take v.toNat ++ [(i : Int)] ++ x.drop v.toNat) a1 sd1 (by omega) (ordV_put hx v.toNat) (by omega) (by omega)
    refine ⟨o, a', sd', Ev.step (fun k => by rw [spec_l02Mixed.l0]) ?_, ho⟩
    have l1 : (x.take v.toNat).length < 17592186044416 := by rw [List.length_take]; omega
    have l2 : (x.take v.toNat ++ [(i : Int)]).length + (x.drop v.toNat).length < 17592186044416 := by rw [List.length_append, List.length_take, List.length_drop, List.length_singleton]; omega
    simp only [show (i : Int) < (n : Int) by omega, ↓reduceIte, hw, e1, Option.bind_some, v0, show v ≤ (x.length : Int) by omega, hown, l1, l2]
    exact hev
theorem A2Order_ok (s : List Int) (hb : bytesB s) (n : Nat) (hn : n ≤ 100) : ∃ o : List Int, Ev (fun k => spec_A2Order.f k s (n : Int)) o ∧ ordV n o := by
  obtain ⟨o, a', sd', hev, ho⟩ := mixed_l0 s hb n hn n 0 [] 0 0 (by omega) ⟨rfl, List.nodup_nil, fun y h => by cases h⟩ (by omega) (by omega)
  refine ⟨o, ?_, ho⟩
  have hf : ∀ k, spec_A2Order.f k s (n : Int) = (spec_l02Mixed.l0 k (n : Int) [] 0 s 0 0).bind fun bt180 => some bt180.1 := fun k => by
    unfold spec_A2Order.f spec_l00From.f
    rw [Option.bind_some]
    unfold spec_l02Mixed.f
    rfl
  simp only [hf]
  exact Ev.bind hev (Ev.now _)
theorem orders_in (n : Nat) : ∀ (d : Nat) (o xs : List Int), o.length + d = n → xs.length = d → (o ++ xs).Nodup → (∀ y ∈ xs, 0 ≤ y ∧ y < (n : Int)) → o ++ xs ∈ ordersB n d o
  | 0, o, xs, hd, hl, hn, hr => by
    rw [List.length_eq_zero_iff.1 hl, ordersB, List.append_nil]
    exact List.mem_singleton.2 rfl
  | d + 1, o, [], hd, hl, hn, hr => by simp at hl
  | d + 1, o, y :: ys, hd, hl, hn, hr => by
    have hy := hr y (by simp)
    obtain ⟨i, rfl⟩ : ∃ i : Nat, y = (i : Int) := ⟨y.toNat, by omega⟩
    have hc : ¬ o.contains (i : Int) = true := by
      intro hc
      rw [List.contains_iff_mem] at hc
      exact (List.nodup_append.1 hn).2.2 _ hc _ (by simp) rfl
    rw [ordersB, List.mem_flatMap]
    refine ⟨i, List.mem_range.2 (by omega), ?_⟩
    rw [if_neg hc, show o ++ (i : Int) :: ys = (o ++ [(i : Int)]) ++ ys by simp]
    exact orders_in n d (o ++ [(i : Int)]) ys (by simp; omega) (by simpa using hl) (by simpa using hn) (fun z hz => hr z (by simp [hz]))
theorem orders_nodup (n : Nat) : ∀ (d : Nat) (o : List Int), o.Nodup → ∀ x ∈ ordersB n d o, x.Nodup
  | 0, o, hn, x, hx => by
    rw [ordersB, List.mem_singleton] at hx
    exact hx ▸ hn
  | d + 1, o, hn, x, hx => by
    rw [ordersB, List.mem_flatMap] at hx
    obtain ⟨i, hi, hx⟩ := hx
    by_cases hc : o.contains (i : Int) = true
    · rw [if_pos hc] at hx; cases hx
    · rw [if_neg hc] at hx
      refine orders_nodup n d (o ++ [(i : Int)]) ?_ x hx
      rw [List.nodup_append]
      refine ⟨hn, by simp, fun a ha b hb => ?_⟩
      rw [List.mem_singleton] at hb
      rintro rfl
      exact hc (List.contains_iff_mem.2 (hb ▸ ha))
theorem orders_iff (n : Nat) (x : List Int) : x ∈ ordersB n n [] ↔ ordV n x := by
  constructor
  · intro h
    have hv := orders_valid n n [] (by simp) (fun x hx => by cases hx) x h
    exact ⟨hv.1, orders_nodup n n [] List.nodup_nil x h, hv.2⟩
  · intro h
    have := orders_in n n [] x (by simp) h.1 (by simpa using h.2.1) h.2.2
    simpa using this
theorem upd_fold (sc : List Int → Int) : ∀ (os : List (List Int)) (s : List Int × Int),
    (os.foldl (fun s o => updB sc o s) s = s ∨ ∃ o ∈ os, os.foldl (fun s o => updB sc o s) s = (o, sc o) ∧ 0 ≤ sc o)
    ∧ (∀ o ∈ os, 0 ≤ sc o → 0 ≤ (os.foldl (fun s o => updB sc o s) s).2 ∧ (os.foldl (fun s o => updB sc o s) s).2 ≤ sc o)
    ∧ (0 ≤ s.2 → 0 ≤ (os.foldl (fun s o => updB sc o s) s).2 ∧ (os.foldl (fun s o => updB sc o s) s).2 ≤ s.2)
  | [], s => ⟨.inl rfl, fun o h => (by cases h), fun h => ⟨h, Int.le_refl _⟩⟩
  | o :: os, s => by
    rw [List.foldl_cons]
    by_cases hC : sc o ≥ 0 ∧ (s.2 < 0 ∨ sc o < s.2)
    · rw [show updB sc o s = (o, sc o) from if_pos hC]
      obtain ⟨h1, h2, h3⟩ := upd_fold sc os (o, sc o)
      have h3' := h3 hC.1
      refine ⟨.inr ?_, fun x hx hx0 => ?_, fun h0 => ⟨h3'.1, ?_⟩⟩
      · rcases h1 with h1 | ⟨x, hx, h1⟩
        · exact ⟨o, by simp, h1, hC.1⟩
        · exact ⟨x, by simp [hx], h1⟩
      · rcases List.mem_cons.1 hx with rfl | hx
        · exact h3'
        · exact h2 x hx hx0
      · have := h3'.2; have := hC.2; simp only at *; omega
    · rw [show updB sc o s = s from if_neg hC]
      obtain ⟨h1, h2, h3⟩ := upd_fold sc os s
      refine ⟨h1.imp id (fun ⟨x, hx, h⟩ => ⟨x, by simp [hx], h⟩), fun x hx hx0 => ?_, h3⟩
      rcases List.mem_cons.1 hx with rfl | hx
      · have := h3 (by omega); omega
      · exact h2 x hx hx0
theorem best_spec (sc : List Int → Int) (n : Nat) : (bestB sc n = ([], -1) ∧ ∀ x, ordV n x → sc x < 0) ∨ ∃ o, ordV n o ∧ bestB sc n = (o, sc o) ∧ 0 ≤ sc o ∧ ∀ x, ordV n x → 0 ≤ sc x → sc o ≤ sc x := by
  have hb : bestB sc n = (ordersB n n []).foldl (fun s o => updB sc o s) ([], -1) := by rw [bestB, dfs_orders]
  obtain ⟨h1, h2, _⟩ := upd_fold sc (ordersB n n []) ([], -1)
  rw [← hb] at h1 h2
  rcases h1 with h1 | ⟨o, ho, h1, h0⟩
  · refine .inl ⟨h1, fun x hx => ?_⟩
    have := h2 x ((orders_iff n x).2 hx)
    rw [h1] at this
    simp only at this
    omega
  · refine .inr ⟨o, (orders_iff n o).1 ho, h1, h0, fun x hx hx0 => ?_⟩
    have := h2 x ((orders_iff n x).2 hx) hx0
    rw [h1] at this
    exact this.2
theorem best_some (sc : List Int → Int) (n : Nat) (h : ∀ x, ordV n x → 0 ≤ sc x) : ∃ o, ordV n o ∧ bestB sc n = (o, sc o) ∧ ∀ x, ordV n x → sc o ≤ sc x := by
  rcases best_spec sc n with ⟨_, h1⟩ | ⟨o, ho, h1, _, h2⟩
  · match hs : ordersB n n [] with
    | [] => exact absurd hs (orders_some n n 0 (by omega))
    | o :: os =>
      have ho := (orders_iff n o).1 (by rw [hs]; simp)
      have := h1 o ho
      have := h o ho
      omega
  · exact ⟨o, ho, h1, fun x hx => h2 x hx (h x hx)⟩
theorem good_ok {l : List S38} (h : l.all goodC = true) : l.all cloth_ok = true := by
  rw [List.all_eq_true] at h ⊢
  intro x hx
  have := of_decide_eq_true (h x hx)
  unfold cloth_ok
  rw [Bool.and_eq_true, decide_eq_true_eq, decide_eq_true_eq]
  omega
theorem ok_small {l : List S38} (h : l.all cloth_ok = true) : smallS l := by
  rw [List.all_eq_true] at h
  intro x hx
  have := h x hx
  unfold cloth_ok at this
  rw [Bool.and_eq_true, decide_eq_true_eq, decide_eq_true_eq] at this
  omega
theorem ok_code {l : List S38} (h : l.all cloth_ok = true) {n : Int} (hl : (l.length : Int) ≤ n) : codeOf l n = 0 := by
  unfold codeOf
  rw [if_pos h, if_pos hl]
theorem ok_lcode {l : List S38} (h : l.all cloth_ok = true) (hl : l.length ≤ 7) {a b : Int} (ha : 64 ≤ a ∧ a ≤ 213) (hb : 100 ≤ b ∧ b ≤ 399) : lcode a b l = 0 := by
  unfold lcode lineB
  rw [if_pos (by rw [Bool.and_eq_true, decide_eq_true_eq, decide_eq_true_eq]; omega), ok_code h (by omega)]
theorem ord_ok {n : Nat} (hn : n ≤ 1048576) {o : List Int} (h : ordV n o) : ordOk n o = true := by
  rw [← orders_same n hn o, Bool.and_eq_true, decide_eq_true_eq, ok_iff]
  have hw : wrap64 ((n : Int) - 1) = (n : Int) - 1 := by unfold wrap64; omega
  rw [hw]
  exact ⟨⟨fun x hx => by have := h.2.2 x hx; omega, h.2.1⟩, by have := h.1; omega⟩
theorem pegs_least (l : List S38) (hl : l.length ≤ 1048576) : (l.length : Int) ≤ (hungOf l).1 ∧ (0 < l.length → (l.length : Int) + 1 ≤ (hungOf l).1) := by
  unfold hungOf
  rw [hung_pegs l none 0 [] 0 (by omega) (by omega)]
  match l with
  | [] => simp [shared]
  | c :: cs =>
    have := shared_le cs (some c)
    rw [shared, List.length_cons]
    omega
theorem pegs_nonneg (l : List S38) (hl : l.length ≤ 1048576) : 0 ≤ (hungOf l).1 := by
  unfold hungOf
  rw [hung_pegs l none 0 [] 0 (by omega) (by omega)]
  have := shared_le l none
  omega
theorem rdL (xs : List (List Int)) (pre : List (List Int)) (c : List Int) (cs : List (List Int)) (h : xs = pre ++ c :: cs) : rd_L4 xs (pre.length : Int) = c := by
  rw [h]
  simp [rd_L4, List.getD_eq_getElem?_getD]
theorem spec_FP_l0 (l : List S38) (hl : l.length ≤ 7) (all : List (List Int)) (hall : all.length ≤ 823543) (hv : ∀ x ∈ all, x.length = l.length ∧ ValidO l.length x) : ∀ (cs pre : List (List Int)), all = pre ++ cs → ∀ s : List Int × Int,
    Ev (fun k => spec_FewestPegs.l0 k l all s.1 s.2 (pre.length : Int)) ((leastB (pegsSc l) cs s).1, (leastB (pegsSc l) cs s).2, 0) := by
  intro cs
  induction cs with
  | nil =>
    intro pre hpre s
    refine Ev.step (fun k => by rw [spec_FewestPegs.l0]) ?_
    have : all.length = pre.length := by rw [hpre]; simp
    simp only [show ¬ (pre.length : Int) < (all.length : Int) by omega, ↓reduceIte]
    exact Ev.now _
  | cons c cs ih =>
    intro pre hpre s
    have hlen : all.length = pre.length + cs.length + 1 := by rw [hpre]; simp; omega
    have hc := rdL all pre c cs hpre
    have hvc := hv c (by rw [hpre]; simp)
    have hnext := ih (pre ++ [c]) (by rw [hpre]; simp)
    simp only [List.length_append, List.length_cons, List.length_nil, Nat.zero_add] at hnext
    refine Ev.step (fun k => by rw [spec_FewestPegs.l0]) ?_
    simp only [show (pre.length : Int) < (all.length : Int) by omega, show (0 : Int) ≤ (pre.length : Int) by omega, ↓reduceIte, hc, wsuc (show pre.length < all.length by omega) (by omega : all.length ≤ 1048576)]
    refine Ev.bind (l02In_ev l c (by omega) (inRange_v l c hvc.2)) ?_
    refine Ev.bind (l02Pegs_ev _ (by rw [picked_len]; omega)) ?_
    rw [leastB]
    by_cases h : pegsSc l c < s.2
    · have h' : (hungOf (pickedB l c)).1 < s.2 := h
      simp only [h, h', ↓reduceIte]
      exact hnext (c, pegsSc l c)
    · have h' : ¬ (hungOf (pickedB l c)).1 < s.2 := h
      simp only [h, h', ↓reduceIte]
      exact hnext s
def fewP (l : List S38) : List Int × Int × Int := if codeOf l 7 = 0 then ((bestB (pegsSc l) l.length).1, (bestB (pegsSc l) l.length).2, 0) else ([], 0, codeOf l 7)
theorem codeOf_len {l : List S38} {n : Int} (h : codeOf l n = 0) : (l.length : Int) ≤ n := by
  unfold codeOf at h
  by_cases h1 : l.all cloth_ok = true
  · by_cases h2 : (l.length : Int) ≤ n
    · exact h2
    · simp [h1, h2] at h
  · simp [h1] at h
theorem impl_FP_ev (l : List S38) (hs : smallS l) (hl : l.length ≤ 1048576) : Ev (fun k => impl_FewestPegs.f k l) (fewP l) := by
  unfold impl_FewestPegs.f fewP
  refine Ev.bind (clothCode_ev _ hs 7) ?_
  by_cases h : codeOf l 7 = 0
  · have := codeOf_len h
    simp only [h, ↓reduceIte, show l.length ≤ 1000 by omega]
    exact Ev.now _
  · simp only [h, ↓reduceIte]
    exact Ev.now _
theorem orders_cons (n : Nat) : ∃ o os, ordersB n n [] = o :: os := by
  have := orders_some n n 0 (by omega)
  match h : ordersB n n [] with
  | [] => exact absurd h this
  | o :: os => exact ⟨o, os, rfl⟩
theorem spec_FP_ev (l : List S38) (hs : smallS l) (hl : l.length ≤ 1048576) : Ev (fun k => spec_FewestPegs.f k l) (fewP l) := by
  unfold spec_FewestPegs.f fewP
  refine Ev.bind (l02Many_ev _ hs hl 7) ?_
  by_cases h : codeOf l 7 = 0
  · have hlen := codeOf_len h
    have hn : l.length ≤ 7 := by omega
    simp only [h, ↓reduceIte]
    refine Ev.bind (orders_ev l.length hn l.length [] (by simp)) ?_
    obtain ⟨o, os, he⟩ := orders_cons l.length
    have hv := orders_valid l.length l.length [] (by simp) (fun x hx => by cases hx)
    have hle := Nat.le_trans (orders_le l.length l.length []) (pow7 hn hn)
    rw [he] at hv hle ⊢
    have hvo := hv o (by simp)
    have h0 : rd_L4 (o :: os) 0 = o := rfl
    simp only [List.length_cons, show (0 : Int) < ((os.length + 1 : Nat) : Int) by omega, ↓reduceIte, h0]
    refine Ev.bind (l02In_ev l o (by omega) (inRange_v l o hvo.2)) ?_
    refine Ev.bind (l02Pegs_ev _ (by rw [picked_len]; omega)) ?_
    rw [best_least (pegsSc l) l.length o os he (fun x hx => pegs_nonneg _ (by rw [picked_len]; have := (hv x hx).1; omega))]
    exact spec_FP_l0 l hn (o :: os) hle hv os [o] rfl (o, pegsSc l o)
  · simp only [h, ↓reduceIte]
    exact Ev.now _
theorem spec_NW_l0 (l : List S38) (hl : l.length ≤ 7) (all : List (List Int)) (hall : all.length ≤ 823543) (hv : ∀ x ∈ all, x.length = l.length ∧ ValidO l.length x) : ∀ (cs pre : List (List Int)), all = pre ++ cs → ∀ s : List Int × Int,
    Ev (fun k => spec_Narrowest.l0 k l all s.1 s.2 (pre.length : Int)) ((leastB (widthSc l) cs s).1, (leastB (widthSc l) cs s).2, 0) := by
  intro cs
  induction cs with
  | nil =>
    intro pre hpre s
    refine Ev.step (fun k => by rw [spec_Narrowest.l0]) ?_
    have : all.length = pre.length := by rw [hpre]; simp
    simp only [show ¬ (pre.length : Int) < (all.length : Int) by omega, ↓reduceIte]
    exact Ev.now _
  | cons c cs ih =>
    intro pre hpre s
    have hlen : all.length = pre.length + cs.length + 1 := by rw [hpre]; simp; omega
    have hc := rdL all pre c cs hpre
    have hvc := hv c (by rw [hpre]; simp)
    have hnext := ih (pre ++ [c]) (by rw [hpre]; simp)
    simp only [List.length_append, List.length_cons, List.length_nil, Nat.zero_add] at hnext
    refine Ev.step (fun k => by rw [spec_Narrowest.l0]) ?_
    simp only [show (pre.length : Int) < (all.length : Int) by omega, show (0 : Int) ≤ (pre.length : Int) by omega, ↓reduceIte, hc, wsuc (show pre.length < all.length by omega) (by omega : all.length ≤ 1048576)]
    refine Ev.bind (l02In_ev l c (by omega) (inRange_v l c hvc.2)) ?_
    refine Ev.bind (l02Places_ev _ (by rw [picked_len]; omega)) ?_
    rw [leastB]
    by_cases h : widthSc l c < s.2
    · have h' : (hungOf (pickedB l c)).2.2 < s.2 := h
      simp only [h, h', ↓reduceIte]
      exact hnext (c, widthSc l c)
    · have h' : ¬ (hungOf (pickedB l c)).2.2 < s.2 := h
      simp only [h, h', ↓reduceIte]
      exact hnext s
def fewW (l : List S38) : List Int × Int × Int := if codeOf l 7 = 0 then ((bestB (widthSc l) l.length).1, (bestB (widthSc l) l.length).2, 0) else ([], 0, codeOf l 7)
theorem impl_NW_ev (l : List S38) (hs : smallS l) (hl : l.length ≤ 1048576) : Ev (fun k => impl_Narrowest.f k l) (fewW l) := by
  unfold impl_Narrowest.f fewW
  refine Ev.bind (clothCode_ev _ hs 7) ?_
  by_cases h : codeOf l 7 = 0
  · have := codeOf_len h
    simp only [h, ↓reduceIte, show l.length ≤ 1000 by omega]
    exact Ev.now _
  · simp only [h, ↓reduceIte]
    exact Ev.now _
theorem spec_NW_ev (l : List S38) (hs : smallS l) (hl : l.length ≤ 1048576) : Ev (fun k => spec_Narrowest.f k l) (fewW l) := by
  unfold spec_Narrowest.f fewW
  refine Ev.bind (l02Many_ev _ hs hl 7) ?_
  by_cases h : codeOf l 7 = 0
  · have hlen := codeOf_len h
    have hn : l.length ≤ 7 := by omega
    simp only [h, ↓reduceIte]
    refine Ev.bind (orders_ev l.length hn l.length [] (by simp)) ?_
    obtain ⟨o, os, he⟩ := orders_cons l.length
    have hv := orders_valid l.length l.length [] (by simp) (fun x hx => by cases hx)
    have hle := Nat.le_trans (orders_le l.length l.length []) (pow7 hn hn)
    rw [he] at hv hle ⊢
    have hvo := hv o (by simp)
    have h0 : rd_L4 (o :: os) 0 = o := rfl
    simp only [List.length_cons, show (0 : Int) < ((os.length + 1 : Nat) : Int) by omega, ↓reduceIte, h0]
    refine Ev.bind (l02In_ev l o (by omega) (inRange_v l o hvo.2)) ?_
    refine Ev.bind (l02Places_ev _ (by rw [picked_len]; omega)) ?_
    rw [best_least (widthSc l) l.length o os he (fun x hx => width_nonneg l x (codeOf_ok h) (by have := (hv x hx).1; omega) (hv x hx).2)]
    exact spec_NW_l0 l hn (o :: os) hle hv os [o] rfl (o, widthSc l o)
  · simp only [h, ↓reduceIte]
    exact Ev.now _
theorem sc_pos (a b : Int) (hb : lineB a b = true) (l : List S38) (hok : l.all cloth_ok = true) (hl : l.length ≤ 7) (o : List Int) (hol : o.length = l.length) (hv : ValidO l.length o) (hh : holdsB a b (pickedB l o) = true) : 0 ≤ sagB a (pickedB l o) :=
  sag_pos a b hb _ (by rw [picked_len]; omega) (picked_ok l o hok hv) hh
def leastOut (s : List Int × Int) : List Int × Int × Int := if s.2 < 0 then ([], 0, 6) else (s.1, s.2, 0)
def leastR (a b : Int) (l : List S38) : List Int × Int × Int :=
  if lcode a b l = 0 then (if (bestB (sagSc a b l) l.length).2 < 0 then ([], 0, 6) else ((bestB (sagSc a b l) l.length).1, (bestB (sagSc a b l) l.length).2, 0)) else ([], 0, lcode a b l)
theorem spec_Least_l0 (a b : Int) (hb : lineB a b = true) (l : List S38) (hok : l.all cloth_ok = true) (hl : l.length ≤ 7) (all : List (List Int)) (hall : all.length ≤ 823543) (hv : ∀ x ∈ all, x.length = l.length ∧ ValidO l.length x) : ∀ (cs pre : List (List Int)), all = pre ++ cs → ∀ s : List Int × Int,
    Ev (fun k => spec_LeastSag.l0 k l s.1 s.2 all (pre.length : Int) a b) (leastOut (cs.foldl (fun s o => updB (sagSc a b l) o s) s)) := by
  intro cs
  induction cs with
  | nil =>
    intro pre hpre s
    refine Ev.step (fun k => by rw [spec_LeastSag.l0]) ?_
    have : all.length = pre.length := by rw [hpre]; simp
    simp only [show ¬ (pre.length : Int) < (all.length : Int) by omega, ↓reduceIte, List.foldl_nil, leastOut]
    by_cases h : s.2 < 0
    · simp only [h, ↓reduceIte]
      exact Ev.now _
    · simp only [h, ↓reduceIte]
      exact Ev.now _
  | cons c cs ih =>
    intro pre hpre s
    have hlen : all.length = pre.length + cs.length + 1 := by rw [hpre]; simp; omega
    have hc := rdL all pre c cs hpre
    have hvc := hv c (by rw [hpre]; simp)
    have hnext := ih (pre ++ [c]) (by rw [hpre]; simp)
    simp only [List.length_append, List.length_cons, List.length_nil, Nat.zero_add] at hnext
    have h0 := lineB_long hb
    have hpl : (pickedB l c).length ≤ 1048576 := by rw [picked_len]; omega
    refine Ev.step (fun k => by rw [spec_LeastSag.l0]) ?_
    simp only [show (pre.length : Int) < (all.length : Int) by omega, show (0 : Int) ≤ (pre.length : Int) by omega, ↓reduceIte, hc, wsuc (show pre.length < all.length by omega) (by omega : all.length ≤ 1048576), List.foldl_cons]
    refine Ev.bind (l02In_ev l c (by omega) (inRange_v l c hvc.2)) ?_
    refine Ev.bind (l02Fits_ev a b _ hpl) ?_
    by_cases hh : holdsB a b (pickedB l c) = true
    · simp only [hh, ↓reduceIte]
      refine Ev.bind (l02Sag_ev a b _ hpl h0) ?_
      have hsc : sagSc a b l c = sagB a (pickedB l c) := if_pos hh
      have hpos := sc_pos a b hb l hok hl c hvc.1 hvc.2 hh
      by_cases h1 : s.2 < 0
      · rw [show updB (sagSc a b l) c s = (c, sagB a (pickedB l c)) by unfold updB; rw [hsc, if_pos ⟨hpos, .inl h1⟩]]
        simp only [h1, ↓reduceIte]
        exact hnext (c, sagB a (pickedB l c))
      · by_cases h2 : sagB a (pickedB l c) < s.2
        · rw [show updB (sagSc a b l) c s = (c, sagB a (pickedB l c)) by unfold updB; rw [hsc, if_pos ⟨hpos, .inr h2⟩]]
          simp only [h1, h2, ↓reduceIte]
          exact hnext (c, sagB a (pickedB l c))
        · rw [show updB (sagSc a b l) c s = s by unfold updB; rw [hsc, if_neg (fun h => h.2.elim h1 h2)]]
          simp only [h1, h2, ↓reduceIte]
          exact hnext s
    · have hsc : sagSc a b l c = -1 := if_neg hh
      rw [show updB (sagSc a b l) c s = s by unfold updB; rw [hsc, if_neg (fun h => absurd h.1 (by omega))]]
      simp only [hh, Bool.false_eq_true, ↓reduceIte]
      exact hnext s
theorem impl_Least_ev {a b : Int} (ha : -32768 ≤ a ∧ a ≤ 32767) (hb : -32768 ≤ b ∧ b ≤ 32767) (l : List S38) (hs : smallS l) : Ev (fun k => impl_LeastSag.f k a b l) (leastR a b l) := by
  unfold impl_LeastSag.f leastR
  refine Ev.bind (lineCode_ev ha hb _ hs) ?_
  by_cases h : lcode a b l = 0
  · have hl := lcode_len h
    have h0 := lineB_long hl.2.1
    simp only [h, ↓reduceIte]
    rw [if_pos ⟨by omega, h0⟩]
    by_cases h1 : (bestB (sagSc a b l) l.length).2 < 0
    · simp only [h1, ↓reduceIte]
      exact Ev.now _
    · simp only [h1, ↓reduceIte]
      exact Ev.now _
  · simp only [h, ↓reduceIte]
    exact Ev.now _
theorem spec_Least_ev {a b : Int} (ha : -32768 ≤ a ∧ a ≤ 32767) (hb : -32768 ≤ b ∧ b ≤ 32767) (l : List S38) (hs : smallS l) (hl : l.length ≤ 1048576) : Ev (fun k => spec_LeastSag.f k a b l) (leastR a b l) := by
  unfold spec_LeastSag.f leastR
  refine Ev.bind (l02Hung_ev ha hb _ hs hl) ?_
  by_cases h : lcode a b l = 0
  · have hc := lcode_len h
    simp only [h, ↓reduceIte]
    refine Ev.bind (orders_ev l.length hc.1 l.length [] (by simp)) ?_
    have hv := orders_valid l.length l.length [] (by simp) (fun x hx => by cases hx)
    have hle := Nat.le_trans (orders_le l.length l.length []) (pow7 hc.1 hc.1)
    rw [bestB, dfs_orders]
    exact spec_Least_l0 a b hc.2.1 l hc.2.2 hc.1 _ hle hv _ [] rfl ([], -1)
  · simp only [h, ↓reduceIte]
    exact Ev.now _
theorem unless_eq (b : Bool) (c : Int) : impl_unless.f b c = some (if b = true then 0 else c) := by
  unfold impl_unless.f
  cases b <;> rfl
def ioR (l : List S38) (o : List Int) : List S38 × Int := if codeOf l 100 = 0 then (if ordOk l.length o = true then (pickedB l o, 0) else ([], 4)) else ([], codeOf l 100)
theorem impl_io (l : List S38) (hs : smallS l) (o : List Int) (ho : o.length ≤ 1048576) : Ev (fun k => impl_InOrder.f k l o) (ioR l o) := by
  have hi : impl_isOrder.f o (l.length : Int) = some (ordOk l.length o) := by unfold impl_isOrder.f; rw [if_pos ho]; rfl
  unfold impl_InOrder.f ioR
  refine Ev.bind (clothCode_ev l hs 100) ?_
  simp only [hi, unless_eq, Option.bind_some]
  refine Ev.bind (firstOf2 _ _) ?_
  by_cases hc : codeOf l 100 = 0
  · simp only [hc, ↓reduceIte]
    cases hq : ordOk l.length o with
    | true =>
      have hw : impl_picked_impl_Clothw.f l o = some (pickedB l o) := by unfold impl_picked_impl_Clothw.f; rw [if_pos ⟨ho, (ordOk_in hq).1⟩]
      simp only [↓reduceIte, hw, Option.bind_some]
      exact Ev.now _
    | false =>
      simp only [Bool.false_eq_true, ↓reduceIte, show ¬ (4 : Int) = 0 by decide]
      exact Ev.now _
  · simp only [hc, ↓reduceIte]
    exact Ev.now _
theorem spec_io (l : List S38) (hs : smallS l) (hl : l.length ≤ 1048576) (o : List Int) (ho : o.length ≤ 1048576) : Ev (fun k => spec_InOrder.f k l o) (ioR l o) := by
  have hi : spec_l02Order.f (l.length : Int) o = some (ordOk l.length o) := by unfold spec_l02Order.f; rw [if_pos ho, orders_same _ hl]
  unfold spec_InOrder.f ioR
  refine Ev.bind (l02Many_ev l hs hl 100) ?_
  by_cases hc : codeOf l 100 = 0
  · simp only [hc, ↓reduceIte, hi, Option.bind_some]
    cases hq : ordOk l.length o with
    | true =>
      refine Ev.step (fun k => by rw [spec_InOrder.j0]) ?_
      simp only [Bool.not_true, Bool.false_eq_true, ↓reduceIte]
      exact Ev.bind (l02In_ev l o ho (ordOk_in hq).1) (Ev.now _)
    | false =>
      refine Ev.step (fun k => by rw [spec_InOrder.j0]) ?_
      simp only [Bool.not_false, Bool.false_eq_true, ↓reduceIte]
      exact Ev.now _
  · simp only [hc, ↓reduceIte]
    refine Ev.step (fun k => by rw [spec_InOrder.j0]) ?_
    simp only [Bool.false_eq_true, ↓reduceIte, hc]
    exact Ev.now _
def sagR (a b : Int) (l : List S38) : Int × Int := if lcode a b l = 0 then (if holdsB a b l = true then (sagB a l, 0) else (0, 4)) else (0, lcode a b l)
theorem impl_Sag_ev {a b : Int} (ha : -32768 ≤ a ∧ a ≤ 32767) (hb : -32768 ≤ b ∧ b ≤ 32767) (l : List S38) (hs : smallS l) (hl : l.length ≤ 1048576) : Ev (fun k => impl_SagOf.f k a b l) (sagR a b l) := by
  unfold impl_SagOf.f sagR
  refine Ev.bind (lineCode_ev ha hb _ hs) ?_
  by_cases h : lcode a b l = 0
  · have h0 := lineB_long (lcode_len h).2.1
    simp only [h, ↓reduceIte, holdsw_eq _ _ _ hl, Option.bind_some]
    refine Ev.step (fun k => by rw [impl_SagOf.j0]) ?_
    cases hf : holdsB a b l with
    | true =>
      simp only [Bool.not_true, Bool.false_eq_true, ↓reduceIte, sagw_eq _ _ _ hl h0, Option.bind_some]
      exact Ev.now _
    | false =>
      simp only [Bool.not_false, Bool.false_eq_true, ↓reduceIte, show ¬ (4 : Int) = 0 by omega]
      exact Ev.now _
  · simp only [h, ↓reduceIte]
    refine Ev.step (fun k => by rw [impl_SagOf.j0]) ?_
    simp only [Bool.false_eq_true, ↓reduceIte, h]
    exact Ev.now _
theorem impl_Pegs_ev (l : List S38) (hs : smallS l) (hl : l.length ≤ 1048576) : Ev (fun k => impl_PegsFor.f k l) (if codeOf l 100 = 0 then ((hungOf l).1, 0) else (0, codeOf l 100)) := by
  unfold impl_PegsFor.f
  refine Ev.bind (clothCode_ev _ hs 100) ?_
  by_cases h : codeOf l 100 = 0
  · simp only [h, ↓reduceIte, hungw_eq _ hl, Option.bind_some]
    exact Ev.now _
  · simp only [h, ↓reduceIte]
    exact Ev.now _
theorem impl_Width_ev (l : List S38) (hs : smallS l) (hl : l.length ≤ 1048576) : Ev (fun k => impl_WidthFor.f k l) (if codeOf l 100 = 0 then ((hungOf l).2.2, 0) else (0, codeOf l 100)) := by
  unfold impl_WidthFor.f
  refine Ev.bind (clothCode_ev _ hs 100) ?_
  by_cases h : codeOf l 100 = 0
  · simp only [h, ↓reduceIte, hungw_eq _ hl, Option.bind_some]
    exact Ev.now _
  · simp only [h, ↓reduceIte]
    exact Ev.now _
theorem Same_l0 (l : List Int) (hl : l.length ≤ 1048576) : ∀ (cs pre : List Int), l = pre ++ cs → Ev (fun k => spec_l00Same.l0 k l l (pre.length : Int)) true := by
  intro cs
  induction cs with
  | nil =>
    intro pre hpre
    refine Ev.step (fun k => by rw [spec_l00Same.l0]) ?_
    have : l.length = pre.length := by rw [hpre]; simp
    simp only [show ¬ (pre.length : Int) < (l.length : Int) by omega, ↓reduceIte]
    exact Ev.now _
  | cons c cs ih =>
    intro pre hpre
    have hlen : l.length = pre.length + cs.length + 1 := by rw [hpre]; simp; omega
    have hnext := ih (pre ++ [c]) (by rw [hpre]; simp)
    simp only [List.length_append, List.length_cons, List.length_nil, Nat.zero_add] at hnext
    refine Ev.step (fun k => by rw [spec_l00Same.l0]) ?_
    simp only [show (pre.length : Int) < (l.length : Int) by omega, show (0 : Int) ≤ (pre.length : Int) by omega, ↓reduceIte, wsuc (show pre.length < l.length by omega) hl]
    exact hnext
theorem Same_ev (l : List Int) (hl : l.length ≤ 1048576) : Ev (fun k => spec_A2Same.f k l l) true := by
  unfold spec_A2Same.f spec_l00Same.f
  simp only [↓reduceIte]
  exact Ev.bind (Same_l0 l hl l [] rfl) (Ev.now _)
theorem SameC_l0 (l : List S38) (hl : l.length ≤ 1048576) : ∀ (cs pre : List S38), l = pre ++ cs → Ev (fun k => spec_A2SameCloths.l0 k l l (pre.length : Int)) true := by
  intro cs
  induction cs with
  | nil =>
    intro pre hpre
    refine Ev.step (fun k => by rw [spec_A2SameCloths.l0]) ?_
    have : l.length = pre.length := by rw [hpre]; simp
    simp only [show ¬ (pre.length : Int) < (l.length : Int) by omega, ↓reduceIte]
    exact Ev.now _
  | cons c cs ih =>
    intro pre hpre
    have hlen : l.length = pre.length + cs.length + 1 := by rw [hpre]; simp; omega
    have hnext := ih (pre ++ [c]) (by rw [hpre]; simp)
    simp only [List.length_append, List.length_cons, List.length_nil, Nat.zero_add] at hnext
    refine Ev.step (fun k => by rw [spec_A2SameCloths.l0]) ?_
    simp only [show (pre.length : Int) < (l.length : Int) by omega, show (0 : Int) ≤ (pre.length : Int) by omega, ↓reduceIte, beq_self_eq_true, Bool.not_true, Bool.or_self, Bool.false_eq_true, wsuc (show pre.length < l.length by omega) hl]
    exact hnext
theorem SameC_ev (l : List S38) (hl : l.length ≤ 1048576) : Ev (fun k => spec_A2SameCloths.f k l l) true := by
  unfold spec_A2SameCloths.f
  simp only [↓reduceIte]
  exact SameC_l0 l hl l [] rfl
theorem rd_picked (l : List S38) (o : List Int) (i : Nat) (h : i < o.length) : rd_T38 (pickedB l o) (i : Int) = rd_T38 l (rd o (i : Int)) := by
  unfold pickedB
  rw [rd_T38, rd, Int.toNat_natCast, List.getD_eq_getElem?_getD, List.getElem?_map, List.getD_eq_getElem?_getD, List.getElem?_eq_getElem h]
  rfl
theorem sag_end {a b : Int} {L : List S38} (hg : L.all cloth_ok = true) (hl : L.length ≤ 5) (ha : 64 ≤ a ∧ a ≤ 213) (hb : 100 ≤ b ∧ b ≤ 399) {x : List Int} (hx : ordV L.length x) :
    Ev (fun k => impl_SagOf.f k a b (pickedB L x)) (if holdsB a b (pickedB L x) = true then (sagB a (pickedB L x), 0) else (0, 4)) := by
  have hok := picked_ok L x hg hx.2.2
  have hlen : (pickedB L x).length ≤ 5 := by rw [picked_len, hx.1]; exact hl
  have := impl_Sag_ev (a := a) (b := b) (by omega) (by omega) (pickedB L x) (ok_small hok) (by omega)
  rw [sagR, if_pos (ok_lcode hok (by omega) ha hb)] at this
  exact this
theorem law_l0 {a b : Int} {L : List S38} (hg : L.all cloth_ok = true) (hl : L.length ≤ 5) (ha : 64 ≤ a ∧ a ≤ 213) (hb : 100 ≤ b ∧ b ≤ 399) {o : List Int} (ho : ordV L.length o) : ∀ (d i : Nat), i + d = L.length →
    Ev (fun k => laws_FnOrders.l0 k L o (pickedB L o) (i : Int) a b) true := by
  have hlp : (pickedB L o).length = L.length := by rw [picked_len, ho.1]
  intro d
  induction d with
  | zero =>
    intro i hi
    refine Ev.step (fun k => by rw [laws_FnOrders.l0]) ?_
    simp only [show ¬ (i : Int) < (L.length : Int) by omega, ↓reduceIte]
    have hlc : lcode a b L = 0 := ok_lcode hg (by omega) ha hb
    have hs := ok_small hg
    refine Ev.bind (impl_Least_ev (by omega) (by omega) L hs) ?_
    refine Ev.bind (spec_Least_ev (by omega) (by omega) L hs (by omega)) ?_
    have hlo : ∀ x, ordV L.length x → holdsB a b (pickedB L x) = true → 0 ≤ sagB a (pickedB L x) := fun x hx hh => sc_pos a b (lcode_len hlc).2.1 L hg (by omega) x hx.1 hx.2.2 hh
    rcases best_spec (sagSc a b L) L.length with ⟨h1, h2⟩ | ⟨s, hs1, h1, h0, h2⟩
    · have hR : leastR a b L = ([], 0, 6) := by unfold leastR; rw [if_pos hlc, h1, if_pos (by decide)]
      rw [hR]
      simp only [↓reduceIte]
      refine Ev.bind (Same_ev [] (by simp)) ?_
      simp only [↓reduceIte, show ¬ (6 : Int) = 0 by omega, bne_self_eq_false]
      refine Ev.step (fun k => by rw [laws_FnOrders.j3]) ?_
      simp only [Bool.false_eq_true, ↓reduceIte]
      refine Ev.bind (sag_end hg hl ha hb ho) ?_
      have hn : ¬ holdsB a b (pickedB L o) = true := by
        intro hh
        have h3 := h2 o ho
        rw [sagSc, if_pos hh] at h3
        have := hlo o ho hh
        omega
      rw [if_neg hn]
      simp only [show ¬ (6 : Int) = 0 by omega, ↓reduceIte, beq_self_eq_true]
      exact Ev.now _
    · have hR : leastR a b L = (s, sagSc a b L s, 0) := by unfold leastR; rw [if_pos hlc, h1, if_neg (by simp only; omega)]
      have hh : holdsB a b (pickedB L s) = true := by
        cases hq : holdsB a b (pickedB L s) with
        | true => rfl
        | false =>
          rw [sagSc, if_neg (by rw [hq]; decide)] at h0
          omega
      have hsc : sagSc a b L s = sagB a (pickedB L s) := if_pos hh
      rw [hR]
      simp only [↓reduceIte]
      refine Ev.bind (Same_ev s (by have := hs1.1; omega)) ?_
      simp only [↓reduceIte]
      refine Ev.step (fun k => by rw [laws_FnOrders.j3]) ?_
      simp only [Bool.false_eq_true, ↓reduceIte]
      refine Ev.bind (sag_end hg hl ha hb ho) ?_
      have hio : ioR L s = (pickedB L s, 0) := by unfold ioR; rw [if_pos (ok_code hg (by omega)), if_pos (ord_ok (by omega) hs1)]
      have hsp := spec_io L hs (by omega) s (by have := hs1.1; omega)
      rw [hio] at hsp
      refine Ev.bind hsp ?_
      have hse := sag_end hg hl ha hb hs1
      rw [if_pos hh] at hse
      refine Ev.bind hse ?_
      simp only [↓reduceIte, hsc]
      by_cases ho2 : holdsB a b (pickedB L o) = true
      · have h3 := h2 o ho
        rw [sagSc, if_pos ho2, hsc] at h3
        rw [if_pos ho2]
        simp only [show ¬ (0 : Int) = 4 by omega, ↓reduceIte, show sagB a (pickedB L o) ≥ sagB a (pickedB L s) from h3 (hlo o ho ho2), decide_true]
        exact Ev.now _
      · rw [if_neg ho2]
        simp only [↓reduceIte]
        exact Ev.now _
  | succ d ih =>
    intro i hi
    have hnext := ih (i + 1) (by omega)
    have hw : wrap64 ((i : Int) + 1) = ((i + 1 : Nat) : Int) := by unfold wrap64; omega
    have hol := ho.1
    have hv : 0 ≤ rd o (i : Int) ∧ rd o (i : Int) < (L.length : Int) := by
      have : rd o (i : Int) = o[i]'(by omega) := by simp [rd, List.getD_eq_getElem?_getD, List.getElem?_eq_getElem (show i < o.length by omega)]
      rw [this]
      exact ho.2.2 _ (List.getElem_mem _)
    refine Ev.step (fun k => by rw [laws_FnOrders.l0]) ?_
    simp only [show (i : Int) < (L.length : Int) by omega, show (0 : Int) ≤ (i : Int) by omega, hlp, hol, hv.1, hv.2, ↓reduceIte, rd_picked L o i (by omega), beq_self_eq_true, Bool.not_true, Bool.or_self, Bool.false_eq_true, hw]
    exact hnext
theorem u8_bytes {l : List Int} (w : ∀ x ∈ l, (Lit.int .u8 x).wf = true) : bytesB l := fun x hx => bounds_u8 (w x hx)
theorem le_succ {n : Nat} {p : Int} (h : (n : Int) + 1 ≤ p) : ((n + 1 : Nat) : Int) ≤ p := by omega
set_option maxHeartbeats 4000000 in
theorem FnOrders (l0 : List Int) (l1 : List Int) (y0 : l0.length ≤ 9223372036854775807) (w0 : ∀ x ∈ l0, (Lit.int .u8 x).wf = true) (y1 : l1.length ≤ 9223372036854775807) (w1 : ∀ x ∈ l1, (Lit.int .u8 x).wf = true) : ∃ k, laws_FnOrders.f k l0 l1 = some true := by
  refine Ev.rounds ?_
  unfold laws_FnOrders.f laws_a2Long.f
  by_cases hA : (l0.length : Int) > 3000
  · simp only [hA, ↓reduceIte, Option.bind_some]
    exact Ev.now _
  by_cases hB : (l1.length : Int) > 3000
  · simp only [hA, hB, ↓reduceIte, Option.bind_some, decide_true]
    exact Ev.now _
  simp only [hA, hB, ↓reduceIte, Option.bind_some, decide_false, Bool.false_eq_true]
  obtain ⟨L, hL, hl, hgd⟩ := A2Cloths_ok l0 (u8_bytes w0) 5 (by omega)
  obtain ⟨a, b, hab, a1, a2, b1, b2⟩ := A2Line_ok l1 (u8_bytes w1)
  obtain ⟨o, hO, ho⟩ := A2Order_ok l1 (u8_bytes w1) L.length (by omega)
  have hL' : Ev (fun k => spec_A2Cloths.f k l0 5) L := hL
  have hg := good_ok hgd
  have hs := ok_small hg
  have hio : ∀ x, ordV L.length x → ioR L x = (pickedB L x, 0) := fun x hx => by unfold ioR; rw [if_pos (ok_code hg (by omega)), if_pos (ord_ok (by omega) hx)]
  have hsp : ∀ x, ordV L.length x → Ev (fun k => spec_InOrder.f k L x) (pickedB L x, 0) := fun x hx => by
    have := spec_io L hs (by omega) x (by have := hx.1; omega)
    rwa [hio x hx] at this
  have him : Ev (fun k => impl_InOrder.f k L o) (pickedB L o, 0) := by
    have := impl_io L hs o (by have := ho.1; omega)
    rwa [hio o ho] at this
  have hpg : ∀ x, ordV L.length x → Ev (fun k => impl_PegsFor.f k (pickedB L x)) (pegsSc L x, 0) := fun x hx => by
    have hok := picked_ok L x hg hx.2.2
    have hlen : (pickedB L x).length ≤ 5 := by rw [picked_len, hx.1]; exact hl
    have := impl_Pegs_ev (pickedB L x) (ok_small hok) (by omega)
    rwa [if_pos (ok_code hok (by omega))] at this
  have hwd : ∀ x, ordV L.length x → Ev (fun k => impl_WidthFor.f k (pickedB L x)) (widthSc L x, 0) := fun x hx => by
    have hok := picked_ok L x hg hx.2.2
    have hlen : (pickedB L x).length ≤ 5 := by rw [picked_len, hx.1]; exact hl
    have := impl_Width_ev (pickedB L x) (ok_small hok) (by omega)
    rwa [if_pos (ok_code hok (by omega))] at this
  obtain ⟨p, hp, hpb, hpl⟩ := best_some (pegsSc L) L.length (fun x hx => pegs_nonneg _ (by rw [picked_len]; have := hx.1; omega))
  obtain ⟨q, hq, hqb, hql⟩ := best_some (widthSc L) L.length (fun x hx => width_nonneg L x hg (by have := hx.1; omega) hx.2.2)
  have hP : fewP L = (p, pegsSc L p, 0) := by unfold fewP; rw [if_pos (ok_code hg (by omega)), hpb]
  have hW : fewW L = (q, widthSc L q, 0) := by unfold fewW; rw [if_pos (ok_code hg (by omega)), hqb]
  have e1 := impl_FP_ev L hs (by omega)
  have e2 := spec_FP_ev L hs (by omega)
  have e3 := impl_NW_ev L hs (by omega)
  have e4 := spec_NW_ev L hs (by omega)
  rw [hP] at e1 e2
  rw [hW] at e3 e4
  have hlp : (pickedB L o).length = L.length := by rw [picked_len, ho.1]
  refine Ev.bind hL' ?_
  simp only [hab, Option.bind_some]
  refine Ev.bind hO ?_
  refine Ev.bind him ?_
  refine Ev.bind (hsp o ho) ?_
  refine Ev.bind e1 ?_
  refine Ev.bind e2 ?_
  refine Ev.bind e3 ?_
  refine Ev.bind e4 ?_
  simp only [↓reduceIte]
  refine Ev.bind (SameC_ev _ (by omega)) ?_
  simp only [↓reduceIte, hlp]
  refine Ev.bind (Same_ev p (by have := hp.1; omega)) ?_
  simp only [↓reduceIte]
  refine Ev.bind (Same_ev q (by have := hq.1; omega)) ?_
  simp only [↓reduceIte, hp.1, hq.1, bne_self_eq_false]
  refine Ev.step (fun k => by rw [laws_FnOrders.j0]) ?_
  simp only [Bool.false_eq_true, ↓reduceIte]
  refine Ev.bind (hpg o ho) ?_
  refine Ev.bind (hwd o ho) ?_
  refine Ev.bind (hsp p hp) ?_
  refine Ev.bind (hpg p hp) ?_
  refine Ev.bind (hsp q hq) ?_
  refine Ev.bind (hwd q hq) ?_
  have hpl2 := pegs_least (pickedB L p) (by rw [picked_len, hp.1]; omega)
  rw [picked_len, hp.1] at hpl2
  have hpl3 : (L.length : Int) ≤ pegsSc L p := hpl2.1
  have h4 : (L.length : Int) > 0 → ¬ pegsSc L p < ((L.length + 1 : Nat) : Int) := fun h => Int.not_lt.2 (le_succ (hpl2.2 (Int.ofNat_lt.1 h)))
  have hw : wrap64 ((L.length : Int) + 1) = ((L.length + 1 : Nat) : Int) := wsuc (Nat.lt_of_le_of_lt hl (by decide)) (Nat.le_refl 1048576)
  have h1 : ¬ pegsSc L o < pegsSc L p := Int.not_lt.2 (hpl o ho)
  have h2 : ¬ widthSc L o < widthSc L q := Int.not_lt.2 (hql o ho)
  have h3 : ¬ pegsSc L p < (L.length : Int) := Int.not_lt.2 hpl3
  clear hpl2 hpl hql hpl3 hP hW hpb hqb e1 e2 e3 e4
  generalize pegsSc L p = P at *
  generalize pegsSc L o = PO at *
  generalize widthSc L q = Q at *
  generalize widthSc L o = QO at *
  simp only [↓reduceIte, h1, h2, h3]
  have key : Ev (fun k => laws_FnOrders.j1 k L o (pickedB L o) false a b) true := by
    refine Ev.step (fun k => by rw [laws_FnOrders.j1]) ?_
    simp only [Bool.false_eq_true, ↓reduceIte]
    exact law_l0 hg hl ⟨a1, a2⟩ ⟨b1, b2⟩ ho L.length 0 (by omega)
  by_cases hn : (L.length : Int) > 0
  · simp only [hn, ↓reduceIte, hw, h4 hn, decide_false]
    exact key
  · simp only [hn, ↓reduceIte]
    exact key
end Go.Proofs.Ytlkpgpnieodifaa.Pure
