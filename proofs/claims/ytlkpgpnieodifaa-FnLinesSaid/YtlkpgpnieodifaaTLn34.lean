/- Words and walks for the law FnLines. -/
import Derived.Test.YtlkpgpnieodifaaTLn33
import Derived.OpenShut
import Derived.Laws.BitsAllLaws
namespace Go.Proofs.Ytlkpgpnieodifaa.Pure
set_option linter.unusedSimpArgs false
set_option linter.unusedVariables false
open Go.RowKit Go.Proofs.Ytlkpgpnieodifaa.Ln Go.Proofs.YtlkpgpnieodifaaW.PrintWords Go.Proofs.YtlkpgpnieodifaaW.PrintLast Go.Proofs.YtlkpgpnieodifaaW.PrintMore
theorem rdm (pre : List S38) (c : S38) (cs : List S38) : rd_T38 (pre ++ c :: cs) (pre.length : Int) = c := by simp [rd_T38, List.getD_eq_getElem?_getD]
theorem rdim (pre : List Int) (c : Int) (cs : List Int) : rd (pre ++ c :: cs) (pre.length : Int) = c := by simp [rd, List.getD_eq_getElem?_getD]
theorem wsuc {i n : Nat} (h : i < n) (hn : n ≤ 1048576) : wrap64 ((i : Int) + 1) = ((i + 1 : Nat) : Int) := by unfold wrap64; omega
def smallS (l : List S38) : Prop := ∀ x ∈ l, -32768 ≤ x.f0 ∧ x.f0 ≤ 32767 ∧ -32768 ≤ x.f1 ∧ x.f1 ≤ 32767
theorem l00In_eq (a b c : Int) : spec_l00In.f a b c = some (decide (b ≤ a ∧ a ≤ c)) := by
  unfold spec_l00In.f
  by_cases h : b ≤ a
  · rw [if_pos (show a ≥ b from h)]; simp [h]
  · rw [if_neg (show ¬ a ≥ b from h)]; simp [h]
theorem within_eq (a b c : Int) : impl_within.f a b c = some (decide (b ≤ a ∧ a ≤ c)) := l00In_eq a b c
theorem l02Cloths_l0 (l : List S38) (hs : smallS l) (hl : l.length ≤ 1048576) : ∀ (cs pre : List S38), l = pre ++ cs → Ev (fun k => spec_l02Cloths.l0 k l (pre.length : Int)) (cs.all cloth_ok) := by
  intro cs
  induction cs with
  | nil =>
    intro pre hpre
    refine Ev.step (fun k => by rw [spec_l02Cloths.l0]) ?_
    have : l.length = pre.length := by rw [hpre]; simp
    simp only [show ¬ (pre.length : Int) < (l.length : Int) by omega, ↓reduceIte]
    exact Ev.now _
  | cons c cs ih =>
    intro pre hpre
    have hlen : l.length = pre.length + cs.length + 1 := by rw [hpre]; simp; omega
    have hc : rd_T38 l (pre.length : Int) = c := by rw [hpre]; exact rdm pre c cs
    have hb := hs c (by rw [hpre]; simp)
    have hnext := ih (pre ++ [c]) (by rw [hpre]; simp)
    simp only [List.length_append, List.length_cons, List.length_nil, Nat.zero_add] at hnext
    refine Ev.step (fun k => by rw [spec_l02Cloths.l0]) ?_
    have e0 : wrap64 c.f0 = c.f0 := by unfold wrap64; omega
    have e1 : wrap64 c.f1 = c.f1 := by unfold wrap64; omega
    simp only [show (pre.length : Int) < (l.length : Int) by omega, show (0 : Int) ≤ (pre.length : Int) by omega, ↓reduceIte, hc, e0, e1, l00In_eq, Option.bind_some, decide_eq_true_eq, wsuc (show pre.length < l.length by omega) hl, List.all_cons, cloth_ok]
    by_cases h1 : 4 ≤ c.f0 ∧ c.f0 ≤ 200
    · by_cases h2 : 1 ≤ c.f1 ∧ c.f1 ≤ 500
      · simp only [h1, h2, and_self, ↓reduceIte, decide_true, Bool.true_and]
        exact hnext
      · simp only [h1, h2, and_self, ↓reduceIte, decide_true, decide_false, Bool.true_and, Bool.false_and]
        exact Ev.now _
    · simp only [h1, ↓reduceIte, decide_false, Bool.false_and]
      exact Ev.now _
theorem l02Cloths_ev (l : List S38) (hs : smallS l) (hl : l.length ≤ 1048576) : Ev (fun k => spec_l02Cloths.f k l) (l.all cloth_ok) := by
  unfold spec_l02Cloths.f
  exact l02Cloths_l0 l hs hl l [] rfl
theorem ValidCloths_eq (l : List S38) (hs : smallS l) : impl_ValidCloths.f l = some (l.all cloth_ok) := by
  unfold impl_ValidCloths.f
  rw [if_pos]
  rw [List.all_eq_true]
  intro x hx
  exact decide_eq_true (hs x hx)
theorem firstOf2 (a b : Int) : Ev (fun k => impl_firstOf.f k [a, b]) (if a = 0 then b else a) := by
  unfold impl_firstOf.f
  have e2 : ∀ a b : Int, ((([a, b] : List Int).length : Nat) : Int) = 2 := fun _ _ => rfl
  have w1 : wrap64 (0 + 1) = 1 := by unfold wrap64; omega
  have w2 : wrap64 (1 + 1) = 2 := by unfold wrap64; omega
  have r0 : rd [a, b] 0 = a := by simp [rd]
  have r1 : rd [a, b] 1 = b := by simp [rd]
  refine Ev.step (fun k => by rw [impl_firstOf.l0]) ?_
  simp only [e2, show (0 : Int) < 2 by omega, show (0 : Int) ≤ 0 by omega, ↓reduceIte, r0]
  by_cases ha : a = 0
  · simp only [ha, ↓reduceIte, w1]
    rw [ha] at r1
    refine Ev.step (fun k => by rw [impl_firstOf.l0]) ?_
    simp only [e2, show (1 : Int) < 2 by omega, show (0 : Int) ≤ 1 by omega, ↓reduceIte, r1]
    by_cases hb : b = 0
    · simp only [hb, ↓reduceIte, w2]
      refine Ev.step (fun k => by rw [impl_firstOf.l0]) ?_
      simp only [show ¬ (2 : Int) < 2 by omega, ↓reduceIte]
      exact Ev.now _
    · simp only [hb, ↓reduceIte]
      exact Ev.now _
  · simp only [ha, ↓reduceIte]
    exact Ev.now _
def codeOf (l : List S38) (n : Int) : Int := if l.all cloth_ok = true then (if (l.length : Int) ≤ n then 0 else 3) else 1
theorem clothCode_ev (l : List S38) (hs : smallS l) (n : Int) : Ev (fun k => impl_clothCode.f k l n) (codeOf l n) := by
  unfold impl_clothCode.f
  simp only [ValidCloths_eq l hs, Option.bind_some, impl_unless.f]
  cases h : l.all cloth_ok with
  | false =>
    simp only [Bool.false_eq_true, ↓reduceIte, Option.bind_some]
    by_cases hn : (l.length : Int) ≤ n
    · simp only [hn, decide_true, ↓reduceIte, Option.bind_some]
      exact Ev.bind (firstOf2 1 0) (by simp only [codeOf, h, Bool.false_eq_true, ↓reduceIte, show ¬ (1 : Int) = 0 by omega]; exact Ev.now _)
    · simp only [hn, decide_false, Bool.false_eq_true, ↓reduceIte, Option.bind_some]
      exact Ev.bind (firstOf2 1 3) (by simp only [codeOf, h, Bool.false_eq_true, ↓reduceIte, show ¬ (1 : Int) = 0 by omega]; exact Ev.now _)
  | true =>
    simp only [↓reduceIte, Option.bind_some]
    by_cases hn : (l.length : Int) ≤ n
    · simp only [hn, decide_true, ↓reduceIte, Option.bind_some]
      exact Ev.bind (firstOf2 0 0) (by simp only [codeOf, h, hn, ↓reduceIte]; exact Ev.now _)
    · simp only [hn, decide_false, Bool.false_eq_true, ↓reduceIte, Option.bind_some]
      exact Ev.bind (firstOf2 0 3) (by simp only [codeOf, h, hn, ↓reduceIte]; exact Ev.now _)
theorem l02Many_ev (l : List S38) (hs : smallS l) (hl : l.length ≤ 1048576) (n : Int) : Ev (fun k => spec_l02Many.f k l n) (codeOf l n) := by
  unfold spec_l02Many.f
  refine Ev.bind (l02Cloths_ev l hs hl) ?_
  unfold codeOf
  cases h : l.all cloth_ok with
  | false =>
    simp only [Bool.false_eq_true, ↓reduceIte]
    exact Ev.now _
  | true =>
    simp only [↓reduceIte]
    by_cases hn : (l.length : Int) ≤ n
    · simp only [hn, show ¬ (l.length : Int) > n by omega, ↓reduceIte]
      exact Ev.now _
    · simp only [hn, show (l.length : Int) > n by omega, ↓reduceIte]
      exact Ev.now _
theorem l02Places_l0 (l : List S38) (hl : l.length ≤ 1048576) : ∀ (cs pre : List S38), l = pre ++ cs → ∀ (p : Int) (pl : List Int) (e : Int), pl.length = pre.length →
    Ev (fun k => spec_l02Places.l0 k l pl e (pre.length : Int)) ((hungFrom pre.getLast? p pl e cs).2.1, (hungFrom pre.getLast? p pl e cs).2.2) := by
  intro cs
  induction cs with
  | nil =>
    intro pre hpre p pl e hp
    refine Ev.step (fun k => by rw [spec_l02Places.l0]) ?_
    have : l.length = pre.length := by rw [hpre]; simp
    simp only [show ¬ (pre.length : Int) < (l.length : Int) by omega, ↓reduceIte]
    have hh : hungFrom pre.getLast? p pl e [] = (p, pl, e) := by cases pre.getLast? <;> rfl
    rw [hh]
    exact Ev.now _
  | cons c cs ih =>
    intro pre hpre p pl e hp
    have hlen : l.length = pre.length + cs.length + 1 := by rw [hpre]; simp; omega
    have hc : rd_T38 l (pre.length : Int) = c := by rw [hpre]; exact rdm pre c cs
    have hlt : (pre.length : Int) < (l.length : Int) := by omega
    have hlim : pl.length < 17592186044416 := by omega
    have hnext := fun p pl e h => ih (pre ++ [c]) (by rw [hpre]; simp) p pl e h
    simp only [List.length_append, List.length_cons, List.length_nil, Nat.zero_add, List.getLast?_append, List.getLast?_singleton, Option.some_or] at hnext
    refine Ev.step (fun k => by rw [spec_l02Places.l0]) ?_
    simp only [hlt, show (0 : Int) ≤ (pre.length : Int) by omega, ↓reduceIte, hc]
    rcases List.eq_nil_or_concat pre with rfl | ⟨pre', b, rfl⟩
    · simp only [List.length_nil, Int.natCast_zero, show ¬ ((0 : Int) > 0) by omega, ↓reduceIte, List.getLast?_nil]
      refine Ev.step (fun k => by rw [spec_l02Places.j1]) ?_
      rw [hungFrom]
      simp only [Bool.false_eq_true, ↓reduceIte, show ¬ ((0 : Int) > 0) by omega, hlim, show (0 : Int) ≤ 0 by omega]
      have h0 : ((0 : Nat) : Int) < (l.length : Int) := by simpa using hlt
      have hc0 : rd_T38 l 0 = c := by simpa using hc
      have hw : wrap64 (0 + 1) = ((0 + 1 : Nat) : Int) := by unfold wrap64; omega
      simp only [show (0 : Int) < (l.length : Int) by omega, ↓reduceIte, hc0, hw]
      exact hnext _ _ _ (by simp [hp])
    · have hw : wrap64 (((pre'.concat b).length : Int) - 1) = (pre'.length : Int) := by simp at hlen ⊢; unfold wrap64; omega
      have hb : rd_T38 l (pre'.length : Int) = b := by rw [hpre]; simp only [List.concat_eq_append, List.append_assoc]; exact rdm pre' b (c :: cs)
      have hlt2 : (pre'.length : Int) < (l.length : Int) := by simp at hlen; omega
      have hgt : ((pre'.concat b).length : Int) > 0 := by simp
      simp only [hw, hb, hgt, hlt2, show (0 : Int) ≤ (pre'.length : Int) by omega, ↓reduceIte, spec_l02Share.f, Option.bind_some]
      refine Ev.step (fun k => by rw [spec_l02Places.j1]) ?_
      have hg : (pre'.concat b).getLast? = some b := by simp
      rw [hg, hungFrom]
      simp only [hgt, hlim, hlt, show (0 : Int) ≤ ((pre'.concat b).length : Int) by omega, ↓reduceIte, hc, wsuc (show (pre'.concat b).length < l.length by omega) hl]
      by_cases hs : shareB b c = true
      · have hs' : wrap64 (wrap64 b.f1 + wrap64 c.f1) ≤ 120 := of_decide_eq_true hs
        simp only [hs, hs', decide_true, ↓reduceIte]
        exact hnext _ _ _ (by simp [hp])
      · have hs' : ¬ wrap64 (wrap64 b.f1 + wrap64 c.f1) ≤ 120 := fun h => hs (decide_eq_true h)
        simp only [hs, hs', decide_false, Bool.false_eq_true, ↓reduceIte]
        exact hnext _ _ _ (by simp [hp])
theorem l02Places_ev (l : List S38) (hl : l.length ≤ 1048576) : Ev (fun k => spec_l02Places.f k l) ((hungOf l).2.1, (hungOf l).2.2) := by
  unfold spec_l02Places.f hungOf
  exact l02Places_l0 l hl l [] rfl 0 [] 0 rfl
theorem i16wrap {x : Int} (h0 : -32768 ≤ x) (h1 : x ≤ 32767) : wrap64 x = x := by unfold wrap64; omega
def lineB (a b : Int) : Bool := decide (4 ≤ a ∧ a ≤ 2000) && decide (1 ≤ b ∧ b ≤ 2000)
theorem l02Line_eq {a b : Int} (ha : -32768 ≤ a ∧ a ≤ 32767) (hb : -32768 ≤ b ∧ b ≤ 32767) : spec_l02Line.f a b = some (lineB a b) := by
  unfold spec_l02Line.f lineB
  simp only [i16wrap ha.1 ha.2, i16wrap hb.1 hb.2, l00In_eq, Option.bind_some]
  by_cases h : 4 ≤ a ∧ a ≤ 2000 <;> simp [h]
theorem ValidLine_eq {a b : Int} (ha : -32768 ≤ a ∧ a ≤ 32767) (hb : -32768 ≤ b ∧ b ≤ 32767) : impl_ValidLine.f a b = some (lineB a b) := by
  unfold impl_ValidLine.f lineB
  simp only [i16wrap ha.1 ha.2, i16wrap hb.1 hb.2, within_eq, Option.bind_some]
  by_cases h : 4 ≤ a ∧ a ≤ 2000 <;> simp [h]
def lcode (a b : Int) (l : List S38) : Int := if lineB a b = true then codeOf l 7 else 1
theorem lineCode_ev {a b : Int} (ha : -32768 ≤ a ∧ a ≤ 32767) (hb : -32768 ≤ b ∧ b ≤ 32767) (l : List S38) (hs : smallS l) : Ev (fun k => impl_lineCode.f k a b l) (lcode a b l) := by
  unfold impl_lineCode.f
  simp only [ValidLine_eq ha hb, Option.bind_some, impl_unless.f]
  unfold lcode
  cases h : lineB a b with
  | false =>
    simp only [Bool.false_eq_true, ↓reduceIte, Option.bind_some]
    refine Ev.bind (clothCode_ev l hs 7) ?_
    refine Ev.bind (firstOf2 1 _) ?_
    simp only [show ¬ (1 : Int) = 0 by omega, ↓reduceIte]
    exact Ev.now _
  | true =>
    simp only [↓reduceIte, Option.bind_some]
    refine Ev.bind (clothCode_ev l hs 7) ?_
    refine Ev.bind (firstOf2 0 _) ?_
    simp only [↓reduceIte]
    exact Ev.now _
theorem l02Hung_ev {a b : Int} (ha : -32768 ≤ a ∧ a ≤ 32767) (hb : -32768 ≤ b ∧ b ≤ 32767) (l : List S38) (hs : smallS l) (hl : l.length ≤ 1048576) : Ev (fun k => spec_l02Hung.f k a b l) (lcode a b l) := by
  unfold spec_l02Hung.f
  simp only [l02Line_eq ha hb, Option.bind_some]
  unfold lcode
  cases h : lineB a b with
  | false =>
    simp only [Bool.false_eq_true, ↓reduceIte]
    exact Ev.now _
  | true =>
    simp only [↓reduceIte]
    exact Ev.bind (l02Many_ev l hs hl 7) (Ev.now _)
theorem lcode_len {a b : Int} {l : List S38} (h : lcode a b l = 0) : l.length ≤ 7 ∧ lineB a b = true ∧ l.all cloth_ok = true := by
  unfold lcode codeOf at h
  by_cases h1 : lineB a b = true
  · by_cases h2 : l.all cloth_ok = true
    · by_cases h3 : (l.length : Int) ≤ 7
      · exact ⟨by omega, h1, h2⟩
      · simp [h1, h2, h3] at h
    · simp [h1, h2] at h
  · simp [h1] at h
theorem l02Fits_l0 (a b : Int) (l : List S38) (hl : l.length ≤ 1048576) : ∀ (cs pre : List S38), l = pre ++ cs → ∀ x : Int,
    Ev (fun k => spec_l02Fits.l0 k l x (pre.length : Int) a b) (decide ((hungOf l).2.2 ≤ wrap64 a) && decide (heavyFrom x cs ≤ wrap64 b)) := by
  intro cs
  induction cs with
  | nil =>
    intro pre hpre x
    refine Ev.step (fun k => by rw [spec_l02Fits.l0]) ?_
    have : l.length = pre.length := by rw [hpre]; simp
    simp only [show ¬ (pre.length : Int) < (l.length : Int) by omega, ↓reduceIte]
    refine Ev.bind (l02Places_ev l hl) ?_
    by_cases h : (hungOf l).2.2 ≤ wrap64 a
    · simp only [h, ↓reduceIte, decide_true, Bool.true_and, heavyFrom]; exact Ev.now _
    · simp only [h, ↓reduceIte, decide_false, Bool.false_and]; exact Ev.now _
  | cons c cs ih =>
    intro pre hpre x
    have hlen : l.length = pre.length + cs.length + 1 := by rw [hpre]; simp; omega
    have hc : rd_T38 l (pre.length : Int) = c := by rw [hpre]; exact rdm pre c cs
    have hnext := ih (pre ++ [c]) (by rw [hpre]; simp)
    simp only [List.length_append, List.length_cons, List.length_nil, Nat.zero_add] at hnext
    refine Ev.step (fun k => by rw [spec_l02Fits.l0]) ?_
    simp only [show (pre.length : Int) < (l.length : Int) by omega, show (0 : Int) ≤ (pre.length : Int) by omega, ↓reduceIte, hc, wsuc (show pre.length < l.length by omega) hl]
    rw [heavyFrom]
    exact hnext _
theorem l02Fits_ev (a b : Int) (l : List S38) (hl : l.length ≤ 1048576) : Ev (fun k => spec_l02Fits.f k a b l) (holdsB a b l) := by
  unfold spec_l02Fits.f
  exact l02Fits_l0 a b l hl l [] rfl 0
theorem holdsw_eq (a b : Int) (l : List S38) (hl : l.length ≤ 1048576) : impl_Line_holdsw.f a b l = some (holdsB a b l) := by
  unfold impl_Line_holdsw.f
  rw [if_pos hl]
theorem l02On_l0 (l : List S38) (o : List Int) (n : Int) (ho : o.length ≤ 1048576) : ∀ (cs pre : List Int) (ls lp : List S38), o = pre ++ cs → l = lp ++ ls → lp.length = pre.length → cs.length ≤ ls.length → ∀ x : List S38, x.length ≤ pre.length →
    Ev (fun k => spec_l02On.l0 k l o n x (pre.length : Int)) (x ++ withB ls cs n) := by
  intro cs
  induction cs with
  | nil =>
    intro pre ls lp hpre hl hlp hle x hx
    refine Ev.step (fun k => by rw [spec_l02On.l0]) ?_
    have : o.length = pre.length := by rw [hpre]; simp
    simp only [show ¬ (pre.length : Int) < (o.length : Int) by omega, ↓reduceIte]
    rw [show x ++ withB ls [] n = x by simp [withB]]
    exact Ev.now _
  | cons c cs ih =>
    intro pre ls lp hpre hl hlp hle x hx
    match ls, hl, hle with
    | [], _, h => simp at h
    | d :: ls, hl, hle =>
    have hlen : o.length = pre.length + cs.length + 1 := by rw [hpre]; simp; omega
    have hllen : l.length = lp.length + ls.length + 1 := by rw [hl]; simp; omega
    have hc : rd o (pre.length : Int) = c := by rw [hpre]; exact rdim pre c cs
    have hd : rd_T38 l (pre.length : Int) = d := by rw [hl, ← hlp]; exact rdm lp d ls
    have hnext := ih (pre ++ [c]) ls (lp ++ [d]) (by rw [hpre]; simp) (by rw [hl]; simp) (by simp [hlp]) (by simpa using hle)
    simp only [List.length_append, List.length_cons, List.length_nil, Nat.zero_add] at hnext
    refine Ev.step (fun k => by rw [spec_l02On.l0]) ?_
    simp only [show (pre.length : Int) < (o.length : Int) by omega, show (0 : Int) ≤ (pre.length : Int) by omega, ↓reduceIte, hc, hd, show (pre.length : Int) < (l.length : Int) by omega, show x.length < 35184372088832 by omega, wsuc (show pre.length < o.length by omega) ho]
    by_cases h : c = n
    · simp only [h, ↓reduceIte]
      rw [show x ++ withB (d :: ls) (n :: cs) n = (x ++ [d]) ++ withB ls cs n by simp [withB]]
      exact hnext _ (by simp; omega)
    · simp only [h, ↓reduceIte]
      rw [show x ++ withB (d :: ls) (c :: cs) n = x ++ withB ls cs n by simp [withB, h]]
      exact hnext _ (by omega)
theorem l02On_ev (l : List S38) (o : List Int) (n : Int) (ho : o.length ≤ 1048576) (hle : o.length ≤ l.length) : Ev (fun k => spec_l02On.f k l o n) (withB l o n) := by
  unfold spec_l02On.f
  exact l02On_l0 l o n ho o [] l [] rfl rfl rfl hle [] (Nat.le_refl _)
theorem withB_len (l : List S38) (o : List Int) (n : Int) : (withB l o n).length ≤ o.length := by
  unfold withB
  rw [List.length_map]
  refine Nat.le_trans (List.length_filter_le _ _) ?_
  rw [List.length_zip]
  omega
theorem alone_l0 (a b : Int) (l : List S38) (hl : l.length ≤ 1048576) : ∀ (cs pre : List S38), l = pre ++ cs →
    Ev (fun k => spec_l02Alone.l0 k l (pre.length : Int) a b) (cs.all fun c => holdsB a b [c]) := by
  intro cs
  induction cs with
  | nil =>
    intro pre hpre
    refine Ev.step (fun k => by rw [spec_l02Alone.l0]) ?_
    have : l.length = pre.length := by rw [hpre]; simp
    simp only [show ¬ (pre.length : Int) < (l.length : Int) by omega, ↓reduceIte, List.all_nil]
    exact Ev.now _
  | cons c cs ih =>
    intro pre hpre
    have hlen : l.length = pre.length + cs.length + 1 := by rw [hpre]; simp; omega
    have hnext := ih (pre ++ [c]) (by rw [hpre]; simp)
    simp only [List.length_append, List.length_cons, List.length_nil, Nat.zero_add] at hnext
    have hsl : (l.take (((pre.length + 1 : Nat) : Int)).toNat).drop (pre.length : Int).toNat = [c] := by
      rw [Int.toNat_natCast, Int.toNat_natCast, hpre, List.take_append, List.drop_append]
      simp
    refine Ev.step (fun k => by rw [spec_l02Alone.l0]) ?_
    simp only [show (pre.length : Int) < (l.length : Int) by omega, show (0 : Int) ≤ (pre.length : Int) by omega, wsuc (show pre.length < l.length by omega) hl, show (pre.length : Int) ≤ ((pre.length + 1 : Nat) : Int) by omega, show ((pre.length + 1 : Nat) : Int) ≤ (l.length : Int) by omega, ↓reduceIte, hsl, List.all_cons]
    refine Ev.bind (l02Fits_ev a b [c] (by simp)) ?_
    cases hh : holdsB a b [c] with
    | true =>
      simp only [↓reduceIte, Bool.true_and]
      exact hnext
    | false =>
      simp only [Bool.false_eq_true, ↓reduceIte, Bool.false_and]
      exact Ev.now _
theorem alone_ev (a b : Int) (l : List S38) (hl : l.length ≤ 1048576) : Ev (fun k => spec_l02Alone.f k a b l) (l.all fun c => holdsB a b [c]) := by
  unfold spec_l02Alone.f
  exact alone_l0 a b l hl l [] rfl
theorem firstOf3 (a b c : Int) : Ev (fun k => impl_firstOf.f k [a, b, c]) (if a = 0 then (if b = 0 then c else b) else a) := by
  unfold impl_firstOf.f
  have e2 : ∀ a b c : Int, ((([a, b, c] : List Int).length : Nat) : Int) = 3 := fun _ _ _ => rfl
  have w1 : wrap64 (0 + 1) = 1 := by unfold wrap64; omega
  have w2 : wrap64 (1 + 1) = 2 := by unfold wrap64; omega
  have w3 : wrap64 (2 + 1) = 3 := by unfold wrap64; omega
  have r0 : rd [a, b, c] 0 = a := by simp [rd]
  have r1 : rd [a, b, c] 1 = b := by simp [rd]
  have r2 : rd [a, b, c] 2 = c := by simp [rd]
  refine Ev.step (fun k => by rw [impl_firstOf.l0]) ?_
  simp only [e2, show (0 : Int) < 3 by omega, show (0 : Int) ≤ 0 by omega, ↓reduceIte, r0]
  by_cases ha : a = 0
  · simp only [ha, ↓reduceIte, w1]
    rw [ha] at r1 r2
    refine Ev.step (fun k => by rw [impl_firstOf.l0]) ?_
    simp only [e2, show (1 : Int) < 3 by omega, show (0 : Int) ≤ 1 by omega, ↓reduceIte, r1]
    by_cases hb : b = 0
    · simp only [hb, ↓reduceIte, w2]
      rw [hb] at r2
      refine Ev.step (fun k => by rw [impl_firstOf.l0]) ?_
      simp only [e2, show (2 : Int) < 3 by omega, show (0 : Int) ≤ 2 by omega, ↓reduceIte, r2]
      by_cases hc : c = 0
      · simp only [hc, ↓reduceIte, w3]
        refine Ev.step (fun k => by rw [impl_firstOf.l0]) ?_
        simp only [show ¬ (3 : Int) < 3 by omega, ↓reduceIte]
        exact Ev.now _
      · simp only [hc, ↓reduceIte]
        exact Ev.now _
    · simp only [hb, ↓reduceIte]
      exact Ev.now _
  · simp only [ha, ↓reduceIte]
    exact Ev.now _
def fit (a b : Int) (l : List S38) (out : List Int) (c : S38) (k : Int) : Bool := holdsB a b (withB l out k ++ [c])
def findK (p : Int → Bool) : Nat → Nat → Nat
  | 0, k => k
  | d + 1, k => if p (k : Int) = true then k else findK p d (k + 1)
theorem findK_le (p : Int → Bool) : ∀ d k, findK p d k ≤ k + d
  | 0, k => Nat.le_refl _
  | d + 1, k => by
    rw [findK]
    split
    · omega
    · have := findK_le p d (k + 1); omega
def firstRun (a b : Int) (l : List S38) : List S38 → List Int → Nat → List Int × Int
  | [], out, m => (out, (m : Int))
  | c :: cs, out, m => firstRun a b l cs (out ++ [((findK (fit a b l out c) m 0 : Nat) : Int)]) (max m (findK (fit a b l out c) m 0 + 1))
theorem withB_none (l : List S38) (out : List Int) (n : Int) (h : ∀ x ∈ out, x ≠ n) : withB l out n = [] := by
  unfold withB
  rw [List.map_eq_nil_iff, List.filter_eq_nil_iff]
  intro x hx
  have := h x.1 (List.of_mem_zip hx).1
  simp [this]
theorem max_eq (m r : Nat) (h : r ≤ 1048576) : mx (m : Int) (wrap64 ((r : Int) + 1)) = ((max m (r + 1) : Nat) : Int) := by
  have e : wrap64 ((r : Int) + 1) = ((r + 1 : Nat) : Int) := by unfold wrap64; omega
  rw [e]
  unfold mx
  by_cases h : m < r + 1
  · rw [if_pos (by omega), Nat.max_eq_right (by omega)]
  · rw [if_neg (by omega), Nat.max_eq_left (by omega)]
theorem l00Max_eq (a b : Int) : spec_l00Max.f a b = some (mx a b) := by
  unfold spec_l00Max.f mx
  by_cases h : a > b
  · rw [if_pos h, if_neg (by omega)]
  · rw [if_neg h]
    by_cases h2 : a < b
    · rw [if_pos h2]
    · rw [if_neg h2, show a = b by omega]
theorem behind_eq (a b : Int) (l : List S38) (hl : l.length ≤ 1048576) (pre cs : List S38) (c : S38) (hpre : l = pre ++ c :: cs) (out : List Int) (ho : out.length = pre.length) (k : Int) :
    impl_Line_fitsBehind.f a b l out k = some (fit a b l out c k) := by
  have hlen : l.length = pre.length + cs.length + 1 := by rw [hpre]; simp; omega
  have hc : rd_T38 l (out.length : Int) = c := by rw [hpre, ho]; exact rdm pre c cs
  have hw := withB_len l out k
  unfold impl_Line_fitsBehind.f impl_withNumber_impl_Clothw.f
  rw [if_pos ⟨by omega, by omega⟩]
  simp only [Option.bind_some, show (0 : Int) ≤ (out.length : Int) by omega, show (out.length : Int) < (l.length : Int) by omega, ↓reduceIte, hc, List.length_cons, List.length_nil, show (withB l out k).length + (0 + 1) < 35184372088832 by omega]
  rw [holdsw_eq _ _ _ (by simp; omega)]
  rfl
theorem impl_First_l1 (a b : Int) (l : List S38) (hl : l.length ≤ 1048576) (pre cs : List S38) (c : S38) (hpre : l = pre ++ c :: cs) (out : List Int) (ho : out.length = pre.length) (m : Nat) (hm : m ≤ out.length)
    (hx : ∀ x ∈ out, x < (m : Int)) (ha : holdsB a b [c] = true) (R : List Int × Int × Int) : ∀ (d j : Nat), j + d = m →
    Ev (fun k => impl_FirstLines.l0 k l (out ++ [((findK (fit a b l out c) d j : Nat) : Int)]) ((max m (findK (fit a b l out c) d j + 1) : Nat) : Int) (l.length : Int) ((pre.length + 1 : Nat) : Int) a b) R →
    Ev (fun k => impl_FirstLines.l1 k l out (m : Int) (j : Int) (l.length : Int) (pre.length : Int) a b) R := by
  have hlen : l.length = pre.length + cs.length + 1 := by rw [hpre]; simp; omega
  intro d
  induction d with
  | zero =>
    intro j hj hR
    rw [findK] at hR
    refine Ev.step (fun k => by rw [impl_FirstLines.l1]) ?_
    have hf : fit a b l out c (j : Int) = true := by
      unfold fit
      rw [withB_none l out _ (fun x h => by have := hx x h; omega)]
      exact ha
    simp only [behind_eq a b l hl pre cs c hpre out ho, Option.bind_some, hf, ↓reduceIte, show out.length < 17592186044416 by omega, max_eq m j (by omega), wsuc (show pre.length < l.length by omega) hl]
    exact hR
  | succ d ih =>
    intro j hj hR
    rw [findK] at hR
    refine Ev.step (fun k => by rw [impl_FirstLines.l1]) ?_
    simp only [behind_eq a b l hl pre cs c hpre out ho, Option.bind_some]
    by_cases hf : fit a b l out c (j : Int) = true
    · simp only [hf, ↓reduceIte] at hR
      simp only [hf, ↓reduceIte, show out.length < 17592186044416 by omega, max_eq m j (by omega), wsuc (show pre.length < l.length by omega) hl]
      exact hR
    · simp only [hf, Bool.false_eq_true, ↓reduceIte] at hR
      simp only [hf, Bool.false_eq_true, ↓reduceIte, wsuc (show j < 1048576 by omega) (Nat.le_refl _)]
      exact ih (j + 1) (by omega) hR
theorem spec_First_l1 (a b : Int) (l : List S38) (hl : l.length ≤ 1048576) (pre cs : List S38) (c : S38) (hpre : l = pre ++ c :: cs) (out : List Int) (ho : out.length = pre.length) (m : Nat) (hm : m ≤ out.length)
    (R : List Int × Int × Int) : ∀ (d j : Nat), j + d = m →
    Ev (fun k => spec_FirstLines.l0 k l (out ++ [((findK (fit a b l out c) d j : Nat) : Int)]) ((max m (findK (fit a b l out c) d j + 1) : Nat) : Int) ((pre.length + 1 : Nat) : Int) a b) R →
    Ev (fun k => spec_FirstLines.l1 k l out (m : Int) (pre.length : Int) (j : Int) a b) R := by
  have hlen : l.length = pre.length + cs.length + 1 := by rw [hpre]; simp; omega
  have hc : rd_T38 l (pre.length : Int) = c := by rw [hpre]; exact rdm pre c cs
  intro d
  induction d with
  | zero =>
    intro j hj hR
    rw [findK] at hR
    refine Ev.step (fun k => by rw [spec_FirstLines.l1]) ?_
    simp only [show ¬ (j : Int) < (m : Int) by omega, ↓reduceIte, Option.bind_some, l00Max_eq, List.length_cons, List.length_nil, show out.length + (0 + 1) < 17592186044416 by omega, max_eq m j (by omega), wsuc (show pre.length < l.length by omega) hl]
    exact hR
  | succ d ih =>
    intro j hj hR
    rw [findK] at hR
    refine Ev.step (fun k => by rw [spec_FirstLines.l1]) ?_
    have hw := withB_len l out (j : Int)
    simp only [show (j : Int) < (m : Int) by omega, ↓reduceIte]
    refine Ev.bind (l02On_ev l out (j : Int) (by omega) (by omega)) ?_
    simp only [show (0 : Int) ≤ (pre.length : Int) by omega, show (pre.length : Int) < (l.length : Int) by omega, ↓reduceIte, hc, Option.bind_some, List.length_cons, List.length_nil, show (withB l out (j : Int)).length + (0 + 1) < 35184372088832 by omega]
    refine Ev.bind (l02Fits_ev a b _ (by simp; omega)) ?_
    have hfe : holdsB a b (withB l out (j : Int) ++ [c]) = fit a b l out c (j : Int) := rfl
    by_cases hf : fit a b l out c (j : Int) = true
    · simp only [hf, ↓reduceIte] at hR
      rw [hf] at hfe
      simp only [hfe, ↓reduceIte, Option.bind_some, l00Max_eq, List.length_cons, List.length_nil, show out.length + (0 + 1) < 17592186044416 by omega, max_eq m j (by omega), wsuc (show pre.length < l.length by omega) hl]
      exact hR
    · simp only [hf, Bool.false_eq_true, ↓reduceIte] at hR
      rw [Bool.not_eq_true] at hf
      rw [hf] at hfe
      simp only [hfe, Bool.false_eq_true, ↓reduceIte, wsuc (show j < 1048576 by omega) (Nat.le_refl _)]
      exact ih (j + 1) (by omega) hR
theorem out_lt (out : List Int) (m r : Nat) (hx : ∀ x ∈ out, x < (m : Int)) : ∀ x ∈ out ++ [((r : Nat) : Int)], x < ((max m (r + 1) : Nat) : Int) := by
  intro x h
  rcases List.mem_append.mp h with h | h
  · have := hx x h
    omega
  · rw [List.mem_singleton] at h
    omega
theorem impl_First_l0 (a b : Int) (l : List S38) (hl : l.length ≤ 1048576) (hal : l.all (fun c => holdsB a b [c]) = true) : ∀ (cs pre : List S38), l = pre ++ cs → ∀ (out : List Int) (m : Nat), out.length = pre.length → m ≤ out.length → (∀ x ∈ out, x < (m : Int)) →
    Ev (fun k => impl_FirstLines.l0 k l out (m : Int) (l.length : Int) (pre.length : Int) a b) ((firstRun a b l cs out m).1, (firstRun a b l cs out m).2, 0) := by
  intro cs
  induction cs with
  | nil =>
    intro pre hpre out m ho hm hx
    refine Ev.step (fun k => by rw [impl_FirstLines.l0]) ?_
    have : l.length = pre.length := by rw [hpre]; simp
    simp only [show ¬ (pre.length : Int) < (l.length : Int) by omega, ↓reduceIte]
    exact Ev.now _
  | cons c cs ih =>
    intro pre hpre out m ho hm hx
    have hlen : l.length = pre.length + cs.length + 1 := by rw [hpre]; simp; omega
    have hnext := ih (pre ++ [c]) (by rw [hpre]; simp)
    simp only [List.length_append, List.length_cons, List.length_nil, Nat.zero_add] at hnext
    refine Ev.step (fun k => by rw [impl_FirstLines.l0]) ?_
    simp only [show (pre.length : Int) < (l.length : Int) by omega, ↓reduceIte]
    rw [firstRun]
    have hk := findK_le (fit a b l out c) m 0
    exact impl_First_l1 a b l hl pre cs c hpre out ho m hm hx (List.all_eq_true.mp hal c (by rw [hpre]; simp)) _ m 0 (by omega) (hnext _ _ (by simp; omega) (by simp; omega) (out_lt out m _ hx))
theorem spec_First_l0 (a b : Int) (l : List S38) (hl : l.length ≤ 1048576) : ∀ (cs pre : List S38), l = pre ++ cs → ∀ (out : List Int) (m : Nat), out.length = pre.length → m ≤ out.length →
    Ev (fun k => spec_FirstLines.l0 k l out (m : Int) (pre.length : Int) a b) ((firstRun a b l cs out m).1, (firstRun a b l cs out m).2, 0) := by
  intro cs
  induction cs with
  | nil =>
    intro pre hpre out m ho hm
    refine Ev.step (fun k => by rw [spec_FirstLines.l0]) ?_
    have : l.length = pre.length := by rw [hpre]; simp
    simp only [show ¬ (pre.length : Int) < (l.length : Int) by omega, ↓reduceIte]
    exact Ev.now _
  | cons c cs ih =>
    intro pre hpre out m ho hm
    have hlen : l.length = pre.length + cs.length + 1 := by rw [hpre]; simp; omega
    have hnext := ih (pre ++ [c]) (by rw [hpre]; simp)
    simp only [List.length_append, List.length_cons, List.length_nil, Nat.zero_add] at hnext
    refine Ev.step (fun k => by rw [spec_FirstLines.l0]) ?_
    simp only [show (pre.length : Int) < (l.length : Int) by omega, ↓reduceIte]
    rw [firstRun]
    have hk := findK_le (fit a b l out c) m 0
    exact spec_First_l1 a b l hl pre cs c hpre out ho m hm _ m 0 (by omega) (hnext _ _ (by simp; omega) (by simp; omega))
def fitO (a b : Int) (l : List S38) (o : List Int) (k : Int) : Bool := holdsB a b (withB l o k ++ [rd_T38 l (o.length : Int)])
theorem behindO (a b : Int) (l : List S38) (hl : l.length ≤ 1048576) (o : List Int) (ho : o.length < l.length) (k : Int) : impl_Line_fitsBehind.f a b l o k = some (fitO a b l o k) := by
  have hw := withB_len l o k
  unfold impl_Line_fitsBehind.f impl_withNumber_impl_Clothw.f
  rw [if_pos ⟨by omega, by omega⟩]
  simp only [Option.bind_some, show (0 : Int) ≤ (o.length : Int) by omega, show (o.length : Int) < (l.length : Int) by omega, ↓reduceIte, List.length_cons, List.length_nil, show (withB l o k).length + (0 + 1) < 35184372088832 by omega]
  rw [holdsw_eq _ _ _ (by simp; omega)]
  rfl
theorem fitT_ev (a b : Int) (l : List S38) (hl : l.length ≤ 1048575) (o : List Int) (ho : o.length < l.length) (k : Int) : Ev (fun K => fitT K a b l o k) (fitO a b l o k) := by
  have hw := withB_len l o k
  unfold fitT
  refine Ev.bind (l02On_ev l o k (by omega) (by omega)) ?_
  simp only [show (withB l o k).length ≤ 1048576 by omega, ↓reduceIte]
  exact l02Fits_ev a b _ (by simp; omega)
abbrev R4 := List Int × Bool × Int × Bool
def doneR (x : R4) : Prop := x.2.1 = true ∨ x.2.2.2 = true
instance (x : R4) : Decidable (doneR x) := inferInstanceAs (Decidable (x.2.1 = true ∨ x.2.2.2 = true))
def hangLB (step : Nat → Int → R4) : Nat → Nat → Int → R4
  | 0, _, t => ([], false, t, false)
  | r + 1, kk, t => if doneR (step kk t) then step kk t else hangLB step r (kk + 1) (step kk t).2.2.1
def hangB (fit : List Int → Int → Bool) (bud : Int) (most : Nat) : Nat → List Int → Nat → Int → R4
  | 0, o, _, t => (o, true, t, false)
  | d + 1, o, u, t => hangLB (fun k t => if fit o (k : Int) = false then ([], false, t, false) else if t = bud then ([], false, t, true) else hangB fit bud most d (o ++ [(k : Int)]) (max u (k + 1)) (t + 1)) (min (u + 1) most) 0 t
theorem hangL_ev {s : Nat → Nat → Int → Option R4} {sB : Nat → Int → R4} (h : ∀ kk t, Ev (fun K => s K kk t) (sB kk t)) : ∀ (r kk : Nat) (t : Int), Ev (fun K => hangL (s K) r kk t) (hangLB sB r kk t)
  | 0, kk, t => by
    simp only [hangL, hangLB]
    exact Ev.now _
  | r + 1, kk, t => by
    simp only [hangL]
    rw [hangLB]
    refine Ev.bind (h kk t) ?_
    by_cases hc : doneR (sB kk t)
    · rw [if_pos hc]
      have hc' : (sB kk t).2.1 = true ∨ (sB kk t).2.2.2 = true := hc
      simp only [if_pos hc']
      exact Ev.now _
    · rw [if_neg hc]
      have hc' : ¬ ((sB kk t).2.1 = true ∨ (sB kk t).2.2.2 = true) := hc
      simp only [if_neg hc']
      exact hangL_ev h r _ _
theorem hangS_ev {f : Nat → List Int → Int → Option Bool} {fB : List Int → Int → Bool} {n : Nat} (h : ∀ o k, o.length < n → Ev (fun K => f K o k) (fB o k)) (bud : Int) (most : Nat) : ∀ (d : Nat) (o : List Int) (u : Nat) (t : Int), o.length + d = n →
    Ev (fun K => hangS (f K) bud most d o u t) (hangB fB bud most d o u t)
  | 0, o, u, t, _ => by
    simp only [hangS, hangB]
    exact Ev.now _
  | d + 1, o, u, t, ho => by
    simp only [hangS]
    rw [hangB]
    refine hangL_ev (s := fun K k t => (f K o (k : Int)).bind fun b => if b = false then some ([], false, t, false) else if t = bud then some ([], false, t, true) else hangS (f K) bud most d (o ++ [(k : Int)]) (max u (k + 1)) (t + 1)) (fun kk t => ?_) _ _ _
    refine Ev.bind (h o _ (by omega)) ?_
    cases hb : fB o (kk : Int) with
    | false =>
      simp only [↓reduceIte]
      exact Ev.now _
    | true =>
      simp only [Bool.true_eq_false, ↓reduceIte]
      by_cases ht : t = bud
      · simp only [ht, ↓reduceIte]
        exact Ev.now _
      · simp only [ht, ↓reduceIte]
        exact hangS_ev h bud most d _ _ _ (by simp; omega)
theorem hangLB_done {step : Nat → Int → R4} : ∀ (r kk : Nat) (t : Int) (k0 : Nat), kk ≤ k0 → k0 < kk + r → (∀ t', doneR (step k0 t')) → doneR (hangLB step r kk t)
  | 0, _, _, _, h1, h2, _ => by omega
  | r + 1, kk, t, k0, h1, h2, h => by
    rw [hangLB]
    split
    · assumption
    · rename_i hn
      have : kk ≠ k0 := fun e => hn (e ▸ h t)
      exact hangLB_done r (kk + 1) _ k0 (by omega) (by omega) h
theorem hangB_done {fit : List Int → Int → Bool} {n : Nat} (hf : ∀ (o : List Int) (u : Nat), o.length < n → (∀ x ∈ o, x < (u : Int)) → fit o (u : Int) = true) (bud : Int) (most : Nat) (hm : n ≤ most) : ∀ (d : Nat) (o : List Int) (u : Nat) (t : Int), o.length + d = n → u ≤ o.length → (∀ x ∈ o, x < (u : Int)) →
    doneR (hangB fit bud most d o u t)
  | 0, o, u, t, _, _, _ => by
    rw [hangB]
    exact Or.inl rfl
  | d + 1, o, u, t, ho, hu, hx => by
    rw [hangB]
    refine hangLB_done _ 0 t u (Nat.zero_le _) (by omega) (fun t' => ?_)
    rw [if_neg (by rw [hf o u (by omega) hx]; decide)]
    split
    · exact Or.inr rfl
    · refine hangB_done hf bud most hm d _ _ _ (by simp; omega) (by simp; omega) (fun x hxm => ?_)
      rcases List.mem_append.mp hxm with h | h
      · have := hx x h
        omega
      · rw [List.mem_singleton] at h
        omega
theorem hangLB_len {step : Nat → Int → R4} {n : Nat} (h : ∀ k t, (step k t).1.length ≤ n) : ∀ (r kk : Nat) (t : Int), (hangLB step r kk t).1.length ≤ n
  | 0, _, _ => by simp [hangLB]
  | r + 1, kk, t => by
    rw [hangLB]
    split
    · exact h _ _
    · exact hangLB_len h r _ _
theorem hangB_len (fit : List Int → Int → Bool) (bud : Int) (most : Nat) : ∀ (d : Nat) (o : List Int) (u : Nat) (t : Int), (hangB fit bud most d o u t).1.length ≤ o.length + d
  | 0, o, u, t => by simp [hangB]
  | d + 1, o, u, t => by
    rw [hangB]
    refine hangLB_len (fun k t => ?_) _ _ _
    split
    · simp
    · split
      · simp
      · have := hangB_len fit bud most d (o ++ [(k : Int)]) (max u (k + 1)) (t + 1)
        simp only [List.length_append, List.length_cons, List.length_nil] at this
        omega
def hangMB (S : Nat → Int → R4) : Nat → Nat → Int → List Int × Int × Int
  | 0, m, t => if (S m t).2.1 = true then ((S m t).1, (S m t).2.2.1, 0) else ([], 0, 7)
  | d + 1, m, t => if (S m t).2.1 = true then ((S m t).1, (S m t).2.2.1, 0) else if (S m t).2.2.2 = true then ([], 0, 7) else hangMB S d (m + 1) (S m t).2.2.1
theorem hangM_ev {S : Nat → Nat → Int → Option R4} {SB : Nat → Int → R4} (h : ∀ m t, Ev (fun K => S K m t) (SB m t)) {n : Nat} (hn : n ≤ 999) (hd : ∀ t, doneR (SB n t)) : ∀ (d m : Nat) (t : Int), m + d = n →
    ∃ K0 r0, ∀ K, K0 ≤ K → ∀ r, r0 ≤ r → hangM (S K) r m t = some (hangMB SB d m t)
  | 0, m, t, hmd => by
    obtain ⟨K0, h0⟩ := h m t
    refine ⟨K0, 1, fun K hK r hr => ?_⟩
    obtain ⟨r, rfl⟩ : ∃ q, r = q + 1 := ⟨r - 1, by omega⟩
    have hd' := hd t
    rw [show n = m by omega] at hd'
    rw [hangM, show S K m t = some (SB m t) from h0 K hK, hangMB]
    simp only [Option.bind_some]
    by_cases h1 : (SB m t).2.1 = true
    · rw [if_pos h1, if_pos h1]
    · rw [if_neg h1, if_neg h1, if_pos (hd'.resolve_left h1)]
  | d + 1, m, t, hmd => by
    obtain ⟨K0, h0⟩ := h m t
    obtain ⟨K1, r1, h1⟩ := hangM_ev h hn hd d (m + 1) (SB m t).2.2.1 (by omega)
    refine ⟨max K0 K1, r1 + 1, fun K hK r hr => ?_⟩
    obtain ⟨r, rfl⟩ : ∃ q, r = q + 1 := ⟨r - 1, by omega⟩
    rw [hangM, show S K m t = some (SB m t) from h0 K (by omega), hangMB]
    simp only [Option.bind_some]
    by_cases h2 : (SB m t).2.1 = true
    · rw [if_pos h2, if_pos h2]
    · rw [if_neg h2, if_neg h2]
      by_cases h3 : (SB m t).2.2.2 = true
      · rw [if_pos h3, if_pos h3]
      · rw [if_neg h3, if_neg h3, if_pos (by omega)]
        exact h1 K (by omega) r (by omega)
theorem hangM_ev' {S : Nat → Nat → Int → Option R4} {SB : Nat → Int → R4} (h : ∀ m t, Ev (fun K => S K m t) (SB m t)) {n : Nat} (hn : n ≤ 999) (hd : ∀ t, doneR (SB n t)) : Ev (fun K => hangM (S K) K 0 0) (hangMB SB n 0 0) := by
  obtain ⟨K0, r0, h0⟩ := hangM_ev h hn hd n 0 0 (by omega)
  exact ⟨max K0 r0, fun k hk => h0 k (by omega) k (by omega)⟩
theorem hangMB_len {S : Nat → Int → R4} {n : Nat} (h : ∀ m t, (S m t).1.length ≤ n) : ∀ (d m : Nat) (t : Int), (hangMB S d m t).1.length ≤ n
  | 0, m, t => by
    rw [hangMB]
    split
    · exact h _ _
    · simp
  | d + 1, m, t => by
    rw [hangMB]
    split
    · exact h _ _
    · split
      · simp
      · exact hangMB_len h d _ _
theorem fit_alone {a b : Int} {l : List S38} (hal : l.all (fun c => holdsB a b [c]) = true) (o : List Int) (u : Nat) (ho : o.length < l.length) (hx : ∀ x ∈ o, x < (u : Int)) : fitO a b l o (u : Int) = true := by
  unfold fitO
  rw [withB_none l o _ (fun x h => by have := hx x h; omega)]
  refine List.all_eq_true.mp hal _ ?_
  unfold rd_T38
  rw [Int.toNat_natCast, List.getD_eq_getElem?_getD, List.getElem?_eq_getElem ho]
  exact List.getElem_mem ho
def fewSB (a b : Int) (l : List S38) (bud : Int) : Nat → Int → R4 := fun m t => hangB (fitO a b l) bud m l.length [] 0 t
def fewR (a b : Int) (l : List S38) (bud : Int) : List Int × Int × Int :=
  if lcode a b l = 0 then (if 0 ≤ bud ∧ bud ≤ 20000 then (if (l.all fun c => holdsB a b [c]) = true then hangMB (fewSB a b l bud) l.length 0 0 else ([], 0, 6)) else ([], 0, 2)) else ([], 0, lcode a b l)
theorem fewR_len (a b : Int) (l : List S38) (bud : Int) : (fewR a b l bud).1.length ≤ l.length := by
  unfold fewR
  split
  · split
    · split
      · refine hangMB_len (fun m t => ?_) _ _ _
        have := hangB_len (fitO a b l) bud m l.length [] 0 t
        simpa [fewSB] using this
      · simp
    · simp
  · simp
theorem impl_Few_ev {a b : Int} (ha : -32768 ≤ a ∧ a ≤ 32767) (hb : -32768 ≤ b ∧ b ≤ 32767) (l : List S38) (hs : smallS l) (bud : Int) : Ev (fun k => impl_FewestLines.f k a b l bud) (fewR a b l bud) := by
  unfold impl_FewestLines.f fewR impl_Line_fitAlone.f
  refine Ev.bind (lineCode_ev ha hb _ hs) ?_
  have hw : impl_within.f bud 0 20000 = some (decide (0 ≤ bud ∧ bud ≤ 20000)) := by
    unfold impl_within.f
    by_cases h0 : 0 ≤ bud
    · rw [if_pos h0]; simp [h0]
    · rw [if_neg h0]; simp [h0]
  simp only [hw, Option.bind_some, impl_unless.f]
  by_cases hbd : 0 ≤ bud ∧ bud ≤ 20000
  · simp only [hbd, and_self, decide_true, ↓reduceIte, Option.bind_some]
    refine Ev.bind (firstOf3 _ _ _) ?_
    by_cases h : lcode a b l = 0
    · simp only [h, ↓reduceIte]
      by_cases hal : (l.all fun c => holdsB a b [c]) = true
      · simp only [hal, ↓reduceIte]
        have hn := (lcode_len h).1
        simp only [show l.length ≤ 1000 by omega, and_self, ↓reduceIte]
        refine hangM_ev' (S := fun K m t => hangS (impl_Line_fitsBehind.f a b l) bud m l.length [] 0 t) (SB := fewSB a b l bud) (fun m t => ?_) (by omega) (fun t => hangB_done (fun o u ho hx => fit_alone hal o u ho hx) bud _ (Nat.le_refl _) _ [] 0 t (by simp) (Nat.le_refl _) (by simp))
        refine hangS_ev (f := fun _ => impl_Line_fitsBehind.f a b l) (n := l.length) (fun o k ho => ?_) bud m l.length [] 0 t (by simp)
        simp only [behindO a b l (by omega) o ho]
        exact Ev.now _
      · simp only [hal, Bool.false_eq_true, ↓reduceIte, show ¬ (6 : Int) = 0 by omega]
        exact Ev.now _
    · simp only [h, ↓reduceIte]
      exact Ev.now _
  · simp only [hbd, decide_false, Bool.false_eq_true, ↓reduceIte, Option.bind_some]
    refine Ev.bind (firstOf3 _ _ _) ?_
    by_cases h : lcode a b l = 0
    · simp only [h, ↓reduceIte, show ¬ (2 : Int) = 0 by omega]
      exact Ev.now _
    · simp only [h, ↓reduceIte]
      exact Ev.now _
theorem spec_Few_ev {a b : Int} (ha : -32768 ≤ a ∧ a ≤ 32767) (hb : -32768 ≤ b ∧ b ≤ 32767) (l : List S38) (hs : smallS l) (hl : l.length ≤ 1048576) (bud : Int) : Ev (fun k => spec_FewestLines.f k a b l bud) (fewR a b l bud) := by
  unfold spec_FewestLines.f fewR
  refine Ev.bind (l02Hung_ev ha hb _ hs hl) ?_
  by_cases h : lcode a b l = 0
  · simp only [h, ↓reduceIte]
    have hw : spec_l00In.f bud 0 20000 = some (decide (0 ≤ bud ∧ bud ≤ 20000)) := by
      unfold spec_l00In.f
      by_cases h0 : 0 ≤ bud
      · rw [if_pos h0]; simp [h0]
      · rw [if_neg h0]; simp [h0]
    simp only [hw, Option.bind_some]
    by_cases hbd : 0 ≤ bud ∧ bud ≤ 20000
    · simp only [hbd, and_self, decide_true, ↓reduceIte]
      refine Ev.bind (alone_ev a b l hl) ?_
      by_cases hal : (l.all fun c => holdsB a b [c]) = true
      · simp only [hal, ↓reduceIte]
        have hn := (lcode_len h).1
        simp only [show l.length ≤ 1000 by omega, and_self, ↓reduceIte]
        refine hangM_ev' (S := fun K m t => hangS (fitT K a b l) bud m l.length [] 0 t) (SB := fewSB a b l bud) (fun m t => ?_) (by omega) (fun t => hangB_done (fun o u ho hx => fit_alone hal o u ho hx) bud _ (Nat.le_refl _) _ [] 0 t (by simp) (Nat.le_refl _) (by simp))
        exact hangS_ev (f := fun K => fitT K a b l) (n := l.length) (fun o k ho => fitT_ev a b l (by omega) o ho k) bud m l.length [] 0 t (by simp)
      · simp only [hal, Bool.false_eq_true, ↓reduceIte]
        exact Ev.now _
    · simp only [hbd, decide_false, Bool.false_eq_true, ↓reduceIte]
      exact Ev.now _
  · simp only [h, ↓reduceIte]
    exact Ev.now _
def smallL (l : List S28) : Prop := ∀ x ∈ l, -32768 ≤ x.f0 ∧ x.f0 ≤ 32767 ∧ -32768 ≤ x.f1 ∧ x.f1 ≤ 32767
theorem line_ok_eq (x : S28) : line_ok x = lineB x.f0 x.f1 := rfl
theorem rdm28 (pre : List S28) (c : S28) (cs : List S28) : rd_T28 (pre ++ c :: cs) (pre.length : Int) = c := by simp [rd_T28, List.getD_eq_getElem?_getD]
theorem Which_l1 (ls : List S28) (hls : ls.length ≤ 1048576) (l : List S38) (hl : l.length ≤ 1048576) : ∀ (cs pre : List S28), ls = pre ++ cs →
    Ev (fun k => spec_WhichLine.l1 k ls l (pre.length : Int)) (if cs.any (line_fits l) = true then ((pre.length : Int) + Own.firstIdx (line_fits l) cs, 0) else (0, 6)) := by
  intro cs
  induction cs with
  | nil =>
    intro pre hpre
    refine Ev.step (fun k => by rw [spec_WhichLine.l1]) ?_
    have : ls.length = pre.length := by rw [hpre]; simp
    simp only [show ¬ (pre.length : Int) < (ls.length : Int) by omega, ↓reduceIte, List.any_nil, Bool.false_eq_true]
    exact Ev.now _
  | cons c cs ih =>
    intro pre hpre
    have hlen : ls.length = pre.length + cs.length + 1 := by rw [hpre]; simp; omega
    have hc : rd_T28 ls (pre.length : Int) = c := by rw [hpre]; exact rdm28 pre c cs
    have hnext := ih (pre ++ [c]) (by rw [hpre]; simp)
    simp only [List.length_append, List.length_cons, List.length_nil, Nat.zero_add] at hnext
    refine Ev.step (fun k => by rw [spec_WhichLine.l1]) ?_
    simp only [show (pre.length : Int) < (ls.length : Int) by omega, show (0 : Int) ≤ (pre.length : Int) by omega, ↓reduceIte, hc, wsuc (show pre.length < ls.length by omega) hls]
    refine Ev.bind (l02Fits_ev c.f0 c.f1 l hl) ?_
    cases hh : holdsB c.f0 c.f1 l with
    | true =>
      have hf : line_fits l c = true := hh
      have hi : Own.firstIdx (line_fits l) (c :: cs) = 0 := by
        have := Own.firstIdx_hit (p := line_fits l) (l := c :: cs) (k := 0) (by simp) (fun j hj => absurd hj (by omega)) hf
        simpa using this
      simp only [↓reduceIte, List.any_cons, hf, Bool.true_or, hi, Int.add_zero]
      exact Ev.now _
    | false =>
      have hf : line_fits l c = false := hh
      simp only [Bool.false_eq_true, ↓reduceIte, List.any_cons, hf, Bool.false_or]
      by_cases ha : cs.any (line_fits l) = true
      · have hi : Own.firstIdx (line_fits l) (c :: cs) = 1 + Own.firstIdx (line_fits l) cs := by
          unfold Own.firstIdx
          rw [if_pos ha, List.any_cons, ha, Bool.or_true, if_pos rfl, List.findIdx_cons, hf]
          simp only [cond_false]
          omega
        simp only [ha, ↓reduceIte] at hnext ⊢
        rw [hi, ← Int.add_assoc]
        exact hnext
      · simp only [ha, Bool.false_eq_true, ↓reduceIte] at hnext ⊢
        exact hnext
def whichR (ls : List S28) (l : List S38) : Int × Int :=
  if ls.all line_ok = true then (if codeOf l 7 = 0 then (if ls.any (line_fits l) = true then (Own.firstIdx (line_fits l) ls, 0) else (0, 6)) else (0, codeOf l 7)) else (0, 1)
theorem Which_l0 (ls : List S28) (hls : ls.length ≤ 1048576) (hsm : smallL ls) (l : List S38) (hs : smallS l) (hl : l.length ≤ 1048576) : ∀ (cs pre : List S28), ls = pre ++ cs →
    Ev (fun k => spec_WhichLine.l0 k ls l (pre.length : Int)) (if cs.all line_ok = true then (if codeOf l 7 = 0 then (if ls.any (line_fits l) = true then (Own.firstIdx (line_fits l) ls, 0) else (0, 6)) else (0, codeOf l 7)) else (0, 1)) := by
  intro cs
  induction cs with
  | nil =>
    intro pre hpre
    refine Ev.step (fun k => by rw [spec_WhichLine.l0]) ?_
    have : ls.length = pre.length := by rw [hpre]; simp
    simp only [show ¬ (pre.length : Int) < (ls.length : Int) by omega, ↓reduceIte, List.all_nil]
    refine Ev.bind (l02Many_ev l hs hl 7) ?_
    by_cases h : codeOf l 7 = 0
    · simp only [h, ↓reduceIte]
      have := Which_l1 ls hls l hl ls [] rfl
      simpa using this
    · simp only [h, ↓reduceIte]
      exact Ev.now _
  | cons c cs ih =>
    intro pre hpre
    have hlen : ls.length = pre.length + cs.length + 1 := by rw [hpre]; simp; omega
    have hc : rd_T28 ls (pre.length : Int) = c := by rw [hpre]; exact rdm28 pre c cs
    have hb := hsm c (by rw [hpre]; simp)
    have hnext := ih (pre ++ [c]) (by rw [hpre]; simp)
    simp only [List.length_append, List.length_cons, List.length_nil, Nat.zero_add] at hnext
    refine Ev.step (fun k => by rw [spec_WhichLine.l0]) ?_
    simp only [show (pre.length : Int) < (ls.length : Int) by omega, show (0 : Int) ≤ (pre.length : Int) by omega, ↓reduceIte, hc, l02Line_eq ⟨hb.1, hb.2.1⟩ hb.2.2, Option.bind_some, wsuc (show pre.length < ls.length by omega) hls, List.all_cons, line_ok_eq]
    by_cases hh : lineB c.f0 c.f1 = true
    · simp only [hh, ↓reduceIte, Bool.true_and]
      exact hnext
    · rw [Bool.not_eq_true] at hh
      simp only [hh, Bool.false_eq_true, ↓reduceIte, Bool.false_and]
      exact Ev.now _
def firstR (a b : Int) (l : List S38) : List Int × Int × Int :=
  if lcode a b l = 0 then (if (l.all fun c => holdsB a b [c]) = true then ((firstRun a b l l [] 0).1, (firstRun a b l l [] 0).2, 0) else ([], 0, 6)) else ([], 0, lcode a b l)
theorem impl_First_ev {a b : Int} (ha : -32768 ≤ a ∧ a ≤ 32767) (hb : -32768 ≤ b ∧ b ≤ 32767) (l : List S38) (hs : smallS l) (hl : l.length ≤ 1048576) : Ev (fun k => impl_FirstLines.f k a b l) (firstR a b l) := by
  unfold impl_FirstLines.f firstR impl_Line_fitAlone.f
  refine Ev.bind (lineCode_ev ha hb _ hs) ?_
  simp only [Option.bind_some]
  refine Ev.bind (firstOf2 _ _) ?_
  by_cases h : lcode a b l = 0
  · simp only [h, ↓reduceIte]
    by_cases hal : (l.all fun c => holdsB a b [c]) = true
    · simp only [hal, ↓reduceIte]
      exact impl_First_l0 a b l hl hal l [] rfl [] 0 rfl (Nat.le_refl _) (by simp)
    · simp only [hal, Bool.false_eq_true, ↓reduceIte, show ¬ (6 : Int) = 0 by omega]
      exact Ev.now _
  · simp only [h, ↓reduceIte]
    exact Ev.now _
theorem spec_First_ev {a b : Int} (ha : -32768 ≤ a ∧ a ≤ 32767) (hb : -32768 ≤ b ∧ b ≤ 32767) (l : List S38) (hs : smallS l) (hl : l.length ≤ 1048576) : Ev (fun k => spec_FirstLines.f k a b l) (firstR a b l) := by
  unfold spec_FirstLines.f firstR
  refine Ev.bind (l02Hung_ev ha hb _ hs hl) ?_
  by_cases h : lcode a b l = 0
  · simp only [h, ↓reduceIte]
    refine Ev.bind (alone_ev a b l hl) ?_
    refine Ev.step (fun k => by rw [spec_FirstLines.j0]) ?_
    cases hal : (l.all fun c => holdsB a b [c]) with
    | true =>
      simp only [Bool.not_true, Bool.false_eq_true, ↓reduceIte]
      refine Ev.step (fun k => by rw [spec_FirstLines.j1]) ?_
      simp only [↓reduceIte]
      exact spec_First_l0 a b l hl l [] rfl [] 0 rfl (Nat.le_refl _)
    | false =>
      simp only [Bool.not_false, Bool.false_eq_true, ↓reduceIte]
      refine Ev.step (fun k => by rw [spec_FirstLines.j1]) ?_
      simp only [show ¬ (6 : Int) = 0 by omega, ↓reduceIte]
      exact Ev.now _
  · simp only [h, ↓reduceIte]
    refine Ev.step (fun k => by rw [spec_FirstLines.j0]) ?_
    simp only [Bool.false_eq_true, ↓reduceIte]
    refine Ev.step (fun k => by rw [spec_FirstLines.j1]) ?_
    simp only [h, ↓reduceIte]
    exact Ev.now _
def checkR (a b : Int) (l : List S38) (ns : List Int) : Bool × Int := if lcode a b l = 0 then (linesRight a b l ns, 0) else (false, lcode a b l)
def fitsR (a b : Int) (l : List S38) : Bool × Int := if lcode a b l = 0 then (holdsB a b l, 0) else (false, lcode a b l)
theorem impl_Which_ev (ls : List S28) (hsl : smallL ls) (l : List S38) (hs : smallS l) (hl : l.length ≤ 1048576) : Ev (fun k => impl_WhichLine.f k ls l) (whichR ls l) := by
  unfold impl_WhichLine.f whichR
  have hall : ls.all (fun x => decide (-32768 ≤ x.f0 ∧ x.f0 ≤ 32767 ∧ -32768 ≤ x.f1 ∧ x.f1 ≤ 32767)) = true := by
    rw [List.all_eq_true]
    intro x hx
    exact decide_eq_true (hsl x hx)
  simp only [hall, ↓reduceIte]
  by_cases h : ls.all line_ok = true
  · simp only [h, ↓reduceIte]
    refine Ev.bind (clothCode_ev _ hs 7) ?_
    by_cases hc : codeOf l 7 = 0
    · simp only [hc, ↓reduceIte, hl]
      exact Ev.now _
    · simp only [hc, ↓reduceIte]
      exact Ev.now _
  · simp only [h, Bool.false_eq_true, ↓reduceIte]
    exact Ev.now _
theorem impl_Check_ev {a b : Int} (ha : -32768 ≤ a ∧ a ≤ 32767) (hb : -32768 ≤ b ∧ b ≤ 32767) (l : List S38) (hs : smallS l) (hl : l.length ≤ 1048576) (ns : List Int) : Ev (fun k => impl_CheckLines.f k a b l ns) (checkR a b l ns) := by
  unfold impl_CheckLines.f checkR
  refine Ev.bind (lineCode_ev ha hb _ hs) ?_
  by_cases h : lcode a b l = 0
  · simp only [h, ↓reduceIte, hl]
    exact Ev.now _
  · simp only [h, ↓reduceIte]
    exact Ev.now _
theorem impl_Fits_ev {a b : Int} (ha : -32768 ≤ a ∧ a ≤ 32767) (hb : -32768 ≤ b ∧ b ≤ 32767) (l : List S38) (hs : smallS l) (hl : l.length ≤ 1048576) : Ev (fun k => impl_FitsLine.f k a b l) (fitsR a b l) := by
  unfold impl_FitsLine.f fitsR
  refine Ev.bind (lineCode_ev ha hb _ hs) ?_
  by_cases h : lcode a b l = 0
  · simp only [h, ↓reduceIte, holdsw_eq _ _ _ hl, Option.bind_some]
    exact Ev.now _
  · simp only [h, ↓reduceIte]
    exact Ev.now _
def okPath (fit : List Int → Int → Bool) (most : Nat) : List Int → Nat → List Int → Prop
  | _, _, [] => True
  | o, u, x :: xs => ∃ k : Nat, x = (k : Int) ∧ k < min (u + 1) most ∧ fit o x = true ∧ okPath fit most (o ++ [x]) (max u (k + 1)) xs
def endU : Nat → List Int → Nat
  | u, [] => u
  | u, x :: xs => endU (max u (x.toNat + 1)) xs
theorem endU_ge : ∀ (xs : List Int) (u : Nat), u ≤ endU u xs
  | [], u => Nat.le_refl _
  | x :: xs, u => by
    have := endU_ge xs (max u (x.toNat + 1))
    rw [endU]
    omega
theorem hangLB_ok {step : Nat → Int → R4} : ∀ (r kk : Nat) (t : Int), (hangLB step r kk t).2.1 = true → ∃ k t', kk ≤ k ∧ k < kk + r ∧ hangLB step r kk t = step k t' ∧ (step k t').2.1 = true
  | 0, kk, t, h => by
    rw [hangLB] at h
    cases h
  | r + 1, kk, t, h => by
    rw [hangLB] at h ⊢
    by_cases hd : doneR (step kk t)
    · rw [if_pos hd] at h ⊢
      exact ⟨kk, t, Nat.le_refl _, by omega, rfl, h⟩
    · rw [if_neg hd] at h ⊢
      obtain ⟨k, t', h1, h2, h3, h4⟩ := hangLB_ok r (kk + 1) _ h
      exact ⟨k, t', by omega, by omega, h3, h4⟩
theorem hangB_path {fit : List Int → Int → Bool} {bud : Int} {most : Nat} : ∀ (d : Nat) (o : List Int) (u : Nat) (t : Int), (hangB fit bud most d o u t).2.1 = true →
    (hangB fit bud most d o u t).2.2.2 = false ∧ ∃ xs, (hangB fit bud most d o u t).1 = o ++ xs ∧ xs.length = d ∧ okPath fit most o u xs
  | 0, o, u, t, h => by
    rw [hangB]
    exact ⟨rfl, [], by simp, rfl, trivial⟩
  | d + 1, o, u, t, h => by
    rw [hangB] at h ⊢
    obtain ⟨k, t', h1, h2, h3, h4⟩ := hangLB_ok _ _ _ h
    rw [h3]
    by_cases hf : fit o (k : Int) = false
    · rw [if_pos hf] at h4
      cases h4
    · rw [if_neg hf] at h4 ⊢
      by_cases ht : t' = bud
      · rw [if_pos ht] at h4
        cases h4
      · rw [if_neg ht] at h4 ⊢
        obtain ⟨ho, xs, e1, e2, e3⟩ := hangB_path d _ _ _ h4
        refine ⟨ho, (k : Int) :: xs, by rw [e1]; simp, by simp [e2], k, rfl, by omega, by simpa using hf, e3⟩
theorem path_done {fit : List Int → Int → Bool} {bud : Int} {most : Nat} : ∀ (d : Nat) (xs : List Int) (o : List Int) (u : Nat) (t : Int), xs.length = d → okPath fit most o u xs → doneR (hangB fit bud most d o u t)
  | 0, xs, o, u, t, _, _ => by
    rw [hangB]
    exact Or.inl rfl
  | d + 1, [], o, u, t, hl, _ => by simp at hl
  | d + 1, x :: xs, o, u, t, hl, hp => by
    obtain ⟨k, rfl, hk, hf, hp⟩ := hp
    rw [hangB]
    refine hangLB_done _ 0 t k (Nat.zero_le _) (by omega) (fun t' => ?_)
    rw [if_neg (by rw [hf]; decide)]
    split
    · exact Or.inr rfl
    · exact path_done d xs _ _ _ (by simpa using hl) hp
def GoodS (d : Nat) (f : Int → Int → R4) : Prop := ∀ B t, t ≤ B → (f B t).2.2.2 = false →
  t ≤ (f B t).2.2.1 ∧ (f B t).2.2.1 ≤ B ∧ ((f B t).2.1 = true → t + (d : Int) ≤ (f B t).2.2.1) ∧ (∀ B', (f B t).2.2.1 ≤ B' → f B' t = f B t) ∧
  (∀ B', t ≤ B' → B' < (f B t).2.2.1 → (f B' t).2.1 = false ∧ (f B' t).2.2.2 = true)
theorem good_loop {d : Nat} {step : Int → Nat → Int → R4} (h : ∀ k, GoodS d (fun B t => step B k t)) : ∀ r kk, GoodS d (fun B t => hangLB (step B) r kk t)
  | 0, kk => by
    intro B t htB hov
    refine ⟨Int.le_refl t, htB, fun h => absurd (show false = true from h) (by decide), fun _ _ => rfl, fun B' h1 h2 => ?_⟩
    have h2' : B' < t := h2
    omega
  | r + 1, kk => by
    intro B t htB hov
    simp only [hangLB] at hov ⊢
    by_cases hd : doneR (step B kk t)
    · rw [if_pos hd] at hov
      simp only [if_pos hd]
      obtain ⟨g1, g2, g3, g4, g5⟩ := h kk B t htB hov
      refine ⟨g1, g2, g3, fun B' hB => ?_, fun B' h1 h2 => ?_⟩
      · have e : step B' kk t = step B kk t := g4 B' hB
        rw [e, if_pos hd]
      · have e : (step B' kk t).2.1 = false ∧ (step B' kk t).2.2.2 = true := g5 B' h1 h2
        have e' : doneR (step B' kk t) := Or.inr e.2
        rw [if_pos e']
        exact e
    · rw [if_neg hd] at hov
      simp only [if_neg hd]
      have ho : (step B kk t).2.2.2 = false := by
        cases hx : (step B kk t).2.2.2 with
        | true => exact absurd (Or.inr hx) hd
        | false => rfl
      obtain ⟨g1, g2, g3, g4, g5⟩ := h kk B t htB ho
      obtain ⟨i1, i2, i3, i4, i5⟩ := good_loop h r (kk + 1) B _ g2 hov
      simp only at g1 g2 g3 g4 g5 i1 i2 i3 i4 i5
      refine ⟨by omega, i2, fun hs => by have := i3 hs; omega, fun B' hB => ?_, fun B' h1 h2 => ?_⟩
      · have e : step B' kk t = step B kk t := g4 B' (by omega)
        rw [e, if_neg hd]
        exact i4 B' hB
      · by_cases hc : (step B kk t).2.2.1 ≤ B'
        · have e : step B' kk t = step B kk t := g4 B' hc
          rw [e, if_neg hd]
          exact i5 B' hc h2
        · have e : (step B' kk t).2.1 = false ∧ (step B' kk t).2.2.2 = true := g5 B' h1 (by omega)
          have e' : doneR (step B' kk t) := Or.inr e.2
          rw [if_pos e']
          exact e
theorem good_hang (fit : List Int → Int → Bool) (most : Nat) : ∀ (d : Nat) (o : List Int) (u : Nat), GoodS d (fun B t => hangB fit B most d o u t)
  | 0, o, u => by
    intro B t htB hov
    refine ⟨Int.le_refl t, htB, fun _ => Int.le_of_eq (Int.add_zero t), fun _ _ => rfl, fun B' h1 h2 => ?_⟩
    have h2' : B' < t := h2
    omega
  | d + 1, o, u => by
    have hstep : ∀ k : Nat, GoodS (d + 1) (fun B t => if fit o (k : Int) = false then (([], false, t, false) : R4) else if t = B then ([], false, t, true) else hangB fit B most d (o ++ [(k : Int)]) (max u (k + 1)) (t + 1)) := by
      intro k B t htB hov
      by_cases hf : fit o (k : Int) = false
      · have e : ∀ B', (if fit o (k : Int) = false then (([], false, t, false) : R4) else if t = B' then ([], false, t, true) else hangB fit B' most d (o ++ [(k : Int)]) (max u (k + 1)) (t + 1)) = ([], false, t, false) := fun B' => if_pos hf
        simp only [e]
        refine ⟨Int.le_refl t, htB, fun h => absurd (show false = true from h) (by decide), fun _ _ => trivial, fun B' h1 h2 => ?_⟩
        have h2' : B' < t := h2
        omega
      · simp only [if_neg hf] at hov ⊢
        by_cases ht : t = B
        · rw [if_pos ht] at hov
          cases hov
        · simp only [if_neg ht] at hov ⊢
          obtain ⟨i1, i2, i3, i4, i5⟩ := good_hang fit most d (o ++ [(k : Int)]) (max u (k + 1)) B (t + 1) (by omega) hov
          simp only at i1 i2 i3 i4 i5
          refine ⟨by omega, i2, fun hs => by have := i3 hs; omega, fun B' hB => ?_, fun B' h1 h2 => ?_⟩
          · rw [if_neg (by omega)]
            exact i4 B' hB
          · by_cases hc : t = B'
            · rw [if_pos hc]
              exact ⟨rfl, rfl⟩
            · rw [if_neg hc]
              exact i5 B' (by omega) h2
    have := good_loop (step := fun B k t => if fit o (k : Int) = false then (([], false, t, false) : R4) else if t = B then ([], false, t, true) else hangB fit B most d (o ++ [(k : Int)]) (max u (k + 1)) (t + 1)) hstep (min (u + 1) most) 0
    intro B t htB hov
    simp only [hangB] at hov ⊢
    exact this B t htB hov
theorem good_M {S : Int → Nat → Int → R4} {d : Nat} (h : ∀ m, GoodS d (fun B t => S B m t)) (hno : ∀ B m t, (S B m t).2.1 = true → (S B m t).2.2.2 = false) : ∀ (r m : Nat) (B t : Int), t ≤ B → (hangMB (S B) r m t).2.2 = 0 →
    ∃ m' t', m ≤ m' ∧ (S B m' t').2.1 = true ∧ hangMB (S B) r m t = ((S B m' t').1, (S B m' t').2.2.1, 0) ∧ (∀ q, m ≤ q → q < m' → ∃ t'', ¬ doneR (S B q t'')) ∧
    t + (d : Int) ≤ (S B m' t').2.2.1 ∧ (S B m' t').2.2.1 ≤ B ∧ (∀ B', (S B m' t').2.2.1 ≤ B' → hangMB (S B') r m t = hangMB (S B) r m t) ∧
    (∀ B', t ≤ B' → B' < (S B m' t').2.2.1 → (hangMB (S B') r m t).2.2 = 7)
  | 0, m, B, t, htB, hz => by
    rw [hangMB] at hz
    by_cases hs : (S B m t).2.1 = true
    · obtain ⟨g1, g2, g3, g4, g5⟩ := h m B t htB (hno _ _ _ hs)
      refine ⟨m, t, Nat.le_refl _, hs, by rw [hangMB, if_pos hs], fun q h1 h2 => by omega, g3 hs, g2, fun B' hB => ?_, fun B' h1 h2 => ?_⟩
      · have e : S B' m t = S B m t := g4 B' hB
        rw [hangMB, hangMB, e]
      · have e : (S B' m t).2.1 = false ∧ (S B' m t).2.2.2 = true := g5 B' h1 h2
        rw [hangMB, if_neg (by rw [e.1]; decide)]
    · rw [if_neg hs] at hz
      exact absurd hz (by decide)
  | r + 1, m, B, t, htB, hz => by
    rw [hangMB] at hz
    by_cases hs : (S B m t).2.1 = true
    · obtain ⟨g1, g2, g3, g4, g5⟩ := h m B t htB (hno _ _ _ hs)
      refine ⟨m, t, Nat.le_refl _, hs, by rw [hangMB, if_pos hs], fun q h1 h2 => by omega, g3 hs, g2, fun B' hB => ?_, fun B' h1 h2 => ?_⟩
      · have e : S B' m t = S B m t := g4 B' hB
        rw [hangMB, hangMB, e, if_pos hs, if_pos hs]
      · have e : (S B' m t).2.1 = false ∧ (S B' m t).2.2.2 = true := g5 B' h1 h2
        rw [hangMB, if_neg (by rw [e.1]; decide), if_pos e.2]
    · rw [if_neg hs] at hz
      by_cases ho : (S B m t).2.2.2 = true
      · rw [if_pos ho] at hz
        exact absurd hz (by decide)
      · rw [if_neg ho] at hz
        obtain ⟨g1, g2, g3, g4, g5⟩ := h m B t htB (by simpa using ho)
        simp only at g1 g2 g3 g4 g5
        obtain ⟨m', t', i1, i2, i3, i4, i5, i6, i7, i8⟩ := good_M h hno r (m + 1) B _ g2 hz
        refine ⟨m', t', by omega, i2, by rw [hangMB, if_neg hs, if_neg ho]; exact i3, fun q h1 h2 => ?_, by omega, i6, fun B' hB => ?_, fun B' h1 h2 => ?_⟩
        · by_cases hq : q = m
          · subst hq
            exact ⟨t, fun hd => hd.elim hs ho⟩
          · exact i4 q (by omega) h2
        · have e : S B' m t = S B m t := g4 B' (by omega)
          rw [hangMB, hangMB, e, if_neg hs, if_neg ho, if_neg hs, if_neg ho]
          exact i7 B' hB
        · by_cases hc : (S B m t).2.2.1 ≤ B'
          · have e : S B' m t = S B m t := g4 B' hc
            rw [hangMB, e, if_neg hs, if_neg ho]
            exact i8 B' hc h2
          · have e : (S B' m t).2.1 = false ∧ (S B' m t).2.2.2 = true := g5 B' h1 (by omega)
            rw [hangMB, if_neg (by rw [e.1]; decide), if_pos e.2]
theorem zip_snoc (x : Int) : ∀ (o : List Int) (l : List S38), o.length < l.length → List.zip (o ++ [x]) l = List.zip o l ++ [(x, rd_T38 l (o.length : Int))]
  | [], [], h => by simp at h
  | [], c :: cs, _ => by simp [rd_T38]
  | y :: o, [], h => by simp at h
  | y :: o, c :: cs, h => by
    have := zip_snoc x o cs (by simpa using h)
    rw [List.cons_append, List.zip_cons_cons, List.zip_cons_cons, this]
    simp [rd_T38]
theorem withB_snoc (l : List S38) (o : List Int) (x k : Int) (h : o.length < l.length) : withB l (o ++ [x]) k = withB l o k ++ (if x = k then [rd_T38 l (o.length : Int)] else []) := by
  unfold withB
  rw [zip_snoc x o l h, List.filter_append, List.map_append]
  congr 1
  by_cases hx : x = k
  · simp [hx]
  · simp [hx]
theorem path_holds (a b : Int) (l : List S38) (most : Nat) : ∀ (xs o : List Int) (u : Nat), okPath (fitO a b l) most o u xs → o.length + xs.length ≤ l.length → (∀ k ∈ o, holdsB a b (withB l o k) = true) → ∀ k ∈ o ++ xs, holdsB a b (withB l (o ++ xs) k) = true
  | [], o, u, _, _, h => by simpa using h
  | x :: xs, o, u, hp, hl, h => by
    obtain ⟨k, rfl, hk, hf, hp⟩ := hp
    rw [List.length_cons] at hl
    have := path_holds a b l most xs (o ++ [(k : Int)]) _ hp (by simp; omega) (fun j hj => ?_)
    · rw [show o ++ (k : Int) :: xs = (o ++ [(k : Int)]) ++ xs by simp]
      exact this
    · rw [withB_snoc l o _ _ (by omega)]
      by_cases he : (k : Int) = j
      · rw [if_pos he, ← he]
        exact hf
      · rw [if_neg he, List.append_nil]
        rcases List.mem_append.1 hj with hj | hj
        · exact h j hj
        · rw [List.mem_singleton] at hj
          exact absurd hj.symm he
theorem path_range {fit : List Int → Int → Bool} {most : Nat} : ∀ (xs o : List Int) (u : Nat), okPath fit most o u xs → (∀ x ∈ xs, 0 ≤ x ∧ x < (most : Int)) ∧ endU u xs ≤ max u most
  | [], o, u, _ => ⟨fun x h => (by cases h), by simp only [endU]; omega⟩
  | x :: xs, o, u, hp => by
    obtain ⟨k, rfl, hk, hf, hp⟩ := hp
    obtain ⟨h1, h2⟩ := path_range xs _ _ hp
    refine ⟨fun y hy => ?_, ?_⟩
    · rcases List.mem_cons.1 hy with rfl | hy
      · omega
      · exact h1 y hy
    · rw [endU, Int.toNat_natCast]
      omega
theorem findK_spec (p : Int → Bool) : ∀ (d k : Nat), p (findK p d k : Int) = true ∨ findK p d k = k + d
  | 0, k => .inr rfl
  | d + 1, k => by
    rw [findK]
    split
    · exact .inl (by assumption)
    · rcases findK_spec p d (k + 1) with h | h
      · exact .inl h
      · exact .inr (by omega)
theorem first_ge (a b : Int) (l : List S38) : ∀ (cs : List S38) (out : List Int) (m : Nat), (m : Int) ≤ (firstRun a b l cs out m).2 ∧ (firstRun a b l cs out m).2 ≤ (m : Int) + cs.length
  | [], out, m => by simp [firstRun]
  | c :: cs, out, m => by
    have := first_ge a b l cs (out ++ [((findK (fit a b l out c) m 0 : Nat) : Int)]) (max m (findK (fit a b l out c) m 0 + 1))
    have hk := findK_le (fit a b l out c) m 0
    rw [firstRun, List.length_cons]
    omega
theorem first_path (a b : Int) (l : List S38) (hal : l.all (fun c => holdsB a b [c]) = true) (most : Nat) : ∀ (cs pre : List S38) (out : List Int) (m : Nat), l = pre ++ cs → out.length = pre.length → (∀ x ∈ out, x < (m : Int)) → (firstRun a b l cs out m).2 ≤ (most : Int) →
    ∃ xs, (firstRun a b l cs out m).1 = out ++ xs ∧ xs.length = cs.length ∧ okPath (fitO a b l) most out m xs
  | [], pre, out, m, _, _, _, _ => ⟨[], by simp [firstRun], rfl, trivial⟩
  | c :: cs, pre, out, m, hpre, ho, hx, hm => by
    have hk := findK_le (fit a b l out c) m 0
    have hsp := findK_spec (fit a b l out c) m 0
    have hg := first_ge a b l cs (out ++ [((findK (fit a b l out c) m 0 : Nat) : Int)]) (max m (findK (fit a b l out c) m 0 + 1))
    rw [firstRun] at hm ⊢
    obtain ⟨xs, e1, e2, e3⟩ := first_path a b l hal most cs (pre ++ [c]) _ _ (by rw [hpre]; simp) (by simp [ho]) (out_lt out m _ hx) hm
    have hc : rd_T38 l (out.length : Int) = c := by rw [hpre, ho]; exact rdm pre c cs
    refine ⟨_ :: xs, by rw [e1, List.append_assoc]; rfl, by simp [e2], _, rfl, by omega, ?_, e3⟩
    unfold fitO
    rw [hc]
    rcases hsp with h | h
    · exact h
    · rw [withB_none l out _ (fun x h' => by have := hx x h'; omega)]
      exact List.all_eq_true.mp hal c (by rw [hpre]; simp)
def grows : Nat → List Int → Bool
  | _, [] => true
  | u, x :: xs => decide (0 ≤ x ∧ x ≤ (u : Int)) && grows (max u (x.toNat + 1)) xs
theorem path_grows {fit : List Int → Int → Bool} {most : Nat} : ∀ (xs o : List Int) (u : Nat), okPath fit most o u xs → grows u xs = true
  | [], _, _, _ => rfl
  | _ :: xs, _, _, ⟨k, rfl, hk, hf, hp⟩ => by
    rw [grows, Bool.and_eq_true, decide_eq_true_eq, Int.toNat_natCast]
    exact ⟨by omega, path_grows xs _ _ hp⟩
theorem path_right {a b : Int} {l : List S38} {most : Nat} (hm : most ≤ 7) {xs : List Int} (hx : xs.length = l.length) (hp : okPath (fitO a b l) most [] 0 xs) : linesRight a b l xs = true := by
  unfold linesRight
  rw [Bool.and_eq_true, Bool.and_eq_true, decide_eq_true_eq, List.all_eq_true, List.all_eq_true]
  refine ⟨⟨hx, fun x h => ?_⟩, fun x h => ?_⟩
  · have := (path_range xs [] 0 hp).1 x h
    exact decide_eq_true (by omega)
  · have := path_holds a b l most xs [] 0 hp (by simp; omega) (fun k hk => by cases hk)
    simpa using this x (by simpa using h)
theorem few_says {a b : Int} {l : List S38} (hal : l.all (fun c => holdsB a b [c]) = true) (hl : l.length ≤ 7) (B : Int) (hB : 0 ≤ B) (hz : (hangMB (fewSB a b l B) l.length 0 0).2.2 = 0) :
    ∃ (xs : List Int) (T : Int), hangMB (fewSB a b l B) l.length 0 0 = (xs, T, 0) ∧ xs.length = l.length ∧ linesRight a b l xs = true ∧ grows 0 xs = true ∧ (endU 0 xs : Int) ≤ (firstRun a b l l [] 0).2 ∧
    (l.length : Int) ≤ T ∧ T ≤ B ∧ hangMB (fewSB a b l T) l.length 0 0 = (xs, T, 0) ∧ (0 < T → (hangMB (fewSB a b l (T - 1)) l.length 0 0).2.2 = 7) := by
  have hg : ∀ m, GoodS l.length (fun B t => fewSB a b l B m t) := fun m => good_hang (fitO a b l) m l.length [] 0
  obtain ⟨m, t, h1, h2, h3, h4, h5, h6, h7, h8⟩ := good_M (S := fewSB a b l) hg (fun B m t h => (hangB_path l.length [] 0 t h).1) l.length 0 B 0 hB hz
  obtain ⟨_, xs, e1, e2, e3⟩ := hangB_path l.length [] 0 t h2
  obtain ⟨ys, f1, f2, f3⟩ := first_path a b l hal (firstRun a b l l [] 0).2.toNat l [] [] 0 (by simp) rfl (fun x h => by cases h) (by have := first_ge a b l l [] 0; omega)
  have hfl := first_ge a b l l [] 0
  have hm : (m : Int) ≤ (firstRun a b l l [] 0).2 := by
    by_cases hc : (m : Int) ≤ (firstRun a b l l [] 0).2
    · exact hc
    · obtain ⟨t'', hn⟩ := h4 (firstRun a b l l [] 0).2.toNat (by omega) (by omega)
      exact absurd (path_done l.length ys [] 0 t'' f2 f3) hn
  have hxs : (fewSB a b l B m t).1 = xs := by rw [show fewSB a b l B m t = hangB (fitO a b l) B m l.length [] 0 t from rfl, e1]; simp
  have hr := path_range xs [] 0 e3
  refine ⟨xs, (fewSB a b l B m t).2.2.1, by rw [h3, hxs], e2, path_right (by omega) e2 e3, path_grows xs [] 0 e3, by have := hr.2; omega, by omega, h6, ?_, fun h0 => h8 _ (by omega) (by omega)⟩
  rw [h7 _ (Int.le_refl _), h3, hxs]
def bytesB (s : List Int) : Prop := ∀ x ∈ s, 0 ≤ x ∧ x ≤ 255
theorem bits255 (x : Int) (h0 : 0 ≤ x) (h1 : x < 18446744073709551616) : 0 ≤ Go.bits .and .u64 x 255 ∧ Go.bits .and .u64 x 255 ≤ 255 := by
  rw [u64_and x 255 h0 h1 (by decide) (by decide)]
  have : x.toNat &&& (255 : Int).toNat ≤ 255 := Nat.and_le_right
  omega
theorem rd_byte {s : List Int} (hb : bytesB s) (i : Int) : 0 ≤ rd s i ∧ rd s i ≤ 255 := by
  unfold rd
  rw [List.getD_eq_getElem?_getD]
  cases h : s[i.toNat]? with
  | none => simp
  | some x => exact hb x (List.mem_of_getElem? h)
theorem u64w (x : Int) : 0 ≤ IntKind.u64.wrap x ∧ IntKind.u64.wrap x < 18446744073709551616 := by
  rw [IntKind.wrap_u64]; omega
theorem next_ok (s : List Int) (hb : bytesB s) (at_ sd : Int) (h0 : 0 ≤ at_) (h1 : at_ ≤ 100000) : ∃ v sd', spec_l00Src_next.f s at_ sd = some (v, at_ + 1, sd') ∧ 0 ≤ v ∧ v ≤ 255 := by
  have hw : wrap64 (at_ + 1) = at_ + 1 := by unfold wrap64; omega
  have small : ∀ v : Int, 0 ≤ v → v ≤ 255 → wrap64 v = v := fun v a b => by unfold wrap64; omega
  have hbits : ∀ z : Int, 0 ≤ wrap64 (Go.bits .and .u64 (IntKind.u64.wrap z / 1099511627776) 255) ∧ wrap64 (Go.bits .and .u64 (IntKind.u64.wrap z / 1099511627776) 255) ≤ 255 := fun z => by
    have hz := u64w z
    have := bits255 (IntKind.u64.wrap z / 1099511627776) (by omega) (by omega)
    rw [small _ this.1 this.2]
    exact this
  unfold spec_l00Src_next.f
  rw [hw]
  by_cases hl : at_ < (s.length : Int)
  · have hr := rd_byte hb at_
    rw [if_pos hl, if_pos h0]
    by_cases hm : at_ + 1 ≤ (s.length : Int)
    · rw [if_pos hm]
      exact ⟨_, _, rfl, by rw [small _ hr.1 hr.2]; exact hr.1, by rw [small _ hr.1 hr.2]; exact hr.2⟩
    · rw [if_neg hm]
      exact ⟨_, _, rfl, (hbits _).1, (hbits _).2⟩
  · rw [if_neg hl]
    by_cases hm : at_ + 1 ≤ (s.length : Int)
    · rw [if_pos hm]
      exact ⟨_, _, rfl, by decide, by decide⟩
    · rw [if_neg hm]
      exact ⟨_, _, rfl, (hbits _).1, (hbits _).2⟩
theorem pick_ok (s : List Int) (hb : bytesB s) (at_ sd n : Int) (h0 : 0 ≤ at_) (h1 : at_ ≤ 90000) (hn : 1 ≤ n) (hn2 : n ≤ 60000) : ∃ v a sd', spec_l00Src_pick.f s at_ sd n = some (v, a, sd') ∧ 0 ≤ v ∧ v < n ∧ at_ ≤ a ∧ a ≤ at_ + 2 := by
  unfold spec_l00Src_pick.f
  by_cases h : n ≤ 1
  · rw [if_pos h]
    exact ⟨_, _, _, rfl, by omega, by omega, by omega, by omega⟩
  · rw [if_neg h]
    obtain ⟨v, sd1, e1, v0, v1⟩ := next_ok s hb at_ sd h0 (by omega)
    rw [e1]
    simp only [Option.bind_some]
    by_cases h2 : n > 200
    · obtain ⟨v2, sd2, e2, w0, w1⟩ := next_ok s hb (at_ + 1) sd1 (by omega) (by omega)
      have hx : wrap64 (wrap64 (v * 256) + v2) = v * 256 + v2 := by unfold wrap64; omega
      simp only [h2, ↓reduceIte, e2, Option.bind_some, show ¬ n = 0 by omega, hx]
      refine ⟨_, _, _, rfl, ?_, ?_, by omega, by omega⟩
      · rw [Int.tmod_eq_emod_of_nonneg (by omega)]; exact Int.emod_nonneg _ (by omega)
      · rw [Int.tmod_eq_emod_of_nonneg (by omega)]; exact Int.emod_lt_of_pos _ (by omega)
    · simp only [h2, ↓reduceIte, show ¬ n = 0 by omega]
      refine ⟨_, _, _, rfl, ?_, ?_, by omega, by omega⟩
      · rw [Int.tmod_eq_emod_of_nonneg (by omega)]; exact Int.emod_nonneg _ (by omega)
      · rw [Int.tmod_eq_emod_of_nonneg (by omega)]; exact Int.emod_lt_of_pos _ (by omega)
def goodC (c : S38) : Bool := decide (4 ≤ c.f0 ∧ c.f0 ≤ 63 ∧ 10 ≤ c.f1 ∧ c.f1 ≤ 99)
theorem i16_small (x : Int) (h0 : 0 ≤ x) (h1 : x ≤ 20000) : IntKind.i16.wrap (wrap64 x) = x := by
  have h : wrap64 x = x := by unfold wrap64; omega
  rw [h]; simp [IntKind.wrap, IntKind.bits, IntKind.signed]; omega
theorem drawn_l0 (s : List Int) (hb : bytesB s) : ∀ (n : Nat) (x : List S38) (a sd : Int), 0 ≤ a → a + 4 * n ≤ 80000 → n + x.length ≤ 100 → ∃ (L : List S38) (a' sd' : Int), Ev (fun k => spec_l02Drawn.l0 k x (n : Int) s a sd) (x ++ L, a', sd') ∧ L.length = n ∧ L.all goodC = true := by
  intro n
  induction n with
  | zero =>
    intro x a sd h0 h1 h2
    refine ⟨[], a, sd, Ev.step (fun k => by rw [spec_l02Drawn.l0]) ?_, rfl, rfl⟩
    simp only [show ¬ ((0 : Nat) : Int) > 0 by omega, ↓reduceIte, List.append_nil]
    exact Ev.now _
  | succ n ih =>
    intro x a sd h0 h1 h2
    obtain ⟨v, a1, sd1, e1, v0, v1, w0, w1⟩ := pick_ok s hb a sd 60 h0 (by omega) (by omega) (by omega)
    obtain ⟨u, a2, sd2, e2, u0, u1, z0, z1⟩ := pick_ok s hb a1 sd1 90 (by omega) (by omega) (by omega) (by omega)
    have hc : (⟨IntKind.i16.wrap (wrap64 (4 + v)), IntKind.i16.wrap (wrap64 (10 + u))⟩ : S38) = ⟨4 + v, 10 + u⟩ := by rw [i16_small _ (by omega) (by omega), i16_small _ (by omega) (by omega)]
    obtain ⟨L, a', sd', hev, hl, hg⟩ := ih (x ++ [⟨4 + v, 10 + u⟩]) a2 sd2 (by omega) (by omega) (by simp; omega)
    refine ⟨⟨4 + v, 10 + u⟩ :: L, a', sd', Ev.step (fun k => by rw [spec_l02Drawn.l0]) ?_, by simp [hl], ?_⟩
    · simp only [show ((n + 1 : Nat) : Int) > 0 by omega, ↓reduceIte, e1, e2, Option.bind_some, show x.length < 35184372088832 by omega, hc, show wrap64 (((n + 1 : Nat) : Int) - 1) = (n : Int) by unfold wrap64; omega]
      rw [show x ++ (⟨4 + v, 10 + u⟩ : S38) :: L = x ++ [⟨4 + v, 10 + u⟩] ++ L by simp]
      exact hev
    · rw [List.all_cons, hg, Bool.and_true]
      exact decide_eq_true (by simp only []; omega)
theorem Drawn_ok (s : List Int) (hb : bytesB s) (m : Nat) (hm : m ≤ 50) : ∃ (L : List S38) (a' sd' : Int), Ev (fun k => spec_l02Drawn.f k s 0 0 (m : Int)) (L, a', sd') ∧ L.length ≤ m ∧ L.all goodC = true := by
  obtain ⟨v, a1, sd1, e1, v0, v1, w0, w1⟩ := pick_ok s hb 0 0 ((m : Int) + 1) (by omega) (by omega) (by omega) (by omega)
  obtain ⟨n, rfl⟩ : ∃ n : Nat, v = (n : Int) := ⟨v.toNat, by omega⟩
  obtain ⟨L, a', sd', hev, hl, hg⟩ := drawn_l0 s hb n [] a1 sd1 (by omega) (by omega) (by rw [List.length_nil]; omega)
  rw [List.nil_append] at hev
  refine ⟨L, a', sd', ?_, by omega, hg⟩
  have hw : wrap64 ((m : Int) + 1) = (m : Int) + 1 := by unfold wrap64; omega
  have hf : ∀ k, spec_l02Drawn.f k s 0 0 (m : Int) = spec_l02Drawn.l0 k [] (n : Int) s a1 sd1 := fun k => by
    unfold spec_l02Drawn.f
    rw [hw, e1, Option.bind_some]
  simp only [hf]
  exact hev
theorem A2Cloths_ok (s : List Int) (hb : bytesB s) (m : Nat) (hm : m ≤ 50) : ∃ L : List S38, Ev (fun k => spec_A2Cloths.f k s (m : Int)) L ∧ L.length ≤ m ∧ L.all goodC = true := by
  obtain ⟨L, a', sd', hev, hl, hg⟩ := Drawn_ok s hb m hm
  refine ⟨L, ?_, hl, hg⟩
  have hf : ∀ k, spec_A2Cloths.f k s (m : Int) = (spec_l02Drawn.f k s 0 0 (m : Int)).bind fun bt129 => some bt129.1 := fun k => by
    unfold spec_A2Cloths.f spec_l00From.f
    rw [Option.bind_some]
  simp only [hf]
  exact Ev.bind hev (Ev.now _)
theorem A2Line_ok (s : List Int) (hb : bytesB s) : ∃ a b : Int, spec_A2Line.f s = some (a, b) ∧ 64 ≤ a ∧ a ≤ 213 ∧ 100 ≤ b ∧ b ≤ 399 := by
  obtain ⟨v, a1, sd1, e1, v0, v1, w0, w1⟩ := pick_ok s hb 0 0 150 (by omega) (by omega) (by omega) (by omega)
  obtain ⟨u, a2, sd2, e2, u0, u1, z0, z1⟩ := pick_ok s hb a1 sd1 300 (by omega) (by omega) (by omega) (by omega)
  refine ⟨64 + v, 100 + u, ?_, by omega, by omega, by omega, by omega⟩
  unfold spec_A2Line.f spec_l00From.f
  simp only [Option.bind_some, e1, e2]
  rw [i16_small _ (by omega) (by omega), i16_small _ (by omega) (by omega)]
theorem good_ok {l : List S38} (h : l.all goodC = true) : l.all cloth_ok = true := by
  rw [List.all_eq_true] at h ⊢
  intro x hx
  have := of_decide_eq_true (h x hx)
  unfold cloth_ok
  rw [Bool.and_eq_true, decide_eq_true_eq, decide_eq_true_eq]
  omega
theorem ok_small {l : List S38} (h : l.all cloth_ok = true) : smallS l := by
  rw [List.all_eq_true] at h
  intro x hx
  have := h x hx
  unfold cloth_ok at this
  rw [Bool.and_eq_true, decide_eq_true_eq, decide_eq_true_eq] at this
  omega
theorem ok_code {l : List S38} (h : l.all cloth_ok = true) {n : Int} (hl : (l.length : Int) ≤ n) : codeOf l n = 0 := by
  unfold codeOf
  rw [if_pos h, if_pos hl]
theorem ok_lcode {l : List S38} (h : l.all cloth_ok = true) (hl : l.length ≤ 7) {a b : Int} (ha : 64 ≤ a ∧ a ≤ 213) (hb : 100 ≤ b ∧ b ≤ 399) : lcode a b l = 0 := by
  unfold lcode lineB
  rw [if_pos (by rw [Bool.and_eq_true, decide_eq_true_eq, decide_eq_true_eq]; omega), ok_code h (by omega)]
theorem Same_l0 (l : List Int) (hl : l.length ≤ 1048576) : ∀ (cs pre : List Int), l = pre ++ cs → Ev (fun k => spec_l00Same.l0 k l l (pre.length : Int)) true := by
  intro cs
  induction cs with
  | nil =>
    intro pre hpre
    refine Ev.step (fun k => by rw [spec_l00Same.l0]) ?_
    have : l.length = pre.length := by rw [hpre]; simp
    simp only [show ¬ (pre.length : Int) < (l.length : Int) by omega, ↓reduceIte]
    exact Ev.now _
  | cons c cs ih =>
    intro pre hpre
    have hlen : l.length = pre.length + cs.length + 1 := by rw [hpre]; simp; omega
    have hnext := ih (pre ++ [c]) (by rw [hpre]; simp)
    simp only [List.length_append, List.length_cons, List.length_nil, Nat.zero_add] at hnext
    refine Ev.step (fun k => by rw [spec_l00Same.l0]) ?_
    simp only [show (pre.length : Int) < (l.length : Int) by omega, show (0 : Int) ≤ (pre.length : Int) by omega, ↓reduceIte, wsuc (show pre.length < l.length by omega) hl]
    exact hnext
theorem Same_ev (l : List Int) (hl : l.length ≤ 1048576) : Ev (fun k => spec_A2Same.f k l l) true := by
  unfold spec_A2Same.f spec_l00Same.f
  simp only [↓reduceIte]
  exact Ev.bind (Same_l0 l hl l [] rfl) (Ev.now _)
theorem u8_bytes {l : List Int} (w : ∀ x ∈ l, (Lit.int .u8 x).wf = true) : bytesB l := fun x hx => bounds_u8 (w x hx)
theorem fits_ev {a b : Int} (ha : -32768 ≤ a ∧ a ≤ 32767) (hb : -32768 ≤ b ∧ b ≤ 32767) {l : List S38} (hg : l.all cloth_ok = true) (hl : l.length ≤ 7) (hn : lineB a b = true) : Ev (fun k => impl_FitsLine.f k a b l) (holdsB a b l, 0) := by
  have := impl_Fits_ev ha hb l (ok_small hg) (by omega)
  rwa [fitsR, if_pos (by unfold lcode; rw [if_pos hn]; exact ok_code hg (by omega))] at this
theorem check_ev {a b : Int} (ha : -32768 ≤ a ∧ a ≤ 32767) (hb : -32768 ≤ b ∧ b ≤ 32767) {l : List S38} (hg : l.all cloth_ok = true) (hl : l.length ≤ 7) (hn : lineB a b = true) (ns : List Int) : Ev (fun k => impl_CheckLines.f k a b l ns) (linesRight a b l ns, 0) := by
  have := impl_Check_ev ha hb l (ok_small hg) (by omega) ns
  rwa [checkR, if_pos (by unfold lcode; rw [if_pos hn]; exact ok_code hg (by omega))] at this
theorem far_l0 {a b : Int} (ha : -32768 ≤ a ∧ a ≤ 32767) (hb : -32768 ≤ b ∧ b ≤ 32767) {L : List S38} (hg : L.all cloth_ok = true) (hl : L.length ≤ 7) (hn : lineB a b = true) : ∀ (cs pre : List S38), L = pre ++ cs → ∀ far : Bool,
    Ev (fun k => laws_FnLines.l0 k L far (pre.length : Int) a b) (far || !(cs.all fun c => holdsB a b [c])) := by
  intro cs
  induction cs with
  | nil =>
    intro pre hpre far
    refine Ev.step (fun k => by rw [laws_FnLines.l0]) ?_
    have : L.length = pre.length := by rw [hpre]; simp
    simp only [show ¬ (pre.length : Int) < (L.length : Int) by omega, ↓reduceIte, List.all_nil, Bool.not_true, Bool.or_false]
    exact Ev.now _
  | cons c cs ih =>
    intro pre hpre far
    have hlen : L.length = pre.length + cs.length + 1 := by rw [hpre]; simp; omega
    have hc : rd_T38 L (pre.length : Int) = c := by rw [hpre]; exact rdm pre c cs
    have hnext := ih (pre ++ [c]) (by rw [hpre]; simp)
    simp only [List.length_append, List.length_cons, List.length_nil, Nat.zero_add] at hnext
    have hgc : [c].all cloth_ok = true := by
      rw [List.all_eq_true] at hg ⊢
      intro x hx
      exact hg x (by rw [hpre]; simp_all)
    refine Ev.step (fun k => by rw [laws_FnLines.l0]) ?_
    simp only [show (pre.length : Int) < (L.length : Int) by omega, show (0 : Int) ≤ (pre.length : Int) by omega, ↓reduceIte, hc, wsuc (show pre.length < L.length by omega) (by omega : L.length ≤ 1048576)]
    refine Ev.bind (fits_ev ha hb hgc (by simp) hn) ?_
    simp only [↓reduceIte, List.all_cons]
    cases far with
    | true =>
      simp only [↓reduceIte, Bool.true_or]
      have := hnext true
      rwa [Bool.true_or] at this
    | false =>
      simp only [Bool.false_eq_true, ↓reduceIte, Bool.false_or]
      have := hnext (!holdsB a b [c])
      rwa [← Bool.not_and] at this
theorem l2_one {L : List S38} (hg : L.all cloth_ok = true) (hl : L.length ≤ 7) (ls : List S28) (hls : ls.length = 3) (i : Int) (hi : 0 ≤ i ∧ i < 3) (x : S28) (hx : rd_T28 ls i = x) (h0 : -32768 ≤ x.f0 ∧ x.f0 ≤ 32767) (h1 : -32768 ≤ x.f1 ∧ x.f1 ≤ 32767) (hn : lineB x.f0 x.f1 = true) (c w : Int)
    (h : (c = 0 ∧ (i < w ∧ line_fits L x = false ∨ i = w ∧ line_fits L x = true ∨ w < i)) ∨ (c ≠ 0 ∧ line_fits L x = false))
    (hnext : Ev (fun k => laws_FnLines.l2 k L ls c w (i + 1)) true) : Ev (fun k => laws_FnLines.l2 k L ls c w i) true := by
  have hw : wrap64 (i + 1) = i + 1 := by unfold wrap64; omega
  refine Ev.step (fun k => by rw [laws_FnLines.l2]) ?_
  simp only [hi.1, hi.2, show i < (ls.length : Int) by omega, ↓reduceIte, hx, hw]
  refine Ev.bind (fits_ev h0 h1 hg hl hn) ?_
  have e : holdsB x.f0 x.f1 L = line_fits L x := rfl
  simp only [↓reduceIte, e]
  rcases h with ⟨rfl, ⟨h1, h2⟩ | ⟨h1, h2⟩ | h1⟩ | ⟨h1, h2⟩
  · simp only [h1, h2, ↓reduceIte, Bool.false_eq_true, show ¬ i = w by omega]
    exact hnext
  · simp only [h2, ↓reduceIte, show ¬ i < w by omega, h1, Int.lt_irrefl]
    rw [h1] at hnext
    exact hnext
  · simp only [↓reduceIte, show ¬ i < w by omega, show ¬ i = w by omega]
    exact hnext
  · simp only [h1, h2, ↓reduceIte, Bool.false_eq_true]
    exact hnext
theorem l2_end (L : List S38) (ls : List S28) (c w : Int) : Ev (fun k => laws_FnLines.l2 k L ls c w 3) true := by
  refine Ev.step (fun k => by rw [laws_FnLines.l2]) ?_
  simp only [show ¬ (3 : Int) < 3 by omega, ↓reduceIte]
  exact Ev.now _
theorem j6_ev {a b : Int} (ha : 64 ≤ a ∧ a ≤ 213) (hb : 100 ≤ b ∧ b ≤ 399) {L : List S38} (hg : L.all cloth_ok = true) (hl : L.length ≤ 5) : Ev (fun k => laws_FnLines.j6 k L a b) true := by
  have hs := ok_small hg
  have hn : lineB a b = true := by unfold lineB; rw [Bool.and_eq_true, decide_eq_true_eq, decide_eq_true_eq]; omega
  have hsl : smallL [(⟨40, 100⟩ : S28), (⟨a, b⟩ : S28), (⟨400, 2000⟩ : S28)] := by
    intro x hx
    simp only [List.mem_cons, List.not_mem_nil, or_false] at hx
    rcases hx with rfl | rfl | rfl <;> simp only <;> omega
  have hal : ([(⟨40, 100⟩ : S28), (⟨a, b⟩ : S28), (⟨400, 2000⟩ : S28)]).all line_ok = true := by
    simp only [List.all_cons, List.all_nil, line_ok_eq, hn, Bool.and_true]
    decide
  have e1 := impl_Which_ev _ hsl L hs (by omega)
  have e2 : Ev (fun k => spec_WhichLine.f k [(⟨40, 100⟩ : S28), (⟨a, b⟩ : S28), (⟨400, 2000⟩ : S28)] L) (whichR [(⟨40, 100⟩ : S28), (⟨a, b⟩ : S28), (⟨400, 2000⟩ : S28)] L) := Which_l0 _ (by simp) hsl L hs (by omega) _ [] rfl
  have hc : codeOf L 7 = 0 := ok_code hg (by omega)
  obtain ⟨w, c, hwr, hcase⟩ : ∃ w c : Int, whichR [(⟨40, 100⟩ : S28), (⟨a, b⟩ : S28), (⟨400, 2000⟩ : S28)] L = (w, c) ∧
      ((c = 0 ∧ ((w = 0 ∧ line_fits L ⟨40, 100⟩ = true) ∨ (w = 1 ∧ line_fits L ⟨40, 100⟩ = false ∧ line_fits L ⟨a, b⟩ = true) ∨ (w = 2 ∧ line_fits L ⟨40, 100⟩ = false ∧ line_fits L ⟨a, b⟩ = false ∧ line_fits L ⟨400, 2000⟩ = true)))
        ∨ (c = 6 ∧ line_fits L ⟨40, 100⟩ = false ∧ line_fits L ⟨a, b⟩ = false ∧ line_fits L ⟨400, 2000⟩ = false)) := by
    unfold whichR
    rw [if_pos hal, if_pos hc]
    cases h0 : line_fits L ⟨40, 100⟩ with
    | true => exact ⟨0, 0, by simp [Own.firstIdx, h0, List.findIdx_cons], .inl ⟨rfl, .inl ⟨rfl, rfl⟩⟩⟩
    | false =>
      cases h1 : line_fits L ⟨a, b⟩ with
      | true => exact ⟨1, 0, by simp [Own.firstIdx, h0, h1, List.findIdx_cons], .inl ⟨rfl, .inr (.inl ⟨rfl, rfl, rfl⟩)⟩⟩
      | false =>
        cases h2 : line_fits L ⟨400, 2000⟩ with
        | true => exact ⟨2, 0, by simp [Own.firstIdx, h0, h1, h2, List.findIdx_cons], .inl ⟨rfl, .inr (.inr ⟨rfl, rfl, rfl, rfl⟩)⟩⟩
        | false => exact ⟨0, 6, by simp [h0, h1, h2], .inr ⟨rfl, rfl, rfl, rfl⟩⟩
  rw [hwr] at e1 e2
  refine Ev.step (fun k => by rw [laws_FnLines.j6]) ?_
  simp only [Option.bind_some]
  refine Ev.bind e1 ?_
  refine Ev.bind e2 ?_
  simp only [↓reduceIte]
  have key : Ev (fun k => laws_FnLines.j7 k L [(⟨40, 100⟩ : S28), (⟨a, b⟩ : S28), (⟨400, 2000⟩ : S28)] c w false) true := by
    refine Ev.step (fun k => by rw [laws_FnLines.j7]) ?_
    simp only [Bool.false_eq_true, ↓reduceIte]
    refine l2_one hg (by omega) _ rfl 0 (by omega) ⟨40, 100⟩ rfl (by simp only; omega) (by simp only; omega) (by decide) c w ?_ ?_
    · rcases hcase with ⟨h, ⟨h1, h2⟩ | ⟨h1, h2, h3⟩ | ⟨h1, h2, h3, h4⟩⟩ | ⟨h, h1, h2, h3⟩
      · exact .inl ⟨h, .inr (.inl ⟨by omega, h2⟩)⟩
      · exact .inl ⟨h, .inl ⟨by omega, h2⟩⟩
      · exact .inl ⟨h, .inl ⟨by omega, h2⟩⟩
      · exact .inr ⟨by omega, h1⟩
    refine l2_one hg (by omega) _ rfl 1 (by omega) ⟨a, b⟩ rfl (by simp only; omega) (by simp only; omega) hn c w ?_ ?_
    · rcases hcase with ⟨h, ⟨h1, h2⟩ | ⟨h1, h2, h3⟩ | ⟨h1, h2, h3, h4⟩⟩ | ⟨h, h1, h2, h3⟩
      · exact .inl ⟨h, .inr (.inr (by omega))⟩
      · exact .inl ⟨h, .inr (.inl ⟨by omega, h3⟩)⟩
      · exact .inl ⟨h, .inl ⟨by omega, h3⟩⟩
      · exact .inr ⟨by omega, h2⟩
    refine l2_one hg (by omega) _ rfl 2 (by omega) ⟨400, 2000⟩ rfl (by simp only; omega) (by simp only; omega) (by decide) c w ?_ ?_
    · rcases hcase with ⟨h, ⟨h1, h2⟩ | ⟨h1, h2, h3⟩ | ⟨h1, h2, h3, h4⟩⟩ | ⟨h, h1, h2, h3⟩
      · exact .inl ⟨h, .inr (.inr (by omega))⟩
      · exact .inl ⟨h, .inr (.inr (by omega))⟩
      · exact .inl ⟨h, .inr (.inl ⟨by omega, h4⟩)⟩
      · exact .inr ⟨by omega, h3⟩
    exact l2_end L _ c w
  rcases hcase with ⟨rfl, _⟩ | ⟨rfl, _⟩
  · simp only [↓reduceIte]
    exact key
  · simp only [show ¬ (6 : Int) = 0 by omega, ↓reduceIte, bne_self_eq_false]
    exact key
theorem hangMB_code (S : Nat → Int → R4) : ∀ (d m : Nat) (t : Int), (hangMB S d m t).2.2 = 0 ∨ (hangMB S d m t).2.2 = 7
  | 0, m, t => by
    rw [hangMB]
    split
    · exact .inl rfl
    · exact .inr rfl
  | d + 1, m, t => by
    rw [hangMB]
    split
    · exact .inl rfl
    · split
      · exact .inr rfl
      · exact hangMB_code S d _ _
theorem l1_ev (L : List S38) (cnt T a b : Int) (ns : List Int) (hns : ns.length ≤ 7) (E : Int)
    (hend : Ev (fun k => laws_FnLines.l1 k L cnt ns T true 0 E (ns.length : Int) a b) true) : ∀ (xs pre : List Int) (u : Nat), ns = pre ++ xs → grows u xs = true → u ≤ pre.length → E = (endU u xs : Int) →
    Ev (fun k => laws_FnLines.l1 k L cnt ns T true 0 (u : Int) (pre.length : Int) a b) true := by
  intro xs
  induction xs with
  | nil =>
    intro pre u hpre _ _ hE
    rw [endU] at hE
    rw [hE] at hend
    rw [show pre.length = ns.length by rw [hpre]; simp]
    exact hend
  | cons x xs ih =>
    intro pre u hpre hg hu hE
    have hlen : ns.length = pre.length + xs.length + 1 := by rw [hpre]; simp; omega
    have hx : rd ns (pre.length : Int) = x := by rw [hpre]; exact rdim pre x xs
    rw [grows, Bool.and_eq_true, decide_eq_true_eq] at hg
    obtain ⟨⟨h0, h1⟩, hg⟩ := hg
    rw [endU] at hE
    have hnext := ih (pre ++ [x]) (max u (x.toNat + 1)) (by rw [hpre]; simp) hg (by simp; omega) hE
    simp only [List.length_append, List.length_cons, List.length_nil, Nat.zero_add] at hnext
    refine Ev.step (fun k => by rw [laws_FnLines.l1]) ?_
    simp only [show (pre.length : Int) < (ns.length : Int) by omega, show (0 : Int) ≤ (pre.length : Int) by omega, ↓reduceIte, hx, show ¬ x < 0 by omega, show ¬ x > (u : Int) by omega, decide_false]
    refine Ev.step (fun k => by rw [laws_FnLines.j4]) ?_
    simp only [show (pre.length : Int) < (ns.length : Int) by omega, show (0 : Int) ≤ (pre.length : Int) by omega, ↓reduceIte, hx, Bool.false_eq_true, wsuc (show pre.length < ns.length by omega) (by omega : ns.length ≤ 1048576)]
    by_cases hxu : x = (u : Int)
    · have hw : wrap64 ((u : Int) + 1) = ((u + 1 : Nat) : Int) := by unfold wrap64; omega
      rw [show max u (x.toNat + 1) = u + 1 by omega] at hnext
      simp only [hxu, ↓reduceIte, hw]
      exact hnext
    · rw [show max u (x.toNat + 1) = u by omega] at hnext
      simp only [hxu, ↓reduceIte]
      exact hnext
theorem used_iff : ∀ (xs : List Int) (n : Nat), xs.length = n → (((endU 0 xs : Int) == 0) != ((n : Int) == 0)) = false
  | [], n, h => by
    rw [← h]
    rfl
  | x :: xs, n, h => by
    have h1 := endU_ge xs (max 0 (x.toNat + 1))
    rw [List.length_cons] at h
    rw [endU]
    have h2 : ((endU (max 0 (x.toNat + 1)) xs : Int) == 0) = false := by simp only [beq_eq_false_iff_ne]; omega
    have h3 : ((n : Int) == 0) = false := by simp only [beq_eq_false_iff_ne]; omega
    rw [h2, h3]
    rfl
set_option maxHeartbeats 4000000 in
theorem FnLines (l0 : List Int) (l1 : List Int) (y0 : l0.length ≤ 9223372036854775807) (w0 : ∀ x ∈ l0, (Lit.int .u8 x).wf = true) (y1 : l1.length ≤ 9223372036854775807) (w1 : ∀ x ∈ l1, (Lit.int .u8 x).wf = true) : ∃ k, laws_FnLines.f k l0 l1 = some true := by
  refine Ev.rounds ?_
  unfold laws_FnLines.f laws_a2Long.f
  by_cases hA : (l0.length : Int) > 3000
  · simp only [hA, ↓reduceIte, Option.bind_some]
    exact Ev.now _
  by_cases hB : (l1.length : Int) > 3000
  · simp only [hA, hB, ↓reduceIte, Option.bind_some, decide_true]
    exact Ev.now _
  simp only [hA, hB, ↓reduceIte, Option.bind_some, decide_false, Bool.false_eq_true]
  obtain ⟨L, hL, hl, hgd⟩ := A2Cloths_ok l0 (u8_bytes w0) 5 (by omega)
  obtain ⟨a, b, hab, a1, a2, b1, b2⟩ := A2Line_ok l1 (u8_bytes w1)
  have hL' : Ev (fun k => spec_A2Cloths.f k l0 5) L := hL
  have hg := good_ok hgd
  have hs := ok_small hg
  have ha : -32768 ≤ a ∧ a ≤ 32767 := by omega
  have hb : -32768 ≤ b ∧ b ≤ 32767 := by omega
  have hn : lineB a b = true := by unfold lineB; rw [Bool.and_eq_true, decide_eq_true_eq, decide_eq_true_eq]; omega
  have hlc : lcode a b L = 0 := ok_lcode hg (by omega) ⟨a1, a2⟩ ⟨b1, b2⟩
  refine Ev.bind hL' ?_
  simp only [hab, Option.bind_some]
  refine Ev.bind (impl_First_ev ha hb L hs (by omega)) ?_
  refine Ev.bind (spec_First_ev ha hb L hs (by omega)) ?_
  refine Ev.bind (impl_Few_ev ha hb L hs 3000) ?_
  refine Ev.bind (spec_Few_ev ha hb L hs (by omega) 3000) ?_
  have hfew : ∀ B : Int, 0 ≤ B → B ≤ 20000 → (L.all fun c => holdsB a b [c]) = true → fewR a b L B = hangMB (fewSB a b L B) L.length 0 0 := fun B h0 h1 hal => by unfold fewR; rw [if_pos hlc, if_pos ⟨h0, h1⟩, if_pos hal]
  simp only [↓reduceIte]
  cases hal : (L.all fun c => holdsB a b [c]) with
  | false =>
    have hF : firstR a b L = ([], 0, 6) := by unfold firstR; rw [if_pos hlc, if_neg (by rw [hal]; decide)]
    have hW : fewR a b L 3000 = ([], 0, 6) := by unfold fewR; rw [if_pos hlc, if_pos ⟨by omega, by omega⟩, if_neg (by rw [hal]; decide)]
    rw [hF, hW]
    refine Ev.bind (Same_ev [] (by simp)) ?_
    simp only [↓reduceIte]
    refine Ev.bind (Same_ev [] (by simp)) ?_
    simp only [↓reduceIte, show ¬ (6 : Int) = 0 by omega, bne_self_eq_false]
    refine Ev.step (fun k => by rw [laws_FnLines.j0]) ?_
    simp only [Bool.false_eq_true, show ¬ (6 : Int) = 0 by omega, ↓reduceIte]
    have := far_l0 ha hb hg (by omega) hn L [] rfl false
    rw [hal] at this
    exact this
  | true =>
    have hF : firstR a b L = ((firstRun a b L L [] 0).1, (firstRun a b L L [] 0).2, 0) := by unfold firstR; rw [if_pos hlc, if_pos hal]
    have hge := first_ge a b L L [] 0
    obtain ⟨ys, f1, f2, f3⟩ := first_path a b L hal (firstRun a b L L [] 0).2.toNat L [] [] 0 (by simp) rfl (fun x h => by cases h) (by omega)
    rw [List.nil_append] at f1
    have hright : linesRight a b L ys = true := path_right (by omega) f2 f3
    rw [hF, f1, hfew 3000 (by omega) (by omega) hal]
    have hcode := hangMB_code (fewSB a b L 3000) L.length 0 0
    have hlen := fewR_len a b L 3000
    rw [hfew 3000 (by omega) (by omega) hal] at hlen
    obtain ⟨cnt, hcnt⟩ : ∃ cnt, (firstRun a b L L [] 0).2 = cnt := ⟨_, rfl⟩
    have hsays := few_says hal (by omega) 3000 (by omega)
    rw [hcnt] at hsays hge ⊢
    obtain ⟨R, hR⟩ : ∃ R, hangMB (fewSB a b L 3000) L.length 0 0 = R := ⟨_, rfl⟩
    rw [hR] at hcode hlen hsays ⊢
    have h6 : (R.2.2 == 6) = false := by rcases hcode with h | h <;> rw [h] <;> decide
    refine Ev.bind (Same_ev ys (by omega)) ?_
    simp only [↓reduceIte]
    refine Ev.bind (Same_ev R.1 (by omega)) ?_
    simp only [↓reduceIte, h6, show ((0 : Int) == 6) = false from by decide, bne_self_eq_false]
    refine Ev.step (fun k => by rw [laws_FnLines.j0]) ?_
    simp only [Bool.false_eq_true, ↓reduceIte]
    refine Ev.bind (check_ev ha hb hg (by omega) hn ys) ?_
    simp only [↓reduceIte, hright, f2, show ¬ cnt > (L.length : Int) by omega, decide_false]
    refine Ev.step (fun k => by rw [laws_FnLines.j2]) ?_
    simp only [Bool.false_eq_true, ↓reduceIte]
    by_cases hz : R.2.2 = 0
    · simp only [hz, ↓reduceIte]
      obtain ⟨xs, T, g1, g2, g3, g4, g5, g6, g7, g8, g9⟩ := hsays hz
      rw [g1]
      refine Ev.bind (check_ev ha hb hg (by omega) hn xs) ?_
      simp only [g3]
      refine l1_ev L cnt T a b xs (by omega) (endU 0 xs : Int) ?_ xs [] 0 rfl g4 (Nat.le_refl _) rfl
      refine Ev.step (fun k => by rw [laws_FnLines.l1]) ?_
      simp only [Int.lt_irrefl, ↓reduceIte]
      have e1 := impl_Few_ev ha hb L hs T
      rw [hfew T (by omega) (by omega) hal, g8] at e1
      refine Ev.bind e1 ?_
      have hu := used_iff xs L.length g2
      simp only [↓reduceIte, g2, show ¬ (endU 0 xs : Int) > cnt by omega, hu, Bool.false_eq_true, show ¬ T < (L.length : Int) by omega, decide_false]
      refine Ev.step (fun k => by rw [laws_FnLines.j5]) ?_
      simp only [Bool.false_eq_true, ↓reduceIte]
      by_cases hT : T > 0
      · have hw : wrap64 (T - 1) = T - 1 := by unfold wrap64; omega
        simp only [hT, ↓reduceIte, hw]
        have e2 := impl_Few_ev ha hb L hs (T - 1)
        rw [hfew (T - 1) (by omega) (by omega) hal] at e2
        refine Ev.bind e2 ?_
        simp only [g9 (by omega), ↓reduceIte]
        exact j6_ev ⟨a1, a2⟩ ⟨b1, b2⟩ hg hl
      · simp only [hT, ↓reduceIte]
        exact j6_ev ⟨a1, a2⟩ ⟨b1, b2⟩ hg hl
    · simp only [hz, ↓reduceIte]
      exact j6_ev ⟨a1, a2⟩ ⟨b1, b2⟩ hg hl
end Go.Proofs.Ytlkpgpnieodifaa.Pure
