/- Words and walks for the law FnExactFitsWith. -/
import Derived.Test.YthodfhcaaidnmaaTFw31
import Derived.OpenShut
namespace Go.Proofs.Ythodfhcaaidnmaa.Pure
set_option linter.unusedSimpArgs false
set_option linter.unusedVariables false
open Go.RowKit Go.Proofs.Ythodfhcaaidnmaa.Fw Go.Proofs.YthodfhcaaidnmaaW.PrintWords Go.Proofs.YthodfhcaaidnmaaW.PrintLast Go.Proofs.YthodfhcaaidnmaaW.PrintMore
theorem rdm (pre : List S37) (c : S37) (cs : List S37) : rd_T37 (pre ++ c :: cs) (pre.length : Int) = c := by simp [rd_T37, List.getD_eq_getElem?_getD]
theorem rdim (pre : List Int) (c : Int) (cs : List Int) : rd (pre ++ c :: cs) (pre.length : Int) = c := by simp [rd, List.getD_eq_getElem?_getD]
theorem wsuc {i n : Nat} (h : i < n) (hn : n ≤ 1048576) : wrap64 ((i : Int) + 1) = ((i + 1 : Nat) : Int) := by unfold wrap64; omega
theorem l00In_eq (a b c : Int) : spec_l00In.f a b c = some (decide (b ≤ a ∧ a ≤ c)) := by
  unfold spec_l00In.f
  by_cases h : b ≤ a
  · rw [if_pos (show a ≥ b from h)]; simp [h]
  · rw [if_neg (show ¬ a ≥ b from h)]; simp [h]
theorem within_eq (a b c : Int) : impl_within.f a b c = some (decide (b ≤ a ∧ a ≤ c)) := l00In_eq a b c
theorem unless_eq (b : Bool) (c : Int) : impl_unless.f b c = some (if b = true then 0 else c) := by
  unfold impl_unless.f
  cases b <;> rfl
def firstL : List Int → Int
  | [] => 0
  | c :: cs => if c = 0 then firstL cs else c
theorem firstOf_l0 (l : List Int) (hl : l.length ≤ 1048576) : ∀ (cs pre : List Int), l = pre ++ cs → Ev (fun k => impl_firstOf.l0 k l (l.length : Int) (pre.length : Int)) (firstL cs) := by
  intro cs
  induction cs with
  | nil =>
    intro pre hpre
    refine Ev.step (fun k => by rw [impl_firstOf.l0]) ?_
    have : l.length = pre.length := by rw [hpre]; simp
    simp only [show ¬ (pre.length : Int) < (l.length : Int) by omega, ↓reduceIte]
    exact Ev.now _
  | cons c cs ih =>
    intro pre hpre
    have hlen : l.length = pre.length + cs.length + 1 := by rw [hpre]; simp; omega
    have hc : rd l (pre.length : Int) = c := by rw [hpre]; exact rdim pre c cs
    have hnext := ih (pre ++ [c]) (by rw [hpre]; simp)
    simp only [List.length_append, List.length_cons, List.length_nil, Nat.zero_add] at hnext
    refine Ev.step (fun k => by rw [impl_firstOf.l0]) ?_
    simp only [show (pre.length : Int) < (l.length : Int) by omega, show (0 : Int) ≤ (pre.length : Int) by omega, ↓reduceIte, hc, wsuc (show pre.length < l.length by omega) hl]
    rw [firstL]
    by_cases h0 : c = 0
    · simp only [h0, ↓reduceIte]
      exact hnext
    · simp only [h0, ↓reduceIte]
      exact Ev.now _
theorem firstOf_ev (l : List Int) (hl : l.length ≤ 1048576) : Ev (fun k => impl_firstOf.f k l) (firstL l) := by
  unfold impl_firstOf.f
  exact firstOf_l0 l hl l [] rfl
def toS (l : List S32) : List S37 := l.map fun x => ⟨x.f0, x.f1, x.f2, x.f3⟩
theorem toS_len (l : List S32) : (toS l).length = l.length := by simp [toS]
theorem rdL_mid (pre : List S32) (c : S32) (cs : List S32) : rd_T32 (pre ++ c :: cs) (pre.length : Int) = c := by simp [rd_T32, List.getD_eq_getElem?_getD]
theorem toGarmentS_l0 (l : List S32) (hl : l.length ≤ 1048576) : ∀ (cs pre : List S32), l = pre ++ cs →
    Ev (fun k => laws_toGarmentS.l0 k l (toS pre ++ List.replicate cs.length z37) (pre.length : Int)) (toS l) := by
  intro cs
  induction cs with
  | nil =>
    intro pre hpre
    refine Ev.step (fun k => by rw [laws_toGarmentS.l0]) ?_
    have : l.length = pre.length := by rw [hpre]; simp
    simp only [show ¬ (pre.length : Int) < (l.length : Int) by omega, ↓reduceIte]
    rw [show l = pre by rw [hpre]; simp]
    simp only [List.length_nil, List.replicate_zero, List.append_nil]
    exact Ev.now _
  | cons c cs ih =>
    intro pre hpre
    have hlen : l.length = pre.length + cs.length + 1 := by rw [hpre]; simp; omega
    have hc : rd_T32 l (pre.length : Int) = c := by rw [hpre]; exact rdL_mid pre c cs
    have hnext := ih (pre ++ [c]) (by rw [hpre]; simp)
    simp only [List.length_append, List.length_cons, List.length_nil, Nat.zero_add] at hnext
    have hx : (pre.length : Int) < ((toS pre ++ List.replicate (cs.length + 1) z37).length : Int) := by simp [toS]; omega
    have hset : (toS pre ++ List.replicate (cs.length + 1) z37).set (pre.length : Int).toNat (⟨c.f0, c.f1, c.f2, c.f3⟩ : S37) = toS (pre ++ [c]) ++ List.replicate cs.length z37 := by
      rw [Int.toNat_natCast, List.set_append_right _ _ (by simp [toS]), toS_len, Nat.sub_self, List.replicate_succ, List.set_cons_zero]
      simp [toS]
    refine Ev.step (fun k => by rw [laws_toGarmentS.l0]) ?_
    simp only [List.length_cons, show (pre.length : Int) < (l.length : Int) by omega, show (0 : Int) ≤ (pre.length : Int) by omega, ↓reduceIte, hc, laws_toGarment.f, Option.bind_some, hx, hset, wsuc (show pre.length < l.length by omega) hl]
    exact hnext
theorem toGarmentS_ev (l : List S32) (hl : l.length ≤ 1048576) : Ev (fun k => laws_toGarmentS.f k l) (toS l) := by
  have := toGarmentS_l0 l hl l [] rfl
  unfold laws_toGarmentS.f
  simp only [show (0 : Int) ≤ (l.length : Int) by omega, Int.toNat_natCast, show l.length ≤ 46912496118442 by omega, ↓reduceIte]
  exact this
theorem eqGarmentS_l0 (l : List S37) (hl : l.length ≤ 1048576) : ∀ (cs pre : List S37), l = pre ++ cs → Ev (fun k => laws_eqGarmentS.l0 k l l (pre.length : Int)) true := by
  intro cs
  induction cs with
  | nil =>
    intro pre hpre
    refine Ev.step (fun k => by rw [laws_eqGarmentS.l0]) ?_
    have : l.length = pre.length := by rw [hpre]; simp
    simp only [show ¬ (pre.length : Int) < (l.length : Int) by omega, ↓reduceIte]
    exact Ev.now _
  | cons c cs ih =>
    intro pre hpre
    have hlen : l.length = pre.length + cs.length + 1 := by rw [hpre]; simp; omega
    have hnext := ih (pre ++ [c]) (by rw [hpre]; simp)
    simp only [List.length_append, List.length_cons, List.length_nil, Nat.zero_add] at hnext
    refine Ev.step (fun k => by rw [laws_eqGarmentS.l0]) ?_
    simp only [show (pre.length : Int) < (l.length : Int) by omega, show (0 : Int) ≤ (pre.length : Int) by omega, ↓reduceIte, laws_eqGarment.f, Option.bind_some, wsuc (show pre.length < l.length by omega) hl]
    exact hnext
theorem eqGarmentS_ev (l : List S37) (hl : l.length ≤ 1048576) : Ev (fun k => laws_eqGarmentS.f k l l) true := by
  unfold laws_eqGarmentS.f
  simp only [↓reduceIte]
  exact eqGarmentS_l0 l hl l [] rfl
theorem szGarmentS_eq (l : List S32) (a : Int) (h0 : 0 ≤ a) (h1 : a ≤ 1048576) (hl : l.length ≤ 9223372036854775807) : laws_szGarmentS.f l a = some (if (l.length : Int) ≤ a then a - (l.length : Int) else -1) := by
  unfold laws_szGarmentS.f
  have e : wrap64 (a - (l.length : Int)) = a - (l.length : Int) := by unfold wrap64; omega
  rw [e]
  by_cases h : (l.length : Int) ≤ a
  · rw [if_neg (by omega), if_pos h]
  · rw [if_pos (by omega), if_neg h]
theorem toS_small {l : List S32} (w : ∀ x ∈ l, (Lit.int .u8 x.f0).wf = true ∧ (Lit.int .i8 x.f1).wf = true ∧ (Lit.int .i8 x.f2).wf = true ∧ (Lit.int .i16 x.f3).wf = true) : (toS l).all gsm = true := by
  rw [List.all_eq_true]
  intro x hx
  obtain ⟨y, hy, rfl⟩ := List.mem_map.mp hx
  have h0 := bounds_u8 (w y hy).1
  have h1 := bounds_i8 (w y hy).2.1
  have h2 := bounds_i8 (w y hy).2.2.1
  have h3 := bounds_i16 (w y hy).2.2.2
  exact decide_eq_true ⟨h0.1, h0.2, h1.1, h1.2, h2.1, h2.2, h3.1, h3.2⟩
theorem eqInt64S_l0 (l : List Int) (hl : l.length ≤ 1048576) : ∀ (cs pre : List Int), l = pre ++ cs → Ev (fun k => laws_eqInt64S.l0 k l l (pre.length : Int)) true := by
  intro cs
  induction cs with
  | nil =>
    intro pre hpre
    refine Ev.step (fun k => by rw [laws_eqInt64S.l0]) ?_
    have : l.length = pre.length := by rw [hpre]; simp
    simp only [show ¬ (pre.length : Int) < (l.length : Int) by omega, ↓reduceIte]
    exact Ev.now _
  | cons c cs ih =>
    intro pre hpre
    have hlen : l.length = pre.length + cs.length + 1 := by rw [hpre]; simp; omega
    have hnext := ih (pre ++ [c]) (by rw [hpre]; simp)
    simp only [List.length_append, List.length_cons, List.length_nil, Nat.zero_add] at hnext
    refine Ev.step (fun k => by rw [laws_eqInt64S.l0]) ?_
    simp only [show (pre.length : Int) < (l.length : Int) by omega, show (0 : Int) ≤ (pre.length : Int) by omega, ↓reduceIte, wsuc (show pre.length < l.length by omega) hl]
    exact hnext
theorem eqInt64S_ev (l : List Int) (hl : l.length ≤ 1048576) : Ev (fun k => laws_eqInt64S.f k l l) true := by
  unfold laws_eqInt64S.f
  simp only [↓reduceIte]
  exact eqInt64S_l0 l hl l [] rfl
def upFrom : Nat → Nat → List Int
  | _, 0 => []
  | a, n + 1 => (a : Int) :: upFrom (a + 1) n
theorem upFrom_len : ∀ n a, (upFrom a n).length = n
  | 0, _ => rfl
  | n + 1, a => by simp [upFrom, upFrom_len n]
theorem upFrom_snoc : ∀ n a, upFrom a (n + 1) = upFrom a n ++ [((a + n : Nat) : Int)]
  | 0, a => by simp [upFrom]
  | n + 1, a => by rw [upFrom, upFrom_snoc n (a + 1), upFrom, List.cons_append, show a + 1 + n = a + (n + 1) by omega]
theorem markInt64S_l0 : ∀ (cs : List Int) (n : Nat), n + cs.length ≤ 1048576 → Ev (fun k => laws_markInt64S.l0 k (upFrom 1 n ++ cs) ((n + 1 : Nat) : Int) (n : Int)) (((n + cs.length + 1 : Nat) : Int), upFrom 1 (n + cs.length)) := by
  intro cs
  induction cs with
  | nil =>
    intro n hn
    refine Ev.step (fun k => by rw [laws_markInt64S.l0]) ?_
    have : (upFrom 1 n).length = n := upFrom_len n 1
    simp only [List.append_nil, List.length_nil, Nat.add_zero, show ¬ (n : Int) < ((upFrom 1 n).length : Int) by omega, ↓reduceIte]
    exact Ev.now _
  | cons c cs ih =>
    intro n hn
    have hnext := ih (n + 1) (by simp only [List.length_cons] at hn; omega)
    simp only [List.length_cons] at hn
    have hlen : (upFrom 1 n ++ c :: cs).length = n + cs.length + 1 := by simp [upFrom_len]; omega
    have hset : (upFrom 1 n ++ c :: cs).set (n : Int).toNat ((n + 1 : Nat) : Int) = upFrom 1 (n + 1) ++ cs := by
      rw [Int.toNat_natCast, List.set_append_right _ _ (by simp [upFrom_len]), upFrom_len, Nat.sub_self, List.set_cons_zero, upFrom_snoc, Nat.add_comm 1 n]
      simp
    refine Ev.step (fun k => by rw [laws_markInt64S.l0]) ?_
    have hw : wrap64 (((n + 1 : Nat) : Int) + 1) = ((n + 1 + 1 : Nat) : Int) := by unfold wrap64; omega
    have hw0 : wrap64 ((n : Int) + 1) = ((n + 1 : Nat) : Int) := by unfold wrap64; omega
    simp only [show (n : Int) < ((upFrom 1 n ++ c :: cs).length : Int) by omega, show (0 : Int) ≤ (n : Int) by omega, ↓reduceIte, hset, hw, hw0]
    rw [show n + (c :: cs).length = n + 1 + cs.length by simp only [List.length_cons]; omega]
    exact hnext
theorem markInt64S_ev (l : List Int) (hl : l.length ≤ 1048576) : Ev (fun k => laws_markInt64S.f k l 1) (((l.length + 1 : Nat) : Int), upFrom 1 l.length) := by
  unfold laws_markInt64S.f
  have := markInt64S_l0 l 0 (by omega)
  simpa [upFrom] using this
theorem heldInt64S_l0 (m : Nat) (hm : m ≤ 1048576) : ∀ (d n : Nat), n + d = m → Ev (fun k => laws_heldInt64S.l0 k (upFrom 1 m) ((n + 1 : Nat) : Int) (n : Int)) ((m + 1 : Nat) : Int) := by
  intro d
  induction d with
  | zero =>
    intro n hn
    refine Ev.step (fun k => by rw [laws_heldInt64S.l0]) ?_
    have : (upFrom 1 m).length = m := upFrom_len m 1
    simp only [show ¬ (n : Int) < ((upFrom 1 m).length : Int) by omega, ↓reduceIte]
    rw [show n = m by omega]
    exact Ev.now _
  | succ d ih =>
    intro n hn
    have hlen : (upFrom 1 m).length = m := upFrom_len m 1
    have hget : ∀ (m a n : Nat), n < m → rd (upFrom a m) (n : Int) = ((a + n : Nat) : Int) := by
      intro m
      induction m with
      | zero => intro a n h; omega
      | succ m ihm =>
        intro a n h
        match n, h with
        | 0, _ => simp [rd, upFrom]
        | n + 1, h =>
          have := ihm (a + 1) n (by omega)
          simp only [rd, Int.toNat_natCast] at this ⊢
          rw [upFrom, List.getD_cons_succ, this, show a + 1 + n = a + (n + 1) by omega]
    have hr : rd (upFrom 1 m) (n : Int) = ((n + 1 : Nat) : Int) := by rw [hget m 1 n (by omega), Nat.add_comm]
    have hw : wrap64 (((n + 1 : Nat) : Int) + 1) = ((n + 1 + 1 : Nat) : Int) := by unfold wrap64; omega
    have hw0 : wrap64 ((n : Int) + 1) = ((n + 1 : Nat) : Int) := by unfold wrap64; omega
    refine Ev.step (fun k => by rw [laws_heldInt64S.l0]) ?_
    simp only [show (n : Int) < ((upFrom 1 m).length : Int) by omega, show (0 : Int) ≤ (n : Int) by omega, ↓reduceIte, hr, hw, hw0]
    exact ih (n + 1) (by omega)
theorem heldInt64S_ev (m : Nat) (hm : m ≤ 1048576) : Ev (fun k => laws_heldInt64S.f k (upFrom 1 m) 1) ((m + 1 : Nat) : Int) := by
  unfold laws_heldInt64S.f
  have := heldInt64S_l0 m hm m 0 (by omega)
  simpa using this
theorem markGarmentS_l0 : ∀ (d n : Nat) (l : List S37), l.length = n + d → n + d ≤ 1048576 → ∃ r : List S37, Ev (fun k => laws_markGarmentS.l0 k l ((4 * n + 1 : Nat) : Int) (n : Int)) (((4 * (n + d) + 1 : Nat) : Int), r) := by
  intro d
  induction d with
  | zero =>
    intro n l hl hn
    refine ⟨l, Ev.step (fun k => by rw [laws_markGarmentS.l0]) ?_⟩
    simp only [show ¬ (n : Int) < (l.length : Int) by omega, ↓reduceIte, Nat.add_zero]
    exact Ev.now _
  | succ d ih =>
    intro n l hl hn
    have hw1 : wrap64 (((4 * n + 1 : Nat) : Int) + 1) = ((4 * n + 2 : Nat) : Int) := by unfold wrap64; omega
    have hw2 : wrap64 (((4 * n + 2 : Nat) : Int) + 1) = ((4 * n + 3 : Nat) : Int) := by unfold wrap64; omega
    have hw3 : wrap64 (((4 * n + 3 : Nat) : Int) + 1) = ((4 * n + 4 : Nat) : Int) := by unfold wrap64; omega
    have hw4 : wrap64 (((4 * n + 4 : Nat) : Int) + 1) = ((4 * (n + 1) + 1 : Nat) : Int) := by unfold wrap64; omega
    have hw0 : wrap64 ((n : Int) + 1) = ((n + 1 : Nat) : Int) := by unfold wrap64; omega
    let y1 : List S37 := l.set (n : Int).toNat (⟨((4 * n + 1 : Nat) : Int) % 256, (rd_T37 l (n : Int)).f1, (rd_T37 l (n : Int)).f2, (rd_T37 l (n : Int)).f3⟩ : S37)
    let y2 : List S37 := y1.set (n : Int).toNat (⟨(rd_T37 y1 (n : Int)).f0, IntKind.i8.wrap ((4 * n + 2 : Nat) : Int), (rd_T37 y1 (n : Int)).f2, (rd_T37 y1 (n : Int)).f3⟩ : S37)
    let y3 : List S37 := y2.set (n : Int).toNat (⟨(rd_T37 y2 (n : Int)).f0, (rd_T37 y2 (n : Int)).f1, IntKind.i8.wrap ((4 * n + 3 : Nat) : Int), (rd_T37 y2 (n : Int)).f3⟩ : S37)
    let z : List S37 := y3.set (n : Int).toNat (⟨(rd_T37 y3 (n : Int)).f0, (rd_T37 y3 (n : Int)).f1, (rd_T37 y3 (n : Int)).f2, IntKind.i16.wrap ((4 * n + 4 : Nat) : Int)⟩ : S37)
    obtain ⟨r, hr⟩ := ih (n + 1) z (by simp [z, y3, y2, y1]; omega) (by omega)
    refine ⟨r, Ev.step (fun k => by rw [laws_markGarmentS.l0]) ?_⟩
    simp only [show (n : Int) < (l.length : Int) by omega, show (0 : Int) ≤ (n : Int) by omega, ↓reduceIte, Option.bind_some, hw1, hw2, hw3, hw4, hw0]
    rw [show n + (d + 1) = n + 1 + d by omega]
    exact hr
theorem markGarmentS_ev (l : List S37) (hl : l.length ≤ 1048576) : ∃ r : List S37, Ev (fun k => laws_markGarmentS.f k l 1) (((4 * l.length + 1 : Nat) : Int), r) := by
  unfold laws_markGarmentS.f
  have := markGarmentS_l0 l.length 0 l (by omega) (by omega)
  simpa using this
theorem markGarmentS_l0s (s : Nat) (hs : s ≤ 1048576) : ∀ (d n : Nat) (l : List S37), l.length = n + d → n + d ≤ 1048576 → ∃ r : List S37, Ev (fun k => laws_markGarmentS.l0 k l ((4 * (s + n) + 1 : Nat) : Int) (n : Int)) (((4 * (s + (n + d)) + 1 : Nat) : Int), r) := by
  intro d
  induction d with
  | zero =>
    intro n l hl hn
    refine ⟨l, Ev.step (fun k => by rw [laws_markGarmentS.l0]) ?_⟩
    simp only [show ¬ (n : Int) < (l.length : Int) by omega, ↓reduceIte, Nat.add_zero]
    exact Ev.now _
  | succ d ih =>
    intro n l hl hn
    have hw1 : wrap64 (((4 * (s + n) + 1 : Nat) : Int) + 1) = ((4 * (s + n) + 2 : Nat) : Int) := by unfold wrap64; omega
    have hw2 : wrap64 (((4 * (s + n) + 2 : Nat) : Int) + 1) = ((4 * (s + n) + 3 : Nat) : Int) := by unfold wrap64; omega
    have hw3 : wrap64 (((4 * (s + n) + 3 : Nat) : Int) + 1) = ((4 * (s + n) + 4 : Nat) : Int) := by unfold wrap64; omega
    have hw4 : wrap64 (((4 * (s + n) + 4 : Nat) : Int) + 1) = ((4 * (s + (n + 1)) + 1 : Nat) : Int) := by unfold wrap64; omega
    have hw0 : wrap64 ((n : Int) + 1) = ((n + 1 : Nat) : Int) := by unfold wrap64; omega
    let y1 : List S37 := l.set (n : Int).toNat (⟨((4 * (s + n) + 1 : Nat) : Int) % 256, (rd_T37 l (n : Int)).f1, (rd_T37 l (n : Int)).f2, (rd_T37 l (n : Int)).f3⟩ : S37)
    let y2 : List S37 := y1.set (n : Int).toNat (⟨(rd_T37 y1 (n : Int)).f0, IntKind.i8.wrap ((4 * (s + n) + 2 : Nat) : Int), (rd_T37 y1 (n : Int)).f2, (rd_T37 y1 (n : Int)).f3⟩ : S37)
    let y3 : List S37 := y2.set (n : Int).toNat (⟨(rd_T37 y2 (n : Int)).f0, (rd_T37 y2 (n : Int)).f1, IntKind.i8.wrap ((4 * (s + n) + 3 : Nat) : Int), (rd_T37 y2 (n : Int)).f3⟩ : S37)
    let z : List S37 := y3.set (n : Int).toNat (⟨(rd_T37 y3 (n : Int)).f0, (rd_T37 y3 (n : Int)).f1, (rd_T37 y3 (n : Int)).f2, IntKind.i16.wrap ((4 * (s + n) + 4 : Nat) : Int)⟩ : S37)
    obtain ⟨r, hr⟩ := ih (n + 1) z (by simp [z, y3, y2, y1]; omega) (by omega)
    refine ⟨r, Ev.step (fun k => by rw [laws_markGarmentS.l0]) ?_⟩
    simp only [show (n : Int) < (l.length : Int) by omega, show (0 : Int) ≤ (n : Int) by omega, ↓reduceIte, Option.bind_some, hw1, hw2, hw3, hw4, hw0]
    rw [show n + (d + 1) = n + 1 + d by omega]
    exact hr
theorem markGarmentS_evs (s : Nat) (hs : s ≤ 1048576) (l : List S37) (hl : l.length ≤ 1048576) : ∃ r : List S37, Ev (fun k => laws_markGarmentS.f k l ((4 * s + 1 : Nat) : Int)) (((4 * (s + l.length) + 1 : Nat) : Int), r) := by
  unfold laws_markGarmentS.f
  have := markGarmentS_l0s s hs l.length 0 l (by omega) (by omega)
  simpa using this
def bit (rs : List Int) (a b : Int) : Bool := (Go.bits .and .u8 (shr .u8 (rd rs a) b) 1) == 1
theorem l01Bit_eq (rs : List Int) (a b : Int) (h0 : 0 ≤ b) (h1 : b < 6) : spec_l01Bit.f (rd rs a) b = some (bit rs a b) := by
  have e : IntKind.u64.wrap b = b := by rw [IntKind.wrap_u64]; omega
  unfold spec_l01Bit.f bit
  rw [e, if_pos h0]
def inn (rs : List Int) (a : Int) : Nat → Bool
  | 0 => true
  | d + 1 => (bit rs a (6 - ((d + 1 : Nat) : Int)) == bit rs (6 - ((d + 1 : Nat) : Int)) a) && inn rs a d
def out (rs : List Int) : Nat → Bool
  | 0 => true
  | d + 1 => (!decide (64 ≤ rd rs (6 - ((d + 1 : Nat) : Int))) && bit rs (6 - ((d + 1 : Nat) : Int)) (6 - ((d + 1 : Nat) : Int)) && inn rs (6 - ((d + 1 : Nat) : Int)) 6) && out rs d
section
variable (a0 a1 a2 a3 a4 a5 : Int)
theorem wrap_small {i : Int} (h0 : 0 ≤ i) (h : i < 6) : wrap64 (i + 1) = i + 1 := by unfold wrap64; omega
theorem spec_l1 (a : Int) (h0 : 0 ≤ a) (h6 : a < 6) (R : Bool) (hR : Ev (fun k => spec_l01Rules.l0 k (a + 1) a0 a1 a2 a3 a4 a5) R) : ∀ (d : Nat) (b : Int), d ≤ 6 → b = 6 - d →
    Ev (fun k => spec_l01Rules.l1 k a b a0 a1 a2 a3 a4 a5) (inn [a0, a1, a2, a3, a4, a5] a d && R) := by
  intro d
  induction d with
  | zero =>
    intro b _ hb
    refine Ev.step (fun k => by rw [spec_l01Rules.l1]) ?_
    simp only [show ¬ b < 6 by omega, ↓reduceIte, wrap_small h0 h6]
    exact hR
  | succ d ih =>
    intro b hd hb
    refine Ev.step (fun k => by rw [spec_l01Rules.l1]) ?_
    have hb0 : 0 ≤ b := by omega
    have hb6 : b < 6 := by omega
    simp only [hb6, h0, h6, hb0, ↓reduceIte, l01Bit_eq _ _ _ hb0 hb6, l01Bit_eq _ _ _ h0 h6, Option.bind_some, wrap_small hb0 hb6]
    rw [inn, ← hb]
    by_cases he : bit [a0, a1, a2, a3, a4, a5] a b = bit [a0, a1, a2, a3, a4, a5] b a
    · simp only [he, bne_self_eq_false, Bool.false_eq_true, ↓reduceIte, beq_self_eq_true, Bool.true_and]
      exact ih (b + 1) (by omega) (by omega)
    · simp only [bne_iff_ne.mpr he, ↓reduceIte, beq_eq_false_iff_ne.mpr he, Bool.false_and]
      exact Ev.now false
theorem spec_l0 : ∀ (d : Nat) (a : Int), d ≤ 6 → a = 6 - d → Ev (fun k => spec_l01Rules.l0 k a a0 a1 a2 a3 a4 a5) (out [a0, a1, a2, a3, a4, a5] d) := by
  intro d
  induction d with
  | zero =>
    intro a _ ha
    refine Ev.step (fun k => by rw [spec_l01Rules.l0]) ?_
    simp only [show ¬ a < 6 by omega, ↓reduceIte]
    exact Ev.now true
  | succ d ih =>
    intro a hd ha
    have h0 : 0 ≤ a := by omega
    have h6 : a < 6 := by omega
    refine Ev.step (fun k => by rw [spec_l01Rules.l0]) ?_
    simp only [h6, h0, ↓reduceIte, l01Bit_eq _ _ _ h0 h6, Option.bind_some]
    rw [out, ← ha]
    by_cases h64 : rd [a0, a1, a2, a3, a4, a5] a ≥ 64
    · simp only [h64, ↓reduceIte, decide_true, Bool.not_true, Bool.false_and]
      refine Ev.step (fun k => by rw [spec_l01Rules.j1]) ?_
      simp only [↓reduceIte]
      exact Ev.now false
    · simp only [h64, ↓reduceIte, decide_false, Bool.not_false, Bool.true_and]
      refine Ev.step (fun k => by rw [spec_l01Rules.j1]) ?_
      cases hb : bit [a0, a1, a2, a3, a4, a5] a a with
      | false => exact Ev.now false
      | true =>
        simp only [Bool.not_true, Bool.false_eq_true, ↓reduceIte, Bool.not_false, Bool.true_and]
        exact spec_l1 a0 a1 a2 a3 a4 a5 a h0 h6 _ (ih (a + 1) (by omega) (by omega)) 6 0 (by omega) (by omega)
theorem may_eq (a b : Int) (h0 : 0 ≤ a) (h6 : a < 6) (hb : 0 ≤ b) : impl_Rules_may.f a0 a1 a2 a3 a4 a5 a b = some (bit [a0, a1, a2, a3, a4, a5] a b) := by
  unfold impl_Rules_may.f
  rw [if_pos ⟨h0, h6, hb⟩]
  rfl
def innI (rs : List Int) (a : Int) : Nat → Bool
  | 0 => true
  | d + 1 => (bit rs a (a - ((d + 1 : Nat) : Int)) == bit rs (a - ((d + 1 : Nat) : Int)) a) && innI rs a d
def outI (rs : List Int) : Nat → Bool
  | 0 => true
  | d + 1 => (!decide (64 ≤ rd rs (6 - ((d + 1 : Nat) : Int))) && bit rs (6 - ((d + 1 : Nat) : Int)) (6 - ((d + 1 : Nat) : Int)) && innI rs (6 - ((d + 1 : Nat) : Int)) (5 - d)) && outI rs d
theorem impl_l1 (a : Int) (h0 : 0 ≤ a) (h6 : a < 6) (R : Bool) (hR : Ev (fun k => impl_ValidRules.l0 k (a + 1) a0 a1 a2 a3 a4 a5) R) : ∀ (d : Nat) (b : Int), (d : Int) ≤ a → b = a - d →
    Ev (fun k => impl_ValidRules.l1 k a a a b a0 a1 a2 a3 a4 a5) (innI [a0, a1, a2, a3, a4, a5] a d && R) := by
  intro d
  induction d with
  | zero =>
    intro b _ hb
    refine Ev.step (fun k => by rw [impl_ValidRules.l1]) ?_
    simp only [show ¬ b < a by omega, ↓reduceIte, show (a + 1) % 256 = a + 1 by omega]
    exact hR
  | succ d ih =>
    intro b hd hb
    refine Ev.step (fun k => by rw [impl_ValidRules.l1]) ?_
    have hb0 : 0 ≤ b := by omega
    have hb6 : b < 6 := by omega
    simp only [show b < a by omega, ↓reduceIte, may_eq _ _ _ _ _ _ a b h0 h6 hb0, may_eq _ _ _ _ _ _ b a hb0 hb6 h0, Option.bind_some, show (b + 1) % 256 = b + 1 by omega]
    rw [innI, ← hb]
    by_cases he : bit [a0, a1, a2, a3, a4, a5] a b = bit [a0, a1, a2, a3, a4, a5] b a
    · simp only [he, bne_self_eq_false, Bool.false_eq_true, ↓reduceIte, beq_self_eq_true, Bool.true_and]
      exact ih (b + 1) (by omega) (by omega)
    · simp only [bne_iff_ne.mpr he, ↓reduceIte, beq_eq_false_iff_ne.mpr he, Bool.false_and]
      exact Ev.now false
theorem impl_l0 (hn : ∀ a : Int, 0 ≤ a → a < 6 → 0 ≤ rd [a0, a1, a2, a3, a4, a5] a) : ∀ (d : Nat) (a : Int), d ≤ 6 → a = 6 - d → Ev (fun k => impl_ValidRules.l0 k a a0 a1 a2 a3 a4 a5) (outI [a0, a1, a2, a3, a4, a5] d) := by
  intro d
  induction d with
  | zero =>
    intro a _ ha
    refine Ev.step (fun k => by rw [impl_ValidRules.l0]) ?_
    simp only [show ¬ a < 6 by omega, ↓reduceIte]
    exact Ev.now true
  | succ d ih =>
    intro a hd ha
    have h0 : 0 ≤ a := by omega
    have h6 : a < 6 := by omega
    refine Ev.step (fun k => by rw [impl_ValidRules.l0]) ?_
    simp only [h6, h0, ↓reduceIte, may_eq _ _ _ _ _ _ a a h0 h6 h0, Option.bind_some]
    rw [outI, ← ha]
    have hz : 0 ≤ rd [a0, a1, a2, a3, a4, a5] a := hn a h0 h6
    by_cases h64 : rd [a0, a1, a2, a3, a4, a5] a / 64 = 0
    · simp only [h64, ↓reduceIte, show ¬ 64 ≤ rd [a0, a1, a2, a3, a4, a5] a by omega, decide_false, Bool.not_false, Bool.true_and]
      refine Ev.step (fun k => by rw [impl_ValidRules.j1]) ?_
      cases hb : bit [a0, a1, a2, a3, a4, a5] a a with
      | false => exact Ev.now false
      | true =>
        simp only [Bool.not_true, Bool.false_eq_true, ↓reduceIte, Bool.true_and]
        exact impl_l1 a0 a1 a2 a3 a4 a5 a h0 h6 _ (ih (a + 1) (by omega) (by omega)) (5 - d) 0 (by omega) (by omega)
    · simp only [h64, ↓reduceIte, show 64 ≤ rd [a0, a1, a2, a3, a4, a5] a by omega, decide_true, Bool.not_true, Bool.false_and]
      refine Ev.step (fun k => by rw [impl_ValidRules.j1]) ?_
      simp only [↓reduceIte]
      exact Ev.now false
end
theorem inn_iff (rs : List Int) (a : Int) : ∀ d : Nat, inn rs a d = true ↔ ∀ b : Int, 6 - d ≤ b → b < 6 → bit rs a b = bit rs b a
  | 0 => by simp only [inn, true_iff]; intro b h1 h2; omega
  | d + 1 => by
    rw [inn, Bool.and_eq_true, beq_iff_eq, inn_iff rs a d]
    refine ⟨fun ⟨h, k⟩ b h1 h2 => ?_, fun h => ⟨h _ (Int.le_refl _) (by omega), fun b h1 h2 => h b (by omega) h2⟩⟩
    by_cases e : b = 6 - ((d + 1 : Nat) : Int)
    · rw [e]; exact h
    · exact k b (by omega) h2
theorem out_iff (rs : List Int) : ∀ d : Nat, out rs d = true ↔ ∀ a : Int, 6 - d ≤ a → a < 6 → ¬ 64 ≤ rd rs a ∧ bit rs a a = true ∧ inn rs a 6 = true
  | 0 => by simp only [out, true_iff]; intro b h1 h2; omega
  | d + 1 => by
    rw [out, Bool.and_eq_true, out_iff rs d]
    simp only [Bool.and_eq_true, Bool.not_eq_true', decide_eq_false_iff_not]
    refine ⟨fun ⟨⟨⟨h, k⟩, l⟩, m⟩ b h1 h2 => ?_, fun h => ?_⟩
    · by_cases e : b = 6 - ((d + 1 : Nat) : Int)
      · rw [e]; exact ⟨h, k, l⟩
      · exact m b (by omega) h2
    · obtain ⟨x, y, z⟩ := h _ (Int.le_refl _) (by omega)
      exact ⟨⟨⟨x, y⟩, z⟩, fun b h1 h2 => h b (by omega) h2⟩
theorem innI_iff (rs : List Int) (a : Int) : ∀ d : Nat, innI rs a d = true ↔ ∀ b : Int, a - d ≤ b → b < a → bit rs a b = bit rs b a
  | 0 => by simp only [innI, true_iff]; intro b h1 h2; omega
  | d + 1 => by
    rw [innI, Bool.and_eq_true, beq_iff_eq, innI_iff rs a d]
    refine ⟨fun ⟨h, k⟩ b h1 h2 => ?_, fun h => ⟨h _ (Int.le_refl _) (by omega), fun b h1 h2 => h b (by omega) h2⟩⟩
    by_cases e : b = a - ((d + 1 : Nat) : Int)
    · rw [e]; exact h
    · exact k b (by omega) h2
theorem outI_iff (rs : List Int) : ∀ d : Nat, d ≤ 6 → (outI rs d = true ↔ ∀ a : Int, 6 - d ≤ a → a < 6 → ¬ 64 ≤ rd rs a ∧ bit rs a a = true ∧ ∀ b : Int, 0 ≤ b → b < a → bit rs a b = bit rs b a)
  | 0, _ => by simp only [outI, true_iff]; intro b h1 h2; omega
  | d + 1, hd => by
    rw [outI, Bool.and_eq_true, outI_iff rs d (by omega)]
    simp only [Bool.and_eq_true, Bool.not_eq_true', decide_eq_false_iff_not, innI_iff]
    refine ⟨fun ⟨⟨⟨h, k⟩, l⟩, m⟩ b h1 h2 => ?_, fun h => ?_⟩
    · by_cases e : b = 6 - ((d + 1 : Nat) : Int)
      · rw [e]; exact ⟨h, k, fun c h3 h4 => l c (by omega) h4⟩
      · exact m b (by omega) h2
    · obtain ⟨x, y, z⟩ := h _ (Int.le_refl _) (by omega)
      exact ⟨⟨⟨x, y⟩, fun c h3 h4 => z c (by omega) h4⟩, fun b h1 h2 => h b (by omega) h2⟩
theorem outs (rs : List Int) : outI rs 6 = out rs 6 := by
  rw [Bool.eq_iff_iff, out_iff, outI_iff rs 6 (Nat.le_refl _)]
  simp only [inn_iff]
  refine ⟨fun h a h1 h2 => ?_, fun h a h1 h2 => ?_⟩
  · obtain ⟨x, y, z⟩ := h a h1 h2
    refine ⟨x, y, fun b h3 h4 => ?_⟩
    rcases Int.lt_trichotomy a b with hlt | rfl | hgt
    · exact ((h b (by omega) h4).2.2 a (by omega) hlt).symm
    · rfl
    · exact z b (by omega) hgt
  · obtain ⟨x, y, z⟩ := h a h1 h2
    exact ⟨x, y, fun b h3 h4 => z b (by omega) (by omega)⟩
def rsOk (rs : List Int) : Bool := out rs 6
def rsWf (rs : List Int) : Prop := ∀ a : Int, 0 ≤ a → a < 6 → 0 ≤ rd rs a ∧ rd rs a ≤ 255
theorem rsWf_of (a0 a1 a2 a3 a4 a5 : Int) (w0 : (Lit.int .u8 a0).wf = true) (w1 : (Lit.int .u8 a1).wf = true) (w2 : (Lit.int .u8 a2).wf = true) (w3 : (Lit.int .u8 a3).wf = true) (w4 : (Lit.int .u8 a4).wf = true) (w5 : (Lit.int .u8 a5).wf = true) : rsWf [a0, a1, a2, a3, a4, a5] := by
  have b0 := bounds_u8 w0
  have b1 := bounds_u8 w1
  have b2 := bounds_u8 w2
  have b3 := bounds_u8 w3
  have b4 := bounds_u8 w4
  have b5 := bounds_u8 w5
  intro a h0 h6
  have : a = 0 ∨ a = 1 ∨ a = 2 ∨ a = 3 ∨ a = 4 ∨ a = 5 := by omega
  rcases this with rfl | rfl | rfl | rfl | rfl | rfl <;> simp [rd] <;> omega
theorem rules_spec (a0 a1 a2 a3 a4 a5 : Int) : Ev (fun k => spec_l01Rules.f k a0 a1 a2 a3 a4 a5) (rsOk [a0, a1, a2, a3, a4, a5]) := by
  unfold spec_l01Rules.f
  exact spec_l0 a0 a1 a2 a3 a4 a5 6 0 (Nat.le_refl _) (by omega)
theorem rules_impl (a0 a1 a2 a3 a4 a5 : Int) (h : rsWf [a0, a1, a2, a3, a4, a5]) : Ev (fun k => impl_ValidRules.f k a0 a1 a2 a3 a4 a5) (rsOk [a0, a1, a2, a3, a4, a5]) := by
  have hi := impl_l0 a0 a1 a2 a3 a4 a5 (fun a h0 h6 => (h a h0 h6).1) 6 0 (Nat.le_refl _) (by omega)
  rw [outs] at hi
  unfold impl_ValidRules.f
  exact hi
theorem garment_eq (x : S37) (h : gsm x = true) : spec_l01Garment.f x.f0 x.f1 x.f2 x.f3 = some (gok x) := by
  obtain ⟨h0, h0', h1, h1', h2, h2', h3, h3'⟩ := of_decide_eq_true h
  have e3 : wrap64 x.f3 = x.f3 := by unfold wrap64; omega
  unfold spec_l01Garment.f gok
  rw [l00In_eq, e3]
  by_cases q0 : x.f0 < 6 <;> by_cases q1 : 0 ≤ x.f1 <;> by_cases q1' : x.f1 ≤ x.f2 <;> by_cases q2 : x.f2 ≤ 95 <;> by_cases q3 : 1 ≤ x.f3 ∧ x.f3 ≤ 2000 <;> simp [q0, q1, q1', q2, q3]
theorem gars_eq (l : List S37) (h : l.all gsm = true) : impl_areGarments.f l = some (if l.all gok = true then 0 else 1) := by
  unfold impl_areGarments.f
  rw [if_pos h]
theorem gok_col {x : S37} (h : gok x = true) (hs : gsm x = true) : 0 ≤ x.f0 ∧ x.f0 < 6 := by
  obtain ⟨h0, h0', h1, h1', h2, h2', h3, h3'⟩ := of_decide_eq_true hs
  unfold gok at h
  simp only [Bool.and_eq_true, decide_eq_true_eq] at h
  exact ⟨h0, h.1⟩
def metS (rs : List Int) (x y : S37) : Bool := bit rs x.f0 y.f0 && decide (mx x.f1 y.f1 ≤ mn x.f2 y.f2)
theorem spec_meet_eq (a0 a1 a2 a3 a4 a5 : Int) (x y : S37) (sx : gsm x = true) (sy : gsm y = true) (gx : gok x = true) (gy : gok y = true) : spec_l01Meet.f a0 a1 a2 a3 a4 a5 x.f0 x.f1 x.f2 x.f3 y.f0 y.f1 y.f2 y.f3 = some (metS [a0, a1, a2, a3, a4, a5] x y) := by
  have hx := gok_col gx sx
  have hy := gok_col gy sy
  have e : wrap64 y.f0 = y.f0 := by unfold wrap64; omega
  unfold spec_l01Meet.f metS
  rw [if_pos hx.1, if_pos hx.2, e, l01Bit_eq _ _ _ hy.1 hy.2]
  unfold gok at gx gy
  simp only [Bool.and_eq_true, decide_eq_true_eq] at gx gy
  cases bit [a0, a1, a2, a3, a4, a5] x.f0 y.f0 with
  | false => simp
  | true =>
    simp only [Option.bind_some, ↓reduceIte, Bool.true_and]
    have hm : mx x.f1 y.f1 ≤ mn x.f2 y.f2 ↔ x.f1 ≤ y.f2 ∧ y.f1 ≤ x.f2 := by
      unfold mx mn
      split <;> split <;> omega
    by_cases h1 : x.f1 ≤ y.f2 <;> by_cases h2 : y.f1 ≤ x.f2 <;> simp [hm, h1, h2]
theorem areRules_ev (a0 a1 a2 a3 a4 a5 : Int) (h : rsWf [a0, a1, a2, a3, a4, a5]) : Ev (fun k => impl_areRules.f k a0 a1 a2 a3 a4 a5) (if rsOk [a0, a1, a2, a3, a4, a5] = true then 0 else 1) := by
  unfold impl_areRules.f
  refine Ev.bind (rules_impl a0 a1 a2 a3 a4 a5 h) ?_
  simp only [unless_eq, Option.bind_some]
  exact Ev.now _
def allC (l : List S37) (fine : Bool) : Int := if l.all gok = true then (if fine = true then (if (l.length : Int) ≤ 8 then 0 else 3) else 2) else 1
def codeL (rs : List Int) (l : List S37) (fine : Bool) : Int := if rsOk rs = true then allC l fine else 1
theorem l01All_l0 (l : List S37) (hs : l.all gsm = true) (hl : l.length ≤ 1048576) (fine : Bool) : ∀ (cs pre : List S37), l = pre ++ cs → Ev (fun k => spec_l01All.l0 k l fine (pre.length : Int)) (if cs.all gok = true then (if fine = true then (if (l.length : Int) ≤ 8 then 0 else 3) else 2) else 1) := by
  intro cs
  induction cs with
  | nil =>
    intro pre hpre
    refine Ev.step (fun k => by rw [spec_l01All.l0]) ?_
    have : l.length = pre.length := by rw [hpre]; simp
    simp only [show ¬ (pre.length : Int) < (l.length : Int) by omega, ↓reduceIte, List.all_nil]
    cases fine with
    | false => simp only [Bool.false_eq_true, ↓reduceIte]; exact Ev.now _
    | true =>
      simp only [↓reduceIte]
      by_cases h8 : (l.length : Int) ≤ 8
      · simp only [h8, show ¬ (l.length : Int) > 8 by omega, ↓reduceIte]; exact Ev.now _
      · simp only [h8, show (l.length : Int) > 8 by omega, ↓reduceIte]; exact Ev.now _
  | cons c cs ih =>
    intro pre hpre
    have hlen : l.length = pre.length + cs.length + 1 := by rw [hpre]; simp; omega
    have hc : rd_T37 l (pre.length : Int) = c := by rw [hpre]; exact rdm pre c cs
    have hsc : gsm c = true := List.all_eq_true.mp hs c (by rw [hpre]; simp)
    have hnext := ih (pre ++ [c]) (by rw [hpre]; simp)
    simp only [List.length_append, List.length_cons, List.length_nil, Nat.zero_add] at hnext
    refine Ev.step (fun k => by rw [spec_l01All.l0]) ?_
    simp only [show (pre.length : Int) < (l.length : Int) by omega, show (0 : Int) ≤ (pre.length : Int) by omega, ↓reduceIte, hc, garment_eq c hsc, Option.bind_some, wsuc (show pre.length < l.length by omega) hl, List.all_cons]
    by_cases hg : gok c = true
    · simp only [hg, Bool.true_and, ↓reduceIte]; exact hnext
    · rw [Bool.not_eq_true] at hg
      simp only [hg, Bool.false_eq_true, Bool.false_and, ↓reduceIte]; exact Ev.now _
theorem l01All_ev (l : List S37) (hs : l.all gsm = true) (hl : l.length ≤ 1048576) (fine : Bool) : Ev (fun k => spec_l01All.f k l fine) (allC l fine) := by
  unfold spec_l01All.f allC
  exact l01All_l0 l hs hl fine l [] rfl
theorem few_eq (l : List S37) : impl_fewGarments.f l = some (if (l.length : Int) ≤ 8 then 0 else 3) := by
  unfold impl_fewGarments.f
  rw [unless_eq]
  by_cases h : (l.length : Int) ≤ 8 <;> simp [h]
theorem l01Asked_ev (a0 a1 a2 a3 a4 a5 : Int) (l : List S37) (hs : l.all gsm = true) (hl : l.length ≤ 1048576) (fine : Bool) : Ev (fun k => spec_l01Asked.f k a0 a1 a2 a3 a4 a5 l fine) (codeL [a0, a1, a2, a3, a4, a5] l fine) := by
  unfold spec_l01Asked.f codeL
  refine Ev.bind (rules_spec a0 a1 a2 a3 a4 a5) ?_
  cases h : rsOk [a0, a1, a2, a3, a4, a5] with
  | false => simp only [Bool.false_eq_true, ↓reduceIte]; exact Ev.now _
  | true =>
    simp only [↓reduceIte]
    exact Ev.bind (l01All_ev l hs hl fine) (Ev.now _)
def holdB (h : Int) : Bool := decide (1 ≤ h ∧ h ≤ 20000)
theorem hold_eq (h : Int) : spec_l01Hold.f h = some (holdB h) := by
  unfold spec_l01Hold.f
  rw [l00In_eq]
  rfl
theorem loadCode_ev (a0 a1 a2 a3 a4 a5 : Int) (hr : rsWf [a0, a1, a2, a3, a4, a5]) (hold : Int) (l : List S37) (hs : l.all gsm = true) : Ev (fun k => impl_loadCode.f k a0 a1 a2 a3 a4 a5 hold l) (codeL [a0, a1, a2, a3, a4, a5] l (holdB hold)) := by
  unfold impl_loadCode.f
  refine Ev.bind (areRules_ev a0 a1 a2 a3 a4 a5 hr) ?_
  simp only [gars_eq l hs, within_eq, unless_eq, few_eq, Option.bind_some]
  refine Ev.bind (r := codeL [a0, a1, a2, a3, a4, a5] l (holdB hold)) ?_ (Ev.now _)
  have := firstOf_ev [(if rsOk [a0, a1, a2, a3, a4, a5] = true then 0 else 1), (if l.all gok = true then 0 else 1), (if decide (1 ≤ hold ∧ hold ≤ 20000) = true then 0 else 2), (if (l.length : Int) ≤ 8 then 0 else 3)] (by simp)
  refine cast ?_ this
  congr 1
  unfold codeL allC holdB
  cases rsOk [a0, a1, a2, a3, a4, a5] <;> cases l.all gok <;> cases decide (1 ≤ hold ∧ hold ≤ 20000) <;> by_cases h8 : (l.length : Int) ≤ 8 <;> simp [firstL, h8]
theorem met_eq (rs : List Int) (x y : S37) : metB rs x y = metS rs x y := rfl
theorem all_mem {l : List S37} {p : S37 → Bool} (h : l.all p = true) {x : S37} (hx : x ∈ l) : p x = true := List.all_eq_true.mp h x hx
theorem spec_weight_l0 (l : List S37) (hl : l.length ≤ 1048576) : ∀ (cs pre : List S37), l = pre ++ cs → ∀ a : Int, Ev (fun k => spec_l01Weight.l0 k l a (pre.length : Int)) (weightFrom a cs) := by
  intro cs
  induction cs with
  | nil =>
    intro pre hpre a
    refine Ev.step (fun k => by rw [spec_l01Weight.l0]) ?_
    have : l.length = pre.length := by rw [hpre]; simp
    simp only [show ¬ (pre.length : Int) < (l.length : Int) by omega, ↓reduceIte]
    exact Ev.now _
  | cons c cs ih =>
    intro pre hpre a
    have hlen : l.length = pre.length + cs.length + 1 := by rw [hpre]; simp; omega
    have hc : rd_T37 l (pre.length : Int) = c := by rw [hpre]; exact rdm pre c cs
    have hnext := ih (pre ++ [c]) (by rw [hpre]; simp)
    simp only [List.length_append, List.length_cons, List.length_nil, Nat.zero_add] at hnext
    refine Ev.step (fun k => by rw [spec_l01Weight.l0]) ?_
    simp only [show (pre.length : Int) < (l.length : Int) by omega, show (0 : Int) ≤ (pre.length : Int) by omega, ↓reduceIte, hc, wsuc (show pre.length < l.length by omega) hl]
    exact hnext _
theorem spec_weight_ev (l : List S37) (hl : l.length ≤ 1048576) : Ev (fun k => spec_l01Weight.f k l) (weightB l) := by
  unfold spec_l01Weight.f
  exact spec_weight_l0 l hl l [] rfl 0
section
variable (a0 a1 a2 a3 a4 a5 hold : Int) (l : List S37) (hs : l.all gsm = true) (hg : l.all gok = true) (hl : l.length ≤ 1048576)
include hs hg hl
theorem load_l1 (pre cs : List S37) (c : S37) (hpre : l = pre ++ c :: cs) (R : Bool) (hR : Ev (fun k => spec_l01Load.l0 k hold l ((pre.length + 1 : Nat) : Int) a0 a1 a2 a3 a4 a5) R) : ∀ (p2 p1 : List S37), pre = p1 ++ p2 →
    Ev (fun k => spec_l01Load.l1 k hold l (pre.length : Int) (p1.length : Int) a0 a1 a2 a3 a4 a5) (!(p2.any fun h => !metB [a0, a1, a2, a3, a4, a5] c h) && R) := by
  have hlen : l.length = pre.length + cs.length + 1 := by rw [hpre]; simp; omega
  have hc : rd_T37 l (pre.length : Int) = c := by rw [hpre]; exact rdm pre c cs
  have hcm : c ∈ l := by rw [hpre]; simp
  intro p2
  induction p2 with
  | nil =>
    intro p1 hp
    refine Ev.step (fun k => by rw [spec_l01Load.l1]) ?_
    have : pre.length = p1.length := by rw [hp]; simp
    simp only [show ¬ (p1.length : Int) < (pre.length : Int) by omega, ↓reduceIte, List.any_nil, Bool.not_false, Bool.true_and, wsuc (show pre.length < l.length by omega) hl]
    exact hR
  | cons d p2 ih =>
    intro p1 hp
    have hpl : pre.length = p1.length + p2.length + 1 := by rw [hp]; simp; omega
    have hdm : d ∈ l := by rw [hpre, hp]; simp
    have hd : rd_T37 l (p1.length : Int) = d := by rw [hpre, hp, List.append_assoc, List.cons_append]; exact rdm p1 d _
    have hnext := ih (p1 ++ [d]) (by rw [hp]; simp)
    simp only [List.length_append, List.length_cons, List.length_nil, Nat.zero_add] at hnext
    refine Ev.step (fun k => by rw [spec_l01Load.l1]) ?_
    simp only [show (p1.length : Int) < (pre.length : Int) by omega, show (0 : Int) ≤ (pre.length : Int) by omega, show (pre.length : Int) < (l.length : Int) by omega, show (0 : Int) ≤ (p1.length : Int) by omega, show (p1.length : Int) < (l.length : Int) by omega, ↓reduceIte, hc, hd,
      spec_meet_eq a0 a1 a2 a3 a4 a5 c d (all_mem hs hcm) (all_mem hs hdm) (all_mem hg hcm) (all_mem hg hdm), Option.bind_some, wsuc (show p1.length < l.length by omega) hl, List.any_cons, met_eq]
    simp only [met_eq] at hnext
    by_cases hm : metS [a0, a1, a2, a3, a4, a5] c d = true
    · simp only [hm, ↓reduceIte, Bool.not_true, Bool.false_or]
      exact hnext
    · rw [Bool.not_eq_true] at hm
      simp only [hm, Bool.false_eq_true, ↓reduceIte, Bool.not_false, Bool.true_or, Bool.not_true, Bool.false_and]
      exact Ev.now _
theorem load_l0 : ∀ (cs pre : List S37), l = pre ++ cs → Ev (fun k => spec_l01Load.l0 k hold l (pre.length : Int) a0 a1 a2 a3 a4 a5) (apartFrom [a0, a1, a2, a3, a4, a5] pre cs && decide (weightB l ≤ hold)) := by
  intro cs
  induction cs with
  | nil =>
    intro pre hpre
    refine Ev.step (fun k => by rw [spec_l01Load.l0]) ?_
    have : l.length = pre.length := by rw [hpre]; simp
    simp only [show ¬ (pre.length : Int) < (l.length : Int) by omega, ↓reduceIte, apartFrom, Bool.true_and]
    exact Ev.bind (spec_weight_ev l hl) (Ev.now _)
  | cons c cs ih =>
    intro pre hpre
    have hlen : l.length = pre.length + cs.length + 1 := by rw [hpre]; simp; omega
    have hnext := ih (pre ++ [c]) (by rw [hpre]; simp)
    simp only [List.length_append, List.length_cons, List.length_nil, Nat.zero_add] at hnext
    refine Ev.step (fun k => by rw [spec_l01Load.l0]) ?_
    simp only [show (pre.length : Int) < (l.length : Int) by omega, ↓reduceIte]
    rw [apartFrom, Bool.and_assoc]
    exact load_l1 a0 a1 a2 a3 a4 a5 hold l hs hg hl pre cs c hpre _ hnext pre [] rfl
theorem load_ev : Ev (fun k => spec_l01Load.f k a0 a1 a2 a3 a4 a5 hold l) (washB [a0, a1, a2, a3, a4, a5] hold l) := by
  unfold spec_l01Load.f washB
  exact load_l0 a0 a1 a2 a3 a4 a5 hold l hs hg hl l [] rfl
theorem wash_eq : impl_Rules_washable.f a0 a1 a2 a3 a4 a5 hold l = some (washB [a0, a1, a2, a3, a4, a5] hold l) := by
  have hc : colB l = true := by
    unfold colB
    rw [List.all_eq_true]
    intro x hx
    exact decide_eq_true (gok_col (all_mem hg hx) (all_mem hs hx))
  unfold impl_Rules_washable.f
  rw [if_pos ⟨hl, hc⟩]
end
def fwCode (rs : List Int) (hold : Int) (l2 l3 : List S37) : Int :=
  if rsOk rs = true then (if (l2 ++ l3).all gok = true then (if holdB hold = true then (if (l2.length : Int) ≤ 8 ∧ (l3.length : Int) ≤ 8 then 0 else 3) else 2) else 1) else 1
def fitsFrom (rs : List Int) (hold : Int) (l2 : List S37) : Nat → List S37 → List Int → List Int
  | _, [], out => out
  | i, c :: cs, out => fitsFrom rs hold l2 (i + 1) cs (if washB rs hold (l2 ++ [c]) = true then out ++ [(i : Int)] else out)
theorem fitsFrom_len (rs : List Int) (hold : Int) (l2 : List S37) : ∀ (cs : List S37) (i : Nat) (out : List Int), (fitsFrom rs hold l2 i cs out).length ≤ out.length + cs.length
  | [], i, out => by simp [fitsFrom]
  | c :: cs, i, out => by
    rw [fitsFrom]
    have := fitsFrom_len rs hold l2 cs (i + 1) (if washB rs hold (l2 ++ [c]) = true then out ++ [(i : Int)] else out)
    split at this <;> simp at this ⊢ <;> split <;> simp_all <;> omega
def fwR (rs : List Int) (hold : Int) (l2 l3 : List S37) : List Int × Int :=
  if fwCode rs hold l2 l3 = 0 then (if washB rs hold l2 = true then (fitsFrom rs hold l2 0 l3 [], 0) else ([], 4)) else ([], fwCode rs hold l2 l3)
theorem fwCode_ok {rs : List Int} {hold : Int} {l2 l3 : List S37} (h : fwCode rs hold l2 l3 = 0) : rsOk rs = true ∧ (l2 ++ l3).all gok = true ∧ holdB hold = true ∧ l2.length ≤ 8 ∧ l3.length ≤ 8 := by
  unfold fwCode at h
  by_cases h1 : rsOk rs = true
  · rw [if_pos h1] at h
    by_cases h2 : (l2 ++ l3).all gok = true
    · rw [if_pos h2] at h
      by_cases h3 : holdB hold = true
      · rw [if_pos h3] at h
        by_cases h4 : (l2.length : Int) ≤ 8 ∧ (l3.length : Int) ≤ 8
        · exact ⟨h1, h2, h3, by omega, by omega⟩
        · rw [if_neg h4] at h; omega
      · rw [if_neg h3] at h; omega
    · rw [if_neg h2] at h; omega
  · rw [if_neg h1] at h; omega
theorem all_left {l2 l3 : List S37} {p : S37 → Bool} (h : (l2 ++ l3).all p = true) : l2.all p = true := by rw [List.all_append, Bool.and_eq_true] at h; exact h.1
theorem all_right {l2 l3 : List S37} {p : S37 → Bool} (h : (l2 ++ l3).all p = true) : l3.all p = true := by rw [List.all_append, Bool.and_eq_true] at h; exact h.2
theorem all_snoc {l2 : List S37} {c : S37} {p : S37 → Bool} (h : l2.all p = true) (hc : p c = true) : (l2 ++ [c]).all p = true := by rw [List.all_append, Bool.and_eq_true]; exact ⟨h, by simp [hc]⟩
section
variable (a0 a1 a2 a3 a4 a5 hold : Int) (l2 l3 : List S37) (hs2 : l2.all gsm = true) (hs3 : l3.all gsm = true) (hg2 : l2.all gok = true) (hg3 : l3.all gok = true) (h2 : l2.length ≤ 8) (h3 : l3.length ≤ 8)
include hs2 hs3 hg2 hg3 h2 h3
theorem fw_spec_l0 : ∀ (cs pre : List S37), l3 = pre ++ cs → ∀ out : List Int, out.length ≤ pre.length → Ev (fun k => spec_FitsWith.l0 k hold l2 l3 out (pre.length : Int) a0 a1 a2 a3 a4 a5) (fitsFrom [a0, a1, a2, a3, a4, a5] hold l2 pre.length cs out, 0) := by
  intro cs
  induction cs with
  | nil =>
    intro pre hpre out ho
    refine Ev.step (fun k => by rw [spec_FitsWith.l0]) ?_
    have : l3.length = pre.length := by rw [hpre]; simp
    simp only [show ¬ (pre.length : Int) < (l3.length : Int) by omega, ↓reduceIte]
    exact Ev.now _
  | cons c cs ih =>
    intro pre hpre out ho
    have hlen : l3.length = pre.length + cs.length + 1 := by rw [hpre]; simp; omega
    have hc : rd_T37 l3 (pre.length : Int) = c := by rw [hpre]; exact rdm pre c cs
    have hcm : c ∈ l3 := by rw [hpre]; simp
    have hnext := ih (pre ++ [c]) (by rw [hpre]; simp)
    simp only [List.length_append, List.length_cons, List.length_nil, Nat.zero_add] at hnext
    refine Ev.step (fun k => by rw [spec_FitsWith.l0]) ?_
    simp only [show (pre.length : Int) < (l3.length : Int) by omega, show (0 : Int) ≤ (pre.length : Int) by omega, ↓reduceIte, hc, Option.bind_some, List.length_nil, List.nil_append, List.length_cons, Nat.zero_add, show l2.length < 23456248059221 by omega, show l2.length + 1 < 23456248059221 by omega, wsuc (show pre.length < l3.length by omega) (by omega : l3.length ≤ 1048576)]
    refine Ev.bind (load_ev a0 a1 a2 a3 a4 a5 hold (l2 ++ [c]) (all_snoc hs2 (all_mem hs3 hcm)) (all_snoc hg2 (all_mem hg3 hcm)) (by simp; omega)) ?_
    rw [fitsFrom]
    by_cases hw : washB [a0, a1, a2, a3, a4, a5] hold (l2 ++ [c]) = true
    · simp only [hw, ↓reduceIte, show out.length + 1 < 17592186044416 by omega]
      exact hnext _ (by simp; omega)
    · simp only [hw, Bool.false_eq_true, ↓reduceIte]
      exact hnext _ (by omega)
theorem fw_impl_l0 : ∀ (cs pre : List S37), l3 = pre ++ cs → ∀ out : List Int, out.length ≤ pre.length → Ev (fun k => impl_FitsWith.l0 k hold l2 out l3 (l3.length : Int) (pre.length : Int) a0 a1 a2 a3 a4 a5) (fitsFrom [a0, a1, a2, a3, a4, a5] hold l2 pre.length cs out, 0) := by
  intro cs
  induction cs with
  | nil =>
    intro pre hpre out ho
    refine Ev.step (fun k => by rw [impl_FitsWith.l0]) ?_
    have : l3.length = pre.length := by rw [hpre]; simp
    simp only [show ¬ (pre.length : Int) < (l3.length : Int) by omega, ↓reduceIte]
    exact Ev.now _
  | cons c cs ih =>
    intro pre hpre out ho
    have hlen : l3.length = pre.length + cs.length + 1 := by rw [hpre]; simp; omega
    have hc : rd_T37 l3 (pre.length : Int) = c := by rw [hpre]; exact rdm pre c cs
    have hcm : c ∈ l3 := by rw [hpre]; simp
    have hnext := ih (pre ++ [c]) (by rw [hpre]; simp)
    simp only [List.length_append, List.length_cons, List.length_nil, Nat.zero_add] at hnext
    have hcl : slices_Clone_impl_Garment.f l2 = some l2 := by unfold slices_Clone_impl_Garment.f; rw [if_pos (by omega)]
    have hwe : impl_Rules_washable.f a0 a1 a2 a3 a4 a5 hold (l2 ++ [c]) = some (washB [a0, a1, a2, a3, a4, a5] hold (l2 ++ [c])) := wash_eq a0 a1 a2 a3 a4 a5 hold (l2 ++ [c]) (all_snoc hs2 (all_mem hs3 hcm)) (all_snoc hg2 (all_mem hg3 hcm)) (by simp; omega)
    refine Ev.step (fun k => by rw [impl_FitsWith.l0]) ?_
    simp only [show (pre.length : Int) < (l3.length : Int) by omega, show (0 : Int) ≤ (pre.length : Int) by omega, ↓reduceIte, hc, Option.bind_some, hcl, List.length_cons, List.length_nil, Nat.zero_add, show l2.length + 1 < 23456248059221 by omega, hwe, wsuc (show pre.length < l3.length by omega) (by omega : l3.length ≤ 1048576)]
    rw [fitsFrom]
    by_cases hw : washB [a0, a1, a2, a3, a4, a5] hold (l2 ++ [c]) = true
    · simp only [hw, ↓reduceIte, show out.length + 1 < 17592186044416 by omega, Option.bind_some]
      exact hnext _ (by simp; omega)
    · simp only [hw, Bool.false_eq_true, ↓reduceIte]
      exact hnext _ (by omega)
end
theorem fw_spec (a0 a1 a2 a3 a4 a5 hold : Int) (l2 l3 : List S37) (hs2 : l2.all gsm = true) (hs3 : l3.all gsm = true) (hl : l2.length + l3.length ≤ 1048576) : Ev (fun k => spec_FitsWith.f k a0 a1 a2 a3 a4 a5 hold l2 l3) (fwR [a0, a1, a2, a3, a4, a5] hold l2 l3) := by
  unfold spec_FitsWith.f
  simp only [Option.bind_some, List.length_nil, Nat.zero_add, List.nil_append, show l2.length < 23456248059221 by omega, show l2.length + l3.length < 23456248059221 by omega, ↓reduceIte, hold_eq]
  refine Ev.bind (l01Asked_ev a0 a1 a2 a3 a4 a5 (l2 ++ l3) (by rw [List.all_append, hs2, hs3]; rfl) (by simp; omega) _) ?_
  -- the code behind the three tests
  have key : ∀ (b : Bool) (c : Int), (if b = true then 0 else c) = fwCode [a0, a1, a2, a3, a4, a5] hold l2 l3 → Ev (fun k => spec_FitsWith.j0 k hold l2 l3 [] c b a0 a1 a2 a3 a4 a5) (fwR [a0, a1, a2, a3, a4, a5] hold l2 l3) := by
    intro b c hbc
    have k1 : Ev (fun k => spec_FitsWith.j1 k hold l2 l3 [] (fwCode [a0, a1, a2, a3, a4, a5] hold l2 l3) a0 a1 a2 a3 a4 a5) (fwR [a0, a1, a2, a3, a4, a5] hold l2 l3) := by
      refine Ev.step (fun k => by rw [spec_FitsWith.j1]) ?_
      unfold fwR
      by_cases h : fwCode [a0, a1, a2, a3, a4, a5] hold l2 l3 = 0
      · obtain ⟨_, hg, _, h8, h8'⟩ := fwCode_ok h
        simp only [h, ↓reduceIte]
        refine Ev.bind (load_ev a0 a1 a2 a3 a4 a5 hold l2 hs2 (all_left hg) (by omega)) ?_
        refine Ev.step (fun k => by rw [spec_FitsWith.j2]) ?_
        by_cases hw : washB [a0, a1, a2, a3, a4, a5] hold l2 = true
        · simp only [hw, Bool.not_true, Bool.false_eq_true, ↓reduceIte]
          refine Ev.step (fun k => by rw [spec_FitsWith.j3]) ?_
          simp only [↓reduceIte]
          exact fw_spec_l0 a0 a1 a2 a3 a4 a5 hold l2 l3 hs2 hs3 (all_left hg) (all_right hg) h8 h8' l3 [] rfl [] (Nat.le_refl _)
        · rw [Bool.not_eq_true] at hw
          simp only [hw, Bool.not_false, Bool.false_eq_true, ↓reduceIte]
          refine Ev.step (fun k => by rw [spec_FitsWith.j3]) ?_
          simp only [show ¬ (4 : Int) = 0 by omega, ↓reduceIte]
          exact Ev.now _
      · simp only [h, ↓reduceIte]
        refine Ev.step (fun k => by rw [spec_FitsWith.j2]) ?_
        simp only [Bool.false_eq_true, ↓reduceIte]
        refine Ev.step (fun k => by rw [spec_FitsWith.j3]) ?_
        simp only [h, ↓reduceIte]
        exact Ev.now _
    refine Ev.step (fun k => by rw [spec_FitsWith.j0]) ?_
    cases b with
    | true =>
      simp only [↓reduceIte] at hbc ⊢
      rw [← hbc] at k1
      exact k1
    | false =>
      simp only [Bool.false_eq_true, ↓reduceIte] at hbc ⊢
      rw [← hbc] at k1
      exact k1
  unfold codeL allC
  unfold fwCode at key
  simp only [List.length_append] at key ⊢
  by_cases h1 : rsOk [a0, a1, a2, a3, a4, a5] = true
  · by_cases h2 : (l2 ++ l3).all gok = true
    · by_cases h3 : holdB hold = true
      · by_cases h4 : ((l2.length + l3.length : Nat) : Int) ≤ 8
        · simp only [h1, h2, h3, h4, ↓reduceIte, show ¬ (0 : Int) = 3 by omega] at key ⊢
          exact key false 0 (by rw [if_pos (show (l2.length : Int) ≤ 8 ∧ (l3.length : Int) ≤ 8 by omega)]; rfl)
        · simp only [h1, h2, h3, h4, ↓reduceIte] at key ⊢
          by_cases h5 : (l2.length : Int) ≤ 8
          · simp only [h5, ↓reduceIte, true_and] at key ⊢
            by_cases h6 : (l3.length : Int) ≤ 8
            · simp only [h6, decide_true, ↓reduceIte] at key ⊢
              exact key true 3 rfl
            · simp only [h6, decide_false, ↓reduceIte] at key ⊢
              exact key false 3 rfl
          · simp only [h5, ↓reduceIte, false_and] at key ⊢
            exact key false 3 rfl
      · simp only [h1, h2, h3, ↓reduceIte, show ¬ (2 : Int) = 3 by omega, Bool.false_eq_true] at key ⊢
        exact key false 2 rfl
    · simp only [h1, h2, ↓reduceIte, show ¬ (1 : Int) = 3 by omega, Bool.false_eq_true] at key ⊢
      exact key false 1 rfl
  · simp only [h1, ↓reduceIte, show ¬ (1 : Int) = 3 by omega, Bool.false_eq_true] at key ⊢
    exact key false 1 rfl
theorem fw_impl (a0 a1 a2 a3 a4 a5 hold : Int) (hr : rsWf [a0, a1, a2, a3, a4, a5]) (l2 l3 : List S37) (hs2 : l2.all gsm = true) (hs3 : l3.all gsm = true) (hl : l2.length + l3.length ≤ 1048576) : Ev (fun k => impl_FitsWith.f k a0 a1 a2 a3 a4 a5 hold l2 l3) (fwR [a0, a1, a2, a3, a4, a5] hold l2 l3) := by
  have hcc : slices_Concat_impl_Garment.f [l2, l3] = some (l2 ++ l3) := by
    unfold slices_Concat_impl_Garment.f
    rw [if_pos ⟨by simp, by simp [show l2.length ≤ 1048576 by omega, show l3.length ≤ 1048576 by omega]⟩]
    simp
  unfold impl_FitsWith.f
  simp only [hcc, gars_eq (l2 ++ l3) (by rw [List.all_append, hs2, hs3]; rfl), Option.bind_some, few_eq]
  refine Ev.bind (loadCode_ev a0 a1 a2 a3 a4 a5 hr hold [] (by simp)) ?_
  refine Ev.bind (a := fwCode [a0, a1, a2, a3, a4, a5] hold l2 l3) ?_ ?_
  · have := firstOf_ev [(if (l2 ++ l3).all gok = true then 0 else 1), codeL [a0, a1, a2, a3, a4, a5] [] (holdB hold), (if (l2.length : Int) ≤ 8 then 0 else 3), (if (l3.length : Int) ≤ 8 then 0 else 3)] (by simp)
    refine cast ?_ this
    congr 1
    unfold codeL allC fwCode
    cases rsOk [a0, a1, a2, a3, a4, a5] <;> cases (l2 ++ l3).all gok <;> cases holdB hold <;> by_cases h8 : (l2.length : Int) ≤ 8 <;> by_cases h9 : (l3.length : Int) ≤ 8 <;> simp [firstL, h8, h9]
  · unfold fwR
    by_cases h : fwCode [a0, a1, a2, a3, a4, a5] hold l2 l3 = 0
    · obtain ⟨_, hg, _, h8, h8'⟩ := fwCode_ok h
      simp only [h, ↓reduceIte, wash_eq a0 a1 a2 a3 a4 a5 hold l2 hs2 (all_left hg) (by omega), Option.bind_some]
      refine Ev.step (fun k => by rw [impl_FitsWith.j0]) ?_
      by_cases hw : washB [a0, a1, a2, a3, a4, a5] hold l2 = true
      · simp only [hw, Bool.not_true, Bool.false_eq_true, ↓reduceIte]
        refine Ev.step (fun k => by rw [impl_FitsWith.j1]) ?_
        simp only [↓reduceIte]
        exact fw_impl_l0 a0 a1 a2 a3 a4 a5 hold l2 l3 hs2 hs3 (all_left hg) (all_right hg) h8 h8' l3 [] rfl [] (Nat.le_refl _)
      · rw [Bool.not_eq_true] at hw
        simp only [hw, Bool.not_false, Bool.false_eq_true, ↓reduceIte]
        refine Ev.step (fun k => by rw [impl_FitsWith.j1]) ?_
        simp only [show ¬ (4 : Int) = 0 by omega, ↓reduceIte]
        exact Ev.now _
    · simp only [h, ↓reduceIte]
      refine Ev.step (fun k => by rw [impl_FitsWith.j0]) ?_
      simp only [Bool.false_eq_true, ↓reduceIte]
      refine Ev.step (fun k => by rw [impl_FitsWith.j1]) ?_
      simp only [h, ↓reduceIte]
      exact Ev.now _
theorem fwR_len (rs : List Int) (hold : Int) (l2 l3 : List S37) : (fwR rs hold l2 l3).1.length ≤ l3.length := by
  unfold fwR
  split
  · split
    · have := fitsFrom_len rs hold l2 l3 0 []
      simpa using this
    · simp
  · simp
theorem FnExactFitsWith (a0_0 : Int) (a0_1 : Int) (a0_2 : Int) (a0_3 : Int) (a0_4 : Int) (a0_5 : Int) (a1 : Int) (l2 : List S32) (l3 : List S32) (w0_0 : (Lit.int .u8 a0_0).wf = true) (w0_1 : (Lit.int .u8 a0_1).wf = true) (w0_2 : (Lit.int .u8 a0_2).wf = true) (w0_3 : (Lit.int .u8 a0_3).wf = true) (w0_4 : (Lit.int .u8 a0_4).wf = true) (w0_5 : (Lit.int .u8 a0_5).wf = true) (w1 : (Lit.int .i64 a1).wf = true) (y2 : l2.length ≤ 9223372036854775807) (w2 : ∀ x ∈ l2, (Lit.int .u8 x.f0).wf = true ∧ (Lit.int .i8 x.f1).wf = true ∧ (Lit.int .i8 x.f2).wf = true ∧ (Lit.int .i16 x.f3).wf = true) (y3 : l3.length ≤ 9223372036854775807) (w3 : ∀ x ∈ l3, (Lit.int .u8 x.f0).wf = true ∧ (Lit.int .i8 x.f1).wf = true ∧ (Lit.int .i8 x.f2).wf = true ∧ (Lit.int .i16 x.f3).wf = true) : ∃ k, laws_FnExactFitsWith.f k a0_0 a0_1 a0_2 a0_3 a0_4 a0_5 a1 l2 l3 = some true := by
  have hr := rsWf_of a0_0 a0_1 a0_2 a0_3 a0_4 a0_5 w0_0 w0_1 w0_2 w0_3 w0_4 w0_5
  refine Ev.rounds ?_
  unfold laws_FnExactFitsWith.f
  simp only [szGarmentS_eq l2 1048576 (by omega) (by omega) y2, laws_toRules.f, Option.bind_some]
  by_cases hl : (l2.length : Int) ≤ 1048576
  · simp only [hl, ↓reduceIte, show ¬ (1048576 - (l2.length : Int) < 0) by omega]
    simp only [szGarmentS_eq l3 (1048576 - (l2.length : Int)) (by omega) (by omega) y3, Option.bind_some]
    by_cases hm : (l3.length : Int) ≤ 1048576 - (l2.length : Int)
    · simp only [hm, ↓reduceIte, show ¬ (1048576 - (l2.length : Int) - (l3.length : Int) < 0) by omega]
      have h0 : l2.length ≤ 1048576 := by omega
      have h1 : l3.length ≤ 1048576 := by omega
      have s0 : (toS l2).length ≤ 1048576 := by rw [toS_len]; exact h0
      have s1 : (toS l3).length ≤ 1048576 := by rw [toS_len]; exact h1
      have s2 : (toS l2).length + (toS l3).length ≤ 1048576 := by rw [toS_len, toS_len]; omega
      have hs := toS_small w2
      have hs' := toS_small w3
      have hR : (fwR [a0_0, a0_1, a0_2, a0_3, a0_4, a0_5] a1 (toS l2) (toS l3)).1.length ≤ 1048576 := Nat.le_trans (fwR_len _ _ _ _) s1
      refine Ev.bind (toGarmentS_ev l2 h0) ?_
      refine Ev.bind (toGarmentS_ev l3 h1) ?_
      refine Ev.bind (fw_spec _ _ _ _ _ _ _ _ _ hs hs' s2) ?_
      refine Ev.bind (toGarmentS_ev l2 h0) ?_
      refine Ev.bind (toGarmentS_ev l3 h1) ?_
      refine Ev.bind (fw_impl _ _ _ _ _ _ _ hr _ _ hs hs' s2) ?_
      refine Ev.bind (eqInt64S_ev _ hR) ?_
      simp only [↓reduceIte, bne_self_eq_false]
      refine Ev.step (fun k => by rw [laws_FnExactFitsWith.j0]) ?_
      simp only [Bool.false_eq_true, ↓reduceIte]
      refine Ev.bind (toGarmentS_ev l2 h0) ?_
      refine Ev.bind (eqGarmentS_ev _ s0) ?_
      simp only [↓reduceIte]
      refine Ev.bind (toGarmentS_ev l3 h1) ?_
      refine Ev.bind (eqGarmentS_ev _ s1) ?_
      simp only [↓reduceIte]
      obtain ⟨r, hmk⟩ := markGarmentS_ev (toS l2) s0
      refine Ev.bind hmk ?_
      obtain ⟨r', hmk'⟩ := markGarmentS_evs (toS l2).length s0 (toS l3) s1
      refine Ev.bind hmk' ?_
      simp only [show ¬ ((4 * ((toS l2).length + (toS l3).length) + 1 : Nat) : Int) < 0 by omega, ↓reduceIte]
      refine Ev.bind (eqInt64S_ev _ hR) ?_
      simp only [↓reduceIte, bne_self_eq_false]
      refine Ev.step (fun k => by rw [laws_FnExactFitsWith.j1]) ?_
      simp only [Bool.false_eq_true, ↓reduceIte]
      refine Ev.bind (markInt64S_ev _ hR) ?_
      refine Ev.bind (heldInt64S_ev _ hR) ?_
      simp only [show ∀ n : Nat, ¬ ((n + 1 : Nat) : Int) < 0 by intro n; omega, ↓reduceIte, laws_toRules.f, Option.bind_some]
      refine Ev.bind (toGarmentS_ev l2 h0) ?_
      refine Ev.bind (toGarmentS_ev l3 h1) ?_
      refine Ev.bind (fw_impl _ _ _ _ _ _ _ hr _ _ hs hs' s2) ?_
      refine Ev.bind (eqInt64S_ev _ hR) ?_
      simp only [↓reduceIte, bne_self_eq_false]
      refine Ev.step (fun k => by rw [laws_FnExactFitsWith.j2]) ?_
      simp only [Bool.false_eq_true, ↓reduceIte]
      refine Ev.bind (heldInt64S_ev _ hR) ?_
      simp only [show ∀ n : Nat, ¬ ((n + 1 : Nat) : Int) < 0 by intro n; omega, ↓reduceIte]
      exact Ev.now _
    · simp only [hm, ↓reduceIte, show (-1 : Int) < 0 by omega]
      exact Ev.now _
  · simp only [hl, ↓reduceIte, show (-1 : Int) < 0 by omega]
    exact Ev.now _
end Go.Proofs.Ythodfhcaaidnmaa.Pure
