/- The plain law of FnExactCheapestLoads. -/
import Derived.Test.YthodfhcaaidnmaaCh9
import Derived.OpenShut
namespace Go.Proofs.Ythodfhcaaidnmaa.Pure
set_option linter.unusedSimpArgs false
set_option linter.unusedVariables false
open Go.RowKit Go.Proofs.Ythodfhcaaidnmaa.Ch Go.Proofs.YthodfhcaaidnmaaW.PrintWords Go.Proofs.YthodfhcaaidnmaaW.PrintLast Go.Proofs.YthodfhcaaidnmaaW.PrintMore
theorem rdm (pre : List S37) (c : S37) (cs : List S37) : rd_T37 (pre ++ c :: cs) (pre.length : Int) = c := by simp [rd_T37, List.getD_eq_getElem?_getD]
theorem rdim (pre : List Int) (c : Int) (cs : List Int) : rd (pre ++ c :: cs) (pre.length : Int) = c := by simp [rd, List.getD_eq_getElem?_getD]
theorem wsuc {i n : Nat} (h : i < n) (hn : n ≤ 1048576) : wrap64 ((i : Int) + 1) = ((i + 1 : Nat) : Int) := by unfold wrap64; omega
theorem l00In_eq (a b c : Int) : spec_l00In.f a b c = some (decide (b ≤ a ∧ a ≤ c)) := by
  unfold spec_l00In.f
  by_cases h : b ≤ a
  · rw [if_pos (show a ≥ b from h)]; simp [h]
  · rw [if_neg (show ¬ a ≥ b from h)]; simp [h]
theorem within_eq (a b c : Int) : impl_within.f a b c = some (decide (b ≤ a ∧ a ≤ c)) := l00In_eq a b c
theorem unless_eq (b : Bool) (c : Int) : impl_unless.f b c = some (if b = true then 0 else c) := by
  unfold impl_unless.f
  cases b <;> rfl
def firstL : List Int → Int
  | [] => 0
  | c :: cs => if c = 0 then firstL cs else c
theorem firstOf_l0 (l : List Int) (hl : l.length ≤ 1048576) : ∀ (cs pre : List Int), l = pre ++ cs → Ev (fun k => impl_firstOf.l0 k l (l.length : Int) (pre.length : Int)) (firstL cs) := by
  intro cs
  induction cs with
  | nil =>
    intro pre hpre
    refine Ev.step (fun k => by rw [impl_firstOf.l0]) ?_
    have : l.length = pre.length := by rw [hpre]; simp
    simp only [show ¬ (pre.length : Int) < (l.length : Int) by omega, ↓reduceIte]
    exact Ev.now _
  | cons c cs ih =>
    intro pre hpre
    have hlen : l.length = pre.length + cs.length + 1 := by rw [hpre]; simp; omega
    have hc : rd l (pre.length : Int) = c := by rw [hpre]; exact rdim pre c cs
    have hnext := ih (pre ++ [c]) (by rw [hpre]; simp)
    simp only [List.length_append, List.length_cons, List.length_nil, Nat.zero_add] at hnext
    refine Ev.step (fun k => by rw [impl_firstOf.l0]) ?_
    simp only [show (pre.length : Int) < (l.length : Int) by omega, show (0 : Int) ≤ (pre.length : Int) by omega, ↓reduceIte, hc, wsuc (show pre.length < l.length by omega) hl]
    rw [firstL]
    by_cases h0 : c = 0
    · simp only [h0, ↓reduceIte]
      exact hnext
    · simp only [h0, ↓reduceIte]
      exact Ev.now _
theorem firstOf_ev (l : List Int) (hl : l.length ≤ 1048576) : Ev (fun k => impl_firstOf.f k l) (firstL l) := by
  unfold impl_firstOf.f
  exact firstOf_l0 l hl l [] rfl
def toS (l : List S32) : List S37 := l.map fun x => ⟨x.f0, x.f1, x.f2, x.f3⟩
theorem toS_len (l : List S32) : (toS l).length = l.length := by simp [toS]
theorem rdL_mid (pre : List S32) (c : S32) (cs : List S32) : rd_T32 (pre ++ c :: cs) (pre.length : Int) = c := by simp [rd_T32, List.getD_eq_getElem?_getD]
theorem toGarmentS_l0 (l : List S32) (hl : l.length ≤ 1048576) : ∀ (cs pre : List S32), l = pre ++ cs →
    Ev (fun k => laws_toGarmentS.l0 k l (toS pre ++ List.replicate cs.length z37) (pre.length : Int)) (toS l) := by
  intro cs
  induction cs with
  | nil =>
    intro pre hpre
    refine Ev.step (fun k => by rw [laws_toGarmentS.l0]) ?_
    have : l.length = pre.length := by rw [hpre]; simp
    simp only [show ¬ (pre.length : Int) < (l.length : Int) by omega, ↓reduceIte]
    rw [show l = pre by rw [hpre]; simp]
    simp only [List.length_nil, List.replicate_zero, List.append_nil]
    exact Ev.now _
  | cons c cs ih =>
    intro pre hpre
    have hlen : l.length = pre.length + cs.length + 1 := by rw [hpre]; simp; omega
    have hc : rd_T32 l (pre.length : Int) = c := by rw [hpre]; exact rdL_mid pre c cs
    have hnext := ih (pre ++ [c]) (by rw [hpre]; simp)
    simp only [List.length_append, List.length_cons, List.length_nil, Nat.zero_add] at hnext
    have hx : (pre.length : Int) < ((toS pre ++ List.replicate (cs.length + 1) z37).length : Int) := by simp [toS]; omega
    have hset : (toS pre ++ List.replicate (cs.length + 1) z37).set (pre.length : Int).toNat (⟨c.f0, c.f1, c.f2, c.f3⟩ : S37) = toS (pre ++ [c]) ++ List.replicate cs.length z37 := by
      rw [Int.toNat_natCast, List.set_append_right _ _ (by simp [toS]), toS_len, Nat.sub_self, List.replicate_succ, List.set_cons_zero]
      simp [toS]
    refine Ev.step (fun k => by rw [laws_toGarmentS.l0]) ?_
    simp only [List.length_cons, show (pre.length : Int) < (l.length : Int) by omega, show (0 : Int) ≤ (pre.length : Int) by omega, ↓reduceIte, hc, laws_toGarment.f, Option.bind_some, hx, hset, wsuc (show pre.length < l.length by omega) hl]
    exact hnext
theorem toGarmentS_ev (l : List S32) (hl : l.length ≤ 1048576) : Ev (fun k => laws_toGarmentS.f k l) (toS l) := by
  have := toGarmentS_l0 l hl l [] rfl
  unfold laws_toGarmentS.f
  simp only [show (0 : Int) ≤ (l.length : Int) by omega, Int.toNat_natCast, show l.length ≤ 46912496118442 by omega, ↓reduceIte]
  exact this
theorem eqGarmentS_l0 (l : List S37) (hl : l.length ≤ 1048576) : ∀ (cs pre : List S37), l = pre ++ cs → Ev (fun k => laws_eqGarmentS.l0 k l l (pre.length : Int)) true := by
  intro cs
  induction cs with
  | nil =>
    intro pre hpre
    refine Ev.step (fun k => by rw [laws_eqGarmentS.l0]) ?_
    have : l.length = pre.length := by rw [hpre]; simp
    simp only [show ¬ (pre.length : Int) < (l.length : Int) by omega, ↓reduceIte]
    exact Ev.now _
  | cons c cs ih =>
    intro pre hpre
    have hlen : l.length = pre.length + cs.length + 1 := by rw [hpre]; simp; omega
    have hnext := ih (pre ++ [c]) (by rw [hpre]; simp)
    simp only [List.length_append, List.length_cons, List.length_nil, Nat.zero_add] at hnext
    refine Ev.step (fun k => by rw [laws_eqGarmentS.l0]) ?_
    simp only [show (pre.length : Int) < (l.length : Int) by omega, show (0 : Int) ≤ (pre.length : Int) by omega, ↓reduceIte, laws_eqGarment.f, Option.bind_some, wsuc (show pre.length < l.length by omega) hl]
    exact hnext
theorem eqGarmentS_ev (l : List S37) (hl : l.length ≤ 1048576) : Ev (fun k => laws_eqGarmentS.f k l l) true := by
  unfold laws_eqGarmentS.f
  simp only [↓reduceIte]
  exact eqGarmentS_l0 l hl l [] rfl
theorem szGarmentS_eq (l : List S32) (a : Int) (h0 : 0 ≤ a) (h1 : a ≤ 1048576) (hl : l.length ≤ 9223372036854775807) : laws_szGarmentS.f l a = some (if (l.length : Int) ≤ a then a - (l.length : Int) else -1) := by
  unfold laws_szGarmentS.f
  have e : wrap64 (a - (l.length : Int)) = a - (l.length : Int) := by unfold wrap64; omega
  rw [e]
  by_cases h : (l.length : Int) ≤ a
  · rw [if_neg (by omega), if_pos h]
  · rw [if_pos (by omega), if_neg h]
theorem toS_small {l : List S32} (w : ∀ x ∈ l, (Lit.int .u8 x.f0).wf = true ∧ (Lit.int .i8 x.f1).wf = true ∧ (Lit.int .i8 x.f2).wf = true ∧ (Lit.int .i16 x.f3).wf = true) : (toS l).all gsm = true := by
  rw [List.all_eq_true]
  intro x hx
  obtain ⟨y, hy, rfl⟩ := List.mem_map.mp hx
  have h0 := bounds_u8 (w y hy).1
  have h1 := bounds_i8 (w y hy).2.1
  have h2 := bounds_i8 (w y hy).2.2.1
  have h3 := bounds_i16 (w y hy).2.2.2
  exact decide_eq_true ⟨h0.1, h0.2, h1.1, h1.2, h2.1, h2.2, h3.1, h3.2⟩
theorem eqInt64S_l0 (l : List Int) (hl : l.length ≤ 1048576) : ∀ (cs pre : List Int), l = pre ++ cs → Ev (fun k => laws_eqInt64S.l0 k l l (pre.length : Int)) true := by
  intro cs
  induction cs with
  | nil =>
    intro pre hpre
    refine Ev.step (fun k => by rw [laws_eqInt64S.l0]) ?_
    have : l.length = pre.length := by rw [hpre]; simp
    simp only [show ¬ (pre.length : Int) < (l.length : Int) by omega, ↓reduceIte]
    exact Ev.now _
  | cons c cs ih =>
    intro pre hpre
    have hlen : l.length = pre.length + cs.length + 1 := by rw [hpre]; simp; omega
    have hnext := ih (pre ++ [c]) (by rw [hpre]; simp)
    simp only [List.length_append, List.length_cons, List.length_nil, Nat.zero_add] at hnext
    refine Ev.step (fun k => by rw [laws_eqInt64S.l0]) ?_
    simp only [show (pre.length : Int) < (l.length : Int) by omega, show (0 : Int) ≤ (pre.length : Int) by omega, ↓reduceIte, wsuc (show pre.length < l.length by omega) hl]
    exact hnext
theorem eqInt64S_ev (l : List Int) (hl : l.length ≤ 1048576) : Ev (fun k => laws_eqInt64S.f k l l) true := by
  unfold laws_eqInt64S.f
  simp only [↓reduceIte]
  exact eqInt64S_l0 l hl l [] rfl
def upFrom : Nat → Nat → List Int
  | _, 0 => []
  | a, n + 1 => (a : Int) :: upFrom (a + 1) n
theorem upFrom_len : ∀ n a, (upFrom a n).length = n
  | 0, _ => rfl
  | n + 1, a => by simp [upFrom, upFrom_len n]
theorem upFrom_snoc : ∀ n a, upFrom a (n + 1) = upFrom a n ++ [((a + n : Nat) : Int)]
  | 0, a => by simp [upFrom]
  | n + 1, a => by rw [upFrom, upFrom_snoc n (a + 1), upFrom, List.cons_append, show a + 1 + n = a + (n + 1) by omega]
theorem markInt64S_l0 : ∀ (cs : List Int) (n : Nat), n + cs.length ≤ 1048576 → Ev (fun k => laws_markInt64S.l0 k (upFrom 1 n ++ cs) ((n + 1 : Nat) : Int) (n : Int)) (((n + cs.length + 1 : Nat) : Int), upFrom 1 (n + cs.length)) := by
  intro cs
  induction cs with
  | nil =>
    intro n hn
    refine Ev.step (fun k => by rw [laws_markInt64S.l0]) ?_
    have : (upFrom 1 n).length = n := upFrom_len n 1
    simp only [List.append_nil, List.length_nil, Nat.add_zero, show ¬ (n : Int) < ((upFrom 1 n).length : Int) by omega, ↓reduceIte]
    exact Ev.now _
  | cons c cs ih =>
    intro n hn
    have hnext := ih (n + 1) (by simp only [List.length_cons] at hn; omega)
    simp only [List.length_cons] at hn
    have hlen : (upFrom 1 n ++ c :: cs).length = n + cs.length + 1 := by simp [upFrom_len]; omega
    have hset : (upFrom 1 n ++ c :: cs).set (n : Int).toNat ((n + 1 : Nat) : Int) = upFrom 1 (n + 1) ++ cs := by
      rw [Int.toNat_natCast, List.set_append_right _ _ (by simp [upFrom_len]), upFrom_len, Nat.sub_self, List.set_cons_zero, upFrom_snoc, Nat.add_comm 1 n]
      simp
    refine Ev.step (fun k => by rw [laws_markInt64S.l0]) ?_
    have hw : wrap64 (((n + 1 : Nat) : Int) + 1) = ((n + 1 + 1 : Nat) : Int) := by unfold wrap64; omega
    have hw0 : wrap64 ((n : Int) + 1) = ((n + 1 : Nat) : Int) := by unfold wrap64; omega
    simp only [show (n : Int) < ((upFrom 1 n ++ c :: cs).length : Int) by omega, show (0 : Int) ≤ (n : Int) by omega, ↓reduceIte, hset, hw, hw0]
    rw [show n + (c :: cs).length = n + 1 + cs.length by simp only [List.length_cons]; omega]
    exact hnext
theorem markInt64S_ev (l : List Int) (hl : l.length ≤ 1048576) : Ev (fun k => laws_markInt64S.f k l 1) (((l.length + 1 : Nat) : Int), upFrom 1 l.length) := by
  unfold laws_markInt64S.f
  have := markInt64S_l0 l 0 (by omega)
  simpa [upFrom] using this
theorem heldInt64S_l0 (m : Nat) (hm : m ≤ 1048576) : ∀ (d n : Nat), n + d = m → Ev (fun k => laws_heldInt64S.l0 k (upFrom 1 m) ((n + 1 : Nat) : Int) (n : Int)) ((m + 1 : Nat) : Int) := by
  intro d
  induction d with
  | zero =>
    intro n hn
    refine Ev.step (fun k => by rw [laws_heldInt64S.l0]) ?_
    have : (upFrom 1 m).length = m := upFrom_len m 1
    simp only [show ¬ (n : Int) < ((upFrom 1 m).length : Int) by omega, ↓reduceIte]
    rw [show n = m by omega]
    exact Ev.now _
  | succ d ih =>
    intro n hn
    have hlen : (upFrom 1 m).length = m := upFrom_len m 1
    have hget : ∀ (m a n : Nat), n < m → rd (upFrom a m) (n : Int) = ((a + n : Nat) : Int) := by
      intro m
      induction m with
      | zero => intro a n h; omega
      | succ m ihm =>
        intro a n h
        match n, h with
        | 0, _ => simp [rd, upFrom]
        | n + 1, h =>
          have := ihm (a + 1) n (by omega)
          simp only [rd, Int.toNat_natCast] at this ⊢
          rw [upFrom, List.getD_cons_succ, this, show a + 1 + n = a + (n + 1) by omega]
    have hr : rd (upFrom 1 m) (n : Int) = ((n + 1 : Nat) : Int) := by rw [hget m 1 n (by omega), Nat.add_comm]
    have hw : wrap64 (((n + 1 : Nat) : Int) + 1) = ((n + 1 + 1 : Nat) : Int) := by unfold wrap64; omega
    have hw0 : wrap64 ((n : Int) + 1) = ((n + 1 : Nat) : Int) := by unfold wrap64; omega
    refine Ev.step (fun k => by rw [laws_heldInt64S.l0]) ?_
    simp only [show (n : Int) < ((upFrom 1 m).length : Int) by omega, show (0 : Int) ≤ (n : Int) by omega, ↓reduceIte, hr, hw, hw0]
    exact ih (n + 1) (by omega)
theorem heldInt64S_ev (m : Nat) (hm : m ≤ 1048576) : Ev (fun k => laws_heldInt64S.f k (upFrom 1 m) 1) ((m + 1 : Nat) : Int) := by
  unfold laws_heldInt64S.f
  have := heldInt64S_l0 m hm m 0 (by omega)
  simpa using this
theorem markGarmentS_l0 : ∀ (d n : Nat) (l : List S37), l.length = n + d → n + d ≤ 1048576 → ∃ r : List S37, Ev (fun k => laws_markGarmentS.l0 k l ((4 * n + 1 : Nat) : Int) (n : Int)) (((4 * (n + d) + 1 : Nat) : Int), r) := by
  intro d
  induction d with
  | zero =>
    intro n l hl hn
    refine ⟨l, Ev.step (fun k => by rw [laws_markGarmentS.l0]) ?_⟩
    simp only [show ¬ (n : Int) < (l.length : Int) by omega, ↓reduceIte, Nat.add_zero]
    exact Ev.now _
  | succ d ih =>
    intro n l hl hn
    have hw1 : wrap64 (((4 * n + 1 : Nat) : Int) + 1) = ((4 * n + 2 : Nat) : Int) := by unfold wrap64; omega
    have hw2 : wrap64 (((4 * n + 2 : Nat) : Int) + 1) = ((4 * n + 3 : Nat) : Int) := by unfold wrap64; omega
    have hw3 : wrap64 (((4 * n + 3 : Nat) : Int) + 1) = ((4 * n + 4 : Nat) : Int) := by unfold wrap64; omega
    have hw4 : wrap64 (((4 * n + 4 : Nat) : Int) + 1) = ((4 * (n + 1) + 1 : Nat) : Int) := by unfold wrap64; omega
    have hw0 : wrap64 ((n : Int) + 1) = ((n + 1 : Nat) : Int) := by unfold wrap64; omega
    let y1 : List S37 := l.set (n : Int).toNat (⟨((4 * n + 1 : Nat) : Int) % 256, (rd_T37 l (n : Int)).f1, (rd_T37 l (n : Int)).f2, (rd_T37 l (n : Int)).f3⟩ : S37)
    let y2 : List S37 := y1.set (n : Int).toNat (⟨(rd_T37 y1 (n : Int)).f0, IntKind.i8.wrap ((4 * n + 2 : Nat) : Int), (rd_T37 y1 (n : Int)).f2, (rd_T37 y1 (n : Int)).f3⟩ : S37)
    let y3 : List S37 := y2.set (n : Int).toNat (⟨(rd_T37 y2 (n : Int)).f0, (rd_T37 y2 (n : Int)).f1, IntKind.i8.wrap ((4 * n + 3 : Nat) : Int), (rd_T37 y2 (n : Int)).f3⟩ : S37)
    let z : List S37 := y3.set (n : Int).toNat (⟨(rd_T37 y3 (n : Int)).f0, (rd_T37 y3 (n : Int)).f1, (rd_T37 y3 (n : Int)).f2, IntKind.i16.wrap ((4 * n + 4 : Nat) : Int)⟩ : S37)
    obtain ⟨r, hr⟩ := ih (n + 1) z (by simp [z, y3, y2, y1]; omega) (by omega)
    refine ⟨r, Ev.step (fun k => by rw [laws_markGarmentS.l0]) ?_⟩
    simp only [show (n : Int) < (l.length : Int) by omega, show (0 : Int) ≤ (n : Int) by omega, ↓reduceIte, Option.bind_some, hw1, hw2, hw3, hw4, hw0]
    rw [show n + (d + 1) = n + 1 + d by omega]
    exact hr
theorem markGarmentS_ev (l : List S37) (hl : l.length ≤ 1048576) : ∃ r : List S37, Ev (fun k => laws_markGarmentS.f k l 1) (((4 * l.length + 1 : Nat) : Int), r) := by
  unfold laws_markGarmentS.f
  have := markGarmentS_l0 l.length 0 l (by omega) (by omega)
  simpa using this
def bit (rs : List Int) (a b : Int) : Bool := (Go.bits .and .u8 (shr .u8 (rd rs a) b) 1) == 1
theorem l01Bit_eq (rs : List Int) (a b : Int) (h0 : 0 ≤ b) (h1 : b < 6) : spec_l01Bit.f (rd rs a) b = some (bit rs a b) := by
  have e : IntKind.u64.wrap b = b := by rw [IntKind.wrap_u64]; omega
  unfold spec_l01Bit.f bit
  rw [e, if_pos h0]
def inn (rs : List Int) (a : Int) : Nat → Bool
  | 0 => true
  | d + 1 => (bit rs a (6 - ((d + 1 : Nat) : Int)) == bit rs (6 - ((d + 1 : Nat) : Int)) a) && inn rs a d
def out (rs : List Int) : Nat → Bool
  | 0 => true
  | d + 1 => (!decide (64 ≤ rd rs (6 - ((d + 1 : Nat) : Int))) && bit rs (6 - ((d + 1 : Nat) : Int)) (6 - ((d + 1 : Nat) : Int)) && inn rs (6 - ((d + 1 : Nat) : Int)) 6) && out rs d
section
variable (a0 a1 a2 a3 a4 a5 : Int)
theorem wrap_small {i : Int} (h0 : 0 ≤ i) (h : i < 6) : wrap64 (i + 1) = i + 1 := by unfold wrap64; omega
theorem spec_l1 (a : Int) (h0 : 0 ≤ a) (h6 : a < 6) (R : Bool) (hR : Ev (fun k => spec_l01Rules.l0 k (a + 1) a0 a1 a2 a3 a4 a5) R) : ∀ (d : Nat) (b : Int), d ≤ 6 → b = 6 - d →
    Ev (fun k => spec_l01Rules.l1 k a b a0 a1 a2 a3 a4 a5) (inn [a0, a1, a2, a3, a4, a5] a d && R) := by
  intro d
  induction d with
  | zero =>
    intro b _ hb
    refine Ev.step (fun k => by rw [spec_l01Rules.l1]) ?_
    simp only [show ¬ b < 6 by omega, ↓reduceIte, wrap_small h0 h6]
    exact hR
  | succ d ih =>
    intro b hd hb
    refine Ev.step (fun k => by rw [spec_l01Rules.l1]) ?_
    have hb0 : 0 ≤ b := by omega
    have hb6 : b < 6 := by omega
    simp only [hb6, h0, h6, hb0, ↓reduceIte, l01Bit_eq _ _ _ hb0 hb6, l01Bit_eq _ _ _ h0 h6, Option.bind_some, wrap_small hb0 hb6]
    rw [inn, ← hb]
    by_cases he : bit [a0, a1, a2, a3, a4, a5] a b = bit [a0, a1, a2, a3, a4, a5] b a
    · simp only [he, bne_self_eq_false, Bool.false_eq_true, ↓reduceIte, beq_self_eq_true, Bool.true_and]
      exact ih (b + 1) (by omega) (by omega)
    · simp only [bne_iff_ne.mpr he, ↓reduceIte, beq_eq_false_iff_ne.mpr he, Bool.false_and]
      exact Ev.now false
theorem spec_l0 : ∀ (d : Nat) (a : Int), d ≤ 6 → a = 6 - d → Ev (fun k => spec_l01Rules.l0 k a a0 a1 a2 a3 a4 a5) (out [a0, a1, a2, a3, a4, a5] d) := by
  intro d
  induction d with
  | zero =>
    intro a _ ha
    refine Ev.step (fun k => by rw [spec_l01Rules.l0]) ?_
    simp only [show ¬ a < 6 by omega, ↓reduceIte]
    exact Ev.now true
  | succ d ih =>
    intro a hd ha
    have h0 : 0 ≤ a := by omega
    have h6 : a < 6 := by omega
    refine Ev.step (fun k => by rw [spec_l01Rules.l0]) ?_
    simp only [h6, h0, ↓reduceIte, l01Bit_eq _ _ _ h0 h6, Option.bind_some]
    rw [out, ← ha]
    by_cases h64 : rd [a0, a1, a2, a3, a4, a5] a ≥ 64
    · simp only [h64, ↓reduceIte, decide_true, Bool.not_true, Bool.false_and]
      refine Ev.step (fun k => by rw [spec_l01Rules.j1]) ?_
      simp only [↓reduceIte]
      exact Ev.now false
    · simp only [h64, ↓reduceIte, decide_false, Bool.not_false, Bool.true_and]
      refine Ev.step (fun k => by rw [spec_l01Rules.j1]) ?_
      cases hb : bit [a0, a1, a2, a3, a4, a5] a a with
      | false => exact Ev.now false
      | true =>
        simp only [Bool.not_true, Bool.false_eq_true, ↓reduceIte, Bool.not_false, Bool.true_and]
        exact spec_l1 a0 a1 a2 a3 a4 a5 a h0 h6 _ (ih (a + 1) (by omega) (by omega)) 6 0 (by omega) (by omega)

theorem may_eq (a b : Int) (h0 : 0 ≤ a) (h6 : a < 6) (hb : 0 ≤ b) : impl_Rules_may.f a0 a1 a2 a3 a4 a5 a b = some (bit [a0, a1, a2, a3, a4, a5] a b) := by
  unfold impl_Rules_may.f
  rw [if_pos ⟨h0, h6, hb⟩]
  rfl
/-- The program's own order: below the diagonal alone. -/
def innI (rs : List Int) (a : Int) : Nat → Bool
  | 0 => true
  | d + 1 => (bit rs a (a - ((d + 1 : Nat) : Int)) == bit rs (a - ((d + 1 : Nat) : Int)) a) && innI rs a d
def outI (rs : List Int) : Nat → Bool
  | 0 => true
  | d + 1 => (!decide (64 ≤ rd rs (6 - ((d + 1 : Nat) : Int))) && bit rs (6 - ((d + 1 : Nat) : Int)) (6 - ((d + 1 : Nat) : Int)) && innI rs (6 - ((d + 1 : Nat) : Int)) (5 - d)) && outI rs d
theorem impl_l1 (a : Int) (h0 : 0 ≤ a) (h6 : a < 6) (R : Bool) (hR : Ev (fun k => impl_ValidRules.l0 k (a + 1) a0 a1 a2 a3 a4 a5) R) : ∀ (d : Nat) (b : Int), (d : Int) ≤ a → b = a - d →
    Ev (fun k => impl_ValidRules.l1 k a a a b a0 a1 a2 a3 a4 a5) (innI [a0, a1, a2, a3, a4, a5] a d && R) := by
  intro d
  induction d with
  | zero =>
    intro b _ hb
    refine Ev.step (fun k => by rw [impl_ValidRules.l1]) ?_
    simp only [show ¬ b < a by omega, ↓reduceIte, show (a + 1) % 256 = a + 1 by omega]
    exact hR
  | succ d ih =>
    intro b hd hb
    refine Ev.step (fun k => by rw [impl_ValidRules.l1]) ?_
    have hb0 : 0 ≤ b := by omega
    have hb6 : b < 6 := by omega
    simp only [show b < a by omega, ↓reduceIte, may_eq _ _ _ _ _ _ a b h0 h6 hb0, may_eq _ _ _ _ _ _ b a hb0 hb6 h0, Option.bind_some, show (b + 1) % 256 = b + 1 by omega]
    rw [innI, ← hb]
    by_cases he : bit [a0, a1, a2, a3, a4, a5] a b = bit [a0, a1, a2, a3, a4, a5] b a
    · simp only [he, bne_self_eq_false, Bool.false_eq_true, ↓reduceIte, beq_self_eq_true, Bool.true_and]
      exact ih (b + 1) (by omega) (by omega)
    · simp only [bne_iff_ne.mpr he, ↓reduceIte, beq_eq_false_iff_ne.mpr he, Bool.false_and]
      exact Ev.now false
theorem impl_l0 (hn : ∀ a : Int, 0 ≤ a → a < 6 → 0 ≤ rd [a0, a1, a2, a3, a4, a5] a) : ∀ (d : Nat) (a : Int), d ≤ 6 → a = 6 - d → Ev (fun k => impl_ValidRules.l0 k a a0 a1 a2 a3 a4 a5) (outI [a0, a1, a2, a3, a4, a5] d) := by
  intro d
  induction d with
  | zero =>
    intro a _ ha
    refine Ev.step (fun k => by rw [impl_ValidRules.l0]) ?_
    simp only [show ¬ a < 6 by omega, ↓reduceIte]
    exact Ev.now true
  | succ d ih =>
    intro a hd ha
    have h0 : 0 ≤ a := by omega
    have h6 : a < 6 := by omega
    refine Ev.step (fun k => by rw [impl_ValidRules.l0]) ?_
    simp only [h6, h0, ↓reduceIte, may_eq _ _ _ _ _ _ a a h0 h6 h0, Option.bind_some]
    rw [outI, ← ha]
    have hz : 0 ≤ rd [a0, a1, a2, a3, a4, a5] a := hn a h0 h6
    by_cases h64 : rd [a0, a1, a2, a3, a4, a5] a / 64 = 0
    · simp only [h64, ↓reduceIte, show ¬ 64 ≤ rd [a0, a1, a2, a3, a4, a5] a by omega, decide_false, Bool.not_false, Bool.true_and]
      refine Ev.step (fun k => by rw [impl_ValidRules.j1]) ?_
      cases hb : bit [a0, a1, a2, a3, a4, a5] a a with
      | false => exact Ev.now false
      | true =>
        simp only [Bool.not_true, Bool.false_eq_true, ↓reduceIte, Bool.true_and]
        exact impl_l1 a0 a1 a2 a3 a4 a5 a h0 h6 _ (ih (a + 1) (by omega) (by omega)) (5 - d) 0 (by omega) (by omega)
    · simp only [h64, ↓reduceIte, show 64 ≤ rd [a0, a1, a2, a3, a4, a5] a by omega, decide_true, Bool.not_true, Bool.false_and]
      refine Ev.step (fun k => by rw [impl_ValidRules.j1]) ?_
      simp only [↓reduceIte]
      exact Ev.now false
end
theorem inn_iff (rs : List Int) (a : Int) : ∀ d : Nat, inn rs a d = true ↔ ∀ b : Int, 6 - d ≤ b → b < 6 → bit rs a b = bit rs b a
  | 0 => by simp only [inn, true_iff]; intro b h1 h2; omega
  | d + 1 => by
    rw [inn, Bool.and_eq_true, beq_iff_eq, inn_iff rs a d]
    refine ⟨fun ⟨h, k⟩ b h1 h2 => ?_, fun h => ⟨h _ (Int.le_refl _) (by omega), fun b h1 h2 => h b (by omega) h2⟩⟩
    by_cases e : b = 6 - ((d + 1 : Nat) : Int)
    · rw [e]; exact h
    · exact k b (by omega) h2
theorem out_iff (rs : List Int) : ∀ d : Nat, out rs d = true ↔ ∀ a : Int, 6 - d ≤ a → a < 6 → ¬ 64 ≤ rd rs a ∧ bit rs a a = true ∧ inn rs a 6 = true
  | 0 => by simp only [out, true_iff]; intro b h1 h2; omega
  | d + 1 => by
    rw [out, Bool.and_eq_true, out_iff rs d]
    simp only [Bool.and_eq_true, Bool.not_eq_true', decide_eq_false_iff_not]
    refine ⟨fun ⟨⟨⟨h, k⟩, l⟩, m⟩ b h1 h2 => ?_, fun h => ?_⟩
    · by_cases e : b = 6 - ((d + 1 : Nat) : Int)
      · rw [e]; exact ⟨h, k, l⟩
      · exact m b (by omega) h2
    · obtain ⟨x, y, z⟩ := h _ (Int.le_refl _) (by omega)
      exact ⟨⟨⟨x, y⟩, z⟩, fun b h1 h2 => h b (by omega) h2⟩
theorem innI_iff (rs : List Int) (a : Int) : ∀ d : Nat, innI rs a d = true ↔ ∀ b : Int, a - d ≤ b → b < a → bit rs a b = bit rs b a
  | 0 => by simp only [innI, true_iff]; intro b h1 h2; omega
  | d + 1 => by
    rw [innI, Bool.and_eq_true, beq_iff_eq, innI_iff rs a d]
    refine ⟨fun ⟨h, k⟩ b h1 h2 => ?_, fun h => ⟨h _ (Int.le_refl _) (by omega), fun b h1 h2 => h b (by omega) h2⟩⟩
    by_cases e : b = a - ((d + 1 : Nat) : Int)
    · rw [e]; exact h
    · exact k b (by omega) h2
theorem outI_iff (rs : List Int) : ∀ d : Nat, d ≤ 6 → (outI rs d = true ↔ ∀ a : Int, 6 - d ≤ a → a < 6 → ¬ 64 ≤ rd rs a ∧ bit rs a a = true ∧ ∀ b : Int, 0 ≤ b → b < a → bit rs a b = bit rs b a)
  | 0, _ => by simp only [outI, true_iff]; intro b h1 h2; omega
  | d + 1, hd => by
    rw [outI, Bool.and_eq_true, outI_iff rs d (by omega)]
    simp only [Bool.and_eq_true, Bool.not_eq_true', decide_eq_false_iff_not, innI_iff]
    refine ⟨fun ⟨⟨⟨h, k⟩, l⟩, m⟩ b h1 h2 => ?_, fun h => ?_⟩
    · by_cases e : b = 6 - ((d + 1 : Nat) : Int)
      · rw [e]; exact ⟨h, k, fun c h3 h4 => l c (by omega) h4⟩
      · exact m b (by omega) h2
    · obtain ⟨x, y, z⟩ := h _ (Int.le_refl _) (by omega)
      exact ⟨⟨⟨x, y⟩, fun c h3 h4 => z c (by omega) h4⟩, fun b h1 h2 => h b (by omega) h2⟩
theorem outs (rs : List Int) : outI rs 6 = out rs 6 := by
  rw [Bool.eq_iff_iff, out_iff, outI_iff rs 6 (Nat.le_refl _)]
  simp only [inn_iff]
  refine ⟨fun h a h1 h2 => ?_, fun h a h1 h2 => ?_⟩
  · obtain ⟨x, y, z⟩ := h a h1 h2
    refine ⟨x, y, fun b h3 h4 => ?_⟩
    rcases Int.lt_trichotomy a b with hlt | rfl | hgt
    · exact ((h b (by omega) h4).2.2 a (by omega) hlt).symm
    · rfl
    · exact z b (by omega) hgt
  · obtain ⟨x, y, z⟩ := h a h1 h2
    exact ⟨x, y, fun b h3 h4 => z b (by omega) (by omega)⟩
def rsOk (rs : List Int) : Bool := out rs 6
def rsWf (rs : List Int) : Prop := ∀ a : Int, 0 ≤ a → a < 6 → 0 ≤ rd rs a ∧ rd rs a ≤ 255
theorem rsWf_of (a0 a1 a2 a3 a4 a5 : Int) (w0 : (Lit.int .u8 a0).wf = true) (w1 : (Lit.int .u8 a1).wf = true) (w2 : (Lit.int .u8 a2).wf = true) (w3 : (Lit.int .u8 a3).wf = true) (w4 : (Lit.int .u8 a4).wf = true) (w5 : (Lit.int .u8 a5).wf = true) : rsWf [a0, a1, a2, a3, a4, a5] := by
  have b0 := bounds_u8 w0
  have b1 := bounds_u8 w1
  have b2 := bounds_u8 w2
  have b3 := bounds_u8 w3
  have b4 := bounds_u8 w4
  have b5 := bounds_u8 w5
  intro a h0 h6
  have : a = 0 ∨ a = 1 ∨ a = 2 ∨ a = 3 ∨ a = 4 ∨ a = 5 := by omega
  rcases this with rfl | rfl | rfl | rfl | rfl | rfl <;> simp [rd] <;> omega
theorem rules_spec (a0 a1 a2 a3 a4 a5 : Int) : Ev (fun k => spec_l01Rules.f k a0 a1 a2 a3 a4 a5) (rsOk [a0, a1, a2, a3, a4, a5]) := by
  unfold spec_l01Rules.f
  exact spec_l0 a0 a1 a2 a3 a4 a5 6 0 (Nat.le_refl _) (by omega)
theorem rules_impl (a0 a1 a2 a3 a4 a5 : Int) (h : rsWf [a0, a1, a2, a3, a4, a5]) : Ev (fun k => impl_ValidRules.f k a0 a1 a2 a3 a4 a5) (rsOk [a0, a1, a2, a3, a4, a5]) := by
  have hi := impl_l0 a0 a1 a2 a3 a4 a5 (fun a h0 h6 => (h a h0 h6).1) 6 0 (Nat.le_refl _) (by omega)
  rw [outs] at hi
  unfold impl_ValidRules.f
  exact hi
theorem garment_eq (x : S37) (h : gsm x = true) : spec_l01Garment.f x.f0 x.f1 x.f2 x.f3 = some (gok x) := by
  obtain ⟨h0, h0', h1, h1', h2, h2', h3, h3'⟩ := of_decide_eq_true h
  have e3 : wrap64 x.f3 = x.f3 := by unfold wrap64; omega
  unfold spec_l01Garment.f gok
  rw [l00In_eq, e3]
  by_cases q0 : x.f0 < 6 <;> by_cases q1 : 0 ≤ x.f1 <;> by_cases q1' : x.f1 ≤ x.f2 <;> by_cases q2 : x.f2 ≤ 95 <;> by_cases q3 : 1 ≤ x.f3 ∧ x.f3 ≤ 2000 <;> simp [q0, q1, q1', q2, q3]
theorem gars_eq (l : List S37) (h : l.all gsm = true) : impl_areGarments.f l = some (if l.all gok = true then 0 else 1) := by
  unfold impl_areGarments.f
  rw [if_pos h]
theorem gok_col {x : S37} (h : gok x = true) (hs : gsm x = true) : 0 ≤ x.f0 ∧ x.f0 < 6 := by
  obtain ⟨h0, h0', h1, h1', h2, h2', h3, h3'⟩ := of_decide_eq_true hs
  unfold gok at h
  simp only [Bool.and_eq_true, decide_eq_true_eq] at h
  exact ⟨h0, h.1⟩
def metS (rs : List Int) (x y : S37) : Bool := bit rs x.f0 y.f0 && decide (mx x.f1 y.f1 ≤ mn x.f2 y.f2)
theorem impl_meet_eq (a0 a1 a2 a3 a4 a5 : Int) (x y : S37) (hx : 0 ≤ x.f0 ∧ x.f0 < 6) (hy : 0 ≤ y.f0) : impl_Rules_meet.f a0 a1 a2 a3 a4 a5 x.f0 x.f1 x.f2 x.f3 y.f0 y.f1 y.f2 y.f3 = some (metS [a0, a1, a2, a3, a4, a5] x y) := by
  unfold impl_Rules_meet.f metS
  rw [may_eq _ _ _ _ _ _ _ _ hx.1 hx.2 hy]
  cases bit [a0, a1, a2, a3, a4, a5] x.f0 y.f0 <;> simp
theorem spec_meet_eq (a0 a1 a2 a3 a4 a5 : Int) (x y : S37) (sx : gsm x = true) (sy : gsm y = true) (gx : gok x = true) (gy : gok y = true) : spec_l01Meet.f a0 a1 a2 a3 a4 a5 x.f0 x.f1 x.f2 x.f3 y.f0 y.f1 y.f2 y.f3 = some (metS [a0, a1, a2, a3, a4, a5] x y) := by
  have hx := gok_col gx sx
  have hy := gok_col gy sy
  have e : wrap64 y.f0 = y.f0 := by unfold wrap64; omega
  unfold spec_l01Meet.f metS
  rw [if_pos hx.1, if_pos hx.2, e, l01Bit_eq _ _ _ hy.1 hy.2]
  unfold gok at gx gy
  simp only [Bool.and_eq_true, decide_eq_true_eq] at gx gy
  cases bit [a0, a1, a2, a3, a4, a5] x.f0 y.f0 with
  | false => simp
  | true =>
    simp only [Option.bind_some, ↓reduceIte, Bool.true_and]
    have hm : mx x.f1 y.f1 ≤ mn x.f2 y.f2 ↔ x.f1 ≤ y.f2 ∧ y.f1 ≤ x.f2 := by
      unfold mx mn
      split <;> split <;> omega
    by_cases h1 : x.f1 ≤ y.f2 <;> by_cases h2 : y.f1 ≤ x.f2 <;> simp [hm, h1, h2]
theorem areRules_ev (a0 a1 a2 a3 a4 a5 : Int) (h : rsWf [a0, a1, a2, a3, a4, a5]) : Ev (fun k => impl_areRules.f k a0 a1 a2 a3 a4 a5) (if rsOk [a0, a1, a2, a3, a4, a5] = true then 0 else 1) := by
  unfold impl_areRules.f
  refine Ev.bind (rules_impl a0 a1 a2 a3 a4 a5 h) ?_
  simp only [unless_eq, Option.bind_some]
  exact Ev.now _
def allC (l : List S37) (fine : Bool) : Int := if l.all gok = true then (if fine = true then (if (l.length : Int) ≤ 8 then 0 else 3) else 2) else 1
def codeL (rs : List Int) (l : List S37) (fine : Bool) : Int := if rsOk rs = true then allC l fine else 1
theorem l01All_l0 (l : List S37) (hs : l.all gsm = true) (hl : l.length ≤ 1048576) (fine : Bool) : ∀ (cs pre : List S37), l = pre ++ cs → Ev (fun k => spec_l01All.l0 k l fine (pre.length : Int)) (if cs.all gok = true then (if fine = true then (if (l.length : Int) ≤ 8 then 0 else 3) else 2) else 1) := by
  intro cs
  induction cs with
  | nil =>
    intro pre hpre
    refine Ev.step (fun k => by rw [spec_l01All.l0]) ?_
    have : l.length = pre.length := by rw [hpre]; simp
    simp only [show ¬ (pre.length : Int) < (l.length : Int) by omega, ↓reduceIte, List.all_nil]
    cases fine with
    | false => simp only [Bool.false_eq_true, ↓reduceIte]; exact Ev.now _
    | true =>
      simp only [↓reduceIte]
      by_cases h8 : (l.length : Int) ≤ 8
      · simp only [h8, show ¬ (l.length : Int) > 8 by omega, ↓reduceIte]; exact Ev.now _
      · simp only [h8, show (l.length : Int) > 8 by omega, ↓reduceIte]; exact Ev.now _
  | cons c cs ih =>
    intro pre hpre
    have hlen : l.length = pre.length + cs.length + 1 := by rw [hpre]; simp; omega
    have hc : rd_T37 l (pre.length : Int) = c := by rw [hpre]; exact rdm pre c cs
    have hsc : gsm c = true := List.all_eq_true.mp hs c (by rw [hpre]; simp)
    have hnext := ih (pre ++ [c]) (by rw [hpre]; simp)
    simp only [List.length_append, List.length_cons, List.length_nil, Nat.zero_add] at hnext
    refine Ev.step (fun k => by rw [spec_l01All.l0]) ?_
    simp only [show (pre.length : Int) < (l.length : Int) by omega, show (0 : Int) ≤ (pre.length : Int) by omega, ↓reduceIte, hc, garment_eq c hsc, Option.bind_some, wsuc (show pre.length < l.length by omega) hl, List.all_cons]
    by_cases hg : gok c = true
    · simp only [hg, Bool.true_and, ↓reduceIte]; exact hnext
    · rw [Bool.not_eq_true] at hg
      simp only [hg, Bool.false_eq_true, Bool.false_and, ↓reduceIte]; exact Ev.now _
theorem l01All_ev (l : List S37) (hs : l.all gsm = true) (hl : l.length ≤ 1048576) (fine : Bool) : Ev (fun k => spec_l01All.f k l fine) (allC l fine) := by
  unfold spec_l01All.f allC
  exact l01All_l0 l hs hl fine l [] rfl
theorem few_eq (l : List S37) : impl_fewGarments.f l = some (if (l.length : Int) ≤ 8 then 0 else 3) := by
  unfold impl_fewGarments.f
  rw [unless_eq]
  by_cases h : (l.length : Int) ≤ 8 <;> simp [h]
theorem l01Asked_ev (a0 a1 a2 a3 a4 a5 : Int) (l : List S37) (hs : l.all gsm = true) (hl : l.length ≤ 1048576) (fine : Bool) : Ev (fun k => spec_l01Asked.f k a0 a1 a2 a3 a4 a5 l fine) (codeL [a0, a1, a2, a3, a4, a5] l fine) := by
  unfold spec_l01Asked.f codeL
  refine Ev.bind (rules_spec a0 a1 a2 a3 a4 a5) ?_
  cases h : rsOk [a0, a1, a2, a3, a4, a5] with
  | false => simp only [Bool.false_eq_true, ↓reduceIte]; exact Ev.now _
  | true =>
    simp only [↓reduceIte]
    exact Ev.bind (l01All_ev l hs hl fine) (Ev.now _)
def holdB (h : Int) : Bool := decide (1 ≤ h ∧ h ≤ 20000)
theorem hold_eq (h : Int) : spec_l01Hold.f h = some (holdB h) := by
  unfold spec_l01Hold.f
  rw [l00In_eq]
  rfl
theorem loadCode_ev (a0 a1 a2 a3 a4 a5 : Int) (hr : rsWf [a0, a1, a2, a3, a4, a5]) (hold : Int) (l : List S37) (hs : l.all gsm = true) : Ev (fun k => impl_loadCode.f k a0 a1 a2 a3 a4 a5 hold l) (codeL [a0, a1, a2, a3, a4, a5] l (holdB hold)) := by
  unfold impl_loadCode.f
  refine Ev.bind (areRules_ev a0 a1 a2 a3 a4 a5 hr) ?_
  simp only [gars_eq l hs, within_eq, unless_eq, few_eq, Option.bind_some]
  refine Ev.bind (r := codeL [a0, a1, a2, a3, a4, a5] l (holdB hold)) ?_ (Ev.now _)
  have := firstOf_ev [(if rsOk [a0, a1, a2, a3, a4, a5] = true then 0 else 1), (if l.all gok = true then 0 else 1), (if decide (1 ≤ hold ∧ hold ≤ 20000) = true then 0 else 2), (if (l.length : Int) ≤ 8 then 0 else 3)] (by simp)
  refine cast ?_ this
  congr 1
  unfold codeL allC holdB
  cases rsOk [a0, a1, a2, a3, a4, a5] <;> cases l.all gok <;> cases decide (1 ≤ hold ∧ hold ≤ 20000) <;> by_cases h8 : (l.length : Int) ≤ 8 <;> simp [firstL, h8]
theorem met_eq (rs : List Int) (x y : S37) : metB rs x y = metS rs x y := rfl
theorem all_mem {l : List S37} {p : S37 → Bool} (h : l.all p = true) {x : S37} (hx : x ∈ l) : p x = true := List.all_eq_true.mp h x hx
theorem spec_weight_l0 (l : List S37) (hl : l.length ≤ 1048576) : ∀ (cs pre : List S37), l = pre ++ cs → ∀ a : Int, Ev (fun k => spec_l01Weight.l0 k l a (pre.length : Int)) (weightFrom a cs) := by
  intro cs
  induction cs with
  | nil =>
    intro pre hpre a
    refine Ev.step (fun k => by rw [spec_l01Weight.l0]) ?_
    have : l.length = pre.length := by rw [hpre]; simp
    simp only [show ¬ (pre.length : Int) < (l.length : Int) by omega, ↓reduceIte]
    exact Ev.now _
  | cons c cs ih =>
    intro pre hpre a
    have hlen : l.length = pre.length + cs.length + 1 := by rw [hpre]; simp; omega
    have hc : rd_T37 l (pre.length : Int) = c := by rw [hpre]; exact rdm pre c cs
    have hnext := ih (pre ++ [c]) (by rw [hpre]; simp)
    simp only [List.length_append, List.length_cons, List.length_nil, Nat.zero_add] at hnext
    refine Ev.step (fun k => by rw [spec_l01Weight.l0]) ?_
    simp only [show (pre.length : Int) < (l.length : Int) by omega, show (0 : Int) ≤ (pre.length : Int) by omega, ↓reduceIte, hc, wsuc (show pre.length < l.length by omega) hl]
    exact hnext _
theorem spec_weight_ev (l : List S37) (hl : l.length ≤ 1048576) : Ev (fun k => spec_l01Weight.f k l) (weightB l) := by
  unfold spec_l01Weight.f
  exact spec_weight_l0 l hl l [] rfl 0
section
variable (a0 a1 a2 a3 a4 a5 hold : Int) (l : List S37) (hs : l.all gsm = true) (hg : l.all gok = true) (hl : l.length ≤ 1048576)
include hs hg hl
theorem load_l1 (pre cs : List S37) (c : S37) (hpre : l = pre ++ c :: cs) (R : Bool) (hR : Ev (fun k => spec_l01Load.l0 k hold l ((pre.length + 1 : Nat) : Int) a0 a1 a2 a3 a4 a5) R) : ∀ (p2 p1 : List S37), pre = p1 ++ p2 →
    Ev (fun k => spec_l01Load.l1 k hold l (pre.length : Int) (p1.length : Int) a0 a1 a2 a3 a4 a5) (!(p2.any fun h => !metB [a0, a1, a2, a3, a4, a5] c h) && R) := by
  have hlen : l.length = pre.length + cs.length + 1 := by rw [hpre]; simp; omega
  have hc : rd_T37 l (pre.length : Int) = c := by rw [hpre]; exact rdm pre c cs
  have hcm : c ∈ l := by rw [hpre]; simp
  intro p2
  induction p2 with
  | nil =>
    intro p1 hp
    refine Ev.step (fun k => by rw [spec_l01Load.l1]) ?_
    have : pre.length = p1.length := by rw [hp]; simp
    simp only [show ¬ (p1.length : Int) < (pre.length : Int) by omega, ↓reduceIte, List.any_nil, Bool.not_false, Bool.true_and, wsuc (show pre.length < l.length by omega) hl]
    exact hR
  | cons d p2 ih =>
    intro p1 hp
    have hpl : pre.length = p1.length + p2.length + 1 := by rw [hp]; simp; omega
    have hdm : d ∈ l := by rw [hpre, hp]; simp
    have hd : rd_T37 l (p1.length : Int) = d := by rw [hpre, hp, List.append_assoc, List.cons_append]; exact rdm p1 d _
    have hnext := ih (p1 ++ [d]) (by rw [hp]; simp)
    simp only [List.length_append, List.length_cons, List.length_nil, Nat.zero_add] at hnext
    refine Ev.step (fun k => by rw [spec_l01Load.l1]) ?_
    simp only [show (p1.length : Int) < (pre.length : Int) by omega, show (0 : Int) ≤ (pre.length : Int) by omega, show (pre.length : Int) < (l.length : Int) by omega, show (0 : Int) ≤ (p1.length : Int) by omega, show (p1.length : Int) < (l.length : Int) by omega, ↓reduceIte, hc, hd,
      spec_meet_eq a0 a1 a2 a3 a4 a5 c d (all_mem hs hcm) (all_mem hs hdm) (all_mem hg hcm) (all_mem hg hdm), Option.bind_some, wsuc (show p1.length < l.length by omega) hl, List.any_cons, met_eq]
    simp only [met_eq] at hnext
    by_cases hm : metS [a0, a1, a2, a3, a4, a5] c d = true
    · simp only [hm, ↓reduceIte, Bool.not_true, Bool.false_or]
      exact hnext
    · rw [Bool.not_eq_true] at hm
      simp only [hm, Bool.false_eq_true, ↓reduceIte, Bool.not_false, Bool.true_or, Bool.not_true, Bool.false_and]
      exact Ev.now _
theorem load_l0 : ∀ (cs pre : List S37), l = pre ++ cs → Ev (fun k => spec_l01Load.l0 k hold l (pre.length : Int) a0 a1 a2 a3 a4 a5) (apartFrom [a0, a1, a2, a3, a4, a5] pre cs && decide (weightB l ≤ hold)) := by
  intro cs
  induction cs with
  | nil =>
    intro pre hpre
    refine Ev.step (fun k => by rw [spec_l01Load.l0]) ?_
    have : l.length = pre.length := by rw [hpre]; simp
    simp only [show ¬ (pre.length : Int) < (l.length : Int) by omega, ↓reduceIte, apartFrom, Bool.true_and]
    exact Ev.bind (spec_weight_ev l hl) (Ev.now _)
  | cons c cs ih =>
    intro pre hpre
    have hlen : l.length = pre.length + cs.length + 1 := by rw [hpre]; simp; omega
    have hnext := ih (pre ++ [c]) (by rw [hpre]; simp)
    simp only [List.length_append, List.length_cons, List.length_nil, Nat.zero_add] at hnext
    refine Ev.step (fun k => by rw [spec_l01Load.l0]) ?_
    simp only [show (pre.length : Int) < (l.length : Int) by omega, ↓reduceIte]
    rw [apartFrom, Bool.and_assoc]
    exact load_l1 a0 a1 a2 a3 a4 a5 hold l hs hg hl pre cs c hpre _ hnext pre [] rfl
theorem load_ev : Ev (fun k => spec_l01Load.f k a0 a1 a2 a3 a4 a5 hold l) (washB [a0, a1, a2, a3, a4, a5] hold l) := by
  unfold spec_l01Load.f washB
  exact load_l0 a0 a1 a2 a3 a4 a5 hold l hs hg hl l [] rfl
theorem wash_eq : impl_Rules_washable.f a0 a1 a2 a3 a4 a5 hold l = some (washB [a0, a1, a2, a3, a4, a5] hold l) := by
  have hc : colB l = true := by
    unfold colB
    rw [List.all_eq_true]
    intro x hx
    exact decide_eq_true (gok_col (all_mem hg hx) (all_mem hs hx))
  unfold impl_Rules_washable.f
  rw [if_pos ⟨hl, hc⟩]
end
theorem codeL_ok {rs : List Int} {l : List S37} {fine : Bool} (h : codeL rs l fine = 0) : rsOk rs = true ∧ l.all gok = true ∧ fine = true ∧ l.length ≤ 8 := by
  unfold codeL allC at h
  by_cases h1 : rsOk rs = true
  · rw [if_pos h1] at h
    by_cases h2 : l.all gok = true
    · rw [if_pos h2] at h
      by_cases h3 : fine = true
      · rw [if_pos h3] at h
        by_cases h4 : (l.length : Int) ≤ 8
        · exact ⟨h1, h2, h3, by omega⟩
        · rw [if_neg h4] at h; omega
      · rw [if_neg h3] at h; omega
    · rw [if_neg h2] at h; omega
  · rw [if_neg h1] at h; omega
theorem l01With_l0 (l : List S37) (o : List Int) (n : Int) (ho : o.length ≤ 1048576) : ∀ (cs pre : List Int) (ls lp : List S37), o = pre ++ cs → l = lp ++ ls → lp.length = pre.length → cs.length ≤ ls.length → ∀ x : List S37, x.length ≤ pre.length →
    Ev (fun k => spec_l01With.l0 k l o n x (pre.length : Int)) (x ++ withB ls cs n) := by
  intro cs
  induction cs with
  | nil =>
    intro pre ls lp hpre hl hlp hle x hx
    refine Ev.step (fun k => by rw [spec_l01With.l0]) ?_
    have : o.length = pre.length := by rw [hpre]; simp
    simp only [show ¬ (pre.length : Int) < (o.length : Int) by omega, ↓reduceIte]
    rw [show x ++ withB ls [] n = x by simp [withB]]
    exact Ev.now _
  | cons c cs ih =>
    intro pre ls lp hpre hl hlp hle x hx
    match ls, hl, hle with
    | [], _, h => simp at h
    | d :: ls, hl, hle =>
    have hlen : o.length = pre.length + cs.length + 1 := by rw [hpre]; simp; omega
    have hllen : l.length = lp.length + ls.length + 1 := by rw [hl]; simp; omega
    have hc : rd o (pre.length : Int) = c := by rw [hpre]; exact rdim pre c cs
    have hd : rd_T37 l (pre.length : Int) = d := by rw [hl, ← hlp]; exact rdm lp d ls
    have hnext := ih (pre ++ [c]) ls (lp ++ [d]) (by rw [hpre]; simp) (by rw [hl]; simp) (by simp [hlp]) (by simpa using hle)
    simp only [List.length_append, List.length_cons, List.length_nil, Nat.zero_add] at hnext
    refine Ev.step (fun k => by rw [spec_l01With.l0]) ?_
    simp only [show (pre.length : Int) < (o.length : Int) by omega, show (0 : Int) ≤ (pre.length : Int) by omega, ↓reduceIte, hc, hd, show (pre.length : Int) < (l.length : Int) by omega, show x.length < 23456248059221 by omega, wsuc (show pre.length < o.length by omega) ho]
    by_cases h : c = n
    · simp only [h, ↓reduceIte]
      rw [show x ++ withB (d :: ls) (n :: cs) n = (x ++ [d]) ++ withB ls cs n by simp [withB]]
      exact hnext _ (by simp; omega)
    · simp only [h, ↓reduceIte]
      rw [show x ++ withB (d :: ls) (c :: cs) n = x ++ withB ls cs n by simp [withB, h]]
      exact hnext _ (by omega)
theorem l01With_ev (l : List S37) (o : List Int) (n : Int) (ho : o.length ≤ 1048576) (hle : o.length ≤ l.length) : Ev (fun k => spec_l01With.f k l o n) (withB l o n) := by
  unfold spec_l01With.f
  exact l01With_l0 l o n ho o [] l [] rfl rfl rfl hle [] (Nat.le_refl _)
theorem withB_len (l : List S37) (o : List Int) (n : Int) : (withB l o n).length ≤ o.length := by
  unfold withB
  rw [List.length_map]
  refine Nat.le_trans (List.length_filter_le _ _) ?_
  rw [List.length_zip]
  omega
def aloneL (rs : List Int) (hold : Int) (l : List S37) (fine : Bool) : Int := if codeL rs l fine = 0 then (if lightB hold l = true then 0 else 6) else codeL rs l fine
theorem alone_l0 (hold : Int) (l : List S37) (hl : l.length ≤ 1048576) : ∀ (cs pre : List S37), l = pre ++ cs → Ev (fun k => spec_l01Alone.l0 k hold l 0 (pre.length : Int)) (if lightB hold cs = true then 0 else 6) := by
  intro cs
  induction cs with
  | nil =>
    intro pre hpre
    refine Ev.step (fun k => by rw [spec_l01Alone.l0]) ?_
    have : l.length = pre.length := by rw [hpre]; simp
    simp only [show ¬ (pre.length : Int) < (l.length : Int) by omega, ↓reduceIte]
    refine Ev.step (fun k => by rw [spec_l01Alone.j2]) ?_
    simp only [Bool.false_eq_true, ↓reduceIte, lightB, List.all_nil]
    exact Ev.now _
  | cons c cs ih =>
    intro pre hpre
    have hlen : l.length = pre.length + cs.length + 1 := by rw [hpre]; simp; omega
    have hc : rd_T37 l (pre.length : Int) = c := by rw [hpre]; exact rdm pre c cs
    have hnext := ih (pre ++ [c]) (by rw [hpre]; simp)
    simp only [List.length_append, List.length_cons, List.length_nil, Nat.zero_add] at hnext
    refine Ev.step (fun k => by rw [spec_l01Alone.l0]) ?_
    simp only [show (pre.length : Int) < (l.length : Int) by omega, ↓reduceIte]
    refine Ev.step (fun k => by rw [spec_l01Alone.j2]) ?_
    simp only [beq_self_eq_true, show (pre.length : Int) < (l.length : Int) by omega, show (0 : Int) ≤ (pre.length : Int) by omega, ↓reduceIte, hc, wsuc (show pre.length < l.length by omega) hl]
    unfold lightB at hnext ⊢
    rw [List.all_cons]
    by_cases h : wrap64 c.f3 > hold
    · simp only [h, ↓reduceIte, decide_true, Bool.not_true, Bool.false_and, Bool.false_eq_true]
      refine Ev.step (fun k => by rw [spec_l01Alone.l0]) ?_
      by_cases h2 : ((pre.length + 1 : Nat) : Int) < (l.length : Int)
      · simp only [h2, ↓reduceIte]
        refine Ev.step (fun k => by rw [spec_l01Alone.j2]) ?_
        simp only [show ((6 : Int) == 0) = false from rfl, Bool.false_eq_true, ↓reduceIte]
        exact Ev.now _
      · simp only [h2, ↓reduceIte]
        refine Ev.step (fun k => by rw [spec_l01Alone.j2]) ?_
        simp only [Bool.false_eq_true, ↓reduceIte]
        exact Ev.now _
    · simp only [h, ↓reduceIte, decide_false, Bool.not_false, Bool.true_and]
      exact hnext
theorem alone_c (hold : Int) (l : List S37) (c : Int) (hc : c ≠ 0) : Ev (fun k => spec_l01Alone.l0 k hold l c 0) c := by
  have hb : (c == 0) = false := beq_eq_false_iff_ne.mpr hc
  refine Ev.step (fun k => by rw [spec_l01Alone.l0]) ?_
  by_cases h : (0 : Int) < (l.length : Int)
  · simp only [h, ↓reduceIte, hb]
    refine Ev.step (fun k => by rw [spec_l01Alone.j2]) ?_
    simp only [Bool.false_eq_true, ↓reduceIte]
    exact Ev.now _
  · simp only [h, ↓reduceIte]
    refine Ev.step (fun k => by rw [spec_l01Alone.j2]) ?_
    simp only [Bool.false_eq_true, ↓reduceIte]
    exact Ev.now _
theorem alone_ev (a0 a1 a2 a3 a4 a5 hold : Int) (l : List S37) (hs : l.all gsm = true) (hl : l.length ≤ 1048576) (fine : Bool) : Ev (fun k => spec_l01Alone.f k a0 a1 a2 a3 a4 a5 hold l fine) (aloneL [a0, a1, a2, a3, a4, a5] hold l (holdB hold && fine)) := by
  have hj : ∀ f : Bool, Ev (fun k => spec_l01Alone.j0 k hold l (codeL [a0, a1, a2, a3, a4, a5] l f)) (aloneL [a0, a1, a2, a3, a4, a5] hold l f) := by
    intro f
    refine Ev.step (fun k => by rw [spec_l01Alone.j0]) ?_
    unfold aloneL
    by_cases h : codeL [a0, a1, a2, a3, a4, a5] l f = 0
    · simp only [h, ↓reduceIte]
      exact alone_l0 hold l hl l [] rfl
    · simp only [h, ↓reduceIte]
      exact alone_c hold l _ h
  unfold spec_l01Alone.f
  simp only [hold_eq, Option.bind_some]
  by_cases hh : holdB hold = true
  · simp only [hh, ↓reduceIte, Bool.true_and]
    exact Ev.bind (l01Asked_ev a0 a1 a2 a3 a4 a5 l hs hl fine) (hj fine)
  · rw [Bool.not_eq_true] at hh
    simp only [hh, Bool.false_eq_true, ↓reduceIte, Bool.false_and]
    exact Ev.bind (l01Asked_ev a0 a1 a2 a3 a4 a5 l hs hl false) (hj false)
theorem lightCode_ev (a0 a1 a2 a3 a4 a5 : Int) (hr : rsWf [a0, a1, a2, a3, a4, a5]) (hold : Int) (l : List S37) (hs : l.all gsm = true) : Ev (fun k => impl_lightCode.f k a0 a1 a2 a3 a4 a5 hold l) (aloneL [a0, a1, a2, a3, a4, a5] hold l (holdB hold)) := by
  unfold impl_lightCode.f
  refine Ev.bind (loadCode_ev a0 a1 a2 a3 a4 a5 hr hold l hs) ?_
  have := firstOf_ev [codeL [a0, a1, a2, a3, a4, a5] l (holdB hold), if lightB hold l = true then 0 else 6] (by simp)
  refine cast ?_ this
  congr 1
  unfold aloneL
  by_cases h1 : codeL [a0, a1, a2, a3, a4, a5] l (holdB hold) = 0 <;> by_cases h2 : lightB hold l = true <;> simp [firstL, h1, h2]
theorem aloneL_ok {rs : List Int} {hold : Int} {l : List S37} {fine : Bool} (h : aloneL rs hold l fine = 0) : codeL rs l fine = 0 ∧ lightB hold l = true := by
  unfold aloneL at h
  by_cases h1 : codeL rs l fine = 0
  · rw [if_pos h1] at h
    by_cases h2 : lightB hold l = true
    · exact ⟨h1, h2⟩
    · rw [if_neg h2] at h; omega
  · rw [if_neg h1] at h; exact absurd h h1
theorem l00Max_eq (a b : Int) : spec_l00Max.f a b = some (mx a b) := by
  unfold spec_l00Max.f mx
  by_cases h : a > b
  · rw [if_pos h, if_neg (by omega)]
  · rw [if_neg h]
    by_cases h2 : a < b
    · rw [if_pos h2]
    · rw [if_neg h2, show a = b by omega]
theorem l00Min_eq (a b : Int) : spec_l00Min.f a b = some (mn a b) := by
  unfold spec_l00Min.f mn
  by_cases h : a < b
  · rw [if_pos h]
    first | rw [if_pos h] | rw [if_neg (by omega)]
  · rw [if_neg h]
    first | rw [if_neg h] | (by_cases h2 : b < a; rw [if_pos h2]; rw [if_neg h2, show a = b by omega])
theorem spec_heats_l0 (l : List S37) (hl : l.length ≤ 1048576) : ∀ (cs pre : List S37), l = pre ++ cs → ∀ a b : Int, Ev (fun k => spec_l01Heats.l0 k l a b (pre.length : Int)) (heatsFrom (a, b) cs) := by
  intro cs
  induction cs with
  | nil =>
    intro pre hpre a b
    refine Ev.step (fun k => by rw [spec_l01Heats.l0]) ?_
    have : l.length = pre.length := by rw [hpre]; simp
    simp only [show ¬ (pre.length : Int) < (l.length : Int) by omega, ↓reduceIte]
    exact Ev.now _
  | cons c cs ih =>
    intro pre hpre a b
    have hlen : l.length = pre.length + cs.length + 1 := by rw [hpre]; simp; omega
    have hc : rd_T37 l (pre.length : Int) = c := by rw [hpre]; exact rdm pre c cs
    have hnext := ih (pre ++ [c]) (by rw [hpre]; simp)
    simp only [List.length_append, List.length_cons, List.length_nil, Nat.zero_add] at hnext
    refine Ev.step (fun k => by rw [spec_l01Heats.l0]) ?_
    simp only [show (pre.length : Int) < (l.length : Int) by omega, show (0 : Int) ≤ (pre.length : Int) by omega, ↓reduceIte, hc, l00Max_eq, l00Min_eq, Option.bind_some, wsuc (show pre.length < l.length by omega) hl]
    exact hnext _ _
theorem spec_heats_ev (l : List S37) (hl : l.length ≤ 1048576) : Ev (fun k => spec_l01Heats.f k l) (heatsB l) := by
  unfold spec_l01Heats.f
  exact spec_heats_l0 l hl l [] rfl 0 95
theorem spec_cost_l0 (l : List S37) (ns : List Int) (each : Int) (hl : l.length ≤ 1048576) (hn : ns.length = l.length) : ∀ (d : Nat) (x s : Int), d ≤ 8 → x = 8 - d → Ev (fun k => spec_l01Cost.l0 k l ns each s x) (costFrom l ns each d s) := by
  intro d
  induction d with
  | zero =>
    intro x s _ hx
    refine Ev.step (fun k => by rw [spec_l01Cost.l0]) ?_
    simp only [show ¬ x < 8 by omega, ↓reduceIte]
    exact Ev.now _
  | succ d ih =>
    intro x s hd hx
    refine Ev.step (fun k => by rw [spec_l01Cost.l0]) ?_
    simp only [show x < 8 by omega, ↓reduceIte]
    refine Ev.bind (l01With_ev l ns x (by omega) (by omega)) ?_
    rw [costFrom, ← hx]
    by_cases h : ((withB l ns x).length : Int) > 0
    · simp only [h, ↓reduceIte, w8_c (show 0 ≤ x by omega) (show x < 8 by omega)]
      refine Ev.bind (spec_heats_ev _ (by have := withB_length_c l ns x; omega)) ?_
      exact ih (x + 1) _ (by omega) (by omega)
    · simp only [h, ↓reduceIte, w8_c (show 0 ≤ x by omega) (show x < 8 by omega)]
      exact ih (x + 1) _ (by omega) (by omega)
theorem spec_cost_ev (l : List S37) (ns : List Int) (each : Int) (hl : l.length ≤ 1048576) (hn : ns.length = l.length) : Ev (fun k => spec_l01Cost.f k l ns each) (costB l ns each) := by
  unfold spec_l01Cost.f
  exact spec_cost_l0 l ns each hl hn 8 0 0 (Nat.le_refl _) (by omega)
def eachB (e : Int) : Bool := decide (0 ≤ e ∧ e ≤ 1000)
theorem each_eq (e : Int) : spec_l01Each.f e = some (eachB e) := by
  unfold spec_l01Each.f
  rw [l00In_eq]
  rfl
theorem eachCode_ev (a0 a1 a2 a3 a4 a5 : Int) (hr : rsWf [a0, a1, a2, a3, a4, a5]) (hold : Int) (l : List S37) (hs : l.all gsm = true) (each : Int) : Ev (fun k => impl_eachCode.f k a0 a1 a2 a3 a4 a5 hold l each) (codeL [a0, a1, a2, a3, a4, a5] l (holdB hold && eachB each)) := by
  unfold impl_eachCode.f
  refine Ev.bind (loadCode_ev a0 a1 a2 a3 a4 a5 hr hold l hs) ?_
  simp only [within_eq, Option.bind_some, decide_eq_true_eq]
  have e : (if codeL [a0, a1, a2, a3, a4, a5] l (holdB hold) = 0 then (if 0 ≤ each ∧ each ≤ 1000 then some (codeL [a0, a1, a2, a3, a4, a5] l (holdB hold)) else some 2) else (if codeL [a0, a1, a2, a3, a4, a5] l (holdB hold) = 3 then (if 0 ≤ each ∧ each ≤ 1000 then some (codeL [a0, a1, a2, a3, a4, a5] l (holdB hold)) else some 2) else some (codeL [a0, a1, a2, a3, a4, a5] l (holdB hold)))) = some (codeL [a0, a1, a2, a3, a4, a5] l (holdB hold && eachB each)) := by
    unfold codeL allC eachB
    by_cases h1 : rsOk [a0, a1, a2, a3, a4, a5] = true <;> by_cases h2 : l.all gok = true <;> by_cases h3 : holdB hold = true <;> by_cases h4 : 0 ≤ each ∧ each ≤ 1000 <;> by_cases h8 : (l.length : Int) ≤ 8 <;> simp [h1, h2, h3, h4, h8]
  exact cast (by simp only [e]) (Ev.now (codeL [a0, a1, a2, a3, a4, a5] l (holdB hold && eachB each)))
theorem fromL_ev {σ : Type} {st : Nat → Nat → σ → Option σ} {f : σ → Nat → σ} (h : ∀ k s, Ev (fun K => st K k s) (f s k)) : ∀ (r kk : Nat) (s : σ), Ev (fun K => fromL (st K) r kk s) ((List.range' kk r).foldl f s) := by
  intro r
  induction r with
  | zero =>
    intro kk s
    simp only [fromL]
    exact Ev.now _
  | succ r ih =>
    intro kk s
    simp only [fromL, List.range'_succ, List.foldl_cons]
    exact Ev.bind (h kk s) (ih (kk + 1) _)
theorem fromS_ev {σ : Type} {ld : Nat → List Int → Int → Option Bool} {cs : Nat → List Int → Nat → Option Int} {p : List Int → Int → Bool} {sc : List Int → Nat → Int} (up : Int → List Int → σ → σ) (n : Nat)
    (hl : ∀ (o : List Int) (k : Int), o.length < n → Ev (fun K => ld K o k) (p o k)) (hc : ∀ (o : List Int) (m : Nat), o.length = n → Ev (fun K => cs K o m) (sc o m)) :
    ∀ (d : Nat) (o : List Int) (m : Nat) (s : σ), o.length + d = n → Ev (fun K => fromS (ld K) (cs K) up d o m s) (dfsG (fun o m s => up (sc o m) o s) p d o m s) := by
  intro d
  induction d with
  | zero =>
    intro o m s ho
    simp only [fromS, dfsG]
    exact Ev.bind (hc o m (by omega)) (Ev.now _)
  | succ d ih =>
    intro o m s ho
    simp only [fromS, dfsG]
    rw [List.range_eq_range']
    refine fromL_ev (st := fun K k s => (ld K o (k : Int)).bind fun b => if b = true then fromS (ld K) (cs K) up d (o ++ [(k : Int)]) (max m (k + 1)) s else some s) (fun k s => ?_) (m + 1) 0 s
    refine Ev.bind (hl o k (by omega)) ?_
    by_cases h : p o (k : Int) = true
    · simp only [h, ↓reduceIte]
      exact ih _ _ _ (by simp; omega)
    · simp only [h, Bool.false_eq_true, ↓reduceIte]
      exact Ev.now _
def stpG {σ : Type} (up : List Int → Nat → σ → σ) (p : List Int → Int → Bool) (d : Nat) (o : List Int) (m : Nat) (s : σ) (k : Nat) : σ := if p o (k : Int) = true then dfsG up p d (o ++ [(k : Int)]) (max m (k + 1)) s else s
theorem dfsG_suc {σ : Type} (up : List Int → Nat → σ → σ) (p : List Int → Int → Bool) (d : Nat) (o : List Int) (m : Nat) (s : σ) : dfsG up p (d + 1) o m s = (List.range (m + 1)).foldl (stpG up p d o m) s := rfl
def upP (sc : List Int → Nat → Int) (o : List Int) (m : Nat) (s : List Int × Int × Bool) : List Int × Int × Bool := upS (sc o m) o s
def srch (sc : List Int → Nat → Int) (p : List Int → Int → Bool) (n : Nat) : List Int × Int × Bool := dfsG (upP sc) p n [] 0 ([], 0, false)
def RelS (n : Nat) (s : List Int × Int × Bool) (t : List Int × Int) : Prop := (s = ([], 0, false) ∧ t = ([], -1)) ∨ (s.2.2 = true ∧ t = (s.1, s.2.1) ∧ 0 ≤ s.2.1 ∧ s.1.length ≤ n)
theorem rel_up (n : Nat) {sc : List Int → Nat → Int} {o : List Int} {m : Nat} (h0 : 0 ≤ sc o m) (ho : o.length ≤ n) {s : List Int × Int × Bool} {t : List Int × Int} (h : RelS n s t) : RelS n (upP sc o m s) (upL sc o m t) := by
  unfold upP upS upL
  rcases h with ⟨rfl, rfl⟩ | ⟨h1, rfl, h2, h3⟩
  · rw [if_pos (.inl rfl), if_pos (.inl (by decide))]
    exact .inr ⟨rfl, rfl, h0, ho⟩
  · by_cases hc : sc o m < s.2.1
    · rw [if_pos (.inr hc), if_pos (.inr hc)]
      exact .inr ⟨rfl, rfl, h0, ho⟩
    · rw [if_neg (by rintro (h | h); rw [h1] at h; cases h; exact hc h), if_neg (by rintro (h | h); exact absurd h (by simp only; omega); exact hc h)]
      exact .inr ⟨h1, rfl, h2, h3⟩
theorem rel_dfs (n : Nat) {sc : List Int → Nat → Int} {p : List Int → Int → Bool} (h0 : ∀ o m, o.length = n → 0 ≤ sc o m) : ∀ (d : Nat) (o : List Int) (m : Nat) (s : List Int × Int × Bool) (t : List Int × Int), o.length + d = n → RelS n s t → RelS n (dfsG (upP sc) p d o m s) (dfsG (upL sc) p d o m t) := by
  intro d
  induction d with
  | zero =>
    intro o m s t ho h
    exact rel_up n (h0 o m (by omega)) (by omega) h
  | succ d ih =>
    intro o m s t ho h
    rw [dfsG_suc, dfsG_suc]
    have key : ∀ (xs : List Nat) (s : List Int × Int × Bool) (t : List Int × Int), RelS n s t → RelS n (xs.foldl (stpG (upP sc) p d o m) s) (xs.foldl (stpG (upL sc) p d o m) t) := by
      intro xs
      induction xs with
      | nil => exact fun s t h => h
      | cons x xs ihx =>
        intro s t h
        rw [List.foldl_cons, List.foldl_cons]
        refine ihx _ _ ?_
        unfold stpG
        by_cases hp : p o (x : Int) = true
        · rw [if_pos hp, if_pos hp]
          exact ih _ _ _ _ (by simp; omega) h
        · rw [if_neg hp, if_neg hp]
          exact h
    exact key _ s t h
theorem found_up (c : Int) (o : List Int) (s : List Int × Int × Bool) : (upS c o s).2.2 = true := by
  unfold upS
  split
  · rfl
  · rename_i h
    cases h2 : s.2.2 with
    | true => rfl
    | false => exact absurd (.inl h2) h
theorem found_dfs (n : Nat) {sc : List Int → Nat → Int} {p : List Int → Int → Bool} (hp : ∀ (o : List Int) (m : Nat), o.length < n → (∀ x ∈ o, x < (m : Int)) → p o (m : Int) = true) : ∀ (d : Nat) (o : List Int) (m : Nat) (s : List Int × Int × Bool), o.length + d = n → (∀ x ∈ o, x < (m : Int)) → (dfsG (upP sc) p d o m s).2.2 = true := by
  intro d
  induction d with
  | zero => exact fun o m s _ _ => found_up _ _ _
  | succ d ih =>
    intro o m s ho hx
    rw [dfsG_suc, List.range_succ, List.foldl_append]
    simp only [List.foldl_cons, List.foldl_nil]
    generalize (List.range m).foldl (stpG (upP sc) p d o m) s = s1
    unfold stpG
    rw [if_pos (hp o m (by omega) hx)]
    exact ih _ _ _ (by simp; omega) (by
      intro x h
      rcases List.mem_append.mp h with h | h
      · have := hx x h; omega
      · rw [List.mem_singleton] at h; omega)
theorem srch_eq (n : Nat) (sc : List Int → Nat → Int) (p : List Int → Int → Bool) (h0 : ∀ o m, o.length = n → 0 ≤ sc o m) (hp : ∀ (o : List Int) (m : Nat), o.length < n → (∀ x ∈ o, x < (m : Int)) → p o (m : Int) = true) :
    bestL sc p n = ((srch sc p n).1, (srch sc p n).2.1) ∧ (srch sc p n).1.length ≤ n := by
  have hr := rel_dfs n (p := p) h0 n [] 0 ([], 0, false) ([], -1) (by simp) (.inl ⟨rfl, rfl⟩)
  have hf := found_dfs n (sc := sc) hp n [] 0 ([], 0, false) (by simp) (by intro x hx; cases hx)
  unfold bestL srch
  rcases hr with ⟨h1, _⟩ | ⟨_, h2, _, h3⟩
  · rw [h1] at hf
    cases hf
  · exact ⟨h2, h3⟩
theorem withB_none (l : List S37) (out : List Int) (n : Int) (h : ∀ x ∈ out, x ≠ n) : withB l out n = [] := by
  unfold withB
  rw [List.map_eq_nil_iff, List.filter_eq_nil_iff]
  intro x hx
  have := h x.1 (List.of_mem_zip hx).1
  simp [this]
theorem wash_one (rs : List Int) (hold : Int) (c : S37) (h : ¬ wrap64 c.f3 > hold) : washB rs hold [c] = true := by
  unfold washB weightB
  simp only [apartFrom, weightFrom, List.any_nil, Bool.not_false, Bool.true_and, Bool.and_self]
  apply decide_eq_true
  have : wrap64 (0 + wrap64 c.f3) = wrap64 c.f3 := by unfold wrap64; omega
  omega
theorem rd_mem {l : List S37} {i : Nat} (h : i < l.length) : rd_T37 l (i : Int) ∈ l := by
  have e : rd_T37 l (i : Int) = l[i] := by simp [rd_T37, List.getD_eq_getElem?_getD, List.getElem?_eq_getElem h]
  rw [e]
  exact List.getElem_mem h
theorem join_new (rs : List Int) (hold : Int) (l : List S37) (hlight : lightB hold l = true) (o : List Int) (m : Nat) (ho : o.length < l.length) (hx : ∀ x ∈ o, x < (m : Int)) : joinB rs hold l o (m : Int) = true := by
  unfold joinB
  rw [withB_none l o _ (fun x h => by have := hx x h; omega)]
  refine wash_one rs hold _ ?_
  have := List.all_eq_true.mp hlight _ (rd_mem ho)
  simpa using this
theorem ldS_ev (a0 a1 a2 a3 a4 a5 hold : Int) (l : List S37) (hs : l.all gsm = true) (hg : l.all gok = true) (hl : l.length ≤ 1048575) (o : List Int) (k : Int) (ho : o.length < l.length) : Ev (fun K => ldS K a0 a1 a2 a3 a4 a5 hold l o k) (joinB [a0, a1, a2, a3, a4, a5] hold l o k) := by
  unfold ldS joinB
  have hlen := withB_len l o k
  have hall : ∀ q : S37 → Bool, l.all q = true → (withB l o k ++ [rd_T37 l (o.length : Int)]).all q = true := by
    intro q hq
    rw [List.all_append, Bool.and_eq_true]
    constructor
    · rw [List.all_eq_true]
      intro x hx
      unfold withB at hx
      obtain ⟨y, hy, rfl⟩ := List.mem_map.mp hx
      exact List.all_eq_true.mp hq _ (List.of_mem_zip (List.mem_filter.mp hy).1).2
    · simp only [List.all_cons, List.all_nil, Bool.and_true]
      exact List.all_eq_true.mp hq _ (rd_mem ho)
  refine Ev.bind (l01With_ev l o k (by omega) (by omega)) ?_
  simp only [show (withB l o k).length ≤ 1048576 by omega, ↓reduceIte]
  exact load_ev a0 a1 a2 a3 a4 a5 hold _ (hall gsm hs) (hall gok hg) (by simp; omega)
theorem colB_of {l : List S37} (hs : l.all gsm = true) (hg : l.all gok = true) : colB l = true := by
  unfold colB
  rw [List.all_eq_true]
  intro x hx
  exact decide_eq_true (gok_col (all_mem hg hx) (all_mem hs hx))
theorem gsm_f1 {x : S37} (h : gsm x = true) : -128 ≤ x.f1 ∧ x.f1 ≤ 127 := by
  have := of_decide_eq_true h
  omega
theorem heats_bound : ∀ (cs : List S37) (a b : Int), 0 ≤ a → a ≤ 127 → cs.all gsm = true → 0 ≤ (heatsFrom (a, b) cs).1 ∧ (heatsFrom (a, b) cs).1 ≤ 127
  | [], a, b, h0, h1, _ => ⟨h0, h1⟩
  | c :: cs, a, b, h0, h1, hs => by
    rw [List.all_cons, Bool.and_eq_true] at hs
    have hf := gsm_f1 hs.1
    have hw : wrap64 c.f1 = c.f1 := by unfold wrap64; omega
    rw [heatsFrom]
    refine heats_bound cs _ _ ?_ ?_ hs.2
    · show 0 ≤ mx a (wrap64 c.f1)
      unfold mx; split <;> omega
    · show mx a (wrap64 c.f1) ≤ 127
      unfold mx; split <;> omega
theorem withB_all (l : List S37) (ns : List Int) {p : S37 → Bool} (h : l.all p = true) (n : Int) : (withB l ns n).all p = true := by
  rw [List.all_eq_true]
  intro x hx
  unfold withB at hx
  obtain ⟨y, hy, rfl⟩ := List.mem_map.mp hx
  exact List.all_eq_true.mp h _ (List.of_mem_zip (List.mem_filter.mp hy).1).2
theorem costFrom_pos (l : List S37) (ns : List Int) (each : Int) (hs : l.all gsm = true) (h0 : 0 ≤ each) (h1 : each ≤ 1000) : ∀ (d : Nat) (s : Int), d ≤ 8 → 0 ≤ s → s ≤ (8 - (d : Int)) * 1127 → 0 ≤ costFrom l ns each d s := by
  intro d
  induction d with
  | zero => exact fun s _ h _ => h
  | succ d ih =>
    intro s hd hs0 hs1
    rw [costFrom]
    have hb := heats_bound (withB l ns (8 - ((d + 1 : Nat) : Int))) 0 95 (by omega) (by omega) (withB_all l ns hs _)
    have e : (heatsB (withB l ns (8 - ((d + 1 : Nat) : Int)))).1 = (heatsFrom (0, 95) (withB l ns (8 - ((d + 1 : Nat) : Int)))).1 := rfl
    rw [← e] at hb
    generalize (heatsB (withB l ns (8 - ((d + 1 : Nat) : Int)))).1 = y at hb ⊢
    have hw : wrap64 (s + wrap64 (each + y)) = s + (each + y) := by
      have e2 : wrap64 (each + y) = each + y := by unfold wrap64; omega
      rw [e2]
      unfold wrap64; omega
    rw [hw]
    split
    · exact ih _ (by omega) (by omega) (by omega)
    · exact ih _ (by omega) hs0 (by omega)
theorem costB_pos (l : List S37) (ns : List Int) (each : Int) (hs : l.all gsm = true) (h : eachB each = true) : 0 ≤ costB l ns each := by
  have := of_decide_eq_true h
  exact costFrom_pos l ns each hs this.1 this.2 8 0 (Nat.le_refl _) (Int.le_refl _) (by omega)
def chR (rs : List Int) (hold : Int) (l : List S37) (each : Int) : List Int × Int × Int := if aloneL rs hold l (holdB hold && eachB each) = 0 then ((srch (costSc l each) (joinB rs hold l) l.length).1, (srch (costSc l each) (joinB rs hold l) l.length).2.1, 0) else ([], 0, aloneL rs hold l (holdB hold && eachB each))
theorem ch_spec (a0 a1 a2 a3 a4 a5 hold : Int) (l : List S37) (each : Int) (hs : l.all gsm = true) (hl : l.length ≤ 1048576) : Ev (fun k => spec_CheapestLoads.f k a0 a1 a2 a3 a4 a5 hold l each) (chR [a0, a1, a2, a3, a4, a5] hold l each) := by
  unfold spec_CheapestLoads.f chR
  simp only [each_eq, Option.bind_some]
  refine Ev.bind (alone_ev a0 a1 a2 a3 a4 a5 hold l hs hl (eachB each)) ?_
  by_cases h : aloneL [a0, a1, a2, a3, a4, a5] hold l (holdB hold && eachB each) = 0
  · have hc := codeL_ok (aloneL_ok h).1
    have he := hc.2.2.1
    rw [Bool.and_eq_true] at he
    have hep := of_decide_eq_true he.2
    simp only [h, ↓reduceIte, show l.length ≤ 1000 by omega]
    refine Ev.bind (fromS_ev (sc := costSc l each) (p := joinB [a0, a1, a2, a3, a4, a5] hold l) upS l.length (fun o k ho => ldS_ev a0 a1 a2 a3 a4 a5 hold l hs hc.2.1 (by omega) o k ho) (fun o m ho => by unfold csS; simp only [show each ≥ 0 by omega, ↓reduceIte]; exact spec_cost_ev l o each (by omega) ho) l.length [] 0 _ (by simp)) ?_
    exact Ev.now _
  · simp only [h, ↓reduceIte]; exact Ev.now _
theorem ch_eq (a0 a1 a2 a3 a4 a5 hold : Int) (l : List S37) (each : Int) (hs : l.all gsm = true) (h : aloneL [a0, a1, a2, a3, a4, a5] hold l (holdB hold && eachB each) = 0) : bestL (costSc l each) (joinB [a0, a1, a2, a3, a4, a5] hold l) l.length = ((srch (costSc l each) (joinB [a0, a1, a2, a3, a4, a5] hold l) l.length).1, (srch (costSc l each) (joinB [a0, a1, a2, a3, a4, a5] hold l) l.length).2.1) ∧ (srch (costSc l each) (joinB [a0, a1, a2, a3, a4, a5] hold l) l.length).1.length ≤ l.length := by
  have he := (codeL_ok (aloneL_ok h).1).2.2.1
  rw [Bool.and_eq_true] at he
  exact srch_eq l.length (costSc l each) _ (fun o m _ => costB_pos l o each hs he.2) (fun o m ho hx => join_new _ _ l (aloneL_ok h).2 o m ho hx)
theorem first_code (rs : List Int) (hold : Int) (l : List S37) (each : Int) : firstL [codeL rs l (holdB hold && eachB each), aloneL rs hold l (holdB hold)] = aloneL rs hold l (holdB hold && eachB each) := by
  by_cases h : codeL rs l (holdB hold && eachB each) = 0
  · have he := (codeL_ok h).2.2.1
    have hh := he
    rw [Bool.and_eq_true] at hh
    rw [he, hh.1]
    rw [he] at h
    simp only [firstL, h, ↓reduceIte]
    split
    · rename_i h2; rw [h2]
    · rfl
  · simp only [firstL, h, ↓reduceIte]
    unfold aloneL
    rw [if_neg h]
theorem ch_impl (a0 a1 a2 a3 a4 a5 hold : Int) (hr : rsWf [a0, a1, a2, a3, a4, a5]) (l : List S37) (each : Int) (hs : l.all gsm = true) : Ev (fun k => impl_CheapestLoads.f k a0 a1 a2 a3 a4 a5 hold l each) (chR [a0, a1, a2, a3, a4, a5] hold l each) := by
  unfold impl_CheapestLoads.f chR
  refine Ev.bind (eachCode_ev a0 a1 a2 a3 a4 a5 hr hold l hs each) ?_
  refine Ev.bind (lightCode_ev a0 a1 a2 a3 a4 a5 hr hold l hs) ?_
  refine Ev.bind (firstOf_ev _ (by simp)) ?_
  rw [first_code]
  by_cases h : aloneL [a0, a1, a2, a3, a4, a5] hold l (holdB hold && eachB each) = 0
  · have hc := codeL_ok (aloneL_ok h).1
    have he := (ch_eq a0 a1 a2 a3 a4 a5 hold l each hs h).1
    simp only [h, ↓reduceIte, show l.length ≤ 1000 by omega, colB_of hs hc.2.1, and_self]
    rw [he]
    exact Ev.now _
  · simp only [h, ↓reduceIte]; exact Ev.now _
theorem FnExactCheapestLoads (a0_0 : Int) (a0_1 : Int) (a0_2 : Int) (a0_3 : Int) (a0_4 : Int) (a0_5 : Int) (a1 : Int) (l2 : List S32) (a3 : Int) (w0_0 : (Lit.int .u8 a0_0).wf = true) (w0_1 : (Lit.int .u8 a0_1).wf = true) (w0_2 : (Lit.int .u8 a0_2).wf = true) (w0_3 : (Lit.int .u8 a0_3).wf = true) (w0_4 : (Lit.int .u8 a0_4).wf = true) (w0_5 : (Lit.int .u8 a0_5).wf = true) (w1 : (Lit.int .i64 a1).wf = true) (y2 : l2.length ≤ 9223372036854775807) (w2 : ∀ x ∈ l2, (Lit.int .u8 x.f0).wf = true ∧ (Lit.int .i8 x.f1).wf = true ∧ (Lit.int .i8 x.f2).wf = true ∧ (Lit.int .i16 x.f3).wf = true) (w3 : (Lit.int .i64 a3).wf = true) : ∃ k, laws_FnExactCheapestLoads.f k a0_0 a0_1 a0_2 a0_3 a0_4 a0_5 a1 l2 a3 = some true := by
  have hr := rsWf_of a0_0 a0_1 a0_2 a0_3 a0_4 a0_5 w0_0 w0_1 w0_2 w0_3 w0_4 w0_5
  refine Ev.rounds ?_
  unfold laws_FnExactCheapestLoads.f
  simp only [szGarmentS_eq l2 1048576 (by omega) (by omega) y2, laws_toRules.f, Option.bind_some]
  by_cases hl : (l2.length : Int) ≤ 1048576
  · simp only [hl, ↓reduceIte, show ¬ (1048576 - (l2.length : Int) < 0) by omega]
    have h0 : l2.length ≤ 1048576 := by omega
    have s0 : (toS l2).length ≤ 1048576 := by rw [toS_len]; exact h0
    have hs := toS_small w2
    have hR : (chR [a0_0, a0_1, a0_2, a0_3, a0_4, a0_5] a1 (toS l2) a3).1.length ≤ 1048576 := by
      unfold chR
      split
      · rename_i h
        exact Nat.le_trans (ch_eq _ _ _ _ _ _ _ _ _ hs h).2 s0
      · simp
    refine Ev.bind (toGarmentS_ev l2 h0) ?_
    refine Ev.bind (ch_spec _ _ _ _ _ _ _ _ _ hs s0) ?_
    refine Ev.bind (toGarmentS_ev l2 h0) ?_
    refine Ev.bind (ch_impl _ _ _ _ _ _ _ hr _ _ hs) ?_
    refine Ev.bind (eqInt64S_ev _ hR) ?_
    simp only [↓reduceIte, bne_self_eq_false]
    refine Ev.step (fun k => by rw [laws_FnExactCheapestLoads.j0]) ?_
    simp only [Bool.false_eq_true, ↓reduceIte]
    refine Ev.bind (toGarmentS_ev l2 h0) ?_
    refine Ev.bind (eqGarmentS_ev _ s0) ?_
    simp only [↓reduceIte]
    obtain ⟨r, hmk⟩ := markGarmentS_ev (toS l2) s0
    refine Ev.bind hmk ?_
    simp only [show ¬ ((4 * (toS l2).length + 1 : Nat) : Int) < 0 by omega, ↓reduceIte]
    refine Ev.bind (eqInt64S_ev _ hR) ?_
    simp only [↓reduceIte, bne_self_eq_false]
    refine Ev.step (fun k => by rw [laws_FnExactCheapestLoads.j1]) ?_
    simp only [Bool.false_eq_true, ↓reduceIte]
    refine Ev.bind (markInt64S_ev _ hR) ?_
    refine Ev.bind (heldInt64S_ev _ hR) ?_
    simp only [show ∀ n : Nat, ¬ ((n + 1 : Nat) : Int) < 0 by intro n; omega, ↓reduceIte, laws_toRules.f, Option.bind_some]
    refine Ev.bind (toGarmentS_ev l2 h0) ?_
    refine Ev.bind (ch_impl _ _ _ _ _ _ _ hr _ _ hs) ?_
    refine Ev.bind (eqInt64S_ev _ hR) ?_
    simp only [↓reduceIte, bne_self_eq_false]
    refine Ev.step (fun k => by rw [laws_FnExactCheapestLoads.j2]) ?_
    simp only [Bool.false_eq_true, ↓reduceIte]
    refine Ev.bind (heldInt64S_ev _ hR) ?_
    simp only [show ∀ n : Nat, ¬ ((n + 1 : Nat) : Int) < 0 by intro n; omega, ↓reduceIte]
    exact Ev.now _
  · simp only [hl, ↓reduceIte, show (-1 : Int) < 0 by omega]
    exact Ev.now _
end Go.Proofs.Ythodfhcaaidnmaa.Pure
