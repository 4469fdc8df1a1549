/- Words and walks for the law FnExactHeaviestLoad. -/
import Derived.Test.YthodfhcaaidnmaaDoorTHv31
import Derived.OpenShut
import Derived.Test.YthodfhcaaidnmaaDoorTHv27
namespace Go.Proofs.YthodfhcaaidnmaaDoor.Pure
set_option linter.unusedSimpArgs false
set_option linter.unusedVariables false
open Go.RowKit Go.Proofs.YthodfhcaaidnmaaDoor.Hv Go.Proofs.YthodfhcaaidnmaaDoorW.PrintWords Go.Proofs.YthodfhcaaidnmaaDoorW.PrintLast Go.Proofs.YthodfhcaaidnmaaDoorW.PrintMore
theorem rdm (pre : List S44) (c : S44) (cs : List S44) : rd_T44 (pre ++ c :: cs) (pre.length : Int) = c := by simp [rd_T44, List.getD_eq_getElem?_getD]
theorem rdim (pre : List Int) (c : Int) (cs : List Int) : rd (pre ++ c :: cs) (pre.length : Int) = c := by simp [rd, List.getD_eq_getElem?_getD]
theorem wsuc {i n : Nat} (h : i < n) (hn : n ≤ 1048576) : wrap64 ((i : Int) + 1) = ((i + 1 : Nat) : Int) := by unfold wrap64; omega
theorem l00In_eq (a b c : Int) : spec_l00In.f a b c = some (decide (b ≤ a ∧ a ≤ c)) := by
  unfold spec_l00In.f
  by_cases h : b ≤ a
  · rw [if_pos (show a ≥ b from h)]; simp [h]
  · rw [if_neg (show ¬ a ≥ b from h)]; simp [h]
theorem within_eq (a b c : Int) : impl_within.f a b c = some (decide (b ≤ a ∧ a ≤ c)) := l00In_eq a b c
theorem unless_eq (b : Bool) (c : Int) : impl_unless.f b c = some (if b = true then 0 else c) := by
  unfold impl_unless.f
  cases b <;> rfl
def firstL : List Int → Int
  | [] => 0
  | c :: cs => if c = 0 then firstL cs else c
theorem firstOf_l0 (l : List Int) (hl : l.length ≤ 1048576) : ∀ (cs pre : List Int), l = pre ++ cs → Ev (fun k => impl_firstOf.l0 k l (l.length : Int) (pre.length : Int)) (firstL cs) := by
  intro cs
  induction cs with
  | nil =>
    intro pre hpre
    refine Ev.step (fun k => by rw [impl_firstOf.l0]) ?_
    have : l.length = pre.length := by rw [hpre]; simp
    simp only [show ¬ (pre.length : Int) < (l.length : Int) by omega, ↓reduceIte]
    exact Ev.now _
  | cons c cs ih =>
    intro pre hpre
    have hlen : l.length = pre.length + cs.length + 1 := by rw [hpre]; simp; omega
    have hc : rd l (pre.length : Int) = c := by rw [hpre]; exact rdim pre c cs
    have hnext := ih (pre ++ [c]) (by rw [hpre]; simp)
    simp only [List.length_append, List.length_cons, List.length_nil, Nat.zero_add] at hnext
    refine Ev.step (fun k => by rw [impl_firstOf.l0]) ?_
    simp only [show (pre.length : Int) < (l.length : Int) by omega, show (0 : Int) ≤ (pre.length : Int) by omega, ↓reduceIte, hc, wsuc (show pre.length < l.length by omega) hl]
    rw [firstL]
    by_cases h0 : c = 0
    · simp only [h0, ↓reduceIte]
      exact hnext
    · simp only [h0, ↓reduceIte]
      exact Ev.now _
theorem firstOf_ev (l : List Int) (hl : l.length ≤ 1048576) : Ev (fun k => impl_firstOf.f k l) (firstL l) := by
  unfold impl_firstOf.f
  exact firstOf_l0 l hl l [] rfl
def toS (l : List S89) : List S44 := l.map fun x => ⟨x.f0, x.f1, x.f2, x.f3⟩
theorem toS_len (l : List S89) : (toS l).length = l.length := by simp [toS]
theorem rdL_mid (pre : List S89) (c : S89) (cs : List S89) : rd_T89 (pre ++ c :: cs) (pre.length : Int) = c := by simp [rd_T89, List.getD_eq_getElem?_getD]
theorem toGarmentS_l0 (l : List S89) (hl : l.length ≤ 1048576) : ∀ (cs pre : List S89), l = pre ++ cs →
    Ev (fun k => laws_toGarmentS.l0 k l (toS pre ++ List.replicate cs.length z44) (pre.length : Int)) (toS l) := by
  intro cs
  induction cs with
  | nil =>
    intro pre hpre
    refine Ev.step (fun k => by rw [laws_toGarmentS.l0]) ?_
    have : l.length = pre.length := by rw [hpre]; simp
    simp only [show ¬ (pre.length : Int) < (l.length : Int) by omega, ↓reduceIte]
    rw [show l = pre by rw [hpre]; simp]
    simp only [List.length_nil, List.replicate_zero, List.append_nil]
    exact Ev.now _
  | cons c cs ih =>
    intro pre hpre
    have hlen : l.length = pre.length + cs.length + 1 := by rw [hpre]; simp; omega
    have hc : rd_T89 l (pre.length : Int) = c := by rw [hpre]; exact rdL_mid pre c cs
    have hnext := ih (pre ++ [c]) (by rw [hpre]; simp)
    simp only [List.length_append, List.length_cons, List.length_nil, Nat.zero_add] at hnext
    have hx : (pre.length : Int) < ((toS pre ++ List.replicate (cs.length + 1) z44).length : Int) := by simp [toS]; omega
    have hset : (toS pre ++ List.replicate (cs.length + 1) z44).set (pre.length : Int).toNat (⟨c.f0, c.f1, c.f2, c.f3⟩ : S44) = toS (pre ++ [c]) ++ List.replicate cs.length z44 := by
      rw [Int.toNat_natCast, List.set_append_right _ _ (by simp [toS]), toS_len, Nat.sub_self, List.replicate_succ, List.set_cons_zero]
      simp [toS]
    refine Ev.step (fun k => by rw [laws_toGarmentS.l0]) ?_
    simp only [List.length_cons, show (pre.length : Int) < (l.length : Int) by omega, show (0 : Int) ≤ (pre.length : Int) by omega, ↓reduceIte, hc, laws_toGarment.f, Option.bind_some, hx, hset, wsuc (show pre.length < l.length by omega) hl]
    exact hnext
theorem toGarmentS_ev (l : List S89) (hl : l.length ≤ 1048576) : Ev (fun k => laws_toGarmentS.f k l) (toS l) := by
  have := toGarmentS_l0 l hl l [] rfl
  unfold laws_toGarmentS.f
  simp only [show (0 : Int) ≤ (l.length : Int) by omega, Int.toNat_natCast, show l.length ≤ 46912496118442 by omega, ↓reduceIte]
  exact this
theorem eqGarmentS_l0 (l : List S44) (hl : l.length ≤ 1048576) : ∀ (cs pre : List S44), l = pre ++ cs → Ev (fun k => laws_eqGarmentS.l0 k l l (pre.length : Int)) true := by
  intro cs
  induction cs with
  | nil =>
    intro pre hpre
    refine Ev.step (fun k => by rw [laws_eqGarmentS.l0]) ?_
    have : l.length = pre.length := by rw [hpre]; simp
    simp only [show ¬ (pre.length : Int) < (l.length : Int) by omega, ↓reduceIte]
    exact Ev.now _
  | cons c cs ih =>
    intro pre hpre
    have hlen : l.length = pre.length + cs.length + 1 := by rw [hpre]; simp; omega
    have hnext := ih (pre ++ [c]) (by rw [hpre]; simp)
    simp only [List.length_append, List.length_cons, List.length_nil, Nat.zero_add] at hnext
    refine Ev.step (fun k => by rw [laws_eqGarmentS.l0]) ?_
    simp only [show (pre.length : Int) < (l.length : Int) by omega, show (0 : Int) ≤ (pre.length : Int) by omega, ↓reduceIte, laws_eqGarment.f, Option.bind_some, wsuc (show pre.length < l.length by omega) hl]
    exact hnext
theorem eqGarmentS_ev (l : List S44) (hl : l.length ≤ 1048576) : Ev (fun k => laws_eqGarmentS.f k l l) true := by
  unfold laws_eqGarmentS.f
  simp only [↓reduceIte]
  exact eqGarmentS_l0 l hl l [] rfl
theorem szGarmentS_eq (l : List S89) (a : Int) (h0 : 0 ≤ a) (h1 : a ≤ 1048576) (hl : l.length ≤ 9223372036854775807) : laws_szGarmentS.f l a = some (if (l.length : Int) ≤ a then a - (l.length : Int) else -1) := by
  unfold laws_szGarmentS.f
  have e : wrap64 (a - (l.length : Int)) = a - (l.length : Int) := by unfold wrap64; omega
  rw [e]
  by_cases h : (l.length : Int) ≤ a
  · rw [if_neg (by omega), if_pos h]
  · rw [if_pos (by omega), if_neg h]
theorem toS_small {l : List S89} (w : ∀ x ∈ l, (Lit.int .u8 x.f0).wf = true ∧ (Lit.int .i8 x.f1).wf = true ∧ (Lit.int .i8 x.f2).wf = true ∧ (Lit.int .i16 x.f3).wf = true) : (toS l).all gsm = true := by
  rw [List.all_eq_true]
  intro x hx
  obtain ⟨y, hy, rfl⟩ := List.mem_map.mp hx
  have h0 := bounds_u8 (w y hy).1
  have h1 := bounds_i8 (w y hy).2.1
  have h2 := bounds_i8 (w y hy).2.2.1
  have h3 := bounds_i16 (w y hy).2.2.2
  exact decide_eq_true ⟨h0.1, h0.2, h1.1, h1.2, h2.1, h2.2, h3.1, h3.2⟩
theorem eqInt64S_l0 (l : List Int) (hl : l.length ≤ 1048576) : ∀ (cs pre : List Int), l = pre ++ cs → Ev (fun k => laws_eqInt64S.l0 k l l (pre.length : Int)) true := by
  intro cs
  induction cs with
  | nil =>
    intro pre hpre
    refine Ev.step (fun k => by rw [laws_eqInt64S.l0]) ?_
    have : l.length = pre.length := by rw [hpre]; simp
    simp only [show ¬ (pre.length : Int) < (l.length : Int) by omega, ↓reduceIte]
    exact Ev.now _
  | cons c cs ih =>
    intro pre hpre
    have hlen : l.length = pre.length + cs.length + 1 := by rw [hpre]; simp; omega
    have hnext := ih (pre ++ [c]) (by rw [hpre]; simp)
    simp only [List.length_append, List.length_cons, List.length_nil, Nat.zero_add] at hnext
    refine Ev.step (fun k => by rw [laws_eqInt64S.l0]) ?_
    simp only [show (pre.length : Int) < (l.length : Int) by omega, show (0 : Int) ≤ (pre.length : Int) by omega, ↓reduceIte, wsuc (show pre.length < l.length by omega) hl]
    exact hnext
theorem eqInt64S_ev (l : List Int) (hl : l.length ≤ 1048576) : Ev (fun k => laws_eqInt64S.f k l l) true := by
  unfold laws_eqInt64S.f
  simp only [↓reduceIte]
  exact eqInt64S_l0 l hl l [] rfl
def upFrom : Nat → Nat → List Int
  | _, 0 => []
  | a, n + 1 => (a : Int) :: upFrom (a + 1) n
theorem upFrom_len : ∀ n a, (upFrom a n).length = n
  | 0, _ => rfl
  | n + 1, a => by simp [upFrom, upFrom_len n]
theorem upFrom_snoc : ∀ n a, upFrom a (n + 1) = upFrom a n ++ [((a + n : Nat) : Int)]
  | 0, a => by simp [upFrom]
  | n + 1, a => by rw [upFrom, upFrom_snoc n (a + 1), upFrom, List.cons_append, show a + 1 + n = a + (n + 1) by omega]
theorem markInt64S_l0 : ∀ (cs : List Int) (n : Nat), n + cs.length ≤ 1048576 → Ev (fun k => laws_markInt64S.l0 k (upFrom 1 n ++ cs) ((n + 1 : Nat) : Int) (n : Int)) (((n + cs.length + 1 : Nat) : Int), upFrom 1 (n + cs.length)) := by
  intro cs
  induction cs with
  | nil =>
    intro n hn
    refine Ev.step (fun k => by rw [laws_markInt64S.l0]) ?_
    have : (upFrom 1 n).length = n := upFrom_len n 1
    simp only [List.append_nil, List.length_nil, Nat.add_zero, show ¬ (n : Int) < ((upFrom 1 n).length : Int) by omega, ↓reduceIte]
    exact Ev.now _
  | cons c cs ih =>
    intro n hn
    have hnext := ih (n + 1) (by simp only [List.length_cons] at hn; omega)
    simp only [List.length_cons] at hn
    have hlen : (upFrom 1 n ++ c :: cs).length = n + cs.length + 1 := by simp [upFrom_len]; omega
    have hset : (upFrom 1 n ++ c :: cs).set (n : Int).toNat ((n + 1 : Nat) : Int) = upFrom 1 (n + 1) ++ cs := by
      rw [Int.toNat_natCast, List.set_append_right _ _ (by simp [upFrom_len]), upFrom_len, Nat.sub_self, List.set_cons_zero, upFrom_snoc, Nat.add_comm 1 n]
      simp
    refine Ev.step (fun k => by rw [laws_markInt64S.l0]) ?_
    have hw : wrap64 (((n + 1 : Nat) : Int) + 1) = ((n + 1 + 1 : Nat) : Int) := by unfold wrap64; omega
    have hw0 : wrap64 ((n : Int) + 1) = ((n + 1 : Nat) : Int) := by unfold wrap64; omega
    simp only [show (n : Int) < ((upFrom 1 n ++ c :: cs).length : Int) by omega, show (0 : Int) ≤ (n : Int) by omega, ↓reduceIte, hset, hw, hw0]
    rw [show n + (c :: cs).length = n + 1 + cs.length by simp only [List.length_cons]; omega]
    exact hnext
theorem markInt64S_ev (l : List Int) (hl : l.length ≤ 1048576) : Ev (fun k => laws_markInt64S.f k l 1) (((l.length + 1 : Nat) : Int), upFrom 1 l.length) := by
  unfold laws_markInt64S.f
  have := markInt64S_l0 l 0 (by omega)
  simpa [upFrom] using this
theorem heldInt64S_l0 (m : Nat) (hm : m ≤ 1048576) : ∀ (d n : Nat), n + d = m → Ev (fun k => laws_heldInt64S.l0 k (upFrom 1 m) ((n + 1 : Nat) : Int) (n : Int)) ((m + 1 : Nat) : Int) := by
  intro d
  induction d with
  | zero =>
    intro n hn
    refine Ev.step (fun k => by rw [laws_heldInt64S.l0]) ?_
    have : (upFrom 1 m).length = m := upFrom_len m 1
    simp only [show ¬ (n : Int) < ((upFrom 1 m).length : Int) by omega, ↓reduceIte]
    rw [show n = m by omega]
    exact Ev.now _
  | succ d ih =>
    intro n hn
    have hlen : (upFrom 1 m).length = m := upFrom_len m 1
    have hget : ∀ (m a n : Nat), n < m → rd (upFrom a m) (n : Int) = ((a + n : Nat) : Int) := by
      intro m
      induction m with
      | zero => intro a n h; omega
      | succ m ihm =>
        intro a n h
        match n, h with
        | 0, _ => simp [rd, upFrom]
        | n + 1, h =>
          have := ihm (a + 1) n (by omega)
          simp only [rd, Int.toNat_natCast] at this ⊢
          rw [upFrom, List.getD_cons_succ, this, show a + 1 + n = a + (n + 1) by omega]
    have hr : rd (upFrom 1 m) (n : Int) = ((n + 1 : Nat) : Int) := by rw [hget m 1 n (by omega), Nat.add_comm]
    have hw : wrap64 (((n + 1 : Nat) : Int) + 1) = ((n + 1 + 1 : Nat) : Int) := by unfold wrap64; omega
    have hw0 : wrap64 ((n : Int) + 1) = ((n + 1 : Nat) : Int) := by unfold wrap64; omega
    refine Ev.step (fun k => by rw [laws_heldInt64S.l0]) ?_
    simp only [show (n : Int) < ((upFrom 1 m).length : Int) by omega, show (0 : Int) ≤ (n : Int) by omega, ↓reduceIte, hr, hw, hw0]
    exact ih (n + 1) (by omega)
theorem heldInt64S_ev (m : Nat) (hm : m ≤ 1048576) : Ev (fun k => laws_heldInt64S.f k (upFrom 1 m) 1) ((m + 1 : Nat) : Int) := by
  unfold laws_heldInt64S.f
  have := heldInt64S_l0 m hm m 0 (by omega)
  simpa using this
theorem markGarmentS_l0 : ∀ (d n : Nat) (l : List S44), l.length = n + d → n + d ≤ 1048576 → ∃ r : List S44, Ev (fun k => laws_markGarmentS.l0 k l ((4 * n + 1 : Nat) : Int) (n : Int)) (((4 * (n + d) + 1 : Nat) : Int), r) := by
  intro d
  induction d with
  | zero =>
    intro n l hl hn
    refine ⟨l, Ev.step (fun k => by rw [laws_markGarmentS.l0]) ?_⟩
    simp only [show ¬ (n : Int) < (l.length : Int) by omega, ↓reduceIte, Nat.add_zero]
    exact Ev.now _
  | succ d ih =>
    intro n l hl hn
    have hw1 : wrap64 (((4 * n + 1 : Nat) : Int) + 1) = ((4 * n + 2 : Nat) : Int) := by unfold wrap64; omega
    have hw2 : wrap64 (((4 * n + 2 : Nat) : Int) + 1) = ((4 * n + 3 : Nat) : Int) := by unfold wrap64; omega
    have hw3 : wrap64 (((4 * n + 3 : Nat) : Int) + 1) = ((4 * n + 4 : Nat) : Int) := by unfold wrap64; omega
    have hw4 : wrap64 (((4 * n + 4 : Nat) : Int) + 1) = ((4 * (n + 1) + 1 : Nat) : Int) := by unfold wrap64; omega
    have hw0 : wrap64 ((n : Int) + 1) = ((n + 1 : Nat) : Int) := by unfold wrap64; omega
    let y1 : List S44 := l.set (n : Int).toNat (⟨((4 * n + 1 : Nat) : Int) % 256, (rd_T44 l (n : Int)).f1, (rd_T44 l (n : Int)).f2, (rd_T44 l (n : Int)).f3⟩ : S44)
    let y2 : List S44 := y1.set (n : Int).toNat (⟨(rd_T44 y1 (n : Int)).f0, IntKind.i8.wrap ((4 * n + 2 : Nat) : Int), (rd_T44 y1 (n : Int)).f2, (rd_T44 y1 (n : Int)).f3⟩ : S44)
    let y3 : List S44 := y2.set (n : Int).toNat (⟨(rd_T44 y2 (n : Int)).f0, (rd_T44 y2 (n : Int)).f1, IntKind.i8.wrap ((4 * n + 3 : Nat) : Int), (rd_T44 y2 (n : Int)).f3⟩ : S44)
    let z : List S44 := y3.set (n : Int).toNat (⟨(rd_T44 y3 (n : Int)).f0, (rd_T44 y3 (n : Int)).f1, (rd_T44 y3 (n : Int)).f2, IntKind.i16.wrap ((4 * n + 4 : Nat) : Int)⟩ : S44)
    obtain ⟨r, hr⟩ := ih (n + 1) z (by simp [z, y3, y2, y1]; omega) (by omega)
    refine ⟨r, Ev.step (fun k => by rw [laws_markGarmentS.l0]) ?_⟩
    simp only [show (n : Int) < (l.length : Int) by omega, show (0 : Int) ≤ (n : Int) by omega, ↓reduceIte, Option.bind_some, hw1, hw2, hw3, hw4, hw0]
    rw [show n + (d + 1) = n + 1 + d by omega]
    exact hr
theorem markGarmentS_ev (l : List S44) (hl : l.length ≤ 1048576) : ∃ r : List S44, Ev (fun k => laws_markGarmentS.f k l 1) (((4 * l.length + 1 : Nat) : Int), r) := by
  unfold laws_markGarmentS.f
  have := markGarmentS_l0 l.length 0 l (by omega) (by omega)
  simpa using this
def bit (rs : List Int) (a b : Int) : Bool := (Go.bits .and .u8 (shr .u8 (rd rs a) b) 1) == 1
theorem l01Bit_eq (rs : List Int) (a b : Int) (h0 : 0 ≤ b) (h1 : b < 6) : spec_l01Bit.f (rd rs a) b = some (bit rs a b) := by
  have e : IntKind.u64.wrap b = b := by rw [IntKind.wrap_u64]; omega
  unfold spec_l01Bit.f bit
  rw [e, if_pos h0]
def inn (rs : List Int) (a : Int) : Nat → Bool
  | 0 => true
  | d + 1 => (bit rs a (6 - ((d + 1 : Nat) : Int)) == bit rs (6 - ((d + 1 : Nat) : Int)) a) && inn rs a d
def out (rs : List Int) : Nat → Bool
  | 0 => true
  | d + 1 => (!decide (64 ≤ rd rs (6 - ((d + 1 : Nat) : Int))) && bit rs (6 - ((d + 1 : Nat) : Int)) (6 - ((d + 1 : Nat) : Int)) && inn rs (6 - ((d + 1 : Nat) : Int)) 6) && out rs d
section
variable (a0 a1 a2 a3 a4 a5 : Int)
theorem wrap_small {i : Int} (h0 : 0 ≤ i) (h : i < 6) : wrap64 (i + 1) = i + 1 := by unfold wrap64; omega
theorem spec_l1 (a : Int) (h0 : 0 ≤ a) (h6 : a < 6) (R : Bool) (hR : Ev (fun k => spec_l01Rules.l0 k (a + 1) a0 a1 a2 a3 a4 a5) R) : ∀ (d : Nat) (b : Int), d ≤ 6 → b = 6 - d →
    Ev (fun k => spec_l01Rules.l1 k a b a0 a1 a2 a3 a4 a5) (inn [a0, a1, a2, a3, a4, a5] a d && R) := by
  intro d
  induction d with
  | zero =>
    intro b _ hb
    refine Ev.step (fun k => by rw [spec_l01Rules.l1]) ?_
    simp only [show ¬ b < 6 by omega, ↓reduceIte, wrap_small h0 h6]
    exact hR
  | succ d ih =>
    intro b hd hb
    refine Ev.step (fun k => by rw [spec_l01Rules.l1]) ?_
    have hb0 : 0 ≤ b := by omega
    have hb6 : b < 6 := by omega
    simp only [hb6, h0, h6, hb0, ↓reduceIte, l01Bit_eq _ _ _ hb0 hb6, l01Bit_eq _ _ _ h0 h6, Option.bind_some, wrap_small hb0 hb6]
    rw [inn, ← hb]
    by_cases he : bit [a0, a1, a2, a3, a4, a5] a b = bit [a0, a1, a2, a3, a4, a5] b a
    · simp only [he, bne_self_eq_false, Bool.false_eq_true, ↓reduceIte, beq_self_eq_true, Bool.true_and]
      exact ih (b + 1) (by omega) (by omega)
    · simp only [bne_iff_ne.mpr he, ↓reduceIte, beq_eq_false_iff_ne.mpr he, Bool.false_and]
      exact Ev.now false
theorem spec_l0 : ∀ (d : Nat) (a : Int), d ≤ 6 → a = 6 - d → Ev (fun k => spec_l01Rules.l0 k a a0 a1 a2 a3 a4 a5) (out [a0, a1, a2, a3, a4, a5] d) := by
  intro d
  induction d with
  | zero =>
    intro a _ ha
    refine Ev.step (fun k => by rw [spec_l01Rules.l0]) ?_
    simp only [show ¬ a < 6 by omega, ↓reduceIte]
    exact Ev.now true
  | succ d ih =>
    intro a hd ha
    have h0 : 0 ≤ a := by omega
    have h6 : a < 6 := by omega
    refine Ev.step (fun k => by rw [spec_l01Rules.l0]) ?_
    simp only [h6, h0, ↓reduceIte, l01Bit_eq _ _ _ h0 h6, Option.bind_some]
    rw [out, ← ha]
    by_cases h64 : rd [a0, a1, a2, a3, a4, a5] a ≥ 64
    · simp only [h64, ↓reduceIte, decide_true, Bool.not_true, Bool.false_and]
      refine Ev.step (fun k => by rw [spec_l01Rules.j1]) ?_
      simp only [↓reduceIte]
      exact Ev.now false
    · simp only [h64, ↓reduceIte, decide_false, Bool.not_false, Bool.true_and]
      refine Ev.step (fun k => by rw [spec_l01Rules.j1]) ?_
      cases hb : bit [a0, a1, a2, a3, a4, a5] a a with
      | false => exact Ev.now false
      | true =>
        simp only [Bool.not_true, Bool.false_eq_true, ↓reduceIte, Bool.not_false, Bool.true_and]
        exact spec_l1 a0 a1 a2 a3 a4 a5 a h0 h6 _ (ih (a + 1) (by omega) (by omega)) 6 0 (by omega) (by omega)
theorem may_eq (a b : Int) (h0 : 0 ≤ a) (h6 : a < 6) (hb : 0 ≤ b) : impl_Rules_may.f a0 a1 a2 a3 a4 a5 a b = some (bit [a0, a1, a2, a3, a4, a5] a b) := by
  unfold impl_Rules_may.f
  rw [if_pos ⟨h0, h6, hb⟩]
  rfl
def innI (rs : List Int) (a : Int) : Nat → Bool
  | 0 => true
  | d + 1 => (bit rs a (a - ((d + 1 : Nat) : Int)) == bit rs (a - ((d + 1 : Nat) : Int)) a) && innI rs a d
def outI (rs : List Int) : Nat → Bool
  | 0 => true
  | d + 1 => (!decide (64 ≤ rd rs (6 - ((d + 1 : Nat) : Int))) && bit rs (6 - ((d + 1 : Nat) : Int)) (6 - ((d + 1 : Nat) : Int)) && innI rs (6 - ((d + 1 : Nat) : Int)) (5 - d)) && outI rs d
theorem impl_l1 (a : Int) (h0 : 0 ≤ a) (h6 : a < 6) (R : Bool) (hR : Ev (fun k => impl_ValidRules.l0 k (a + 1) a0 a1 a2 a3 a4 a5) R) : ∀ (d : Nat) (b : Int), (d : Int) ≤ a → b = a - d →
    Ev (fun k => impl_ValidRules.l1 k a a a b a0 a1 a2 a3 a4 a5) (innI [a0, a1, a2, a3, a4, a5] a d && R) := by
  intro d
  induction d with
  | zero =>
    intro b _ hb
    refine Ev.step (fun k => by rw [impl_ValidRules.l1]) ?_
    simp only [show ¬ b < a by omega, ↓reduceIte, show (a + 1) % 256 = a + 1 by omega]
    exact hR
  | succ d ih =>
    intro b hd hb
    refine Ev.step (fun k => by rw [impl_ValidRules.l1]) ?_
    have hb0 : 0 ≤ b := by omega
    have hb6 : b < 6 := by omega
    simp only [show b < a by omega, ↓reduceIte, may_eq _ _ _ _ _ _ a b h0 h6 hb0, may_eq _ _ _ _ _ _ b a hb0 hb6 h0, Option.bind_some, show (b + 1) % 256 = b + 1 by omega]
    rw [innI, ← hb]
    by_cases he : bit [a0, a1, a2, a3, a4, a5] a b = bit [a0, a1, a2, a3, a4, a5] b a
    · simp only [he, bne_self_eq_false, Bool.false_eq_true, ↓reduceIte, beq_self_eq_true, Bool.true_and]
      exact ih (b + 1) (by omega) (by omega)
    · simp only [bne_iff_ne.mpr he, ↓reduceIte, beq_eq_false_iff_ne.mpr he, Bool.false_and]
      exact Ev.now false
theorem impl_l0 (hn : ∀ a : Int, 0 ≤ a → a < 6 → 0 ≤ rd [a0, a1, a2, a3, a4, a5] a) : ∀ (d : Nat) (a : Int), d ≤ 6 → a = 6 - d → Ev (fun k => impl_ValidRules.l0 k a a0 a1 a2 a3 a4 a5) (outI [a0, a1, a2, a3, a4, a5] d) := by
  intro d
  induction d with
  | zero =>
    intro a _ ha
    refine Ev.step (fun k => by rw [impl_ValidRules.l0]) ?_
    simp only [show ¬ a < 6 by omega, ↓reduceIte]
    exact Ev.now true
  | succ d ih =>
    intro a hd ha
    have h0 : 0 ≤ a := by omega
    have h6 : a < 6 := by omega
    refine Ev.step (fun k => by rw [impl_ValidRules.l0]) ?_
    simp only [h6, h0, ↓reduceIte, may_eq _ _ _ _ _ _ a a h0 h6 h0, Option.bind_some]
    rw [outI, ← ha]
    have hz : 0 ≤ rd [a0, a1, a2, a3, a4, a5] a := hn a h0 h6
    by_cases h64 : rd [a0, a1, a2, a3, a4, a5] a / 64 = 0
    · simp only [h64, ↓reduceIte, show ¬ 64 ≤ rd [a0, a1, a2, a3, a4, a5] a by omega, decide_false, Bool.not_false, Bool.true_and]
      refine Ev.step (fun k => by rw [impl_ValidRules.j1]) ?_
      cases hb : bit [a0, a1, a2, a3, a4, a5] a a with
      | false => exact Ev.now false
      | true =>
        simp only [Bool.not_true, Bool.false_eq_true, ↓reduceIte, Bool.true_and]
        exact impl_l1 a0 a1 a2 a3 a4 a5 a h0 h6 _ (ih (a + 1) (by omega) (by omega)) (5 - d) 0 (by omega) (by omega)
    · simp only [h64, ↓reduceIte, show 64 ≤ rd [a0, a1, a2, a3, a4, a5] a by omega, decide_true, Bool.not_true, Bool.false_and]
      refine Ev.step (fun k => by rw [impl_ValidRules.j1]) ?_
      simp only [↓reduceIte]
      exact Ev.now false
end
theorem inn_iff (rs : List Int) (a : Int) : ∀ d : Nat, inn rs a d = true ↔ ∀ b : Int, 6 - d ≤ b → b < 6 → bit rs a b = bit rs b a
  | 0 => by simp only [inn, true_iff]; intro b h1 h2; omega
  | d + 1 => by
    rw [inn, Bool.and_eq_true, beq_iff_eq, inn_iff rs a d]
    refine ⟨fun ⟨h, k⟩ b h1 h2 => ?_, fun h => ⟨h _ (Int.le_refl _) (by omega), fun b h1 h2 => h b (by omega) h2⟩⟩
    by_cases e : b = 6 - ((d + 1 : Nat) : Int)
    · rw [e]; exact h
    · exact k b (by omega) h2
theorem out_iff (rs : List Int) : ∀ d : Nat, out rs d = true ↔ ∀ a : Int, 6 - d ≤ a → a < 6 → ¬ 64 ≤ rd rs a ∧ bit rs a a = true ∧ inn rs a 6 = true
  | 0 => by simp only [out, true_iff]; intro b h1 h2; omega
  | d + 1 => by
    rw [out, Bool.and_eq_true, out_iff rs d]
    simp only [Bool.and_eq_true, Bool.not_eq_true', decide_eq_false_iff_not]
    refine ⟨fun ⟨⟨⟨h, k⟩, l⟩, m⟩ b h1 h2 => ?_, fun h => ?_⟩
    · by_cases e : b = 6 - ((d + 1 : Nat) : Int)
      · rw [e]; exact ⟨h, k, l⟩
      · exact m b (by omega) h2
    · obtain ⟨x, y, z⟩ := h _ (Int.le_refl _) (by omega)
      exact ⟨⟨⟨x, y⟩, z⟩, fun b h1 h2 => h b (by omega) h2⟩
theorem innI_iff (rs : List Int) (a : Int) : ∀ d : Nat, innI rs a d = true ↔ ∀ b : Int, a - d ≤ b → b < a → bit rs a b = bit rs b a
  | 0 => by simp only [innI, true_iff]; intro b h1 h2; omega
  | d + 1 => by
    rw [innI, Bool.and_eq_true, beq_iff_eq, innI_iff rs a d]
    refine ⟨fun ⟨h, k⟩ b h1 h2 => ?_, fun h => ⟨h _ (Int.le_refl _) (by omega), fun b h1 h2 => h b (by omega) h2⟩⟩
    by_cases e : b = a - ((d + 1 : Nat) : Int)
    · rw [e]; exact h
    · exact k b (by omega) h2
theorem outI_iff (rs : List Int) : ∀ d : Nat, d ≤ 6 → (outI rs d = true ↔ ∀ a : Int, 6 - d ≤ a → a < 6 → ¬ 64 ≤ rd rs a ∧ bit rs a a = true ∧ ∀ b : Int, 0 ≤ b → b < a → bit rs a b = bit rs b a)
  | 0, _ => by simp only [outI, true_iff]; intro b h1 h2; omega
  | d + 1, hd => by
    rw [outI, Bool.and_eq_true, outI_iff rs d (by omega)]
    simp only [Bool.and_eq_true, Bool.not_eq_true', decide_eq_false_iff_not, innI_iff]
    refine ⟨fun ⟨⟨⟨h, k⟩, l⟩, m⟩ b h1 h2 => ?_, fun h => ?_⟩
    · by_cases e : b = 6 - ((d + 1 : Nat) : Int)
      · rw [e]; exact ⟨h, k, fun c h3 h4 => l c (by omega) h4⟩
      · exact m b (by omega) h2
    · obtain ⟨x, y, z⟩ := h _ (Int.le_refl _) (by omega)
      exact ⟨⟨⟨x, y⟩, fun c h3 h4 => z c (by omega) h4⟩, fun b h1 h2 => h b (by omega) h2⟩
theorem outs (rs : List Int) : outI rs 6 = out rs 6 := by
  rw [Bool.eq_iff_iff, out_iff, outI_iff rs 6 (Nat.le_refl _)]
  simp only [inn_iff]
  refine ⟨fun h a h1 h2 => ?_, fun h a h1 h2 => ?_⟩
  · obtain ⟨x, y, z⟩ := h a h1 h2
    refine ⟨x, y, fun b h3 h4 => ?_⟩
    rcases Int.lt_trichotomy a b with hlt | rfl | hgt
    · exact ((h b (by omega) h4).2.2 a (by omega) hlt).symm
    · rfl
    · exact z b (by omega) hgt
  · obtain ⟨x, y, z⟩ := h a h1 h2
    exact ⟨x, y, fun b h3 h4 => z b (by omega) (by omega)⟩
def rsOk (rs : List Int) : Bool := out rs 6
def rsWf (rs : List Int) : Prop := ∀ a : Int, 0 ≤ a → a < 6 → 0 ≤ rd rs a ∧ rd rs a ≤ 255
theorem rsWf_of (a0 a1 a2 a3 a4 a5 : Int) (w0 : (Lit.int .u8 a0).wf = true) (w1 : (Lit.int .u8 a1).wf = true) (w2 : (Lit.int .u8 a2).wf = true) (w3 : (Lit.int .u8 a3).wf = true) (w4 : (Lit.int .u8 a4).wf = true) (w5 : (Lit.int .u8 a5).wf = true) : rsWf [a0, a1, a2, a3, a4, a5] := by
  have b0 := bounds_u8 w0
  have b1 := bounds_u8 w1
  have b2 := bounds_u8 w2
  have b3 := bounds_u8 w3
  have b4 := bounds_u8 w4
  have b5 := bounds_u8 w5
  intro a h0 h6
  have : a = 0 ∨ a = 1 ∨ a = 2 ∨ a = 3 ∨ a = 4 ∨ a = 5 := by omega
  rcases this with rfl | rfl | rfl | rfl | rfl | rfl <;> simp [rd] <;> omega
theorem rules_spec (a0 a1 a2 a3 a4 a5 : Int) : Ev (fun k => spec_l01Rules.f k a0 a1 a2 a3 a4 a5) (rsOk [a0, a1, a2, a3, a4, a5]) := by
  unfold spec_l01Rules.f
  exact spec_l0 a0 a1 a2 a3 a4 a5 6 0 (Nat.le_refl _) (by omega)
theorem rules_impl (a0 a1 a2 a3 a4 a5 : Int) (h : rsWf [a0, a1, a2, a3, a4, a5]) : Ev (fun k => impl_ValidRules.f k a0 a1 a2 a3 a4 a5) (rsOk [a0, a1, a2, a3, a4, a5]) := by
  have hi := impl_l0 a0 a1 a2 a3 a4 a5 (fun a h0 h6 => (h a h0 h6).1) 6 0 (Nat.le_refl _) (by omega)
  rw [outs] at hi
  unfold impl_ValidRules.f
  exact hi
theorem garment_eq (x : S44) (h : gsm x = true) : spec_l01Garment.f x.f0 x.f1 x.f2 x.f3 = some (gok x) := by
  obtain ⟨h0, h0', h1, h1', h2, h2', h3, h3'⟩ := of_decide_eq_true h
  have e3 : wrap64 x.f3 = x.f3 := by unfold wrap64; omega
  unfold spec_l01Garment.f gok
  rw [l00In_eq, e3]
  by_cases q0 : x.f0 < 6 <;> by_cases q1 : 0 ≤ x.f1 <;> by_cases q1' : x.f1 ≤ x.f2 <;> by_cases q2 : x.f2 ≤ 95 <;> by_cases q3 : 1 ≤ x.f3 ∧ x.f3 ≤ 2000 <;> simp [q0, q1, q1', q2, q3]
theorem gars_eq (l : List S44) (h : l.all gsm = true) : impl_areGarments.f l = some (if l.all gok = true then 0 else 1) := by
  unfold impl_areGarments.f
  rw [if_pos h]
theorem gok_col {x : S44} (h : gok x = true) (hs : gsm x = true) : 0 ≤ x.f0 ∧ x.f0 < 6 := by
  obtain ⟨h0, h0', h1, h1', h2, h2', h3, h3'⟩ := of_decide_eq_true hs
  unfold gok at h
  simp only [Bool.and_eq_true, decide_eq_true_eq] at h
  exact ⟨h0, h.1⟩
def metS (rs : List Int) (x y : S44) : Bool := bit rs x.f0 y.f0 && decide (mx x.f1 y.f1 ≤ mn x.f2 y.f2)
theorem spec_meet_eq (a0 a1 a2 a3 a4 a5 : Int) (x y : S44) (sx : gsm x = true) (sy : gsm y = true) (gx : gok x = true) (gy : gok y = true) : spec_l01Meet.f a0 a1 a2 a3 a4 a5 x.f0 x.f1 x.f2 x.f3 y.f0 y.f1 y.f2 y.f3 = some (metS [a0, a1, a2, a3, a4, a5] x y) := by
  have hx := gok_col gx sx
  have hy := gok_col gy sy
  have e : wrap64 y.f0 = y.f0 := by unfold wrap64; omega
  unfold spec_l01Meet.f metS
  rw [if_pos hx.1, if_pos hx.2, e, l01Bit_eq _ _ _ hy.1 hy.2]
  unfold gok at gx gy
  simp only [Bool.and_eq_true, decide_eq_true_eq] at gx gy
  cases bit [a0, a1, a2, a3, a4, a5] x.f0 y.f0 with
  | false => simp
  | true =>
    simp only [Option.bind_some, ↓reduceIte, Bool.true_and]
    have hm : mx x.f1 y.f1 ≤ mn x.f2 y.f2 ↔ x.f1 ≤ y.f2 ∧ y.f1 ≤ x.f2 := by
      unfold mx mn
      split <;> split <;> omega
    by_cases h1 : x.f1 ≤ y.f2 <;> by_cases h2 : y.f1 ≤ x.f2 <;> simp [hm, h1, h2]
theorem areRules_ev (a0 a1 a2 a3 a4 a5 : Int) (h : rsWf [a0, a1, a2, a3, a4, a5]) : Ev (fun k => impl_areRules.f k a0 a1 a2 a3 a4 a5) (if rsOk [a0, a1, a2, a3, a4, a5] = true then 0 else 1) := by
  unfold impl_areRules.f
  refine Ev.bind (rules_impl a0 a1 a2 a3 a4 a5 h) ?_
  simp only [unless_eq, Option.bind_some]
  exact Ev.now _
def allC (l : List S44) (fine : Bool) : Int := if l.all gok = true then (if fine = true then (if (l.length : Int) ≤ 8 then 0 else 3) else 2) else 1
def codeL (rs : List Int) (l : List S44) (fine : Bool) : Int := if rsOk rs = true then allC l fine else 1
theorem l01All_l0 (l : List S44) (hs : l.all gsm = true) (hl : l.length ≤ 1048576) (fine : Bool) : ∀ (cs pre : List S44), l = pre ++ cs → Ev (fun k => spec_l01All.l0 k l fine (pre.length : Int)) (if cs.all gok = true then (if fine = true then (if (l.length : Int) ≤ 8 then 0 else 3) else 2) else 1) := by
  intro cs
  induction cs with
  | nil =>
    intro pre hpre
    refine Ev.step (fun k => by rw [spec_l01All.l0]) ?_
    have : l.length = pre.length := by rw [hpre]; simp
    simp only [show ¬ (pre.length : Int) < (l.length : Int) by omega, ↓reduceIte, List.all_nil]
    cases fine with
    | false => simp only [Bool.false_eq_true, ↓reduceIte]; exact Ev.now _
    | true =>
      simp only [↓reduceIte]
      by_cases h8 : (l.length : Int) ≤ 8
      · simp only [h8, show ¬ (l.length : Int) > 8 by omega, ↓reduceIte]; exact Ev.now _
      · simp only [h8, show (l.length : Int) > 8 by omega, ↓reduceIte]; exact Ev.now _
  | cons c cs ih =>
    intro pre hpre
    have hlen : l.length = pre.length + cs.length + 1 := by rw [hpre]; simp; omega
    have hc : rd_T44 l (pre.length : Int) = c := by rw [hpre]; exact rdm pre c cs
    have hsc : gsm c = true := List.all_eq_true.mp hs c (by rw [hpre]; simp)
    have hnext := ih (pre ++ [c]) (by rw [hpre]; simp)
    simp only [List.length_append, List.length_cons, List.length_nil, Nat.zero_add] at hnext
    refine Ev.step (fun k => by rw [spec_l01All.l0]) ?_
    simp only [show (pre.length : Int) < (l.length : Int) by omega, show (0 : Int) ≤ (pre.length : Int) by omega, ↓reduceIte, hc, garment_eq c hsc, Option.bind_some, wsuc (show pre.length < l.length by omega) hl, List.all_cons]
    by_cases hg : gok c = true
    · simp only [hg, Bool.true_and, ↓reduceIte]; exact hnext
    · rw [Bool.not_eq_true] at hg
      simp only [hg, Bool.false_eq_true, Bool.false_and, ↓reduceIte]; exact Ev.now _
theorem l01All_ev (l : List S44) (hs : l.all gsm = true) (hl : l.length ≤ 1048576) (fine : Bool) : Ev (fun k => spec_l01All.f k l fine) (allC l fine) := by
  unfold spec_l01All.f allC
  exact l01All_l0 l hs hl fine l [] rfl
theorem few_eq (l : List S44) : impl_fewGarments.f l = some (if (l.length : Int) ≤ 8 then 0 else 3) := by
  unfold impl_fewGarments.f
  rw [unless_eq]
  by_cases h : (l.length : Int) ≤ 8 <;> simp [h]
theorem l01Asked_ev (a0 a1 a2 a3 a4 a5 : Int) (l : List S44) (hs : l.all gsm = true) (hl : l.length ≤ 1048576) (fine : Bool) : Ev (fun k => spec_l01Asked.f k a0 a1 a2 a3 a4 a5 l fine) (codeL [a0, a1, a2, a3, a4, a5] l fine) := by
  unfold spec_l01Asked.f codeL
  refine Ev.bind (rules_spec a0 a1 a2 a3 a4 a5) ?_
  cases h : rsOk [a0, a1, a2, a3, a4, a5] with
  | false => simp only [Bool.false_eq_true, ↓reduceIte]; exact Ev.now _
  | true =>
    simp only [↓reduceIte]
    exact Ev.bind (l01All_ev l hs hl fine) (Ev.now _)
def holdB (h : Int) : Bool := decide (1 ≤ h ∧ h ≤ 20000)
theorem hold_eq (h : Int) : spec_l01Hold.f h = some (holdB h) := by
  unfold spec_l01Hold.f
  rw [l00In_eq]
  rfl
theorem loadCode_ev (a0 a1 a2 a3 a4 a5 : Int) (hr : rsWf [a0, a1, a2, a3, a4, a5]) (hold : Int) (l : List S44) (hs : l.all gsm = true) : Ev (fun k => impl_loadCode.f k a0 a1 a2 a3 a4 a5 hold l) (codeL [a0, a1, a2, a3, a4, a5] l (holdB hold)) := by
  unfold impl_loadCode.f
  refine Ev.bind (areRules_ev a0 a1 a2 a3 a4 a5 hr) ?_
  simp only [gars_eq l hs, within_eq, unless_eq, few_eq, Option.bind_some]
  refine Ev.bind (r := codeL [a0, a1, a2, a3, a4, a5] l (holdB hold)) ?_ (Ev.now _)
  have := firstOf_ev [(if rsOk [a0, a1, a2, a3, a4, a5] = true then 0 else 1), (if l.all gok = true then 0 else 1), (if decide (1 ≤ hold ∧ hold ≤ 20000) = true then 0 else 2), (if (l.length : Int) ≤ 8 then 0 else 3)] (by simp)
  refine cast ?_ this
  congr 1
  unfold codeL allC holdB
  cases rsOk [a0, a1, a2, a3, a4, a5] <;> cases l.all gok <;> cases decide (1 ≤ hold ∧ hold ≤ 20000) <;> by_cases h8 : (l.length : Int) ≤ 8 <;> simp [firstL, h8]
theorem met_eq (rs : List Int) (x y : S44) : metB rs x y = metS rs x y := rfl
theorem all_mem {l : List S44} {p : S44 → Bool} (h : l.all p = true) {x : S44} (hx : x ∈ l) : p x = true := List.all_eq_true.mp h x hx
theorem spec_weight_l0 (l : List S44) (hl : l.length ≤ 1048576) : ∀ (cs pre : List S44), l = pre ++ cs → ∀ a : Int, Ev (fun k => spec_l01Weight.l0 k l a (pre.length : Int)) (weightFrom a cs) := by
  intro cs
  induction cs with
  | nil =>
    intro pre hpre a
    refine Ev.step (fun k => by rw [spec_l01Weight.l0]) ?_
    have : l.length = pre.length := by rw [hpre]; simp
    simp only [show ¬ (pre.length : Int) < (l.length : Int) by omega, ↓reduceIte]
    exact Ev.now _
  | cons c cs ih =>
    intro pre hpre a
    have hlen : l.length = pre.length + cs.length + 1 := by rw [hpre]; simp; omega
    have hc : rd_T44 l (pre.length : Int) = c := by rw [hpre]; exact rdm pre c cs
    have hnext := ih (pre ++ [c]) (by rw [hpre]; simp)
    simp only [List.length_append, List.length_cons, List.length_nil, Nat.zero_add] at hnext
    refine Ev.step (fun k => by rw [spec_l01Weight.l0]) ?_
    simp only [show (pre.length : Int) < (l.length : Int) by omega, show (0 : Int) ≤ (pre.length : Int) by omega, ↓reduceIte, hc, wsuc (show pre.length < l.length by omega) hl]
    exact hnext _
theorem spec_weight_ev (l : List S44) (hl : l.length ≤ 1048576) : Ev (fun k => spec_l01Weight.f k l) (weightB l) := by
  unfold spec_l01Weight.f
  exact spec_weight_l0 l hl l [] rfl 0
section
variable (a0 a1 a2 a3 a4 a5 hold : Int) (l : List S44) (hs : l.all gsm = true) (hg : l.all gok = true) (hl : l.length ≤ 1048576)
include hs hg hl
theorem load_l1 (pre cs : List S44) (c : S44) (hpre : l = pre ++ c :: cs) (R : Bool) (hR : Ev (fun k => spec_l01Load.l0 k hold l ((pre.length + 1 : Nat) : Int) a0 a1 a2 a3 a4 a5) R) : ∀ (p2 p1 : List S44), pre = p1 ++ p2 →
    Ev (fun k => spec_l01Load.l1 k hold l (pre.length : Int) (p1.length : Int) a0 a1 a2 a3 a4 a5) (!(p2.any fun h => !metB [a0, a1, a2, a3, a4, a5] c h) && R) := by
  have hlen : l.length = pre.length + cs.length + 1 := by rw [hpre]; simp; omega
  have hc : rd_T44 l (pre.length : Int) = c := by rw [hpre]; exact rdm pre c cs
  have hcm : c ∈ l := by rw [hpre]; simp
  intro p2
  induction p2 with
  | nil =>
    intro p1 hp
    refine Ev.step (fun k => by rw [spec_l01Load.l1]) ?_
    have : pre.length = p1.length := by rw [hp]; simp
    simp only [show ¬ (p1.length : Int) < (pre.length : Int) by omega, ↓reduceIte, List.any_nil, Bool.not_false, Bool.true_and, wsuc (show pre.length < l.length by omega) hl]
    exact hR
  | cons d p2 ih =>
    intro p1 hp
    have hpl : pre.length = p1.length + p2.length + 1 := by rw [hp]; simp; omega
    have hdm : d ∈ l := by rw [hpre, hp]; simp
    have hd : rd_T44 l (p1.length : Int) = d := by rw [hpre, hp, List.append_assoc, List.cons_append]; exact rdm p1 d _
    have hnext := ih (p1 ++ [d]) (by rw [hp]; simp)
    simp only [List.length_append, List.length_cons, List.length_nil, Nat.zero_add] at hnext
    refine Ev.step (fun k => by rw [spec_l01Load.l1]) ?_
    simp only [show (p1.length : Int) < (pre.length : Int) by omega, show (0 : Int) ≤ (pre.length : Int) by omega, show (pre.length : Int) < (l.length : Int) by omega, show (0 : Int) ≤ (p1.length : Int) by omega, show (p1.length : Int) < (l.length : Int) by omega, ↓reduceIte, hc, hd,
      spec_meet_eq a0 a1 a2 a3 a4 a5 c d (all_mem hs hcm) (all_mem hs hdm) (all_mem hg hcm) (all_mem hg hdm), Option.bind_some, wsuc (show p1.length < l.length by omega) hl, List.any_cons, met_eq]
    simp only [met_eq] at hnext
    by_cases hm : metS [a0, a1, a2, a3, a4, a5] c d = true
    · simp only [hm, ↓reduceIte, Bool.not_true, Bool.false_or]
      exact hnext
    · rw [Bool.not_eq_true] at hm
      simp only [hm, Bool.false_eq_true, ↓reduceIte, Bool.not_false, Bool.true_or, Bool.not_true, Bool.false_and]
      exact Ev.now _
theorem load_l0 : ∀ (cs pre : List S44), l = pre ++ cs → Ev (fun k => spec_l01Load.l0 k hold l (pre.length : Int) a0 a1 a2 a3 a4 a5) (apartFrom [a0, a1, a2, a3, a4, a5] pre cs && decide (weightB l ≤ hold)) := by
  intro cs
  induction cs with
  | nil =>
    intro pre hpre
    refine Ev.step (fun k => by rw [spec_l01Load.l0]) ?_
    have : l.length = pre.length := by rw [hpre]; simp
    simp only [show ¬ (pre.length : Int) < (l.length : Int) by omega, ↓reduceIte, apartFrom, Bool.true_and]
    exact Ev.bind (spec_weight_ev l hl) (Ev.now _)
  | cons c cs ih =>
    intro pre hpre
    have hlen : l.length = pre.length + cs.length + 1 := by rw [hpre]; simp; omega
    have hnext := ih (pre ++ [c]) (by rw [hpre]; simp)
    simp only [List.length_append, List.length_cons, List.length_nil, Nat.zero_add] at hnext
    refine Ev.step (fun k => by rw [spec_l01Load.l0]) ?_
    simp only [show (pre.length : Int) < (l.length : Int) by omega, ↓reduceIte]
    rw [apartFrom, Bool.and_assoc]
    exact load_l1 a0 a1 a2 a3 a4 a5 hold l hs hg hl pre cs c hpre _ hnext pre [] rfl
theorem load_ev : Ev (fun k => spec_l01Load.f k a0 a1 a2 a3 a4 a5 hold l) (washB [a0, a1, a2, a3, a4, a5] hold l) := by
  unfold spec_l01Load.f washB
  exact load_l0 a0 a1 a2 a3 a4 a5 hold l hs hg hl l [] rfl
end
theorem codeL_ok {rs : List Int} {l : List S44} {fine : Bool} (h : codeL rs l fine = 0) : rsOk rs = true ∧ l.all gok = true ∧ fine = true ∧ l.length ≤ 8 := by
  unfold codeL allC at h
  by_cases h1 : rsOk rs = true
  · rw [if_pos h1] at h
    by_cases h2 : l.all gok = true
    · rw [if_pos h2] at h
      by_cases h3 : fine = true
      · rw [if_pos h3] at h
        by_cases h4 : (l.length : Int) ≤ 8
        · exact ⟨h1, h2, h3, by omega⟩
        · rw [if_neg h4] at h; omega
      · rw [if_neg h3] at h; omega
    · rw [if_neg h2] at h; omega
  · rw [if_neg h1] at h; omega
theorem rd_mem (l : List S44) {i : Int} (h0 : 0 ≤ i) (h1 : i < (l.length : Int)) : rd_T44 l i ∈ l := by
  have hlt : i.toNat < l.length := by omega
  have e : rd_T44 l i = l[i.toNat] := by simp [rd_T44, List.getD_eq_getElem?_getD, List.getElem?_eq_getElem hlt]
  rw [e]
  exact List.getElem_mem hlt
theorem picked_all (l : List S44) (p : S44 → Bool) (h : l.all p = true) (o : List Int) (ho : inRange l.length o = true) : (pickedB l o).all p = true := by
  unfold inRange at ho
  rw [List.all_eq_true] at *
  intro x hx
  obtain ⟨i, hi, rfl⟩ := List.mem_map.1 hx
  have h1 := ho i hi
  rw [Bool.and_eq_true, decide_eq_true_eq, decide_eq_true_eq] at h1
  exact h _ (rd_mem l h1.1 h1.2)
theorem weight_from : ∀ (cs : List S44) (a : Int), cs.all gok = true → 0 ≤ a → a + 2000 * cs.length ≤ 1000000 → a + cs.length ≤ weightFrom a cs
  | [], a, _, _, _ => by simp [weightFrom]
  | c :: cs, a, h, h0, h1 => by
    rw [List.all_cons, Bool.and_eq_true] at h
    simp only [List.length_cons] at h1
    have hc := h.1
    simp only [gok, Bool.and_eq_true, decide_eq_true_eq] at hc
    have e : wrap64 (a + wrap64 c.f3) = a + c.f3 := by unfold wrap64; omega
    have := weight_from cs (a + c.f3) h.2 (by omega) (by omega)
    rw [weightFrom, e, List.length_cons]
    omega
theorem Before_ev (a b : List Int) (ha : a.length ≤ 1048576) : ∀ (cs pre ds pb : List Int), a = pre ++ cs → b = pb ++ ds → pb.length = pre.length → Ev (fun k => spec_l01Before.l0 k a b (pre.length : Int)) (lexlt cs ds) := by
  intro cs
  induction cs with
  | nil =>
    intro pre ds pb hpre hb hl
    have h1 : a.length = pre.length := by rw [hpre]; simp
    have h2 : b.length = pb.length + ds.length := by rw [hb]; simp
    refine Ev.step (fun k => by rw [spec_l01Before.l0]) ?_
    simp only [show ¬ (pre.length : Int) < (a.length : Int) by omega, ↓reduceIte]
    refine Ev.step (fun k => by rw [spec_l01Before.j1]) ?_
    simp only [Bool.false_eq_true, ↓reduceIte]
    cases ds with
    | nil =>
      simp only [List.length_nil] at h2
      simp only [show ¬ (a.length : Int) < (b.length : Int) by omega, decide_false]
      exact Ev.now _
    | cons d ds =>
      simp only [List.length_cons] at h2
      simp only [show (a.length : Int) < (b.length : Int) by omega, decide_true]
      exact Ev.now _
  | cons c cs ih =>
    intro pre ds pb hpre hb hl
    have h1 : a.length = pre.length + cs.length + 1 := by rw [hpre]; simp; omega
    have h2 : b.length = pb.length + ds.length := by rw [hb]; simp
    have hc : rd a (pre.length : Int) = c := by rw [hpre]; exact rdim pre c cs
    refine Ev.step (fun k => by rw [spec_l01Before.l0]) ?_
    simp only [show (pre.length : Int) < (a.length : Int) by omega, ↓reduceIte]
    refine Ev.step (fun k => by rw [spec_l01Before.j1]) ?_
    cases ds with
    | nil =>
      simp only [List.length_nil] at h2
      simp only [show ¬ (pre.length : Int) < (b.length : Int) by omega, show ¬ (a.length : Int) < (b.length : Int) by omega, decide_false, Bool.false_eq_true, ↓reduceIte]
      exact Ev.now _
    | cons d ds =>
      simp only [List.length_cons] at h2
      have hd : rd b (pre.length : Int) = d := by rw [hb, ← hl]; exact rdim pb d ds
      have hnext := ih (pre ++ [c]) ds (pb ++ [d]) (by rw [hpre]; simp) (by rw [hb]; simp) (by simp [hl])
      simp only [List.length_append, List.length_cons, List.length_nil, Nat.zero_add] at hnext
      simp only [show (pre.length : Int) < (b.length : Int) by omega, show (pre.length : Int) < (a.length : Int) by omega, show (0 : Int) ≤ (pre.length : Int) by omega, decide_true, ↓reduceIte, hc, hd, wsuc (show pre.length < a.length by omega) ha]
      by_cases h : c = d
      · simp only [h, ↓reduceIte]
        rw [show lexlt (d :: cs) (d :: ds) = lexlt cs ds by simp [lexlt]]
        exact hnext
      · simp only [h, ↓reduceIte]
        rw [show lexlt (c :: cs) (d :: ds) = decide (c < d) by simp [lexlt, h]]
        exact Ev.now _
theorem Before_is (a b : List Int) (ha : a.length ≤ 1048576) : Ev (fun k => spec_l01Before.f k a b) (lexlt a b) := by
  unfold spec_l01Before.f
  exact Before_ev a b ha a [] b [] rfl rfl rfl
theorem shl_pow : ∀ n : Nat, n < 9 → shl .i64 1 (IntKind.u64.wrap (n : Int)) = ((2 ^ n : Nat) : Int) := by decide +kernel
theorem bit_is : ∀ s : Nat, s < 256 → ∀ i : Nat, i < 8 → (Go.bits .and .i64 (shr .i64 (s : Int) (IntKind.u64.wrap (i : Int))) 1 = 1 ↔ s.testBit i = true) := by decide +kernel
theorem subs_succ (n s : Nat) : subsOf (n + 1) s = subsOf n s ++ (if s.testBit n = true then [(n : Int)] else []) := by
  unfold subsOf
  rw [List.range_succ, List.filter_append, List.map_append]
  congr 1
  by_cases h : s.testBit n = true
  · simp [h]
  · simp [h]
def hst (s : List Int × Int) : List Int × Int := if s.2 < 0 then ([], 0) else s
def hout (s : List Int × Int) : List Int × Int × Int := if s.2 < 0 then ([], 0, 6) else (s.1, s.2, 0)
section
variable (a0 a1 a2 a3 a4 a5 hold : Int) (l : List S44) (hs : l.all gsm = true) (hg : l.all gok = true) (hl : l.length ≤ 8)
include hs hg hl
theorem hv_l1 (best : List Int) (most : Int) (s : Nat) (hs1 : 1 ≤ s) (hs2 : s < 2 ^ l.length) (st : List Int × Int) (hst' : (best, most) = hst st) (hinv : st = ([], -1) ∨ 1 ≤ st.2) (R : List Int × Int × Int)
    (hR : Ev (fun k => spec_HeaviestLoad.l0 k hold l (hst (updS (heavySc [a0, a1, a2, a3, a4, a5] hold l) (subsOf l.length s) st)).1 (hst (updS (heavySc [a0, a1, a2, a3, a4, a5] hold l) (subsOf l.length s) st)).2 ((s + 1 : Nat) : Int) a0 a1 a2 a3 a4 a5) R) :
    ∀ (d i : Nat), i + d = l.length → Ev (fun k => spec_HeaviestLoad.l1 k hold l best most (s : Int) (pickedB l (subsOf i s)) (subsOf i s) (i : Int) a0 a1 a2 a3 a4 a5) R := by
  have hb := bits_all l.length (by omega) s hs2
  intro d
  induction d with
  | zero =>
    intro i hi
    obtain rfl : i = l.length := by omega
    have hw : wrap64 ((s : Int) + 1) = ((s + 1 : Nat) : Int) := by unfold wrap64; omega
    have hr := subs_range l.length s
    have hle := subs_len l.length s
    have hpl : (pickedB l (subsOf l.length s)).length ≤ 8 := by unfold pickedB; rw [List.length_map]; omega
    have ho : (subsOf l.length s).length ≠ 0 := by
      intro h0
      have h1 := bits_step s hb.2 (by omega)
      rw [← hb.1] at h1
      rw [h1.1] at h0
      simp at h0
    obtain ⟨o, hoo⟩ : ∃ o, subsOf l.length s = o := ⟨_, rfl⟩
    rw [hoo] at hr hle hpl ho hR ⊢
    have hps := picked_all l gsm hs o hr
    have hpg := picked_all l gok hg o hr
    have hwt := weight_from (pickedB l o) 0 hpg (Int.le_refl _) (by omega)
    have hpl2 : (pickedB l o).length = o.length := by unfold pickedB; rw [List.length_map]
    have hw1 : 1 ≤ weightB (pickedB l o) := by unfold weightB; omega
    refine Ev.step (fun k => by rw [spec_HeaviestLoad.l1]) ?_
    simp only [Int.lt_irrefl, ↓reduceIte]
    refine Ev.bind (spec_weight_ev (pickedB l o) (by omega)) ?_
    refine Ev.bind (load_ev a0 a1 a2 a3 a4 a5 hold (pickedB l o) hps hpg (by omega)) ?_
    have hsc : heavySc [a0, a1, a2, a3, a4, a5] hold l o = if washB [a0, a1, a2, a3, a4, a5] hold (pickedB l o) = true then weightB (pickedB l o) else -1 := by unfold heavySc; rw [if_neg ho]
    obtain ⟨wt, hwte⟩ : ∃ wt, weightB (pickedB l o) = wt := ⟨_, rfl⟩
    rw [hwte] at hw1 hsc ⊢
    unfold updS at hR
    rw [hsc] at hR
    cases hq : washB [a0, a1, a2, a3, a4, a5] hold (pickedB l o) with
    | false =>
      rw [hq] at hR
      simp only [Bool.false_eq_true, ↓reduceIte] at hR ⊢
      rw [if_neg (by rcases hinv with h | h; rw [h]; simp; omega), ← hst'] at hR
      simp only [hw]
      exact hR
    | true =>
      rw [hq] at hR
      simp only [↓reduceIte] at hR ⊢
      rcases hinv with hi1 | hi1
      · rw [hi1] at hR hst'
        rw [if_pos (.inl (by simp only; omega))] at hR
        rw [show hst (o, wt) = (o, wt) from if_neg (by simp only; omega)] at hR
        have hm : most = 0 := congrArg Prod.snd hst'
        simp only [show wt > most by omega, ↓reduceIte, hw]
        exact hR
      · have hst2 : hst st = st := if_neg (by omega)
        rw [hst2] at hst'
        have hbb : st.1 = best := (congrArg Prod.fst hst').symm
        have hbm : st.2 = most := (congrArg Prod.snd hst').symm
        by_cases c1 : wt > most
        · rw [if_pos (.inl (by omega)), show hst (o, wt) = (o, wt) from if_neg (by simp only; omega)] at hR
          simp only [c1, ↓reduceIte, hw]
          exact hR
        · by_cases c2 : wt = most
          · simp only [c2, Int.lt_irrefl, gt_iff_lt, ↓reduceIte]
            refine Ev.bind (Before_is o best (by omega)) ?_
            cases hx : lexlt o best with
            | true =>
              rw [if_pos (.inr ⟨by omega, by omega, by rw [hbb]; exact hx⟩), show hst (o, wt) = (o, wt) from if_neg (by simp only; omega)] at hR
              simp only [↓reduceIte, hw]
              rw [c2] at hR
              exact hR
            | false =>
              rw [if_neg (fun h => h.elim (fun h => c1 (by omega)) (fun h => by rw [hbb, hx] at h; exact absurd h.2.2 (by decide))), hst2] at hR
              simp only [Bool.false_eq_true, ↓reduceIte, hw]
              rw [hbb, hbm] at hR
              exact hR
          · rw [if_neg (fun h => h.elim (fun h => c1 (by omega)) (fun h => c2 (by omega))), hst2] at hR
            simp only [c1, c2, ↓reduceIte, hw]
            rw [hbb, hbm] at hR
            exact hR
  | succ d ih =>
    intro i hi
    have hnext := ih (i + 1) (by omega)
    have hle := subs_len i s
    have hpl : (pickedB l (subsOf i s)).length ≤ 8 := by unfold pickedB; rw [List.length_map]; omega
    have hw : wrap64 ((i : Int) + 1) = ((i + 1 : Nat) : Int) := by unfold wrap64; omega
    have hu : (0 : Int) ≤ IntKind.u64.wrap (i : Int) := by rw [IntKind.wrap_u64]; omega
    have hbi := bit_is s hb.2 i (by omega)
    rw [subs_succ] at hnext
    refine Ev.step (fun k => by rw [spec_HeaviestLoad.l1]) ?_
    by_cases h : s.testBit i = true
    · rw [if_pos h, show pickedB l (subsOf i s ++ [(i : Int)]) = pickedB l (subsOf i s) ++ [rd_T44 l (i : Int)] by simp [pickedB]] at hnext
      simp only [show (i : Int) < (l.length : Int) by omega, hu, hbi.2 h, show (0 : Int) ≤ (i : Int) by omega, show (pickedB l (subsOf i s)).length < 23456248059221 by omega, show (subsOf i s).length < 17592186044416 by omega, ↓reduceIte, hw]
      exact hnext
    · rw [if_neg h, List.append_nil] at hnext
      simp only [show (i : Int) < (l.length : Int) by omega, hu, show ¬ Go.bits .and .i64 (shr .i64 (s : Int) (IntKind.u64.wrap (i : Int))) 1 = 1 from fun hh => h (hbi.1 hh), ↓reduceIte, hw]
      exact hnext
omit hs in
theorem hv_inv (st : List Int × Int) (hinv : st = ([], -1) ∨ 1 ≤ st.2) (s : Nat) : updS (heavySc [a0, a1, a2, a3, a4, a5] hold l) (subsOf l.length s) st = ([], -1) ∨ 1 ≤ (updS (heavySc [a0, a1, a2, a3, a4, a5] hold l) (subsOf l.length s) st).2 := by
  have hr := subs_range l.length s
  have hle := subs_len l.length s
  obtain ⟨o, hoo⟩ : ∃ o, subsOf l.length s = o := ⟨_, rfl⟩
  rw [hoo] at hr hle ⊢
  have hpg := picked_all l gok hg o hr
  have hpl2 : (pickedB l o).length = o.length := by unfold pickedB; rw [List.length_map]
  have hwt := weight_from (pickedB l o) 0 hpg (Int.le_refl _) (by omega)
  have hsc : heavySc [a0, a1, a2, a3, a4, a5] hold l o = -1 ∨ 1 ≤ heavySc [a0, a1, a2, a3, a4, a5] hold l o := by
    unfold heavySc
    by_cases h0 : o.length = 0
    · rw [if_pos h0]; exact .inl rfl
    · rw [if_neg h0]
      by_cases hw : washB [a0, a1, a2, a3, a4, a5] hold (pickedB l o) = true
      · rw [if_pos hw]
        exact .inr (by unfold weightB; omega)
      · rw [if_neg hw]; exact .inl rfl
  unfold updS
  by_cases hc : heavySc [a0, a1, a2, a3, a4, a5] hold l o > st.2 ∨ (heavySc [a0, a1, a2, a3, a4, a5] hold l o = st.2 ∧ heavySc [a0, a1, a2, a3, a4, a5] hold l o ≥ 0 ∧ lexlt o st.1 = true)
  · rw [if_pos hc]
    refine .inr ?_
    simp only
    rcases hinv with h | h
    · rw [h] at hc
      simp only at hc
      omega
    · omega
  · rw [if_neg hc]
    exact hinv
omit hs in
theorem hv_fold (s : Nat) : ((List.range s).foldl (fun st set => updS (heavySc [a0, a1, a2, a3, a4, a5] hold l) (subsOf l.length set) st) ([], -1)) = ([], -1) ∨ 1 ≤ ((List.range s).foldl (fun st set => updS (heavySc [a0, a1, a2, a3, a4, a5] hold l) (subsOf l.length set) st) ([], -1)).2 := by
  induction s with
  | zero => exact .inl rfl
  | succ s ih =>
    rw [List.range_succ, List.foldl_append]
    exact hv_inv a0 a1 a2 a3 a4 a5 hold l hg hl _ ih s
theorem hv_l0 : ∀ (d s : Nat), 1 ≤ s → s + d = 2 ^ l.length →
    Ev (fun k => spec_HeaviestLoad.l0 k hold l (hst ((List.range s).foldl (fun st set => updS (heavySc [a0, a1, a2, a3, a4, a5] hold l) (subsOf l.length set) st) ([], -1))).1 (hst ((List.range s).foldl (fun st set => updS (heavySc [a0, a1, a2, a3, a4, a5] hold l) (subsOf l.length set) st) ([], -1))).2 (s : Int) a0 a1 a2 a3 a4 a5) (hout (bestS (heavySc [a0, a1, a2, a3, a4, a5] hold l) l.length)) := by
  have hu : (0 : Int) ≤ IntKind.u64.wrap (l.length : Int) := by rw [IntKind.wrap_u64]; omega
  have hsh := shl_pow l.length (by omega)
  intro d
  induction d with
  | zero =>
    intro s h1 hsd
    obtain rfl : s = 2 ^ l.length := by omega
    refine Ev.step (fun k => by rw [spec_HeaviestLoad.l0]) ?_
    simp only [hu, hsh, Int.lt_irrefl, ↓reduceIte]
    rw [bestS]
    have hinv := hv_fold a0 a1 a2 a3 a4 a5 hold l hg hl (2 ^ l.length)
    obtain ⟨st, hst'⟩ : ∃ st, (List.range (2 ^ l.length)).foldl (fun st set => updS (heavySc [a0, a1, a2, a3, a4, a5] hold l) (subsOf l.length set) st) ([], -1) = st := ⟨_, rfl⟩
    rw [hst'] at hinv ⊢
    rcases hinv with h | h
    · rw [h]
      exact Ev.now _
    · rw [show hst st = st from if_neg (by omega), show hout st = (st.1, st.2, 0) from if_neg (by omega)]
      simp only [show ¬ st.2 = 0 by omega, ↓reduceIte]
      exact Ev.now _
  | succ d ih =>
    intro s h1 hsd
    have hnext := ih (s + 1) (by omega) (by omega)
    rw [List.range_succ, List.foldl_append] at hnext
    have hlt : (s : Int) < ((2 ^ l.length : Nat) : Int) := by omega
    refine Ev.step (fun k => by rw [spec_HeaviestLoad.l0]) ?_
    simp only [hu, hsh, hlt, ↓reduceIte]
    have hinv := hv_fold a0 a1 a2 a3 a4 a5 hold l hg hl s
    exact hv_l1 a0 a1 a2 a3 a4 a5 hold l hs hg hl _ _ s h1 (by omega) _ rfl hinv _ hnext l.length 0 (by omega)
end
def heavyR (rs : List Int) (hold : Int) (l : List S44) : List Int × Int × Int := if codeL rs l (holdB hold) = 0 then hout (bestS (heavySc rs hold l) l.length) else ([], 0, codeL rs l (holdB hold))
theorem spec_hv (a0 a1 a2 a3 a4 a5 hold : Int) (l : List S44) (hs : l.all gsm = true) (hl : l.length ≤ 1048576) : Ev (fun k => spec_HeaviestLoad.f k a0 a1 a2 a3 a4 a5 hold l) (heavyR [a0, a1, a2, a3, a4, a5] hold l) := by
  unfold spec_HeaviestLoad.f heavyR
  simp only [hold_eq, Option.bind_some]
  refine Ev.bind (l01Asked_ev a0 a1 a2 a3 a4 a5 l hs hl (holdB hold)) ?_
  by_cases h : codeL [a0, a1, a2, a3, a4, a5] l (holdB hold) = 0
  · have hc := codeL_ok h
    simp only [h, ↓reduceIte]
    have h0 : updS (heavySc [a0, a1, a2, a3, a4, a5] hold l) (subsOf l.length 0) ([], -1) = ([], -1) := by
      have e : subsOf l.length 0 = [] := by unfold subsOf; simp
      have e2 : heavySc [a0, a1, a2, a3, a4, a5] hold l [] = -1 := if_pos rfl
      rw [e, updS, e2, if_neg (by simp)]
    have := hv_l0 a0 a1 a2 a3 a4 a5 hold l hs hc.2.1 hc.2.2.2 (2 ^ l.length - 1) 1 (Nat.le_refl _) (by have := Nat.two_pow_pos l.length; omega)
    rw [show List.range 1 = [0] from rfl, List.foldl_cons, List.foldl_nil, h0] at this
    exact this
  · simp only [h, ↓reduceIte]
    exact Ev.now _
theorem impl_hv (a0 a1 a2 a3 a4 a5 : Int) (hr : rsWf [a0, a1, a2, a3, a4, a5]) (hold : Int) (l : List S44) (hs : l.all gsm = true) : Ev (fun k => impl_HeaviestLoad.f k a0 a1 a2 a3 a4 a5 hold l) (heavyR [a0, a1, a2, a3, a4, a5] hold l) := by
  unfold impl_HeaviestLoad.f heavyR
  refine Ev.bind (loadCode_ev a0 a1 a2 a3 a4 a5 hr hold l hs) ?_
  by_cases h : codeL [a0, a1, a2, a3, a4, a5] l (holdB hold) = 0
  · have hc := codeL_ok h
    have hcol : colB l = true := by
      unfold colB
      rw [List.all_eq_true]
      intro x hx
      exact decide_eq_true (gok_col (all_mem hc.2.1 hx) (all_mem hs hx))
    simp only [h, ↓reduceIte]
    rw [if_pos ⟨hc.2.2.2, hcol⟩]
    exact Ev.now _
  · simp only [h, ↓reduceIte]
    exact Ev.now _
theorem hv_fst (sc : List Int → Int) (n : Nat) : (bestS sc n).1.length ≤ n := by
  have key : ∀ (ss : List Nat) (st : List Int × Int), st.1.length ≤ n → (ss.foldl (fun s set => updS sc (subsOf n set) s) st).1.length ≤ n := by
    intro ss
    induction ss with
    | nil => intro st h; exact h
    | cons s ss ih =>
      intro st h
      rw [List.foldl_cons]
      refine ih _ ?_
      unfold updS
      split
      · exact subs_len n s
      · exact h
  exact key _ _ (by simp)
theorem heavy_len (rs : List Int) (hold : Int) (l : List S44) : (heavyR rs hold l).1.length ≤ l.length := by
  unfold heavyR hout
  split
  · split
    · simp
    · exact hv_fst _ _
  · simp
theorem FnExactHeaviestLoad (a0_0 : Int) (a0_1 : Int) (a0_2 : Int) (a0_3 : Int) (a0_4 : Int) (a0_5 : Int) (a1 : Int) (l2 : List S89) (w0_0 : (Lit.int .u8 a0_0).wf = true) (w0_1 : (Lit.int .u8 a0_1).wf = true) (w0_2 : (Lit.int .u8 a0_2).wf = true) (w0_3 : (Lit.int .u8 a0_3).wf = true) (w0_4 : (Lit.int .u8 a0_4).wf = true) (w0_5 : (Lit.int .u8 a0_5).wf = true) (w1 : (Lit.int .i64 a1).wf = true) (y2 : l2.length ≤ 9223372036854775807) (w2 : ∀ x ∈ l2, (Lit.int .u8 x.f0).wf = true ∧ (Lit.int .i8 x.f1).wf = true ∧ (Lit.int .i8 x.f2).wf = true ∧ (Lit.int .i16 x.f3).wf = true) : ∃ k, laws_FnExactHeaviestLoad.f k a0_0 a0_1 a0_2 a0_3 a0_4 a0_5 a1 l2 = some true := by
  have hr := rsWf_of a0_0 a0_1 a0_2 a0_3 a0_4 a0_5 w0_0 w0_1 w0_2 w0_3 w0_4 w0_5
  refine Ev.rounds ?_
  unfold laws_FnExactHeaviestLoad.f
  simp only [szGarmentS_eq l2 1048576 (by omega) (by omega) y2, laws_toRules.f, Option.bind_some]
  by_cases hl : (l2.length : Int) ≤ 1048576
  · simp only [hl, ↓reduceIte, show ¬ (1048576 - (l2.length : Int) < 0) by omega]
    have h0 : l2.length ≤ 1048576 := by omega
    have s0 : (toS l2).length ≤ 1048576 := by rw [toS_len]; exact h0
    have hs := toS_small w2
    have hR : (heavyR [a0_0, a0_1, a0_2, a0_3, a0_4, a0_5] a1 (toS l2)).1.length ≤ 1048576 := Nat.le_trans (heavy_len _ _ _) s0
    refine Ev.bind (toGarmentS_ev l2 h0) ?_
    refine Ev.bind (spec_hv _ _ _ _ _ _ _ _ hs s0) ?_
    refine Ev.bind (toGarmentS_ev l2 h0) ?_
    refine Ev.bind (impl_hv _ _ _ _ _ _ hr _ _ hs) ?_
    refine Ev.bind (eqInt64S_ev _ hR) ?_
    simp only [↓reduceIte, bne_self_eq_false]
    refine Ev.step (fun k => by rw [laws_FnExactHeaviestLoad.j0]) ?_
    simp only [Bool.false_eq_true, ↓reduceIte]
    refine Ev.bind (toGarmentS_ev l2 h0) ?_
    refine Ev.bind (eqGarmentS_ev _ s0) ?_
    simp only [↓reduceIte]
    obtain ⟨r, hmk⟩ := markGarmentS_ev (toS l2) s0
    refine Ev.bind hmk ?_
    simp only [show ¬ ((4 * (toS l2).length + 1 : Nat) : Int) < 0 by omega, ↓reduceIte]
    refine Ev.bind (eqInt64S_ev _ hR) ?_
    simp only [↓reduceIte, bne_self_eq_false]
    refine Ev.step (fun k => by rw [laws_FnExactHeaviestLoad.j1]) ?_
    simp only [Bool.false_eq_true, ↓reduceIte]
    refine Ev.bind (markInt64S_ev _ hR) ?_
    refine Ev.bind (heldInt64S_ev _ hR) ?_
    simp only [show ∀ n : Nat, ¬ ((n + 1 : Nat) : Int) < 0 by intro n; omega, ↓reduceIte, laws_toRules.f, Option.bind_some]
    refine Ev.bind (toGarmentS_ev l2 h0) ?_
    refine Ev.bind (impl_hv _ _ _ _ _ _ hr _ _ hs) ?_
    refine Ev.bind (eqInt64S_ev _ hR) ?_
    simp only [↓reduceIte, bne_self_eq_false]
    refine Ev.step (fun k => by rw [laws_FnExactHeaviestLoad.j2]) ?_
    simp only [Bool.false_eq_true, ↓reduceIte]
    refine Ev.bind (heldInt64S_ev _ hR) ?_
    simp only [show ∀ n : Nat, ¬ ((n + 1 : Nat) : Int) < 0 by intro n; omega, ↓reduceIte]
    exact Ev.now _
  · simp only [hl, ↓reduceIte, show (-1 : Int) < 0 by omega]
    exact Ev.now _
end Go.Proofs.YthodfhcaaidnmaaDoor.Pure
