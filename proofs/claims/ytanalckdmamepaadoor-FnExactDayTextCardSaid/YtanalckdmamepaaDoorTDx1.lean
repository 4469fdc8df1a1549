/- Words and walks for the law FnExactDayText. -/
import Derived.Test.YtanalckdmamepaaDoorTDx0
import Derived.ProofKit
import Derived.OpenShut
import Derived.ChangeOld
import Derived.Below
import Derived.Deep.Slices
import Derived.Deep.Fields
import Derived.Lib.SmallJoins
namespace Go.Proofs.YtanalckdmamepaaDoor.Own
open Go.ChangeShapes Go.WideShapes Go.RowKit Go.Deep Go.Joins Go.Proofs.YtanalckdmamepaaDoorW.PrintWords
section
variable {H : Type} {enc : TypeId × Value → H} {P : Program}
theorem trodAll_below {W W' : World} (hl : laidOutB P = true) (bel : Below W.heap.size W W') : ∀ {ts : List TypeId} {vs : List Value} {ds : List (DataW H)} {ps : List MemPlace},
    (∀ t ∈ ts, P.readableRec t = true ∧ t < P.types.size) → DataW.TrodAll enc P W 0 (fun _ => true) true ts vs ds ps →
    DataW.TrodAll enc P W' 0 (fun b => decide (b < W.heap.size)) true ts vs ds ps := by
  intro ts
  induction ts with
  | nil =>
    intro vs ds ps _ h
    obtain ⟨rfl, rfl, rfl⟩ := trodAll_nil h
    exact trodAll_mk0
  | cons t ts ih =>
    intro vs ds ps hp h
    obtain ⟨v, vs', d, ds', p, q, rfl, rfl, rfl, h1, h2⟩ := trodAll_cons h
    obtain ⟨hr, hb⟩ := hp t (List.mem_cons_self ..)
    have hlt : ∀ x ∈ p, x.block < W.heap.size := by
      obtain ⟨n, hn⟩ := h1
      exact DataW.trod_lt n _ _ _ hn
    exact trodAll_cons_mk (Below.trod hl hr hb h1 bel hlt) (ih (fun t ht => hp t (List.mem_cons_of_mem _ ht)) h2)
theorem law_post {f : Func} {s : ChangeSpec} {W W' : World} {args : Array Value} {ds gs : List (DataW H)} {before : List MemPlace} {tb : TypeId}
    (hl : laidOutB P = true) (hp : ∀ t ∈ f.params.toList, P.readableRec t = true ∧ t < P.types.size) (hs : s.vars = []) (hres : f.resultTypes = #[tb]) (hb : P.underlying tb = some .bool)
    (hW : DataW.Whole enc P f.params.toList s.vars false W args.toList ds gs before)
    (hr : (s.fn H (ds ++ gs)).results = [.lit (.bool true)]) (ha : (s.fn H (ds ++ gs)).args = ds) (hv : (s.fn H (ds ++ gs)).vars = [])
    (bel : Below W.heap.size W W') : s.post enc P f false true false false W args (.bool true) W' := by
  have hW' := hW
  obtain ⟨p, q, hA, hV, rfl, hfz, hnd⟩ := hW
  have hA' := trodAll_below hl bel hp hA
  refine ⟨ds, gs, p ++ q, [], p, [], hW', ?_, ?_, ?_, bel.frame _, fun h => by cases h⟩
  · rw [hr, hres]
    exact trodAll_mk1 (shut_bool hb _)
  · rw [ha]
    exact hA'
  · rw [hs, hv]
    exact rfl
end
section
variable {H : Type} {enc : TypeId × Value → H} {P : Program} {w : World} {base : Nat} {spare : Nat → Bool} {held : Bool}
theorem choose_list {α : Type} {Q : Nat → α → Prop} : ∀ (n : Nat), (∀ i, i < n → ∃ x, Q i x) → ∃ xs : List α, xs.length = n ∧ ∀ i x, xs[i]? = some x → Q i x := by
  intro n
  induction n with
  | zero => exact fun _ => ⟨[], rfl, fun i x h => by simp at h⟩
  | succ n ih =>
    intro h
    obtain ⟨xs, hl, hx⟩ := ih (fun i hi => h i (by omega))
    obtain ⟨x, hq⟩ := h n (by omega)
    refine ⟨xs ++ [x], by simp [hl], fun i y hy => ?_⟩
    rcases Nat.lt_or_ge i xs.length with hlt | hge
    · rw [List.getElem?_append_left hlt] at hy
      exact hx i y hy
    · have hi : i = xs.length := by
        have := (List.getElem?_eq_some_iff.1 hy).1
        simp at this
        omega
      subst hi
      simp at hy
      subst hy
      rw [hl]
      exact hq
def fieldCells (z : List Int) : Nat → List IntKind → List Value
  | _, [] => []
  | i, k :: ks => .int k (z.getD i 0) :: fieldCells z (i + 1) ks
theorem fieldCells_get (z : List Int) : ∀ (ks : List IntKind) (i j : Nat) (u : Value), (fieldCells z i ks)[j]? = some u → ∃ k, ks[j]? = some k ∧ u = .int k (z.getD (i + j) 0)
  | [], i, j, u, h => by simp [fieldCells] at h
  | k :: ks, i, 0, u, h => ⟨k, rfl, by simpa [fieldCells] using h.symm⟩
  | k :: ks, i, j + 1, u, h => by
    have h' : (fieldCells z (i + 1) ks)[j]? = some u := by simpa [fieldCells] using h
    obtain ⟨k', hk, hu⟩ := fieldCells_get z ks (i + 1) j u h'
    exact ⟨k', by simpa using hk, by rw [hu, Nat.add_assoc, Nat.add_comm 1 j]⟩
theorem fieldCells_length (z : List Int) : ∀ (ks : List IntKind) (i : Nat), (fieldCells z i ks).length = ks.length
  | [], _ => rfl
  | _ :: ks, i => by simp [fieldCells, fieldCells_length z ks (i + 1)]
def firstIdx {α : Type} (p : α → Bool) (l : List α) : Int := if l.any p then (l.findIdx p : Int) else -1
theorem firstIdx_hit {α : Type} {p : α → Bool} {l : List α} {k : Nat} (hk : k < l.length) (h : ∀ j (hj : j < k), p (l[j]'(by omega)) = false) (hp : p l[k] = true) : firstIdx p l = k := by
  have ha : l.any p = true := List.any_eq_true.mpr ⟨l[k], List.getElem_mem hk, hp⟩
  have hf : l.findIdx p = k := by
    rw [List.findIdx_eq hk]
    exact ⟨hp, fun j hj => h j hj⟩
  unfold firstIdx
  rw [if_pos ha, hf]
theorem firstIdx_miss {α : Type} {p : α → Bool} {l : List α} (h : ∀ j (hj : j < l.length), p l[j] = false) : firstIdx p l = -1 := by
  unfold firstIdx
  rw [if_neg]
  intro ha
  obtain ⟨x, hx, hp⟩ := List.any_eq_true.mp ha
  obtain ⟨i, hi, rfl⟩ := List.mem_iff_getElem.mp hx
  rw [h i hi] at hp
  cases hp
theorem firstIdx_nonneg {α : Type} (p : α → Bool) (l : List α) : decide (0 ≤ firstIdx p l) = l.any p := by
  unfold firstIdx
  cases h : l.any p <;> simp
end
end Go.Proofs.YtanalckdmamepaaDoor.Own
