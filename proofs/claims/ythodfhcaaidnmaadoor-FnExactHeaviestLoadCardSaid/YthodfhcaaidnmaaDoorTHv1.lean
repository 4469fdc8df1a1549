/- Words and walks for the law FnExactHeaviestLoad. -/
import Derived.Test.YthodfhcaaidnmaaDoorTHv0
import Derived.ProofKit
import Derived.OpenShut
import Derived.ChangeOld
import Derived.Below
import Derived.Deep.Slices
import Derived.Deep.Fields
import Derived.Lib.SmallJoins
namespace Go.Proofs.YthodfhcaaidnmaaDoor.Own
open Go.ChangeShapes Go.WideShapes Go.RowKit Go.Deep Go.Joins Go.Proofs.YthodfhcaaidnmaaDoorW.PrintWords
section
variable {H : Type} {enc : TypeId × Value → H} {P : Program}
theorem trodAll_below {W W' : World} (hl : laidOutB P = true) (bel : Below W.heap.size W W') : ∀ {ts : List TypeId} {vs : List Value} {ds : List (DataW H)} {ps : List MemPlace},
    (∀ t ∈ ts, P.readableRec t = true ∧ t < P.types.size) → DataW.TrodAll enc P W 0 (fun _ => true) true ts vs ds ps →
    DataW.TrodAll enc P W' 0 (fun b => decide (b < W.heap.size)) true ts vs ds ps := by
  intro ts
  induction ts with
  | nil =>
    intro vs ds ps _ h
    obtain ⟨rfl, rfl, rfl⟩ := trodAll_nil h
    exact trodAll_mk0
  | cons t ts ih =>
    intro vs ds ps hp h
    obtain ⟨v, vs', d, ds', p, q, rfl, rfl, rfl, h1, h2⟩ := trodAll_cons h
    obtain ⟨hr, hb⟩ := hp t (List.mem_cons_self ..)
    have hlt : ∀ x ∈ p, x.block < W.heap.size := by
      obtain ⟨n, hn⟩ := h1
      exact DataW.trod_lt n _ _ _ hn
    exact trodAll_cons_mk (Below.trod hl hr hb h1 bel hlt) (ih (fun t ht => hp t (List.mem_cons_of_mem _ ht)) h2)
theorem law_post {f : Func} {s : ChangeSpec} {W W' : World} {args : Array Value} {ds gs : List (DataW H)} {before : List MemPlace} {tb : TypeId}
    (hl : laidOutB P = true) (hp : ∀ t ∈ f.params.toList, P.readableRec t = true ∧ t < P.types.size) (hs : s.vars = []) (hres : f.resultTypes = #[tb]) (hb : P.underlying tb = some .bool)
    (hW : DataW.Whole enc P f.params.toList s.vars false W args.toList ds gs before)
    (hr : (s.fn H (ds ++ gs)).results = [.lit (.bool true)]) (ha : (s.fn H (ds ++ gs)).args = ds) (hv : (s.fn H (ds ++ gs)).vars = [])
    (bel : Below W.heap.size W W') : s.post enc P f false true false false W args (.bool true) W' := by
  have hW' := hW
  obtain ⟨p, q, hA, hV, rfl, hfz, hnd⟩ := hW
  have hA' := trodAll_below hl bel hp hA
  refine ⟨ds, gs, p ++ q, [], p, [], hW', ?_, ?_, ?_, bel.frame _, fun h => by cases h⟩
  · rw [hr, hres]
    exact trodAll_mk1 (shut_bool hb _)
  · rw [ha]
    exact hA'
  · rw [hs, hv]
    exact rfl
end
section
variable {H : Type} {enc : TypeId × Value → H} {P : Program} {w : World} {base : Nat} {spare : Nat → Bool} {held : Bool}
theorem choose_list {α : Type} {Q : Nat → α → Prop} : ∀ (n : Nat), (∀ i, i < n → ∃ x, Q i x) → ∃ xs : List α, xs.length = n ∧ ∀ i x, xs[i]? = some x → Q i x := by
  intro n
  induction n with
  | zero => exact fun _ => ⟨[], rfl, fun i x h => by simp at h⟩
  | succ n ih =>
    intro h
    obtain ⟨xs, hl, hx⟩ := ih (fun i hi => h i (by omega))
    obtain ⟨x, hq⟩ := h n (by omega)
    refine ⟨xs ++ [x], by simp [hl], fun i y hy => ?_⟩
    rcases Nat.lt_or_ge i xs.length with hlt | hge
    · rw [List.getElem?_append_left hlt] at hy
      exact hx i y hy
    · have hi : i = xs.length := by
        have := (List.getElem?_eq_some_iff.1 hy).1
        simp at this
        omega
      subst hi
      simp at hy
      subst hy
      rw [hl]
      exact hq
theorem slice_fields {r : Reach} {b0 : Nat} {t e : TypeId} {fs : Array Field} {v : Value} {d : DataW H} {p : List MemPlace} (ks : List IntKind)
    (ht : P.underlying t = some (.slice e)) (he : P.underlying e = some (.struct fs)) (hone : oneCellFields P fs = true) (hC : P.cellsOf e = fs.size)
    (hks : ks.length = fs.size) (hk : ∀ (j : Nat) (k : IntKind), ks[j]? = some k → ∃ f : Field, fs[j]? = some f ∧ P.underlying f.type = some (.int k))
    (hv : Value.okWide P w r b0 t v) (h : DataW.Trod enc P w base spare held t v d p) :
    ∃ (A : Option Addr) (len cap : Nat) (zs : List (List Int)), v = .slice A len cap ∧ zs.length = len ∧ len ≤ cap ∧ len ≤ 9223372036854775807 ∧
      (∀ z ∈ zs, ∀ (j : Nat) (k : IntKind), ks[j]? = some k → (Lit.int k (z.getD j 0)).wf = true) ∧
      (0 < len → ∃ ad, A = some ad ∧ ∀ (i : Nat) (z : List Int), zs[i]? = some z → ∀ (j : Nat) (k : IntKind), ks[j]? = some k → w.cell? (ad.add (i * ks.length + j)) = some (.int k (z.getD j 0))) := by
  obtain ⟨A, len, cap, rfl⟩ := okWide_slice ht hv
  obtain ⟨fuel, hf⟩ := h
  rcases open_slice ht hf with ⟨hcs, _⟩ | ⟨a, len', cap', m, n, D, Pl, hcs, hb, hl, hm, hmm, hx, hi⟩
  · simp [Value.cells] at hcs
    obtain ⟨rfl, rfl, rfl⟩ := hcs
    exact ⟨none, 0, 0, [], rfl, rfl, Nat.le_refl _, by omega, by simp, fun h => absurd h (by omega)⟩
  · simp [Value.cells] at hcs
    obtain ⟨rfl, rfl, rfl⟩ := hcs
    have hlm : len ≤ m := by rw [hmm]; split <;> omega
    obtain ⟨zs, hzl, hz⟩ := choose_list (Q := fun i (z : List Int) => ∀ (j : Nat) (k : IntKind), ks[j]? = some k → w.cell? (a.add (i * ks.length + j)) = some (.int k (z.getD j 0)) ∧ (Lit.int k (z.getD j 0)).wf = true) len (fun i him => by
      obtain ⟨cs', hc, ht'⟩ := hi i (by omega)
      rw [hC] at hc
      obtain ⟨ys, n', hn', hy, hlen, hyl, hf'⟩ := DataW.trod_struct he ht'
      obtain ⟨_, hcl, hat⟩ := World.cells?_some hc
      obtain ⟨z, hzl, hzz⟩ := choose_list (Q := fun j (x : Int) => ∀ (k : IntKind), ks[j]? = some k → w.cell? (a.add (i * ks.length + j)) = some (.int k x) ∧ (Lit.int k x).wf = true) ks.length (fun j hj => by
        obtain ⟨f, hfj, hu⟩ := hk j ks[j] (List.getElem?_eq_getElem hj)
        obtain ⟨ho, hc1⟩ := hone_of hone j f hfj
        have hcell := hat j (by omega)
        have h1 := hf' j f hfj
        rw [ho, hc1] at h1
        have hjc : j < cs'.length := by omega
        have hone' : (cs'.drop j).take 1 = [cs'[j]] := by
          rw [List.drop_eq_getElem_cons hjc]
          rfl
        rw [hone', List.getElem?_eq_getElem (show j < ys.length by omega)] at h1
        obtain ⟨x, hxx, _, hwf⟩ := DataW.trod_int hu h1
        refine ⟨x, fun k hk' => ?_⟩
        have hke : ks[j] = k := by
          rw [List.getElem?_eq_getElem hj] at hk'
          injection hk'
        subst hke
        refine ⟨?_, hwf⟩
        rw [hks, ← Go.Deep.add_add, hcell]
        have : cs'[j] = .int ks[j] x := by simpa using hxx
        rw [List.getElem?_eq_getElem hjc, this])
      refine ⟨z, fun j k hjk => ?_⟩
      have hj : j < ks.length := (List.getElem?_eq_some_iff.1 hjk).1
      have hzj : z[j]? = some z[j] := List.getElem?_eq_getElem (by omega)
      have := hzz j z[j] hzj k hjk
      rw [List.getD_eq_getElem?_getD, hzj]
      exact this)
    have hm' : len ≤ 9223372036854775807 := by unfold maxLen at hm; omega
    refine ⟨some a, len, cap, zs, rfl, hzl, hl, hm', fun z hzm j k hjk => ?_, fun _ => ⟨a, rfl, fun i z hiz j k hjk => (hz i z hiz j k hjk).1⟩⟩
    obtain ⟨i, hi', rfl⟩ := List.mem_iff_getElem.1 hzm
    exact (hz i _ (List.getElem?_eq_getElem hi') j k hjk).2
theorem array_nums {r : Reach} {b0 n : Nat} {t e : TypeId} {k : IntKind} {v : Value} {d : DataW H} {p : List MemPlace}
    (ht : P.underlying t = some (.array n e)) (he : P.underlying e = some (.int k)) (hc : P.cellsOf e = 1) (hn : P.cellsOf t = n)
    (hv : Value.okWide P w r b0 t v) (h : DataW.Trod enc P w base spare held t v d p) :
    ∃ zs : List Int, zs.length = n ∧ v = .agg (zs.map (Value.int k)).toArray ∧ ∀ z ∈ zs, (Lit.int k z).wf = true := by
  unfold Value.okWide at hv
  rw [ht] at hv
  obtain ⟨cs, rfl, _⟩ := hv
  obtain ⟨fuel, hf⟩ := h
  obtain ⟨xs, m, _, _, hl, hxl, hi⟩ := DataW.trod_array ht hf
  simp only [Value.cells] at hl hi
  obtain ⟨zs, hzl, hz⟩ := choose_list (Q := fun i (x : Int) => cs.toList[i]? = some (.int k x) ∧ (Lit.int k x).wf = true) n (fun i him => by
    have h1 := hi i him
    rw [hc, Nat.mul_one] at h1
    have hic : i < cs.toList.length := by omega
    have hone' : (cs.toList.drop i).take 1 = [cs.toList[i]] := by
      rw [List.drop_eq_getElem_cons hic]
      rfl
    rw [hone', List.getElem?_eq_getElem (show i < xs.length by omega)] at h1
    obtain ⟨x, hxx, _, hwf⟩ := DataW.trod_int he h1
    refine ⟨x, ?_, hwf⟩
    have : cs.toList[i] = .int k x := by simpa using hxx
    rw [List.getElem?_eq_getElem hic, this])
  refine ⟨zs, hzl, ?_, fun z hzm => ?_⟩
  · have hcz : cs.toList = zs.map (Value.int k) := by
      apply List.ext_getElem?
      intro i
      rcases Nat.lt_or_ge i n with hin | hin
      · have hzi : zs[i]? = some zs[i] := List.getElem?_eq_getElem (by omega)
        rw [(hz i zs[i] hzi).1, List.getElem?_map, hzi]
        rfl
      · rw [List.getElem?_eq_none (by omega), List.getElem?_eq_none (by simp; omega)]
    rw [← hcz]
  · obtain ⟨i, hi', rfl⟩ := List.mem_iff_getElem.1 hzm
    exact (hz i _ (List.getElem?_eq_getElem hi')).2
def fieldCells (z : List Int) : Nat → List IntKind → List Value
  | _, [] => []
  | i, k :: ks => .int k (z.getD i 0) :: fieldCells z (i + 1) ks
theorem fieldCells_get (z : List Int) : ∀ (ks : List IntKind) (i j : Nat) (u : Value), (fieldCells z i ks)[j]? = some u → ∃ k, ks[j]? = some k ∧ u = .int k (z.getD (i + j) 0)
  | [], i, j, u, h => by simp [fieldCells] at h
  | k :: ks, i, 0, u, h => ⟨k, rfl, by simpa [fieldCells] using h.symm⟩
  | k :: ks, i, j + 1, u, h => by
    have h' : (fieldCells z (i + 1) ks)[j]? = some u := by simpa [fieldCells] using h
    obtain ⟨k', hk, hu⟩ := fieldCells_get z ks (i + 1) j u h'
    exact ⟨k', by simpa using hk, by rw [hu, Nat.add_assoc, Nat.add_comm 1 j]⟩
theorem fieldCells_length (z : List Int) : ∀ (ks : List IntKind) (i : Nat), (fieldCells z i ks).length = ks.length
  | [], _ => rfl
  | _ :: ks, i => by simp [fieldCells, fieldCells_length z ks (i + 1)]
theorem C_of_fields {α : Type} {k : Kd α} (mk : List Int → α) (ks : List IntKind) (hsz : k.sz = ks.length) (hK : ∀ W z, k.K W (mk z) (fieldCells z 0 ks)) {A : Option Addr} {len : Nat} {zs : List (List Int)}
    (hl : zs.length = len) (hm : len ≤ 9223372036854775807)
    (hr : 0 < len → ∃ ad, A = some ad ∧ ∀ (i : Nat) (z : List Int), zs[i]? = some z → ∀ (j : Nat) (k : IntKind), ks[j]? = some k → w.cell? (ad.add (i * ks.length + j)) = some (.int k (z.getD j 0))) :
    Kd.C k w A (zs.map mk).length (zs.map mk) := by
  refine ⟨rfl, by simp; omega, fun hn => ?_⟩
  obtain ⟨ad, e, hc⟩ := hr (by simp at hn; omega)
  refine ⟨ad, e, fun j p hj => ?_⟩
  rw [List.getElem?_map] at hj
  obtain ⟨z, hz, rfl⟩ := Option.map_eq_some_iff.mp hj
  refine ⟨fieldCells z 0 ks, by rw [fieldCells_length, hsz], hK w z, fun i u hu => ?_⟩
  obtain ⟨k', hk', rfl⟩ := fieldCells_get z ks 0 i u hu
  rw [hsz, Nat.zero_add]
  exact hc j z hz i k' hk'
theorem arr_cell {W : World} {g t : Nat} {k : IntKind} {xs : List Int} (hg : W.heap[g]? = some (.cells (xs.map (Value.int k)).toArray t (0, 0))) (j : Int) (h0 : 0 ≤ j) (h1 : j < xs.length) :
    W.cell? ⟨g, j.toNat, none⟩ = some (.int k (rd xs j)) := by
  have hj : j.toNat < xs.length := by omega
  rw [cell_of_row _ g j.toNat _ t (0, 0) hg]
  simp [rd, List.getD_eq_getElem?_getD, List.getElem?_eq_getElem hj]
def firstIdx {α : Type} (p : α → Bool) (l : List α) : Int := if l.any p then (l.findIdx p : Int) else -1
theorem firstIdx_hit {α : Type} {p : α → Bool} {l : List α} {k : Nat} (hk : k < l.length) (h : ∀ j (hj : j < k), p (l[j]'(by omega)) = false) (hp : p l[k] = true) : firstIdx p l = k := by
  have ha : l.any p = true := List.any_eq_true.mpr ⟨l[k], List.getElem_mem hk, hp⟩
  have hf : l.findIdx p = k := by
    rw [List.findIdx_eq hk]
    exact ⟨hp, fun j hj => h j hj⟩
  unfold firstIdx
  rw [if_pos ha, hf]
theorem firstIdx_miss {α : Type} {p : α → Bool} {l : List α} (h : ∀ j (hj : j < l.length), p l[j] = false) : firstIdx p l = -1 := by
  unfold firstIdx
  rw [if_neg]
  intro ha
  obtain ⟨x, hx, hp⟩ := List.any_eq_true.mp ha
  obtain ⟨i, hi, rfl⟩ := List.mem_iff_getElem.mp hx
  rw [h i hi] at hp
  cases hp
theorem firstIdx_nonneg {α : Type} (p : α → Bool) (l : List α) : decide (0 ≤ firstIdx p l) = l.any p := by
  unfold firstIdx
  cases h : l.any p <;> simp
theorem list6 {zs : List Int} (h : zs.length = 6) : ∃ a b c d e f, zs = [a, b, c, d, e, f] := by
  match zs, h with
  | [a, b, c, d, e, f], _ => exact ⟨a, b, c, d, e, f, rfl⟩
end
end Go.Proofs.YthodfhcaaidnmaaDoor.Own
