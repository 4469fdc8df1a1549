/- For every input the law FnExactDayText answers true, and each argument reads afterwards as it read before. -/
import Derived.Test.YtanalckdmamepaaDoorRows
import Derived.Test.YtanalckdmamepaaDoorCards
import Derived.Test.YtanalckdmamepaaDoorTie
import Derived.Test.YtanalckdmamepaaDoorTDx25
import Derived.Test.YtanalckdmamepaaDoorTDx1
import Derived.Test.YtanalckdmamepaaDoorTDx26
import Derived.WalkKit
import Derived.ProofKit
import Derived.OpenShut
import Derived.ChangeOld
import Derived.Below
import Derived.SizedLaws
import Derived.Lib.SmallJoins
import Derived.Handed
import Derived.Handy
import Derived.Lay
import Derived.MakeChecks
import Derived.Stop.LaidErr
import Derived.Lib.LaidTab
import Derived.SevenTiedAt
import Derived.Deep.Slices
import Derived.Deep.Fields
namespace Go.Proofs.YtanalckdmamepaaDoor.fnExactDayText
open Go.ChangeShapes Go.WideShapes Go.ChangeAt Go.RowKit Go.Deep Go.Joins Go.Proofs.YtanalckdmamepaaDoor.Own Go.Proofs.YtanalckdmamepaaDoorW.PrintWords Go.Proofs.YtanalckdmamepaaDoor.Dx
set_option linter.unusedVariables false
theorem own : ownKnob Tryd.prog.godebug = none := by kernel_rfl
theorem laidOut : laidOutB Tryd.prog = true := by kernel_rfl
theorem flat_ext {α : Type} (f : α → List Value) (m : Nat) (hf : ∀ z, (f z).length = m) : ∀ (zs : List α) (l : List Value), l.length = zs.length * m → (∀ i (hi : i < zs.length) j, j < m → l[i * m + j]? = (f zs[i])[j]?) → l = zs.flatMap f
  | [], l, hl, _ => by
    rw [List.flatMap_nil]
    exact List.eq_nil_of_length_eq_zero (by simpa using hl)
  | z :: zs, l, hl, h => by
    have hlen : l.length = m + zs.length * m := by rw [hl, List.length_cons, Nat.succ_mul, Nat.add_comm]
    have h1 : l.take m = f z := by
      apply List.ext_getElem?
      intro j
      rw [List.getElem?_take]
      by_cases hj : j < m
      · rw [if_pos hj]
        have := h 0 (by simp) j hj
        simpa using this
      · rw [if_neg hj, List.getElem?_eq_none (by rw [hf]; omega)]
    have h2 : l.drop m = zs.flatMap f := by
      refine flat_ext f m hf zs (l.drop m) (by rw [List.length_drop]; omega) (fun i hi j hj => ?_)
      have := h (i + 1) (by simpa using hi) j hj
      rw [List.getElem?_drop, ← Nat.add_assoc, show m + i * m + j = (i + 1) * m + j by rw [Nat.succ_mul]; omega, this]
      simp
    rw [List.flatMap_cons, ← h1, ← h2, List.take_append_drop]
section
variable {H : Type} {enc : TypeId × Value → H} {P : Program} {w : World} {base : Nat} {spare : Nat → Bool} {held : Bool}
theorem array_fields {r : Reach} {b0 n : Nat} {t e : TypeId} {fs : Array Field} {v : Value} {d : DataW H} {p : List MemPlace} (ks : List IntKind)
    (ht : P.underlying t = some (.array n e)) (he : P.underlying e = some (.struct fs)) (hone : oneCellFields P fs = true) (hC : P.cellsOf e = fs.size) (hT : P.cellsOf t = n * fs.size)
    (hks : ks.length = fs.size) (hk : ∀ (j : Nat) (k : IntKind), ks[j]? = some k → ∃ f : Field, fs[j]? = some f ∧ P.underlying f.type = some (.int k))
    (hv : Value.okWide P w r b0 t v) (h : DataW.Trod enc P w base spare held t v d p) :
    ∃ zs : List (List Int), zs.length = n ∧ v = .agg (zs.flatMap fun z => fieldCells z 0 ks).toArray := by
  unfold Value.okWide at hv
  rw [ht] at hv
  obtain ⟨cs, rfl, _⟩ := hv
  obtain ⟨fuel, hf⟩ := h
  obtain ⟨xs, m, _, _, hl, hxl, hi⟩ := DataW.trod_array ht hf
  simp only [Value.cells] at hl hi
  have hlen : cs.toList.length = n * ks.length := by rw [hks, ← hT]; exact hl
  obtain ⟨zs, hzl, hz⟩ := choose_list (Q := fun i (z : List Int) => ∀ (j : Nat) (k : IntKind), ks[j]? = some k → cs.toList[i * ks.length + j]? = some (.int k (z.getD j 0))) n (fun i him => by
    have h1 := hi i him
    rw [hC] at h1
    have hin : i * fs.size + fs.size ≤ cs.toList.length := by
      rw [hlen, hks, ← Nat.succ_mul]
      exact Nat.mul_le_mul_right _ him
    obtain ⟨cs', hcs⟩ : ∃ cs', (cs.toList.drop (i * fs.size)).take fs.size = cs' := ⟨_, rfl⟩
    rw [hcs] at h1
    have hcl : cs'.length = fs.size := by rw [← hcs, List.length_take, List.length_drop]; omega
    rw [List.getElem?_eq_getElem (show i < xs.length by omega)] at h1
    obtain ⟨ys, n', hn', hy, hlen', hyl, hf'⟩ := DataW.trod_struct he h1
    obtain ⟨z, hzl, hzz⟩ := choose_list (Q := fun j (x : Int) => ∀ (k : IntKind), ks[j]? = some k → cs.toList[i * ks.length + j]? = some (.int k x)) ks.length (fun j hj => by
      obtain ⟨f, hfj, hu⟩ := hk j ks[j] (List.getElem?_eq_getElem hj)
      obtain ⟨ho, hc1⟩ := hone_of hone j f hfj
      have h1 := hf' j f hfj
      rw [ho, hc1] at h1
      have hjc : j < cs'.length := by omega
      have hone' : (cs'.drop j).take 1 = [cs'[j]] := by
        rw [List.drop_eq_getElem_cons hjc]
        rfl
      rw [hone', List.getElem?_eq_getElem (show j < ys.length by omega)] at h1
      obtain ⟨x, hxx, _, hwf⟩ := DataW.trod_int hu h1
      refine ⟨x, fun k hk' => ?_⟩
      have hke : ks[j] = k := by
        rw [List.getElem?_eq_getElem hj] at hk'
        injection hk'
      subst hke
      have hx : cs'[j] = .int ks[j] x := by simpa using hxx
      have hget : cs'[j]? = cs.toList[i * fs.size + j]? := by
        rw [← hcs, List.getElem?_take, if_pos (by omega), List.getElem?_drop]
      rw [hks, ← hget, List.getElem?_eq_getElem hjc, hx])
    refine ⟨z, fun j k hjk => ?_⟩
    have hj : j < ks.length := (List.getElem?_eq_some_iff.1 hjk).1
    have hzj : z[j]? = some z[j] := List.getElem?_eq_getElem (by omega)
    have := hzz j z[j] hzj k hjk
    rw [List.getD_eq_getElem?_getD, hzj]
    exact this)
  refine ⟨zs, hzl, ?_⟩
  have hfin := flat_ext (fun z => fieldCells z 0 ks) ks.length (fun z => fieldCells_length z ks 0) zs cs.toList (by rw [hzl]; exact hlen) (fun i hi j hj => by
    have h1 := hz i zs[i] (List.getElem?_eq_getElem hi) j ks[j] (List.getElem?_eq_getElem hj)
    rw [h1]
    have hfl : j < (fieldCells zs[i] 0 ks).length := by rw [fieldCells_length]; exact hj
    obtain ⟨k', hk', hu⟩ := fieldCells_get zs[i] ks 0 j _ (List.getElem?_eq_getElem hfl)
    rw [List.getElem?_eq_getElem hfl, hu]
    rw [List.getElem?_eq_getElem hj] at hk'
    injection hk' with hk'
    rw [hk', Nat.zero_add])
  rw [← hfin]
end
set_option maxRecDepth 100000 in
theorem lifted (os : Os) (started : os.Started) (H : Type) (enc : TypeId × Value → H) :
    ReturnsInHanded {} Tryd.checked os 3 .any (fun w args => (Rows.fnExactDayTextSpec.pre enc Tryd.prog Tryd.f3 Rows.fnExactDayTextRow.domain false w args ∧ laidMetH Tryd.prog Rows.fnExactDayTextRow.laid w) ∧ sizedMet enc Tryd.prog Tryd.f3 (OpenSpec.ofChange Rows.fnExactDayTextSpec) false w args) (Rows.fnExactDayTextSpec.post enc Tryd.prog Tryd.f3 false true false false) := by
  refine returnsInHanded_of_change_and (C := Tryd.checked) (X := fun w _ => laidMetH Tryd.prog Rows.fnExactDayTextRow.laid w) (fun _ _ _ hh h => h.of_heap hh) own started (by kernel_rfl) Tryd.func3
    (ChangeSpec.witness_shaped (enc := enc) (C := Tryd.checked) (os := os) (X := fun w _ => laidMetH Tryd.prog Rows.fnExactDayTextRow.laid w) false (World.laidAll Tryd.prog os Rows.fnExactDayTextRow.laid) #[.agg (Array.replicate 72 (.int .i8 0))] 8 (World.laidAll_os _ _ _)
      (World.shaped_of_ZipB (by kernel_rfl) (by kernel_rfl)) (by kernel_rfl) (by kernel_rfl) (by kernel_rfl)
      (by rw [MakeChecks.laidMetH_plain _ _ _ (by kernel_rfl)]; exact laidMet_laidAll _ (by kernel_rfl) (by kernel_rfl))) ?_
  intro W base args ds gs before hval0 hW hcnd hsz0 hL _
  have hval : ∀ (j : Nat) t v, Tryd.f3.params[j]? = some t → args[j]? = some v → Value.okWide Tryd.prog W .any base t v := hval0
  have hW' := hW
  obtain ⟨p, q, hA0, hV, rfl, hfz, hnd⟩ := hW
  have hA : DataW.TrodAll enc Tryd.prog W 0 (fun _ => true) true Tryd.f3.params.toList args.toList ds p := hA0
  rw [Tryd.params3] at hA hval
  obtain ⟨v0, vs0, d0, ds0, p0, q0, hargs, rfl, rfl, h0, r0⟩ := trodAll_cons hA
  obtain ⟨rfl, rfl, rfl⟩ := trodAll_nil r0
  obtain rfl : args = #[v0] := by cases args; simp_all
  obtain ⟨rfl, rfl⟩ := trodVars_none hV
  obtain ⟨zs, hzl, rfl⟩ := array_fields [.i8, .i8, .i8] Tryd.underlying25 Tryd.underlying24 (by kernel_rfl) (by kernel_rfl) (by kernel_rfl) rfl
    (fun | 0, k, h => ⟨_, rfl, by cases h; exact Tryd.underlying22⟩ | 1, k, h => ⟨_, rfl, by cases h; exact Tryd.underlying22⟩ | 2, k, h => ⟨_, rfl, by cases h; exact Tryd.underlying22⟩ | (j + 3), k, h => by simp at h) (hval 0 25 v0 rfl rfl) h0
  have hd : (zs.flatMap fun z => fieldCells z 0 [IntKind.i8, IntKind.i8, IntKind.i8]) = dayC (zs.map fun z => (⟨z.getD 0 0, z.getD 1 0, z.getD 2 0⟩ : S27)) := by
    unfold dayC
    rw [List.flatMap_map]
    rfl
  clear hA0 hval0 hsz0 hval
  rw [MakeChecks.laidMetH_plain _ _ _ (by kernel_rfl)] at hL
  have eL : (Rows.laid_internal_strconv_uint64pow10 : DataW Unit) = Lib.tabData .u64 Lib.pow10Tab := by kernel_rfl
  have hL2 : laidMet Tryd.prog [("math/bits.deBruijn32tab", Rows.laid_math_bits_deBruijn32tab), ("math/bits.deBruijn64tab", Rows.laid_math_bits_deBruijn64tab), ("internal/strconv.uint64pow10", Lib.tabData .u64 Lib.pow10Tab)] W := by rw [← eL]; exact hL
  have hT : TabOK W := Lib.tabIs_of_head (g := 0) (t := 74) (e := 63) (n := 20) (by kernel_rfl) (by kernel_rfl) Tryd.underlying74 Tryd.underlying63 (by kernel_rfl) (by kernel_rfl) hL2.tail.tail
  clear hL hL2 eL
  have hcall := lawDayText_calls (zs.map fun z => (⟨z.getD 0 0, z.getD 1 0, z.getD 2 0⟩ : S27)) (by rw [List.length_map]; exact hzl) W hT
  rw [← hd] at hcall
  refine hcall.mono fun e W' ⟨he, bel⟩ => ?_
  subst he
  exact ⟨_, rfl, law_post laidOut (by simp only [Tryd.params3]; intro t ht; simp only [List.mem_singleton] at ht; subst ht; exact ⟨by kernel_rfl, of_decide_eq_true (by kernel_rfl)⟩) rfl rfl Tryd.underlying4 hW' rfl rfl rfl bel⟩
theorem closed : joinedFacts Tryd.pinned.checked.prog 3 Tryd.f3 Rows.fnExactDayTextSpec Rows.fnExactDayTextRow = true := by
  unfold joinedFacts
  exact Facts.and_t (Facts.and_t (Facts.and_t (Facts.and_t (Facts.and_t (Facts.and_t (Facts.and_t (Facts.and_t (Facts.and_t (Facts.and_t (Facts.and_t (Facts.and_t (Facts.and_t (Facts.and_t (Facts.and_t (Facts.and_t (Facts.and_t (Facts.and_t (Facts.and_t (Facts.and_t (Facts.and_t (Facts.and_t (Facts.and_t (Facts.and_t (Facts.and_t (Facts.and_t (Facts.and_t (Facts.and_t (Facts.and_t (Facts.and_t (Facts.and_t (by as_aux_lemma => kernel_rfl) (by as_aux_lemma => kernel_rfl)) (by as_aux_lemma => kernel_rfl)) (by as_aux_lemma => kernel_rfl)) (by as_aux_lemma => kernel_rfl)) (by as_aux_lemma => kernel_rfl)) (by as_aux_lemma => kernel_rfl)) (by as_aux_lemma => kernel_rfl)) (by as_aux_lemma => kernel_rfl)) (by as_aux_lemma => kernel_rfl)) (by as_aux_lemma => kernel_rfl)) (by as_aux_lemma => kernel_rfl)) (by as_aux_lemma => kernel_rfl)) (by as_aux_lemma => kernel_rfl)) (by as_aux_lemma => kernel_rfl)) (by as_aux_lemma => kernel_rfl)) (by as_aux_lemma => kernel_rfl)) (by as_aux_lemma => kernel_rfl)) (by as_aux_lemma => kernel_rfl)) (by as_aux_lemma => kernel_rfl)) (by as_aux_lemma => kernel_rfl)) (by as_aux_lemma => kernel_rfl)) (by as_aux_lemma => kernel_rfl)) (by as_aux_lemma => kernel_rfl)) (by as_aux_lemma => kernel_rfl)) (Facts.mayEnter)) (Facts.lifts)) (Facts.made)) (by as_aux_lemma => kernel_rfl)) (by as_aux_lemma => kernel_rfl)) (by as_aux_lemma => kernel_rfl)) (by as_aux_lemma => kernel_rfl)
theorem over : Rows.fnExactDayTextRow.holds Tryd.pinned (OpenSpec.ofChange Rows.fnExactDayTextSpec) :=
  OpenClaim.holds_of_wide 3 Tryd.f3 rfl rfl rfl rfl rfl rfl rfl ⟨rfl, rfl, rfl, rfl, rfl⟩ rfl rfl rfl rfl rfl (by kernel_rfl) Tryd.func3 closed
    (of_decide_eq_true (by kernel_rfl)) (by unfold Func.isWrapper; first | (rw [if_pos (by decide +kernel)]; kernel_rfl) | (rw [if_neg (by decide +kernel)]; exact ⟨rfl, rfl⟩))
    (fun os started H enc _ => lifted os started H enc)
theorem proved : Rows.FnExactDayTextCardSaid :=
  Claim7.holds_tied_plain_at .later [] [.data, .data, .data] true (true, "773db55a30423b3bfcc4fe0cfab2f4841fbc04ff906ebe8b5b7c0fa146559d90") false over (fun _ h => by cases h) (by kernel_rfl) (fun _ h => by cases h) fnExactDayText_row_tie rfl ⟨rfl, rfl⟩ (by kernel_rfl) rfl
    (fun f fn hf hfn => by
      obtain rfl : f = 3 := Option.some.inj ((show Tryd.prog.funcNamed "loop.example/g01378/laws.FnExactDayText" = some 3 by kernel_rfl).symm.trans hf) |>.symm
      obtain rfl : fn = Tryd.f3 := (Option.some.inj (Tryd.func3.symm.trans hfn)).symm
      exact ⟨by kernel_rfl, fun j t ht => by
        rw [Tryd.params3] at ht
        have hm : t ∈ ([25] : List TypeId) := by
          have := Array.mem_of_getElem? ht
          simp only [List.mem_toArray] at this
          simp only [List.mem_cons, List.not_mem_nil, or_false] at this ⊢
          omega
        have hall : (([25] : List TypeId).all fun u => !Tryd.prog.wantsStandIn u) = true := by kernel_rfl
        exact (show Tryd.prog.wantsStandIn t = false by simpa using List.all_eq_true.1 hall t hm)⟩)
    (by kernel_rfl)
#print axioms proved
end Go.Proofs.YtanalckdmamepaaDoor.fnExactDayText
namespace Go.Proofs.YtanalckdmamepaaDoor
theorem fnExactDayText_holds : Rows.FnExactDayTextCardSaid := fnExactDayText.proved
end Go.Proofs.YtanalckdmamepaaDoor
