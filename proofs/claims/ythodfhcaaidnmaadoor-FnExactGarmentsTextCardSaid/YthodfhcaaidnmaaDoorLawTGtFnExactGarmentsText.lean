/- For every input the law FnExactGarmentsText answers true, and each argument reads afterwards as it read before. -/
import Derived.Test.YthodfhcaaidnmaaDoorRows
import Derived.Test.YthodfhcaaidnmaaDoorCards
import Derived.Test.YthodfhcaaidnmaaDoorTie
import Derived.Test.YthodfhcaaidnmaaDoorTGt26
import Derived.Test.YthodfhcaaidnmaaDoorTGt27
import Derived.Test.YthodfhcaaidnmaaDoorTGt1
import Derived.Test.YthodfhcaaidnmaaDoorTGt28
import Derived.WalkKit
import Derived.ProofKit
import Derived.OpenShut
import Derived.ChangeOld
import Derived.Below
import Derived.SizedLaws
import Derived.Lib.SmallJoins
import Derived.Handed
import Derived.Handy
import Derived.Lay
import Derived.MakeChecks
import Derived.Stop.LaidErr
import Derived.Lib.LaidTab
import Derived.SevenTiedAt
namespace Go.Proofs.YthodfhcaaidnmaaDoor.fnExactGarmentsText
open Go.ChangeShapes Go.WideShapes Go.ChangeAt Go.RowKit Go.Joins Go.Proofs.YthodfhcaaidnmaaDoor.Own Go.Proofs.YthodfhcaaidnmaaDoorW.PrintWords Go.Proofs.YthodfhcaaidnmaaDoor.Gt
set_option linter.unusedVariables false
theorem own : ownKnob Tryd.prog.godebug = none := by kernel_rfl
theorem laidOut : laidOutB Tryd.prog = true := by kernel_rfl
set_option maxRecDepth 100000 in
theorem lifted (os : Os) (started : os.Started) (H : Type) (enc : TypeId × Value → H) :
    ReturnsInHanded {} Tryd.checked os 6 .any (fun w args => (Rows.fnExactGarmentsTextSpec.pre enc Tryd.prog Tryd.f6 Rows.fnExactGarmentsTextRow.domain false w args ∧ laidMetH Tryd.prog Rows.fnExactGarmentsTextRow.laid w) ∧ sizedMet enc Tryd.prog Tryd.f6 (OpenSpec.ofChange Rows.fnExactGarmentsTextSpec) false w args) (Rows.fnExactGarmentsTextSpec.post enc Tryd.prog Tryd.f6 false true false false) := by
  refine returnsInHanded_of_change_and (C := Tryd.checked) (X := fun w _ => laidMetH Tryd.prog Rows.fnExactGarmentsTextRow.laid w) (fun _ _ _ hh h => h.of_heap hh) own started (by kernel_rfl) Tryd.func6
    (ChangeSpec.witness_shaped (enc := enc) (C := Tryd.checked) (os := os) (X := fun w _ => laidMetH Tryd.prog Rows.fnExactGarmentsTextRow.laid w) false (World.laidAll Tryd.prog os Rows.fnExactGarmentsTextRow.laid) #[.slice none 0 0] 8 (World.laidAll_os _ _ _)
      (World.shaped_of_ZipB (by kernel_rfl) (by kernel_rfl)) (by kernel_rfl) (by kernel_rfl) (by kernel_rfl)
      (by rw [MakeChecks.laidMetH_plain _ _ _ (by kernel_rfl)]; exact laidMet_laidAll _ (by kernel_rfl) (by kernel_rfl))) ?_
  intro W base args ds gs before hval0 hW hcnd hsz0 hL _
  have hval : ∀ (j : Nat) t v, Tryd.f6.params[j]? = some t → args[j]? = some v → Value.okWide Tryd.prog W .any base t v := hval0
  have hW' := hW
  obtain ⟨p, q, hA0, hV, rfl, hfz, hnd⟩ := hW
  have hA : DataW.TrodAll enc Tryd.prog W 0 (fun _ => true) true Tryd.f6.params.toList args.toList ds p := hA0
  rw [Tryd.params6] at hA hval
  obtain ⟨v0, vs0, d0, ds0, p0, q0, hargs, rfl, rfl, h0, r0⟩ := trodAll_cons hA
  obtain ⟨rfl, rfl, rfl⟩ := trodAll_nil r0
  obtain rfl : args = #[v0] := by cases args; simp_all
  obtain ⟨rfl, rfl⟩ := trodVars_none hV
  obtain ⟨A0, len0, c0, zs0, rfl, hz0, hc0, hm0, hw0, hr0⟩ := slice_fields [.u8, .i8, .i8, .i16] Tryd.underlying49 Tryd.underlying89 (by kernel_rfl) (by kernel_rfl) rfl (fun | 0, k, h => ⟨_, rfl, by cases h; exact Tryd.underlying5⟩ | 1, k, h => ⟨_, rfl, by cases h; exact Tryd.underlying41⟩ | 2, k, h => ⟨_, rfl, by cases h; exact Tryd.underlying41⟩ | 3, k, h => ⟨_, rfl, by cases h; exact Tryd.underlying42⟩ | (j + 4), k, h => by simp at h) (hval 0 49 v0 rfl rfl) h0
  obtain ⟨l0, hl0⟩ : ∃ l, l = zs0.map (fun z => (⟨z.getD 0 0, z.getD 1 0, z.getD 2 0, z.getD 3 0⟩ : S89)) := ⟨_, rfl⟩
  have hlen0 : len0 = l0.length := by rw [hl0, List.length_map, hz0]
  have R0 : Kd.C k89 W A0 l0.length l0 := by rw [hl0]; exact C_of_fields _ [.u8, .i8, .i8, .i16] rfl (fun W z => k89_mk W _) hz0 hm0 hr0
  have w0 : ∀ x ∈ l0, (Lit.int .u8 x.f0).wf = true ∧ (Lit.int .i8 x.f1).wf = true ∧ (Lit.int .i8 x.f2).wf = true ∧ (Lit.int .i16 x.f3).wf = true := by
    intro x hx
    rw [hl0] at hx
    obtain ⟨z, hzm, rfl⟩ := List.mem_map.mp hx
    exact ⟨hw0 z hzm 0 _ rfl, hw0 z hzm 1 _ rfl, hw0 z hzm 2 _ rfl, hw0 z hzm 3 _ rfl⟩
  clear hw0 hr0 hl0
  subst hlen0
  have y0 := hm0
  clear hA0 hval0 hsz0 hval
  obtain ⟨k, hk⟩ := Pure.FnExactGarmentsText l0 y0 w0
  rw [MakeChecks.laidMetH_plain _ _ _ (by kernel_rfl)] at hL
  have eL : (Rows.laid_internal_strconv_uint64pow10 : DataW Unit) = Lib.tabData .u64 Lib.pow10Tab := by kernel_rfl
  have hL2 : laidMet Tryd.prog [("math/bits.deBruijn32tab", Rows.laid_math_bits_deBruijn32tab), ("math/bits.deBruijn64tab", Rows.laid_math_bits_deBruijn64tab), ("internal/strconv.uint64pow10", Lib.tabData .u64 Lib.pow10Tab)] W := by rw [← eL]; exact hL
  have hT : TabOK W := Lib.tabIs_of_head (g := 2) (t := 132) (e := 103) (n := 20) (by kernel_rfl) (by kernel_rfl) Tryd.underlying132 Tryd.underlying103 (by kernel_rfl) (by kernel_rfl) hL2.tail.tail
  clear hL hL2 eL
  refine (laws_FnExactGarmentsText.calls k A0 c0 l0 true W R0 hc0 hT hk).mono fun e W' ⟨he, bel⟩ => ?_
  subst he
  exact ⟨_, rfl, law_post laidOut (by simp only [Tryd.params6]; intro t ht; simp only [List.mem_singleton] at ht; subst ht; exact ⟨by kernel_rfl, of_decide_eq_true (by kernel_rfl)⟩) rfl rfl Tryd.underlying4 hW' rfl rfl rfl bel⟩
theorem closed : joinedFacts Tryd.pinned.checked.prog 6 Tryd.f6 Rows.fnExactGarmentsTextSpec Rows.fnExactGarmentsTextRow = true := by
  unfold joinedFacts
  exact Facts.and_t (Facts.and_t (Facts.and_t (Facts.and_t (Facts.and_t (Facts.and_t (Facts.and_t (Facts.and_t (Facts.and_t (Facts.and_t (Facts.and_t (Facts.and_t (Facts.and_t (Facts.and_t (Facts.and_t (Facts.and_t (Facts.and_t (Facts.and_t (Facts.and_t (Facts.and_t (Facts.and_t (Facts.and_t (Facts.and_t (Facts.and_t (Facts.and_t (Facts.and_t (Facts.and_t (Facts.and_t (Facts.and_t (Facts.and_t (Facts.and_t (by as_aux_lemma => kernel_rfl) (by as_aux_lemma => kernel_rfl)) (by as_aux_lemma => kernel_rfl)) (by as_aux_lemma => kernel_rfl)) (by as_aux_lemma => kernel_rfl)) (by as_aux_lemma => kernel_rfl)) (by as_aux_lemma => kernel_rfl)) (by as_aux_lemma => kernel_rfl)) (by as_aux_lemma => kernel_rfl)) (by as_aux_lemma => kernel_rfl)) (by as_aux_lemma => kernel_rfl)) (by as_aux_lemma => kernel_rfl)) (by as_aux_lemma => kernel_rfl)) (by as_aux_lemma => kernel_rfl)) (by as_aux_lemma => kernel_rfl)) (by as_aux_lemma => kernel_rfl)) (by as_aux_lemma => kernel_rfl)) (by as_aux_lemma => kernel_rfl)) (by as_aux_lemma => kernel_rfl)) (by as_aux_lemma => kernel_rfl)) (by as_aux_lemma => kernel_rfl)) (by as_aux_lemma => kernel_rfl)) (by as_aux_lemma => kernel_rfl)) (by as_aux_lemma => kernel_rfl)) (by as_aux_lemma => kernel_rfl)) (Facts.mayEnter)) (Facts.lifts)) (Facts.made)) (by as_aux_lemma => kernel_rfl)) (by as_aux_lemma => kernel_rfl)) (by as_aux_lemma => kernel_rfl)) (by as_aux_lemma => kernel_rfl)
theorem over : Rows.fnExactGarmentsTextRow.holds Tryd.pinned (OpenSpec.ofChange Rows.fnExactGarmentsTextSpec) :=
  OpenClaim.holds_of_wide 6 Tryd.f6 rfl rfl rfl rfl rfl rfl rfl ⟨rfl, rfl, rfl, rfl, rfl⟩ rfl rfl rfl rfl rfl (by kernel_rfl) Tryd.func6 closed
    (of_decide_eq_true (by kernel_rfl)) (by unfold Func.isWrapper; first | (rw [if_pos (by decide +kernel)]; kernel_rfl) | (rw [if_neg (by decide +kernel)]; exact ⟨rfl, rfl⟩))
    (fun os started H enc _ => lifted os started H enc)
theorem proved : Rows.FnExactGarmentsTextCardSaid :=
  Claim7.holds_tied_plain_at .later [] [.data, .data, .data] true (true, "f6d75e5238c5ec378ea0f826875a77f58da6d881cc9134e464422fcd8c1bbb2f") false over (fun _ h => by cases h) (by kernel_rfl) (fun _ h => by cases h) fnExactGarmentsText_row_tie rfl ⟨rfl, rfl⟩ (by kernel_rfl) rfl
    (fun f fn hf hfn => by
      obtain rfl : f = 6 := Option.some.inj ((show Tryd.prog.funcNamed "loop.example/g01378/laws.FnExactGarmentsText" = some 6 by kernel_rfl).symm.trans hf) |>.symm
      obtain rfl : fn = Tryd.f6 := (Option.some.inj (Tryd.func6.symm.trans hfn)).symm
      exact ⟨by kernel_rfl, fun j t ht => by
        rw [Tryd.params6] at ht
        have hm : t ∈ ([49] : List TypeId) := by
          have := Array.mem_of_getElem? ht
          simp only [List.mem_toArray] at this
          simp only [List.mem_cons, List.not_mem_nil, or_false] at this ⊢
          omega
        have hall : (([49] : List TypeId).all fun u => !Tryd.prog.wantsStandIn u) = true := by kernel_rfl
        exact (show Tryd.prog.wantsStandIn t = false by simpa using List.all_eq_true.1 hall t hm)⟩)
    (by kernel_rfl)
#print axioms proved
end Go.Proofs.YthodfhcaaidnmaaDoor.fnExactGarmentsText
namespace Go.Proofs.YthodfhcaaidnmaaDoor
theorem fnExactGarmentsText_holds : Rows.FnExactGarmentsTextCardSaid := fnExactGarmentsText.proved
end Go.Proofs.YthodfhcaaidnmaaDoor
