/- For every input the law FnExactHeatsFor answers true, and each argument reads afterwards as it read before. -/
import Derived.Test.YthodfhcaaidnmaaRows
import Derived.Test.YthodfhcaaidnmaaM8
import Derived.Test.YthodfhcaaidnmaaPureFnExactHeatsFor
import Derived.Test.YthodfhcaaidnmaaOwn
import Derived.Test.YthodfhcaaidnmaaFacts
import Derived.WalkKit
import Derived.ProofKit
import Derived.OpenShut
import Derived.ChangeOld
import Derived.Below
import Derived.SizedLaws
import Derived.Lib.SmallJoins
namespace Go.Proofs.Ythodfhcaaidnmaa.fnExactHeatsFor
open Go.ChangeShapes Go.WideShapes Go.ChangeAt Go.RowKit Go.Joins Go.Proofs.Ythodfhcaaidnmaa.Own Go.Proofs.YthodfhcaaidnmaaW.PrintWords Go.Proofs.Ythodfhcaaidnmaa.M
set_option linter.unusedVariables false
theorem own : ownKnob Try.prog.godebug = none := by kernel_rfl
theorem laidOut : laidOutB Try.prog = true := by kernel_rfl
set_option maxRecDepth 100000 in
theorem lifted (os : Os) (started : os.Started) (H : Type) (enc : TypeId × Value → H) :
    ReturnsInHanded {} Try.checked os 6 .any (Rows.fnExactHeatsForSpec.pre6 enc Try.prog Try.f6 Rows.fnExactHeatsForRow.domain false) (Rows.fnExactHeatsForSpec.post enc Try.prog Try.f6 false true false false) := by
  refine returnsInHanded_of_change_sized (C := Try.checked) own started (by kernel_rfl) Try.func6
    (ChangeSpec.witness6 (enc := enc) (C := Try.checked) false ⟨#[], #[.slice none 0 0], []⟩ 8 (by kernel_rfl) (by kernel_rfl) (by kernel_rfl) (by kernel_rfl)) ?_
  intro W base args ds gs before hval0 hW hcnd hsz0 _
  have hval : ∀ (j : Nat) t v, Try.f6.params[j]? = some t → args[j]? = some v → Value.okWide Try.prog W .any base t v := hval0
  have hW' := hW
  obtain ⟨p, q, hA0, hV, rfl, hfz, hnd⟩ := hW
  have hA : DataW.TrodAll enc Try.prog W 0 (fun _ => true) true Try.f6.params.toList args.toList ds p := hA0
  rw [Try.params6] at hA hval
  obtain ⟨v0, vs0, d0, ds0, p0, q0, hargs, rfl, rfl, h0, r0⟩ := trodAll_cons hA
  obtain ⟨rfl, rfl, rfl⟩ := trodAll_nil r0
  obtain rfl : args = #[v0] := by cases args; simp_all
  obtain ⟨rfl, rfl⟩ := trodVars_none hV
  obtain ⟨A0, len0, c0, zs0, rfl, hz0, hc0, hm0, hw0, hr0⟩ := slice_fields [.u8, .i8, .i8, .i16] Try.underlying22 Try.underlying32 (by kernel_rfl) (by kernel_rfl) rfl (fun | 0, k, h => ⟨_, rfl, by cases h; exact Try.underlying5⟩ | 1, k, h => ⟨_, rfl, by cases h; exact Try.underlying29⟩ | 2, k, h => ⟨_, rfl, by cases h; exact Try.underlying29⟩ | 3, k, h => ⟨_, rfl, by cases h; exact Try.underlying30⟩ | (j + 4), k, h => by simp at h) (hval 0 22 v0 rfl rfl) h0
  obtain ⟨l0, hl0⟩ : ∃ l, l = zs0.map (fun z => (⟨z.getD 0 0, z.getD 1 0, z.getD 2 0, z.getD 3 0⟩ : S32)) := ⟨_, rfl⟩
  have hlen0 : len0 = l0.length := by rw [hl0, List.length_map, hz0]
  have R0 : Kd.C k32 W A0 l0.length l0 := by rw [hl0]; exact C_of_fields _ [.u8, .i8, .i8, .i16] rfl (fun W z => k32_mk W _) hz0 hm0 hr0
  have w0 : ∀ x ∈ l0, (Lit.int .u8 x.f0).wf = true ∧ (Lit.int .i8 x.f1).wf = true ∧ (Lit.int .i8 x.f2).wf = true ∧ (Lit.int .i16 x.f3).wf = true := by
    intro x hx
    rw [hl0] at hx
    obtain ⟨z, hzm, rfl⟩ := List.mem_map.mp hx
    exact ⟨hw0 z hzm 0 _ rfl, hw0 z hzm 1 _ rfl, hw0 z hzm 2 _ rfl, hw0 z hzm 3 _ rfl⟩
  clear hw0 hr0 hl0
  subst hlen0
  have y0 := hm0
  clear hA0 hval0 hsz0 hval
  obtain ⟨k, hk⟩ := Pure.FnExactHeatsFor l0 y0 w0
  refine (laws_FnExactHeatsFor.calls k A0 c0 l0 true W R0 hc0 hk).mono fun e W' ⟨he, bel⟩ => ?_
  subst he
  exact ⟨_, rfl, law_post laidOut (by simp only [Try.params6]; intro t ht; simp only [List.mem_singleton] at ht; subst ht; exact ⟨by kernel_rfl, of_decide_eq_true (by kernel_rfl)⟩) rfl rfl Try.underlying4 hW' rfl rfl rfl bel⟩
theorem closed : joinedFacts Try.pinned.checked.prog 6 Try.f6 Rows.fnExactHeatsForSpec Rows.fnExactHeatsForRow = true := by
  unfold joinedFacts
  exact Facts.and_t (Facts.and_t (Facts.and_t (Facts.and_t (Facts.and_t (Facts.and_t (Facts.and_t (Facts.and_t (Facts.and_t (Facts.and_t (Facts.and_t (Facts.and_t (Facts.and_t (Facts.and_t (Facts.and_t (Facts.and_t (Facts.and_t (Facts.and_t (Facts.and_t (Facts.and_t (Facts.and_t (Facts.and_t (Facts.and_t (Facts.and_t (Facts.and_t (Facts.and_t (Facts.and_t (Facts.and_t (Facts.and_t (Facts.and_t (Facts.and_t (by as_aux_lemma => kernel_rfl) (by as_aux_lemma => kernel_rfl)) (by as_aux_lemma => kernel_rfl)) (by as_aux_lemma => kernel_rfl)) (by as_aux_lemma => kernel_rfl)) (by as_aux_lemma => kernel_rfl)) (by as_aux_lemma => kernel_rfl)) (by as_aux_lemma => kernel_rfl)) (by as_aux_lemma => kernel_rfl)) (by as_aux_lemma => kernel_rfl)) (by as_aux_lemma => kernel_rfl)) (by as_aux_lemma => kernel_rfl)) (by as_aux_lemma => kernel_rfl)) (by as_aux_lemma => kernel_rfl)) (by as_aux_lemma => kernel_rfl)) (by as_aux_lemma => kernel_rfl)) (by as_aux_lemma => kernel_rfl)) (by as_aux_lemma => kernel_rfl)) (by as_aux_lemma => kernel_rfl)) (by as_aux_lemma => kernel_rfl)) (by as_aux_lemma => kernel_rfl)) (by as_aux_lemma => kernel_rfl)) (by as_aux_lemma => kernel_rfl)) (by as_aux_lemma => kernel_rfl)) (by as_aux_lemma => kernel_rfl)) (Facts.mayEnter)) (Facts.lifts)) (Facts.made)) (by as_aux_lemma => kernel_rfl)) (by as_aux_lemma => kernel_rfl)) (by as_aux_lemma => kernel_rfl)) (by as_aux_lemma => kernel_rfl)
theorem over : Rows.fnExactHeatsForRow.holds Try.pinned (OpenSpec.ofChange Rows.fnExactHeatsForSpec) :=
  OpenClaim.holds_of_wide 6 Try.f6 rfl rfl rfl rfl rfl rfl rfl ⟨rfl, rfl, rfl, rfl, rfl⟩ rfl rfl rfl rfl rfl (by kernel_rfl) Try.func6 closed
    (of_decide_eq_true (by kernel_rfl)) (by unfold Func.isWrapper; first | (rw [if_pos (by decide +kernel)]; kernel_rfl) | (rw [if_neg (by decide +kernel)]; exact ⟨rfl, rfl⟩))
    (fun os started H enc _ => lifted os started H enc)
theorem proved : Rows.FnExactHeatsForSaid := over
#print axioms proved
end Go.Proofs.Ythodfhcaaidnmaa.fnExactHeatsFor
namespace Go.Proofs.Ythodfhcaaidnmaa
/-- The row, under a short name, for the claim. -/
theorem fnExactHeatsFor_holds : Rows.FnExactHeatsForSaid := fnExactHeatsFor.proved
end Go.Proofs.Ythodfhcaaidnmaa
