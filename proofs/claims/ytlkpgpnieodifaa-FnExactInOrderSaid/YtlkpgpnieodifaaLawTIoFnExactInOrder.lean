/- For every input the law FnExactInOrder answers true, and each argument reads afterwards as it read before. -/
import Derived.Test.YtlkpgpnieodifaaRows
import Derived.Test.YtlkpgpnieodifaaTIo29
import Derived.Test.YtlkpgpnieodifaaTIo30
import Derived.Test.YtlkpgpnieodifaaTIo1
import Derived.Test.YtlkpgpnieodifaaTIo31
import Derived.WalkKit
import Derived.ProofKit
import Derived.OpenShut
import Derived.ChangeOld
import Derived.Below
import Derived.SizedLaws
import Derived.Lib.SmallJoins
namespace Go.Proofs.Ytlkpgpnieodifaa.fnExactInOrder
open Go.ChangeShapes Go.WideShapes Go.ChangeAt Go.RowKit Go.Joins Go.Proofs.Ytlkpgpnieodifaa.Own Go.Proofs.YtlkpgpnieodifaaW.PrintWords Go.Proofs.Ytlkpgpnieodifaa.Io
set_option linter.unusedVariables false
theorem own : ownKnob Try.prog.godebug = none := by kernel_rfl
theorem laidOut : laidOutB Try.prog = true := by kernel_rfl
set_option maxRecDepth 100000 in
theorem lifted (os : Os) (started : os.Started) (H : Type) (enc : TypeId × Value → H) :
    ReturnsInHanded {} Try.checked os 19 .any (Rows.fnExactInOrderSpec.pre6 enc Try.prog Try.f19 Rows.fnExactInOrderRow.domain false) (Rows.fnExactInOrderSpec.post enc Try.prog Try.f19 false true false false) := by
  refine returnsInHanded_of_change_sized (C := Try.checked) own started (by kernel_rfl) Try.func19
    (ChangeSpec.witness6 (enc := enc) (C := Try.checked) false ⟨#[], #[.slice none 0 0, .slice none 0 0], []⟩ 8 (by kernel_rfl) (by kernel_rfl) (by kernel_rfl) (by kernel_rfl)) ?_
  intro W base args ds gs before hval0 hW hcnd hsz0 _
  have hval : ∀ (j : Nat) t v, Try.f19.params[j]? = some t → args[j]? = some v → Value.okWide Try.prog W .any base t v := hval0
  have hW' := hW
  obtain ⟨p, q, hA0, hV, rfl, hfz, hnd⟩ := hW
  have hA : DataW.TrodAll enc Try.prog W 0 (fun _ => true) true Try.f19.params.toList args.toList ds p := hA0
  rw [Try.params19] at hA hval
  obtain ⟨v0, vs0, d0, ds0, p0, q0, hargs, rfl, rfl, h0, r0⟩ := trodAll_cons hA
  obtain ⟨v1, vs1, d1, ds1, p1, q1, rfl, rfl, rfl, h1, r1⟩ := trodAll_cons r0
  obtain ⟨rfl, rfl, rfl⟩ := trodAll_nil r1
  obtain rfl : args = #[v0, v1] := by cases args; simp_all
  obtain ⟨rfl, rfl⟩ := trodVars_none hV
  obtain ⟨A0, len0, c0, zs0, rfl, hz0, hc0, hm0, hw0, hr0⟩ := slice_fields [.i16, .i16] Try.underlying47 Try.underlying43 (by kernel_rfl) (by kernel_rfl) rfl (fun | 0, k, h => ⟨_, rfl, by cases h; exact Try.underlying26⟩ | 1, k, h => ⟨_, rfl, by cases h; exact Try.underlying26⟩ | (j + 2), k, h => by simp at h) (hval 0 47 v0 rfl rfl) h0
  obtain ⟨l0, hl0⟩ : ∃ l, l = zs0.map (fun z => (⟨z.getD 0 0, z.getD 1 0⟩ : S43)) := ⟨_, rfl⟩
  have hlen0 : len0 = l0.length := by rw [hl0, List.length_map, hz0]
  have R0 : Kd.C k43 W A0 l0.length l0 := by rw [hl0]; exact C_of_fields _ [.i16, .i16] rfl (fun W z => k43_mk W _) hz0 hm0 hr0
  have w0 : ∀ x ∈ l0, (Lit.int .i16 x.f0).wf = true ∧ (Lit.int .i16 x.f1).wf = true := by
    intro x hx
    rw [hl0] at hx
    obtain ⟨z, hzm, rfl⟩ := List.mem_map.mp hx
    exact ⟨hw0 z hzm 0 _ rfl, hw0 z hzm 1 _ rfl⟩
  clear hw0 hr0 hl0
  subst hlen0
  have y0 := hm0
  obtain ⟨A1, c1, l1, rfl, hc1, y1, w1, R1⟩ := slice_nums Try.underlying30 Try.underlying2 (by kernel_rfl) (hval 1 30 v1 rfl rfl) h1
  clear hA0 hval0 hsz0 hval
  obtain ⟨k, hk⟩ := Pure.FnExactInOrder l0 l1 y0 w0 y1 w1
  refine (laws_FnExactInOrder.calls k A0 c0 l0 A1 c1 l1 true W R0 hc0 R1 hc1 hk).mono fun e W' ⟨he, bel⟩ => ?_
  subst he
  exact ⟨_, rfl, law_post laidOut (by simp only [Try.params19]; intro t ht; simp only [List.mem_cons, List.not_mem_nil, or_false] at ht; rcases ht with rfl | rfl <;> exact ⟨by kernel_rfl, of_decide_eq_true (by kernel_rfl)⟩) rfl rfl Try.underlying4 hW' rfl rfl rfl bel⟩
theorem closed : joinedFacts Try.pinned.checked.prog 19 Try.f19 Rows.fnExactInOrderSpec Rows.fnExactInOrderRow = true := by
  unfold joinedFacts
  exact Facts.and_t (Facts.and_t (Facts.and_t (Facts.and_t (Facts.and_t (Facts.and_t (Facts.and_t (Facts.and_t (Facts.and_t (Facts.and_t (Facts.and_t (Facts.and_t (Facts.and_t (Facts.and_t (Facts.and_t (Facts.and_t (Facts.and_t (Facts.and_t (Facts.and_t (Facts.and_t (Facts.and_t (Facts.and_t (Facts.and_t (Facts.and_t (Facts.and_t (Facts.and_t (Facts.and_t (Facts.and_t (Facts.and_t (Facts.and_t (Facts.and_t (by as_aux_lemma => kernel_rfl) (by as_aux_lemma => kernel_rfl)) (by as_aux_lemma => kernel_rfl)) (by as_aux_lemma => kernel_rfl)) (by as_aux_lemma => kernel_rfl)) (by as_aux_lemma => kernel_rfl)) (by as_aux_lemma => kernel_rfl)) (by as_aux_lemma => kernel_rfl)) (by as_aux_lemma => kernel_rfl)) (by as_aux_lemma => kernel_rfl)) (by as_aux_lemma => kernel_rfl)) (by as_aux_lemma => kernel_rfl)) (by as_aux_lemma => kernel_rfl)) (by as_aux_lemma => kernel_rfl)) (by as_aux_lemma => kernel_rfl)) (by as_aux_lemma => kernel_rfl)) (by as_aux_lemma => kernel_rfl)) (by as_aux_lemma => kernel_rfl)) (by as_aux_lemma => kernel_rfl)) (by as_aux_lemma => kernel_rfl)) (by as_aux_lemma => kernel_rfl)) (by as_aux_lemma => kernel_rfl)) (by as_aux_lemma => kernel_rfl)) (by as_aux_lemma => kernel_rfl)) (by as_aux_lemma => kernel_rfl)) (Facts.mayEnter)) (Facts.lifts)) (Facts.made)) (by as_aux_lemma => kernel_rfl)) (by as_aux_lemma => kernel_rfl)) (by as_aux_lemma => kernel_rfl)) (by as_aux_lemma => kernel_rfl)
theorem over : Rows.fnExactInOrderRow.holds Try.pinned (OpenSpec.ofChange Rows.fnExactInOrderSpec) :=
  OpenClaim.holds_of_wide 19 Try.f19 rfl rfl rfl rfl rfl rfl rfl ⟨rfl, rfl, rfl, rfl, rfl⟩ rfl rfl rfl rfl rfl (by kernel_rfl) Try.func19 closed
    (of_decide_eq_true (by kernel_rfl)) (by unfold Func.isWrapper; first | (rw [if_pos (by decide +kernel)]; kernel_rfl) | (rw [if_neg (by decide +kernel)]; exact ⟨rfl, rfl⟩))
    (fun os started H enc _ => lifted os started H enc)
theorem proved : Rows.FnExactInOrderSaid := over
#print axioms proved
end Go.Proofs.Ytlkpgpnieodifaa.fnExactInOrder
namespace Go.Proofs.Ytlkpgpnieodifaa
theorem fnExactInOrder_holds : Rows.FnExactInOrderSaid := fnExactInOrder.proved
end Go.Proofs.Ytlkpgpnieodifaa
