/- For every input the law FnExactMayMeet answers true, and each argument reads afterwards as it read before. -/
import Derived.Test.YthodfhcaaidnmaaRows
import Derived.Test.YthodfhcaaidnmaaM7
import Derived.Test.YthodfhcaaidnmaaPureFnExactMayMeet
import Derived.Test.YthodfhcaaidnmaaOwn
import Derived.Test.YthodfhcaaidnmaaFacts
import Derived.WalkKit
import Derived.ProofKit
import Derived.OpenShut
import Derived.ChangeOld
import Derived.Below
import Derived.SizedLaws
import Derived.Lib.SmallJoins
namespace Go.Proofs.Ythodfhcaaidnmaa.fnExactMayMeet
open Go.ChangeShapes Go.WideShapes Go.ChangeAt Go.RowKit Go.Joins Go.Proofs.Ythodfhcaaidnmaa.Own Go.Proofs.YthodfhcaaidnmaaW.PrintWords Go.Proofs.Ythodfhcaaidnmaa.M
set_option linter.unusedVariables false
theorem own : ownKnob Try.prog.godebug = none := by kernel_rfl
theorem laidOut : laidOutB Try.prog = true := by kernel_rfl
set_option maxRecDepth 100000 in
theorem lifted (os : Os) (started : os.Started) (H : Type) (enc : TypeId × Value → H) :
    ReturnsInHanded {} Try.checked os 4 .any (Rows.fnExactMayMeetSpec.pre6 enc Try.prog Try.f4 Rows.fnExactMayMeetRow.domain false) (Rows.fnExactMayMeetSpec.post enc Try.prog Try.f4 false true false false) := by
  refine returnsInHanded_of_change_sized (C := Try.checked) own started (by kernel_rfl) Try.func4
    (ChangeSpec.witness6 (enc := enc) (C := Try.checked) false ⟨#[], #[.agg #[.int .u8 0, .int .u8 0, .int .u8 0, .int .u8 0, .int .u8 0, .int .u8 0], .agg #[.int .u8 0, .int .i8 0, .int .i8 0, .int .i16 0], .agg #[.int .u8 0, .int .i8 0, .int .i8 0, .int .i16 0]], []⟩ 8 (by kernel_rfl) (by kernel_rfl) (by kernel_rfl) (by kernel_rfl)) ?_
  intro W base args ds gs before hval0 hW hcnd hsz0 _
  have hval : ∀ (j : Nat) t v, Try.f4.params[j]? = some t → args[j]? = some v → Value.okWide Try.prog W .any base t v := hval0
  have hW' := hW
  obtain ⟨p, q, hA0, hV, rfl, hfz, hnd⟩ := hW
  have hA : DataW.TrodAll enc Try.prog W 0 (fun _ => true) true Try.f4.params.toList args.toList ds p := hA0
  rw [Try.params4] at hA hval
  obtain ⟨v0, vs0, d0, ds0, p0, q0, hargs, rfl, rfl, h0, r0⟩ := trodAll_cons hA
  obtain ⟨v1, vs1, d1, ds1, p1, q1, rfl, rfl, rfl, h1, r1⟩ := trodAll_cons r0
  obtain ⟨v2, vs2, d2, ds2, p2, q2, rfl, rfl, rfl, h2, r2⟩ := trodAll_cons r1
  obtain ⟨rfl, rfl, rfl⟩ := trodAll_nil r2
  obtain rfl : args = #[v0, v1, v2] := by cases args; simp_all
  obtain ⟨rfl, rfl⟩ := trodVars_none hV
  obtain ⟨z0, hz0, rfl, wz0⟩ := array_nums Try.underlying28 Try.underlying5 (by kernel_rfl) (by kernel_rfl) (hval 0 28 v0 rfl rfl) h0
  obtain ⟨a0_0, a0_1, a0_2, a0_3, a0_4, a0_5, rfl⟩ := list6 hz0
  have w0_0 := wz0 a0_0 (by simp)
  have w0_1 := wz0 a0_1 (by simp)
  have w0_2 := wz0 a0_2 (by simp)
  have w0_3 := wz0 a0_3 (by simp)
  have w0_4 := wz0 a0_4 (by simp)
  have w0_5 := wz0 a0_5 (by simp)
  obtain ⟨e1_0, e1_1, e1_2, e1_3, y1_0, y1_1, y1_2, y1_3, m1, rfl, rfl, rfl, t1_0, t1_1, t1_2, t1_3⟩ := open_agg4 Try.underlying32 (by kernel_rfl) (by kernel_rfl) (hval 1 32 v1 rfl rfl) h1
  obtain ⟨a1_0, E1_0, _, w1_0⟩ := DataW.trod_int Try.underlying5 t1_0
  obtain rfl : e1_0 = .int .u8 a1_0 := by simpa using E1_0
  obtain ⟨a1_1, E1_1, _, w1_1⟩ := DataW.trod_int Try.underlying29 t1_1
  obtain rfl : e1_1 = .int .i8 a1_1 := by simpa using E1_1
  obtain ⟨a1_2, E1_2, _, w1_2⟩ := DataW.trod_int Try.underlying29 t1_2
  obtain rfl : e1_2 = .int .i8 a1_2 := by simpa using E1_2
  obtain ⟨a1_3, E1_3, _, w1_3⟩ := DataW.trod_int Try.underlying30 t1_3
  obtain rfl : e1_3 = .int .i16 a1_3 := by simpa using E1_3
  obtain ⟨e2_0, e2_1, e2_2, e2_3, y2_0, y2_1, y2_2, y2_3, m2, rfl, rfl, rfl, t2_0, t2_1, t2_2, t2_3⟩ := open_agg4 Try.underlying32 (by kernel_rfl) (by kernel_rfl) (hval 2 32 v2 rfl rfl) h2
  obtain ⟨a2_0, E2_0, _, w2_0⟩ := DataW.trod_int Try.underlying5 t2_0
  obtain rfl : e2_0 = .int .u8 a2_0 := by simpa using E2_0
  obtain ⟨a2_1, E2_1, _, w2_1⟩ := DataW.trod_int Try.underlying29 t2_1
  obtain rfl : e2_1 = .int .i8 a2_1 := by simpa using E2_1
  obtain ⟨a2_2, E2_2, _, w2_2⟩ := DataW.trod_int Try.underlying29 t2_2
  obtain rfl : e2_2 = .int .i8 a2_2 := by simpa using E2_2
  obtain ⟨a2_3, E2_3, _, w2_3⟩ := DataW.trod_int Try.underlying30 t2_3
  obtain rfl : e2_3 = .int .i16 a2_3 := by simpa using E2_3
  clear hA0 hval0 hsz0 hval
  obtain ⟨k, hk⟩ := Pure.FnExactMayMeet a0_0 a0_1 a0_2 a0_3 a0_4 a0_5 a1_0 a1_1 a1_2 a1_3 a2_0 a2_1 a2_2 a2_3 w0_0 w0_1 w0_2 w0_3 w0_4 w0_5 w1_0 w1_1 w1_2 w1_3 w2_0 w2_1 w2_2 w2_3
  refine (laws_FnExactMayMeet.calls k a0_0 a0_1 a0_2 a0_3 a0_4 a0_5 a1_0 a1_1 a1_2 a1_3 a2_0 a2_1 a2_2 a2_3 true W  hk).mono fun e W' ⟨he, bel⟩ => ?_
  subst he
  exact ⟨_, rfl, law_post laidOut (by simp only [Try.params4]; intro t ht; simp only [List.mem_cons, List.not_mem_nil, or_false] at ht; rcases ht with rfl | rfl | rfl <;> exact ⟨by kernel_rfl, of_decide_eq_true (by kernel_rfl)⟩) rfl rfl Try.underlying4 hW' rfl rfl rfl bel⟩
theorem closed : joinedFacts Try.pinned.checked.prog 4 Try.f4 Rows.fnExactMayMeetSpec Rows.fnExactMayMeetRow = true := by
  unfold joinedFacts
  exact Facts.and_t (Facts.and_t (Facts.and_t (Facts.and_t (Facts.and_t (Facts.and_t (Facts.and_t (Facts.and_t (Facts.and_t (Facts.and_t (Facts.and_t (Facts.and_t (Facts.and_t (Facts.and_t (Facts.and_t (Facts.and_t (Facts.and_t (Facts.and_t (Facts.and_t (Facts.and_t (Facts.and_t (Facts.and_t (Facts.and_t (Facts.and_t (Facts.and_t (Facts.and_t (Facts.and_t (Facts.and_t (Facts.and_t (Facts.and_t (Facts.and_t (by as_aux_lemma => kernel_rfl) (by as_aux_lemma => kernel_rfl)) (by as_aux_lemma => kernel_rfl)) (by as_aux_lemma => kernel_rfl)) (by as_aux_lemma => kernel_rfl)) (by as_aux_lemma => kernel_rfl)) (by as_aux_lemma => kernel_rfl)) (by as_aux_lemma => kernel_rfl)) (by as_aux_lemma => kernel_rfl)) (by as_aux_lemma => kernel_rfl)) (by as_aux_lemma => kernel_rfl)) (by as_aux_lemma => kernel_rfl)) (by as_aux_lemma => kernel_rfl)) (by as_aux_lemma => kernel_rfl)) (by as_aux_lemma => kernel_rfl)) (by as_aux_lemma => kernel_rfl)) (by as_aux_lemma => kernel_rfl)) (by as_aux_lemma => kernel_rfl)) (by as_aux_lemma => kernel_rfl)) (by as_aux_lemma => kernel_rfl)) (by as_aux_lemma => kernel_rfl)) (by as_aux_lemma => kernel_rfl)) (by as_aux_lemma => kernel_rfl)) (by as_aux_lemma => kernel_rfl)) (by as_aux_lemma => kernel_rfl)) (Facts.mayEnter)) (Facts.lifts)) (Facts.made)) (by as_aux_lemma => kernel_rfl)) (by as_aux_lemma => kernel_rfl)) (by as_aux_lemma => kernel_rfl)) (by as_aux_lemma => kernel_rfl)
theorem over : Rows.fnExactMayMeetRow.holds Try.pinned (OpenSpec.ofChange Rows.fnExactMayMeetSpec) :=
  OpenClaim.holds_of_wide 4 Try.f4 rfl rfl rfl rfl rfl rfl rfl ⟨rfl, rfl, rfl, rfl, rfl⟩ rfl rfl rfl rfl rfl (by kernel_rfl) Try.func4 closed
    (of_decide_eq_true (by kernel_rfl)) (by unfold Func.isWrapper; first | (rw [if_pos (by decide +kernel)]; kernel_rfl) | (rw [if_neg (by decide +kernel)]; exact ⟨rfl, rfl⟩))
    (fun os started H enc _ => lifted os started H enc)
theorem proved : Rows.FnExactMayMeetSaid := over
#print axioms proved
end Go.Proofs.Ythodfhcaaidnmaa.fnExactMayMeet
namespace Go.Proofs.Ythodfhcaaidnmaa
/-- The row, under a short name, for the claim. -/
theorem fnExactMayMeet_holds : Rows.FnExactMayMeetSaid := fnExactMayMeet.proved
end Go.Proofs.Ythodfhcaaidnmaa
