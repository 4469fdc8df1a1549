/- For every input the law FnExactDryHour answers true, and each argument reads afterwards as it read before. -/
import Derived.Test.YtanalckdmamepaaRows
import Derived.Test.YtanalckdmamepaaDh3
import Derived.Test.YtanalckdmamepaaPureFnExactDryHour
import Derived.Test.YtanalckdmamepaaOwn
import Derived.Test.YtanalckdmamepaaFacts
import Derived.WalkKit
import Derived.ProofKit
import Derived.OpenShut
import Derived.ChangeOld
import Derived.Below
import Derived.SizedLaws
import Derived.Lib.SmallJoins
namespace Go.Proofs.Ytanalckdmamepaa.fnExactDryHour
open Go.ChangeShapes Go.WideShapes Go.ChangeAt Go.RowKit Go.Joins Go.Proofs.Ytanalckdmamepaa.Own Go.Proofs.YtanalckdmamepaaW.PrintWords Go.Proofs.Ytanalckdmamepaa.Dh
set_option linter.unusedVariables false
theorem own : ownKnob Try.prog.godebug = none := by kernel_rfl
theorem laidOut : laidOutB Try.prog = true := by kernel_rfl
set_option maxRecDepth 100000 in
theorem lifted (os : Os) (started : os.Started) (H : Type) (enc : TypeId × Value → H) :
    ReturnsInHanded {} Try.checked os 5 .any (Rows.fnExactDryHourSpec.pre6 enc Try.prog Try.f5 Rows.fnExactDryHourRow.domain false) (Rows.fnExactDryHourSpec.post enc Try.prog Try.f5 false true false false) := by
  refine returnsInHanded_of_change_sized (C := Try.checked) own started (by kernel_rfl) Try.func5
    (ChangeSpec.witness6 (enc := enc) (C := Try.checked) false ⟨#[], #[.agg #[.int .i16 0, .int .i8 0], .agg #[.int .i8 0, .int .i8 0, .int .i8 0], .bool false], []⟩ 8 (by kernel_rfl) (by kernel_rfl) (by kernel_rfl) (by kernel_rfl)) ?_
  intro W base args ds gs before hval0 hW hcnd hsz0 _
  have hval : ∀ (j : Nat) t v, Try.f5.params[j]? = some t → args[j]? = some v → Value.okWide Try.prog W .any base t v := hval0
  have hW' := hW
  obtain ⟨p, q, hA0, hV, rfl, hfz, hnd⟩ := hW
  have hA : DataW.TrodAll enc Try.prog W 0 (fun _ => true) true Try.f5.params.toList args.toList ds p := hA0
  rw [Try.params5] at hA hval
  obtain ⟨v0, vs0, d0, ds0, p0, q0, hargs, rfl, rfl, h0, r0⟩ := trodAll_cons hA
  obtain ⟨v1, vs1, d1, ds1, p1, q1, rfl, rfl, rfl, h1, r1⟩ := trodAll_cons r0
  obtain ⟨v2, vs2, d2, ds2, p2, q2, rfl, rfl, rfl, h2, r2⟩ := trodAll_cons r1
  obtain ⟨rfl, rfl, rfl⟩ := trodAll_nil r2
  obtain rfl : args = #[v0, v1, v2] := by cases args; simp_all
  obtain ⟨rfl, rfl⟩ := trodVars_none hV
  obtain ⟨e0_0, e0_1, y0_0, y0_1, m0, rfl, rfl, rfl, t0_0, t0_1⟩ := open_agg2 Try.underlying36 (by kernel_rfl) (by kernel_rfl) (hval 0 36 v0 rfl rfl) h0
  obtain ⟨a0_0, E0_0, _, w0_0⟩ := DataW.trod_int Try.underlying34 t0_0
  obtain rfl : e0_0 = .int .i16 a0_0 := by simpa using E0_0
  obtain ⟨a0_1, E0_1, _, w0_1⟩ := DataW.trod_int Try.underlying22 t0_1
  obtain rfl : e0_1 = .int .i8 a0_1 := by simpa using E0_1
  obtain ⟨e1_0, e1_1, e1_2, y1_0, y1_1, y1_2, m1, rfl, rfl, rfl, t1_0, t1_1, t1_2⟩ := open_agg3 Try.underlying24 (by kernel_rfl) (by kernel_rfl) (hval 1 24 v1 rfl rfl) h1
  obtain ⟨a1_0, E1_0, _, w1_0⟩ := DataW.trod_int Try.underlying22 t1_0
  obtain rfl : e1_0 = .int .i8 a1_0 := by simpa using E1_0
  obtain ⟨a1_1, E1_1, _, w1_1⟩ := DataW.trod_int Try.underlying22 t1_1
  obtain rfl : e1_1 = .int .i8 a1_1 := by simpa using E1_1
  obtain ⟨a1_2, E1_2, _, w1_2⟩ := DataW.trod_int Try.underlying22 t1_2
  obtain rfl : e1_2 = .int .i8 a1_2 := by simpa using E1_2
  obtain ⟨a2, rfl, rfl, rfl⟩ := open_bool Try.underlying4 (hval 2 4 v2 rfl rfl) h2
  clear hA0 hval0 hsz0 hval
  refine (laws_FnExactDryHour.calls a0_0 a0_1 a1_0 a1_1 a1_2 a2 true W  (Pure.FnExactDryHour a0_0 a0_1 a1_0 a1_1 a1_2 a2 w0_0 w0_1 w1_0 w1_1 w1_2)).mono fun e W' ⟨he, bel⟩ => ?_
  subst he
  exact ⟨_, rfl, law_post laidOut (by simp only [Try.params5]; intro t ht; simp only [List.mem_cons, List.not_mem_nil, or_false] at ht; rcases ht with rfl | rfl | rfl <;> exact ⟨by kernel_rfl, of_decide_eq_true (by kernel_rfl)⟩) rfl rfl Try.underlying4 hW' rfl rfl rfl bel⟩
theorem closed : joinedFacts Try.pinned.checked.prog 5 Try.f5 Rows.fnExactDryHourSpec Rows.fnExactDryHourRow = true := by
  unfold joinedFacts
  exact Facts.and_t (Facts.and_t (Facts.and_t (Facts.and_t (Facts.and_t (Facts.and_t (Facts.and_t (Facts.and_t (Facts.and_t (Facts.and_t (Facts.and_t (Facts.and_t (Facts.and_t (Facts.and_t (Facts.and_t (Facts.and_t (Facts.and_t (Facts.and_t (Facts.and_t (Facts.and_t (Facts.and_t (Facts.and_t (Facts.and_t (Facts.and_t (Facts.and_t (Facts.and_t (Facts.and_t (Facts.and_t (Facts.and_t (Facts.and_t (Facts.and_t (by as_aux_lemma => kernel_rfl) (by as_aux_lemma => kernel_rfl)) (by as_aux_lemma => kernel_rfl)) (by as_aux_lemma => kernel_rfl)) (by as_aux_lemma => kernel_rfl)) (by as_aux_lemma => kernel_rfl)) (by as_aux_lemma => kernel_rfl)) (by as_aux_lemma => kernel_rfl)) (by as_aux_lemma => kernel_rfl)) (by as_aux_lemma => kernel_rfl)) (by as_aux_lemma => kernel_rfl)) (by as_aux_lemma => kernel_rfl)) (by as_aux_lemma => kernel_rfl)) (by as_aux_lemma => kernel_rfl)) (by as_aux_lemma => kernel_rfl)) (by as_aux_lemma => kernel_rfl)) (by as_aux_lemma => kernel_rfl)) (by as_aux_lemma => kernel_rfl)) (by as_aux_lemma => kernel_rfl)) (by as_aux_lemma => kernel_rfl)) (by as_aux_lemma => kernel_rfl)) (by as_aux_lemma => kernel_rfl)) (by as_aux_lemma => kernel_rfl)) (by as_aux_lemma => kernel_rfl)) (by as_aux_lemma => kernel_rfl)) (Facts.mayEnter)) (Facts.lifts)) (Facts.made)) (by as_aux_lemma => kernel_rfl)) (by as_aux_lemma => kernel_rfl)) (by as_aux_lemma => kernel_rfl)) (by as_aux_lemma => kernel_rfl)
theorem over : Rows.fnExactDryHourRow.holds Try.pinned (OpenSpec.ofChange Rows.fnExactDryHourSpec) :=
  OpenClaim.holds_of_wide 5 Try.f5 rfl rfl rfl rfl rfl rfl rfl ⟨rfl, rfl, rfl, rfl, rfl⟩ rfl rfl rfl rfl rfl (by kernel_rfl) Try.func5 closed
    (of_decide_eq_true (by kernel_rfl)) (by unfold Func.isWrapper; first | (rw [if_pos (by decide +kernel)]; kernel_rfl) | (rw [if_neg (by decide +kernel)]; exact ⟨rfl, rfl⟩))
    (fun os started H enc _ => lifted os started H enc)
theorem proved : Rows.FnExactDryHourSaid := over
#print axioms proved
end Go.Proofs.Ytanalckdmamepaa.fnExactDryHour
namespace Go.Proofs.Ytanalckdmamepaa
/-- The row, under a short name, for the claim. -/
theorem fnExactDryHour_holds : Rows.FnExactDryHourSaid := fnExactDryHour.proved
end Go.Proofs.Ytanalckdmamepaa
