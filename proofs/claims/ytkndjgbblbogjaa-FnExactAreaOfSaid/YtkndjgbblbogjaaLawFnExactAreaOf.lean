/- For every input the law FnExactAreaOf answers true, and each argument reads afterwards as it read before. -/
import Derived.Test.YtkndjgbblbogjaaRows
import Derived.Test.YtkndjgbblbogjaaM2
import Derived.Test.YtkndjgbblbogjaaPureFnExactAreaOf
import Derived.Test.YtkndjgbblbogjaaOwn
import Derived.WalkKit
import Derived.ProofKit
import Derived.OpenShut
import Derived.ChangeOld
import Derived.Below
import Derived.SizedLaws
import Derived.Lib.SmallJoins
namespace Go.Proofs.Ytkndjgbblbogjaa.fnExactAreaOf
open Go.ChangeShapes Go.WideShapes Go.ChangeAt Go.RowKit Go.Joins Go.Proofs.Ytkndjgbblbogjaa.Own Go.Proofs.YtkndjgbblbogjaaW.PrintWords Go.Proofs.Ytkndjgbblbogjaa.M
set_option linter.unusedVariables false
theorem own : ownKnob Try.prog.godebug = none := by kernel_rfl
theorem laidOut : laidOutB Try.prog = true := by kernel_rfl
set_option maxRecDepth 100000 in
theorem lifted (os : Os) (started : os.Started) (H : Type) (enc : TypeId × Value → H) :
    ReturnsInHanded {} Try.checked os 9 .any (Rows.fnExactAreaOfSpec.pre6 enc Try.prog Try.f9 Rows.fnExactAreaOfRow.domain false) (Rows.fnExactAreaOfSpec.post enc Try.prog Try.f9 false true false false) := by
  refine returnsInHanded_of_change_sized (C := Try.checked) own started (by kernel_rfl) Try.func9
    (ChangeSpec.witness6 (enc := enc) (C := Try.checked) false ⟨#[], #[.agg #[.int .i16 0, .int .i16 0, .int .i16 0]], []⟩ 8 (by kernel_rfl) (by kernel_rfl) (by kernel_rfl) (by kernel_rfl)) ?_
  intro W base args ds gs before hval0 hW hcnd hsz0 _
  have hval : ∀ (j : Nat) t v, Try.f9.params[j]? = some t → args[j]? = some v → Value.okWide Try.prog W .any base t v := hval0
  have hW' := hW
  obtain ⟨p, q, hA0, hV, rfl, hfz, hnd⟩ := hW
  have hA : DataW.TrodAll enc Try.prog W 0 (fun _ => true) true Try.f9.params.toList args.toList ds p := hA0
  rw [Try.params9] at hA hval
  obtain ⟨v0, vs0, d0, ds0, p0, q0, hargs, rfl, rfl, h0, r0⟩ := trodAll_cons hA
  obtain ⟨rfl, rfl, rfl⟩ := trodAll_nil r0
  obtain rfl : args = #[v0] := by cases args; simp_all
  obtain ⟨rfl, rfl⟩ := trodVars_none hV
  obtain ⟨e0_0, e0_1, e0_2, y0_0, y0_1, y0_2, m0, rfl, rfl, rfl, t0_0, t0_1, t0_2⟩ := open_agg3 Try.underlying46 (by kernel_rfl) (by kernel_rfl) (hval 0 46 v0 rfl rfl) h0
  obtain ⟨a0_0, E0_0, _, w0_0⟩ := DataW.trod_int Try.underlying23 t0_0
  obtain rfl : e0_0 = .int .i16 a0_0 := by simpa using E0_0
  obtain ⟨a0_1, E0_1, _, w0_1⟩ := DataW.trod_int Try.underlying23 t0_1
  obtain rfl : e0_1 = .int .i16 a0_1 := by simpa using E0_1
  obtain ⟨a0_2, E0_2, _, w0_2⟩ := DataW.trod_int Try.underlying23 t0_2
  obtain rfl : e0_2 = .int .i16 a0_2 := by simpa using E0_2
  clear hA0 hval0 hsz0 hval
  refine (laws_FnExactAreaOf.calls a0_0 a0_1 a0_2 true W  (Pure.FnExactAreaOf a0_0 a0_1 a0_2 w0_0 w0_1 w0_2)).mono fun e W' ⟨he, bel⟩ => ?_
  subst he
  exact ⟨_, rfl, law_post laidOut (by simp only [Try.params9]; intro t ht; simp only [List.mem_singleton] at ht; subst ht; exact ⟨by kernel_rfl, of_decide_eq_true (by kernel_rfl)⟩) rfl rfl Try.underlying4 hW' rfl rfl rfl bel⟩
theorem over : Rows.fnExactAreaOfRow.holds Try.pinned (OpenSpec.ofChange Rows.fnExactAreaOfSpec) :=
  OpenClaim.holds_of_wide 9 Try.f9 rfl rfl rfl rfl rfl rfl rfl ⟨rfl, rfl, rfl, rfl, rfl⟩ rfl rfl rfl rfl rfl (by kernel_rfl) Try.func9 (by kernel_rfl)
    (of_decide_eq_true (by kernel_rfl)) (by unfold Func.isWrapper; first | (rw [if_pos (by decide +kernel)]; kernel_rfl) | (rw [if_neg (by decide +kernel)]; exact ⟨rfl, rfl⟩))
    (fun os started H enc _ => lifted os started H enc)
theorem proved : Rows.FnExactAreaOfSaid := over
#print axioms proved
end Go.Proofs.Ytkndjgbblbogjaa.fnExactAreaOf
namespace Go.Proofs.Ytkndjgbblbogjaa
/-- The row, under a short name, for the claim. -/
theorem fnExactAreaOf_holds : Rows.FnExactAreaOfSaid := fnExactAreaOf.proved
end Go.Proofs.Ytkndjgbblbogjaa
