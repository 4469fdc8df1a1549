/- The plain law of FnExactAreaOf. -/
import Derived.Test.YtkndjgbblbogjaaM2
namespace Go.Proofs.Ytkndjgbblbogjaa.Pure
set_option linter.unusedSimpArgs false
set_option linter.unusedVariables false
open Go.RowKit Go.Proofs.Ytkndjgbblbogjaa.M Go.Proofs.YtkndjgbblbogjaaW.PrintWords Go.Proofs.YtkndjgbblbogjaaW.PrintLast

theorem FnExactAreaOf_in (a b c : Int) : spec_l00In.f a b c = some (decide (b ≤ a ∧ a ≤ c)) := by
  unfold spec_l00In.f
  by_cases h : b ≤ a
  · rw [if_pos (show a ≥ b from h)]; simp [h]
  · rw [if_neg (show ¬ a ≥ b from h)]; simp [h]
theorem FnExactAreaOf_within (a b c : Int) : impl_within.f a b c = some (decide (b ≤ a ∧ a ≤ c)) := FnExactAreaOf_in a b c
theorem FnExactAreaOf (a0_0 : Int) (a0_1 : Int) (a0_2 : Int) (_ : (Lit.int .i16 a0_0).wf = true) (_ : (Lit.int .i16 a0_1).wf = true) (_ : (Lit.int .i16 a0_2).wf = true) : laws_FnExactAreaOf.f a0_0 a0_1 a0_2 = some true := by
  simp only [laws_FnExactAreaOf.f, laws_toSheet.f, spec_AreaOf.f, impl_AreaOf.f, spec_l04Ok.f, spec_l04Side.f, impl_ValidSheet.f, FnExactAreaOf_in, FnExactAreaOf_within, Option.bind_some]
  by_cases h0 : 1 ≤ wrap64 a0_0 ∧ wrap64 a0_0 ≤ 1296
  · by_cases h1 : 1 ≤ wrap64 a0_1 ∧ wrap64 a0_1 ≤ 1296
    · by_cases h2 : 1 ≤ wrap64 a0_2 ∧ wrap64 a0_2 ≤ 144
      · simp [h0, h1, h2]
      · simp [h0, h1, h2]
    · simp [h0, h1]
  · simp [h0]

end Go.Proofs.Ytkndjgbblbogjaa.Pure
