/- The plain law of FnExactValidLine. -/
import Derived.Test.YtkndjgbblbogjaaM1
namespace Go.Proofs.Ytkndjgbblbogjaa.Pure
set_option linter.unusedSimpArgs false
set_option linter.unusedVariables false
open Go.RowKit Go.Proofs.Ytkndjgbblbogjaa.M Go.Proofs.YtkndjgbblbogjaaW.PrintWords Go.Proofs.YtkndjgbblbogjaaW.PrintLast

theorem FnExactValidLine_in (a b c : Int) : spec_l00In.f a b c = some (decide (b ≤ a ∧ a ≤ c)) := by
  unfold spec_l00In.f
  by_cases h : b ≤ a
  · rw [if_pos (show a ≥ b from h)]; simp [h]
  · rw [if_neg (show ¬ a ≥ b from h)]; simp [h]
theorem FnExactValidLine_within (a b c : Int) : impl_within.f a b c = some (decide (b ≤ a ∧ a ≤ c)) := FnExactValidLine_in a b c
theorem FnExactValidLine (a0_0 : Int) (a0_1 : Int) (_ : (Lit.int .i16 a0_0).wf = true) (_ : (Lit.int .i16 a0_1).wf = true) : laws_FnExactValidLine.f a0_0 a0_1 = some true := by
  simp only [laws_FnExactValidLine.f, laws_toLine.f, spec_ValidLine.f, spec_l02Line.f, impl_ValidLine.f, FnExactValidLine_in, FnExactValidLine_within, Option.bind_some]
  split <;> simp

end Go.Proofs.Ytkndjgbblbogjaa.Pure
