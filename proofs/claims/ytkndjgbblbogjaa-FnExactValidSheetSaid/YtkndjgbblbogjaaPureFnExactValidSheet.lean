/- The plain law of FnExactValidSheet. -/
import Derived.Test.YtkndjgbblbogjaaM2
namespace Go.Proofs.Ytkndjgbblbogjaa.Pure
set_option linter.unusedSimpArgs false
set_option linter.unusedVariables false
open Go.RowKit Go.Proofs.Ytkndjgbblbogjaa.M Go.Proofs.YtkndjgbblbogjaaW.PrintWords Go.Proofs.YtkndjgbblbogjaaW.PrintLast

theorem FnExactValidSheet_in (a b c : Int) : spec_l00In.f a b c = some (decide (b ≤ a ∧ a ≤ c)) := by
  unfold spec_l00In.f
  by_cases h : b ≤ a
  · rw [if_pos (show a ≥ b from h)]; simp [h]
  · rw [if_neg (show ¬ a ≥ b from h)]; simp [h]
theorem FnExactValidSheet_within (a b c : Int) : impl_within.f a b c = some (decide (b ≤ a ∧ a ≤ c)) := FnExactValidSheet_in a b c
theorem FnExactValidSheet (a0_0 : Int) (a0_1 : Int) (a0_2 : Int) (_ : (Lit.int .i16 a0_0).wf = true) (_ : (Lit.int .i16 a0_1).wf = true) (_ : (Lit.int .i16 a0_2).wf = true) : laws_FnExactValidSheet.f a0_0 a0_1 a0_2 = some true := by
  simp only [laws_FnExactValidSheet.f, laws_toSheet.f, spec_ValidSheet.f, spec_l04Ok.f, spec_l04Side.f, impl_ValidSheet.f, FnExactValidSheet_in, FnExactValidSheet_within, Option.bind_some]
  split <;> (try split) <;> simp

end Go.Proofs.Ytkndjgbblbogjaa.Pure
