/- The plain law of FnExactValidWash. -/
import Derived.Test.YtkndjgbblbogjaaM1
namespace Go.Proofs.Ytkndjgbblbogjaa.Pure
set_option linter.unusedSimpArgs false
set_option linter.unusedVariables false
open Go.RowKit Go.Proofs.Ytkndjgbblbogjaa.M Go.Proofs.YtkndjgbblbogjaaW.PrintWords Go.Proofs.YtkndjgbblbogjaaW.PrintLast

theorem FnExactValidWash_in (a b c : Int) : spec_l00In.f a b c = some (decide (b ≤ a ∧ a ≤ c)) := by
  unfold spec_l00In.f
  by_cases h : b ≤ a
  · rw [if_pos (show a ≥ b from h)]; simp [h]
  · rw [if_neg (show ¬ a ≥ b from h)]; simp [h]
theorem FnExactValidWash_within (a b c : Int) : impl_within.f a b c = some (decide (b ≤ a ∧ a ≤ c)) := FnExactValidWash_in a b c
theorem FnExactValidWash (a0_0 : Int) (a0_1 : Int) (_ : (Lit.int .i16 a0_0).wf = true) (_ : (Lit.int .i8 a0_1).wf = true) : laws_FnExactValidWash.f a0_0 a0_1 = some true := by
  simp only [laws_FnExactValidWash.f, laws_toWash.f, spec_ValidWash.f, spec_l03Wash.f, impl_ValidWash.f, FnExactValidWash_in, FnExactValidWash_within, Option.bind_some]
  split <;> simp

end Go.Proofs.Ytkndjgbblbogjaa.Pure
