/- The plain law of FnExactValidGarment. -/
import Derived.Test.YtkndjgbblbogjaaM1
import Derived.OpenShut
namespace Go.Proofs.Ytkndjgbblbogjaa.Pure
set_option linter.unusedSimpArgs false
set_option linter.unusedVariables false
open Go.RowKit Go.Proofs.Ytkndjgbblbogjaa.M Go.Proofs.YtkndjgbblbogjaaW.PrintWords Go.Proofs.YtkndjgbblbogjaaW.PrintLast

theorem FnExactValidGarment_in (a b c : Int) : spec_l00In.f a b c = some (decide (b ≤ a ∧ a ≤ c)) := by
  unfold spec_l00In.f
  by_cases h : b ≤ a
  · rw [if_pos (show a ≥ b from h)]; simp [h]
  · rw [if_neg (show ¬ a ≥ b from h)]; simp [h]
theorem FnExactValidGarment_within (a b c : Int) : impl_within.f a b c = some (decide (b ≤ a ∧ a ≤ c)) := FnExactValidGarment_in a b c
theorem FnExactValidGarment (a0_0 : Int) (a0_1 : Int) (a0_2 : Int) (a0_3 : Int) (_ : (Lit.int .u8 a0_0).wf = true) (w0_1 : (Lit.int .i8 a0_1).wf = true) (w0_2 : (Lit.int .i8 a0_2).wf = true) (_ : (Lit.int .i16 a0_3).wf = true) : laws_FnExactValidGarment.f a0_0 a0_1 a0_2 a0_3 = some true := by
  have b1 := bounds_i8 w0_1
  have b2 := bounds_i8 w0_2
  have e1 : wrap64 a0_1 = a0_1 := by unfold wrap64; omega
  have e2 : wrap64 a0_2 = a0_2 := by unfold wrap64; omega
  simp only [laws_FnExactValidGarment.f, laws_toGarment.f, spec_ValidGarment.f, spec_l01Garment.f, impl_ValidGarment.f, FnExactValidGarment_in, FnExactValidGarment_within, Option.bind_some, e1, e2]
  by_cases h0 : a0_0 < 6
  · by_cases h1 : 0 ≤ a0_1
    · by_cases h2 : a0_1 ≤ a0_2
      · by_cases h3 : a0_2 ≤ 95
        · simp [h0, h1, h2, h3]
        · simp [h0, h1, h2, h3]
      · simp [h0, h1, h2]
    · simp [h0, h1]
  · simp [h0]

end Go.Proofs.Ytkndjgbblbogjaa.Pure
