/- The plain law of FnExactCodeName. -/
import Derived.Test.YtkndjgbblbogjaaM1
namespace Go.Proofs.Ytkndjgbblbogjaa.Pure
set_option linter.unusedSimpArgs false
set_option linter.unusedVariables false
open Go.RowKit Go.Proofs.Ytkndjgbblbogjaa.M Go.Proofs.YtkndjgbblbogjaaW.PrintWords Go.Proofs.YtkndjgbblbogjaaW.PrintLast

theorem FnExactCodeName_in (a b c : Int) : spec_l00In.f a b c = some (decide (b ≤ a ∧ a ≤ c)) := by
  unfold spec_l00In.f
  by_cases h : b ≤ a
  · rw [if_pos (show a ≥ b from h)]; simp [h]
  · rw [if_neg (show ¬ a ≥ b from h)]; simp [h]
theorem FnExactCodeName_within (a b c : Int) : impl_within.f a b c = some (decide (b ≤ a ∧ a ≤ c)) := FnExactCodeName_in a b c
theorem FnExactCodeName (a0 : Int) (_ : (Lit.int .i64 a0).wf = true) : laws_FnExactCodeName.f a0 = some true := by
  have h9 : wrap64 ((([(⟨#[111, 107]⟩ : ByteArray), (⟨#[105, 110, 118, 97, 108, 105, 100]⟩ : ByteArray), (⟨#[114, 97, 110, 103, 101]⟩ : ByteArray), (⟨#[108, 105, 109, 105, 116]⟩ : ByteArray), (⟨#[115, 116, 97, 116, 101]⟩ : ByteArray), (⟨#[115, 121, 110, 116, 97, 120]⟩ : ByteArray), (⟨#[110, 111, 116, 102, 111, 117, 110, 100]⟩ : ByteArray), (⟨#[98, 117, 100, 103, 101, 116]⟩ : ByteArray), (⟨#[112, 114, 111, 111, 102]⟩ : ByteArray)] : List ByteArray).length : Int) - 1) = 8 := by simp only [List.length_cons, List.length_nil]; unfold wrap64; omega
  simp only [laws_FnExactCodeName.f, spec_CodeName.f, impl_CodeName.f, impl_size_string.f, FnExactCodeName_in, FnExactCodeName_within, Option.bind_some, h9]
  by_cases h : 0 ≤ a0 ∧ a0 ≤ 8
  · rw [if_pos (decide_eq_true h), if_pos h.1, if_pos (by simp only [List.length_cons, List.length_nil]; omega)]
    simp
  · rw [if_neg (by simpa using h)]
    simp

end Go.Proofs.Ytkndjgbblbogjaa.Pure
