/- The plain law of FnExactDryHour. -/
import Derived.Test.YtanalckdmamepaaDh3
import Derived.OpenShut
namespace Go.Proofs.Ytanalckdmamepaa.Pure
set_option linter.unusedSimpArgs false
set_option linter.unusedVariables false
open Go.RowKit Go.Proofs.Ytanalckdmamepaa.Dh Go.Proofs.YtanalckdmamepaaW.PrintWords Go.Proofs.YtanalckdmamepaaW.PrintLast Go.Proofs.YtanalckdmamepaaW.PrintMore
theorem l00In_eq (a b c : Int) : spec_l00In.f a b c = some (decide (b ≤ a ∧ a ≤ c)) := by
  unfold spec_l00In.f
  by_cases h : b ≤ a
  · rw [if_pos (show a ≥ b from h)]; simp [h]
  · rw [if_neg (show ¬ a ≥ b from h)]; simp [h]
theorem within_eq (a b c : Int) : impl_within.f a b c = some (decide (b ≤ a ∧ a ≤ c)) := l00In_eq a b c
theorem wash_eq (a b : Int) : impl_ValidWash.f a b = spec_l03Wash.f a b := by
  unfold impl_ValidWash.f spec_l03Wash.f
  simp only [l00In_eq, within_eq]
theorem weather_eq (a b c : Int) : impl_isWeather.f a b c = spec_l03Weather.f a b c := by
  unfold impl_isWeather.f spec_l03Weather.f impl_areWithin.f
  simp only [l00In_eq, Option.bind_some, List.all_cons, List.all_nil, Bool.and_true]
  cases decide (0 ≤ wrap64 a ∧ wrap64 a ≤ 9) <;> cases decide (0 ≤ wrap64 b ∧ wrap64 b ≤ 9) <;> simp
theorem min_eq (a b : Int) : spec_l00Min.f a b = some (mn a b) := by
  unfold spec_l00Min.f mn
  split <;> (try split) <;> first | rfl | (congr 1; omega)
theorem max_eq (a : Int) : spec_l00Max.f 0 a = some (mx a 0) := by
  unfold spec_l00Max.f mx
  split <;> (try split) <;> first | rfl | (congr 1; omega)
theorem hour_eq (a b c d e : Int) (s : Bool) : impl_Weather_hour.f a b c d e s = spec_l03Hour.f d e a b c s := by
  unfold impl_Weather_hour.f spec_l03Hour.f
  simp only [min_eq, max_eq, Option.bind_some]
theorem dry_eq (a b c d e : Int) (s : Bool) : impl_DryHour.f a b c d e s = spec_DryHour.f a b c d e s := by
  unfold impl_DryHour.f spec_DryHour.f
  simp only [wash_eq, weather_eq, hour_eq]
theorem wash_some (a b : Int) : ∃ t, spec_l03Wash.f a b = some t := by
  unfold spec_l03Wash.f
  simp only [l00In_eq, Option.bind_some]
  split <;> exact ⟨_, rfl⟩
theorem weather_some (a b c : Int) : ∃ t, spec_l03Weather.f a b c = some t := by
  unfold spec_l03Weather.f
  simp only [l00In_eq, Option.bind_some]
  split
  · split <;> exact ⟨_, rfl⟩
  · exact ⟨_, rfl⟩
theorem dry_some (a b c d e : Int) (s : Bool) (hb : -128 ≤ b ∧ b ≤ 127) : ∃ r, spec_DryHour.f a b c d e s = some r := by
  have e1 : wrap64 b = b := by unfold wrap64; omega
  unfold spec_DryHour.f
  obtain ⟨t, ht⟩ := wash_some a b
  obtain ⟨u, hu⟩ := weather_some c d e
  have hne : t = true → b ≠ 0 := by
    intro h h0
    subst h h0
    unfold spec_l03Wash.f at ht
    simp only [l00In_eq, Option.bind_some, e1] at ht
    split at ht
    · simp at ht
    · simp at ht
  rw [ht, hu]
  simp only [Option.bind_some]
  cases t with
  | false => exact ⟨_, rfl⟩
  | true =>
    have hb0 := hne rfl
    cases u with
    | false => exact ⟨_, rfl⟩
    | true =>
      simp only [↓reduceIte, e1]
      unfold spec_l03Hour.f
      simp only [min_eq, max_eq, Option.bind_some, hb0, ↓reduceIte]
      split
      · exact ⟨_, rfl⟩
      · split <;> exact ⟨_, rfl⟩
theorem FnExactDryHour (a0_0 : Int) (a0_1 : Int) (a1_0 : Int) (a1_1 : Int) (a1_2 : Int) (a2 : Bool) (w0_0 : (Lit.int .i16 a0_0).wf = true) (w0_1 : (Lit.int .i8 a0_1).wf = true) (w1_0 : (Lit.int .i8 a1_0).wf = true) (w1_1 : (Lit.int .i8 a1_1).wf = true) (w1_2 : (Lit.int .i8 a1_2).wf = true) : laws_FnExactDryHour.f a0_0 a0_1 a1_0 a1_1 a1_2 a2 = some true := by
  obtain ⟨⟨x, y, z⟩, hr⟩ := dry_some a0_0 a0_1 a1_0 a1_1 a1_2 a2 (bounds_i8 w0_1)
  unfold laws_FnExactDryHour.f
  simp only [laws_toWash.f, laws_toWeather.f, Option.bind_some, dry_eq, hr, laws_eqWash.f, ↓reduceIte, bne_self_eq_false, Bool.false_eq_true]
end Go.Proofs.Ytanalckdmamepaa.Pure
