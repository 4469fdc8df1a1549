/- For every input the law FnExactFewestLines answers true, and each argument reads afterwards as it read before. -/
import Derived.Test.YtlkpgpnieodifaaRows
import Derived.Test.YtlkpgpnieodifaaFl8
import Derived.Test.YtlkpgpnieodifaaPureFnExactFewestLines
import Derived.Test.YtlkpgpnieodifaaOwn
import Derived.Test.YtlkpgpnieodifaaFacts
import Derived.WalkKit
import Derived.ProofKit
import Derived.OpenShut
import Derived.ChangeOld
import Derived.Below
import Derived.SizedLaws
import Derived.Lib.SmallJoins
namespace Go.Proofs.Ytlkpgpnieodifaa.fnExactFewestLines
open Go.ChangeShapes Go.WideShapes Go.ChangeAt Go.RowKit Go.Joins Go.Proofs.Ytlkpgpnieodifaa.Own Go.Proofs.YtlkpgpnieodifaaW.PrintWords Go.Proofs.Ytlkpgpnieodifaa.Fl
set_option linter.unusedVariables false
theorem own : ownKnob Try.prog.godebug = none := by kernel_rfl
theorem laidOut : laidOutB Try.prog = true := by kernel_rfl
set_option maxRecDepth 100000 in
theorem lifted (os : Os) (started : os.Started) (H : Type) (enc : TypeId × Value → H) :
    ReturnsInHanded {} Try.checked os 17 .any (Rows.fnExactFewestLinesSpec.pre6 enc Try.prog Try.f17 Rows.fnExactFewestLinesRow.domain false) (Rows.fnExactFewestLinesSpec.post enc Try.prog Try.f17 false true false false) := by
  refine returnsInHanded_of_change_sized (C := Try.checked) own started (by kernel_rfl) Try.func17
    (ChangeSpec.witness6 (enc := enc) (C := Try.checked) false ⟨#[], #[.agg #[.int .i16 0, .int .i16 0], .slice none 0 0, .int .i64 0], []⟩ 8 (by kernel_rfl) (by kernel_rfl) (by kernel_rfl) (by kernel_rfl)) ?_
  intro W base args ds gs before hval0 hW hcnd hsz0 _
  have hval : ∀ (j : Nat) t v, Try.f17.params[j]? = some t → args[j]? = some v → Value.okWide Try.prog W .any base t v := hval0
  have hW' := hW
  obtain ⟨p, q, hA0, hV, rfl, hfz, hnd⟩ := hW
  have hA : DataW.TrodAll enc Try.prog W 0 (fun _ => true) true Try.f17.params.toList args.toList ds p := hA0
  rw [Try.params17] at hA hval
  obtain ⟨v0, vs0, d0, ds0, p0, q0, hargs, rfl, rfl, h0, r0⟩ := trodAll_cons hA
  obtain ⟨v1, vs1, d1, ds1, p1, q1, rfl, rfl, rfl, h1, r1⟩ := trodAll_cons r0
  obtain ⟨v2, vs2, d2, ds2, p2, q2, rfl, rfl, rfl, h2, r2⟩ := trodAll_cons r1
  obtain ⟨rfl, rfl, rfl⟩ := trodAll_nil r2
  obtain rfl : args = #[v0, v1, v2] := by cases args; simp_all
  obtain ⟨rfl, rfl⟩ := trodVars_none hV
  obtain ⟨e0_0, e0_1, y0_0, y0_1, m0, rfl, rfl, rfl, t0_0, t0_1⟩ := open_agg2 Try.underlying59 (by kernel_rfl) (by kernel_rfl) (hval 0 59 v0 rfl rfl) h0
  obtain ⟨a0_0, E0_0, _, w0_0⟩ := DataW.trod_int Try.underlying26 t0_0
  obtain rfl : e0_0 = .int .i16 a0_0 := by simpa using E0_0
  obtain ⟨a0_1, E0_1, _, w0_1⟩ := DataW.trod_int Try.underlying26 t0_1
  obtain rfl : e0_1 = .int .i16 a0_1 := by simpa using E0_1
  obtain ⟨A1, len1, c1, zs1, rfl, hz1, hc1, hm1, hw1, hr1⟩ := slice_fields [.i16, .i16] Try.underlying47 Try.underlying43 (by kernel_rfl) (by kernel_rfl) rfl (fun | 0, k, h => ⟨_, rfl, by cases h; exact Try.underlying26⟩ | 1, k, h => ⟨_, rfl, by cases h; exact Try.underlying26⟩ | (j + 2), k, h => by simp at h) (hval 1 47 v1 rfl rfl) h1
  obtain ⟨l1, hl1⟩ : ∃ l, l = zs1.map (fun z => (⟨z.getD 0 0, z.getD 1 0⟩ : S43)) := ⟨_, rfl⟩
  have hlen1 : len1 = l1.length := by rw [hl1, List.length_map, hz1]
  have R1 : Kd.C k43 W A1 l1.length l1 := by rw [hl1]; exact C_of_fields _ [.i16, .i16] rfl (fun W z => k43_mk W _) hz1 hm1 hr1
  have w1 : ∀ x ∈ l1, (Lit.int .i16 x.f0).wf = true ∧ (Lit.int .i16 x.f1).wf = true := by
    intro x hx
    rw [hl1] at hx
    obtain ⟨z, hzm, rfl⟩ := List.mem_map.mp hx
    exact ⟨hw1 z hzm 0 _ rfl, hw1 z hzm 1 _ rfl⟩
  clear hw1 hr1 hl1
  subst hlen1
  have y1 := hm1
  obtain ⟨a2, rfl, rfl, rfl, w2⟩ := open_int Try.underlying2 (hval 2 2 v2 rfl rfl) h2
  clear hA0 hval0 hsz0 hval
  obtain ⟨k, hk⟩ := Pure.FnExactFewestLines a0_0 a0_1 l1 a2 w0_0 w0_1 y1 w1 w2
  refine (laws_FnExactFewestLines.calls k a0_0 a0_1 A1 c1 l1 a2 true W R1 hc1 hk).mono fun e W' ⟨he, bel⟩ => ?_
  subst he
  exact ⟨_, rfl, law_post laidOut (by simp only [Try.params17]; intro t ht; simp only [List.mem_cons, List.not_mem_nil, or_false] at ht; rcases ht with rfl | rfl | rfl <;> exact ⟨by kernel_rfl, of_decide_eq_true (by kernel_rfl)⟩) rfl rfl Try.underlying4 hW' rfl rfl rfl bel⟩
theorem closed : joinedFacts Try.pinned.checked.prog 17 Try.f17 Rows.fnExactFewestLinesSpec Rows.fnExactFewestLinesRow = true := by
  unfold joinedFacts
  exact Facts.and_t (Facts.and_t (Facts.and_t (Facts.and_t (Facts.and_t (Facts.and_t (Facts.and_t (Facts.and_t (Facts.and_t (Facts.and_t (Facts.and_t (Facts.and_t (Facts.and_t (Facts.and_t (Facts.and_t (Facts.and_t (Facts.and_t (Facts.and_t (Facts.and_t (Facts.and_t (Facts.and_t (Facts.and_t (Facts.and_t (Facts.and_t (Facts.and_t (Facts.and_t (Facts.and_t (Facts.and_t (Facts.and_t (Facts.and_t (Facts.and_t (by as_aux_lemma => kernel_rfl) (by as_aux_lemma => kernel_rfl)) (by as_aux_lemma => kernel_rfl)) (by as_aux_lemma => kernel_rfl)) (by as_aux_lemma => kernel_rfl)) (by as_aux_lemma => kernel_rfl)) (by as_aux_lemma => kernel_rfl)) (by as_aux_lemma => kernel_rfl)) (by as_aux_lemma => kernel_rfl)) (by as_aux_lemma => kernel_rfl)) (by as_aux_lemma => kernel_rfl)) (by as_aux_lemma => kernel_rfl)) (by as_aux_lemma => kernel_rfl)) (by as_aux_lemma => kernel_rfl)) (by as_aux_lemma => kernel_rfl)) (by as_aux_lemma => kernel_rfl)) (by as_aux_lemma => kernel_rfl)) (by as_aux_lemma => kernel_rfl)) (by as_aux_lemma => kernel_rfl)) (by as_aux_lemma => kernel_rfl)) (by as_aux_lemma => kernel_rfl)) (by as_aux_lemma => kernel_rfl)) (by as_aux_lemma => kernel_rfl)) (by as_aux_lemma => kernel_rfl)) (by as_aux_lemma => kernel_rfl)) (Facts.mayEnter)) (Facts.lifts)) (Facts.made)) (by as_aux_lemma => kernel_rfl)) (by as_aux_lemma => kernel_rfl)) (by as_aux_lemma => kernel_rfl)) (by as_aux_lemma => kernel_rfl)
theorem over : Rows.fnExactFewestLinesRow.holds Try.pinned (OpenSpec.ofChange Rows.fnExactFewestLinesSpec) :=
  OpenClaim.holds_of_wide 17 Try.f17 rfl rfl rfl rfl rfl rfl rfl ⟨rfl, rfl, rfl, rfl, rfl⟩ rfl rfl rfl rfl rfl (by kernel_rfl) Try.func17 closed
    (of_decide_eq_true (by kernel_rfl)) (by unfold Func.isWrapper; first | (rw [if_pos (by decide +kernel)]; kernel_rfl) | (rw [if_neg (by decide +kernel)]; exact ⟨rfl, rfl⟩))
    (fun os started H enc _ => lifted os started H enc)
theorem proved : Rows.FnExactFewestLinesSaid := over
#print axioms proved
end Go.Proofs.Ytlkpgpnieodifaa.fnExactFewestLines
namespace Go.Proofs.Ytlkpgpnieodifaa
/-- The row, under a short name, for the claim. -/
theorem fnExactFewestLines_holds : Rows.FnExactFewestLinesSaid := fnExactFewestLines.proved
end Go.Proofs.Ytlkpgpnieodifaa
