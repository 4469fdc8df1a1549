/- For every input the law FnExactFitsWith answers true, and each argument reads afterwards as it read before. -/
import Derived.Test.YthodfhcaaidnmaaRows
import Derived.Test.YthodfhcaaidnmaaTFw31
import Derived.Test.YthodfhcaaidnmaaTFw32
import Derived.Test.YthodfhcaaidnmaaTFw1
import Derived.Test.YthodfhcaaidnmaaTFw33
import Derived.WalkKit
import Derived.ProofKit
import Derived.OpenShut
import Derived.ChangeOld
import Derived.Below
import Derived.SizedLaws
import Derived.Lib.SmallJoins
namespace Go.Proofs.Ythodfhcaaidnmaa.fnExactFitsWith
open Go.ChangeShapes Go.WideShapes Go.ChangeAt Go.RowKit Go.Joins Go.Proofs.Ythodfhcaaidnmaa.Own Go.Proofs.YthodfhcaaidnmaaW.PrintWords Go.Proofs.Ythodfhcaaidnmaa.Fw
set_option linter.unusedVariables false
theorem own : ownKnob Try.prog.godebug = none := by kernel_rfl
theorem laidOut : laidOutB Try.prog = true := by kernel_rfl
set_option maxRecDepth 100000 in
theorem lifted (os : Os) (started : os.Started) (H : Type) (enc : TypeId × Value → H) :
    ReturnsInHanded {} Try.checked os 10 .any (Rows.fnExactFitsWithSpec.pre6 enc Try.prog Try.f10 Rows.fnExactFitsWithRow.domain false) (Rows.fnExactFitsWithSpec.post enc Try.prog Try.f10 false true false false) := by
  refine returnsInHanded_of_change_sized (C := Try.checked) own started (by kernel_rfl) Try.func10
    (ChangeSpec.witness6 (enc := enc) (C := Try.checked) false ⟨#[], #[.agg #[.int .u8 0, .int .u8 0, .int .u8 0, .int .u8 0, .int .u8 0, .int .u8 0], .int .i64 0, .slice none 0 0, .slice none 0 0], []⟩ 8 (by kernel_rfl) (by kernel_rfl) (by kernel_rfl) (by kernel_rfl)) ?_
  intro W base args ds gs before hval0 hW hcnd hsz0 _
  have hval : ∀ (j : Nat) t v, Try.f10.params[j]? = some t → args[j]? = some v → Value.okWide Try.prog W .any base t v := hval0
  have hW' := hW
  obtain ⟨p, q, hA0, hV, rfl, hfz, hnd⟩ := hW
  have hA : DataW.TrodAll enc Try.prog W 0 (fun _ => true) true Try.f10.params.toList args.toList ds p := hA0
  rw [Try.params10] at hA hval
  obtain ⟨v0, vs0, d0, ds0, p0, q0, hargs, rfl, rfl, h0, r0⟩ := trodAll_cons hA
  obtain ⟨v1, vs1, d1, ds1, p1, q1, rfl, rfl, rfl, h1, r1⟩ := trodAll_cons r0
  obtain ⟨v2, vs2, d2, ds2, p2, q2, rfl, rfl, rfl, h2, r2⟩ := trodAll_cons r1
  obtain ⟨v3, vs3, d3, ds3, p3, q3, rfl, rfl, rfl, h3, r3⟩ := trodAll_cons r2
  obtain ⟨rfl, rfl, rfl⟩ := trodAll_nil r3
  obtain rfl : args = #[v0, v1, v2, v3] := by cases args; simp_all
  obtain ⟨rfl, rfl⟩ := trodVars_none hV
  obtain ⟨z0, hz0, rfl, wz0⟩ := array_nums Try.underlying28 Try.underlying5 (by kernel_rfl) (by kernel_rfl) (hval 0 28 v0 rfl rfl) h0
  obtain ⟨a0_0, a0_1, a0_2, a0_3, a0_4, a0_5, rfl⟩ := list6 hz0
  have w0_0 := wz0 a0_0 (by simp)
  have w0_1 := wz0 a0_1 (by simp)
  have w0_2 := wz0 a0_2 (by simp)
  have w0_3 := wz0 a0_3 (by simp)
  have w0_4 := wz0 a0_4 (by simp)
  have w0_5 := wz0 a0_5 (by simp)
  obtain ⟨a1, rfl, rfl, rfl, w1⟩ := open_int Try.underlying2 (hval 1 2 v1 rfl rfl) h1
  obtain ⟨A2, len2, c2, zs2, rfl, hz2, hc2, hm2, hw2, hr2⟩ := slice_fields [.u8, .i8, .i8, .i16] Try.underlying22 Try.underlying32 (by kernel_rfl) (by kernel_rfl) rfl (fun | 0, k, h => ⟨_, rfl, by cases h; exact Try.underlying5⟩ | 1, k, h => ⟨_, rfl, by cases h; exact Try.underlying29⟩ | 2, k, h => ⟨_, rfl, by cases h; exact Try.underlying29⟩ | 3, k, h => ⟨_, rfl, by cases h; exact Try.underlying30⟩ | (j + 4), k, h => by simp at h) (hval 2 22 v2 rfl rfl) h2
  obtain ⟨l2, hl2⟩ : ∃ l, l = zs2.map (fun z => (⟨z.getD 0 0, z.getD 1 0, z.getD 2 0, z.getD 3 0⟩ : S32)) := ⟨_, rfl⟩
  have hlen2 : len2 = l2.length := by rw [hl2, List.length_map, hz2]
  have R2 : Kd.C k32 W A2 l2.length l2 := by rw [hl2]; exact C_of_fields _ [.u8, .i8, .i8, .i16] rfl (fun W z => k32_mk W _) hz2 hm2 hr2
  have w2 : ∀ x ∈ l2, (Lit.int .u8 x.f0).wf = true ∧ (Lit.int .i8 x.f1).wf = true ∧ (Lit.int .i8 x.f2).wf = true ∧ (Lit.int .i16 x.f3).wf = true := by
    intro x hx
    rw [hl2] at hx
    obtain ⟨z, hzm, rfl⟩ := List.mem_map.mp hx
    exact ⟨hw2 z hzm 0 _ rfl, hw2 z hzm 1 _ rfl, hw2 z hzm 2 _ rfl, hw2 z hzm 3 _ rfl⟩
  clear hw2 hr2 hl2
  subst hlen2
  have y2 := hm2
  obtain ⟨A3, len3, c3, zs3, rfl, hz3, hc3, hm3, hw3, hr3⟩ := slice_fields [.u8, .i8, .i8, .i16] Try.underlying22 Try.underlying32 (by kernel_rfl) (by kernel_rfl) rfl (fun | 0, k, h => ⟨_, rfl, by cases h; exact Try.underlying5⟩ | 1, k, h => ⟨_, rfl, by cases h; exact Try.underlying29⟩ | 2, k, h => ⟨_, rfl, by cases h; exact Try.underlying29⟩ | 3, k, h => ⟨_, rfl, by cases h; exact Try.underlying30⟩ | (j + 4), k, h => by simp at h) (hval 3 22 v3 rfl rfl) h3
  obtain ⟨l3, hl3⟩ : ∃ l, l = zs3.map (fun z => (⟨z.getD 0 0, z.getD 1 0, z.getD 2 0, z.getD 3 0⟩ : S32)) := ⟨_, rfl⟩
  have hlen3 : len3 = l3.length := by rw [hl3, List.length_map, hz3]
  have R3 : Kd.C k32 W A3 l3.length l3 := by rw [hl3]; exact C_of_fields _ [.u8, .i8, .i8, .i16] rfl (fun W z => k32_mk W _) hz3 hm3 hr3
  have w3 : ∀ x ∈ l3, (Lit.int .u8 x.f0).wf = true ∧ (Lit.int .i8 x.f1).wf = true ∧ (Lit.int .i8 x.f2).wf = true ∧ (Lit.int .i16 x.f3).wf = true := by
    intro x hx
    rw [hl3] at hx
    obtain ⟨z, hzm, rfl⟩ := List.mem_map.mp hx
    exact ⟨hw3 z hzm 0 _ rfl, hw3 z hzm 1 _ rfl, hw3 z hzm 2 _ rfl, hw3 z hzm 3 _ rfl⟩
  clear hw3 hr3 hl3
  subst hlen3
  have y3 := hm3
  clear hA0 hval0 hsz0 hval
  obtain ⟨k, hk⟩ := Pure.FnExactFitsWith a0_0 a0_1 a0_2 a0_3 a0_4 a0_5 a1 l2 l3 w0_0 w0_1 w0_2 w0_3 w0_4 w0_5 w1 y2 w2 y3 w3
  refine (laws_FnExactFitsWith.calls k a0_0 a0_1 a0_2 a0_3 a0_4 a0_5 a1 A2 c2 l2 A3 c3 l3 true W R2 hc2 R3 hc3 hk).mono fun e W' ⟨he, bel⟩ => ?_
  subst he
  exact ⟨_, rfl, law_post laidOut (by simp only [Try.params10]; intro t ht; simp only [List.mem_cons, List.not_mem_nil, or_false] at ht; rcases ht with rfl | rfl | rfl | rfl <;> exact ⟨by kernel_rfl, of_decide_eq_true (by kernel_rfl)⟩) rfl rfl Try.underlying4 hW' rfl rfl rfl bel⟩
theorem closed : joinedFacts Try.pinned.checked.prog 10 Try.f10 Rows.fnExactFitsWithSpec Rows.fnExactFitsWithRow = true := by
  unfold joinedFacts
  exact Facts.and_t (Facts.and_t (Facts.and_t (Facts.and_t (Facts.and_t (Facts.and_t (Facts.and_t (Facts.and_t (Facts.and_t (Facts.and_t (Facts.and_t (Facts.and_t (Facts.and_t (Facts.and_t (Facts.and_t (Facts.and_t (Facts.and_t (Facts.and_t (Facts.and_t (Facts.and_t (Facts.and_t (Facts.and_t (Facts.and_t (Facts.and_t (Facts.and_t (Facts.and_t (Facts.and_t (Facts.and_t (Facts.and_t (Facts.and_t (Facts.and_t (by as_aux_lemma => kernel_rfl) (by as_aux_lemma => kernel_rfl)) (by as_aux_lemma => kernel_rfl)) (by as_aux_lemma => kernel_rfl)) (by as_aux_lemma => kernel_rfl)) (by as_aux_lemma => kernel_rfl)) (by as_aux_lemma => kernel_rfl)) (by as_aux_lemma => kernel_rfl)) (by as_aux_lemma => kernel_rfl)) (by as_aux_lemma => kernel_rfl)) (by as_aux_lemma => kernel_rfl)) (by as_aux_lemma => kernel_rfl)) (by as_aux_lemma => kernel_rfl)) (by as_aux_lemma => kernel_rfl)) (by as_aux_lemma => kernel_rfl)) (by as_aux_lemma => kernel_rfl)) (by as_aux_lemma => kernel_rfl)) (by as_aux_lemma => kernel_rfl)) (by as_aux_lemma => kernel_rfl)) (by as_aux_lemma => kernel_rfl)) (by as_aux_lemma => kernel_rfl)) (by as_aux_lemma => kernel_rfl)) (by as_aux_lemma => kernel_rfl)) (by as_aux_lemma => kernel_rfl)) (by as_aux_lemma => kernel_rfl)) (Facts.mayEnter)) (Facts.lifts)) (Facts.made)) (by as_aux_lemma => kernel_rfl)) (by as_aux_lemma => kernel_rfl)) (by as_aux_lemma => kernel_rfl)) (by as_aux_lemma => kernel_rfl)
theorem over : Rows.fnExactFitsWithRow.holds Try.pinned (OpenSpec.ofChange Rows.fnExactFitsWithSpec) :=
  OpenClaim.holds_of_wide 10 Try.f10 rfl rfl rfl rfl rfl rfl rfl ⟨rfl, rfl, rfl, rfl, rfl⟩ rfl rfl rfl rfl rfl (by kernel_rfl) Try.func10 closed
    (of_decide_eq_true (by kernel_rfl)) (by unfold Func.isWrapper; first | (rw [if_pos (by decide +kernel)]; kernel_rfl) | (rw [if_neg (by decide +kernel)]; exact ⟨rfl, rfl⟩))
    (fun os started H enc _ => lifted os started H enc)
theorem proved : Rows.FnExactFitsWithSaid := over
#print axioms proved
end Go.Proofs.Ythodfhcaaidnmaa.fnExactFitsWith
namespace Go.Proofs.Ythodfhcaaidnmaa
theorem fnExactFitsWith_holds : Rows.FnExactFitsWithSaid := fnExactFitsWith.proved
end Go.Proofs.Ythodfhcaaidnmaa
