/- For every input the law FnExactHeaviestLoad answers true, and each argument reads afterwards as it read before. -/
import Derived.Test.YthodfhcaaidnmaaDoorRows
import Derived.Test.YthodfhcaaidnmaaDoorCards
import Derived.Test.YthodfhcaaidnmaaDoorTie
import Derived.Test.YthodfhcaaidnmaaDoorTHv31
import Derived.Test.YthodfhcaaidnmaaDoorTHv32
import Derived.Test.YthodfhcaaidnmaaDoorTHv1
import Derived.Test.YthodfhcaaidnmaaDoorTHv33
import Derived.WalkKit
import Derived.ProofKit
import Derived.OpenShut
import Derived.ChangeOld
import Derived.Below
import Derived.SizedLaws
import Derived.Lib.SmallJoins
import Derived.Handed
import Derived.Handy
import Derived.Lay
import Derived.MakeChecks
import Derived.Stop.LaidErr
import Derived.Lib.LaidTab
import Derived.SevenTiedAt
namespace Go.Proofs.YthodfhcaaidnmaaDoor.fnExactHeaviestLoad
open Go.ChangeShapes Go.WideShapes Go.ChangeAt Go.RowKit Go.Joins Go.Proofs.YthodfhcaaidnmaaDoor.Own Go.Proofs.YthodfhcaaidnmaaDoorW.PrintWords Go.Proofs.YthodfhcaaidnmaaDoor.Hv
set_option linter.unusedVariables false
theorem own : ownKnob Tryd.prog.godebug = none := by kernel_rfl
theorem laidOut : laidOutB Tryd.prog = true := by kernel_rfl
set_option maxRecDepth 100000 in
theorem lifted (os : Os) (started : os.Started) (H : Type) (enc : TypeId × Value → H) :
    ReturnsInHanded {} Tryd.checked os 7 .any (fun w args => (Rows.fnExactHeaviestLoadSpec.pre enc Tryd.prog Tryd.f7 Rows.fnExactHeaviestLoadRow.domain false w args ∧ laidMetH Tryd.prog Rows.fnExactHeaviestLoadRow.laid w) ∧ sizedMet enc Tryd.prog Tryd.f7 (OpenSpec.ofChange Rows.fnExactHeaviestLoadSpec) false w args) (Rows.fnExactHeaviestLoadSpec.post enc Tryd.prog Tryd.f7 false true false false) := by
  refine returnsInHanded_of_change_and (C := Tryd.checked) (X := fun w _ => laidMetH Tryd.prog Rows.fnExactHeaviestLoadRow.laid w) (fun _ _ _ hh h => h.of_heap hh) own started (by kernel_rfl) Tryd.func7
    (ChangeSpec.witness_shaped (enc := enc) (C := Tryd.checked) (os := os) (X := fun w _ => laidMetH Tryd.prog Rows.fnExactHeaviestLoadRow.laid w) false (World.laidAll Tryd.prog os Rows.fnExactHeaviestLoadRow.laid) #[.agg #[.int .u8 0, .int .u8 0, .int .u8 0, .int .u8 0, .int .u8 0, .int .u8 0], .int .i64 0, .slice none 0 0] 8 (World.laidAll_os _ _ _)
      (World.shaped_of_ZipB (by kernel_rfl) (by kernel_rfl)) (by kernel_rfl) (by kernel_rfl) (by kernel_rfl)
      (by rw [MakeChecks.laidMetH_plain _ _ _ (by kernel_rfl)]; exact laidMet_laidAll _ (by kernel_rfl) (by kernel_rfl))) ?_
  intro W base args ds gs before hval0 hW hcnd hsz0 hL _
  have hval : ∀ (j : Nat) t v, Tryd.f7.params[j]? = some t → args[j]? = some v → Value.okWide Tryd.prog W .any base t v := hval0
  have hW' := hW
  obtain ⟨p, q, hA0, hV, rfl, hfz, hnd⟩ := hW
  have hA : DataW.TrodAll enc Tryd.prog W 0 (fun _ => true) true Tryd.f7.params.toList args.toList ds p := hA0
  rw [Tryd.params7] at hA hval
  obtain ⟨v0, vs0, d0, ds0, p0, q0, hargs, rfl, rfl, h0, r0⟩ := trodAll_cons hA
  obtain ⟨v1, vs1, d1, ds1, p1, q1, rfl, rfl, rfl, h1, r1⟩ := trodAll_cons r0
  obtain ⟨v2, vs2, d2, ds2, p2, q2, rfl, rfl, rfl, h2, r2⟩ := trodAll_cons r1
  obtain ⟨rfl, rfl, rfl⟩ := trodAll_nil r2
  obtain rfl : args = #[v0, v1, v2] := by cases args; simp_all
  obtain ⟨rfl, rfl⟩ := trodVars_none hV
  obtain ⟨z0, hz0, rfl, wz0⟩ := array_nums Tryd.underlying24 Tryd.underlying5 (by kernel_rfl) (by kernel_rfl) (hval 0 24 v0 rfl rfl) h0
  obtain ⟨a0_0, a0_1, a0_2, a0_3, a0_4, a0_5, rfl⟩ := list6 hz0
  have w0_0 := wz0 a0_0 (by simp)
  have w0_1 := wz0 a0_1 (by simp)
  have w0_2 := wz0 a0_2 (by simp)
  have w0_3 := wz0 a0_3 (by simp)
  have w0_4 := wz0 a0_4 (by simp)
  have w0_5 := wz0 a0_5 (by simp)
  obtain ⟨a1, rfl, rfl, rfl, w1⟩ := open_int Tryd.underlying2 (hval 1 2 v1 rfl rfl) h1
  obtain ⟨A2, len2, c2, zs2, rfl, hz2, hc2, hm2, hw2, hr2⟩ := slice_fields [.u8, .i8, .i8, .i16] Tryd.underlying49 Tryd.underlying89 (by kernel_rfl) (by kernel_rfl) rfl (fun | 0, k, h => ⟨_, rfl, by cases h; exact Tryd.underlying5⟩ | 1, k, h => ⟨_, rfl, by cases h; exact Tryd.underlying41⟩ | 2, k, h => ⟨_, rfl, by cases h; exact Tryd.underlying41⟩ | 3, k, h => ⟨_, rfl, by cases h; exact Tryd.underlying42⟩ | (j + 4), k, h => by simp at h) (hval 2 49 v2 rfl rfl) h2
  obtain ⟨l2, hl2⟩ : ∃ l, l = zs2.map (fun z => (⟨z.getD 0 0, z.getD 1 0, z.getD 2 0, z.getD 3 0⟩ : S89)) := ⟨_, rfl⟩
  have hlen2 : len2 = l2.length := by rw [hl2, List.length_map, hz2]
  have R2 : Kd.C k89 W A2 l2.length l2 := by rw [hl2]; exact C_of_fields _ [.u8, .i8, .i8, .i16] rfl (fun W z => k89_mk W _) hz2 hm2 hr2
  have w2 : ∀ x ∈ l2, (Lit.int .u8 x.f0).wf = true ∧ (Lit.int .i8 x.f1).wf = true ∧ (Lit.int .i8 x.f2).wf = true ∧ (Lit.int .i16 x.f3).wf = true := by
    intro x hx
    rw [hl2] at hx
    obtain ⟨z, hzm, rfl⟩ := List.mem_map.mp hx
    exact ⟨hw2 z hzm 0 _ rfl, hw2 z hzm 1 _ rfl, hw2 z hzm 2 _ rfl, hw2 z hzm 3 _ rfl⟩
  clear hw2 hr2 hl2
  subst hlen2
  have y2 := hm2
  clear hA0 hval0 hsz0 hval
  obtain ⟨k, hk⟩ := Pure.FnExactHeaviestLoad a0_0 a0_1 a0_2 a0_3 a0_4 a0_5 a1 l2 w0_0 w0_1 w0_2 w0_3 w0_4 w0_5 w1 y2 w2
  rw [MakeChecks.laidMetH_plain _ _ _ (by kernel_rfl)] at hL
  have eL : (Rows.laid_math_bits_deBruijn64tab : DataW Unit) = Lib.tabData .u8 (Lib.deBruijn64tab.map fun n : Nat => (n : Int)) := by kernel_rfl
  have hL2 : laidMet Tryd.prog [("math/bits.deBruijn32tab", Rows.laid_math_bits_deBruijn32tab), ("math/bits.deBruijn64tab", Lib.tabData .u8 (Lib.deBruijn64tab.map fun n : Nat => (n : Int)))] W := by rw [← eL]; exact hL
  have hT : TabOK W := Lib.tabIs_of_head (g := 1) (t := 129) (e := 5) (n := 64) (by kernel_rfl) (by kernel_rfl) Tryd.underlying129 Tryd.underlying5 (by kernel_rfl) (by kernel_rfl) hL2.tail
  clear hL hL2 eL
  refine (laws_FnExactHeaviestLoad.calls k a0_0 a0_1 a0_2 a0_3 a0_4 a0_5 a1 A2 c2 l2 true W R2 hc2 hT hk).mono fun e W' ⟨he, bel⟩ => ?_
  subst he
  exact ⟨_, rfl, law_post laidOut (by simp only [Tryd.params7]; intro t ht; simp only [List.mem_cons, List.not_mem_nil, or_false] at ht; rcases ht with rfl | rfl | rfl <;> exact ⟨by kernel_rfl, of_decide_eq_true (by kernel_rfl)⟩) rfl rfl Tryd.underlying4 hW' rfl rfl rfl bel⟩
set_option maxHeartbeats 8000000 in
theorem closed : joinedFacts Tryd.pinned.checked.prog 7 Tryd.f7 Rows.fnExactHeaviestLoadSpec Rows.fnExactHeaviestLoadRow = true := by
  unfold joinedFacts
  exact Facts.and_t (Facts.and_t (Facts.and_t (Facts.and_t (Facts.and_t (Facts.and_t (Facts.and_t (Facts.and_t (Facts.and_t (Facts.and_t (Facts.and_t (Facts.and_t (Facts.and_t (Facts.and_t (Facts.and_t (Facts.and_t (Facts.and_t (Facts.and_t (Facts.and_t (Facts.and_t (Facts.and_t (Facts.and_t (Facts.and_t (Facts.and_t (Facts.and_t (Facts.and_t (Facts.and_t (Facts.and_t (Facts.and_t (Facts.and_t (Facts.and_t (by as_aux_lemma => kernel_rfl) (by as_aux_lemma => kernel_rfl)) (by as_aux_lemma => kernel_rfl)) (by as_aux_lemma => kernel_rfl)) (by as_aux_lemma => kernel_rfl)) (by as_aux_lemma => kernel_rfl)) (by as_aux_lemma => kernel_rfl)) (by as_aux_lemma => kernel_rfl)) (by as_aux_lemma => kernel_rfl)) (by as_aux_lemma => kernel_rfl)) (by as_aux_lemma => kernel_rfl)) (by as_aux_lemma => kernel_rfl)) (by as_aux_lemma => kernel_rfl)) (by as_aux_lemma => kernel_rfl)) (by as_aux_lemma => kernel_rfl)) (by as_aux_lemma => kernel_rfl)) (by as_aux_lemma => kernel_rfl)) (by as_aux_lemma => kernel_rfl)) (by as_aux_lemma => kernel_rfl)) (by as_aux_lemma => kernel_rfl)) (by as_aux_lemma => kernel_rfl)) (by as_aux_lemma => kernel_rfl)) (by as_aux_lemma => kernel_rfl)) (by as_aux_lemma => kernel_rfl)) (by as_aux_lemma => kernel_rfl)) (Facts.mayEnter)) (Facts.lifts)) (Facts.made)) (by as_aux_lemma => kernel_rfl)) (by as_aux_lemma => kernel_rfl)) (by as_aux_lemma => kernel_rfl)) (by as_aux_lemma => kernel_rfl)
theorem over : Rows.fnExactHeaviestLoadRow.holds Tryd.pinned (OpenSpec.ofChange Rows.fnExactHeaviestLoadSpec) :=
  OpenClaim.holds_of_wide 7 Tryd.f7 rfl rfl rfl rfl rfl rfl rfl ⟨rfl, rfl, rfl, rfl, rfl⟩ rfl rfl rfl rfl rfl (by kernel_rfl) Tryd.func7 closed
    (of_decide_eq_true (by kernel_rfl)) (by unfold Func.isWrapper; first | (rw [if_pos (by decide +kernel)]; kernel_rfl) | (rw [if_neg (by decide +kernel)]; exact ⟨rfl, rfl⟩))
    (fun os started H enc _ => lifted os started H enc)
theorem proved : Rows.FnExactHeaviestLoadCardSaid :=
  Claim7.holds_tied_plain_at .later [] [.data, .data] true (true, "f6d75e5238c5ec378ea0f826875a77f58da6d881cc9134e464422fcd8c1bbb2f") false over (fun _ h => by cases h) (by kernel_rfl) (fun _ h => by cases h) fnExactHeaviestLoad_row_tie rfl ⟨rfl, rfl⟩ (by kernel_rfl) rfl
    (fun f fn hf hfn => by
      obtain rfl : f = 7 := Option.some.inj ((show Tryd.prog.funcNamed "loop.example/g01378/laws.FnExactHeaviestLoad" = some 7 by kernel_rfl).symm.trans hf) |>.symm
      obtain rfl : fn = Tryd.f7 := (Option.some.inj (Tryd.func7.symm.trans hfn)).symm
      exact ⟨by kernel_rfl, fun j t ht => by
        rw [Tryd.params7] at ht
        have hm : t ∈ ([2, 24, 49] : List TypeId) := by
          have := Array.mem_of_getElem? ht
          simp only [List.mem_toArray] at this
          simp only [List.mem_cons, List.not_mem_nil, or_false] at this ⊢
          first | omega | (rcases this with h | h | h <;> subst h <;> simp)
        have hall : (([2, 24, 49] : List TypeId).all fun u => !Tryd.prog.wantsStandIn u) = true := by kernel_rfl
        exact (show Tryd.prog.wantsStandIn t = false by simpa using List.all_eq_true.1 hall t hm)⟩)
    (by kernel_rfl)
#print axioms proved
end Go.Proofs.YthodfhcaaidnmaaDoor.fnExactHeaviestLoad
namespace Go.Proofs.YthodfhcaaidnmaaDoor
theorem fnExactHeaviestLoad_holds : Rows.FnExactHeaviestLoadCardSaid := fnExactHeaviestLoad.proved
end Go.Proofs.YthodfhcaaidnmaaDoor
