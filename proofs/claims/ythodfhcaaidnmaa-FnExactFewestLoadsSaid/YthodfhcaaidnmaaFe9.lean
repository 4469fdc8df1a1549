/- Functions of the program as Lean functions; of each a proof that the machine's call does what its Lean function says. -/
import Derived.Test.YthodfhcaaidnmaaFe0
import Derived.Test.YthodfhcaaidnmaaFe1
import Derived.Test.YthodfhcaaidnmaaFe2
import Derived.Test.YthodfhcaaidnmaaFe5
import Derived.Test.YthodfhcaaidnmaaFe8
namespace Go.Proofs.Ythodfhcaaidnmaa.Fe
open Go.RowKit Go.Proofs.YthodfhcaaidnmaaW.PrintWords Go.Proofs.YthodfhcaaidnmaaW.PrintLast Go.Proofs.YthodfhcaaidnmaaW.PrintMore
attribute [local go_sem] max2_int min2_int max_two min_two max_three min_three max_four min_four   -- for this text's walks alone
set_option linter.unusedVariables false
set_option linter.unusedSimpArgs false

/-! ### laws_FnExactFewestLoads: function 12 -/
mutual
def laws_FnExactFewestLoads.j0 : Nat → Int → List (S32) → List Int → Int → Int → List (S37) → List Int → Int → Int → Bool → Int → Int → Int → Int → Int → Int → Option (Bool)
 | 0, _, _, _, _, _, _, _, _, _, _, _, _, _, _, _, _ => none
 | k + 1, x1, x2, x8, x9, x10, x11, x12, x13, x14, x60, x215000, x215001, x215002, x215003, x215004, x215005 => if x60 = true then (none) else ((laws_toGarmentS.f k x2).bind fun t245 => ((laws_eqGarmentS.f k x11 t245).bind fun t248 => (if t248 = true then ((laws_markGarmentS.f k x11 1).bind fun bt249 => (if bt249.1 < 0 then (laws_FnExactFewestLoads.j1 k x1 x2 x8 x9 x10 x12 true x215000 x215001 x215002 x215003 x215004 x215005) else ((laws_eqInt64S.f k x12 x8).bind fun t251 => (if t251 = true then (if x13 = x9 then (laws_FnExactFewestLoads.j1 k x1 x2 x8 x9 x10 x12 (x14 != x10) x215000 x215001 x215002 x215003 x215004 x215005) else (laws_FnExactFewestLoads.j1 k x1 x2 x8 x9 x10 x12 true x215000 x215001 x215002 x215003 x215004 x215005)) else (laws_FnExactFewestLoads.j1 k x1 x2 x8 x9 x10 x12 true x215000 x215001 x215002 x215003 x215004 x215005))))) else (none))))
def laws_FnExactFewestLoads.j1 : Nat → Int → List (S32) → List Int → Int → Int → List Int → Bool → Int → Int → Int → Int → Int → Int → Option (Bool)
 | 0, _, _, _, _, _, _, _, _, _, _, _, _, _ => none
 | k + 1, x1, x2, x8, x9, x10, x12, x86, x215000, x215001, x215002, x215003, x215004, x215005 => if x86 = true then (none) else ((laws_markInt64S.f k x12 1).bind fun bt252 => ((laws_heldInt64S.f k bt252.2 1).bind fun t254 => (if t254 < 0 then (none) else (if t254 = bt252.1 then ((laws_toRules.f x215000 x215001 x215002 x215003 x215004 x215005).bind fun bt255 => ((laws_toGarmentS.f k x2).bind fun t261 => ((impl_FewestLoads.f k bt255.1 bt255.2.1 bt255.2.2.1 bt255.2.2.2.1 bt255.2.2.2.2.1 bt255.2.2.2.2.2 x1 t261).bind fun bt264 => ((laws_eqInt64S.f k bt264.1 x8).bind fun t269 => (if t269 = true then (if bt264.2.1 = x9 then (laws_FnExactFewestLoads.j2 k bt252.2 bt252.1 (bt264.2.2 != x10)) else (laws_FnExactFewestLoads.j2 k bt252.2 bt252.1 true)) else (laws_FnExactFewestLoads.j2 k bt252.2 bt252.1 true)))))) else (none)))))
def laws_FnExactFewestLoads.j2 : Nat → List Int → Int → Bool → Option (Bool)
 | 0, _, _, _ => none
 | k + 1, x12, x16, x121 => if x121 = true then (none) else ((laws_heldInt64S.f k x12 1).bind fun t270 => (if t270 < 0 then (none) else (if t270 = x16 then (some true) else (none))))
end
def laws_FnExactFewestLoads.f (k : Nat) (a0_0 : Int) (a0_1 : Int) (a0_2 : Int) (a0_3 : Int) (a0_4 : Int) (a0_5 : Int) (a1 : Int) (l2 : List (S32)) : Option (Bool) := (laws_szGarmentS.f l2 1048576).bind fun t215 => (if t215 < 0 then (some true) else ((laws_toRules.f a0_0 a0_1 a0_2 a0_3 a0_4 a0_5).bind fun bt216 => ((laws_toGarmentS.f k l2).bind fun t222 => ((spec_FewestLoads.f k bt216.1 bt216.2.1 bt216.2.2.1 bt216.2.2.2.1 bt216.2.2.2.2.1 bt216.2.2.2.2.2 a1 t222).bind fun bt225 => ((laws_toGarmentS.f k l2).bind fun t230 => ((laws_toRules.f a0_0 a0_1 a0_2 a0_3 a0_4 a0_5).bind fun bt233 => ((impl_FewestLoads.f k bt233.1 bt233.2.1 bt233.2.2.1 bt233.2.2.2.1 bt233.2.2.2.2.1 bt233.2.2.2.2.2 a1 t230).bind fun bt239 => ((laws_eqInt64S.f k bt239.1 bt225.1).bind fun t244 => (if t244 = true then (if bt239.2.1 = bt225.2.1 then (laws_FnExactFewestLoads.j0 k a1 l2 bt225.1 bt225.2.1 bt225.2.2 t230 bt239.1 bt239.2.1 bt239.2.2 (bt239.2.2 != bt225.2.2) a0_0 a0_1 a0_2 a0_3 a0_4 a0_5) else (laws_FnExactFewestLoads.j0 k a1 l2 bt225.1 bt225.2.1 bt225.2.2 t230 bt239.1 bt239.2.1 bt239.2.2 true a0_0 a0_1 a0_2 a0_3 a0_4 a0_5)) else (laws_FnExactFewestLoads.j0 k a1 l2 bt225.1 bt225.2.1 bt225.2.2 t230 bt239.1 bt239.2.1 bt239.2.2 true a0_0 a0_1 a0_2 a0_3 a0_4 a0_5))))))))))
theorem laws_FnExactFewestLoads.mono_l : ∀ k, (∀ y0 y1 y2 y3 y4 y5 y6 y7 y8 y9 y10 y11 y12 y13 y14 y15, LeO (laws_FnExactFewestLoads.j0 k y0 y1 y2 y3 y4 y5 y6 y7 y8 y9 y10 y11 y12 y13 y14 y15) (laws_FnExactFewestLoads.j0 (k + 1) y0 y1 y2 y3 y4 y5 y6 y7 y8 y9 y10 y11 y12 y13 y14 y15)) ∧ (∀ y0 y1 y2 y3 y4 y5 y6 y7 y8 y9 y10 y11 y12, LeO (laws_FnExactFewestLoads.j1 k y0 y1 y2 y3 y4 y5 y6 y7 y8 y9 y10 y11 y12) (laws_FnExactFewestLoads.j1 (k + 1) y0 y1 y2 y3 y4 y5 y6 y7 y8 y9 y10 y11 y12)) ∧ (∀ y0 y1 y2, LeO (laws_FnExactFewestLoads.j2 k y0 y1 y2) (laws_FnExactFewestLoads.j2 (k + 1) y0 y1 y2))
 | 0 => ⟨fun _ _ _ _ _ _ _ _ _ _ _ _ _ _ _ _ r h => by simp [laws_FnExactFewestLoads.j0] at h, fun _ _ _ _ _ _ _ _ _ _ _ _ _ r h => by simp [laws_FnExactFewestLoads.j1] at h, fun _ _ _ r h => by simp [laws_FnExactFewestLoads.j2] at h⟩
 | k + 1 => by
  obtain ⟨ih0, ih1, ih2⟩ := laws_FnExactFewestLoads.mono_l k
  refine ⟨?_, ?_, ?_⟩
  ·intro y0 y1 y2 y3 y4 y5 y6 y7 y8 y9 y10 y11 y12 y13 y14 y15
   unfold laws_FnExactFewestLoads.j0
   repeat' first
   | (with_reducible exact ih0 _ _ _ _ _ _ _ _ _ _ _ _ _ _ _ _)
   | (with_reducible exact ih1 _ _ _ _ _ _ _ _ _ _ _ _ _)
   | (with_reducible exact ih2 _ _ _)
   | (with_reducible exact impl_FewestLoads.mono _ _ _ _ _ _ _ _ _)
   | (with_reducible exact laws_eqGarmentS.mono _ _ _)
   | (with_reducible exact laws_eqInt64S.mono _ _ _)
   | (with_reducible exact laws_heldInt64S.mono _ _ _)
   | (with_reducible exact laws_markGarmentS.mono _ _ _)
   | (with_reducible exact laws_markInt64S.mono _ _ _)
   | (with_reducible exact laws_toGarmentS.mono _ _)
   | (with_reducible exact spec_FewestLoads.mono _ _ _ _ _ _ _ _ _)
   | (with_reducible exact LeO.refl _)
   | (with_reducible exact LeO.none _)
   | (with_reducible refine LeO.ite ?_ ?_)
   | (with_reducible refine LeO.bind ?_ (fun _ => ?_))
   | exact ih0 _ _ _ _ _ _ _ _ _ _ _ _ _ _ _ _
   | exact ih1 _ _ _ _ _ _ _ _ _ _ _ _ _
   | exact ih2 _ _ _
   | exact impl_FewestLoads.mono _ _ _ _ _ _ _ _ _
   | exact laws_eqGarmentS.mono _ _ _
   | exact laws_eqInt64S.mono _ _ _
   | exact laws_heldInt64S.mono _ _ _
   | exact laws_markGarmentS.mono _ _ _
   | exact laws_markInt64S.mono _ _ _
   | exact laws_toGarmentS.mono _ _
   | exact spec_FewestLoads.mono _ _ _ _ _ _ _ _ _
   | exact LeO.none _
   | refine LeO.ite ?_ ?_
   | refine LeO.bind ?_ (fun _ => ?_)
  ·intro y0 y1 y2 y3 y4 y5 y6 y7 y8 y9 y10 y11 y12
   unfold laws_FnExactFewestLoads.j1
   repeat' first
   | (with_reducible exact ih0 _ _ _ _ _ _ _ _ _ _ _ _ _ _ _ _)
   | (with_reducible exact ih1 _ _ _ _ _ _ _ _ _ _ _ _ _)
   | (with_reducible exact ih2 _ _ _)
   | (with_reducible exact impl_FewestLoads.mono _ _ _ _ _ _ _ _ _)
   | (with_reducible exact laws_eqGarmentS.mono _ _ _)
   | (with_reducible exact laws_eqInt64S.mono _ _ _)
   | (with_reducible exact laws_heldInt64S.mono _ _ _)
   | (with_reducible exact laws_markGarmentS.mono _ _ _)
   | (with_reducible exact laws_markInt64S.mono _ _ _)
   | (with_reducible exact laws_toGarmentS.mono _ _)
   | (with_reducible exact spec_FewestLoads.mono _ _ _ _ _ _ _ _ _)
   | (with_reducible exact LeO.refl _)
   | (with_reducible exact LeO.none _)
   | (with_reducible refine LeO.ite ?_ ?_)
   | (with_reducible refine LeO.bind ?_ (fun _ => ?_))
   | exact ih0 _ _ _ _ _ _ _ _ _ _ _ _ _ _ _ _
   | exact ih1 _ _ _ _ _ _ _ _ _ _ _ _ _
   | exact ih2 _ _ _
   | exact impl_FewestLoads.mono _ _ _ _ _ _ _ _ _
   | exact laws_eqGarmentS.mono _ _ _
   | exact laws_eqInt64S.mono _ _ _
   | exact laws_heldInt64S.mono _ _ _
   | exact laws_markGarmentS.mono _ _ _
   | exact laws_markInt64S.mono _ _ _
   | exact laws_toGarmentS.mono _ _
   | exact spec_FewestLoads.mono _ _ _ _ _ _ _ _ _
   | exact LeO.none _
   | refine LeO.ite ?_ ?_
   | refine LeO.bind ?_ (fun _ => ?_)
  ·intro y0 y1 y2
   unfold laws_FnExactFewestLoads.j2
   repeat' first
   | (with_reducible exact ih0 _ _ _ _ _ _ _ _ _ _ _ _ _ _ _ _)
   | (with_reducible exact ih1 _ _ _ _ _ _ _ _ _ _ _ _ _)
   | (with_reducible exact ih2 _ _ _)
   | (with_reducible exact impl_FewestLoads.mono _ _ _ _ _ _ _ _ _)
   | (with_reducible exact laws_eqGarmentS.mono _ _ _)
   | (with_reducible exact laws_eqInt64S.mono _ _ _)
   | (with_reducible exact laws_heldInt64S.mono _ _ _)
   | (with_reducible exact laws_markGarmentS.mono _ _ _)
   | (with_reducible exact laws_markInt64S.mono _ _ _)
   | (with_reducible exact laws_toGarmentS.mono _ _)
   | (with_reducible exact spec_FewestLoads.mono _ _ _ _ _ _ _ _ _)
   | (with_reducible exact LeO.refl _)
   | (with_reducible exact LeO.none _)
   | (with_reducible refine LeO.ite ?_ ?_)
   | (with_reducible refine LeO.bind ?_ (fun _ => ?_))
   | exact ih0 _ _ _ _ _ _ _ _ _ _ _ _ _ _ _ _
   | exact ih1 _ _ _ _ _ _ _ _ _ _ _ _ _
   | exact ih2 _ _ _
   | exact impl_FewestLoads.mono _ _ _ _ _ _ _ _ _
   | exact laws_eqGarmentS.mono _ _ _
   | exact laws_eqInt64S.mono _ _ _
   | exact laws_heldInt64S.mono _ _ _
   | exact laws_markGarmentS.mono _ _ _
   | exact laws_markInt64S.mono _ _ _
   | exact laws_toGarmentS.mono _ _
   | exact spec_FewestLoads.mono _ _ _ _ _ _ _ _ _
   | exact LeO.none _
   | refine LeO.ite ?_ ?_
   | refine LeO.bind ?_ (fun _ => ?_)
theorem laws_FnExactFewestLoads.mono : ∀ a0 a1 a2 a3 a4 a5 a6 a7 k, LeO (laws_FnExactFewestLoads.f k a0 a1 a2 a3 a4 a5 a6 a7) (laws_FnExactFewestLoads.f (k + 1) a0 a1 a2 a3 a4 a5 a6 a7) := by
 intro a0 a1 a2 a3 a4 a5 a6 a7 k
 obtain ⟨ih0, ih1, ih2⟩ := laws_FnExactFewestLoads.mono_l k
 unfold laws_FnExactFewestLoads.f
 repeat' first
   | (with_reducible exact ih0 _ _ _ _ _ _ _ _ _ _ _ _ _ _ _ _)
   | (with_reducible exact ih1 _ _ _ _ _ _ _ _ _ _ _ _ _)
   | (with_reducible exact ih2 _ _ _)
   | (with_reducible exact impl_FewestLoads.mono _ _ _ _ _ _ _ _ _)
   | (with_reducible exact laws_eqGarmentS.mono _ _ _)
   | (with_reducible exact laws_eqInt64S.mono _ _ _)
   | (with_reducible exact laws_heldInt64S.mono _ _ _)
   | (with_reducible exact laws_markGarmentS.mono _ _ _)
   | (with_reducible exact laws_markInt64S.mono _ _ _)
   | (with_reducible exact laws_toGarmentS.mono _ _)
   | (with_reducible exact spec_FewestLoads.mono _ _ _ _ _ _ _ _ _)
   | (with_reducible exact LeO.refl _)
   | (with_reducible exact LeO.none _)
   | (with_reducible refine LeO.ite ?_ ?_)
   | (with_reducible refine LeO.bind ?_ (fun _ => ?_))
   | exact ih0 _ _ _ _ _ _ _ _ _ _ _ _ _ _ _ _
   | exact ih1 _ _ _ _ _ _ _ _ _ _ _ _ _
   | exact ih2 _ _ _
   | exact impl_FewestLoads.mono _ _ _ _ _ _ _ _ _
   | exact laws_eqGarmentS.mono _ _ _
   | exact laws_eqInt64S.mono _ _ _
   | exact laws_heldInt64S.mono _ _ _
   | exact laws_markGarmentS.mono _ _ _
   | exact laws_markInt64S.mono _ _ _
   | exact laws_toGarmentS.mono _ _
   | exact spec_FewestLoads.mono _ _ _ _ _ _ _ _ _
   | exact LeO.none _
   | refine LeO.ite ?_ ?_
   | refine LeO.bind ?_ (fun _ => ?_)
set_option maxHeartbeats 8000000 in
set_option maxRecDepth 100000 in
theorem laws_FnExactFewestLoads.calls (k : Nat) (a0_0 : Int) (a0_1 : Int) (a0_2 : Int) (a0_3 : Int) (a0_4 : Int) (a0_5 : Int) (a1 : Int) (A2 : Option Addr) (c2 : Nat) (l2 : List (S32)) (r : Bool) (w : World) (hr2 : Kd.C k32 w A2 l2.length l2) (hc2 : l2.length ≤ c2) (h : laws_FnExactFewestLoads.f k a0_0 a0_1 a0_2 a0_3 a0_4 a0_5 a1 l2 = some r) :
  Calls Try.prog 12 #[.agg #[.int .u8 a0_0, .int .u8 a0_1, .int .u8 a0_2, .int .u8 a0_3, .int .u8 a0_4, .int .u8 a0_5], .int .i64 a1, .slice A2 l2.length c2] w fun e w' => e = .returned (.bool r) ∧ Below w.heap.size w w' := by
 have hu28 := Try.underlying28
 have HR2 := Aside0.mk hr2
 have HC2 := Aside0.mk hc2
 clear hr2 hc2
 have HB := Aside0.mk (Below.refl w.heap.size w)
 have H : ((laws_szGarmentS.f l2 1048576).bind fun t215 => (if t215 < 0 then (some true) else ((laws_toRules.f a0_0 a0_1 a0_2 a0_3 a0_4 a0_5).bind fun bt216 => ((laws_toGarmentS.f k l2).bind fun t222 => ((spec_FewestLoads.f k bt216.1 bt216.2.1 bt216.2.2.1 bt216.2.2.2.1 bt216.2.2.2.2.1 bt216.2.2.2.2.2 a1 t222).bind fun bt225 => ((laws_toGarmentS.f k l2).bind fun t230 => ((laws_toRules.f a0_0 a0_1 a0_2 a0_3 a0_4 a0_5).bind fun bt233 => ((impl_FewestLoads.f k bt233.1 bt233.2.1 bt233.2.2.1 bt233.2.2.2.1 bt233.2.2.2.2.1 bt233.2.2.2.2.2 a1 t230).bind fun bt239 => ((laws_eqInt64S.f k bt239.1 bt225.1).bind fun t244 => (if t244 = true then (if bt239.2.1 = bt225.2.1 then (laws_FnExactFewestLoads.j0 k a1 l2 bt225.1 bt225.2.1 bt225.2.2 t230 bt239.1 bt239.2.1 bt239.2.2 (bt239.2.2 != bt225.2.2) a0_0 a0_1 a0_2 a0_3 a0_4 a0_5) else (laws_FnExactFewestLoads.j0 k a1 l2 bt225.1 bt225.2.1 bt225.2.2 t230 bt239.1 bt239.2.1 bt239.2.2 true a0_0 a0_1 a0_2 a0_3 a0_4 a0_5)) else (laws_FnExactFewestLoads.j0 k a1 l2 bt225.1 bt225.2.1 bt225.2.2 t230 bt239.1 bt239.2.1 bt239.2.2 true a0_0 a0_1 a0_2 a0_3 a0_4 a0_5))))))))))) = some r := h
 clear h
 replace H := Option.bind_eq_some_iff.mp H
 obtain ⟨t215, A40, H⟩ := H
 replace H : (if t215 < 0 then (some true) else ((laws_toRules.f a0_0 a0_1 a0_2 a0_3 a0_4 a0_5).bind fun bt216 => ((laws_toGarmentS.f k l2).bind fun t222 => ((spec_FewestLoads.f k bt216.1 bt216.2.1 bt216.2.2.1 bt216.2.2.2.1 bt216.2.2.2.2.1 bt216.2.2.2.2.2 a1 t222).bind fun bt225 => ((laws_toGarmentS.f k l2).bind fun t230 => ((laws_toRules.f a0_0 a0_1 a0_2 a0_3 a0_4 a0_5).bind fun bt233 => ((impl_FewestLoads.f k bt233.1 bt233.2.1 bt233.2.2.1 bt233.2.2.2.1 bt233.2.2.2.2.1 bt233.2.2.2.2.2 a1 t230).bind fun bt239 => ((laws_eqInt64S.f k bt239.1 bt225.1).bind fun t244 => (if t244 = true then (if bt239.2.1 = bt225.2.1 then (laws_FnExactFewestLoads.j0 k a1 l2 bt225.1 bt225.2.1 bt225.2.2 t230 bt239.1 bt239.2.1 bt239.2.2 (bt239.2.2 != bt225.2.2) a0_0 a0_1 a0_2 a0_3 a0_4 a0_5) else (laws_FnExactFewestLoads.j0 k a1 l2 bt225.1 bt225.2.1 bt225.2.2 t230 bt239.1 bt239.2.1 bt239.2.2 true a0_0 a0_1 a0_2 a0_3 a0_4 a0_5)) else (laws_FnExactFewestLoads.j0 k a1 l2 bt225.1 bt225.2.1 bt225.2.2 t230 bt239.1 bt239.2.1 bt239.2.2 true a0_0 a0_1 a0_2 a0_3 a0_4 a0_5)))))))))) = some r := H
 have A4 := Aside0.mk A40
 clear A40
 by_cases c5 : t215 < 0
 ·rw [if_pos c5] at H
  have c5b0 : decide (t215 < 0) = true := decide_eq_true c5
  clear c5
  obtain rfl := Option.some.inj H
  go_enter Try.func12, Try.ntmps12
  go_wp2_with (first | ((with_reducible refine gate_dst (N := 3) rfl ?_); refine box_event ?hg (N := 3) ?hd (cs := #[.int .u8 a0_0, .int .u8 a0_1, .int .u8 a0_2, .int .u8 a0_3, .int .u8 a0_4, .int .u8 a0_5]) (t := 28) ?hr ?_; (case hd => rfl); (case hg => rfl); (case hr => first | (go_simp; done) | (go_simp; rfl)); intro gb214 hg w6 hbox hb; have n0_ := Aside0.mk (below_step (by repeat (first | (with_reducible first | exact HB.out | apply below_alloc | apply pw_below_drewN | apply below_drew1) | exact HB.out)) hb); have n1_ := Aside0.mk (hbox); have n2_ := Aside0.mk ((by rw [hg]; exact (below_size (by repeat (first | (with_reducible first | exact HB.out | apply below_alloc | apply pw_below_drewN | apply below_drew1) | exact HB.out))) : w.heap.size ≤ gb214)); have n3_ := Aside0.mk ((by rw [hg]; exact (below_size (by repeat (first | (with_reducible first | exact HB.out | apply below_alloc | apply pw_below_drewN | apply below_drew1) | exact HB.out))) : w.heap.size ≤ gb214)); clear HB; have HB := n0_; have BK214 := n1_; have GW214 := n2_; have GE214 := n3_; clear n0_ n1_ n2_ n3_; clear hb hbox hg) | ((with_reducible refine gate_callee (f := 14) rfl ?_); refine goesL_ (some 23) rfl rfl Try.func14 (by kernel_rfl) rfl #[.slice A2 l2.length c2, .int .i64 1048576] rfl (by (try simp only [List.map_toArray, List.map_cons, List.map_nil]); first | done | rfl | (simp only [List.length_drop, List.length_take]; rfl)) ?_; (with_reducible refine (laws_szGarmentS.calls _ _ l2 1048576 t215 _ ?side1 ?side2 A4.out).mono ?_); (case side1 => repeat (first | exact (Kd.C_below HR2.out HB.out) | (with_reducible refine Kd.C_alloc ?_ _) | (with_reducible refine Kd.C_drewN ?_ _) | (with_reducible refine Kd.C_drew ?_))); (case side2 => exact HC2.out); rintro e w' ⟨rfl, ⟨nd, rfl⟩⟩; refine ⟨_, rfl, ?_⟩))
  go_ret
  exact ⟨by first | rfl | (simp [errW_none, errW_some] <;> rfl) | (simp [*, errW_none, errW_some] <;> rfl), by repeat (first | (with_reducible first | exact HB.out | apply below_alloc | apply pw_below_drewN | apply below_drew1 | refine below_set ?_ GE214.out) | exact HB.out)⟩
 ·rw [if_neg c5] at H
  have c5b0 : decide (t215 < 0) = false := decide_eq_false c5
  clear c5
  replace H := Option.bind_eq_some_iff.mp H
  obtain ⟨⟨t216, t217, t218, t219, t220, t221⟩, A70, H⟩ := H
  replace H : ((laws_toGarmentS.f k l2).bind fun t222 => ((spec_FewestLoads.f k t216 t217 t218 t219 t220 t221 a1 t222).bind fun bt225 => ((laws_toGarmentS.f k l2).bind fun t230 => ((laws_toRules.f a0_0 a0_1 a0_2 a0_3 a0_4 a0_5).bind fun bt233 => ((impl_FewestLoads.f k bt233.1 bt233.2.1 bt233.2.2.1 bt233.2.2.2.1 bt233.2.2.2.2.1 bt233.2.2.2.2.2 a1 t230).bind fun bt239 => ((laws_eqInt64S.f k bt239.1 bt225.1).bind fun t244 => (if t244 = true then (if bt239.2.1 = bt225.2.1 then (laws_FnExactFewestLoads.j0 k a1 l2 bt225.1 bt225.2.1 bt225.2.2 t230 bt239.1 bt239.2.1 bt239.2.2 (bt239.2.2 != bt225.2.2) a0_0 a0_1 a0_2 a0_3 a0_4 a0_5) else (laws_FnExactFewestLoads.j0 k a1 l2 bt225.1 bt225.2.1 bt225.2.2 t230 bt239.1 bt239.2.1 bt239.2.2 true a0_0 a0_1 a0_2 a0_3 a0_4 a0_5)) else (laws_FnExactFewestLoads.j0 k a1 l2 bt225.1 bt225.2.1 bt225.2.2 t230 bt239.1 bt239.2.1 bt239.2.2 true a0_0 a0_1 a0_2 a0_3 a0_4 a0_5)))))))) = some r := H
  have A7 := Aside0.mk A70
  clear A70
  replace H := Option.bind_eq_some_iff.mp H
  obtain ⟨t222, A80, H⟩ := H
  replace H : ((spec_FewestLoads.f k t216 t217 t218 t219 t220 t221 a1 t222).bind fun bt225 => ((laws_toGarmentS.f k l2).bind fun t230 => ((laws_toRules.f a0_0 a0_1 a0_2 a0_3 a0_4 a0_5).bind fun bt233 => ((impl_FewestLoads.f k bt233.1 bt233.2.1 bt233.2.2.1 bt233.2.2.2.1 bt233.2.2.2.2.1 bt233.2.2.2.2.2 a1 t230).bind fun bt239 => ((laws_eqInt64S.f k bt239.1 bt225.1).bind fun t244 => (if t244 = true then (if bt239.2.1 = bt225.2.1 then (laws_FnExactFewestLoads.j0 k a1 l2 bt225.1 bt225.2.1 bt225.2.2 t230 bt239.1 bt239.2.1 bt239.2.2 (bt239.2.2 != bt225.2.2) a0_0 a0_1 a0_2 a0_3 a0_4 a0_5) else (laws_FnExactFewestLoads.j0 k a1 l2 bt225.1 bt225.2.1 bt225.2.2 t230 bt239.1 bt239.2.1 bt239.2.2 true a0_0 a0_1 a0_2 a0_3 a0_4 a0_5)) else (laws_FnExactFewestLoads.j0 k a1 l2 bt225.1 bt225.2.1 bt225.2.2 t230 bt239.1 bt239.2.1 bt239.2.2 true a0_0 a0_1 a0_2 a0_3 a0_4 a0_5))))))) = some r := H
  have A8 := Aside0.mk A80
  clear A80
  replace H := Option.bind_eq_some_iff.mp H
  obtain ⟨⟨t225, t228, t229⟩, A90, H⟩ := H
  replace H : ((laws_toGarmentS.f k l2).bind fun t230 => ((laws_toRules.f a0_0 a0_1 a0_2 a0_3 a0_4 a0_5).bind fun bt233 => ((impl_FewestLoads.f k bt233.1 bt233.2.1 bt233.2.2.1 bt233.2.2.2.1 bt233.2.2.2.2.1 bt233.2.2.2.2.2 a1 t230).bind fun bt239 => ((laws_eqInt64S.f k bt239.1 t225).bind fun t244 => (if t244 = true then (if bt239.2.1 = t228 then (laws_FnExactFewestLoads.j0 k a1 l2 t225 t228 t229 t230 bt239.1 bt239.2.1 bt239.2.2 (bt239.2.2 != t229) a0_0 a0_1 a0_2 a0_3 a0_4 a0_5) else (laws_FnExactFewestLoads.j0 k a1 l2 t225 t228 t229 t230 bt239.1 bt239.2.1 bt239.2.2 true a0_0 a0_1 a0_2 a0_3 a0_4 a0_5)) else (laws_FnExactFewestLoads.j0 k a1 l2 t225 t228 t229 t230 bt239.1 bt239.2.1 bt239.2.2 true a0_0 a0_1 a0_2 a0_3 a0_4 a0_5)))))) = some r := H
  have A9 := Aside0.mk A90
  clear A90
  replace H := Option.bind_eq_some_iff.mp H
  obtain ⟨t230, A100, H⟩ := H
  replace H : ((laws_toRules.f a0_0 a0_1 a0_2 a0_3 a0_4 a0_5).bind fun bt233 => ((impl_FewestLoads.f k bt233.1 bt233.2.1 bt233.2.2.1 bt233.2.2.2.1 bt233.2.2.2.2.1 bt233.2.2.2.2.2 a1 t230).bind fun bt239 => ((laws_eqInt64S.f k bt239.1 t225).bind fun t244 => (if t244 = true then (if bt239.2.1 = t228 then (laws_FnExactFewestLoads.j0 k a1 l2 t225 t228 t229 t230 bt239.1 bt239.2.1 bt239.2.2 (bt239.2.2 != t229) a0_0 a0_1 a0_2 a0_3 a0_4 a0_5) else (laws_FnExactFewestLoads.j0 k a1 l2 t225 t228 t229 t230 bt239.1 bt239.2.1 bt239.2.2 true a0_0 a0_1 a0_2 a0_3 a0_4 a0_5)) else (laws_FnExactFewestLoads.j0 k a1 l2 t225 t228 t229 t230 bt239.1 bt239.2.1 bt239.2.2 true a0_0 a0_1 a0_2 a0_3 a0_4 a0_5))))) = some r := H
  have A10 := Aside0.mk A100
  clear A100
  replace H := Option.bind_eq_some_iff.mp H
  obtain ⟨⟨t233, t234, t235, t236, t237, t238⟩, A110, H⟩ := H
  replace H : ((impl_FewestLoads.f k t233 t234 t235 t236 t237 t238 a1 t230).bind fun bt239 => ((laws_eqInt64S.f k bt239.1 t225).bind fun t244 => (if t244 = true then (if bt239.2.1 = t228 then (laws_FnExactFewestLoads.j0 k a1 l2 t225 t228 t229 t230 bt239.1 bt239.2.1 bt239.2.2 (bt239.2.2 != t229) a0_0 a0_1 a0_2 a0_3 a0_4 a0_5) else (laws_FnExactFewestLoads.j0 k a1 l2 t225 t228 t229 t230 bt239.1 bt239.2.1 bt239.2.2 true a0_0 a0_1 a0_2 a0_3 a0_4 a0_5)) else (laws_FnExactFewestLoads.j0 k a1 l2 t225 t228 t229 t230 bt239.1 bt239.2.1 bt239.2.2 true a0_0 a0_1 a0_2 a0_3 a0_4 a0_5)))) = some r := H
  have A11 := Aside0.mk A110
  clear A110
  replace H := Option.bind_eq_some_iff.mp H
  obtain ⟨⟨t239, t242, t243⟩, A120, H⟩ := H
  replace H : ((laws_eqInt64S.f k t239 t225).bind fun t244 => (if t244 = true then (if t242 = t228 then (laws_FnExactFewestLoads.j0 k a1 l2 t225 t228 t229 t230 t239 t242 t243 (t243 != t229) a0_0 a0_1 a0_2 a0_3 a0_4 a0_5) else (laws_FnExactFewestLoads.j0 k a1 l2 t225 t228 t229 t230 t239 t242 t243 true a0_0 a0_1 a0_2 a0_3 a0_4 a0_5)) else (laws_FnExactFewestLoads.j0 k a1 l2 t225 t228 t229 t230 t239 t242 t243 true a0_0 a0_1 a0_2 a0_3 a0_4 a0_5))) = some r := H
  have A12 := Aside0.mk A120
  clear A120
  have HC13 := Aside0.mk H
  clear H
  go_enter Try.func12, Try.ntmps12
  go_upto_region 8 with (first | ((with_reducible refine gate_dst (N := 3) rfl ?_); refine box_event ?hg (N := 3) ?hd (cs := #[.int .u8 a0_0, .int .u8 a0_1, .int .u8 a0_2, .int .u8 a0_3, .int .u8 a0_4, .int .u8 a0_5]) (t := 28) ?hr ?_; (case hd => rfl); (case hg => rfl); (case hr => first | (go_simp; done) | (go_simp; rfl)); intro gb214 hg w14 hbox hb; have n0_ := Aside0.mk (below_step (by repeat (first | (with_reducible first | exact HB.out | apply below_alloc | apply pw_below_drewN | apply below_drew1) | exact HB.out)) hb); have n1_ := Aside0.mk (hbox); have n2_ := Aside0.mk ((by rw [hg]; exact (below_size (by repeat (first | (with_reducible first | exact HB.out | apply below_alloc | apply pw_below_drewN | apply below_drew1) | exact HB.out))) : w.heap.size ≤ gb214)); have n3_ := Aside0.mk ((by rw [hg]; exact (below_size (by repeat (first | (with_reducible first | exact HB.out | apply below_alloc | apply pw_below_drewN | apply below_drew1) | exact HB.out))) : w.heap.size ≤ gb214)); clear HB; have HB := n0_; have BK214 := n1_; have GW214 := n2_; have GE214 := n3_; clear n0_ n1_ n2_ n3_; clear hb hbox hg) | ((with_reducible refine gate_callee (f := 14) rfl ?_); refine goesL_ (some 23) rfl rfl Try.func14 (by kernel_rfl) rfl #[.slice A2 l2.length c2, .int .i64 1048576] rfl (by (try simp only [List.map_toArray, List.map_cons, List.map_nil]); first | done | rfl | (simp only [List.length_drop, List.length_take]; rfl)) ?_; (with_reducible refine (laws_szGarmentS.calls _ _ l2 1048576 t215 _ ?side1 ?side2 A4.out).mono ?_); (case side1 => repeat (first | exact (Kd.C_below HR2.out HB.out) | (with_reducible refine Kd.C_alloc ?_ _) | (with_reducible refine Kd.C_drewN ?_ _) | (with_reducible refine Kd.C_drew ?_))); (case side2 => exact HC2.out); rintro e w' ⟨rfl, ⟨nd, rfl⟩⟩; refine ⟨_, rfl, ?_⟩; have hcz15_0 : w14.cell? ⟨gb214, 0, none⟩ = some (.int .u8 a0_0) := (blk_cell BK214.out 0).trans rfl; have hcz15_1 : w14.cell? ⟨gb214, 1, none⟩ = some (.int .u8 a0_1) := (blk_cell BK214.out 1).trans rfl; have hcz15_2 : w14.cell? ⟨gb214, 2, none⟩ = some (.int .u8 a0_2) := (blk_cell BK214.out 2).trans rfl; have hcz15_3 : w14.cell? ⟨gb214, 3, none⟩ = some (.int .u8 a0_3) := (blk_cell BK214.out 3).trans rfl; have hcz15_4 : w14.cell? ⟨gb214, 4, none⟩ = some (.int .u8 a0_4) := (blk_cell BK214.out 4).trans rfl; have hcz15_5 : w14.cell? ⟨gb214, 5, none⟩ = some (.int .u8 a0_5) := (blk_cell BK214.out 5).trans rfl; have hfz15_0 := blk_frozen BK214.out 0; have hfz15_1 := blk_frozen BK214.out 1; have hfz15_2 := blk_frozen BK214.out 2; have hfz15_3 := blk_frozen BK214.out 3; have hfz15_4 := blk_frozen BK214.out 4; have hfz15_5 := blk_frozen BK214.out 5) | ((with_reducible refine gate_callee (f := 20) rfl ?_); refine goesL_ (some 28) rfl rfl Try.func20 (by kernel_rfl) rfl #[.agg #[.int .u8 a0_0, .int .u8 a0_1, .int .u8 a0_2, .int .u8 a0_3, .int .u8 a0_4, .int .u8 a0_5]] rfl (by (try simp only [List.map_toArray, List.map_cons, List.map_nil]); first | done | rfl | (simp only [List.length_drop, List.length_take]; rfl)) ?_; (with_reducible refine (laws_toRules.calls a0_0 a0_1 a0_2 a0_3 a0_4 a0_5 t216 t217 t218 t219 t220 t221 _ A7.out).mono ?_); rintro e w16 ⟨rfl, hb⟩; refine ⟨_, rfl, ?_⟩; have n0_ := Aside0.mk (blk_below (g := gb214) (o := .cells #[.int .u8 a0_0, .int .u8 a0_1, .int .u8 a0_2, .int .u8 a0_3, .int .u8 a0_4, .int .u8 a0_5] 28 (0, 0)) (by (with_reducible repeat (first | refine blk_drewN ?_ _ | refine blk_drew ?_ | refine blk_alloc ?_ _)); exact BK214.out) hb); have n1_ := Aside0.mk (below_step (by repeat (first | (with_reducible first | exact HB.out | apply below_alloc | apply pw_below_drewN | apply below_drew1 | refine below_set ?_ GE214.out) | exact HB.out)) hb); clear BK214; clear HB; have BK214 := n0_; have HB := n1_; clear n0_ n1_; (try clear hb); (try clear hb2); (try clear hk); (try clear hi)) | ((with_reducible refine gate_callee (f := 16) rfl ?_); refine goesL_ (some 31) rfl rfl Try.func16 (by kernel_rfl) rfl #[.slice A2 l2.length c2] rfl (by (try simp only [List.map_toArray, List.map_cons, List.map_nil]); first | done | rfl | (simp only [List.length_drop, List.length_take]; rfl)) ?_; (with_reducible refine (laws_toGarmentS.calls k _ _ l2 t222 _ ?side1 ?side2 A8.out).mono ?_); (case side1 => repeat (first | exact (Kd.C_below HR2.out HB.out) | (with_reducible refine Kd.C_alloc ?_ _) | (with_reducible refine Kd.C_drewN ?_ _) | (with_reducible refine Kd.C_drew ?_))); (case side2 => exact HC2.out); rintro e w17 ⟨v223, rfl, ho0, hb⟩; refine ⟨_, rfl, ?_⟩; have n0_ := Aside0.mk (Kd.R_lower ho0 (below_size (by repeat (first | (with_reducible first | exact HB.out | apply below_alloc | apply pw_below_drewN | apply below_drew1 | refine below_set ?_ GE214.out) | exact HB.out)))); have n1_ := Aside0.mk (blk_below (g := gb214) (o := .cells #[.int .u8 a0_0, .int .u8 a0_1, .int .u8 a0_2, .int .u8 a0_3, .int .u8 a0_4, .int .u8 a0_5] 28 (0, 0)) (by (with_reducible repeat (first | refine blk_drewN ?_ _ | refine blk_drew ?_ | refine blk_alloc ?_ _)); exact BK214.out) hb); have n2_ := Aside0.mk (below_step (by repeat (first | (with_reducible first | exact HB.out | apply below_alloc | apply pw_below_drewN | apply below_drew1 | refine below_set ?_ GE214.out) | exact HB.out)) hb); clear BK214; clear HB; have HO224 := n0_; have BK214 := n1_; have HB := n2_; clear n0_ n1_ n2_; (try clear hb); (try clear hb2); (try clear hk); (try clear hi); (try clear ho0); obtain ⟨Ao18, co18, eo18⟩ := Kd.R_slice HO224.out; subst eo18) | ((with_reducible refine gate_callee (f := 45) rfl ?_); refine goesL_ (some 32) rfl rfl Try.func45 (by kernel_rfl) rfl #[.agg #[.int .u8 t216, .int .u8 t217, .int .u8 t218, .int .u8 t219, .int .u8 t220, .int .u8 t221], .int .i64 a1, .slice Ao18 t222.length co18] rfl (by (try simp only [List.map_toArray, List.map_cons, List.map_nil]); first | done | rfl | (simp only [List.length_drop, List.length_take]; rfl)) ?_; (with_reducible refine (spec_FewestLoads.calls k t216 t217 t218 t219 t220 t221 a1 _ _ t222 t225 t228 t229 _ ?side1 ?side2 A9.out).mono ?_); (case side1 => repeat (first | exact (Kd.R_reads' HO224.out).2.2 | (with_reducible refine Kd.C_alloc ?_ _) | (with_reducible refine Kd.C_drewN ?_ _) | (with_reducible refine Kd.C_drew ?_))); (case side2 => exact (Kd.R_reads' HO224.out).2.1); rintro e w19 ⟨v226, rfl, ho0, hb⟩; refine ⟨_, rfl, ?_⟩; have n0_ := Aside0.mk (Kd.R_below (by (with_reducible repeat (first | apply Kd.R_alloc | apply Kd.R_drewN | apply Kd.R_drew)); exact HO224.out) hb); have n1_ := Aside0.mk (Kd.R_lower ho0 (below_size (by repeat (first | (with_reducible first | exact HB.out | apply below_alloc | apply pw_below_drewN | apply below_drew1 | refine below_set ?_ GE214.out) | exact HB.out)))); have n2_ := Aside0.mk (blk_below (g := gb214) (o := .cells #[.int .u8 a0_0, .int .u8 a0_1, .int .u8 a0_2, .int .u8 a0_3, .int .u8 a0_4, .int .u8 a0_5] 28 (0, 0)) (by (with_reducible repeat (first | refine blk_drewN ?_ _ | refine blk_drew ?_ | refine blk_alloc ?_ _)); exact BK214.out) hb); have n3_ := Aside0.mk (below_step (by repeat (first | (with_reducible first | exact HB.out | apply below_alloc | apply pw_below_drewN | apply below_drew1 | refine below_set ?_ GE214.out) | exact HB.out)) hb); clear HO224; clear BK214; clear HB; have HO224 := n0_; have HO227 := n1_; have BK214 := n2_; have HB := n3_; clear n0_ n1_ n2_ n3_; (try clear hb); (try clear hb2); (try clear hk); (try clear hi); (try clear ho0)) | ((with_reducible refine gate_callee (f := 16) rfl ?_); refine goesL_ (some 37) rfl rfl Try.func16 (by kernel_rfl) rfl #[.slice A2 l2.length c2] rfl (by (try simp only [List.map_toArray, List.map_cons, List.map_nil]); first | done | rfl | (simp only [List.length_drop, List.length_take]; rfl)) ?_; (with_reducible refine (laws_toGarmentS.calls k _ _ l2 t230 _ ?side1 ?side2 A10.out).mono ?_); (case side1 => repeat (first | exact (Kd.C_below HR2.out HB.out) | (with_reducible refine Kd.C_alloc ?_ _) | (with_reducible refine Kd.C_drewN ?_ _) | (with_reducible refine Kd.C_drew ?_))); (case side2 => exact HC2.out); rintro e w20 ⟨v231, rfl, ho0, hb⟩; refine ⟨_, rfl, ?_⟩; have n0_ := Aside0.mk (Kd.R_elder' (by (with_reducible repeat (first | apply Kd.R_alloc | apply Kd.R_drewN | apply Kd.R_drew)); exact HO224.out) (Kd.R_base ho0) hb); have n1_ := Aside0.mk (Kd.R_below (by (with_reducible repeat (first | apply Kd.R_alloc | apply Kd.R_drewN | apply Kd.R_drew)); exact HO227.out) hb); have n2_ := Aside0.mk (Kd.R_lower (Kd.R_new' ho0 (Kd.R_lt (by (with_reducible repeat (first | apply Kd.R_alloc | apply Kd.R_drewN | apply Kd.R_drew)); exact HO224.out))) (below_size (by repeat (first | (with_reducible first | exact HB.out | apply below_alloc | apply pw_below_drewN | apply below_drew1 | refine below_set ?_ GE214.out) | exact HB.out)))); have n3_ := Aside0.mk (blk_below (g := gb214) (o := .cells #[.int .u8 a0_0, .int .u8 a0_1, .int .u8 a0_2, .int .u8 a0_3, .int .u8 a0_4, .int .u8 a0_5] 28 (0, 0)) (by (with_reducible repeat (first | refine blk_drewN ?_ _ | refine blk_drew ?_ | refine blk_alloc ?_ _)); exact BK214.out) hb); have n4_ := Aside0.mk (below_step (by repeat (first | (with_reducible first | exact HB.out | apply below_alloc | apply pw_below_drewN | apply below_drew1 | refine below_set ?_ GE214.out) | exact HB.out)) hb); clear HO224; clear HO227; clear BK214; clear HB; have HO224 := n0_; have HO227 := n1_; have HO232 := n2_; have BK214 := n3_; have HB := n4_; clear n0_ n1_ n2_ n3_ n4_; (try clear hb); (try clear hb2); (try clear hk); (try clear hi); (try clear ho0); have hcz21_0 : w20.cell? ⟨gb214, 0, none⟩ = some (.int .u8 a0_0) := (blk_cell BK214.out 0).trans rfl; have hcz21_1 : w20.cell? ⟨gb214, 1, none⟩ = some (.int .u8 a0_1) := (blk_cell BK214.out 1).trans rfl; have hcz21_2 : w20.cell? ⟨gb214, 2, none⟩ = some (.int .u8 a0_2) := (blk_cell BK214.out 2).trans rfl; have hcz21_3 : w20.cell? ⟨gb214, 3, none⟩ = some (.int .u8 a0_3) := (blk_cell BK214.out 3).trans rfl; have hcz21_4 : w20.cell? ⟨gb214, 4, none⟩ = some (.int .u8 a0_4) := (blk_cell BK214.out 4).trans rfl; have hcz21_5 : w20.cell? ⟨gb214, 5, none⟩ = some (.int .u8 a0_5) := (blk_cell BK214.out 5).trans rfl; have hfz21_0 := blk_frozen BK214.out 0; have hfz21_1 := blk_frozen BK214.out 1; have hfz21_2 := blk_frozen BK214.out 2; have hfz21_3 := blk_frozen BK214.out 3; have hfz21_4 := blk_frozen BK214.out 4; have hfz21_5 := blk_frozen BK214.out 5) | ((with_reducible refine gate_callee (f := 20) rfl ?_); refine goesL_ (some 40) rfl rfl Try.func20 (by kernel_rfl) rfl #[.agg #[.int .u8 a0_0, .int .u8 a0_1, .int .u8 a0_2, .int .u8 a0_3, .int .u8 a0_4, .int .u8 a0_5]] rfl (by (try simp only [List.map_toArray, List.map_cons, List.map_nil]); first | done | rfl | (simp only [List.length_drop, List.length_take]; rfl)) ?_; (with_reducible refine (laws_toRules.calls a0_0 a0_1 a0_2 a0_3 a0_4 a0_5 t233 t234 t235 t236 t237 t238 _ A11.out).mono ?_); rintro e w22 ⟨rfl, hb⟩; refine ⟨_, rfl, ?_⟩; have n0_ := Aside0.mk (Kd.R_below (by (with_reducible repeat (first | apply Kd.R_alloc | apply Kd.R_drewN | apply Kd.R_drew)); exact HO224.out) hb); have n1_ := Aside0.mk (Kd.R_below (by (with_reducible repeat (first | apply Kd.R_alloc | apply Kd.R_drewN | apply Kd.R_drew)); exact HO227.out) hb); have n2_ := Aside0.mk (Kd.R_below (by (with_reducible repeat (first | apply Kd.R_alloc | apply Kd.R_drewN | apply Kd.R_drew)); exact HO232.out) hb); have n3_ := Aside0.mk (blk_below (g := gb214) (o := .cells #[.int .u8 a0_0, .int .u8 a0_1, .int .u8 a0_2, .int .u8 a0_3, .int .u8 a0_4, .int .u8 a0_5] 28 (0, 0)) (by (with_reducible repeat (first | refine blk_drewN ?_ _ | refine blk_drew ?_ | refine blk_alloc ?_ _)); exact BK214.out) hb); have n4_ := Aside0.mk (below_step (by repeat (first | (with_reducible first | exact HB.out | apply below_alloc | apply pw_below_drewN | apply below_drew1 | refine below_set ?_ GE214.out) | exact HB.out)) hb); clear HO224; clear HO227; clear HO232; clear BK214; clear HB; have HO224 := n0_; have HO227 := n1_; have HO232 := n2_; have BK214 := n3_; have HB := n4_; clear n0_ n1_ n2_ n3_ n4_; (try clear hb); (try clear hb2); (try clear hk); (try clear hi); obtain ⟨Ao23, co23, eo23⟩ := Kd.R_slice HO232.out; subst eo23) | ((with_reducible refine gate_callee (f := 46) rfl ?_); refine goesL_ (some 43) rfl rfl Try.func46 (by kernel_rfl) rfl #[.agg #[.int .u8 t233, .int .u8 t234, .int .u8 t235, .int .u8 t236, .int .u8 t237, .int .u8 t238], .int .i64 a1, .slice Ao23 t230.length co23] rfl (by (try simp only [List.map_toArray, List.map_cons, List.map_nil]); first | done | rfl | (simp only [List.length_drop, List.length_take]; rfl)) ?_; (with_reducible refine (impl_FewestLoads.calls k t233 t234 t235 t236 t237 t238 a1 _ _ t230 t239 t242 t243 _ ?side1 ?side2 A12.out).mono ?_); (case side1 => repeat (first | exact (Kd.R_reads' HO232.out).2.2 | (with_reducible refine Kd.C_alloc ?_ _) | (with_reducible refine Kd.C_drewN ?_ _) | (with_reducible refine Kd.C_drew ?_))); (case side2 => exact (Kd.R_reads' HO232.out).2.1); rintro e w24 ⟨v240, rfl, ho0, hb⟩; refine ⟨_, rfl, ?_⟩; have n0_ := Aside0.mk (Kd.R_below (by (with_reducible repeat (first | apply Kd.R_alloc | apply Kd.R_drewN | apply Kd.R_drew)); exact HO224.out) hb); have n1_ := Aside0.mk (Kd.R_elder' (by (with_reducible repeat (first | apply Kd.R_alloc | apply Kd.R_drewN | apply Kd.R_drew)); exact HO227.out) (Kd.R_base ho0) hb); have n2_ := Aside0.mk (Kd.R_below (by (with_reducible repeat (first | apply Kd.R_alloc | apply Kd.R_drewN | apply Kd.R_drew)); exact HO232.out) hb); have n3_ := Aside0.mk (Kd.R_lower (Kd.R_new' ho0 (Kd.R_lt (by (with_reducible repeat (first | apply Kd.R_alloc | apply Kd.R_drewN | apply Kd.R_drew)); exact HO227.out))) (below_size (by repeat (first | (with_reducible first | exact HB.out | apply below_alloc | apply pw_below_drewN | apply below_drew1 | refine below_set ?_ GE214.out) | exact HB.out)))); have n4_ := Aside0.mk (blk_below (g := gb214) (o := .cells #[.int .u8 a0_0, .int .u8 a0_1, .int .u8 a0_2, .int .u8 a0_3, .int .u8 a0_4, .int .u8 a0_5] 28 (0, 0)) (by (with_reducible repeat (first | refine blk_drewN ?_ _ | refine blk_drew ?_ | refine blk_alloc ?_ _)); exact BK214.out) hb); have n5_ := Aside0.mk (below_step (by repeat (first | (with_reducible first | exact HB.out | apply below_alloc | apply pw_below_drewN | apply below_drew1 | refine below_set ?_ GE214.out) | exact HB.out)) hb); clear HO224; clear HO227; clear HO232; clear BK214; clear HB; have HO224 := n0_; have HO227 := n1_; have HO232 := n2_; have HO241 := n3_; have BK214 := n4_; have HB := n5_; clear n0_ n1_ n2_ n3_ n4_ n5_; (try clear hb); (try clear hb2); (try clear hk); (try clear hi); (try clear ho0)))
  (try simp only [Act.put, List.setIfInBounds_toArray, List.set_cons_zero, List.set_cons_succ])
  go_cut [60] (fun v60 wc => ∃ (kq : Nat) (x60_12 : Bool), v60 = .bool x60_12 ∧ Aside0 (laws_FnExactFewestLoads.j0 kq a1 l2 t225 t228 t229 t230 t239 t242 t243 x60_12 a0_0 a0_1 a0_2 a0_3 a0_4 a0_5 = some r) ∧ Aside0 (kq ≤ k) ∧ Aside0 (Kd.R (Kd.int .i64) 2 wc w.heap.size (fun k_ => some k_ ≠ (v240 : Value).ownBlock) v226 t225) ∧ Aside0 (Kd.R k37 37 wc w.heap.size (fun _ => True) (.slice Ao23 t230.length co23) t230) ∧ Aside0 (Kd.R (Kd.int .i64) 2 wc w.heap.size (fun k_ => some k_ ≠ (v226 : Value).ownBlock) v240 t239) ∧ Aside0 (wc.heap[gb214]? = some (.cells #[.int .u8 a0_0, .int .u8 a0_1, .int .u8 a0_2, .int .u8 a0_3, .int .u8 a0_4, .int .u8 a0_5] 28 (0, 0))) ∧ Aside0 (Below w.heap.size w wc))
  case first =>
   have H := HC13.out
   clear HC13
   replace H := Option.bind_eq_some_iff.mp H
   obtain ⟨t244, A250, H⟩ := H
   replace H : (if t244 = true then (if t242 = t228 then (laws_FnExactFewestLoads.j0 k a1 l2 t225 t228 t229 t230 t239 t242 t243 (t243 != t229) a0_0 a0_1 a0_2 a0_3 a0_4 a0_5) else (laws_FnExactFewestLoads.j0 k a1 l2 t225 t228 t229 t230 t239 t242 t243 true a0_0 a0_1 a0_2 a0_3 a0_4 a0_5)) else (laws_FnExactFewestLoads.j0 k a1 l2 t225 t228 t229 t230 t239 t242 t243 true a0_0 a0_1 a0_2 a0_3 a0_4 a0_5)) = some r := H
   have A25 := Aside0.mk A250
   clear A250
   by_cases c26 : t244 = true
   ·subst c26
    have H1 : (if t242 = t228 then (laws_FnExactFewestLoads.j0 k a1 l2 t225 t228 t229 t230 t239 t242 t243 (t243 != t229) a0_0 a0_1 a0_2 a0_3 a0_4 a0_5) else (laws_FnExactFewestLoads.j0 k a1 l2 t225 t228 t229 t230 t239 t242 t243 true a0_0 a0_1 a0_2 a0_3 a0_4 a0_5)) = some r := by rw [if_pos rfl] at H; exact H
    clear H
    have H := H1
    clear H1
    by_cases c27 : t242 = t228
    ·rw [if_pos c27] at H
     have c27b0 : (t242 == t228) = true := beq_iff_eq.mpr c27
     have c27b1 : (t242 != t228) = false := bne_eq_false_iff_eq.mpr c27
     clear c27
     (first | rw [c27b0] | (simp only [i64_w, i32_w]; rw [c27b0]) | skip)
     have H' := Aside0.mk H
     clear H
     obtain ⟨Ao28, co28, eo28⟩ := Kd.R_slice HO241.out
     subst eo28
     obtain ⟨Ao29, co29, eo29⟩ := Kd.R_slice HO227.out
     subst eo29
     go_wp2_with (first | ((with_reducible refine gate_callee (f := 35) rfl ?_); refine goesL_ (some 49) rfl rfl Try.func35 (by kernel_rfl) rfl #[.slice Ao28 t239.length co28, .slice Ao29 t225.length co29] rfl (by (try simp only [List.map_toArray, List.map_cons, List.map_nil]); first | done | rfl | (simp only [List.length_drop, List.length_take]; rfl)) ?_; (with_reducible refine (laws_eqInt64S.calls k _ _ t239 _ _ t225 true _ ?side1 ?side2 ?side3 ?side4 A25.out).mono ?_); (case side1 => repeat (first | exact (Kd.R_reads' HO241.out).2.2 | (with_reducible refine Kd.C_alloc ?_ _) | (with_reducible refine Kd.C_drewN ?_ _) | (with_reducible refine Kd.C_drew ?_))); (case side2 => exact (Kd.R_reads' HO241.out).2.1); (case side3 => repeat (first | exact (Kd.R_reads' HO227.out).2.2 | (with_reducible refine Kd.C_alloc ?_ _) | (with_reducible refine Kd.C_drewN ?_ _) | (with_reducible refine Kd.C_drew ?_))); (case side4 => exact (Kd.R_reads' HO227.out).2.1); rintro e w' ⟨rfl, ⟨nd, rfl⟩⟩; refine ⟨_, rfl, ?_⟩))
     go_meet
     case rel => exact ⟨_, ((t243 != t229)), (by first | rfl | (simp; done) | (simp [*]; done)), H', ⟨by first | omega | exact Nat.le_refl _⟩, ⟨by (with_reducible repeat (first | apply Kd.R_alloc | apply Kd.R_drewN | apply Kd.R_drew)); exact Kd.R_mono HO227.out (fun _ hk => hk.2)⟩, ⟨by (with_reducible repeat (first | apply Kd.R_alloc | apply Kd.R_drewN | apply Kd.R_drew)); exact Kd.R_mono HO232.out (fun _ hk => trivial)⟩, ⟨by (with_reducible repeat (first | apply Kd.R_alloc | apply Kd.R_drewN | apply Kd.R_drew)); exact Kd.R_mono HO241.out (fun _ hk => hk.2)⟩, ⟨by (with_reducible repeat (first | refine blk_drewN ?_ _ | refine blk_drew ?_ | refine blk_alloc ?_ _)); exact BK214.out⟩, ⟨by repeat (first | (with_reducible first | exact HB.out | apply below_alloc | apply pw_below_drewN | apply below_drew1 | refine below_set ?_ GE214.out) | exact HB.out)⟩⟩
    ·rw [if_neg c27] at H
     have c27b0 : (t242 == t228) = false := beq_eq_false_iff_ne.mpr c27
     have c27b1 : (t242 != t228) = true := bne_iff_ne.mpr c27
     (first | rw [c27b0] | (simp only [i64_w, i32_w]; rw [c27b0]) | skip)
     have H' := Aside0.mk H
     clear H
     obtain ⟨Ao30, co30, eo30⟩ := Kd.R_slice HO241.out
     subst eo30
     obtain ⟨Ao31, co31, eo31⟩ := Kd.R_slice HO227.out
     subst eo31
     go_wp2_with (first | ((with_reducible refine gate_callee (f := 35) rfl ?_); refine goesL_ (some 49) rfl rfl Try.func35 (by kernel_rfl) rfl #[.slice Ao30 t239.length co30, .slice Ao31 t225.length co31] rfl (by (try simp only [List.map_toArray, List.map_cons, List.map_nil]); first | done | rfl | (simp only [List.length_drop, List.length_take]; rfl)) ?_; (with_reducible refine (laws_eqInt64S.calls k _ _ t239 _ _ t225 true _ ?side1 ?side2 ?side3 ?side4 A25.out).mono ?_); (case side1 => repeat (first | exact (Kd.R_reads' HO241.out).2.2 | (with_reducible refine Kd.C_alloc ?_ _) | (with_reducible refine Kd.C_drewN ?_ _) | (with_reducible refine Kd.C_drew ?_))); (case side2 => exact (Kd.R_reads' HO241.out).2.1); (case side3 => repeat (first | exact (Kd.R_reads' HO227.out).2.2 | (with_reducible refine Kd.C_alloc ?_ _) | (with_reducible refine Kd.C_drewN ?_ _) | (with_reducible refine Kd.C_drew ?_))); (case side4 => exact (Kd.R_reads' HO227.out).2.1); rintro e w' ⟨rfl, ⟨nd, rfl⟩⟩; refine ⟨_, rfl, ?_⟩))
     go_meet
     case rel => exact ⟨_, (true), (by first | rfl | (simp; done) | (simp [*]; done)), H', ⟨by first | omega | exact Nat.le_refl _⟩, ⟨by (with_reducible repeat (first | apply Kd.R_alloc | apply Kd.R_drewN | apply Kd.R_drew)); exact Kd.R_mono HO227.out (fun _ hk => hk.2)⟩, ⟨by (with_reducible repeat (first | apply Kd.R_alloc | apply Kd.R_drewN | apply Kd.R_drew)); exact Kd.R_mono HO232.out (fun _ hk => trivial)⟩, ⟨by (with_reducible repeat (first | apply Kd.R_alloc | apply Kd.R_drewN | apply Kd.R_drew)); exact Kd.R_mono HO241.out (fun _ hk => hk.2)⟩, ⟨by (with_reducible repeat (first | refine blk_drewN ?_ _ | refine blk_drew ?_ | refine blk_alloc ?_ _)); exact BK214.out⟩, ⟨by repeat (first | (with_reducible first | exact HB.out | apply below_alloc | apply pw_below_drewN | apply below_drew1 | refine below_set ?_ GE214.out) | exact HB.out)⟩⟩
   ·replace c26 := Bool.eq_false_iff.mpr c26
    subst c26
    have H1 : (laws_FnExactFewestLoads.j0 k a1 l2 t225 t228 t229 t230 t239 t242 t243 true a0_0 a0_1 a0_2 a0_3 a0_4 a0_5) = some r := by rw [if_neg (show ¬ (false = true) by decide)] at H; exact H
    clear H
    have H := H1
    clear H1
    have H' := Aside0.mk H
    clear H
    obtain ⟨Ao32, co32, eo32⟩ := Kd.R_slice HO241.out
    subst eo32
    obtain ⟨Ao33, co33, eo33⟩ := Kd.R_slice HO227.out
    subst eo33
    go_wp2_with (first | ((with_reducible refine gate_callee (f := 35) rfl ?_); refine goesL_ (some 49) rfl rfl Try.func35 (by kernel_rfl) rfl #[.slice Ao32 t239.length co32, .slice Ao33 t225.length co33] rfl (by (try simp only [List.map_toArray, List.map_cons, List.map_nil]); first | done | rfl | (simp only [List.length_drop, List.length_take]; rfl)) ?_; (with_reducible refine (laws_eqInt64S.calls k _ _ t239 _ _ t225 false _ ?side1 ?side2 ?side3 ?side4 A25.out).mono ?_); (case side1 => repeat (first | exact (Kd.R_reads' HO241.out).2.2 | (with_reducible refine Kd.C_alloc ?_ _) | (with_reducible refine Kd.C_drewN ?_ _) | (with_reducible refine Kd.C_drew ?_))); (case side2 => exact (Kd.R_reads' HO241.out).2.1); (case side3 => repeat (first | exact (Kd.R_reads' HO227.out).2.2 | (with_reducible refine Kd.C_alloc ?_ _) | (with_reducible refine Kd.C_drewN ?_ _) | (with_reducible refine Kd.C_drew ?_))); (case side4 => exact (Kd.R_reads' HO227.out).2.1); rintro e w' ⟨rfl, ⟨nd, rfl⟩⟩; refine ⟨_, rfl, ?_⟩))
    go_meet
    case rel => exact ⟨_, (true), (by first | rfl | (simp; done) | (simp [*]; done)), H', ⟨by first | omega | exact Nat.le_refl _⟩, ⟨by (with_reducible repeat (first | apply Kd.R_alloc | apply Kd.R_drewN | apply Kd.R_drew)); exact Kd.R_mono HO227.out (fun _ hk => hk.2)⟩, ⟨by (with_reducible repeat (first | apply Kd.R_alloc | apply Kd.R_drewN | apply Kd.R_drew)); exact Kd.R_mono HO232.out (fun _ hk => trivial)⟩, ⟨by (with_reducible repeat (first | apply Kd.R_alloc | apply Kd.R_drewN | apply Kd.R_drew)); exact Kd.R_mono HO241.out (fun _ hk => hk.2)⟩, ⟨by (with_reducible repeat (first | refine blk_drewN ?_ _ | refine blk_drew ?_ | refine blk_alloc ?_ _)); exact BK214.out⟩, ⟨by repeat (first | (with_reducible first | exact HB.out | apply below_alloc | apply pw_below_drewN | apply below_drew1 | refine below_set ?_ GE214.out) | exact HB.out)⟩⟩
  case rest =>
   clear HC13
   try clear c1
   try clear c2
   try clear p2
   try clear c3
   try clear c4
   try clear c5
   try clear c5b0
   try clear c12
   try clear c14
   try clear c16
   try clear c20
   try clear c26
   try clear c27
   try clear c27b0
   try clear c27b1
   try clear hcz15_0
   try clear hcz15_1
   try clear hcz15_2
   try clear hcz15_3
   try clear hcz15_4
   try clear hcz15_5
   try clear hcz21_0
   try clear hcz21_1
   try clear hcz21_2
   try clear hcz21_3
   try clear hcz21_4
   try clear hcz21_5
   try clear hfz15_0
   try clear hfz15_1
   try clear hfz15_2
   try clear hfz15_3
   try clear hfz15_4
   try clear hfz15_5
   try clear hfz21_0
   try clear hfz21_1
   try clear hfz21_2
   try clear hfz21_3
   try clear hfz21_4
   try clear hfz21_5
   obtain ⟨kq, x60_12, rfl, HA, HJ12, HO_8, HO_11, HO_12, BK214, HB⟩ := hcut
   cases kq with
   | zero => exact absurd HA.out (by simp [laws_FnExactFewestLoads.j0])
   | succ kj12 =>
    have H := HA.out
    clear HA
    simp only [laws_FnExactFewestLoads.j0] at H
    by_cases c34 : x60_12 = true
    ·subst c34
     have H1 : (none) = some r := by rw [if_pos rfl] at H; exact H
     clear H
     have H := H1
     clear H1
     exact absurd H (by simp)
    ·replace c34 := Bool.eq_false_iff.mpr c34
     subst c34
     have H1 : ((laws_toGarmentS.f kj12 l2).bind fun t245 => ((laws_eqGarmentS.f kj12 t230 t245).bind fun t248 => (if t248 = true then ((laws_markGarmentS.f kj12 t230 1).bind fun bt249 => (if bt249.1 < 0 then (laws_FnExactFewestLoads.j1 kj12 a1 l2 t225 t228 t229 t239 true a0_0 a0_1 a0_2 a0_3 a0_4 a0_5) else ((laws_eqInt64S.f kj12 t239 t225).bind fun t251 => (if t251 = true then (if t242 = t228 then (laws_FnExactFewestLoads.j1 kj12 a1 l2 t225 t228 t229 t239 (t243 != t229) a0_0 a0_1 a0_2 a0_3 a0_4 a0_5) else (laws_FnExactFewestLoads.j1 kj12 a1 l2 t225 t228 t229 t239 true a0_0 a0_1 a0_2 a0_3 a0_4 a0_5)) else (laws_FnExactFewestLoads.j1 kj12 a1 l2 t225 t228 t229 t239 true a0_0 a0_1 a0_2 a0_3 a0_4 a0_5))))) else (none)))) = some r := by rw [if_neg (show ¬ (false = true) by decide)] at H; exact H
     clear H
     have H := H1
     clear H1
     replace H := Option.bind_eq_some_iff.mp H
     obtain ⟨t245, A350, H⟩ := H
     replace H : ((laws_eqGarmentS.f kj12 t230 t245).bind fun t248 => (if t248 = true then ((laws_markGarmentS.f kj12 t230 1).bind fun bt249 => (if bt249.1 < 0 then (laws_FnExactFewestLoads.j1 kj12 a1 l2 t225 t228 t229 t239 true a0_0 a0_1 a0_2 a0_3 a0_4 a0_5) else ((laws_eqInt64S.f kj12 t239 t225).bind fun t251 => (if t251 = true then (if t242 = t228 then (laws_FnExactFewestLoads.j1 kj12 a1 l2 t225 t228 t229 t239 (t243 != t229) a0_0 a0_1 a0_2 a0_3 a0_4 a0_5) else (laws_FnExactFewestLoads.j1 kj12 a1 l2 t225 t228 t229 t239 true a0_0 a0_1 a0_2 a0_3 a0_4 a0_5)) else (laws_FnExactFewestLoads.j1 kj12 a1 l2 t225 t228 t229 t239 true a0_0 a0_1 a0_2 a0_3 a0_4 a0_5))))) else (none))) = some r := H
     have A35 := Aside0.mk A350
     clear A350
     replace H := Option.bind_eq_some_iff.mp H
     obtain ⟨t248, A360, H⟩ := H
     replace H : (if t248 = true then ((laws_markGarmentS.f kj12 t230 1).bind fun bt249 => (if bt249.1 < 0 then (laws_FnExactFewestLoads.j1 kj12 a1 l2 t225 t228 t229 t239 true a0_0 a0_1 a0_2 a0_3 a0_4 a0_5) else ((laws_eqInt64S.f kj12 t239 t225).bind fun t251 => (if t251 = true then (if t242 = t228 then (laws_FnExactFewestLoads.j1 kj12 a1 l2 t225 t228 t229 t239 (t243 != t229) a0_0 a0_1 a0_2 a0_3 a0_4 a0_5) else (laws_FnExactFewestLoads.j1 kj12 a1 l2 t225 t228 t229 t239 true a0_0 a0_1 a0_2 a0_3 a0_4 a0_5)) else (laws_FnExactFewestLoads.j1 kj12 a1 l2 t225 t228 t229 t239 true a0_0 a0_1 a0_2 a0_3 a0_4 a0_5))))) else (none)) = some r := H
     have A36 := Aside0.mk A360
     clear A360
     by_cases c37 : t248 = true
     ·subst c37
      have H1 : ((laws_markGarmentS.f kj12 t230 1).bind fun bt249 => (if bt249.1 < 0 then (laws_FnExactFewestLoads.j1 kj12 a1 l2 t225 t228 t229 t239 true a0_0 a0_1 a0_2 a0_3 a0_4 a0_5) else ((laws_eqInt64S.f kj12 t239 t225).bind fun t251 => (if t251 = true then (if t242 = t228 then (laws_FnExactFewestLoads.j1 kj12 a1 l2 t225 t228 t229 t239 (t243 != t229) a0_0 a0_1 a0_2 a0_3 a0_4 a0_5) else (laws_FnExactFewestLoads.j1 kj12 a1 l2 t225 t228 t229 t239 true a0_0 a0_1 a0_2 a0_3 a0_4 a0_5)) else (laws_FnExactFewestLoads.j1 kj12 a1 l2 t225 t228 t229 t239 true a0_0 a0_1 a0_2 a0_3 a0_4 a0_5))))) = some r := by rw [if_pos rfl] at H; exact H
      clear H
      have H := H1
      clear H1
      replace H := Option.bind_eq_some_iff.mp H
      obtain ⟨⟨t249, t250⟩, A380, H⟩ := H
      replace H : (if t249 < 0 then (laws_FnExactFewestLoads.j1 kj12 a1 l2 t225 t228 t229 t239 true a0_0 a0_1 a0_2 a0_3 a0_4 a0_5) else ((laws_eqInt64S.f kj12 t239 t225).bind fun t251 => (if t251 = true then (if t242 = t228 then (laws_FnExactFewestLoads.j1 kj12 a1 l2 t225 t228 t229 t239 (t243 != t229) a0_0 a0_1 a0_2 a0_3 a0_4 a0_5) else (laws_FnExactFewestLoads.j1 kj12 a1 l2 t225 t228 t229 t239 true a0_0 a0_1 a0_2 a0_3 a0_4 a0_5)) else (laws_FnExactFewestLoads.j1 kj12 a1 l2 t225 t228 t229 t239 true a0_0 a0_1 a0_2 a0_3 a0_4 a0_5)))) = some r := H
      have A38 := Aside0.mk A380
      clear A380
      have HC39 := Aside0.mk H
      clear H
      go_upto_region 14 with (first | ((with_reducible refine gate_callee (f := 16) rfl ?_); refine goesL_ (some 63) rfl rfl Try.func16 (by kernel_rfl) rfl #[.slice A2 l2.length c2] rfl (by (try simp only [List.map_toArray, List.map_cons, List.map_nil]); first | done | rfl | (simp only [List.length_drop, List.length_take]; rfl)) ?_; (with_reducible refine (laws_toGarmentS.calls kj12 _ _ l2 t245 _ ?side1 ?side2 A35.out).mono ?_); (case side1 => repeat (first | exact (Kd.C_below HR2.out HB.out) | (with_reducible refine Kd.C_alloc ?_ _) | (with_reducible refine Kd.C_drewN ?_ _) | (with_reducible refine Kd.C_drew ?_))); (case side2 => exact HC2.out); rintro e w40 ⟨v246, rfl, ho0, hb⟩; refine ⟨_, rfl, ?_⟩; have n0_ := Aside0.mk (Kd.R_below (by (with_reducible repeat (first | apply Kd.R_alloc | apply Kd.R_drewN | apply Kd.R_drew)); exact HO_8.out) hb); have n1_ := Aside0.mk (Kd.R_elder' (by (with_reducible repeat (first | apply Kd.R_alloc | apply Kd.R_drewN | apply Kd.R_drew)); exact HO_11.out) (Kd.R_base ho0) hb); have n2_ := Aside0.mk (Kd.R_below (by (with_reducible repeat (first | apply Kd.R_alloc | apply Kd.R_drewN | apply Kd.R_drew)); exact HO_12.out) hb); have n3_ := Aside0.mk (Kd.R_lower (Kd.R_new' ho0 (Kd.R_lt (by (with_reducible repeat (first | apply Kd.R_alloc | apply Kd.R_drewN | apply Kd.R_drew)); exact HO_11.out))) (below_size (by repeat (first | (with_reducible first | exact HB.out | apply below_alloc | apply pw_below_drewN | apply below_drew1 | refine below_set ?_ GE214.out) | exact HB.out)))); have n4_ := Aside0.mk (blk_below (g := gb214) (o := .cells #[.int .u8 a0_0, .int .u8 a0_1, .int .u8 a0_2, .int .u8 a0_3, .int .u8 a0_4, .int .u8 a0_5] 28 (0, 0)) (by (with_reducible repeat (first | refine blk_drewN ?_ _ | refine blk_drew ?_ | refine blk_alloc ?_ _)); exact BK214.out) hb); have n5_ := Aside0.mk (below_step (by repeat (first | (with_reducible first | exact HB.out | apply below_alloc | apply pw_below_drewN | apply below_drew1 | refine below_set ?_ GE214.out) | exact HB.out)) hb); clear HO_8; clear HO_11; clear HO_12; clear BK214; clear HB; have HO_8 := n0_; have HO_11 := n1_; have HO_12 := n2_; have HO247 := n3_; have BK214 := n4_; have HB := n5_; clear n0_ n1_ n2_ n3_ n4_ n5_; (try clear hb); (try clear hb2); (try clear hk); (try clear hi); (try clear ho0); obtain ⟨Ao41, co41, eo41⟩ := Kd.R_slice HO247.out; subst eo41) | ((with_reducible refine gate_callee (f := 18) rfl ?_); refine goesL_ (some 64) rfl rfl Try.func18 (by kernel_rfl) rfl #[.slice Ao23 t230.length co23, .slice Ao41 t245.length co41] rfl (by (try simp only [List.map_toArray, List.map_cons, List.map_nil]); first | done | rfl | (simp only [List.length_drop, List.length_take]; rfl)) ?_; (with_reducible refine (laws_eqGarmentS.calls kj12 _ _ t230 _ _ t245 true _ ?side1 ?side2 ?side3 ?side4 A36.out).mono ?_); (case side1 => repeat (first | exact (Kd.R_reads' HO_11.out).2.2 | (with_reducible refine Kd.C_alloc ?_ _) | (with_reducible refine Kd.C_drewN ?_ _) | (with_reducible refine Kd.C_drew ?_))); (case side2 => exact (Kd.R_reads' HO_11.out).2.1); (case side3 => repeat (first | exact (Kd.R_reads' HO247.out).2.2 | (with_reducible refine Kd.C_alloc ?_ _) | (with_reducible refine Kd.C_drewN ?_ _) | (with_reducible refine Kd.C_drew ?_))); (case side4 => exact (Kd.R_reads' HO247.out).2.1); rintro e w42 ⟨rfl, hb⟩; refine ⟨_, rfl, ?_⟩; have n0_ := Aside0.mk (Kd.R_below (by (with_reducible repeat (first | apply Kd.R_alloc | apply Kd.R_drewN | apply Kd.R_drew)); exact HO_8.out) hb); have n1_ := Aside0.mk (Kd.R_below (by (with_reducible repeat (first | apply Kd.R_alloc | apply Kd.R_drewN | apply Kd.R_drew)); exact HO_11.out) hb); have n2_ := Aside0.mk (Kd.R_below (by (with_reducible repeat (first | apply Kd.R_alloc | apply Kd.R_drewN | apply Kd.R_drew)); exact HO_12.out) hb); have n3_ := Aside0.mk (Kd.R_below (by (with_reducible repeat (first | apply Kd.R_alloc | apply Kd.R_drewN | apply Kd.R_drew)); exact HO247.out) hb); have n4_ := Aside0.mk (blk_below (g := gb214) (o := .cells #[.int .u8 a0_0, .int .u8 a0_1, .int .u8 a0_2, .int .u8 a0_3, .int .u8 a0_4, .int .u8 a0_5] 28 (0, 0)) (by (with_reducible repeat (first | refine blk_drewN ?_ _ | refine blk_drew ?_ | refine blk_alloc ?_ _)); exact BK214.out) hb); have n5_ := Aside0.mk (below_step (by repeat (first | (with_reducible first | exact HB.out | apply below_alloc | apply pw_below_drewN | apply below_drew1 | refine below_set ?_ GE214.out) | exact HB.out)) hb); clear HO_8; clear HO_11; clear HO_12; clear HO247; clear BK214; clear HB; have HO_8 := n0_; have HO_11 := n1_; have HO_12 := n2_; have HO247 := n3_; have BK214 := n4_; have HB := n5_; clear n0_ n1_ n2_ n3_ n4_ n5_; (try clear hb); (try clear hb2); (try clear hk); (try clear hi)) | ((with_reducible refine gate_callee (f := 38) rfl ?_); refine goesL_ (some 68) rfl rfl Try.func38 (by kernel_rfl) rfl #[.slice Ao23 t230.length co23, .int .i64 1] rfl (by (try simp only [List.map_toArray, List.map_cons, List.map_nil]); first | done | rfl | (simp only [List.length_drop, List.length_take]; rfl)) ?_; (with_reducible refine (laws_markGarmentS.calls kj12 (fun k_ => some k_ = (.slice Ao23 t230.length co23 : Value).ownBlock) (.slice Ao23 t230.length co23) t230 1 t249 t250 w _ ?side1 ?side2 A38.out).mono ?_); (case side1 => repeat (first | (with_reducible first | exact HB.out | apply below_alloc | apply pw_below_drewN | apply below_drew1 | refine below_set ?_ GE214.out) | exact HB.out)); (case side2 => exact Kd.R_tight rfl HO_11.out); rintro e w43 ⟨rfl, hy0, hb, hkp⟩; refine ⟨_, rfl, ?_⟩; have n0_ := Aside0.mk (Kd.R_mono (ok' := fun k_ => some k_ ≠ (v240 : Value).ownBlock) (Kd.R_keptB ((Kd.R_apart' HO_8.out (Kd.R_typed HO_11.out) (by decide))) hkp (fun k_ hk_ hs_ => (hk_.2) hs_)) (fun k_ hk_ => hk_.1.1)); have n1_ := Aside0.mk (Kd.R_reok rfl hy0 (fun k_ e_ => HO_11.out.1 k_ e_)); have n2_ := Aside0.mk (Kd.R_mono (ok' := fun k_ => some k_ ≠ (v226 : Value).ownBlock) (Kd.R_keptB ((Kd.R_apart' HO_12.out (Kd.R_typed HO_11.out) (by decide))) hkp (fun k_ hk_ hs_ => (hk_.2) hs_)) (fun k_ hk_ => hk_.1.1)); have n3_ := Aside0.mk (blk_kept (by (with_reducible repeat (first | refine blk_drewN ?_ _ | refine blk_drew ?_ | refine blk_alloc ?_ _)); exact BK214.out) hkp (fun hs_ => (fun e_ => (Kd.R_ne HO_11.out BK214.out (by decide)) e_) hs_)); have n4_ := Aside0.mk (Kd.R_mono (ok' := fun k_ => some k_ ≠ (.slice Ao23 t230.length co23 : Value).ownBlock) (Kd.R_keptB (HO247.out) hkp (fun k_ hk_ hs_ => (hk_.2) hs_)) (fun k_ hk_ => hk_.1.2)); have n5_ := Aside0.mk (hb); clear HO_8; clear HO_11; clear HO_12; clear BK214; clear HO247; clear HB; have HO_8 := n0_; have HO_11 := n1_; have HO_12 := n2_; have BK214 := n3_; have HO247 := n4_; have HB := n5_; clear n0_ n1_ n2_ n3_ n4_ n5_; (try clear hb); (try clear hkp); (try clear hy0)))
      (try simp only [Act.put, List.setIfInBounds_toArray, List.set_cons_zero, List.set_cons_succ])
      go_cut [86] (fun v86 wc => ∃ (kq : Nat) (x86_38 : Bool), v86 = .bool x86_38 ∧ Aside0 (laws_FnExactFewestLoads.j1 kq a1 l2 t225 t228 t229 t239 x86_38 a0_0 a0_1 a0_2 a0_3 a0_4 a0_5 = some r) ∧ Aside0 (kq ≤ kj12) ∧ Aside0 (Kd.R (Kd.int .i64) 2 wc w.heap.size (fun k_ => some k_ ≠ (v240 : Value).ownBlock) v226 t225) ∧ Aside0 (Kd.R (Kd.int .i64) 2 wc w.heap.size (fun k_ => some k_ ≠ (v226 : Value).ownBlock) v240 t239) ∧ Aside0 (wc.heap[gb214]? = some (.cells #[.int .u8 a0_0, .int .u8 a0_1, .int .u8 a0_2, .int .u8 a0_3, .int .u8 a0_4, .int .u8 a0_5] 28 (0, 0))) ∧ Aside0 (Below w.heap.size w wc))
      case first =>
       have H := HC39.out
       clear HC39
       by_cases c44 : t249 < 0
       ·rw [if_pos c44] at H
        have c44b0 : decide (t249 < 0) = true := decide_eq_true c44
        clear c44
        (first | rw [c44b0] | (simp only [i64_w, i32_w]; rw [c44b0]) | skip)
        have H' := Aside0.mk H
        clear H
        go_wp2
        go_meet
        case rel => exact ⟨_, (true), (by first | rfl | (simp; done) | (simp [*]; done)), H', ⟨by have := HJ12.out; first | omega | exact Nat.le_refl _⟩, ⟨by (with_reducible repeat (first | apply Kd.R_alloc | apply Kd.R_drewN | apply Kd.R_drew)); exact HO_8.out⟩, ⟨by (with_reducible repeat (first | apply Kd.R_alloc | apply Kd.R_drewN | apply Kd.R_drew)); exact HO_12.out⟩, ⟨by (with_reducible repeat (first | refine blk_drewN ?_ _ | refine blk_drew ?_ | refine blk_alloc ?_ _)); exact BK214.out⟩, ⟨by repeat (first | (with_reducible first | exact HB.out | apply below_alloc | apply pw_below_drewN | apply below_drew1 | refine below_set ?_ GE214.out) | exact HB.out)⟩⟩
       ·rw [if_neg c44] at H
        have c44b0 : decide (t249 < 0) = false := decide_eq_false c44
        clear c44
        (first | rw [c44b0] | (simp only [i64_w, i32_w]; rw [c44b0]) | skip)
        replace H := Option.bind_eq_some_iff.mp H
        obtain ⟨t251, A450, H⟩ := H
        replace H : (if t251 = true then (if t242 = t228 then (laws_FnExactFewestLoads.j1 kj12 a1 l2 t225 t228 t229 t239 (t243 != t229) a0_0 a0_1 a0_2 a0_3 a0_4 a0_5) else (laws_FnExactFewestLoads.j1 kj12 a1 l2 t225 t228 t229 t239 true a0_0 a0_1 a0_2 a0_3 a0_4 a0_5)) else (laws_FnExactFewestLoads.j1 kj12 a1 l2 t225 t228 t229 t239 true a0_0 a0_1 a0_2 a0_3 a0_4 a0_5)) = some r := H
        have A45 := Aside0.mk A450
        clear A450
        by_cases c46 : t251 = true
        ·subst c46
         have H1 : (if t242 = t228 then (laws_FnExactFewestLoads.j1 kj12 a1 l2 t225 t228 t229 t239 (t243 != t229) a0_0 a0_1 a0_2 a0_3 a0_4 a0_5) else (laws_FnExactFewestLoads.j1 kj12 a1 l2 t225 t228 t229 t239 true a0_0 a0_1 a0_2 a0_3 a0_4 a0_5)) = some r := by rw [if_pos rfl] at H; exact H
         clear H
         have H := H1
         clear H1
         by_cases c47 : t242 = t228
         ·rw [if_pos c47] at H
          have c47b0 : (t242 == t228) = true := beq_iff_eq.mpr c47
          have c47b1 : (t242 != t228) = false := bne_eq_false_iff_eq.mpr c47
          clear c47
          have H' := Aside0.mk H
          clear H
          obtain ⟨Ao48, co48, eo48⟩ := Kd.R_slice HO_12.out
          subst eo48
          obtain ⟨Ao49, co49, eo49⟩ := Kd.R_slice HO_8.out
          subst eo49
          go_wp2_with (first | (go_at_call 35; (with_reducible refine (laws_eqInt64S.calls kj12 _ _ t239 _ _ t225 true _ ?side1 ?side2 ?side3 ?side4 A45.out).mono ?_); (case side1 => repeat (first | exact (Kd.R_reads' HO_12.out).2.2 | (with_reducible refine Kd.C_alloc ?_ _) | (with_reducible refine Kd.C_drewN ?_ _) | (with_reducible refine Kd.C_drew ?_))); (case side2 => exact (Kd.R_reads' HO_12.out).2.1); (case side3 => repeat (first | exact (Kd.R_reads' HO_8.out).2.2 | (with_reducible refine Kd.C_alloc ?_ _) | (with_reducible refine Kd.C_drewN ?_ _) | (with_reducible refine Kd.C_drew ?_))); (case side4 => exact (Kd.R_reads' HO_8.out).2.1); rintro e w' ⟨rfl, ⟨nd, rfl⟩⟩))
          go_meet
          case rel => exact ⟨_, ((t243 != t229)), (by first | rfl | (simp; done) | (simp [*]; done)), H', ⟨by have := HJ12.out; first | omega | exact Nat.le_refl _⟩, ⟨by (with_reducible repeat (first | apply Kd.R_alloc | apply Kd.R_drewN | apply Kd.R_drew)); exact HO_8.out⟩, ⟨by (with_reducible repeat (first | apply Kd.R_alloc | apply Kd.R_drewN | apply Kd.R_drew)); exact HO_12.out⟩, ⟨by (with_reducible repeat (first | refine blk_drewN ?_ _ | refine blk_drew ?_ | refine blk_alloc ?_ _)); exact BK214.out⟩, ⟨by repeat (first | (with_reducible first | exact HB.out | apply below_alloc | apply pw_below_drewN | apply below_drew1 | refine below_set ?_ GE214.out) | exact HB.out)⟩⟩
         ·rw [if_neg c47] at H
          have c47b0 : (t242 == t228) = false := beq_eq_false_iff_ne.mpr c47
          have c47b1 : (t242 != t228) = true := bne_iff_ne.mpr c47
          have H' := Aside0.mk H
          clear H
          obtain ⟨Ao50, co50, eo50⟩ := Kd.R_slice HO_12.out
          subst eo50
          obtain ⟨Ao51, co51, eo51⟩ := Kd.R_slice HO_8.out
          subst eo51
          go_wp2_with (first | (go_at_call 35; (with_reducible refine (laws_eqInt64S.calls kj12 _ _ t239 _ _ t225 true _ ?side1 ?side2 ?side3 ?side4 A45.out).mono ?_); (case side1 => repeat (first | exact (Kd.R_reads' HO_12.out).2.2 | (with_reducible refine Kd.C_alloc ?_ _) | (with_reducible refine Kd.C_drewN ?_ _) | (with_reducible refine Kd.C_drew ?_))); (case side2 => exact (Kd.R_reads' HO_12.out).2.1); (case side3 => repeat (first | exact (Kd.R_reads' HO_8.out).2.2 | (with_reducible refine Kd.C_alloc ?_ _) | (with_reducible refine Kd.C_drewN ?_ _) | (with_reducible refine Kd.C_drew ?_))); (case side4 => exact (Kd.R_reads' HO_8.out).2.1); rintro e w' ⟨rfl, ⟨nd, rfl⟩⟩))
          go_meet
          case rel => exact ⟨_, (true), (by first | rfl | (simp; done) | (simp [*]; done)), H', ⟨by have := HJ12.out; first | omega | exact Nat.le_refl _⟩, ⟨by (with_reducible repeat (first | apply Kd.R_alloc | apply Kd.R_drewN | apply Kd.R_drew)); exact HO_8.out⟩, ⟨by (with_reducible repeat (first | apply Kd.R_alloc | apply Kd.R_drewN | apply Kd.R_drew)); exact HO_12.out⟩, ⟨by (with_reducible repeat (first | refine blk_drewN ?_ _ | refine blk_drew ?_ | refine blk_alloc ?_ _)); exact BK214.out⟩, ⟨by repeat (first | (with_reducible first | exact HB.out | apply below_alloc | apply pw_below_drewN | apply below_drew1 | refine below_set ?_ GE214.out) | exact HB.out)⟩⟩
        ·replace c46 := Bool.eq_false_iff.mpr c46
         subst c46
         have H1 : (laws_FnExactFewestLoads.j1 kj12 a1 l2 t225 t228 t229 t239 true a0_0 a0_1 a0_2 a0_3 a0_4 a0_5) = some r := by rw [if_neg (show ¬ (false = true) by decide)] at H; exact H
         clear H
         have H := H1
         clear H1
         have H' := Aside0.mk H
         clear H
         obtain ⟨Ao52, co52, eo52⟩ := Kd.R_slice HO_12.out
         subst eo52
         obtain ⟨Ao53, co53, eo53⟩ := Kd.R_slice HO_8.out
         subst eo53
         go_wp2_with (first | (go_at_call 35; (with_reducible refine (laws_eqInt64S.calls kj12 _ _ t239 _ _ t225 false _ ?side1 ?side2 ?side3 ?side4 A45.out).mono ?_); (case side1 => repeat (first | exact (Kd.R_reads' HO_12.out).2.2 | (with_reducible refine Kd.C_alloc ?_ _) | (with_reducible refine Kd.C_drewN ?_ _) | (with_reducible refine Kd.C_drew ?_))); (case side2 => exact (Kd.R_reads' HO_12.out).2.1); (case side3 => repeat (first | exact (Kd.R_reads' HO_8.out).2.2 | (with_reducible refine Kd.C_alloc ?_ _) | (with_reducible refine Kd.C_drewN ?_ _) | (with_reducible refine Kd.C_drew ?_))); (case side4 => exact (Kd.R_reads' HO_8.out).2.1); rintro e w' ⟨rfl, ⟨nd, rfl⟩⟩))
         go_meet
         case rel => exact ⟨_, (true), (by first | rfl | (simp; done) | (simp [*]; done)), H', ⟨by have := HJ12.out; first | omega | exact Nat.le_refl _⟩, ⟨by (with_reducible repeat (first | apply Kd.R_alloc | apply Kd.R_drewN | apply Kd.R_drew)); exact HO_8.out⟩, ⟨by (with_reducible repeat (first | apply Kd.R_alloc | apply Kd.R_drewN | apply Kd.R_drew)); exact HO_12.out⟩, ⟨by (with_reducible repeat (first | refine blk_drewN ?_ _ | refine blk_drew ?_ | refine blk_alloc ?_ _)); exact BK214.out⟩, ⟨by repeat (first | (with_reducible first | exact HB.out | apply below_alloc | apply pw_below_drewN | apply below_drew1 | refine below_set ?_ GE214.out) | exact HB.out)⟩⟩
      case rest =>
       clear HC39
       try clear c1
       try clear c2
       try clear p2
       try clear c3
       try clear c4
       try clear c5
       try clear c5b0
       try clear c12
       try clear c14
       try clear c16
       try clear c18
       try clear c20
       try clear c26
       try clear c27
       try clear c27b0
       try clear c27b1
       try clear c34
       try clear c35
       try clear c37
       try clear c38
       try clear c44
       try clear c44b0
       try clear c45
       try clear c46
       try clear c47
       try clear c47b0
       try clear c47b1
       try clear hcz15_0
       try clear hcz15_1
       try clear hcz15_2
       try clear hcz15_3
       try clear hcz15_4
       try clear hcz15_5
       try clear hcz21_0
       try clear hcz21_1
       try clear hcz21_2
       try clear hcz21_3
       try clear hcz21_4
       try clear hcz21_5
       try clear hfz15_0
       try clear hfz15_1
       try clear hfz15_2
       try clear hfz15_3
       try clear hfz15_4
       try clear hfz15_5
       try clear hfz21_0
       try clear hfz21_1
       try clear hfz21_2
       try clear hfz21_3
       try clear hfz21_4
       try clear hfz21_5
       try clear p2
       obtain ⟨kq, x86_38, rfl, HA, HJ38, HO_8, HO_12, BK214, HB⟩ := hcut
       cases kq with
       | zero => exact absurd HA.out (by simp [laws_FnExactFewestLoads.j1])
       | succ kj38 =>
        have H := HA.out
        clear HA
        simp only [laws_FnExactFewestLoads.j1] at H
        by_cases c54 : x86_38 = true
        ·subst c54
         have H1 : (none) = some r := by rw [if_pos rfl] at H; exact H
         clear H
         have H := H1
         clear H1
         exact absurd H (by simp)
        ·replace c54 := Bool.eq_false_iff.mpr c54
         subst c54
         have H1 : ((laws_markInt64S.f kj38 t239 1).bind fun bt252 => ((laws_heldInt64S.f kj38 bt252.2 1).bind fun t254 => (if t254 < 0 then (none) else (if t254 = bt252.1 then ((laws_toRules.f a0_0 a0_1 a0_2 a0_3 a0_4 a0_5).bind fun bt255 => ((laws_toGarmentS.f kj38 l2).bind fun t261 => ((impl_FewestLoads.f kj38 bt255.1 bt255.2.1 bt255.2.2.1 bt255.2.2.2.1 bt255.2.2.2.2.1 bt255.2.2.2.2.2 a1 t261).bind fun bt264 => ((laws_eqInt64S.f kj38 bt264.1 t225).bind fun t269 => (if t269 = true then (if bt264.2.1 = t228 then (laws_FnExactFewestLoads.j2 kj38 bt252.2 bt252.1 (bt264.2.2 != t229)) else (laws_FnExactFewestLoads.j2 kj38 bt252.2 bt252.1 true)) else (laws_FnExactFewestLoads.j2 kj38 bt252.2 bt252.1 true)))))) else (none))))) = some r := by rw [if_neg (show ¬ (false = true) by decide)] at H; exact H
         clear H
         have H := H1
         clear H1
         replace H := Option.bind_eq_some_iff.mp H
         obtain ⟨⟨t252, t253⟩, A550, H⟩ := H
         replace H : ((laws_heldInt64S.f kj38 t253 1).bind fun t254 => (if t254 < 0 then (none) else (if t254 = t252 then ((laws_toRules.f a0_0 a0_1 a0_2 a0_3 a0_4 a0_5).bind fun bt255 => ((laws_toGarmentS.f kj38 l2).bind fun t261 => ((impl_FewestLoads.f kj38 bt255.1 bt255.2.1 bt255.2.2.1 bt255.2.2.2.1 bt255.2.2.2.2.1 bt255.2.2.2.2.2 a1 t261).bind fun bt264 => ((laws_eqInt64S.f kj38 bt264.1 t225).bind fun t269 => (if t269 = true then (if bt264.2.1 = t228 then (laws_FnExactFewestLoads.j2 kj38 t253 t252 (bt264.2.2 != t229)) else (laws_FnExactFewestLoads.j2 kj38 t253 t252 true)) else (laws_FnExactFewestLoads.j2 kj38 t253 t252 true)))))) else (none)))) = some r := H
         have A55 := Aside0.mk A550
         clear A550
         replace H := Option.bind_eq_some_iff.mp H
         obtain ⟨t254, A560, H⟩ := H
         replace H : (if t254 < 0 then (none) else (if t254 = t252 then ((laws_toRules.f a0_0 a0_1 a0_2 a0_3 a0_4 a0_5).bind fun bt255 => ((laws_toGarmentS.f kj38 l2).bind fun t261 => ((impl_FewestLoads.f kj38 bt255.1 bt255.2.1 bt255.2.2.1 bt255.2.2.2.1 bt255.2.2.2.2.1 bt255.2.2.2.2.2 a1 t261).bind fun bt264 => ((laws_eqInt64S.f kj38 bt264.1 t225).bind fun t269 => (if t269 = true then (if bt264.2.1 = t228 then (laws_FnExactFewestLoads.j2 kj38 t253 t252 (bt264.2.2 != t229)) else (laws_FnExactFewestLoads.j2 kj38 t253 t252 true)) else (laws_FnExactFewestLoads.j2 kj38 t253 t252 true)))))) else (none))) = some r := H
         have A56 := Aside0.mk A560
         clear A560
         by_cases c57 : t254 < 0
         ·rw [if_pos c57] at H
          exact absurd H (by simp)
         ·rw [if_neg c57] at H
          have c57b0 : decide (t254 < 0) = false := decide_eq_false c57
          clear c57
          by_cases c58 : t254 = t252
          ·rw [if_pos c58] at H
           have c58b0 : (t254 == t252) = true := beq_iff_eq.mpr c58
           have c58b1 : (t254 != t252) = false := bne_eq_false_iff_eq.mpr c58
           clear c58
           replace H := Option.bind_eq_some_iff.mp H
           obtain ⟨⟨t255, t256, t257, t258, t259, t260⟩, A590, H⟩ := H
           replace H : ((laws_toGarmentS.f kj38 l2).bind fun t261 => ((impl_FewestLoads.f kj38 t255 t256 t257 t258 t259 t260 a1 t261).bind fun bt264 => ((laws_eqInt64S.f kj38 bt264.1 t225).bind fun t269 => (if t269 = true then (if bt264.2.1 = t228 then (laws_FnExactFewestLoads.j2 kj38 t253 t252 (bt264.2.2 != t229)) else (laws_FnExactFewestLoads.j2 kj38 t253 t252 true)) else (laws_FnExactFewestLoads.j2 kj38 t253 t252 true))))) = some r := H
           have A59 := Aside0.mk A590
           clear A590
           replace H := Option.bind_eq_some_iff.mp H
           obtain ⟨t261, A600, H⟩ := H
           replace H : ((impl_FewestLoads.f kj38 t255 t256 t257 t258 t259 t260 a1 t261).bind fun bt264 => ((laws_eqInt64S.f kj38 bt264.1 t225).bind fun t269 => (if t269 = true then (if bt264.2.1 = t228 then (laws_FnExactFewestLoads.j2 kj38 t253 t252 (bt264.2.2 != t229)) else (laws_FnExactFewestLoads.j2 kj38 t253 t252 true)) else (laws_FnExactFewestLoads.j2 kj38 t253 t252 true)))) = some r := H
           have A60 := Aside0.mk A600
           clear A600
           replace H := Option.bind_eq_some_iff.mp H
           obtain ⟨⟨t264, t267, t268⟩, A610, H⟩ := H
           replace H : ((laws_eqInt64S.f kj38 t264 t225).bind fun t269 => (if t269 = true then (if t267 = t228 then (laws_FnExactFewestLoads.j2 kj38 t253 t252 (t268 != t229)) else (laws_FnExactFewestLoads.j2 kj38 t253 t252 true)) else (laws_FnExactFewestLoads.j2 kj38 t253 t252 true))) = some r := H
           have A61 := Aside0.mk A610
           clear A610
           have HC62 := Aside0.mk H
           clear H
           obtain ⟨Ao63, co63, eo63⟩ := Kd.R_slice HO_12.out
           subst eo63
           go_upto_region 25 with (first | ((with_reducible refine gate_callee (f := 39) rfl ?_); refine goesL_ (some 89) rfl rfl Try.func39 (by kernel_rfl) rfl #[.slice Ao63 t239.length co63, .int .i64 1] rfl (by (try simp only [List.map_toArray, List.map_cons, List.map_nil]); first | done | rfl | (simp only [List.length_drop, List.length_take]; rfl)) ?_; (with_reducible refine (laws_markInt64S.calls kj38 (fun k_ => some k_ = (.slice Ao63 t239.length co63 : Value).ownBlock) (.slice Ao63 t239.length co63) t239 1 t252 t253 w _ ?side1 ?side2 A55.out).mono ?_); (case side1 => repeat (first | (with_reducible first | exact HB.out | apply below_alloc | apply pw_below_drewN | apply below_drew1 | refine below_set ?_ GE214.out) | exact HB.out)); (case side2 => exact Kd.R_tight rfl HO_12.out); rintro e w64 ⟨rfl, hy0, hb, hkp⟩; refine ⟨_, rfl, ?_⟩; have n0_ := Aside0.mk (Kd.R_mono (ok' := fun k_ => some k_ ≠ (.slice Ao63 t239.length co63 : Value).ownBlock) (Kd.R_keptB (HO_8.out) hkp (fun k_ hk_ hs_ => (hk_) hs_)) (fun k_ hk_ => hk_.1)); have n1_ := Aside0.mk (Kd.R_reok rfl hy0 (fun k_ e_ => HO_12.out.1 k_ e_)); have n2_ := Aside0.mk (blk_kept (by (with_reducible repeat (first | refine blk_drewN ?_ _ | refine blk_drew ?_ | refine blk_alloc ?_ _)); exact BK214.out) hkp (fun hs_ => (fun e_ => (Kd.R_ne HO_12.out BK214.out (by decide)) e_) hs_)); have n3_ := Aside0.mk (hb); clear HO_8; clear HO_12; clear BK214; clear HB; have HO_8 := n0_; have HO_12 := n1_; have BK214 := n2_; have HB := n3_; clear n0_ n1_ n2_ n3_; (try clear hb); (try clear hkp); (try clear hy0)) | ((with_reducible refine gate_callee (f := 40) rfl ?_); refine goesL_ (some 92) rfl rfl Try.func40 (by kernel_rfl) rfl #[.slice Ao63 t253.length co63, .int .i64 1] rfl (by (try simp only [List.map_toArray, List.map_cons, List.map_nil]); first | done | (rw [show t253.length = t239.length from (Kd.R_reads' HO_12.out).1.symm] <;> rfl) | rfl | (simp only [List.length_drop, List.length_take]; rfl)) ?_; (with_reducible refine (laws_heldInt64S.calls kj38 _ _ t253 1 t254 _ ?side1 ?side2 A56.out).mono ?_); (case side1 => repeat (first | exact (Kd.R_reads' HO_12.out).2.2 | (with_reducible refine Kd.C_alloc ?_ _) | (with_reducible refine Kd.C_drewN ?_ _) | (with_reducible refine Kd.C_drew ?_))); (case side2 => rw [show t253.length = t239.length from (Kd.R_reads' HO_12.out).1.symm]; exact (Kd.R_reads' HO_12.out).2.1); rintro e w' ⟨rfl, ⟨nd, rfl⟩⟩; refine ⟨_, rfl, ?_⟩; have hcz65_0 : w64.cell? ⟨gb214, 0, none⟩ = some (.int .u8 a0_0) := (blk_cell BK214.out 0).trans rfl; have hcz65_1 : w64.cell? ⟨gb214, 1, none⟩ = some (.int .u8 a0_1) := (blk_cell BK214.out 1).trans rfl; have hcz65_2 : w64.cell? ⟨gb214, 2, none⟩ = some (.int .u8 a0_2) := (blk_cell BK214.out 2).trans rfl; have hcz65_3 : w64.cell? ⟨gb214, 3, none⟩ = some (.int .u8 a0_3) := (blk_cell BK214.out 3).trans rfl; have hcz65_4 : w64.cell? ⟨gb214, 4, none⟩ = some (.int .u8 a0_4) := (blk_cell BK214.out 4).trans rfl; have hcz65_5 : w64.cell? ⟨gb214, 5, none⟩ = some (.int .u8 a0_5) := (blk_cell BK214.out 5).trans rfl; have hfz65_0 := blk_frozen BK214.out 0; have hfz65_1 := blk_frozen BK214.out 1; have hfz65_2 := blk_frozen BK214.out 2; have hfz65_3 := blk_frozen BK214.out 3; have hfz65_4 := blk_frozen BK214.out 4; have hfz65_5 := blk_frozen BK214.out 5) | ((with_reducible refine gate_callee (f := 20) rfl ?_); refine goesL_ (some 100) rfl rfl Try.func20 (by kernel_rfl) rfl #[.agg #[.int .u8 a0_0, .int .u8 a0_1, .int .u8 a0_2, .int .u8 a0_3, .int .u8 a0_4, .int .u8 a0_5]] rfl (by (try simp only [List.map_toArray, List.map_cons, List.map_nil]); first | done | rfl | (simp only [List.length_drop, List.length_take]; rfl)) ?_; (with_reducible refine (laws_toRules.calls a0_0 a0_1 a0_2 a0_3 a0_4 a0_5 t255 t256 t257 t258 t259 t260 _ A59.out).mono ?_); rintro e w66 ⟨rfl, hb⟩; refine ⟨_, rfl, ?_⟩; have n0_ := Aside0.mk (Kd.R_below (by (with_reducible repeat (first | apply Kd.R_alloc | apply Kd.R_drewN | apply Kd.R_drew)); exact HO_8.out) hb); have n1_ := Aside0.mk (Kd.R_below (by (with_reducible repeat (first | apply Kd.R_alloc | apply Kd.R_drewN | apply Kd.R_drew)); exact HO_12.out) hb); have n2_ := Aside0.mk (blk_below (g := gb214) (o := .cells #[.int .u8 a0_0, .int .u8 a0_1, .int .u8 a0_2, .int .u8 a0_3, .int .u8 a0_4, .int .u8 a0_5] 28 (0, 0)) (by (with_reducible repeat (first | refine blk_drewN ?_ _ | refine blk_drew ?_ | refine blk_alloc ?_ _)); exact BK214.out) hb); have n3_ := Aside0.mk (below_step (by repeat (first | (with_reducible first | exact HB.out | apply below_alloc | apply pw_below_drewN | apply below_drew1 | refine below_set ?_ GE214.out) | exact HB.out)) hb); clear HO_8; clear HO_12; clear BK214; clear HB; have HO_8 := n0_; have HO_12 := n1_; have BK214 := n2_; have HB := n3_; clear n0_ n1_ n2_ n3_; (try clear hb); (try clear hb2); (try clear hk); (try clear hi)) | ((with_reducible refine gate_callee (f := 16) rfl ?_); refine goesL_ (some 103) rfl rfl Try.func16 (by kernel_rfl) rfl #[.slice A2 l2.length c2] rfl (by (try simp only [List.map_toArray, List.map_cons, List.map_nil]); first | done | rfl | (simp only [List.length_drop, List.length_take]; rfl)) ?_; (with_reducible refine (laws_toGarmentS.calls kj38 _ _ l2 t261 _ ?side1 ?side2 A60.out).mono ?_); (case side1 => repeat (first | exact (Kd.C_below HR2.out HB.out) | (with_reducible refine Kd.C_alloc ?_ _) | (with_reducible refine Kd.C_drewN ?_ _) | (with_reducible refine Kd.C_drew ?_))); (case side2 => exact HC2.out); rintro e w67 ⟨v262, rfl, ho0, hb⟩; refine ⟨_, rfl, ?_⟩; have n0_ := Aside0.mk (Kd.R_below (by (with_reducible repeat (first | apply Kd.R_alloc | apply Kd.R_drewN | apply Kd.R_drew)); exact HO_8.out) hb); have n1_ := Aside0.mk (Kd.R_below (by (with_reducible repeat (first | apply Kd.R_alloc | apply Kd.R_drewN | apply Kd.R_drew)); exact HO_12.out) hb); have n2_ := Aside0.mk (Kd.R_lower ho0 (below_size (by repeat (first | (with_reducible first | exact HB.out | apply below_alloc | apply pw_below_drewN | apply below_drew1 | refine below_set ?_ GE214.out) | exact HB.out)))); have n3_ := Aside0.mk (blk_below (g := gb214) (o := .cells #[.int .u8 a0_0, .int .u8 a0_1, .int .u8 a0_2, .int .u8 a0_3, .int .u8 a0_4, .int .u8 a0_5] 28 (0, 0)) (by (with_reducible repeat (first | refine blk_drewN ?_ _ | refine blk_drew ?_ | refine blk_alloc ?_ _)); exact BK214.out) hb); have n4_ := Aside0.mk (below_step (by repeat (first | (with_reducible first | exact HB.out | apply below_alloc | apply pw_below_drewN | apply below_drew1 | refine below_set ?_ GE214.out) | exact HB.out)) hb); clear HO_8; clear HO_12; clear BK214; clear HB; have HO_8 := n0_; have HO_12 := n1_; have HO263 := n2_; have BK214 := n3_; have HB := n4_; clear n0_ n1_ n2_ n3_ n4_; (try clear hb); (try clear hb2); (try clear hk); (try clear hi); (try clear ho0); obtain ⟨Ao68, co68, eo68⟩ := Kd.R_slice HO263.out; subst eo68) | ((with_reducible refine gate_callee (f := 46) rfl ?_); refine goesL_ (some 104) rfl rfl Try.func46 (by kernel_rfl) rfl #[.agg #[.int .u8 t255, .int .u8 t256, .int .u8 t257, .int .u8 t258, .int .u8 t259, .int .u8 t260], .int .i64 a1, .slice Ao68 t261.length co68] rfl (by (try simp only [List.map_toArray, List.map_cons, List.map_nil]); first | done | rfl | (simp only [List.length_drop, List.length_take]; rfl)) ?_; (with_reducible refine (impl_FewestLoads.calls kj38 t255 t256 t257 t258 t259 t260 a1 _ _ t261 t264 t267 t268 _ ?side1 ?side2 A61.out).mono ?_); (case side1 => repeat (first | exact (Kd.R_reads' HO263.out).2.2 | (with_reducible refine Kd.C_alloc ?_ _) | (with_reducible refine Kd.C_drewN ?_ _) | (with_reducible refine Kd.C_drew ?_))); (case side2 => exact (Kd.R_reads' HO263.out).2.1); rintro e w69 ⟨v265, rfl, ho0, hb⟩; refine ⟨_, rfl, ?_⟩; have n0_ := Aside0.mk (Kd.R_elder' (by (with_reducible repeat (first | apply Kd.R_alloc | apply Kd.R_drewN | apply Kd.R_drew)); exact HO_8.out) (Kd.R_base ho0) hb); have n1_ := Aside0.mk (Kd.R_elder' (by (with_reducible repeat (first | apply Kd.R_alloc | apply Kd.R_drewN | apply Kd.R_drew)); exact HO_12.out) (Kd.R_base ho0) hb); have n2_ := Aside0.mk (Kd.R_below (by (with_reducible repeat (first | apply Kd.R_alloc | apply Kd.R_drewN | apply Kd.R_drew)); exact HO263.out) hb); have n3_ := Aside0.mk (Kd.R_lower (Kd.R_new' (Kd.R_new' ho0 (Kd.R_lt (by (with_reducible repeat (first | apply Kd.R_alloc | apply Kd.R_drewN | apply Kd.R_drew)); exact HO_8.out))) (Kd.R_lt (by (with_reducible repeat (first | apply Kd.R_alloc | apply Kd.R_drewN | apply Kd.R_drew)); exact HO_12.out))) (below_size (by repeat (first | (with_reducible first | exact HB.out | apply below_alloc | apply pw_below_drewN | apply below_drew1 | refine below_set ?_ GE214.out) | exact HB.out)))); have n4_ := Aside0.mk (blk_below (g := gb214) (o := .cells #[.int .u8 a0_0, .int .u8 a0_1, .int .u8 a0_2, .int .u8 a0_3, .int .u8 a0_4, .int .u8 a0_5] 28 (0, 0)) (by (with_reducible repeat (first | refine blk_drewN ?_ _ | refine blk_drew ?_ | refine blk_alloc ?_ _)); exact BK214.out) hb); have n5_ := Aside0.mk (below_step (by repeat (first | (with_reducible first | exact HB.out | apply below_alloc | apply pw_below_drewN | apply below_drew1 | refine below_set ?_ GE214.out) | exact HB.out)) hb); clear HO_8; clear HO_12; clear HO263; clear BK214; clear HB; have HO_8 := n0_; have HO_12 := n1_; have HO263 := n2_; have HO266 := n3_; have BK214 := n4_; have HB := n5_; clear n0_ n1_ n2_ n3_ n4_ n5_; (try clear hb); (try clear hb2); (try clear hk); (try clear hi); (try clear ho0)))
           (try simp only [Act.put, List.setIfInBounds_toArray, List.set_cons_zero, List.set_cons_succ])
           go_cut [121] (fun v121 wc => ∃ (kq : Nat) (x121_61 : Bool), v121 = .bool x121_61 ∧ Aside0 (laws_FnExactFewestLoads.j2 kq t253 t252 x121_61 = some r) ∧ Aside0 (kq ≤ kj38) ∧ Aside0 (Kd.R (Kd.int .i64) 2 wc w.heap.size (fun _ => True) (.slice Ao63 t239.length co63) t253) ∧ Aside0 (wc.heap[gb214]? = some (.cells #[.int .u8 a0_0, .int .u8 a0_1, .int .u8 a0_2, .int .u8 a0_3, .int .u8 a0_4, .int .u8 a0_5] 28 (0, 0))) ∧ Aside0 (Below w.heap.size w wc))
           case first =>
            have H := HC62.out
            clear HC62
            replace H := Option.bind_eq_some_iff.mp H
            obtain ⟨t269, A700, H⟩ := H
            replace H : (if t269 = true then (if t267 = t228 then (laws_FnExactFewestLoads.j2 kj38 t253 t252 (t268 != t229)) else (laws_FnExactFewestLoads.j2 kj38 t253 t252 true)) else (laws_FnExactFewestLoads.j2 kj38 t253 t252 true)) = some r := H
            have A70 := Aside0.mk A700
            clear A700
            by_cases c71 : t269 = true
            ·subst c71
             have H1 : (if t267 = t228 then (laws_FnExactFewestLoads.j2 kj38 t253 t252 (t268 != t229)) else (laws_FnExactFewestLoads.j2 kj38 t253 t252 true)) = some r := by rw [if_pos rfl] at H; exact H
             clear H
             have H := H1
             clear H1
             by_cases c72 : t267 = t228
             ·rw [if_pos c72] at H
              have c72b0 : (t267 == t228) = true := beq_iff_eq.mpr c72
              have c72b1 : (t267 != t228) = false := bne_eq_false_iff_eq.mpr c72
              clear c72
              (first | rw [c72b0] | (simp only [i64_w, i32_w]; rw [c72b0]) | skip)
              have H' := Aside0.mk H
              clear H
              obtain ⟨Ao73, co73, eo73⟩ := Kd.R_slice HO266.out
              subst eo73
              obtain ⟨Ao74, co74, eo74⟩ := Kd.R_slice HO_8.out
              subst eo74
              go_wp2_with (first | ((with_reducible refine gate_callee (f := 35) rfl ?_); refine goesL_ (some 110) rfl rfl Try.func35 (by kernel_rfl) rfl #[.slice Ao73 t264.length co73, .slice Ao74 t225.length co74] rfl (by (try simp only [List.map_toArray, List.map_cons, List.map_nil]); first | done | rfl | (simp only [List.length_drop, List.length_take]; rfl)) ?_; (with_reducible refine (laws_eqInt64S.calls kj38 _ _ t264 _ _ t225 true _ ?side1 ?side2 ?side3 ?side4 A70.out).mono ?_); (case side1 => repeat (first | exact (Kd.R_reads' HO266.out).2.2 | (with_reducible refine Kd.C_alloc ?_ _) | (with_reducible refine Kd.C_drewN ?_ _) | (with_reducible refine Kd.C_drew ?_))); (case side2 => exact (Kd.R_reads' HO266.out).2.1); (case side3 => repeat (first | exact (Kd.R_reads' HO_8.out).2.2 | (with_reducible refine Kd.C_alloc ?_ _) | (with_reducible refine Kd.C_drewN ?_ _) | (with_reducible refine Kd.C_drew ?_))); (case side4 => exact (Kd.R_reads' HO_8.out).2.1); rintro e w' ⟨rfl, ⟨nd, rfl⟩⟩; refine ⟨_, rfl, ?_⟩))
              go_meet
              case rel => exact ⟨_, ((t268 != t229)), (by first | rfl | (simp; done) | (simp [*]; done)), H', ⟨by have := HJ12.out; have := HJ38.out; first | omega | exact Nat.le_refl _⟩, ⟨by (with_reducible repeat (first | apply Kd.R_alloc | apply Kd.R_drewN | apply Kd.R_drew)); exact Kd.R_mono HO_12.out (fun _ hk => trivial)⟩, ⟨by (with_reducible repeat (first | refine blk_drewN ?_ _ | refine blk_drew ?_ | refine blk_alloc ?_ _)); exact BK214.out⟩, ⟨by repeat (first | (with_reducible first | exact HB.out | apply below_alloc | apply pw_below_drewN | apply below_drew1 | refine below_set ?_ GE214.out) | exact HB.out)⟩⟩
             ·rw [if_neg c72] at H
              have c72b0 : (t267 == t228) = false := beq_eq_false_iff_ne.mpr c72
              have c72b1 : (t267 != t228) = true := bne_iff_ne.mpr c72
              (first | rw [c72b0] | (simp only [i64_w, i32_w]; rw [c72b0]) | skip)
              have H' := Aside0.mk H
              clear H
              obtain ⟨Ao75, co75, eo75⟩ := Kd.R_slice HO266.out
              subst eo75
              obtain ⟨Ao76, co76, eo76⟩ := Kd.R_slice HO_8.out
              subst eo76
              go_wp2_with (first | ((with_reducible refine gate_callee (f := 35) rfl ?_); refine goesL_ (some 110) rfl rfl Try.func35 (by kernel_rfl) rfl #[.slice Ao75 t264.length co75, .slice Ao76 t225.length co76] rfl (by (try simp only [List.map_toArray, List.map_cons, List.map_nil]); first | done | rfl | (simp only [List.length_drop, List.length_take]; rfl)) ?_; (with_reducible refine (laws_eqInt64S.calls kj38 _ _ t264 _ _ t225 true _ ?side1 ?side2 ?side3 ?side4 A70.out).mono ?_); (case side1 => repeat (first | exact (Kd.R_reads' HO266.out).2.2 | (with_reducible refine Kd.C_alloc ?_ _) | (with_reducible refine Kd.C_drewN ?_ _) | (with_reducible refine Kd.C_drew ?_))); (case side2 => exact (Kd.R_reads' HO266.out).2.1); (case side3 => repeat (first | exact (Kd.R_reads' HO_8.out).2.2 | (with_reducible refine Kd.C_alloc ?_ _) | (with_reducible refine Kd.C_drewN ?_ _) | (with_reducible refine Kd.C_drew ?_))); (case side4 => exact (Kd.R_reads' HO_8.out).2.1); rintro e w' ⟨rfl, ⟨nd, rfl⟩⟩; refine ⟨_, rfl, ?_⟩))
              go_meet
              case rel => exact ⟨_, (true), (by first | rfl | (simp; done) | (simp [*]; done)), H', ⟨by have := HJ12.out; have := HJ38.out; first | omega | exact Nat.le_refl _⟩, ⟨by (with_reducible repeat (first | apply Kd.R_alloc | apply Kd.R_drewN | apply Kd.R_drew)); exact Kd.R_mono HO_12.out (fun _ hk => trivial)⟩, ⟨by (with_reducible repeat (first | refine blk_drewN ?_ _ | refine blk_drew ?_ | refine blk_alloc ?_ _)); exact BK214.out⟩, ⟨by repeat (first | (with_reducible first | exact HB.out | apply below_alloc | apply pw_below_drewN | apply below_drew1 | refine below_set ?_ GE214.out) | exact HB.out)⟩⟩
            ·replace c71 := Bool.eq_false_iff.mpr c71
             subst c71
             have H1 : (laws_FnExactFewestLoads.j2 kj38 t253 t252 true) = some r := by rw [if_neg (show ¬ (false = true) by decide)] at H; exact H
             clear H
             have H := H1
             clear H1
             have H' := Aside0.mk H
             clear H
             obtain ⟨Ao77, co77, eo77⟩ := Kd.R_slice HO266.out
             subst eo77
             obtain ⟨Ao78, co78, eo78⟩ := Kd.R_slice HO_8.out
             subst eo78
             go_wp2_with (first | ((with_reducible refine gate_callee (f := 35) rfl ?_); refine goesL_ (some 110) rfl rfl Try.func35 (by kernel_rfl) rfl #[.slice Ao77 t264.length co77, .slice Ao78 t225.length co78] rfl (by (try simp only [List.map_toArray, List.map_cons, List.map_nil]); first | done | rfl | (simp only [List.length_drop, List.length_take]; rfl)) ?_; (with_reducible refine (laws_eqInt64S.calls kj38 _ _ t264 _ _ t225 false _ ?side1 ?side2 ?side3 ?side4 A70.out).mono ?_); (case side1 => repeat (first | exact (Kd.R_reads' HO266.out).2.2 | (with_reducible refine Kd.C_alloc ?_ _) | (with_reducible refine Kd.C_drewN ?_ _) | (with_reducible refine Kd.C_drew ?_))); (case side2 => exact (Kd.R_reads' HO266.out).2.1); (case side3 => repeat (first | exact (Kd.R_reads' HO_8.out).2.2 | (with_reducible refine Kd.C_alloc ?_ _) | (with_reducible refine Kd.C_drewN ?_ _) | (with_reducible refine Kd.C_drew ?_))); (case side4 => exact (Kd.R_reads' HO_8.out).2.1); rintro e w' ⟨rfl, ⟨nd, rfl⟩⟩; refine ⟨_, rfl, ?_⟩))
             go_meet
             case rel => exact ⟨_, (true), (by first | rfl | (simp; done) | (simp [*]; done)), H', ⟨by have := HJ12.out; have := HJ38.out; first | omega | exact Nat.le_refl _⟩, ⟨by (with_reducible repeat (first | apply Kd.R_alloc | apply Kd.R_drewN | apply Kd.R_drew)); exact Kd.R_mono HO_12.out (fun _ hk => trivial)⟩, ⟨by (with_reducible repeat (first | refine blk_drewN ?_ _ | refine blk_drew ?_ | refine blk_alloc ?_ _)); exact BK214.out⟩, ⟨by repeat (first | (with_reducible first | exact HB.out | apply below_alloc | apply pw_below_drewN | apply below_drew1 | refine below_set ?_ GE214.out) | exact HB.out)⟩⟩
           case rest =>
            clear HC62
            try clear c1
            try clear c2
            try clear p2
            try clear c3
            try clear c4
            try clear c5
            try clear c5b0
            try clear c7
            try clear c12
            try clear c14
            try clear c16
            try clear c18
            try clear c20
            try clear c26
            try clear c27
            try clear c27b0
            try clear c27b1
            try clear c34
            try clear c35
            try clear c37
            try clear c38
            try clear c39
            try clear c40
            try clear c44
            try clear c44b0
            try clear c45
            try clear c46
            try clear c47
            try clear c47b0
            try clear c47b1
            try clear c54
            try clear c57
            try clear c57b0
            try clear c58
            try clear c58b0
            try clear c58b1
            try clear c71
            try clear c72
            try clear c72b0
            try clear c72b1
            try clear hcz15_0
            try clear hcz15_1
            try clear hcz15_2
            try clear hcz15_3
            try clear hcz15_4
            try clear hcz15_5
            try clear hcz21_0
            try clear hcz21_1
            try clear hcz21_2
            try clear hcz21_3
            try clear hcz21_4
            try clear hcz21_5
            try clear hcz65_0
            try clear hcz65_1
            try clear hcz65_2
            try clear hcz65_3
            try clear hcz65_4
            try clear hcz65_5
            try clear hfz15_0
            try clear hfz15_1
            try clear hfz15_2
            try clear hfz15_3
            try clear hfz15_4
            try clear hfz15_5
            try clear hfz21_0
            try clear hfz21_1
            try clear hfz21_2
            try clear hfz21_3
            try clear hfz21_4
            try clear hfz21_5
            try clear hfz65_0
            try clear hfz65_1
            try clear hfz65_2
            try clear hfz65_3
            try clear hfz65_4
            try clear hfz65_5
            try clear p2
            obtain ⟨kq, x121_61, rfl, HA, HJ61, HO_12, BK214, HB⟩ := hcut
            have hl12_61 := (Kd.R_reads' HO_12.out).1
            rw [hl12_61] at HO_12
            (try simp only [hl12_61])
            (try simp only [hl12_61] at BK214)
            cases kq with
            | zero => exact absurd HA.out (by simp [laws_FnExactFewestLoads.j2])
            | succ kj61 =>
             have H := HA.out
             clear HA
             simp only [laws_FnExactFewestLoads.j2] at H
             by_cases c79 : x121_61 = true
             ·subst c79
              have H1 : (none) = some r := by rw [if_pos rfl] at H; exact H
              clear H
              have H := H1
              clear H1
              exact absurd H (by simp)
             ·replace c79 := Bool.eq_false_iff.mpr c79
              subst c79
              have H1 : ((laws_heldInt64S.f kj61 t253 1).bind fun t270 => (if t270 < 0 then (none) else (if t270 = t252 then (some true) else (none)))) = some r := by rw [if_neg (show ¬ (false = true) by decide)] at H; exact H
              clear H
              have H := H1
              clear H1
              replace H := Option.bind_eq_some_iff.mp H
              obtain ⟨t270, A800, H⟩ := H
              replace H : (if t270 < 0 then (none) else (if t270 = t252 then (some true) else (none))) = some r := H
              have A80 := Aside0.mk A800
              clear A800
              by_cases c81 : t270 < 0
              ·rw [if_pos c81] at H
               exact absurd H (by simp)
              ·rw [if_neg c81] at H
               have c81b0 : decide (t270 < 0) = false := decide_eq_false c81
               clear c81
               by_cases c82 : t270 = t252
               ·rw [if_pos c82] at H
                have c82b0 : (t270 == t252) = true := beq_iff_eq.mpr c82
                have c82b1 : (t270 != t252) = false := bne_eq_false_iff_eq.mpr c82
                clear c82
                obtain rfl := Option.some.inj H
                go_wp2_with (first | ((with_reducible refine gate_callee (f := 40) rfl ?_); refine goesL_ (some 124) rfl rfl Try.func40 (by kernel_rfl) rfl #[.slice Ao63 t253.length co63, .int .i64 1] rfl (by (try simp only [List.map_toArray, List.map_cons, List.map_nil]); first | done | rfl | (simp only [List.length_drop, List.length_take]; rfl)) ?_; (with_reducible refine (laws_heldInt64S.calls kj61 _ _ t253 1 t270 _ ?side1 ?side2 A80.out).mono ?_); (case side1 => repeat (first | exact (Kd.R_reads' HO_12.out).2.2 | (with_reducible refine Kd.C_alloc ?_ _) | (with_reducible refine Kd.C_drewN ?_ _) | (with_reducible refine Kd.C_drew ?_))); (case side2 => exact (Kd.R_reads' HO_12.out).2.1); rintro e w' ⟨rfl, ⟨nd, rfl⟩⟩; refine ⟨_, rfl, ?_⟩))
                go_ret
                exact ⟨by first | rfl | (simp [errW_none, errW_some] <;> rfl) | (simp [*, errW_none, errW_some] <;> rfl), by repeat (first | (with_reducible first | exact HB.out | apply below_alloc | apply pw_below_drewN | apply below_drew1 | refine below_set ?_ GE214.out) | exact HB.out)⟩
               ·rw [if_neg c82] at H
                exact absurd H (by simp)
          ·rw [if_neg c58] at H
           exact absurd H (by simp)
     ·replace c37 := Bool.eq_false_iff.mpr c37
      subst c37
      have H1 : (none) = some r := by rw [if_neg (show ¬ (false = true) by decide)] at H; exact H
      clear H
      have H := H1
      clear H1
      exact absurd H (by simp)

end Go.Proofs.Ythodfhcaaidnmaa.Fe
