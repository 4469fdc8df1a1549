/- Functions of the program as Lean functions; of each a proof that the machine's call does what its Lean function says. -/
import Derived.Test.YtlkpgpnieodifaaFl0
import Derived.Test.YtlkpgpnieodifaaFl3
import Derived.Test.YtlkpgpnieodifaaFl6
import Derived.Test.YtlkpgpnieodifaaFl7
namespace Go.Proofs.Ytlkpgpnieodifaa.Fl
open Go.RowKit Go.Proofs.YtlkpgpnieodifaaW.PrintWords Go.Proofs.YtlkpgpnieodifaaW.PrintLast Go.Proofs.YtlkpgpnieodifaaW.PrintMore
attribute [local go_sem] max2_int min2_int max_two min_two max_three min_three max_four min_four   -- for this text's walks alone
set_option linter.unusedVariables false
set_option linter.unusedSimpArgs false

/-! ### laws_FnExactFewestLines: function 17 -/
mutual
def laws_FnExactFewestLines.j0 : Nat → List (S43) → Int → List Int → Int → Int → List (S38) → List Int → Int → Int → Bool → Int → Int → Option (Bool)
 | 0, _, _, _, _, _, _, _, _, _, _, _, _ => none
 | k + 1, x1, x2, x8, x9, x10, x11, x12, x13, x14, x60, x245000, x245001 => if x60 = true then (none) else ((laws_toClothS.f k x1).bind fun t267 => ((laws_eqClothS.f k x11 t267).bind fun t270 => (if t270 = true then ((laws_markClothS.f k x11 1).bind fun bt271 => (if bt271.1 < 0 then (laws_FnExactFewestLines.j1 k x1 x2 x8 x9 x10 x12 true x245000 x245001) else ((laws_eqInt64S.f k x12 x8).bind fun t273 => (if t273 = true then (if x13 = x9 then (laws_FnExactFewestLines.j1 k x1 x2 x8 x9 x10 x12 (x14 != x10) x245000 x245001) else (laws_FnExactFewestLines.j1 k x1 x2 x8 x9 x10 x12 true x245000 x245001)) else (laws_FnExactFewestLines.j1 k x1 x2 x8 x9 x10 x12 true x245000 x245001))))) else (none))))
def laws_FnExactFewestLines.j1 : Nat → List (S43) → Int → List Int → Int → Int → List Int → Bool → Int → Int → Option (Bool)
 | 0, _, _, _, _, _, _, _, _, _ => none
 | k + 1, x1, x2, x8, x9, x10, x12, x86, x245000, x245001 => if x86 = true then (none) else ((laws_markInt64S.f k x12 1).bind fun bt274 => ((laws_heldInt64S.f k bt274.2 1).bind fun t276 => (if t276 < 0 then (none) else (if t276 = bt274.1 then ((laws_toLine.f x245000 x245001).bind fun bt277 => ((laws_toClothS.f k x1).bind fun t279 => ((impl_FewestLines.f k bt277.1 bt277.2 t279 x2).bind fun bt282 => ((laws_eqInt64S.f k bt282.1 x8).bind fun t287 => (if t287 = true then (if bt282.2.1 = x9 then (laws_FnExactFewestLines.j2 k bt274.2 bt274.1 (bt282.2.2 != x10)) else (laws_FnExactFewestLines.j2 k bt274.2 bt274.1 true)) else (laws_FnExactFewestLines.j2 k bt274.2 bt274.1 true)))))) else (none)))))
def laws_FnExactFewestLines.j2 : Nat → List Int → Int → Bool → Option (Bool)
 | 0, _, _, _ => none
 | k + 1, x12, x16, x121 => if x121 = true then (none) else ((laws_heldInt64S.f k x12 1).bind fun t288 => (if t288 < 0 then (none) else (if t288 = x16 then (some true) else (none))))
end
def laws_FnExactFewestLines.f (k : Nat) (a0_0 : Int) (a0_1 : Int) (l1 : List (S43)) (a2 : Int) : Option (Bool) := (laws_szClothS.f l1 1048576).bind fun t245 => (if t245 < 0 then (some true) else ((laws_toLine.f a0_0 a0_1).bind fun bt246 => ((laws_toClothS.f k l1).bind fun t248 => ((spec_FewestLines.f k bt246.1 bt246.2 t248 a2).bind fun bt251 => ((laws_toClothS.f k l1).bind fun t256 => ((laws_toLine.f a0_0 a0_1).bind fun bt259 => ((impl_FewestLines.f k bt259.1 bt259.2 t256 a2).bind fun bt261 => ((laws_eqInt64S.f k bt261.1 bt251.1).bind fun t266 => (if t266 = true then (if bt261.2.1 = bt251.2.1 then (laws_FnExactFewestLines.j0 k l1 a2 bt251.1 bt251.2.1 bt251.2.2 t256 bt261.1 bt261.2.1 bt261.2.2 (bt261.2.2 != bt251.2.2) a0_0 a0_1) else (laws_FnExactFewestLines.j0 k l1 a2 bt251.1 bt251.2.1 bt251.2.2 t256 bt261.1 bt261.2.1 bt261.2.2 true a0_0 a0_1)) else (laws_FnExactFewestLines.j0 k l1 a2 bt251.1 bt251.2.1 bt251.2.2 t256 bt261.1 bt261.2.1 bt261.2.2 true a0_0 a0_1))))))))))
theorem laws_FnExactFewestLines.mono_l : ∀ k, (∀ y0 y1 y2 y3 y4 y5 y6 y7 y8 y9 y10 y11, LeO (laws_FnExactFewestLines.j0 k y0 y1 y2 y3 y4 y5 y6 y7 y8 y9 y10 y11) (laws_FnExactFewestLines.j0 (k + 1) y0 y1 y2 y3 y4 y5 y6 y7 y8 y9 y10 y11)) ∧ (∀ y0 y1 y2 y3 y4 y5 y6 y7 y8, LeO (laws_FnExactFewestLines.j1 k y0 y1 y2 y3 y4 y5 y6 y7 y8) (laws_FnExactFewestLines.j1 (k + 1) y0 y1 y2 y3 y4 y5 y6 y7 y8)) ∧ (∀ y0 y1 y2, LeO (laws_FnExactFewestLines.j2 k y0 y1 y2) (laws_FnExactFewestLines.j2 (k + 1) y0 y1 y2))
 | 0 => ⟨fun _ _ _ _ _ _ _ _ _ _ _ _ r h => by simp [laws_FnExactFewestLines.j0] at h, fun _ _ _ _ _ _ _ _ _ r h => by simp [laws_FnExactFewestLines.j1] at h, fun _ _ _ r h => by simp [laws_FnExactFewestLines.j2] at h⟩
 | k + 1 => by
  obtain ⟨ih0, ih1, ih2⟩ := laws_FnExactFewestLines.mono_l k
  refine ⟨?_, ?_, ?_⟩
  ·intro y0 y1 y2 y3 y4 y5 y6 y7 y8 y9 y10 y11
   unfold laws_FnExactFewestLines.j0
   repeat' first
   | (with_reducible exact ih0 _ _ _ _ _ _ _ _ _ _ _ _)
   | (with_reducible exact ih1 _ _ _ _ _ _ _ _ _)
   | (with_reducible exact ih2 _ _ _)
   | (with_reducible exact impl_FewestLines.mono _ _ _ _ _)
   | (with_reducible exact laws_eqClothS.mono _ _ _)
   | (with_reducible exact laws_eqInt64S.mono _ _ _)
   | (with_reducible exact laws_heldInt64S.mono _ _ _)
   | (with_reducible exact laws_markClothS.mono _ _ _)
   | (with_reducible exact laws_markInt64S.mono _ _ _)
   | (with_reducible exact laws_toClothS.mono _ _)
   | (with_reducible exact spec_FewestLines.mono _ _ _ _ _)
   | (with_reducible exact LeO.refl _)
   | (with_reducible exact LeO.none _)
   | (with_reducible refine LeO.ite ?_ ?_)
   | (with_reducible refine LeO.bind ?_ (fun _ => ?_))
   | exact ih0 _ _ _ _ _ _ _ _ _ _ _ _
   | exact ih1 _ _ _ _ _ _ _ _ _
   | exact ih2 _ _ _
   | exact impl_FewestLines.mono _ _ _ _ _
   | exact laws_eqClothS.mono _ _ _
   | exact laws_eqInt64S.mono _ _ _
   | exact laws_heldInt64S.mono _ _ _
   | exact laws_markClothS.mono _ _ _
   | exact laws_markInt64S.mono _ _ _
   | exact laws_toClothS.mono _ _
   | exact spec_FewestLines.mono _ _ _ _ _
   | exact LeO.none _
   | refine LeO.ite ?_ ?_
   | refine LeO.bind ?_ (fun _ => ?_)
  ·intro y0 y1 y2 y3 y4 y5 y6 y7 y8
   unfold laws_FnExactFewestLines.j1
   repeat' first
   | (with_reducible exact ih0 _ _ _ _ _ _ _ _ _ _ _ _)
   | (with_reducible exact ih1 _ _ _ _ _ _ _ _ _)
   | (with_reducible exact ih2 _ _ _)
   | (with_reducible exact impl_FewestLines.mono _ _ _ _ _)
   | (with_reducible exact laws_eqClothS.mono _ _ _)
   | (with_reducible exact laws_eqInt64S.mono _ _ _)
   | (with_reducible exact laws_heldInt64S.mono _ _ _)
   | (with_reducible exact laws_markClothS.mono _ _ _)
   | (with_reducible exact laws_markInt64S.mono _ _ _)
   | (with_reducible exact laws_toClothS.mono _ _)
   | (with_reducible exact spec_FewestLines.mono _ _ _ _ _)
   | (with_reducible exact LeO.refl _)
   | (with_reducible exact LeO.none _)
   | (with_reducible refine LeO.ite ?_ ?_)
   | (with_reducible refine LeO.bind ?_ (fun _ => ?_))
   | exact ih0 _ _ _ _ _ _ _ _ _ _ _ _
   | exact ih1 _ _ _ _ _ _ _ _ _
   | exact ih2 _ _ _
   | exact impl_FewestLines.mono _ _ _ _ _
   | exact laws_eqClothS.mono _ _ _
   | exact laws_eqInt64S.mono _ _ _
   | exact laws_heldInt64S.mono _ _ _
   | exact laws_markClothS.mono _ _ _
   | exact laws_markInt64S.mono _ _ _
   | exact laws_toClothS.mono _ _
   | exact spec_FewestLines.mono _ _ _ _ _
   | exact LeO.none _
   | refine LeO.ite ?_ ?_
   | refine LeO.bind ?_ (fun _ => ?_)
  ·intro y0 y1 y2
   unfold laws_FnExactFewestLines.j2
   repeat' first
   | (with_reducible exact ih0 _ _ _ _ _ _ _ _ _ _ _ _)
   | (with_reducible exact ih1 _ _ _ _ _ _ _ _ _)
   | (with_reducible exact ih2 _ _ _)
   | (with_reducible exact impl_FewestLines.mono _ _ _ _ _)
   | (with_reducible exact laws_eqClothS.mono _ _ _)
   | (with_reducible exact laws_eqInt64S.mono _ _ _)
   | (with_reducible exact laws_heldInt64S.mono _ _ _)
   | (with_reducible exact laws_markClothS.mono _ _ _)
   | (with_reducible exact laws_markInt64S.mono _ _ _)
   | (with_reducible exact laws_toClothS.mono _ _)
   | (with_reducible exact spec_FewestLines.mono _ _ _ _ _)
   | (with_reducible exact LeO.refl _)
   | (with_reducible exact LeO.none _)
   | (with_reducible refine LeO.ite ?_ ?_)
   | (with_reducible refine LeO.bind ?_ (fun _ => ?_))
   | exact ih0 _ _ _ _ _ _ _ _ _ _ _ _
   | exact ih1 _ _ _ _ _ _ _ _ _
   | exact ih2 _ _ _
   | exact impl_FewestLines.mono _ _ _ _ _
   | exact laws_eqClothS.mono _ _ _
   | exact laws_eqInt64S.mono _ _ _
   | exact laws_heldInt64S.mono _ _ _
   | exact laws_markClothS.mono _ _ _
   | exact laws_markInt64S.mono _ _ _
   | exact laws_toClothS.mono _ _
   | exact spec_FewestLines.mono _ _ _ _ _
   | exact LeO.none _
   | refine LeO.ite ?_ ?_
   | refine LeO.bind ?_ (fun _ => ?_)
theorem laws_FnExactFewestLines.mono : ∀ a0 a1 a2 a3 k, LeO (laws_FnExactFewestLines.f k a0 a1 a2 a3) (laws_FnExactFewestLines.f (k + 1) a0 a1 a2 a3) := by
 intro a0 a1 a2 a3 k
 obtain ⟨ih0, ih1, ih2⟩ := laws_FnExactFewestLines.mono_l k
 unfold laws_FnExactFewestLines.f
 repeat' first
   | (with_reducible exact ih0 _ _ _ _ _ _ _ _ _ _ _ _)
   | (with_reducible exact ih1 _ _ _ _ _ _ _ _ _)
   | (with_reducible exact ih2 _ _ _)
   | (with_reducible exact impl_FewestLines.mono _ _ _ _ _)
   | (with_reducible exact laws_eqClothS.mono _ _ _)
   | (with_reducible exact laws_eqInt64S.mono _ _ _)
   | (with_reducible exact laws_heldInt64S.mono _ _ _)
   | (with_reducible exact laws_markClothS.mono _ _ _)
   | (with_reducible exact laws_markInt64S.mono _ _ _)
   | (with_reducible exact laws_toClothS.mono _ _)
   | (with_reducible exact spec_FewestLines.mono _ _ _ _ _)
   | (with_reducible exact LeO.refl _)
   | (with_reducible exact LeO.none _)
   | (with_reducible refine LeO.ite ?_ ?_)
   | (with_reducible refine LeO.bind ?_ (fun _ => ?_))
   | exact ih0 _ _ _ _ _ _ _ _ _ _ _ _
   | exact ih1 _ _ _ _ _ _ _ _ _
   | exact ih2 _ _ _
   | exact impl_FewestLines.mono _ _ _ _ _
   | exact laws_eqClothS.mono _ _ _
   | exact laws_eqInt64S.mono _ _ _
   | exact laws_heldInt64S.mono _ _ _
   | exact laws_markClothS.mono _ _ _
   | exact laws_markInt64S.mono _ _ _
   | exact laws_toClothS.mono _ _
   | exact spec_FewestLines.mono _ _ _ _ _
   | exact LeO.none _
   | refine LeO.ite ?_ ?_
   | refine LeO.bind ?_ (fun _ => ?_)
set_option maxHeartbeats 8000000 in
set_option maxRecDepth 100000 in
theorem laws_FnExactFewestLines.calls (k : Nat) (a0_0 : Int) (a0_1 : Int) (A1 : Option Addr) (c1 : Nat) (l1 : List (S43)) (a2 : Int) (r : Bool) (w : World) (hr1 : Kd.C k43 w A1 l1.length l1) (hc1 : l1.length ≤ c1) (h : laws_FnExactFewestLines.f k a0_0 a0_1 l1 a2 = some r) :
  Calls Try.prog 17 #[.agg #[.int .i16 a0_0, .int .i16 a0_1], .slice A1 l1.length c1, .int .i64 a2] w fun e w' => e = .returned (.bool r) ∧ Below w.heap.size w w' := by
 have hu59 := Try.underlying59
 have HR1 := Aside0.mk hr1
 have HC1 := Aside0.mk hc1
 clear hr1 hc1
 have HB := Aside0.mk (Below.refl w.heap.size w)
 have H : ((laws_szClothS.f l1 1048576).bind fun t245 => (if t245 < 0 then (some true) else ((laws_toLine.f a0_0 a0_1).bind fun bt246 => ((laws_toClothS.f k l1).bind fun t248 => ((spec_FewestLines.f k bt246.1 bt246.2 t248 a2).bind fun bt251 => ((laws_toClothS.f k l1).bind fun t256 => ((laws_toLine.f a0_0 a0_1).bind fun bt259 => ((impl_FewestLines.f k bt259.1 bt259.2 t256 a2).bind fun bt261 => ((laws_eqInt64S.f k bt261.1 bt251.1).bind fun t266 => (if t266 = true then (if bt261.2.1 = bt251.2.1 then (laws_FnExactFewestLines.j0 k l1 a2 bt251.1 bt251.2.1 bt251.2.2 t256 bt261.1 bt261.2.1 bt261.2.2 (bt261.2.2 != bt251.2.2) a0_0 a0_1) else (laws_FnExactFewestLines.j0 k l1 a2 bt251.1 bt251.2.1 bt251.2.2 t256 bt261.1 bt261.2.1 bt261.2.2 true a0_0 a0_1)) else (laws_FnExactFewestLines.j0 k l1 a2 bt251.1 bt251.2.1 bt251.2.2 t256 bt261.1 bt261.2.1 bt261.2.2 true a0_0 a0_1))))))))))) = some r := h
 clear h
 replace H := Option.bind_eq_some_iff.mp H
 obtain ⟨t245, A40, H⟩ := H
 replace H : (if t245 < 0 then (some true) else ((laws_toLine.f a0_0 a0_1).bind fun bt246 => ((laws_toClothS.f k l1).bind fun t248 => ((spec_FewestLines.f k bt246.1 bt246.2 t248 a2).bind fun bt251 => ((laws_toClothS.f k l1).bind fun t256 => ((laws_toLine.f a0_0 a0_1).bind fun bt259 => ((impl_FewestLines.f k bt259.1 bt259.2 t256 a2).bind fun bt261 => ((laws_eqInt64S.f k bt261.1 bt251.1).bind fun t266 => (if t266 = true then (if bt261.2.1 = bt251.2.1 then (laws_FnExactFewestLines.j0 k l1 a2 bt251.1 bt251.2.1 bt251.2.2 t256 bt261.1 bt261.2.1 bt261.2.2 (bt261.2.2 != bt251.2.2) a0_0 a0_1) else (laws_FnExactFewestLines.j0 k l1 a2 bt251.1 bt251.2.1 bt251.2.2 t256 bt261.1 bt261.2.1 bt261.2.2 true a0_0 a0_1)) else (laws_FnExactFewestLines.j0 k l1 a2 bt251.1 bt251.2.1 bt251.2.2 t256 bt261.1 bt261.2.1 bt261.2.2 true a0_0 a0_1)))))))))) = some r := H
 have A4 := Aside0.mk A40
 clear A40
 by_cases c5 : t245 < 0
 ·rw [if_pos c5] at H
  have c5b0 : decide (t245 < 0) = true := decide_eq_true c5
  clear c5
  obtain rfl := Option.some.inj H
  go_enter Try.func17, Try.ntmps17
  go_wp2_with (first | ((with_reducible refine gate_dst (N := 3) rfl ?_); refine box_event ?hg (N := 3) ?hd (cs := #[.int .i16 a0_0, .int .i16 a0_1]) (t := 59) ?hr ?_; (case hd => rfl); (case hg => rfl); (case hr => first | (go_simp; done) | (go_simp; rfl)); intro gb244 hg w6 hbox hb; have n0_ := Aside0.mk (below_step (by repeat (first | (with_reducible first | exact HB.out | apply below_alloc | apply pw_below_drewN | apply below_drew1) | exact HB.out)) hb); have n1_ := Aside0.mk (hbox); have n2_ := Aside0.mk ((by rw [hg]; exact (below_size (by repeat (first | (with_reducible first | exact HB.out | apply below_alloc | apply pw_below_drewN | apply below_drew1) | exact HB.out))) : w.heap.size ≤ gb244)); have n3_ := Aside0.mk ((by rw [hg]; exact (below_size (by repeat (first | (with_reducible first | exact HB.out | apply below_alloc | apply pw_below_drewN | apply below_drew1) | exact HB.out))) : w.heap.size ≤ gb244)); clear HB; have HB := n0_; have BK244 := n1_; have GW244 := n2_; have GE244 := n3_; clear n0_ n1_ n2_ n3_; clear hb hbox hg) | ((with_reducible refine gate_callee (f := 35) rfl ?_); refine goesL_ (some 23) rfl rfl Try.func35 (by kernel_rfl) rfl #[.slice A1 l1.length c1, .int .i64 1048576] rfl (by (try simp only [List.map_toArray, List.map_cons, List.map_nil]); first | done | rfl | (simp only [List.length_drop, List.length_take]; rfl)) ?_; (with_reducible refine (laws_szClothS.calls _ _ l1 1048576 t245 _ ?side1 ?side2 A4.out).mono ?_); (case side1 => repeat (first | exact (Kd.C_below HR1.out HB.out) | (with_reducible refine Kd.C_alloc ?_ _) | (with_reducible refine Kd.C_drewN ?_ _) | (with_reducible refine Kd.C_drew ?_))); (case side2 => exact HC1.out); rintro e w' ⟨rfl, ⟨nd, rfl⟩⟩; refine ⟨_, rfl, ?_⟩))
  go_ret
  exact ⟨by first | rfl | (simp [errW_none, errW_some] <;> rfl) | (simp [*, errW_none, errW_some] <;> rfl), by repeat (first | (with_reducible first | exact HB.out | apply below_alloc | apply pw_below_drewN | apply below_drew1 | refine below_set ?_ GE244.out) | exact HB.out)⟩
 ·rw [if_neg c5] at H
  have c5b0 : decide (t245 < 0) = false := decide_eq_false c5
  clear c5
  replace H := Option.bind_eq_some_iff.mp H
  obtain ⟨⟨t246, t247⟩, A70, H⟩ := H
  replace H : ((laws_toClothS.f k l1).bind fun t248 => ((spec_FewestLines.f k t246 t247 t248 a2).bind fun bt251 => ((laws_toClothS.f k l1).bind fun t256 => ((laws_toLine.f a0_0 a0_1).bind fun bt259 => ((impl_FewestLines.f k bt259.1 bt259.2 t256 a2).bind fun bt261 => ((laws_eqInt64S.f k bt261.1 bt251.1).bind fun t266 => (if t266 = true then (if bt261.2.1 = bt251.2.1 then (laws_FnExactFewestLines.j0 k l1 a2 bt251.1 bt251.2.1 bt251.2.2 t256 bt261.1 bt261.2.1 bt261.2.2 (bt261.2.2 != bt251.2.2) a0_0 a0_1) else (laws_FnExactFewestLines.j0 k l1 a2 bt251.1 bt251.2.1 bt251.2.2 t256 bt261.1 bt261.2.1 bt261.2.2 true a0_0 a0_1)) else (laws_FnExactFewestLines.j0 k l1 a2 bt251.1 bt251.2.1 bt251.2.2 t256 bt261.1 bt261.2.1 bt261.2.2 true a0_0 a0_1)))))))) = some r := H
  have A7 := Aside0.mk A70
  clear A70
  replace H := Option.bind_eq_some_iff.mp H
  obtain ⟨t248, A80, H⟩ := H
  replace H : ((spec_FewestLines.f k t246 t247 t248 a2).bind fun bt251 => ((laws_toClothS.f k l1).bind fun t256 => ((laws_toLine.f a0_0 a0_1).bind fun bt259 => ((impl_FewestLines.f k bt259.1 bt259.2 t256 a2).bind fun bt261 => ((laws_eqInt64S.f k bt261.1 bt251.1).bind fun t266 => (if t266 = true then (if bt261.2.1 = bt251.2.1 then (laws_FnExactFewestLines.j0 k l1 a2 bt251.1 bt251.2.1 bt251.2.2 t256 bt261.1 bt261.2.1 bt261.2.2 (bt261.2.2 != bt251.2.2) a0_0 a0_1) else (laws_FnExactFewestLines.j0 k l1 a2 bt251.1 bt251.2.1 bt251.2.2 t256 bt261.1 bt261.2.1 bt261.2.2 true a0_0 a0_1)) else (laws_FnExactFewestLines.j0 k l1 a2 bt251.1 bt251.2.1 bt251.2.2 t256 bt261.1 bt261.2.1 bt261.2.2 true a0_0 a0_1))))))) = some r := H
  have A8 := Aside0.mk A80
  clear A80
  replace H := Option.bind_eq_some_iff.mp H
  obtain ⟨⟨t251, t254, t255⟩, A90, H⟩ := H
  replace H : ((laws_toClothS.f k l1).bind fun t256 => ((laws_toLine.f a0_0 a0_1).bind fun bt259 => ((impl_FewestLines.f k bt259.1 bt259.2 t256 a2).bind fun bt261 => ((laws_eqInt64S.f k bt261.1 t251).bind fun t266 => (if t266 = true then (if bt261.2.1 = t254 then (laws_FnExactFewestLines.j0 k l1 a2 t251 t254 t255 t256 bt261.1 bt261.2.1 bt261.2.2 (bt261.2.2 != t255) a0_0 a0_1) else (laws_FnExactFewestLines.j0 k l1 a2 t251 t254 t255 t256 bt261.1 bt261.2.1 bt261.2.2 true a0_0 a0_1)) else (laws_FnExactFewestLines.j0 k l1 a2 t251 t254 t255 t256 bt261.1 bt261.2.1 bt261.2.2 true a0_0 a0_1)))))) = some r := H
  have A9 := Aside0.mk A90
  clear A90
  replace H := Option.bind_eq_some_iff.mp H
  obtain ⟨t256, A100, H⟩ := H
  replace H : ((laws_toLine.f a0_0 a0_1).bind fun bt259 => ((impl_FewestLines.f k bt259.1 bt259.2 t256 a2).bind fun bt261 => ((laws_eqInt64S.f k bt261.1 t251).bind fun t266 => (if t266 = true then (if bt261.2.1 = t254 then (laws_FnExactFewestLines.j0 k l1 a2 t251 t254 t255 t256 bt261.1 bt261.2.1 bt261.2.2 (bt261.2.2 != t255) a0_0 a0_1) else (laws_FnExactFewestLines.j0 k l1 a2 t251 t254 t255 t256 bt261.1 bt261.2.1 bt261.2.2 true a0_0 a0_1)) else (laws_FnExactFewestLines.j0 k l1 a2 t251 t254 t255 t256 bt261.1 bt261.2.1 bt261.2.2 true a0_0 a0_1))))) = some r := H
  have A10 := Aside0.mk A100
  clear A100
  replace H := Option.bind_eq_some_iff.mp H
  obtain ⟨⟨t259, t260⟩, A110, H⟩ := H
  replace H : ((impl_FewestLines.f k t259 t260 t256 a2).bind fun bt261 => ((laws_eqInt64S.f k bt261.1 t251).bind fun t266 => (if t266 = true then (if bt261.2.1 = t254 then (laws_FnExactFewestLines.j0 k l1 a2 t251 t254 t255 t256 bt261.1 bt261.2.1 bt261.2.2 (bt261.2.2 != t255) a0_0 a0_1) else (laws_FnExactFewestLines.j0 k l1 a2 t251 t254 t255 t256 bt261.1 bt261.2.1 bt261.2.2 true a0_0 a0_1)) else (laws_FnExactFewestLines.j0 k l1 a2 t251 t254 t255 t256 bt261.1 bt261.2.1 bt261.2.2 true a0_0 a0_1)))) = some r := H
  have A11 := Aside0.mk A110
  clear A110
  replace H := Option.bind_eq_some_iff.mp H
  obtain ⟨⟨t261, t264, t265⟩, A120, H⟩ := H
  replace H : ((laws_eqInt64S.f k t261 t251).bind fun t266 => (if t266 = true then (if t264 = t254 then (laws_FnExactFewestLines.j0 k l1 a2 t251 t254 t255 t256 t261 t264 t265 (t265 != t255) a0_0 a0_1) else (laws_FnExactFewestLines.j0 k l1 a2 t251 t254 t255 t256 t261 t264 t265 true a0_0 a0_1)) else (laws_FnExactFewestLines.j0 k l1 a2 t251 t254 t255 t256 t261 t264 t265 true a0_0 a0_1))) = some r := H
  have A12 := Aside0.mk A120
  clear A120
  have HC13 := Aside0.mk H
  clear H
  go_enter Try.func17, Try.ntmps17
  go_upto_region 8 with (first | ((with_reducible refine gate_dst (N := 3) rfl ?_); refine box_event ?hg (N := 3) ?hd (cs := #[.int .i16 a0_0, .int .i16 a0_1]) (t := 59) ?hr ?_; (case hd => rfl); (case hg => rfl); (case hr => first | (go_simp; done) | (go_simp; rfl)); intro gb244 hg w14 hbox hb; have n0_ := Aside0.mk (below_step (by repeat (first | (with_reducible first | exact HB.out | apply below_alloc | apply pw_below_drewN | apply below_drew1) | exact HB.out)) hb); have n1_ := Aside0.mk (hbox); have n2_ := Aside0.mk ((by rw [hg]; exact (below_size (by repeat (first | (with_reducible first | exact HB.out | apply below_alloc | apply pw_below_drewN | apply below_drew1) | exact HB.out))) : w.heap.size ≤ gb244)); have n3_ := Aside0.mk ((by rw [hg]; exact (below_size (by repeat (first | (with_reducible first | exact HB.out | apply below_alloc | apply pw_below_drewN | apply below_drew1) | exact HB.out))) : w.heap.size ≤ gb244)); clear HB; have HB := n0_; have BK244 := n1_; have GW244 := n2_; have GE244 := n3_; clear n0_ n1_ n2_ n3_; clear hb hbox hg) | ((with_reducible refine gate_callee (f := 35) rfl ?_); refine goesL_ (some 23) rfl rfl Try.func35 (by kernel_rfl) rfl #[.slice A1 l1.length c1, .int .i64 1048576] rfl (by (try simp only [List.map_toArray, List.map_cons, List.map_nil]); first | done | rfl | (simp only [List.length_drop, List.length_take]; rfl)) ?_; (with_reducible refine (laws_szClothS.calls _ _ l1 1048576 t245 _ ?side1 ?side2 A4.out).mono ?_); (case side1 => repeat (first | exact (Kd.C_below HR1.out HB.out) | (with_reducible refine Kd.C_alloc ?_ _) | (with_reducible refine Kd.C_drewN ?_ _) | (with_reducible refine Kd.C_drew ?_))); (case side2 => exact HC1.out); rintro e w' ⟨rfl, ⟨nd, rfl⟩⟩; refine ⟨_, rfl, ?_⟩; have hcz15_0 : w14.cell? ⟨gb244, 0, none⟩ = some (.int .i16 a0_0) := (blk_cell BK244.out 0).trans rfl; have hcz15_1 : w14.cell? ⟨gb244, 1, none⟩ = some (.int .i16 a0_1) := (blk_cell BK244.out 1).trans rfl; have hfz15_0 := blk_frozen BK244.out 0; have hfz15_1 := blk_frozen BK244.out 1) | ((with_reducible refine gate_callee (f := 56) rfl ?_); refine goesL_ (some 28) rfl rfl Try.func56 (by kernel_rfl) rfl #[.agg #[.int .i16 a0_0, .int .i16 a0_1]] rfl (by (try simp only [List.map_toArray, List.map_cons, List.map_nil]); first | done | rfl | (simp only [List.length_drop, List.length_take]; rfl)) ?_; (with_reducible refine (laws_toLine.calls a0_0 a0_1 t246 t247 _ A7.out).mono ?_); rintro e w16 ⟨rfl, hb⟩; refine ⟨_, rfl, ?_⟩; have n0_ := Aside0.mk (blk_below (g := gb244) (o := .cells #[.int .i16 a0_0, .int .i16 a0_1] 59 (0, 0)) (by (with_reducible repeat (first | refine blk_drewN ?_ _ | refine blk_drew ?_ | refine blk_alloc ?_ _)); exact BK244.out) hb); have n1_ := Aside0.mk (below_step (by repeat (first | (with_reducible first | exact HB.out | apply below_alloc | apply pw_below_drewN | apply below_drew1 | refine below_set ?_ GE244.out) | exact HB.out)) hb); clear BK244; clear HB; have BK244 := n0_; have HB := n1_; clear n0_ n1_; (try clear hb); (try clear hb2); (try clear hk); (try clear hi)) | ((with_reducible refine gate_callee (f := 37) rfl ?_); refine goesL_ (some 30) rfl rfl Try.func37 (by kernel_rfl) rfl #[.slice A1 l1.length c1] rfl (by (try simp only [List.map_toArray, List.map_cons, List.map_nil]); first | done | rfl | (simp only [List.length_drop, List.length_take]; rfl)) ?_; (with_reducible refine (laws_toClothS.calls k _ _ l1 t248 _ ?side1 ?side2 A8.out).mono ?_); (case side1 => repeat (first | exact (Kd.C_below HR1.out HB.out) | (with_reducible refine Kd.C_alloc ?_ _) | (with_reducible refine Kd.C_drewN ?_ _) | (with_reducible refine Kd.C_drew ?_))); (case side2 => exact HC1.out); rintro e w17 ⟨v249, rfl, ho0, hb⟩; refine ⟨_, rfl, ?_⟩; have n0_ := Aside0.mk (Kd.R_lower ho0 (below_size (by repeat (first | (with_reducible first | exact HB.out | apply below_alloc | apply pw_below_drewN | apply below_drew1 | refine below_set ?_ GE244.out) | exact HB.out)))); have n1_ := Aside0.mk (blk_below (g := gb244) (o := .cells #[.int .i16 a0_0, .int .i16 a0_1] 59 (0, 0)) (by (with_reducible repeat (first | refine blk_drewN ?_ _ | refine blk_drew ?_ | refine blk_alloc ?_ _)); exact BK244.out) hb); have n2_ := Aside0.mk (below_step (by repeat (first | (with_reducible first | exact HB.out | apply below_alloc | apply pw_below_drewN | apply below_drew1 | refine below_set ?_ GE244.out) | exact HB.out)) hb); clear BK244; clear HB; have HO250 := n0_; have BK244 := n1_; have HB := n2_; clear n0_ n1_ n2_; (try clear hb); (try clear hb2); (try clear hk); (try clear hi); (try clear ho0); obtain ⟨Ao18, co18, eo18⟩ := Kd.R_slice HO250.out; subst eo18) | ((with_reducible refine gate_callee (f := 26) rfl ?_); refine goesL_ (some 32) rfl rfl Try.func26 (by kernel_rfl) rfl #[.agg #[.int .i16 t246, .int .i16 t247], .slice Ao18 t248.length co18, .int .i64 a2] rfl (by (try simp only [List.map_toArray, List.map_cons, List.map_nil]); first | done | rfl | (simp only [List.length_drop, List.length_take]; rfl)) ?_; (with_reducible refine (spec_FewestLines.calls k t246 t247 _ _ t248 a2 t251 t254 t255 _ ?side1 ?side2 A9.out).mono ?_); (case side1 => repeat (first | exact (Kd.R_reads' HO250.out).2.2 | (with_reducible refine Kd.C_alloc ?_ _) | (with_reducible refine Kd.C_drewN ?_ _) | (with_reducible refine Kd.C_drew ?_))); (case side2 => exact (Kd.R_reads' HO250.out).2.1); rintro e w19 ⟨v252, rfl, ho0, hb⟩; refine ⟨_, rfl, ?_⟩; have n0_ := Aside0.mk (Kd.R_below (by (with_reducible repeat (first | apply Kd.R_alloc | apply Kd.R_drewN | apply Kd.R_drew)); exact HO250.out) hb); have n1_ := Aside0.mk (Kd.R_lower ho0 (below_size (by repeat (first | (with_reducible first | exact HB.out | apply below_alloc | apply pw_below_drewN | apply below_drew1 | refine below_set ?_ GE244.out) | exact HB.out)))); have n2_ := Aside0.mk (blk_below (g := gb244) (o := .cells #[.int .i16 a0_0, .int .i16 a0_1] 59 (0, 0)) (by (with_reducible repeat (first | refine blk_drewN ?_ _ | refine blk_drew ?_ | refine blk_alloc ?_ _)); exact BK244.out) hb); have n3_ := Aside0.mk (below_step (by repeat (first | (with_reducible first | exact HB.out | apply below_alloc | apply pw_below_drewN | apply below_drew1 | refine below_set ?_ GE244.out) | exact HB.out)) hb); clear HO250; clear BK244; clear HB; have HO250 := n0_; have HO253 := n1_; have BK244 := n2_; have HB := n3_; clear n0_ n1_ n2_ n3_; (try clear hb); (try clear hb2); (try clear hk); (try clear hi); (try clear ho0)) | ((with_reducible refine gate_callee (f := 37) rfl ?_); refine goesL_ (some 37) rfl rfl Try.func37 (by kernel_rfl) rfl #[.slice A1 l1.length c1] rfl (by (try simp only [List.map_toArray, List.map_cons, List.map_nil]); first | done | rfl | (simp only [List.length_drop, List.length_take]; rfl)) ?_; (with_reducible refine (laws_toClothS.calls k _ _ l1 t256 _ ?side1 ?side2 A10.out).mono ?_); (case side1 => repeat (first | exact (Kd.C_below HR1.out HB.out) | (with_reducible refine Kd.C_alloc ?_ _) | (with_reducible refine Kd.C_drewN ?_ _) | (with_reducible refine Kd.C_drew ?_))); (case side2 => exact HC1.out); rintro e w20 ⟨v257, rfl, ho0, hb⟩; refine ⟨_, rfl, ?_⟩; have n0_ := Aside0.mk (Kd.R_elder' (by (with_reducible repeat (first | apply Kd.R_alloc | apply Kd.R_drewN | apply Kd.R_drew)); exact HO250.out) (Kd.R_base ho0) hb); have n1_ := Aside0.mk (Kd.R_below (by (with_reducible repeat (first | apply Kd.R_alloc | apply Kd.R_drewN | apply Kd.R_drew)); exact HO253.out) hb); have n2_ := Aside0.mk (Kd.R_lower (Kd.R_new' ho0 (Kd.R_lt (by (with_reducible repeat (first | apply Kd.R_alloc | apply Kd.R_drewN | apply Kd.R_drew)); exact HO250.out))) (below_size (by repeat (first | (with_reducible first | exact HB.out | apply below_alloc | apply pw_below_drewN | apply below_drew1 | refine below_set ?_ GE244.out) | exact HB.out)))); have n3_ := Aside0.mk (blk_below (g := gb244) (o := .cells #[.int .i16 a0_0, .int .i16 a0_1] 59 (0, 0)) (by (with_reducible repeat (first | refine blk_drewN ?_ _ | refine blk_drew ?_ | refine blk_alloc ?_ _)); exact BK244.out) hb); have n4_ := Aside0.mk (below_step (by repeat (first | (with_reducible first | exact HB.out | apply below_alloc | apply pw_below_drewN | apply below_drew1 | refine below_set ?_ GE244.out) | exact HB.out)) hb); clear HO250; clear HO253; clear BK244; clear HB; have HO250 := n0_; have HO253 := n1_; have HO258 := n2_; have BK244 := n3_; have HB := n4_; clear n0_ n1_ n2_ n3_ n4_; (try clear hb); (try clear hb2); (try clear hk); (try clear hi); (try clear ho0); have hcz21_0 : w20.cell? ⟨gb244, 0, none⟩ = some (.int .i16 a0_0) := (blk_cell BK244.out 0).trans rfl; have hcz21_1 : w20.cell? ⟨gb244, 1, none⟩ = some (.int .i16 a0_1) := (blk_cell BK244.out 1).trans rfl; have hfz21_0 := blk_frozen BK244.out 0; have hfz21_1 := blk_frozen BK244.out 1) | ((with_reducible refine gate_callee (f := 56) rfl ?_); refine goesL_ (some 40) rfl rfl Try.func56 (by kernel_rfl) rfl #[.agg #[.int .i16 a0_0, .int .i16 a0_1]] rfl (by (try simp only [List.map_toArray, List.map_cons, List.map_nil]); first | done | rfl | (simp only [List.length_drop, List.length_take]; rfl)) ?_; (with_reducible refine (laws_toLine.calls a0_0 a0_1 t259 t260 _ A11.out).mono ?_); rintro e w22 ⟨rfl, hb⟩; refine ⟨_, rfl, ?_⟩; have n0_ := Aside0.mk (Kd.R_below (by (with_reducible repeat (first | apply Kd.R_alloc | apply Kd.R_drewN | apply Kd.R_drew)); exact HO250.out) hb); have n1_ := Aside0.mk (Kd.R_below (by (with_reducible repeat (first | apply Kd.R_alloc | apply Kd.R_drewN | apply Kd.R_drew)); exact HO253.out) hb); have n2_ := Aside0.mk (Kd.R_below (by (with_reducible repeat (first | apply Kd.R_alloc | apply Kd.R_drewN | apply Kd.R_drew)); exact HO258.out) hb); have n3_ := Aside0.mk (blk_below (g := gb244) (o := .cells #[.int .i16 a0_0, .int .i16 a0_1] 59 (0, 0)) (by (with_reducible repeat (first | refine blk_drewN ?_ _ | refine blk_drew ?_ | refine blk_alloc ?_ _)); exact BK244.out) hb); have n4_ := Aside0.mk (below_step (by repeat (first | (with_reducible first | exact HB.out | apply below_alloc | apply pw_below_drewN | apply below_drew1 | refine below_set ?_ GE244.out) | exact HB.out)) hb); clear HO250; clear HO253; clear HO258; clear BK244; clear HB; have HO250 := n0_; have HO253 := n1_; have HO258 := n2_; have BK244 := n3_; have HB := n4_; clear n0_ n1_ n2_ n3_ n4_; (try clear hb); (try clear hb2); (try clear hk); (try clear hi); obtain ⟨Ao23, co23, eo23⟩ := Kd.R_slice HO258.out; subst eo23) | ((with_reducible refine gate_callee (f := 25) rfl ?_); refine goesL_ (some 43) rfl rfl Try.func25 (by kernel_rfl) rfl #[.agg #[.int .i16 t259, .int .i16 t260], .slice Ao23 t256.length co23, .int .i64 a2] rfl (by (try simp only [List.map_toArray, List.map_cons, List.map_nil]); first | done | rfl | (simp only [List.length_drop, List.length_take]; rfl)) ?_; (with_reducible refine (impl_FewestLines.calls k t259 t260 _ _ t256 a2 t261 t264 t265 _ ?side1 ?side2 A12.out).mono ?_); (case side1 => repeat (first | exact (Kd.R_reads' HO258.out).2.2 | (with_reducible refine Kd.C_alloc ?_ _) | (with_reducible refine Kd.C_drewN ?_ _) | (with_reducible refine Kd.C_drew ?_))); (case side2 => exact (Kd.R_reads' HO258.out).2.1); rintro e w24 ⟨v262, rfl, ho0, hb⟩; refine ⟨_, rfl, ?_⟩; have n0_ := Aside0.mk (Kd.R_below (by (with_reducible repeat (first | apply Kd.R_alloc | apply Kd.R_drewN | apply Kd.R_drew)); exact HO250.out) hb); have n1_ := Aside0.mk (Kd.R_elder' (by (with_reducible repeat (first | apply Kd.R_alloc | apply Kd.R_drewN | apply Kd.R_drew)); exact HO253.out) (Kd.R_base ho0) hb); have n2_ := Aside0.mk (Kd.R_below (by (with_reducible repeat (first | apply Kd.R_alloc | apply Kd.R_drewN | apply Kd.R_drew)); exact HO258.out) hb); have n3_ := Aside0.mk (Kd.R_lower (Kd.R_new' ho0 (Kd.R_lt (by (with_reducible repeat (first | apply Kd.R_alloc | apply Kd.R_drewN | apply Kd.R_drew)); exact HO253.out))) (below_size (by repeat (first | (with_reducible first | exact HB.out | apply below_alloc | apply pw_below_drewN | apply below_drew1 | refine below_set ?_ GE244.out) | exact HB.out)))); have n4_ := Aside0.mk (blk_below (g := gb244) (o := .cells #[.int .i16 a0_0, .int .i16 a0_1] 59 (0, 0)) (by (with_reducible repeat (first | refine blk_drewN ?_ _ | refine blk_drew ?_ | refine blk_alloc ?_ _)); exact BK244.out) hb); have n5_ := Aside0.mk (below_step (by repeat (first | (with_reducible first | exact HB.out | apply below_alloc | apply pw_below_drewN | apply below_drew1 | refine below_set ?_ GE244.out) | exact HB.out)) hb); clear HO250; clear HO253; clear HO258; clear BK244; clear HB; have HO250 := n0_; have HO253 := n1_; have HO258 := n2_; have HO263 := n3_; have BK244 := n4_; have HB := n5_; clear n0_ n1_ n2_ n3_ n4_ n5_; (try clear hb); (try clear hb2); (try clear hk); (try clear hi); (try clear ho0)))
  (try simp only [Act.put, List.setIfInBounds_toArray, List.set_cons_zero, List.set_cons_succ])
  go_cut [60] (fun v60 wc => ∃ (kq : Nat) (x60_12 : Bool), v60 = .bool x60_12 ∧ Aside0 (laws_FnExactFewestLines.j0 kq l1 a2 t251 t254 t255 t256 t261 t264 t265 x60_12 a0_0 a0_1 = some r) ∧ Aside0 (kq ≤ k) ∧ Aside0 (Kd.R (Kd.int .i64) 2 wc w.heap.size (fun k_ => some k_ ≠ (v262 : Value).ownBlock) v252 t251) ∧ Aside0 (Kd.R k38 38 wc w.heap.size (fun _ => True) (.slice Ao23 t256.length co23) t256) ∧ Aside0 (Kd.R (Kd.int .i64) 2 wc w.heap.size (fun k_ => some k_ ≠ (v252 : Value).ownBlock) v262 t261) ∧ Aside0 (wc.heap[gb244]? = some (.cells #[.int .i16 a0_0, .int .i16 a0_1] 59 (0, 0))) ∧ Aside0 (Below w.heap.size w wc))
  case first =>
   have H := HC13.out
   clear HC13
   replace H := Option.bind_eq_some_iff.mp H
   obtain ⟨t266, A250, H⟩ := H
   replace H : (if t266 = true then (if t264 = t254 then (laws_FnExactFewestLines.j0 k l1 a2 t251 t254 t255 t256 t261 t264 t265 (t265 != t255) a0_0 a0_1) else (laws_FnExactFewestLines.j0 k l1 a2 t251 t254 t255 t256 t261 t264 t265 true a0_0 a0_1)) else (laws_FnExactFewestLines.j0 k l1 a2 t251 t254 t255 t256 t261 t264 t265 true a0_0 a0_1)) = some r := H
   have A25 := Aside0.mk A250
   clear A250
   by_cases c26 : t266 = true
   ·subst c26
    have H1 : (if t264 = t254 then (laws_FnExactFewestLines.j0 k l1 a2 t251 t254 t255 t256 t261 t264 t265 (t265 != t255) a0_0 a0_1) else (laws_FnExactFewestLines.j0 k l1 a2 t251 t254 t255 t256 t261 t264 t265 true a0_0 a0_1)) = some r := by rw [if_pos rfl] at H; exact H
    clear H
    have H := H1
    clear H1
    by_cases c27 : t264 = t254
    ·rw [if_pos c27] at H
     have c27b0 : (t264 == t254) = true := beq_iff_eq.mpr c27
     have c27b1 : (t264 != t254) = false := bne_eq_false_iff_eq.mpr c27
     clear c27
     (first | rw [c27b0] | (simp only [i64_w, i32_w]; rw [c27b0]) | skip)
     have H' := Aside0.mk H
     clear H
     obtain ⟨Ao28, co28, eo28⟩ := Kd.R_slice HO263.out
     subst eo28
     obtain ⟨Ao29, co29, eo29⟩ := Kd.R_slice HO253.out
     subst eo29
     go_wp2_with (first | ((with_reducible refine gate_callee (f := 59) rfl ?_); refine goesL_ (some 49) rfl rfl Try.func59 (by kernel_rfl) rfl #[.slice Ao28 t261.length co28, .slice Ao29 t251.length co29] rfl (by (try simp only [List.map_toArray, List.map_cons, List.map_nil]); first | done | rfl | (simp only [List.length_drop, List.length_take]; rfl)) ?_; (with_reducible refine (laws_eqInt64S.calls k _ _ t261 _ _ t251 true _ ?side1 ?side2 ?side3 ?side4 A25.out).mono ?_); (case side1 => repeat (first | exact (Kd.R_reads' HO263.out).2.2 | (with_reducible refine Kd.C_alloc ?_ _) | (with_reducible refine Kd.C_drewN ?_ _) | (with_reducible refine Kd.C_drew ?_))); (case side2 => exact (Kd.R_reads' HO263.out).2.1); (case side3 => repeat (first | exact (Kd.R_reads' HO253.out).2.2 | (with_reducible refine Kd.C_alloc ?_ _) | (with_reducible refine Kd.C_drewN ?_ _) | (with_reducible refine Kd.C_drew ?_))); (case side4 => exact (Kd.R_reads' HO253.out).2.1); rintro e w' ⟨rfl, ⟨nd, rfl⟩⟩; refine ⟨_, rfl, ?_⟩))
     go_meet
     case rel => exact ⟨_, ((t265 != t255)), (by first | rfl | (simp; done) | (simp [*]; done)), H', ⟨by first | omega | exact Nat.le_refl _⟩, ⟨by (with_reducible repeat (first | apply Kd.R_alloc | apply Kd.R_drewN | apply Kd.R_drew)); exact Kd.R_mono HO253.out (fun _ hk => hk.2)⟩, ⟨by (with_reducible repeat (first | apply Kd.R_alloc | apply Kd.R_drewN | apply Kd.R_drew)); exact Kd.R_mono HO258.out (fun _ hk => trivial)⟩, ⟨by (with_reducible repeat (first | apply Kd.R_alloc | apply Kd.R_drewN | apply Kd.R_drew)); exact Kd.R_mono HO263.out (fun _ hk => hk.2)⟩, ⟨by (with_reducible repeat (first | refine blk_drewN ?_ _ | refine blk_drew ?_ | refine blk_alloc ?_ _)); exact BK244.out⟩, ⟨by repeat (first | (with_reducible first | exact HB.out | apply below_alloc | apply pw_below_drewN | apply below_drew1 | refine below_set ?_ GE244.out) | exact HB.out)⟩⟩
    ·rw [if_neg c27] at H
     have c27b0 : (t264 == t254) = false := beq_eq_false_iff_ne.mpr c27
     have c27b1 : (t264 != t254) = true := bne_iff_ne.mpr c27
     (first | rw [c27b0] | (simp only [i64_w, i32_w]; rw [c27b0]) | skip)
     have H' := Aside0.mk H
     clear H
     obtain ⟨Ao30, co30, eo30⟩ := Kd.R_slice HO263.out
     subst eo30
     obtain ⟨Ao31, co31, eo31⟩ := Kd.R_slice HO253.out
     subst eo31
     go_wp2_with (first | ((with_reducible refine gate_callee (f := 59) rfl ?_); refine goesL_ (some 49) rfl rfl Try.func59 (by kernel_rfl) rfl #[.slice Ao30 t261.length co30, .slice Ao31 t251.length co31] rfl (by (try simp only [List.map_toArray, List.map_cons, List.map_nil]); first | done | rfl | (simp only [List.length_drop, List.length_take]; rfl)) ?_; (with_reducible refine (laws_eqInt64S.calls k _ _ t261 _ _ t251 true _ ?side1 ?side2 ?side3 ?side4 A25.out).mono ?_); (case side1 => repeat (first | exact (Kd.R_reads' HO263.out).2.2 | (with_reducible refine Kd.C_alloc ?_ _) | (with_reducible refine Kd.C_drewN ?_ _) | (with_reducible refine Kd.C_drew ?_))); (case side2 => exact (Kd.R_reads' HO263.out).2.1); (case side3 => repeat (first | exact (Kd.R_reads' HO253.out).2.2 | (with_reducible refine Kd.C_alloc ?_ _) | (with_reducible refine Kd.C_drewN ?_ _) | (with_reducible refine Kd.C_drew ?_))); (case side4 => exact (Kd.R_reads' HO253.out).2.1); rintro e w' ⟨rfl, ⟨nd, rfl⟩⟩; refine ⟨_, rfl, ?_⟩))
     go_meet
     case rel => exact ⟨_, (true), (by first | rfl | (simp; done) | (simp [*]; done)), H', ⟨by first | omega | exact Nat.le_refl _⟩, ⟨by (with_reducible repeat (first | apply Kd.R_alloc | apply Kd.R_drewN | apply Kd.R_drew)); exact Kd.R_mono HO253.out (fun _ hk => hk.2)⟩, ⟨by (with_reducible repeat (first | apply Kd.R_alloc | apply Kd.R_drewN | apply Kd.R_drew)); exact Kd.R_mono HO258.out (fun _ hk => trivial)⟩, ⟨by (with_reducible repeat (first | apply Kd.R_alloc | apply Kd.R_drewN | apply Kd.R_drew)); exact Kd.R_mono HO263.out (fun _ hk => hk.2)⟩, ⟨by (with_reducible repeat (first | refine blk_drewN ?_ _ | refine blk_drew ?_ | refine blk_alloc ?_ _)); exact BK244.out⟩, ⟨by repeat (first | (with_reducible first | exact HB.out | apply below_alloc | apply pw_below_drewN | apply below_drew1 | refine below_set ?_ GE244.out) | exact HB.out)⟩⟩
   ·replace c26 := Bool.eq_false_iff.mpr c26
    subst c26
    have H1 : (laws_FnExactFewestLines.j0 k l1 a2 t251 t254 t255 t256 t261 t264 t265 true a0_0 a0_1) = some r := by rw [if_neg (show ¬ (false = true) by decide)] at H; exact H
    clear H
    have H := H1
    clear H1
    have H' := Aside0.mk H
    clear H
    obtain ⟨Ao32, co32, eo32⟩ := Kd.R_slice HO263.out
    subst eo32
    obtain ⟨Ao33, co33, eo33⟩ := Kd.R_slice HO253.out
    subst eo33
    go_wp2_with (first | ((with_reducible refine gate_callee (f := 59) rfl ?_); refine goesL_ (some 49) rfl rfl Try.func59 (by kernel_rfl) rfl #[.slice Ao32 t261.length co32, .slice Ao33 t251.length co33] rfl (by (try simp only [List.map_toArray, List.map_cons, List.map_nil]); first | done | rfl | (simp only [List.length_drop, List.length_take]; rfl)) ?_; (with_reducible refine (laws_eqInt64S.calls k _ _ t261 _ _ t251 false _ ?side1 ?side2 ?side3 ?side4 A25.out).mono ?_); (case side1 => repeat (first | exact (Kd.R_reads' HO263.out).2.2 | (with_reducible refine Kd.C_alloc ?_ _) | (with_reducible refine Kd.C_drewN ?_ _) | (with_reducible refine Kd.C_drew ?_))); (case side2 => exact (Kd.R_reads' HO263.out).2.1); (case side3 => repeat (first | exact (Kd.R_reads' HO253.out).2.2 | (with_reducible refine Kd.C_alloc ?_ _) | (with_reducible refine Kd.C_drewN ?_ _) | (with_reducible refine Kd.C_drew ?_))); (case side4 => exact (Kd.R_reads' HO253.out).2.1); rintro e w' ⟨rfl, ⟨nd, rfl⟩⟩; refine ⟨_, rfl, ?_⟩))
    go_meet
    case rel => exact ⟨_, (true), (by first | rfl | (simp; done) | (simp [*]; done)), H', ⟨by first | omega | exact Nat.le_refl _⟩, ⟨by (with_reducible repeat (first | apply Kd.R_alloc | apply Kd.R_drewN | apply Kd.R_drew)); exact Kd.R_mono HO253.out (fun _ hk => hk.2)⟩, ⟨by (with_reducible repeat (first | apply Kd.R_alloc | apply Kd.R_drewN | apply Kd.R_drew)); exact Kd.R_mono HO258.out (fun _ hk => trivial)⟩, ⟨by (with_reducible repeat (first | apply Kd.R_alloc | apply Kd.R_drewN | apply Kd.R_drew)); exact Kd.R_mono HO263.out (fun _ hk => hk.2)⟩, ⟨by (with_reducible repeat (first | refine blk_drewN ?_ _ | refine blk_drew ?_ | refine blk_alloc ?_ _)); exact BK244.out⟩, ⟨by repeat (first | (with_reducible first | exact HB.out | apply below_alloc | apply pw_below_drewN | apply below_drew1 | refine below_set ?_ GE244.out) | exact HB.out)⟩⟩
  case rest =>
   clear HC13
   try clear c1
   try clear c2
   try clear p2
   try clear c3
   try clear c5
   try clear c5b0
   try clear c17
   try clear c25
   try clear c26
   try clear c27
   try clear c27b0
   try clear c27b1
   try clear hcz15_0
   try clear hcz15_1
   try clear hcz21_0
   try clear hcz21_1
   try clear hfz15_0
   try clear hfz15_1
   try clear hfz21_0
   try clear hfz21_1
   obtain ⟨kq, x60_12, rfl, HA, HJ12, HO_8, HO_11, HO_12, BK244, HB⟩ := hcut
   cases kq with
   | zero => exact absurd HA.out (by simp [laws_FnExactFewestLines.j0])
   | succ kj12 =>
    have H := HA.out
    clear HA
    simp only [laws_FnExactFewestLines.j0] at H
    by_cases c34 : x60_12 = true
    ·subst c34
     have H1 : (none) = some r := by rw [if_pos rfl] at H; exact H
     clear H
     have H := H1
     clear H1
     exact absurd H (by simp)
    ·replace c34 := Bool.eq_false_iff.mpr c34
     subst c34
     have H1 : ((laws_toClothS.f kj12 l1).bind fun t267 => ((laws_eqClothS.f kj12 t256 t267).bind fun t270 => (if t270 = true then ((laws_markClothS.f kj12 t256 1).bind fun bt271 => (if bt271.1 < 0 then (laws_FnExactFewestLines.j1 kj12 l1 a2 t251 t254 t255 t261 true a0_0 a0_1) else ((laws_eqInt64S.f kj12 t261 t251).bind fun t273 => (if t273 = true then (if t264 = t254 then (laws_FnExactFewestLines.j1 kj12 l1 a2 t251 t254 t255 t261 (t265 != t255) a0_0 a0_1) else (laws_FnExactFewestLines.j1 kj12 l1 a2 t251 t254 t255 t261 true a0_0 a0_1)) else (laws_FnExactFewestLines.j1 kj12 l1 a2 t251 t254 t255 t261 true a0_0 a0_1))))) else (none)))) = some r := by rw [if_neg (show ¬ (false = true) by decide)] at H; exact H
     clear H
     have H := H1
     clear H1
     replace H := Option.bind_eq_some_iff.mp H
     obtain ⟨t267, A350, H⟩ := H
     replace H : ((laws_eqClothS.f kj12 t256 t267).bind fun t270 => (if t270 = true then ((laws_markClothS.f kj12 t256 1).bind fun bt271 => (if bt271.1 < 0 then (laws_FnExactFewestLines.j1 kj12 l1 a2 t251 t254 t255 t261 true a0_0 a0_1) else ((laws_eqInt64S.f kj12 t261 t251).bind fun t273 => (if t273 = true then (if t264 = t254 then (laws_FnExactFewestLines.j1 kj12 l1 a2 t251 t254 t255 t261 (t265 != t255) a0_0 a0_1) else (laws_FnExactFewestLines.j1 kj12 l1 a2 t251 t254 t255 t261 true a0_0 a0_1)) else (laws_FnExactFewestLines.j1 kj12 l1 a2 t251 t254 t255 t261 true a0_0 a0_1))))) else (none))) = some r := H
     have A35 := Aside0.mk A350
     clear A350
     replace H := Option.bind_eq_some_iff.mp H
     obtain ⟨t270, A360, H⟩ := H
     replace H : (if t270 = true then ((laws_markClothS.f kj12 t256 1).bind fun bt271 => (if bt271.1 < 0 then (laws_FnExactFewestLines.j1 kj12 l1 a2 t251 t254 t255 t261 true a0_0 a0_1) else ((laws_eqInt64S.f kj12 t261 t251).bind fun t273 => (if t273 = true then (if t264 = t254 then (laws_FnExactFewestLines.j1 kj12 l1 a2 t251 t254 t255 t261 (t265 != t255) a0_0 a0_1) else (laws_FnExactFewestLines.j1 kj12 l1 a2 t251 t254 t255 t261 true a0_0 a0_1)) else (laws_FnExactFewestLines.j1 kj12 l1 a2 t251 t254 t255 t261 true a0_0 a0_1))))) else (none)) = some r := H
     have A36 := Aside0.mk A360
     clear A360
     by_cases c37 : t270 = true
     ·subst c37
      have H1 : ((laws_markClothS.f kj12 t256 1).bind fun bt271 => (if bt271.1 < 0 then (laws_FnExactFewestLines.j1 kj12 l1 a2 t251 t254 t255 t261 true a0_0 a0_1) else ((laws_eqInt64S.f kj12 t261 t251).bind fun t273 => (if t273 = true then (if t264 = t254 then (laws_FnExactFewestLines.j1 kj12 l1 a2 t251 t254 t255 t261 (t265 != t255) a0_0 a0_1) else (laws_FnExactFewestLines.j1 kj12 l1 a2 t251 t254 t255 t261 true a0_0 a0_1)) else (laws_FnExactFewestLines.j1 kj12 l1 a2 t251 t254 t255 t261 true a0_0 a0_1))))) = some r := by rw [if_pos rfl] at H; exact H
      clear H
      have H := H1
      clear H1
      replace H := Option.bind_eq_some_iff.mp H
      obtain ⟨⟨t271, t272⟩, A380, H⟩ := H
      replace H : (if t271 < 0 then (laws_FnExactFewestLines.j1 kj12 l1 a2 t251 t254 t255 t261 true a0_0 a0_1) else ((laws_eqInt64S.f kj12 t261 t251).bind fun t273 => (if t273 = true then (if t264 = t254 then (laws_FnExactFewestLines.j1 kj12 l1 a2 t251 t254 t255 t261 (t265 != t255) a0_0 a0_1) else (laws_FnExactFewestLines.j1 kj12 l1 a2 t251 t254 t255 t261 true a0_0 a0_1)) else (laws_FnExactFewestLines.j1 kj12 l1 a2 t251 t254 t255 t261 true a0_0 a0_1)))) = some r := H
      have A38 := Aside0.mk A380
      clear A380
      have HC39 := Aside0.mk H
      clear H
      go_upto_region 14 with (first | ((with_reducible refine gate_callee (f := 37) rfl ?_); refine goesL_ (some 63) rfl rfl Try.func37 (by kernel_rfl) rfl #[.slice A1 l1.length c1] rfl (by (try simp only [List.map_toArray, List.map_cons, List.map_nil]); first | done | rfl | (simp only [List.length_drop, List.length_take]; rfl)) ?_; (with_reducible refine (laws_toClothS.calls kj12 _ _ l1 t267 _ ?side1 ?side2 A35.out).mono ?_); (case side1 => repeat (first | exact (Kd.C_below HR1.out HB.out) | (with_reducible refine Kd.C_alloc ?_ _) | (with_reducible refine Kd.C_drewN ?_ _) | (with_reducible refine Kd.C_drew ?_))); (case side2 => exact HC1.out); rintro e w40 ⟨v268, rfl, ho0, hb⟩; refine ⟨_, rfl, ?_⟩; have n0_ := Aside0.mk (Kd.R_below (by (with_reducible repeat (first | apply Kd.R_alloc | apply Kd.R_drewN | apply Kd.R_drew)); exact HO_8.out) hb); have n1_ := Aside0.mk (Kd.R_elder' (by (with_reducible repeat (first | apply Kd.R_alloc | apply Kd.R_drewN | apply Kd.R_drew)); exact HO_11.out) (Kd.R_base ho0) hb); have n2_ := Aside0.mk (Kd.R_below (by (with_reducible repeat (first | apply Kd.R_alloc | apply Kd.R_drewN | apply Kd.R_drew)); exact HO_12.out) hb); have n3_ := Aside0.mk (Kd.R_lower (Kd.R_new' ho0 (Kd.R_lt (by (with_reducible repeat (first | apply Kd.R_alloc | apply Kd.R_drewN | apply Kd.R_drew)); exact HO_11.out))) (below_size (by repeat (first | (with_reducible first | exact HB.out | apply below_alloc | apply pw_below_drewN | apply below_drew1 | refine below_set ?_ GE244.out) | exact HB.out)))); have n4_ := Aside0.mk (blk_below (g := gb244) (o := .cells #[.int .i16 a0_0, .int .i16 a0_1] 59 (0, 0)) (by (with_reducible repeat (first | refine blk_drewN ?_ _ | refine blk_drew ?_ | refine blk_alloc ?_ _)); exact BK244.out) hb); have n5_ := Aside0.mk (below_step (by repeat (first | (with_reducible first | exact HB.out | apply below_alloc | apply pw_below_drewN | apply below_drew1 | refine below_set ?_ GE244.out) | exact HB.out)) hb); clear HO_8; clear HO_11; clear HO_12; clear BK244; clear HB; have HO_8 := n0_; have HO_11 := n1_; have HO_12 := n2_; have HO269 := n3_; have BK244 := n4_; have HB := n5_; clear n0_ n1_ n2_ n3_ n4_ n5_; (try clear hb); (try clear hb2); (try clear hk); (try clear hi); (try clear ho0); obtain ⟨Ao41, co41, eo41⟩ := Kd.R_slice HO269.out; subst eo41) | ((with_reducible refine gate_callee (f := 39) rfl ?_); refine goesL_ (some 64) rfl rfl Try.func39 (by kernel_rfl) rfl #[.slice Ao23 t256.length co23, .slice Ao41 t267.length co41] rfl (by (try simp only [List.map_toArray, List.map_cons, List.map_nil]); first | done | rfl | (simp only [List.length_drop, List.length_take]; rfl)) ?_; (with_reducible refine (laws_eqClothS.calls kj12 _ _ t256 _ _ t267 true _ ?side1 ?side2 ?side3 ?side4 A36.out).mono ?_); (case side1 => repeat (first | exact (Kd.R_reads' HO_11.out).2.2 | (with_reducible refine Kd.C_alloc ?_ _) | (with_reducible refine Kd.C_drewN ?_ _) | (with_reducible refine Kd.C_drew ?_))); (case side2 => exact (Kd.R_reads' HO_11.out).2.1); (case side3 => repeat (first | exact (Kd.R_reads' HO269.out).2.2 | (with_reducible refine Kd.C_alloc ?_ _) | (with_reducible refine Kd.C_drewN ?_ _) | (with_reducible refine Kd.C_drew ?_))); (case side4 => exact (Kd.R_reads' HO269.out).2.1); rintro e w42 ⟨rfl, hb⟩; refine ⟨_, rfl, ?_⟩; have n0_ := Aside0.mk (Kd.R_below (by (with_reducible repeat (first | apply Kd.R_alloc | apply Kd.R_drewN | apply Kd.R_drew)); exact HO_8.out) hb); have n1_ := Aside0.mk (Kd.R_below (by (with_reducible repeat (first | apply Kd.R_alloc | apply Kd.R_drewN | apply Kd.R_drew)); exact HO_11.out) hb); have n2_ := Aside0.mk (Kd.R_below (by (with_reducible repeat (first | apply Kd.R_alloc | apply Kd.R_drewN | apply Kd.R_drew)); exact HO_12.out) hb); have n3_ := Aside0.mk (Kd.R_below (by (with_reducible repeat (first | apply Kd.R_alloc | apply Kd.R_drewN | apply Kd.R_drew)); exact HO269.out) hb); have n4_ := Aside0.mk (blk_below (g := gb244) (o := .cells #[.int .i16 a0_0, .int .i16 a0_1] 59 (0, 0)) (by (with_reducible repeat (first | refine blk_drewN ?_ _ | refine blk_drew ?_ | refine blk_alloc ?_ _)); exact BK244.out) hb); have n5_ := Aside0.mk (below_step (by repeat (first | (with_reducible first | exact HB.out | apply below_alloc | apply pw_below_drewN | apply below_drew1 | refine below_set ?_ GE244.out) | exact HB.out)) hb); clear HO_8; clear HO_11; clear HO_12; clear HO269; clear BK244; clear HB; have HO_8 := n0_; have HO_11 := n1_; have HO_12 := n2_; have HO269 := n3_; have BK244 := n4_; have HB := n5_; clear n0_ n1_ n2_ n3_ n4_ n5_; (try clear hb); (try clear hb2); (try clear hk); (try clear hi)) | ((with_reducible refine gate_callee (f := 60) rfl ?_); refine goesL_ (some 68) rfl rfl Try.func60 (by kernel_rfl) rfl #[.slice Ao23 t256.length co23, .int .i64 1] rfl (by (try simp only [List.map_toArray, List.map_cons, List.map_nil]); first | done | rfl | (simp only [List.length_drop, List.length_take]; rfl)) ?_; (with_reducible refine (laws_markClothS.calls kj12 (fun k_ => some k_ = (.slice Ao23 t256.length co23 : Value).ownBlock) (.slice Ao23 t256.length co23) t256 1 t271 t272 w _ ?side1 ?side2 A38.out).mono ?_); (case side1 => repeat (first | (with_reducible first | exact HB.out | apply below_alloc | apply pw_below_drewN | apply below_drew1 | refine below_set ?_ GE244.out) | exact HB.out)); (case side2 => exact Kd.R_tight rfl HO_11.out); rintro e w43 ⟨rfl, hy0, hb, hkp⟩; refine ⟨_, rfl, ?_⟩; have n0_ := Aside0.mk (Kd.R_mono (ok' := fun k_ => some k_ ≠ (v262 : Value).ownBlock) (Kd.R_keptB ((Kd.R_apart' HO_8.out (Kd.R_typed HO_11.out) (by decide))) hkp (fun k_ hk_ hs_ => (hk_.2) hs_)) (fun k_ hk_ => hk_.1.1)); have n1_ := Aside0.mk (Kd.R_reok rfl hy0 (fun k_ e_ => HO_11.out.1 k_ e_)); have n2_ := Aside0.mk (Kd.R_mono (ok' := fun k_ => some k_ ≠ (v252 : Value).ownBlock) (Kd.R_keptB ((Kd.R_apart' HO_12.out (Kd.R_typed HO_11.out) (by decide))) hkp (fun k_ hk_ hs_ => (hk_.2) hs_)) (fun k_ hk_ => hk_.1.1)); have n3_ := Aside0.mk (blk_kept (by (with_reducible repeat (first | refine blk_drewN ?_ _ | refine blk_drew ?_ | refine blk_alloc ?_ _)); exact BK244.out) hkp (fun hs_ => (fun e_ => (Kd.R_ne HO_11.out BK244.out (by decide)) e_) hs_)); have n4_ := Aside0.mk (Kd.R_mono (ok' := fun k_ => some k_ ≠ (.slice Ao23 t256.length co23 : Value).ownBlock) (Kd.R_keptB (HO269.out) hkp (fun k_ hk_ hs_ => (hk_.2) hs_)) (fun k_ hk_ => hk_.1.2)); have n5_ := Aside0.mk (hb); clear HO_8; clear HO_11; clear HO_12; clear BK244; clear HO269; clear HB; have HO_8 := n0_; have HO_11 := n1_; have HO_12 := n2_; have BK244 := n3_; have HO269 := n4_; have HB := n5_; clear n0_ n1_ n2_ n3_ n4_ n5_; (try clear hb); (try clear hkp); (try clear hy0)))
      (try simp only [Act.put, List.setIfInBounds_toArray, List.set_cons_zero, List.set_cons_succ])
      go_cut [86] (fun v86 wc => ∃ (kq : Nat) (x86_38 : Bool), v86 = .bool x86_38 ∧ Aside0 (laws_FnExactFewestLines.j1 kq l1 a2 t251 t254 t255 t261 x86_38 a0_0 a0_1 = some r) ∧ Aside0 (kq ≤ kj12) ∧ Aside0 (Kd.R (Kd.int .i64) 2 wc w.heap.size (fun k_ => some k_ ≠ (v262 : Value).ownBlock) v252 t251) ∧ Aside0 (Kd.R (Kd.int .i64) 2 wc w.heap.size (fun k_ => some k_ ≠ (v252 : Value).ownBlock) v262 t261) ∧ Aside0 (wc.heap[gb244]? = some (.cells #[.int .i16 a0_0, .int .i16 a0_1] 59 (0, 0))) ∧ Aside0 (Below w.heap.size w wc))
      case first =>
       have H := HC39.out
       clear HC39
       by_cases c44 : t271 < 0
       ·rw [if_pos c44] at H
        have c44b0 : decide (t271 < 0) = true := decide_eq_true c44
        clear c44
        (first | rw [c44b0] | (simp only [i64_w, i32_w]; rw [c44b0]) | skip)
        have H' := Aside0.mk H
        clear H
        go_wp2
        go_meet
        case rel => exact ⟨_, (true), (by first | rfl | (simp; done) | (simp [*]; done)), H', ⟨by have := HJ12.out; first | omega | exact Nat.le_refl _⟩, ⟨by (with_reducible repeat (first | apply Kd.R_alloc | apply Kd.R_drewN | apply Kd.R_drew)); exact HO_8.out⟩, ⟨by (with_reducible repeat (first | apply Kd.R_alloc | apply Kd.R_drewN | apply Kd.R_drew)); exact HO_12.out⟩, ⟨by (with_reducible repeat (first | refine blk_drewN ?_ _ | refine blk_drew ?_ | refine blk_alloc ?_ _)); exact BK244.out⟩, ⟨by repeat (first | (with_reducible first | exact HB.out | apply below_alloc | apply pw_below_drewN | apply below_drew1 | refine below_set ?_ GE244.out) | exact HB.out)⟩⟩
       ·rw [if_neg c44] at H
        have c44b0 : decide (t271 < 0) = false := decide_eq_false c44
        clear c44
        (first | rw [c44b0] | (simp only [i64_w, i32_w]; rw [c44b0]) | skip)
        replace H := Option.bind_eq_some_iff.mp H
        obtain ⟨t273, A450, H⟩ := H
        replace H : (if t273 = true then (if t264 = t254 then (laws_FnExactFewestLines.j1 kj12 l1 a2 t251 t254 t255 t261 (t265 != t255) a0_0 a0_1) else (laws_FnExactFewestLines.j1 kj12 l1 a2 t251 t254 t255 t261 true a0_0 a0_1)) else (laws_FnExactFewestLines.j1 kj12 l1 a2 t251 t254 t255 t261 true a0_0 a0_1)) = some r := H
        have A45 := Aside0.mk A450
        clear A450
        by_cases c46 : t273 = true
        ·subst c46
         have H1 : (if t264 = t254 then (laws_FnExactFewestLines.j1 kj12 l1 a2 t251 t254 t255 t261 (t265 != t255) a0_0 a0_1) else (laws_FnExactFewestLines.j1 kj12 l1 a2 t251 t254 t255 t261 true a0_0 a0_1)) = some r := by rw [if_pos rfl] at H; exact H
         clear H
         have H := H1
         clear H1
         by_cases c47 : t264 = t254
         ·rw [if_pos c47] at H
          have c47b0 : (t264 == t254) = true := beq_iff_eq.mpr c47
          have c47b1 : (t264 != t254) = false := bne_eq_false_iff_eq.mpr c47
          clear c47
          have H' := Aside0.mk H
          clear H
          obtain ⟨Ao48, co48, eo48⟩ := Kd.R_slice HO_12.out
          subst eo48
          obtain ⟨Ao49, co49, eo49⟩ := Kd.R_slice HO_8.out
          subst eo49
          go_wp2_with (first | (go_at_call 59; (with_reducible refine (laws_eqInt64S.calls kj12 _ _ t261 _ _ t251 true _ ?side1 ?side2 ?side3 ?side4 A45.out).mono ?_); (case side1 => repeat (first | exact (Kd.R_reads' HO_12.out).2.2 | (with_reducible refine Kd.C_alloc ?_ _) | (with_reducible refine Kd.C_drewN ?_ _) | (with_reducible refine Kd.C_drew ?_))); (case side2 => exact (Kd.R_reads' HO_12.out).2.1); (case side3 => repeat (first | exact (Kd.R_reads' HO_8.out).2.2 | (with_reducible refine Kd.C_alloc ?_ _) | (with_reducible refine Kd.C_drewN ?_ _) | (with_reducible refine Kd.C_drew ?_))); (case side4 => exact (Kd.R_reads' HO_8.out).2.1); rintro e w' ⟨rfl, ⟨nd, rfl⟩⟩))
          go_meet
          case rel => exact ⟨_, ((t265 != t255)), (by first | rfl | (simp; done) | (simp [*]; done)), H', ⟨by have := HJ12.out; first | omega | exact Nat.le_refl _⟩, ⟨by (with_reducible repeat (first | apply Kd.R_alloc | apply Kd.R_drewN | apply Kd.R_drew)); exact HO_8.out⟩, ⟨by (with_reducible repeat (first | apply Kd.R_alloc | apply Kd.R_drewN | apply Kd.R_drew)); exact HO_12.out⟩, ⟨by (with_reducible repeat (first | refine blk_drewN ?_ _ | refine blk_drew ?_ | refine blk_alloc ?_ _)); exact BK244.out⟩, ⟨by repeat (first | (with_reducible first | exact HB.out | apply below_alloc | apply pw_below_drewN | apply below_drew1 | refine below_set ?_ GE244.out) | exact HB.out)⟩⟩
         ·rw [if_neg c47] at H
          have c47b0 : (t264 == t254) = false := beq_eq_false_iff_ne.mpr c47
          have c47b1 : (t264 != t254) = true := bne_iff_ne.mpr c47
          have H' := Aside0.mk H
          clear H
          obtain ⟨Ao50, co50, eo50⟩ := Kd.R_slice HO_12.out
          subst eo50
          obtain ⟨Ao51, co51, eo51⟩ := Kd.R_slice HO_8.out
          subst eo51
          go_wp2_with (first | (go_at_call 59; (with_reducible refine (laws_eqInt64S.calls kj12 _ _ t261 _ _ t251 true _ ?side1 ?side2 ?side3 ?side4 A45.out).mono ?_); (case side1 => repeat (first | exact (Kd.R_reads' HO_12.out).2.2 | (with_reducible refine Kd.C_alloc ?_ _) | (with_reducible refine Kd.C_drewN ?_ _) | (with_reducible refine Kd.C_drew ?_))); (case side2 => exact (Kd.R_reads' HO_12.out).2.1); (case side3 => repeat (first | exact (Kd.R_reads' HO_8.out).2.2 | (with_reducible refine Kd.C_alloc ?_ _) | (with_reducible refine Kd.C_drewN ?_ _) | (with_reducible refine Kd.C_drew ?_))); (case side4 => exact (Kd.R_reads' HO_8.out).2.1); rintro e w' ⟨rfl, ⟨nd, rfl⟩⟩))
          go_meet
          case rel => exact ⟨_, (true), (by first | rfl | (simp; done) | (simp [*]; done)), H', ⟨by have := HJ12.out; first | omega | exact Nat.le_refl _⟩, ⟨by (with_reducible repeat (first | apply Kd.R_alloc | apply Kd.R_drewN | apply Kd.R_drew)); exact HO_8.out⟩, ⟨by (with_reducible repeat (first | apply Kd.R_alloc | apply Kd.R_drewN | apply Kd.R_drew)); exact HO_12.out⟩, ⟨by (with_reducible repeat (first | refine blk_drewN ?_ _ | refine blk_drew ?_ | refine blk_alloc ?_ _)); exact BK244.out⟩, ⟨by repeat (first | (with_reducible first | exact HB.out | apply below_alloc | apply pw_below_drewN | apply below_drew1 | refine below_set ?_ GE244.out) | exact HB.out)⟩⟩
        ·replace c46 := Bool.eq_false_iff.mpr c46
         subst c46
         have H1 : (laws_FnExactFewestLines.j1 kj12 l1 a2 t251 t254 t255 t261 true a0_0 a0_1) = some r := by rw [if_neg (show ¬ (false = true) by decide)] at H; exact H
         clear H
         have H := H1
         clear H1
         have H' := Aside0.mk H
         clear H
         obtain ⟨Ao52, co52, eo52⟩ := Kd.R_slice HO_12.out
         subst eo52
         obtain ⟨Ao53, co53, eo53⟩ := Kd.R_slice HO_8.out
         subst eo53
         go_wp2_with (first | (go_at_call 59; (with_reducible refine (laws_eqInt64S.calls kj12 _ _ t261 _ _ t251 false _ ?side1 ?side2 ?side3 ?side4 A45.out).mono ?_); (case side1 => repeat (first | exact (Kd.R_reads' HO_12.out).2.2 | (with_reducible refine Kd.C_alloc ?_ _) | (with_reducible refine Kd.C_drewN ?_ _) | (with_reducible refine Kd.C_drew ?_))); (case side2 => exact (Kd.R_reads' HO_12.out).2.1); (case side3 => repeat (first | exact (Kd.R_reads' HO_8.out).2.2 | (with_reducible refine Kd.C_alloc ?_ _) | (with_reducible refine Kd.C_drewN ?_ _) | (with_reducible refine Kd.C_drew ?_))); (case side4 => exact (Kd.R_reads' HO_8.out).2.1); rintro e w' ⟨rfl, ⟨nd, rfl⟩⟩))
         go_meet
         case rel => exact ⟨_, (true), (by first | rfl | (simp; done) | (simp [*]; done)), H', ⟨by have := HJ12.out; first | omega | exact Nat.le_refl _⟩, ⟨by (with_reducible repeat (first | apply Kd.R_alloc | apply Kd.R_drewN | apply Kd.R_drew)); exact HO_8.out⟩, ⟨by (with_reducible repeat (first | apply Kd.R_alloc | apply Kd.R_drewN | apply Kd.R_drew)); exact HO_12.out⟩, ⟨by (with_reducible repeat (first | refine blk_drewN ?_ _ | refine blk_drew ?_ | refine blk_alloc ?_ _)); exact BK244.out⟩, ⟨by repeat (first | (with_reducible first | exact HB.out | apply below_alloc | apply pw_below_drewN | apply below_drew1 | refine below_set ?_ GE244.out) | exact HB.out)⟩⟩
      case rest =>
       clear HC39
       try clear c1
       try clear c2
       try clear p2
       try clear c3
       try clear c4
       try clear c5
       try clear c5b0
       try clear c6
       try clear c17
       try clear c25
       try clear c26
       try clear c27
       try clear c27b0
       try clear c27b1
       try clear c34
       try clear c35
       try clear c37
       try clear c39
       try clear c44
       try clear c44b0
       try clear c46
       try clear c47
       try clear c47b0
       try clear c47b1
       try clear hcz15_0
       try clear hcz15_1
       try clear hcz21_0
       try clear hcz21_1
       try clear hfz15_0
       try clear hfz15_1
       try clear hfz21_0
       try clear hfz21_1
       try clear p2
       obtain ⟨kq, x86_38, rfl, HA, HJ38, HO_8, HO_12, BK244, HB⟩ := hcut
       cases kq with
       | zero => exact absurd HA.out (by simp [laws_FnExactFewestLines.j1])
       | succ kj38 =>
        have H := HA.out
        clear HA
        simp only [laws_FnExactFewestLines.j1] at H
        by_cases c54 : x86_38 = true
        ·subst c54
         have H1 : (none) = some r := by rw [if_pos rfl] at H; exact H
         clear H
         have H := H1
         clear H1
         exact absurd H (by simp)
        ·replace c54 := Bool.eq_false_iff.mpr c54
         subst c54
         have H1 : ((laws_markInt64S.f kj38 t261 1).bind fun bt274 => ((laws_heldInt64S.f kj38 bt274.2 1).bind fun t276 => (if t276 < 0 then (none) else (if t276 = bt274.1 then ((laws_toLine.f a0_0 a0_1).bind fun bt277 => ((laws_toClothS.f kj38 l1).bind fun t279 => ((impl_FewestLines.f kj38 bt277.1 bt277.2 t279 a2).bind fun bt282 => ((laws_eqInt64S.f kj38 bt282.1 t251).bind fun t287 => (if t287 = true then (if bt282.2.1 = t254 then (laws_FnExactFewestLines.j2 kj38 bt274.2 bt274.1 (bt282.2.2 != t255)) else (laws_FnExactFewestLines.j2 kj38 bt274.2 bt274.1 true)) else (laws_FnExactFewestLines.j2 kj38 bt274.2 bt274.1 true)))))) else (none))))) = some r := by rw [if_neg (show ¬ (false = true) by decide)] at H; exact H
         clear H
         have H := H1
         clear H1
         replace H := Option.bind_eq_some_iff.mp H
         obtain ⟨⟨t274, t275⟩, A550, H⟩ := H
         replace H : ((laws_heldInt64S.f kj38 t275 1).bind fun t276 => (if t276 < 0 then (none) else (if t276 = t274 then ((laws_toLine.f a0_0 a0_1).bind fun bt277 => ((laws_toClothS.f kj38 l1).bind fun t279 => ((impl_FewestLines.f kj38 bt277.1 bt277.2 t279 a2).bind fun bt282 => ((laws_eqInt64S.f kj38 bt282.1 t251).bind fun t287 => (if t287 = true then (if bt282.2.1 = t254 then (laws_FnExactFewestLines.j2 kj38 t275 t274 (bt282.2.2 != t255)) else (laws_FnExactFewestLines.j2 kj38 t275 t274 true)) else (laws_FnExactFewestLines.j2 kj38 t275 t274 true)))))) else (none)))) = some r := H
         have A55 := Aside0.mk A550
         clear A550
         replace H := Option.bind_eq_some_iff.mp H
         obtain ⟨t276, A560, H⟩ := H
         replace H : (if t276 < 0 then (none) else (if t276 = t274 then ((laws_toLine.f a0_0 a0_1).bind fun bt277 => ((laws_toClothS.f kj38 l1).bind fun t279 => ((impl_FewestLines.f kj38 bt277.1 bt277.2 t279 a2).bind fun bt282 => ((laws_eqInt64S.f kj38 bt282.1 t251).bind fun t287 => (if t287 = true then (if bt282.2.1 = t254 then (laws_FnExactFewestLines.j2 kj38 t275 t274 (bt282.2.2 != t255)) else (laws_FnExactFewestLines.j2 kj38 t275 t274 true)) else (laws_FnExactFewestLines.j2 kj38 t275 t274 true)))))) else (none))) = some r := H
         have A56 := Aside0.mk A560
         clear A560
         by_cases c57 : t276 < 0
         ·rw [if_pos c57] at H
          exact absurd H (by simp)
         ·rw [if_neg c57] at H
          have c57b0 : decide (t276 < 0) = false := decide_eq_false c57
          clear c57
          by_cases c58 : t276 = t274
          ·rw [if_pos c58] at H
           have c58b0 : (t276 == t274) = true := beq_iff_eq.mpr c58
           have c58b1 : (t276 != t274) = false := bne_eq_false_iff_eq.mpr c58
           clear c58
           replace H := Option.bind_eq_some_iff.mp H
           obtain ⟨⟨t277, t278⟩, A590, H⟩ := H
           replace H : ((laws_toClothS.f kj38 l1).bind fun t279 => ((impl_FewestLines.f kj38 t277 t278 t279 a2).bind fun bt282 => ((laws_eqInt64S.f kj38 bt282.1 t251).bind fun t287 => (if t287 = true then (if bt282.2.1 = t254 then (laws_FnExactFewestLines.j2 kj38 t275 t274 (bt282.2.2 != t255)) else (laws_FnExactFewestLines.j2 kj38 t275 t274 true)) else (laws_FnExactFewestLines.j2 kj38 t275 t274 true))))) = some r := H
           have A59 := Aside0.mk A590
           clear A590
           replace H := Option.bind_eq_some_iff.mp H
           obtain ⟨t279, A600, H⟩ := H
           replace H : ((impl_FewestLines.f kj38 t277 t278 t279 a2).bind fun bt282 => ((laws_eqInt64S.f kj38 bt282.1 t251).bind fun t287 => (if t287 = true then (if bt282.2.1 = t254 then (laws_FnExactFewestLines.j2 kj38 t275 t274 (bt282.2.2 != t255)) else (laws_FnExactFewestLines.j2 kj38 t275 t274 true)) else (laws_FnExactFewestLines.j2 kj38 t275 t274 true)))) = some r := H
           have A60 := Aside0.mk A600
           clear A600
           replace H := Option.bind_eq_some_iff.mp H
           obtain ⟨⟨t282, t285, t286⟩, A610, H⟩ := H
           replace H : ((laws_eqInt64S.f kj38 t282 t251).bind fun t287 => (if t287 = true then (if t285 = t254 then (laws_FnExactFewestLines.j2 kj38 t275 t274 (t286 != t255)) else (laws_FnExactFewestLines.j2 kj38 t275 t274 true)) else (laws_FnExactFewestLines.j2 kj38 t275 t274 true))) = some r := H
           have A61 := Aside0.mk A610
           clear A610
           have HC62 := Aside0.mk H
           clear H
           obtain ⟨Ao63, co63, eo63⟩ := Kd.R_slice HO_12.out
           subst eo63
           go_upto_region 25 with (first | ((with_reducible refine gate_callee (f := 61) rfl ?_); refine goesL_ (some 89) rfl rfl Try.func61 (by kernel_rfl) rfl #[.slice Ao63 t261.length co63, .int .i64 1] rfl (by (try simp only [List.map_toArray, List.map_cons, List.map_nil]); first | done | rfl | (simp only [List.length_drop, List.length_take]; rfl)) ?_; (with_reducible refine (laws_markInt64S.calls kj38 (fun k_ => some k_ = (.slice Ao63 t261.length co63 : Value).ownBlock) (.slice Ao63 t261.length co63) t261 1 t274 t275 w _ ?side1 ?side2 A55.out).mono ?_); (case side1 => repeat (first | (with_reducible first | exact HB.out | apply below_alloc | apply pw_below_drewN | apply below_drew1 | refine below_set ?_ GE244.out) | exact HB.out)); (case side2 => exact Kd.R_tight rfl HO_12.out); rintro e w64 ⟨rfl, hy0, hb, hkp⟩; refine ⟨_, rfl, ?_⟩; have n0_ := Aside0.mk (Kd.R_mono (ok' := fun k_ => some k_ ≠ (.slice Ao63 t261.length co63 : Value).ownBlock) (Kd.R_keptB (HO_8.out) hkp (fun k_ hk_ hs_ => (hk_) hs_)) (fun k_ hk_ => hk_.1)); have n1_ := Aside0.mk (Kd.R_reok rfl hy0 (fun k_ e_ => HO_12.out.1 k_ e_)); have n2_ := Aside0.mk (blk_kept (by (with_reducible repeat (first | refine blk_drewN ?_ _ | refine blk_drew ?_ | refine blk_alloc ?_ _)); exact BK244.out) hkp (fun hs_ => (fun e_ => (Kd.R_ne HO_12.out BK244.out (by decide)) e_) hs_)); have n3_ := Aside0.mk (hb); clear HO_8; clear HO_12; clear BK244; clear HB; have HO_8 := n0_; have HO_12 := n1_; have BK244 := n2_; have HB := n3_; clear n0_ n1_ n2_ n3_; (try clear hb); (try clear hkp); (try clear hy0)) | ((with_reducible refine gate_callee (f := 62) rfl ?_); refine goesL_ (some 92) rfl rfl Try.func62 (by kernel_rfl) rfl #[.slice Ao63 t275.length co63, .int .i64 1] rfl (by (try simp only [List.map_toArray, List.map_cons, List.map_nil]); first | done | (rw [show t275.length = t261.length from (Kd.R_reads' HO_12.out).1.symm] <;> rfl) | rfl | (simp only [List.length_drop, List.length_take]; rfl)) ?_; (with_reducible refine (laws_heldInt64S.calls kj38 _ _ t275 1 t276 _ ?side1 ?side2 A56.out).mono ?_); (case side1 => repeat (first | exact (Kd.R_reads' HO_12.out).2.2 | (with_reducible refine Kd.C_alloc ?_ _) | (with_reducible refine Kd.C_drewN ?_ _) | (with_reducible refine Kd.C_drew ?_))); (case side2 => rw [show t275.length = t261.length from (Kd.R_reads' HO_12.out).1.symm]; exact (Kd.R_reads' HO_12.out).2.1); rintro e w' ⟨rfl, ⟨nd, rfl⟩⟩; refine ⟨_, rfl, ?_⟩; have hcz65_0 : w64.cell? ⟨gb244, 0, none⟩ = some (.int .i16 a0_0) := (blk_cell BK244.out 0).trans rfl; have hcz65_1 : w64.cell? ⟨gb244, 1, none⟩ = some (.int .i16 a0_1) := (blk_cell BK244.out 1).trans rfl; have hfz65_0 := blk_frozen BK244.out 0; have hfz65_1 := blk_frozen BK244.out 1) | ((with_reducible refine gate_callee (f := 56) rfl ?_); refine goesL_ (some 100) rfl rfl Try.func56 (by kernel_rfl) rfl #[.agg #[.int .i16 a0_0, .int .i16 a0_1]] rfl (by (try simp only [List.map_toArray, List.map_cons, List.map_nil]); first | done | rfl | (simp only [List.length_drop, List.length_take]; rfl)) ?_; (with_reducible refine (laws_toLine.calls a0_0 a0_1 t277 t278 _ A59.out).mono ?_); rintro e w66 ⟨rfl, hb⟩; refine ⟨_, rfl, ?_⟩; have n0_ := Aside0.mk (Kd.R_below (by (with_reducible repeat (first | apply Kd.R_alloc | apply Kd.R_drewN | apply Kd.R_drew)); exact HO_8.out) hb); have n1_ := Aside0.mk (Kd.R_below (by (with_reducible repeat (first | apply Kd.R_alloc | apply Kd.R_drewN | apply Kd.R_drew)); exact HO_12.out) hb); have n2_ := Aside0.mk (blk_below (g := gb244) (o := .cells #[.int .i16 a0_0, .int .i16 a0_1] 59 (0, 0)) (by (with_reducible repeat (first | refine blk_drewN ?_ _ | refine blk_drew ?_ | refine blk_alloc ?_ _)); exact BK244.out) hb); have n3_ := Aside0.mk (below_step (by repeat (first | (with_reducible first | exact HB.out | apply below_alloc | apply pw_below_drewN | apply below_drew1 | refine below_set ?_ GE244.out) | exact HB.out)) hb); clear HO_8; clear HO_12; clear BK244; clear HB; have HO_8 := n0_; have HO_12 := n1_; have BK244 := n2_; have HB := n3_; clear n0_ n1_ n2_ n3_; (try clear hb); (try clear hb2); (try clear hk); (try clear hi)) | ((with_reducible refine gate_callee (f := 37) rfl ?_); refine goesL_ (some 102) rfl rfl Try.func37 (by kernel_rfl) rfl #[.slice A1 l1.length c1] rfl (by (try simp only [List.map_toArray, List.map_cons, List.map_nil]); first | done | rfl | (simp only [List.length_drop, List.length_take]; rfl)) ?_; (with_reducible refine (laws_toClothS.calls kj38 _ _ l1 t279 _ ?side1 ?side2 A60.out).mono ?_); (case side1 => repeat (first | exact (Kd.C_below HR1.out HB.out) | (with_reducible refine Kd.C_alloc ?_ _) | (with_reducible refine Kd.C_drewN ?_ _) | (with_reducible refine Kd.C_drew ?_))); (case side2 => exact HC1.out); rintro e w67 ⟨v280, rfl, ho0, hb⟩; refine ⟨_, rfl, ?_⟩; have n0_ := Aside0.mk (Kd.R_below (by (with_reducible repeat (first | apply Kd.R_alloc | apply Kd.R_drewN | apply Kd.R_drew)); exact HO_8.out) hb); have n1_ := Aside0.mk (Kd.R_below (by (with_reducible repeat (first | apply Kd.R_alloc | apply Kd.R_drewN | apply Kd.R_drew)); exact HO_12.out) hb); have n2_ := Aside0.mk (Kd.R_lower ho0 (below_size (by repeat (first | (with_reducible first | exact HB.out | apply below_alloc | apply pw_below_drewN | apply below_drew1 | refine below_set ?_ GE244.out) | exact HB.out)))); have n3_ := Aside0.mk (blk_below (g := gb244) (o := .cells #[.int .i16 a0_0, .int .i16 a0_1] 59 (0, 0)) (by (with_reducible repeat (first | refine blk_drewN ?_ _ | refine blk_drew ?_ | refine blk_alloc ?_ _)); exact BK244.out) hb); have n4_ := Aside0.mk (below_step (by repeat (first | (with_reducible first | exact HB.out | apply below_alloc | apply pw_below_drewN | apply below_drew1 | refine below_set ?_ GE244.out) | exact HB.out)) hb); clear HO_8; clear HO_12; clear BK244; clear HB; have HO_8 := n0_; have HO_12 := n1_; have HO281 := n2_; have BK244 := n3_; have HB := n4_; clear n0_ n1_ n2_ n3_ n4_; (try clear hb); (try clear hb2); (try clear hk); (try clear hi); (try clear ho0); obtain ⟨Ao68, co68, eo68⟩ := Kd.R_slice HO281.out; subst eo68) | ((with_reducible refine gate_callee (f := 25) rfl ?_); refine goesL_ (some 104) rfl rfl Try.func25 (by kernel_rfl) rfl #[.agg #[.int .i16 t277, .int .i16 t278], .slice Ao68 t279.length co68, .int .i64 a2] rfl (by (try simp only [List.map_toArray, List.map_cons, List.map_nil]); first | done | rfl | (simp only [List.length_drop, List.length_take]; rfl)) ?_; (with_reducible refine (impl_FewestLines.calls kj38 t277 t278 _ _ t279 a2 t282 t285 t286 _ ?side1 ?side2 A61.out).mono ?_); (case side1 => repeat (first | exact (Kd.R_reads' HO281.out).2.2 | (with_reducible refine Kd.C_alloc ?_ _) | (with_reducible refine Kd.C_drewN ?_ _) | (with_reducible refine Kd.C_drew ?_))); (case side2 => exact (Kd.R_reads' HO281.out).2.1); rintro e w69 ⟨v283, rfl, ho0, hb⟩; refine ⟨_, rfl, ?_⟩; have n0_ := Aside0.mk (Kd.R_elder' (by (with_reducible repeat (first | apply Kd.R_alloc | apply Kd.R_drewN | apply Kd.R_drew)); exact HO_8.out) (Kd.R_base ho0) hb); have n1_ := Aside0.mk (Kd.R_elder' (by (with_reducible repeat (first | apply Kd.R_alloc | apply Kd.R_drewN | apply Kd.R_drew)); exact HO_12.out) (Kd.R_base ho0) hb); have n2_ := Aside0.mk (Kd.R_below (by (with_reducible repeat (first | apply Kd.R_alloc | apply Kd.R_drewN | apply Kd.R_drew)); exact HO281.out) hb); have n3_ := Aside0.mk (Kd.R_lower (Kd.R_new' (Kd.R_new' ho0 (Kd.R_lt (by (with_reducible repeat (first | apply Kd.R_alloc | apply Kd.R_drewN | apply Kd.R_drew)); exact HO_8.out))) (Kd.R_lt (by (with_reducible repeat (first | apply Kd.R_alloc | apply Kd.R_drewN | apply Kd.R_drew)); exact HO_12.out))) (below_size (by repeat (first | (with_reducible first | exact HB.out | apply below_alloc | apply pw_below_drewN | apply below_drew1 | refine below_set ?_ GE244.out) | exact HB.out)))); have n4_ := Aside0.mk (blk_below (g := gb244) (o := .cells #[.int .i16 a0_0, .int .i16 a0_1] 59 (0, 0)) (by (with_reducible repeat (first | refine blk_drewN ?_ _ | refine blk_drew ?_ | refine blk_alloc ?_ _)); exact BK244.out) hb); have n5_ := Aside0.mk (below_step (by repeat (first | (with_reducible first | exact HB.out | apply below_alloc | apply pw_below_drewN | apply below_drew1 | refine below_set ?_ GE244.out) | exact HB.out)) hb); clear HO_8; clear HO_12; clear HO281; clear BK244; clear HB; have HO_8 := n0_; have HO_12 := n1_; have HO281 := n2_; have HO284 := n3_; have BK244 := n4_; have HB := n5_; clear n0_ n1_ n2_ n3_ n4_ n5_; (try clear hb); (try clear hb2); (try clear hk); (try clear hi); (try clear ho0)))
           (try simp only [Act.put, List.setIfInBounds_toArray, List.set_cons_zero, List.set_cons_succ])
           go_cut [121] (fun v121 wc => ∃ (kq : Nat) (x121_61 : Bool), v121 = .bool x121_61 ∧ Aside0 (laws_FnExactFewestLines.j2 kq t275 t274 x121_61 = some r) ∧ Aside0 (kq ≤ kj38) ∧ Aside0 (Kd.R (Kd.int .i64) 2 wc w.heap.size (fun _ => True) (.slice Ao63 t261.length co63) t275) ∧ Aside0 (wc.heap[gb244]? = some (.cells #[.int .i16 a0_0, .int .i16 a0_1] 59 (0, 0))) ∧ Aside0 (Below w.heap.size w wc))
           case first =>
            have H := HC62.out
            clear HC62
            replace H := Option.bind_eq_some_iff.mp H
            obtain ⟨t287, A700, H⟩ := H
            replace H : (if t287 = true then (if t285 = t254 then (laws_FnExactFewestLines.j2 kj38 t275 t274 (t286 != t255)) else (laws_FnExactFewestLines.j2 kj38 t275 t274 true)) else (laws_FnExactFewestLines.j2 kj38 t275 t274 true)) = some r := H
            have A70 := Aside0.mk A700
            clear A700
            by_cases c71 : t287 = true
            ·subst c71
             have H1 : (if t285 = t254 then (laws_FnExactFewestLines.j2 kj38 t275 t274 (t286 != t255)) else (laws_FnExactFewestLines.j2 kj38 t275 t274 true)) = some r := by rw [if_pos rfl] at H; exact H
             clear H
             have H := H1
             clear H1
             by_cases c72 : t285 = t254
             ·rw [if_pos c72] at H
              have c72b0 : (t285 == t254) = true := beq_iff_eq.mpr c72
              have c72b1 : (t285 != t254) = false := bne_eq_false_iff_eq.mpr c72
              clear c72
              (first | rw [c72b0] | (simp only [i64_w, i32_w]; rw [c72b0]) | skip)
              have H' := Aside0.mk H
              clear H
              obtain ⟨Ao73, co73, eo73⟩ := Kd.R_slice HO284.out
              subst eo73
              obtain ⟨Ao74, co74, eo74⟩ := Kd.R_slice HO_8.out
              subst eo74
              go_wp2_with (first | ((with_reducible refine gate_callee (f := 59) rfl ?_); refine goesL_ (some 110) rfl rfl Try.func59 (by kernel_rfl) rfl #[.slice Ao73 t282.length co73, .slice Ao74 t251.length co74] rfl (by (try simp only [List.map_toArray, List.map_cons, List.map_nil]); first | done | rfl | (simp only [List.length_drop, List.length_take]; rfl)) ?_; (with_reducible refine (laws_eqInt64S.calls kj38 _ _ t282 _ _ t251 true _ ?side1 ?side2 ?side3 ?side4 A70.out).mono ?_); (case side1 => repeat (first | exact (Kd.R_reads' HO284.out).2.2 | (with_reducible refine Kd.C_alloc ?_ _) | (with_reducible refine Kd.C_drewN ?_ _) | (with_reducible refine Kd.C_drew ?_))); (case side2 => exact (Kd.R_reads' HO284.out).2.1); (case side3 => repeat (first | exact (Kd.R_reads' HO_8.out).2.2 | (with_reducible refine Kd.C_alloc ?_ _) | (with_reducible refine Kd.C_drewN ?_ _) | (with_reducible refine Kd.C_drew ?_))); (case side4 => exact (Kd.R_reads' HO_8.out).2.1); rintro e w' ⟨rfl, ⟨nd, rfl⟩⟩; refine ⟨_, rfl, ?_⟩))
              go_meet
              case rel => exact ⟨_, ((t286 != t255)), (by first | rfl | (simp; done) | (simp [*]; done)), H', ⟨by have := HJ12.out; have := HJ38.out; first | omega | exact Nat.le_refl _⟩, ⟨by (with_reducible repeat (first | apply Kd.R_alloc | apply Kd.R_drewN | apply Kd.R_drew)); exact Kd.R_mono HO_12.out (fun _ hk => trivial)⟩, ⟨by (with_reducible repeat (first | refine blk_drewN ?_ _ | refine blk_drew ?_ | refine blk_alloc ?_ _)); exact BK244.out⟩, ⟨by repeat (first | (with_reducible first | exact HB.out | apply below_alloc | apply pw_below_drewN | apply below_drew1 | refine below_set ?_ GE244.out) | exact HB.out)⟩⟩
             ·rw [if_neg c72] at H
              have c72b0 : (t285 == t254) = false := beq_eq_false_iff_ne.mpr c72
              have c72b1 : (t285 != t254) = true := bne_iff_ne.mpr c72
              (first | rw [c72b0] | (simp only [i64_w, i32_w]; rw [c72b0]) | skip)
              have H' := Aside0.mk H
              clear H
              obtain ⟨Ao75, co75, eo75⟩ := Kd.R_slice HO284.out
              subst eo75
              obtain ⟨Ao76, co76, eo76⟩ := Kd.R_slice HO_8.out
              subst eo76
              go_wp2_with (first | ((with_reducible refine gate_callee (f := 59) rfl ?_); refine goesL_ (some 110) rfl rfl Try.func59 (by kernel_rfl) rfl #[.slice Ao75 t282.length co75, .slice Ao76 t251.length co76] rfl (by (try simp only [List.map_toArray, List.map_cons, List.map_nil]); first | done | rfl | (simp only [List.length_drop, List.length_take]; rfl)) ?_; (with_reducible refine (laws_eqInt64S.calls kj38 _ _ t282 _ _ t251 true _ ?side1 ?side2 ?side3 ?side4 A70.out).mono ?_); (case side1 => repeat (first | exact (Kd.R_reads' HO284.out).2.2 | (with_reducible refine Kd.C_alloc ?_ _) | (with_reducible refine Kd.C_drewN ?_ _) | (with_reducible refine Kd.C_drew ?_))); (case side2 => exact (Kd.R_reads' HO284.out).2.1); (case side3 => repeat (first | exact (Kd.R_reads' HO_8.out).2.2 | (with_reducible refine Kd.C_alloc ?_ _) | (with_reducible refine Kd.C_drewN ?_ _) | (with_reducible refine Kd.C_drew ?_))); (case side4 => exact (Kd.R_reads' HO_8.out).2.1); rintro e w' ⟨rfl, ⟨nd, rfl⟩⟩; refine ⟨_, rfl, ?_⟩))
              go_meet
              case rel => exact ⟨_, (true), (by first | rfl | (simp; done) | (simp [*]; done)), H', ⟨by have := HJ12.out; have := HJ38.out; first | omega | exact Nat.le_refl _⟩, ⟨by (with_reducible repeat (first | apply Kd.R_alloc | apply Kd.R_drewN | apply Kd.R_drew)); exact Kd.R_mono HO_12.out (fun _ hk => trivial)⟩, ⟨by (with_reducible repeat (first | refine blk_drewN ?_ _ | refine blk_drew ?_ | refine blk_alloc ?_ _)); exact BK244.out⟩, ⟨by repeat (first | (with_reducible first | exact HB.out | apply below_alloc | apply pw_below_drewN | apply below_drew1 | refine below_set ?_ GE244.out) | exact HB.out)⟩⟩
            ·replace c71 := Bool.eq_false_iff.mpr c71
             subst c71
             have H1 : (laws_FnExactFewestLines.j2 kj38 t275 t274 true) = some r := by rw [if_neg (show ¬ (false = true) by decide)] at H; exact H
             clear H
             have H := H1
             clear H1
             have H' := Aside0.mk H
             clear H
             obtain ⟨Ao77, co77, eo77⟩ := Kd.R_slice HO284.out
             subst eo77
             obtain ⟨Ao78, co78, eo78⟩ := Kd.R_slice HO_8.out
             subst eo78
             go_wp2_with (first | ((with_reducible refine gate_callee (f := 59) rfl ?_); refine goesL_ (some 110) rfl rfl Try.func59 (by kernel_rfl) rfl #[.slice Ao77 t282.length co77, .slice Ao78 t251.length co78] rfl (by (try simp only [List.map_toArray, List.map_cons, List.map_nil]); first | done | rfl | (simp only [List.length_drop, List.length_take]; rfl)) ?_; (with_reducible refine (laws_eqInt64S.calls kj38 _ _ t282 _ _ t251 false _ ?side1 ?side2 ?side3 ?side4 A70.out).mono ?_); (case side1 => repeat (first | exact (Kd.R_reads' HO284.out).2.2 | (with_reducible refine Kd.C_alloc ?_ _) | (with_reducible refine Kd.C_drewN ?_ _) | (with_reducible refine Kd.C_drew ?_))); (case side2 => exact (Kd.R_reads' HO284.out).2.1); (case side3 => repeat (first | exact (Kd.R_reads' HO_8.out).2.2 | (with_reducible refine Kd.C_alloc ?_ _) | (with_reducible refine Kd.C_drewN ?_ _) | (with_reducible refine Kd.C_drew ?_))); (case side4 => exact (Kd.R_reads' HO_8.out).2.1); rintro e w' ⟨rfl, ⟨nd, rfl⟩⟩; refine ⟨_, rfl, ?_⟩))
             go_meet
             case rel => exact ⟨_, (true), (by first | rfl | (simp; done) | (simp [*]; done)), H', ⟨by have := HJ12.out; have := HJ38.out; first | omega | exact Nat.le_refl _⟩, ⟨by (with_reducible repeat (first | apply Kd.R_alloc | apply Kd.R_drewN | apply Kd.R_drew)); exact Kd.R_mono HO_12.out (fun _ hk => trivial)⟩, ⟨by (with_reducible repeat (first | refine blk_drewN ?_ _ | refine blk_drew ?_ | refine blk_alloc ?_ _)); exact BK244.out⟩, ⟨by repeat (first | (with_reducible first | exact HB.out | apply below_alloc | apply pw_below_drewN | apply below_drew1 | refine below_set ?_ GE244.out) | exact HB.out)⟩⟩
           case rest =>
            clear HC62
            try clear c1
            try clear c2
            try clear p2
            try clear c3
            try clear c4
            try clear c5
            try clear c5b0
            try clear c6
            try clear c7
            try clear c17
            try clear c25
            try clear c26
            try clear c27
            try clear c27b0
            try clear c27b1
            try clear c34
            try clear c35
            try clear c37
            try clear c39
            try clear c44
            try clear c44b0
            try clear c46
            try clear c47
            try clear c47b0
            try clear c47b1
            try clear c54
            try clear c56
            try clear c57
            try clear c57b0
            try clear c58
            try clear c58b0
            try clear c58b1
            try clear c59
            try clear c60
            try clear c61
            try clear c62
            try clear c71
            try clear c72
            try clear c72b0
            try clear c72b1
            try clear hcz15_0
            try clear hcz15_1
            try clear hcz21_0
            try clear hcz21_1
            try clear hcz65_0
            try clear hcz65_1
            try clear hfz15_0
            try clear hfz15_1
            try clear hfz21_0
            try clear hfz21_1
            try clear hfz65_0
            try clear hfz65_1
            try clear p2
            obtain ⟨kq, x121_61, rfl, HA, HJ61, HO_12, BK244, HB⟩ := hcut
            have hl12_61 := (Kd.R_reads' HO_12.out).1
            rw [hl12_61] at HO_12
            (try simp only [hl12_61])
            (try simp only [hl12_61] at BK244)
            cases kq with
            | zero => exact absurd HA.out (by simp [laws_FnExactFewestLines.j2])
            | succ kj61 =>
             have H := HA.out
             clear HA
             simp only [laws_FnExactFewestLines.j2] at H
             by_cases c79 : x121_61 = true
             ·subst c79
              have H1 : (none) = some r := by rw [if_pos rfl] at H; exact H
              clear H
              have H := H1
              clear H1
              exact absurd H (by simp)
             ·replace c79 := Bool.eq_false_iff.mpr c79
              subst c79
              have H1 : ((laws_heldInt64S.f kj61 t275 1).bind fun t288 => (if t288 < 0 then (none) else (if t288 = t274 then (some true) else (none)))) = some r := by rw [if_neg (show ¬ (false = true) by decide)] at H; exact H
              clear H
              have H := H1
              clear H1
              replace H := Option.bind_eq_some_iff.mp H
              obtain ⟨t288, A800, H⟩ := H
              replace H : (if t288 < 0 then (none) else (if t288 = t274 then (some true) else (none))) = some r := H
              have A80 := Aside0.mk A800
              clear A800
              by_cases c81 : t288 < 0
              ·rw [if_pos c81] at H
               exact absurd H (by simp)
              ·rw [if_neg c81] at H
               have c81b0 : decide (t288 < 0) = false := decide_eq_false c81
               clear c81
               by_cases c82 : t288 = t274
               ·rw [if_pos c82] at H
                have c82b0 : (t288 == t274) = true := beq_iff_eq.mpr c82
                have c82b1 : (t288 != t274) = false := bne_eq_false_iff_eq.mpr c82
                clear c82
                obtain rfl := Option.some.inj H
                go_wp2_with (first | ((with_reducible refine gate_callee (f := 62) rfl ?_); refine goesL_ (some 124) rfl rfl Try.func62 (by kernel_rfl) rfl #[.slice Ao63 t275.length co63, .int .i64 1] rfl (by (try simp only [List.map_toArray, List.map_cons, List.map_nil]); first | done | rfl | (simp only [List.length_drop, List.length_take]; rfl)) ?_; (with_reducible refine (laws_heldInt64S.calls kj61 _ _ t275 1 t288 _ ?side1 ?side2 A80.out).mono ?_); (case side1 => repeat (first | exact (Kd.R_reads' HO_12.out).2.2 | (with_reducible refine Kd.C_alloc ?_ _) | (with_reducible refine Kd.C_drewN ?_ _) | (with_reducible refine Kd.C_drew ?_))); (case side2 => exact (Kd.R_reads' HO_12.out).2.1); rintro e w' ⟨rfl, ⟨nd, rfl⟩⟩; refine ⟨_, rfl, ?_⟩))
                go_ret
                exact ⟨by first | rfl | (simp [errW_none, errW_some] <;> rfl) | (simp [*, errW_none, errW_some] <;> rfl), by repeat (first | (with_reducible first | exact HB.out | apply below_alloc | apply pw_below_drewN | apply below_drew1 | refine below_set ?_ GE244.out) | exact HB.out)⟩
               ·rw [if_neg c82] at H
                exact absurd H (by simp)
          ·rw [if_neg c58] at H
           exact absurd H (by simp)
     ·replace c37 := Bool.eq_false_iff.mpr c37
      subst c37
      have H1 : (none) = some r := by rw [if_neg (show ¬ (false = true) by decide)] at H; exact H
      clear H
      have H := H1
      clear H1
      exact absurd H (by simp)

end Go.Proofs.Ytlkpgpnieodifaa.Fl
