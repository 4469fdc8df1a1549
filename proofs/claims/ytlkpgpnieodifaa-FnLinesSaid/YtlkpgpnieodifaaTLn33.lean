/- Words and walks for the law FnLines. -/
import Derived.Test.YtlkpgpnieodifaaTLn22
import Derived.Test.YtlkpgpnieodifaaTLn23
import Derived.Test.YtlkpgpnieodifaaTLn26
import Derived.Test.YtlkpgpnieodifaaTLn29
import Derived.Test.YtlkpgpnieodifaaTLn30
import Derived.Test.YtlkpgpnieodifaaTLn31
import Derived.Test.YtlkpgpnieodifaaTLn32
namespace Go.Proofs.Ytlkpgpnieodifaa.Ln
open Go.RowKit Go.Proofs.YtlkpgpnieodifaaW.PrintWords Go.Proofs.YtlkpgpnieodifaaW.PrintLast Go.Proofs.YtlkpgpnieodifaaW.PrintMore
attribute [local go_sem] max2_int min2_int max_two min_two max_three min_three max_four min_four   -- for this text's walks alone
set_option linter.unusedVariables false
set_option linter.unusedSimpArgs false
mutual
def laws_FnLines.j0 : Nat → List (S38) → Int → List Int → Int → Int → List Int → Int → Bool → Int → Int → Option (Bool)
 | 0, _, _, _, _, _, _, _, _, _, _ => none
 | k + 1, x5, x9, x10, x11, x15, x16, x17, x122, x332000, x332001 => if x122 = true then (none) else (if x9 = 0 then ((impl_CheckLines.f k x332000 x332001 x5 x10).bind fun bt360 => (if bt360.2 = 0 then (if bt360.1 = true then (if (x10.length : Int) = (x5.length : Int) then (laws_FnLines.j2 k x5 x11 x15 x16 x17 (decide (x11 > (x5.length : Int))) x332000 x332001) else (none)) else (none)) else (none))) else (laws_FnLines.l0 k x5 false 0 x332000 x332001))
def laws_FnLines.j2 : Nat → List (S38) → Int → Int → List Int → Int → Bool → Int → Int → Option (Bool)
 | 0, _, _, _, _, _, _, _, _ => none
 | k + 1, x5, x11, x15, x16, x17, x174, x332000, x332001 => if x174 = true then (none) else (if x15 = 0 then ((impl_CheckLines.f k x332000 x332001 x5 x16).bind fun bt362 => (laws_FnLines.l1 k x5 x11 x16 x17 bt362.1 bt362.2 0 0 x332000 x332001)) else (laws_FnLines.j6 k x5 x332000 x332001))
def laws_FnLines.j6 : Nat → List (S38) → Int → Int → Option (Bool)
 | 0, _, _, _ => none
 | k + 1, x5, x332000, x332001 => (some (([(⟨40, 100⟩ : S28), (⟨x332000, x332001⟩ : S28), (⟨400, 2000⟩ : S28)] : List (S28)) : List (S28))).bind fun y377 => ((impl_WhichLine.f k y377 x5).bind fun bt380 => ((spec_WhichLine.f k y377 x5).bind fun bt382 => (if bt380.2 = bt382.2 then (if bt380.1 = bt382.1 then (if bt380.2 = 0 then (laws_FnLines.j7 k x5 y377 bt380.2 bt382.1 false) else (laws_FnLines.j7 k x5 y377 bt380.2 bt382.1 (bt380.2 != 6))) else (none)) else (none))))
def laws_FnLines.j7 : Nat → List (S38) → List (S28) → Int → Int → Bool → Option (Bool)
 | 0, _, _, _, _, _ => none
 | k + 1, x5, x35, x37, x38, x299 => if x299 = true then (none) else (laws_FnLines.l2 k x5 x35 x37 x38 0)
def laws_FnLines.l2 : Nat → List (S38) → List (S28) → Int → Int → Int → Option (Bool)
 | 0, _, _, _, _, _ => none
 | k + 1, x5, x35, x37, x38, x40 => if x40 < 3 then (if 0 ≤ x40 then (if x40 < (x35.length : Int) then ((impl_FitsLine.f k ((rd_T28 x35 x40).f0) ((rd_T28 x35 x40).f1) x5).bind fun bt385 => (if bt385.2 = 0 then (if x37 = 0 then (if x40 < x38 then (if bt385.1 = true then (none) else (if x40 = x38 then (none) else (laws_FnLines.l2 k x5 x35 x37 x38 (wrap64 (x40 + 1))))) else (if x40 = x38 then (if bt385.1 = true then (laws_FnLines.l2 k x5 x35 x37 x38 (wrap64 (x40 + 1))) else (none)) else (laws_FnLines.l2 k x5 x35 x37 x38 (wrap64 (x40 + 1))))) else (if bt385.1 = true then (none) else (laws_FnLines.l2 k x5 x35 x37 x38 (wrap64 (x40 + 1))))) else (none))) else (none)) else (none)) else (some true)
def laws_FnLines.l1 : Nat → List (S38) → Int → List Int → Int → Bool → Int → Int → Int → Int → Int → Option (Bool)
 | 0, _, _, _, _, _, _, _, _, _, _ => none
 | k + 1, x5, x11, x16, x17, x25, x26, x27, x28, x332000, x332001 => if x28 < (x16.length : Int) then (if 0 ≤ x28 then (if (rd x16 x28) < 0 then (none) else (laws_FnLines.j4 k x5 x11 x16 x17 x25 x26 x27 x28 (decide ((rd x16 x28) > x27)) x332000 x332001)) else (none)) else ((impl_FewestLines.f k x332000 x332001 x5 x17).bind fun bt367 => (if x26 = 0 then (if x25 = true then (if (x16.length : Int) = (x5.length : Int) then (if x27 > x11 then (none) else (if ((x27 == 0) != ((x5.length : Int) == 0)) = true then (none) else (if bt367.2.2 = 0 then (laws_FnLines.j5 k x5 x17 (decide (x17 < (x5.length : Int))) x332000 x332001) else (none)))) else (none)) else (none)) else (none)))
def laws_FnLines.j4 : Nat → List (S38) → Int → List Int → Int → Bool → Int → Int → Int → Bool → Int → Int → Option (Bool)
 | 0, _, _, _, _, _, _, _, _, _, _, _ => none
 | k + 1, x5, x11, x16, x17, x25, x26, x27, x28, x202, x332000, x332001 => if x202 = true then (none) else (if 0 ≤ x28 then (if x28 < (x16.length : Int) then (if (rd x16 x28) = x27 then (laws_FnLines.l1 k x5 x11 x16 x17 x25 x26 (wrap64 (x27 + 1)) (wrap64 (x28 + 1)) x332000 x332001) else (laws_FnLines.l1 k x5 x11 x16 x17 x25 x26 x27 (wrap64 (x28 + 1)) x332000 x332001)) else (none)) else (none))
def laws_FnLines.j5 : Nat → List (S38) → Int → Bool → Int → Int → Option (Bool)
 | 0, _, _, _, _, _ => none
 | k + 1, x5, x17, x254, x332000, x332001 => if x254 = true then (none) else (if x17 > 0 then ((impl_FewestLines.f k x332000 x332001 x5 (wrap64 (x17 - 1))).bind fun bt372 => (if bt372.2.2 = 7 then (laws_FnLines.j6 k x5 x332000 x332001) else (none))) else (laws_FnLines.j6 k x5 x332000 x332001))
def laws_FnLines.l0 : Nat → List (S38) → Bool → Int → Int → Int → Option (Bool)
 | 0, _, _, _, _, _ => none
 | k + 1, x5, x19, x20, x332000, x332001 => if x20 < (x5.length : Int) then (if 0 ≤ x20 then ((impl_FitsLine.f k x332000 x332001 (([(⟨(rd_T38 x5 x20).f0, (rd_T38 x5 x20).f1⟩ : S38)] : List (S38)))).bind fun bt358 => (if bt358.2 = 0 then (if x19 = true then (laws_FnLines.l0 k x5 true (wrap64 (x20 + 1)) x332000 x332001) else (laws_FnLines.l0 k x5 (!bt358.1) (wrap64 (x20 + 1)) x332000 x332001)) else (none))) else (none)) else (some x19)
end
def laws_FnLines.f (k : Nat) (l0 : List Int) (l1 : List Int) : Option (Bool) := (laws_a2Long.f l0 l1).bind fun t325 => (if t325 = true then (some true) else ((spec_A2Cloths.f k l0 5).bind fun t326 => ((spec_A2Line.f l1).bind fun bt329 => ((impl_FirstLines.f k bt329.1 bt329.2 t326).bind fun bt332 => ((spec_FirstLines.f k bt329.1 bt329.2 t326).bind fun bt337 => ((impl_FewestLines.f k bt329.1 bt329.2 t326 3000).bind fun bt342 => ((spec_FewestLines.f k bt329.1 bt329.2 t326 3000).bind fun bt347 => (if bt332.2.2 = bt337.2.2 then ((spec_A2Same.f k bt332.1 bt337.1).bind fun t352 => (if t352 = true then (if bt332.2.1 = bt337.2.1 then (if bt342.2.2 = bt347.2.2 then ((spec_A2Same.f k bt342.1 bt347.1).bind fun t353 => (if t353 = true then (if bt342.2.1 = bt347.2.1 then (if bt332.2.2 = 0 then (laws_FnLines.j0 k t326 bt332.2.2 bt337.1 bt337.2.1 bt342.2.2 bt347.1 bt347.2.1 ((bt332.2.2 == 6) != (bt342.2.2 == 6)) bt329.1 bt329.2) else (if bt332.2.2 = 6 then (laws_FnLines.j0 k t326 bt332.2.2 bt337.1 bt337.2.1 bt342.2.2 bt347.1 bt347.2.1 ((bt332.2.2 == 6) != (bt342.2.2 == 6)) bt329.1 bt329.2) else (none))) else (none)) else (none))) else (none)) else (none)) else (none))) else (none)))))))))
def laws_FnLines.T16 : Bool × List (List Nat × List Nat) := (true, [([], []), ([], []), ([], []), ([1, 2], [1, 2]), ([3], [3]), ([4], [4]), ([0, 5], [0, 5]), ([6], [6]), ([7], [7]), ([7], [7]), ([8, 6, 0, 1, 2, 3, 4, 5, 6, 7, 8], [8]), ([9, 10, 0, 1, 2, 3, 4, 5, 6, 7, 8, 9, 10], [9])])
def laws_FnLines.B16 : List Nat := [0, 0, 0, 6, 14, 30, 63, 127, 255, 255, 511, 2047]
theorem laws_FnLines.tab16 : rtab .any (opsOf Try.f3 16) = laws_FnLines.T16 := by kernel_rfl
theorem laws_FnLines.bits16 : waitsOk laws_FnLines.T16.2 laws_FnLines.B16 = true := by kernel_rfl
set_option maxHeartbeats 8000000 in
set_option maxRecDepth 100000 in
noncomputable def laws_FnLines.calls_all_p : {P : Prop // (Unit → P) → (∀ (k : Nat) (A0 : Option Addr) (c0 : Nat) (l0 : List Int) (A1 : Option Addr) (c1 : Nat) (l1 : List Int) (r : Bool) (w : World) (hr0 : Kd.C (Kd.int .u8) w A0 l0.length l0) (hc0 : l0.length ≤ c0) (hr1 : Kd.C (Kd.int .u8) w A1 l1.length l1) (hc1 : l1.length ≤ c1) (h : laws_FnLines.f k l0 l1 = some r), Calls Try.prog 3 #[.slice A0 l0.length c0, .slice A1 l1.length c1] w fun e w' => e = .returned (.bool r) ∧ Below w.heap.size w w')} :=
  ⟨_, fun hole1 => by
    intro k A0 c0 l0 A1 c1 l1 r w hr0 hc0 hr1 hc1 h
    have hu28 := Try.underlying28
    have hu38 := Try.underlying38
    have HR0 := Aside0.mk hr0
    have HC0 := Aside0.mk hc0
    clear hr0 hc0
    have HR1 := Aside0.mk hr1
    have HC1 := Aside0.mk hc1
    clear hr1 hc1
    have HB := Aside0.mk (Below.refl w.heap.size w)
    have H : ((laws_a2Long.f l0 l1).bind fun t325 => (if t325 = true then (some true) else ((spec_A2Cloths.f k l0 5).bind fun t326 => ((spec_A2Line.f l1).bind fun bt329 => ((impl_FirstLines.f k bt329.1 bt329.2 t326).bind fun bt332 => ((spec_FirstLines.f k bt329.1 bt329.2 t326).bind fun bt337 => ((impl_FewestLines.f k bt329.1 bt329.2 t326 3000).bind fun bt342 => ((spec_FewestLines.f k bt329.1 bt329.2 t326 3000).bind fun bt347 => (if bt332.2.2 = bt337.2.2 then ((spec_A2Same.f k bt332.1 bt337.1).bind fun t352 => (if t352 = true then (if bt332.2.1 = bt337.2.1 then (if bt342.2.2 = bt347.2.2 then ((spec_A2Same.f k bt342.1 bt347.1).bind fun t353 => (if t353 = true then (if bt342.2.1 = bt347.2.1 then (if bt332.2.2 = 0 then (laws_FnLines.j0 k t326 bt332.2.2 bt337.1 bt337.2.1 bt342.2.2 bt347.1 bt347.2.1 ((bt332.2.2 == 6) != (bt342.2.2 == 6)) bt329.1 bt329.2) else (if bt332.2.2 = 6 then (laws_FnLines.j0 k t326 bt332.2.2 bt337.1 bt337.2.1 bt342.2.2 bt347.1 bt347.2.1 ((bt332.2.2 == 6) != (bt342.2.2 == 6)) bt329.1 bt329.2) else (none))) else (none)) else (none))) else (none)) else (none)) else (none))) else (none)))))))))) = some r := h
    clear h
    replace H := Option.bind_eq_some_iff.mp H
    obtain ⟨t325, A30, H⟩ := H
    replace H : (if t325 = true then (some true) else ((spec_A2Cloths.f k l0 5).bind fun t326 => ((spec_A2Line.f l1).bind fun bt329 => ((impl_FirstLines.f k bt329.1 bt329.2 t326).bind fun bt332 => ((spec_FirstLines.f k bt329.1 bt329.2 t326).bind fun bt337 => ((impl_FewestLines.f k bt329.1 bt329.2 t326 3000).bind fun bt342 => ((spec_FewestLines.f k bt329.1 bt329.2 t326 3000).bind fun bt347 => (if bt332.2.2 = bt337.2.2 then ((spec_A2Same.f k bt332.1 bt337.1).bind fun t352 => (if t352 = true then (if bt332.2.1 = bt337.2.1 then (if bt342.2.2 = bt347.2.2 then ((spec_A2Same.f k bt342.1 bt347.1).bind fun t353 => (if t353 = true then (if bt342.2.1 = bt347.2.1 then (if bt332.2.2 = 0 then (laws_FnLines.j0 k t326 bt332.2.2 bt337.1 bt337.2.1 bt342.2.2 bt347.1 bt347.2.1 ((bt332.2.2 == 6) != (bt342.2.2 == 6)) bt329.1 bt329.2) else (if bt332.2.2 = 6 then (laws_FnLines.j0 k t326 bt332.2.2 bt337.1 bt337.2.1 bt342.2.2 bt347.1 bt347.2.1 ((bt332.2.2 == 6) != (bt342.2.2 == 6)) bt329.1 bt329.2) else (none))) else (none)) else (none))) else (none)) else (none)) else (none))) else (none))))))))) = some r := H
    have A3 := Aside0.mk A30
    clear A30
    by_cases c4 : t325 = true
    ·subst c4
     have H1 : (some true) = some r := by rw [if_pos rfl] at H; exact H
     clear H
     have H := H1
     clear H1
     obtain rfl := Option.some.inj H
     go_enter Try.func3, Try.ntmps3
     go_wp2_with (first | ((with_reducible refine gate_callee (f := 20) rfl ?_); refine goesL_ (some 45) rfl rfl Try.func20 (by kernel_rfl) rfl #[.slice A0 l0.length c0, .slice A1 l1.length c1] rfl (by (try simp only [List.map_toArray, List.map_cons, List.map_nil]); first | done | rfl | (simp only [List.length_drop, List.length_take]; rfl)) ?_; (with_reducible refine (laws_a2Long.calls _ _ l0 _ _ l1 true _ ?side1 ?side2 ?side3 ?side4 A3.out).mono ?_); (case side1 => repeat (first | exact HR0.out | (with_reducible refine Kd.C_alloc ?_ _) | (with_reducible refine Kd.C_drewN ?_ _) | (with_reducible refine Kd.C_drew ?_))); (case side2 => exact HC0.out); (case side3 => repeat (first | exact HR1.out | (with_reducible refine Kd.C_alloc ?_ _) | (with_reducible refine Kd.C_drewN ?_ _) | (with_reducible refine Kd.C_drew ?_))); (case side4 => exact HC1.out); rintro e w' ⟨rfl, ⟨nd, rfl⟩⟩; refine ⟨_, rfl, ?_⟩))
     go_ret
     exact ⟨by first | rfl | (simp [errW_none, errW_some] <;> rfl) | (simp [*, errW_none, errW_some] <;> rfl), by repeat (first | (with_reducible first | exact HB.out | apply below_alloc | apply pw_below_drewN | apply below_drew1) | exact HB.out)⟩
    ·replace c4 := Bool.eq_false_iff.mpr c4
     subst c4
     have H1 : ((spec_A2Cloths.f k l0 5).bind fun t326 => ((spec_A2Line.f l1).bind fun bt329 => ((impl_FirstLines.f k bt329.1 bt329.2 t326).bind fun bt332 => ((spec_FirstLines.f k bt329.1 bt329.2 t326).bind fun bt337 => ((impl_FewestLines.f k bt329.1 bt329.2 t326 3000).bind fun bt342 => ((spec_FewestLines.f k bt329.1 bt329.2 t326 3000).bind fun bt347 => (if bt332.2.2 = bt337.2.2 then ((spec_A2Same.f k bt332.1 bt337.1).bind fun t352 => (if t352 = true then (if bt332.2.1 = bt337.2.1 then (if bt342.2.2 = bt347.2.2 then ((spec_A2Same.f k bt342.1 bt347.1).bind fun t353 => (if t353 = true then (if bt342.2.1 = bt347.2.1 then (if bt332.2.2 = 0 then (laws_FnLines.j0 k t326 bt332.2.2 bt337.1 bt337.2.1 bt342.2.2 bt347.1 bt347.2.1 ((bt332.2.2 == 6) != (bt342.2.2 == 6)) bt329.1 bt329.2) else (if bt332.2.2 = 6 then (laws_FnLines.j0 k t326 bt332.2.2 bt337.1 bt337.2.1 bt342.2.2 bt347.1 bt347.2.1 ((bt332.2.2 == 6) != (bt342.2.2 == 6)) bt329.1 bt329.2) else (none))) else (none)) else (none))) else (none)) else (none)) else (none))) else (none)))))))) = some r := by rw [if_neg (show ¬ (false = true) by decide)] at H; exact H
     clear H
     have H := H1
     clear H1
     replace H := Option.bind_eq_some_iff.mp H
     obtain ⟨t326, A50, H⟩ := H
     replace H : ((spec_A2Line.f l1).bind fun bt329 => ((impl_FirstLines.f k bt329.1 bt329.2 t326).bind fun bt332 => ((spec_FirstLines.f k bt329.1 bt329.2 t326).bind fun bt337 => ((impl_FewestLines.f k bt329.1 bt329.2 t326 3000).bind fun bt342 => ((spec_FewestLines.f k bt329.1 bt329.2 t326 3000).bind fun bt347 => (if bt332.2.2 = bt337.2.2 then ((spec_A2Same.f k bt332.1 bt337.1).bind fun t352 => (if t352 = true then (if bt332.2.1 = bt337.2.1 then (if bt342.2.2 = bt347.2.2 then ((spec_A2Same.f k bt342.1 bt347.1).bind fun t353 => (if t353 = true then (if bt342.2.1 = bt347.2.1 then (if bt332.2.2 = 0 then (laws_FnLines.j0 k t326 bt332.2.2 bt337.1 bt337.2.1 bt342.2.2 bt347.1 bt347.2.1 ((bt332.2.2 == 6) != (bt342.2.2 == 6)) bt329.1 bt329.2) else (if bt332.2.2 = 6 then (laws_FnLines.j0 k t326 bt332.2.2 bt337.1 bt337.2.1 bt342.2.2 bt347.1 bt347.2.1 ((bt332.2.2 == 6) != (bt342.2.2 == 6)) bt329.1 bt329.2) else (none))) else (none)) else (none))) else (none)) else (none)) else (none))) else (none))))))) = some r := H
     have A5 := Aside0.mk A50
     clear A50
     replace H := Option.bind_eq_some_iff.mp H
     obtain ⟨⟨t329, t330⟩, A60, H⟩ := H
     replace H : ((impl_FirstLines.f k t329 t330 t326).bind fun bt332 => ((spec_FirstLines.f k t329 t330 t326).bind fun bt337 => ((impl_FewestLines.f k t329 t330 t326 3000).bind fun bt342 => ((spec_FewestLines.f k t329 t330 t326 3000).bind fun bt347 => (if bt332.2.2 = bt337.2.2 then ((spec_A2Same.f k bt332.1 bt337.1).bind fun t352 => (if t352 = true then (if bt332.2.1 = bt337.2.1 then (if bt342.2.2 = bt347.2.2 then ((spec_A2Same.f k bt342.1 bt347.1).bind fun t353 => (if t353 = true then (if bt342.2.1 = bt347.2.1 then (if bt332.2.2 = 0 then (laws_FnLines.j0 k t326 bt332.2.2 bt337.1 bt337.2.1 bt342.2.2 bt347.1 bt347.2.1 ((bt332.2.2 == 6) != (bt342.2.2 == 6)) t329 t330) else (if bt332.2.2 = 6 then (laws_FnLines.j0 k t326 bt332.2.2 bt337.1 bt337.2.1 bt342.2.2 bt347.1 bt347.2.1 ((bt332.2.2 == 6) != (bt342.2.2 == 6)) t329 t330) else (none))) else (none)) else (none))) else (none)) else (none)) else (none))) else (none)))))) = some r := H
     have A6 := Aside0.mk A60
     clear A60
     replace H := Option.bind_eq_some_iff.mp H
     obtain ⟨⟨t332, t335, t336⟩, A70, H⟩ := H
     replace H : ((spec_FirstLines.f k t329 t330 t326).bind fun bt337 => ((impl_FewestLines.f k t329 t330 t326 3000).bind fun bt342 => ((spec_FewestLines.f k t329 t330 t326 3000).bind fun bt347 => (if t336 = bt337.2.2 then ((spec_A2Same.f k t332 bt337.1).bind fun t352 => (if t352 = true then (if t335 = bt337.2.1 then (if bt342.2.2 = bt347.2.2 then ((spec_A2Same.f k bt342.1 bt347.1).bind fun t353 => (if t353 = true then (if bt342.2.1 = bt347.2.1 then (if t336 = 0 then (laws_FnLines.j0 k t326 t336 bt337.1 bt337.2.1 bt342.2.2 bt347.1 bt347.2.1 ((t336 == 6) != (bt342.2.2 == 6)) t329 t330) else (if t336 = 6 then (laws_FnLines.j0 k t326 t336 bt337.1 bt337.2.1 bt342.2.2 bt347.1 bt347.2.1 ((t336 == 6) != (bt342.2.2 == 6)) t329 t330) else (none))) else (none)) else (none))) else (none)) else (none)) else (none))) else (none))))) = some r := H
     have A7 := Aside0.mk A70
     clear A70
     replace H := Option.bind_eq_some_iff.mp H
     obtain ⟨⟨t337, t340, t341⟩, A80, H⟩ := H
     replace H : ((impl_FewestLines.f k t329 t330 t326 3000).bind fun bt342 => ((spec_FewestLines.f k t329 t330 t326 3000).bind fun bt347 => (if t336 = t341 then ((spec_A2Same.f k t332 t337).bind fun t352 => (if t352 = true then (if t335 = t340 then (if bt342.2.2 = bt347.2.2 then ((spec_A2Same.f k bt342.1 bt347.1).bind fun t353 => (if t353 = true then (if bt342.2.1 = bt347.2.1 then (if t336 = 0 then (laws_FnLines.j0 k t326 t336 t337 t340 bt342.2.2 bt347.1 bt347.2.1 ((t336 == 6) != (bt342.2.2 == 6)) t329 t330) else (if t336 = 6 then (laws_FnLines.j0 k t326 t336 t337 t340 bt342.2.2 bt347.1 bt347.2.1 ((t336 == 6) != (bt342.2.2 == 6)) t329 t330) else (none))) else (none)) else (none))) else (none)) else (none)) else (none))) else (none)))) = some r := H
     have A8 := Aside0.mk A80
     clear A80
     replace H := Option.bind_eq_some_iff.mp H
     obtain ⟨⟨t342, t345, t346⟩, A90, H⟩ := H
     replace H : ((spec_FewestLines.f k t329 t330 t326 3000).bind fun bt347 => (if t336 = t341 then ((spec_A2Same.f k t332 t337).bind fun t352 => (if t352 = true then (if t335 = t340 then (if t346 = bt347.2.2 then ((spec_A2Same.f k t342 bt347.1).bind fun t353 => (if t353 = true then (if t345 = bt347.2.1 then (if t336 = 0 then (laws_FnLines.j0 k t326 t336 t337 t340 t346 bt347.1 bt347.2.1 ((t336 == 6) != (t346 == 6)) t329 t330) else (if t336 = 6 then (laws_FnLines.j0 k t326 t336 t337 t340 t346 bt347.1 bt347.2.1 ((t336 == 6) != (t346 == 6)) t329 t330) else (none))) else (none)) else (none))) else (none)) else (none)) else (none))) else (none))) = some r := H
     have A9 := Aside0.mk A90
     clear A90
     replace H := Option.bind_eq_some_iff.mp H
     obtain ⟨⟨t347, t350, t351⟩, A100, H⟩ := H
     replace H : (if t336 = t341 then ((spec_A2Same.f k t332 t337).bind fun t352 => (if t352 = true then (if t335 = t340 then (if t346 = t351 then ((spec_A2Same.f k t342 t347).bind fun t353 => (if t353 = true then (if t345 = t350 then (if t336 = 0 then (laws_FnLines.j0 k t326 t336 t337 t340 t346 t347 t350 ((t336 == 6) != (t346 == 6)) t329 t330) else (if t336 = 6 then (laws_FnLines.j0 k t326 t336 t337 t340 t346 t347 t350 ((t336 == 6) != (t346 == 6)) t329 t330) else (none))) else (none)) else (none))) else (none)) else (none)) else (none))) else (none)) = some r := H
     have A10 := Aside0.mk A100
     clear A100
     have HC11 := Aside0.mk H
     clear H
     go_enter Try.func3, Try.ntmps3
     go_upto_region 9 with (first | ((with_reducible refine gate_callee (f := 20) rfl ?_); refine goesL_ (some 45) rfl rfl Try.func20 (by kernel_rfl) rfl #[.slice A0 l0.length c0, .slice A1 l1.length c1] rfl (by (try simp only [List.map_toArray, List.map_cons, List.map_nil]); first | done | rfl | (simp only [List.length_drop, List.length_take]; rfl)) ?_; (with_reducible refine (laws_a2Long.calls _ _ l0 _ _ l1 false _ ?side1 ?side2 ?side3 ?side4 A3.out).mono ?_); (case side1 => repeat (first | exact HR0.out | (with_reducible refine Kd.C_alloc ?_ _) | (with_reducible refine Kd.C_drewN ?_ _) | (with_reducible refine Kd.C_drew ?_))); (case side2 => exact HC0.out); (case side3 => repeat (first | exact HR1.out | (with_reducible refine Kd.C_alloc ?_ _) | (with_reducible refine Kd.C_drewN ?_ _) | (with_reducible refine Kd.C_drew ?_))); (case side4 => exact HC1.out); rintro e w' ⟨rfl, ⟨nd, rfl⟩⟩; refine ⟨_, rfl, ?_⟩) | ((with_reducible refine gate_callee (f := 21) rfl ?_); refine goesL_ (some 47) rfl rfl Try.func21 (by kernel_rfl) rfl #[.slice A0 l0.length c0, .int .i64 5] rfl (by (try simp only [List.map_toArray, List.map_cons, List.map_nil]); first | done | rfl | (simp only [List.length_drop, List.length_take]; rfl)) ?_; (with_reducible refine (spec_A2Cloths.calls k _ _ l0 5 t326 _ ?side1 ?side2 A5.out).mono ?_); (case side1 => repeat (first | exact HR0.out | (with_reducible refine Kd.C_alloc ?_ _) | (with_reducible refine Kd.C_drewN ?_ _) | (with_reducible refine Kd.C_drew ?_))); (case side2 => exact HC0.out); rintro e w12 ⟨v327, rfl, ho0, hb⟩; refine ⟨_, rfl, ?_⟩; have n0_ := Aside0.mk (Kd.R_lower ho0 (below_size (by repeat (first | (with_reducible first | exact HB.out | apply below_alloc | apply pw_below_drewN | apply below_drew1) | exact HB.out)))); have n1_ := Aside0.mk (below_step (by repeat (first | (with_reducible first | exact HB.out | apply below_alloc | apply pw_below_drewN | apply below_drew1) | exact HB.out)) hb); clear HB; have HO328 := n0_; have HB := n1_; clear n0_ n1_; (try clear hb); (try clear hb2); (try clear hk); (try clear hi); (try clear ho0)) | ((with_reducible refine gate_callee (f := 22) rfl ?_); refine goesL_ (some 49) rfl rfl Try.func22 (by kernel_rfl) rfl #[.slice A1 l1.length c1] rfl (by (try simp only [List.map_toArray, List.map_cons, List.map_nil]); first | done | rfl | (simp only [List.length_drop, List.length_take]; rfl)) ?_; (with_reducible refine (spec_A2Line.calls _ _ l1 t329 t330 _ ?side1 ?side2 A6.out).mono ?_); (case side1 => repeat (first | exact (Kd.C_below HR1.out HB.out) | (with_reducible refine Kd.C_alloc ?_ _) | (with_reducible refine Kd.C_drewN ?_ _) | (with_reducible refine Kd.C_drew ?_))); (case side2 => exact HC1.out); rintro e w13 ⟨rfl, hb⟩; refine ⟨_, rfl, ?_⟩; have n0_ := Aside0.mk (Kd.R_below (by (with_reducible repeat (first | apply Kd.R_alloc | apply Kd.R_drewN | apply Kd.R_drew)); exact HO328.out) hb); have n1_ := Aside0.mk (below_step (by repeat (first | (with_reducible first | exact HB.out | apply below_alloc | apply pw_below_drewN | apply below_drew1) | exact HB.out)) hb); clear HO328; clear HB; have HO328 := n0_; have HB := n1_; clear n0_ n1_; (try clear hb); (try clear hb2); (try clear hk); (try clear hi)) | ((with_reducible refine gate_dst (N := 6) rfl ?_); (try (refine gate_guard (by rfl) ?_; dsimp only)); refine box_event ?hg (N := 6) ?hd (cs := #[.int .i16 0, .int .i16 0]) (t := 28) ?hr ?_; (case hd => rfl); (case hg => rfl); (case hr => first | (go_simp; done) | (go_simp; rfl)); intro gb331 hg w14 hbox hb; have n0_ := Aside0.mk (Kd.R_below (by (with_reducible repeat (first | apply Kd.R_alloc | apply Kd.R_drewN | apply Kd.R_drew)); exact HO328.out) hb); have n1_ := Aside0.mk (below_step (by repeat (first | (with_reducible first | exact HB.out | apply below_alloc | apply pw_below_drewN | apply below_drew1) | exact HB.out)) hb); have n2_ := Aside0.mk (hbox); have n3_ := Aside0.mk ((by rw [hg]; exact (below_size (by repeat (first | (with_reducible first | exact HB.out | apply below_alloc | apply pw_below_drewN | apply below_drew1) | exact HB.out))) : w.heap.size ≤ gb331)); have n4_ := Aside0.mk ((by rw [hg]; exact (below_size (by repeat (first | (with_reducible first | exact HB.out | apply below_alloc | apply pw_below_drewN | apply below_drew1) | exact HB.out))) : w.heap.size ≤ gb331)); clear HO328; clear HB; have HO328 := n0_; have HB := n1_; have BK331 := n2_; have GW331 := n3_; have GE331 := n4_; clear n0_ n1_ n2_ n3_ n4_; clear hb hbox hg; have hcz15_0 : w14.cell? ⟨gb331, 0, none⟩ = some (.int .i16 0) := (blk_cell BK331.out 0).trans rfl; have hcz15_1 : w14.cell? ⟨gb331, 1, none⟩ = some (.int .i16 0) := (blk_cell BK331.out 1).trans rfl; have hfz15_0 := blk_frozen BK331.out 0; have hfz15_1 := blk_frozen BK331.out 1; obtain ⟨Ao16, co16, eo16⟩ := Kd.R_slice HO328.out; subst eo16) | ((with_reducible refine gate_callee (f := 23) rfl ?_); refine goesL_ (some 53) rfl rfl Try.func23 (by kernel_rfl) rfl #[.agg #[.int .i16 t329, .int .i16 t330], .slice Ao16 t326.length co16] rfl (by (try simp only [List.map_toArray, List.map_cons, List.map_nil]); first | done | rfl | (simp only [List.length_drop, List.length_take]; rfl)) ?_; (with_reducible refine (impl_FirstLines.calls k t329 t330 _ _ t326 t332 t335 t336 _ ?side1 ?side2 A7.out).mono ?_); (case side1 => refine (Kd.R_reads' (e := 38) (base := w.heap.size) (ok := fun k_ => True) (n := t326.length) (c := co16) ?_).2.2; exact (by (with_reducible repeat (first | apply Kd.R_alloc | apply Kd.R_drewN | apply Kd.R_drew)); exact (Kd.R_mono (Kd.R_far (p := ⟨gb331, 1, none⟩) (Kd.R_far (p := ⟨gb331, 0, none⟩) (Kd.R_types HO328.out BK331.out (by decide)) (fun _ hk => hk.2) (.int .i16 t329)) (fun _ hk => hk.2) (.int .i16 t330)) (fun _ h_ => h_.1)))); (case side2 => exact (Kd.R_reads' HO328.out).2.1); rintro e w17 ⟨v333, rfl, ho0, hb⟩; refine ⟨_, rfl, ?_⟩; have n0_ := Aside0.mk (Kd.R_below (by (with_reducible repeat (first | apply Kd.R_alloc | apply Kd.R_drewN | apply Kd.R_drew)); exact (Kd.R_mono (Kd.R_far (p := ⟨gb331, 1, none⟩) (Kd.R_far (p := ⟨gb331, 0, none⟩) (Kd.R_types HO328.out BK331.out (by decide)) (fun _ hk => hk.2) (.int .i16 t329)) (fun _ hk => hk.2) (.int .i16 t330)) (fun _ h_ => h_.1))) hb); have n1_ := Aside0.mk (Kd.R_lower ho0 (below_size (by repeat (first | (with_reducible first | exact HB.out | apply below_alloc | apply pw_below_drewN | apply below_drew1 | refine below_set ?_ GE331.out) | exact HB.out)))); have n2_ := Aside0.mk (blk_below (g := gb331) (o := .cells #[.int .i16 t329, .int .i16 t330] 28 (0, 0)) (by (with_reducible repeat (first | refine blk_drewN ?_ _ | refine blk_drew ?_ | refine blk_alloc ?_ _)); refine blk_put (cs := #[.int .i16 t329, .int .i16 0]) ?_ 1 _ rfl; (with_reducible repeat (first | refine blk_drewN ?_ _ | refine blk_drew ?_ | refine blk_alloc ?_ _)); refine blk_put (cs := #[.int .i16 0, .int .i16 0]) ?_ 0 _ rfl; (with_reducible repeat (first | refine blk_drewN ?_ _ | refine blk_drew ?_ | refine blk_alloc ?_ _)); exact BK331.out) hb); have n3_ := Aside0.mk (below_step (by repeat (first | (with_reducible first | exact HB.out | apply below_alloc | apply pw_below_drewN | apply below_drew1 | refine below_set ?_ GE331.out) | exact HB.out)) hb); clear HO328; clear BK331; clear HB; have HO328 := n0_; have HO334 := n1_; have BK331 := n2_; have HB := n3_; clear n0_ n1_ n2_ n3_; (try clear hb); (try clear hb2); (try clear hk); (try clear hi); (try clear ho0); have hcz18_0 : w17.cell? ⟨gb331, 0, none⟩ = some (.int .i16 t329) := (blk_cell BK331.out 0).trans rfl; have hcz18_1 : w17.cell? ⟨gb331, 1, none⟩ = some (.int .i16 t330) := (blk_cell BK331.out 1).trans rfl; have hfz18_0 := blk_frozen BK331.out 0; have hfz18_1 := blk_frozen BK331.out 1) | ((with_reducible refine gate_callee (f := 24) rfl ?_); refine goesL_ (some 60) rfl rfl Try.func24 (by kernel_rfl) rfl #[.agg #[.int .i16 t329, .int .i16 t330], .slice Ao16 t326.length co16] rfl (by (try simp only [List.map_toArray, List.map_cons, List.map_nil]); first | done | rfl | (simp only [List.length_drop, List.length_take]; rfl)) ?_; (with_reducible refine (spec_FirstLines.calls k t329 t330 _ _ t326 t337 t340 t341 _ ?side1 ?side2 A8.out).mono ?_); (case side1 => repeat (first | exact (Kd.R_reads' HO328.out).2.2 | (with_reducible refine Kd.C_alloc ?_ _) | (with_reducible refine Kd.C_drewN ?_ _) | (with_reducible refine Kd.C_drew ?_))); (case side2 => exact (Kd.R_reads' HO328.out).2.1); rintro e w19 ⟨v338, rfl, ho0, hb⟩; refine ⟨_, rfl, ?_⟩; have n0_ := Aside0.mk (Kd.R_below (by (with_reducible repeat (first | apply Kd.R_alloc | apply Kd.R_drewN | apply Kd.R_drew)); exact HO328.out) hb); have n1_ := Aside0.mk (Kd.R_elder' (by (with_reducible repeat (first | apply Kd.R_alloc | apply Kd.R_drewN | apply Kd.R_drew)); exact HO334.out) (Kd.R_base ho0) hb); have n2_ := Aside0.mk (Kd.R_lower (Kd.R_new' ho0 (Kd.R_lt (by (with_reducible repeat (first | apply Kd.R_alloc | apply Kd.R_drewN | apply Kd.R_drew)); exact HO334.out))) (below_size (by repeat (first | (with_reducible first | exact HB.out | apply below_alloc | apply pw_below_drewN | apply below_drew1 | refine below_set ?_ GE331.out) | exact HB.out)))); have n3_ := Aside0.mk (blk_below (g := gb331) (o := .cells #[.int .i16 t329, .int .i16 t330] 28 (0, 0)) (by (with_reducible repeat (first | refine blk_drewN ?_ _ | refine blk_drew ?_ | refine blk_alloc ?_ _)); exact BK331.out) hb); have n4_ := Aside0.mk (below_step (by repeat (first | (with_reducible first | exact HB.out | apply below_alloc | apply pw_below_drewN | apply below_drew1 | refine below_set ?_ GE331.out) | exact HB.out)) hb); clear HO328; clear HO334; clear BK331; clear HB; have HO328 := n0_; have HO334 := n1_; have HO339 := n2_; have BK331 := n3_; have HB := n4_; clear n0_ n1_ n2_ n3_ n4_; (try clear hb); (try clear hb2); (try clear hk); (try clear hi); (try clear ho0); have hcz20_0 : w19.cell? ⟨gb331, 0, none⟩ = some (.int .i16 t329) := (blk_cell BK331.out 0).trans rfl; have hcz20_1 : w19.cell? ⟨gb331, 1, none⟩ = some (.int .i16 t330) := (blk_cell BK331.out 1).trans rfl; have hfz20_0 := blk_frozen BK331.out 0; have hfz20_1 := blk_frozen BK331.out 1) | ((with_reducible refine gate_callee (f := 25) rfl ?_); refine goesL_ (some 67) rfl rfl Try.func25 (by kernel_rfl) rfl #[.agg #[.int .i16 t329, .int .i16 t330], .slice Ao16 t326.length co16, .int .i64 3000] rfl (by (try simp only [List.map_toArray, List.map_cons, List.map_nil]); first | done | rfl | (simp only [List.length_drop, List.length_take]; rfl)) ?_; (with_reducible refine (impl_FewestLines.calls k t329 t330 _ _ t326 3000 t342 t345 t346 _ ?side1 ?side2 A9.out).mono ?_); (case side1 => repeat (first | exact (Kd.R_reads' HO328.out).2.2 | (with_reducible refine Kd.C_alloc ?_ _) | (with_reducible refine Kd.C_drewN ?_ _) | (with_reducible refine Kd.C_drew ?_))); (case side2 => exact (Kd.R_reads' HO328.out).2.1); rintro e w21 ⟨v343, rfl, ho0, hb⟩; refine ⟨_, rfl, ?_⟩; have n0_ := Aside0.mk (Kd.R_below (by (with_reducible repeat (first | apply Kd.R_alloc | apply Kd.R_drewN | apply Kd.R_drew)); exact HO328.out) hb); have n1_ := Aside0.mk (Kd.R_elder' (by (with_reducible repeat (first | apply Kd.R_alloc | apply Kd.R_drewN | apply Kd.R_drew)); exact HO334.out) (Kd.R_base ho0) hb); have n2_ := Aside0.mk (Kd.R_elder' (by (with_reducible repeat (first | apply Kd.R_alloc | apply Kd.R_drewN | apply Kd.R_drew)); exact HO339.out) (Kd.R_base ho0) hb); have n3_ := Aside0.mk (Kd.R_lower (Kd.R_new' (Kd.R_new' ho0 (Kd.R_lt (by (with_reducible repeat (first | apply Kd.R_alloc | apply Kd.R_drewN | apply Kd.R_drew)); exact HO334.out))) (Kd.R_lt (by (with_reducible repeat (first | apply Kd.R_alloc | apply Kd.R_drewN | apply Kd.R_drew)); exact HO339.out))) (below_size (by repeat (first | (with_reducible first | exact HB.out | apply below_alloc | apply pw_below_drewN | apply below_drew1 | refine below_set ?_ GE331.out) | exact HB.out)))); have n4_ := Aside0.mk (blk_below (g := gb331) (o := .cells #[.int .i16 t329, .int .i16 t330] 28 (0, 0)) (by (with_reducible repeat (first | refine blk_drewN ?_ _ | refine blk_drew ?_ | refine blk_alloc ?_ _)); exact BK331.out) hb); have n5_ := Aside0.mk (below_step (by repeat (first | (with_reducible first | exact HB.out | apply below_alloc | apply pw_below_drewN | apply below_drew1 | refine below_set ?_ GE331.out) | exact HB.out)) hb); clear HO328; clear HO334; clear HO339; clear BK331; clear HB; have HO328 := n0_; have HO334 := n1_; have HO339 := n2_; have HO344 := n3_; have BK331 := n4_; have HB := n5_; clear n0_ n1_ n2_ n3_ n4_ n5_; (try clear hb); (try clear hb2); (try clear hk); (try clear hi); (try clear ho0); have hcz22_0 : w21.cell? ⟨gb331, 0, none⟩ = some (.int .i16 t329) := (blk_cell BK331.out 0).trans rfl; have hcz22_1 : w21.cell? ⟨gb331, 1, none⟩ = some (.int .i16 t330) := (blk_cell BK331.out 1).trans rfl; have hfz22_0 := blk_frozen BK331.out 0; have hfz22_1 := blk_frozen BK331.out 1) | ((with_reducible refine gate_callee (f := 26) rfl ?_); refine goesL_ (some 74) rfl rfl Try.func26 (by kernel_rfl) rfl #[.agg #[.int .i16 t329, .int .i16 t330], .slice Ao16 t326.length co16, .int .i64 3000] rfl (by (try simp only [List.map_toArray, List.map_cons, List.map_nil]); first | done | rfl | (simp only [List.length_drop, List.length_take]; rfl)) ?_; (with_reducible refine (spec_FewestLines.calls k t329 t330 _ _ t326 3000 t347 t350 t351 _ ?side1 ?side2 A10.out).mono ?_); (case side1 => repeat (first | exact (Kd.R_reads' HO328.out).2.2 | (with_reducible refine Kd.C_alloc ?_ _) | (with_reducible refine Kd.C_drewN ?_ _) | (with_reducible refine Kd.C_drew ?_))); (case side2 => exact (Kd.R_reads' HO328.out).2.1); rintro e w23 ⟨v348, rfl, ho0, hb⟩; refine ⟨_, rfl, ?_⟩; have n0_ := Aside0.mk (Kd.R_below (by (with_reducible repeat (first | apply Kd.R_alloc | apply Kd.R_drewN | apply Kd.R_drew)); exact HO328.out) hb); have n1_ := Aside0.mk (Kd.R_elder' (by (with_reducible repeat (first | apply Kd.R_alloc | apply Kd.R_drewN | apply Kd.R_drew)); exact HO334.out) (Kd.R_base ho0) hb); have n2_ := Aside0.mk (Kd.R_elder' (by (with_reducible repeat (first | apply Kd.R_alloc | apply Kd.R_drewN | apply Kd.R_drew)); exact HO339.out) (Kd.R_base ho0) hb); have n3_ := Aside0.mk (Kd.R_elder' (by (with_reducible repeat (first | apply Kd.R_alloc | apply Kd.R_drewN | apply Kd.R_drew)); exact HO344.out) (Kd.R_base ho0) hb); have n4_ := Aside0.mk (Kd.R_lower (Kd.R_new' (Kd.R_new' (Kd.R_new' ho0 (Kd.R_lt (by (with_reducible repeat (first | apply Kd.R_alloc | apply Kd.R_drewN | apply Kd.R_drew)); exact HO334.out))) (Kd.R_lt (by (with_reducible repeat (first | apply Kd.R_alloc | apply Kd.R_drewN | apply Kd.R_drew)); exact HO339.out))) (Kd.R_lt (by (with_reducible repeat (first | apply Kd.R_alloc | apply Kd.R_drewN | apply Kd.R_drew)); exact HO344.out))) (below_size (by repeat (first | (with_reducible first | exact HB.out | apply below_alloc | apply pw_below_drewN | apply below_drew1 | refine below_set ?_ GE331.out) | exact HB.out)))); have n5_ := Aside0.mk (blk_below (g := gb331) (o := .cells #[.int .i16 t329, .int .i16 t330] 28 (0, 0)) (by (with_reducible repeat (first | refine blk_drewN ?_ _ | refine blk_drew ?_ | refine blk_alloc ?_ _)); exact BK331.out) hb); have n6_ := Aside0.mk (below_step (by repeat (first | (with_reducible first | exact HB.out | apply below_alloc | apply pw_below_drewN | apply below_drew1 | refine below_set ?_ GE331.out) | exact HB.out)) hb); clear HO328; clear HO334; clear HO339; clear HO344; clear BK331; clear HB; have HO328 := n0_; have HO334 := n1_; have HO339 := n2_; have HO344 := n3_; have HO349 := n4_; have BK331 := n5_; have HB := n6_; clear n0_ n1_ n2_ n3_ n4_ n5_ n6_; (try clear hb); (try clear hb2); (try clear hk); (try clear hi); (try clear ho0)))
     (try simp only [Act.put, List.setIfInBounds_toArray, List.set_cons_zero, List.set_cons_succ])
     go_cut [122] (fun v122 wc => ∃ (kq : Nat) (x122_10 : Bool), v122 = .bool x122_10 ∧ Aside0 (laws_FnLines.j0 kq t326 t336 t337 t340 t346 t347 t350 x122_10 t329 t330 = some r) ∧ Aside0 (kq ≤ k) ∧ Aside0 (Kd.R k38 38 wc w.heap.size (fun _ => True) (.slice Ao16 t326.length co16) t326) ∧ Aside0 (Kd.R (Kd.int .i64) 2 wc w.heap.size (fun k_ => some k_ ≠ (v348 : Value).ownBlock) v338 t337) ∧ Aside0 (Kd.R (Kd.int .i64) 2 wc w.heap.size (fun k_ => some k_ ≠ (v338 : Value).ownBlock) v348 t347) ∧ Aside0 (wc.heap[gb331]? = some (.cells #[.int .i16 t329, .int .i16 t330] 28 (0, 0))) ∧ Aside0 (Below w.heap.size w wc))
     case first =>
      have H := HC11.out
      clear HC11
      by_cases c24 : t336 = t341
      ·rw [if_pos c24] at H
       have c24b0 : (t336 == t341) = true := beq_iff_eq.mpr c24
       have c24b1 : (t336 != t341) = false := bne_eq_false_iff_eq.mpr c24
       clear c24
       (first | rw [c24b0] | (simp only [i64_w, i32_w]; rw [c24b0]) | skip)
       replace H := Option.bind_eq_some_iff.mp H
       obtain ⟨t352, A250, H⟩ := H
       replace H : (if t352 = true then (if t335 = t340 then (if t346 = t351 then ((spec_A2Same.f k t342 t347).bind fun t353 => (if t353 = true then (if t345 = t350 then (if t336 = 0 then (laws_FnLines.j0 k t326 t336 t337 t340 t346 t347 t350 ((t336 == 6) != (t346 == 6)) t329 t330) else (if t336 = 6 then (laws_FnLines.j0 k t326 t336 t337 t340 t346 t347 t350 ((t336 == 6) != (t346 == 6)) t329 t330) else (none))) else (none)) else (none))) else (none)) else (none)) else (none)) = some r := H
       have A25 := Aside0.mk A250
       clear A250
       by_cases c26 : t352 = true
       ·subst c26
        have H1 : (if t335 = t340 then (if t346 = t351 then ((spec_A2Same.f k t342 t347).bind fun t353 => (if t353 = true then (if t345 = t350 then (if t336 = 0 then (laws_FnLines.j0 k t326 t336 t337 t340 t346 t347 t350 ((t336 == 6) != (t346 == 6)) t329 t330) else (if t336 = 6 then (laws_FnLines.j0 k t326 t336 t337 t340 t346 t347 t350 ((t336 == 6) != (t346 == 6)) t329 t330) else (none))) else (none)) else (none))) else (none)) else (none)) = some r := by rw [if_pos rfl] at H; exact H
        clear H
        have H := H1
        clear H1
        by_cases c27 : t335 = t340
        ·rw [if_pos c27] at H
         have c27b0 : (t335 == t340) = true := beq_iff_eq.mpr c27
         have c27b1 : (t335 != t340) = false := bne_eq_false_iff_eq.mpr c27
         clear c27
         by_cases c28 : t346 = t351
         ·rw [if_pos c28] at H
          have c28b0 : (t346 == t351) = true := beq_iff_eq.mpr c28
          have c28b1 : (t346 != t351) = false := bne_eq_false_iff_eq.mpr c28
          clear c28
          replace H := Option.bind_eq_some_iff.mp H
          obtain ⟨t353, A290, H⟩ := H
          replace H : (if t353 = true then (if t345 = t350 then (if t336 = 0 then (laws_FnLines.j0 k t326 t336 t337 t340 t346 t347 t350 ((t336 == 6) != (t346 == 6)) t329 t330) else (if t336 = 6 then (laws_FnLines.j0 k t326 t336 t337 t340 t346 t347 t350 ((t336 == 6) != (t346 == 6)) t329 t330) else (none))) else (none)) else (none)) = some r := H
          have A29 := Aside0.mk A290
          clear A290
          by_cases c30 : t353 = true
          ·subst c30
           have H1 : (if t345 = t350 then (if t336 = 0 then (laws_FnLines.j0 k t326 t336 t337 t340 t346 t347 t350 ((t336 == 6) != (t346 == 6)) t329 t330) else (if t336 = 6 then (laws_FnLines.j0 k t326 t336 t337 t340 t346 t347 t350 ((t336 == 6) != (t346 == 6)) t329 t330) else (none))) else (none)) = some r := by rw [if_pos rfl] at H; exact H
           clear H
           have H := H1
           clear H1
           by_cases c31 : t345 = t350
           ·rw [if_pos c31] at H
            have c31b0 : (t345 == t350) = true := beq_iff_eq.mpr c31
            have c31b1 : (t345 != t350) = false := bne_eq_false_iff_eq.mpr c31
            clear c31
            by_cases c32 : t336 = 0
            ·rw [if_pos c32] at H
             have c32b0 : (t336 == 0) = true := beq_iff_eq.mpr c32
             have c32b1 : (t336 != 0) = false := bne_eq_false_iff_eq.mpr c32
             clear c32
             have H' := Aside0.mk H
             clear H
             obtain ⟨Ao33, co33, eo33⟩ := Kd.R_slice HO334.out
             subst eo33
             obtain ⟨Ao34, co34, eo34⟩ := Kd.R_slice HO339.out
             subst eo34
             go_wp2_with (first | (go_at_call 27; (with_reducible refine (spec_A2Same.calls k _ _ t332 _ _ t337 true _ ?side1 ?side2 ?side3 ?side4 A25.out).mono ?_); (case side1 => repeat (first | exact (Kd.R_reads' HO334.out).2.2 | (with_reducible refine Kd.C_alloc ?_ _) | (with_reducible refine Kd.C_drewN ?_ _) | (with_reducible refine Kd.C_drew ?_))); (case side2 => exact (Kd.R_reads' HO334.out).2.1); (case side3 => repeat (first | exact (Kd.R_reads' HO339.out).2.2 | (with_reducible refine Kd.C_alloc ?_ _) | (with_reducible refine Kd.C_drewN ?_ _) | (with_reducible refine Kd.C_drew ?_))); (case side4 => exact (Kd.R_reads' HO339.out).2.1); rintro e w' ⟨rfl, ⟨nd, rfl⟩⟩; obtain ⟨Ao35, co35, eo35⟩ := Kd.R_slice HO344.out; subst eo35; obtain ⟨Ao36, co36, eo36⟩ := Kd.R_slice HO349.out; subst eo36) | (go_at_call 27; (with_reducible refine (spec_A2Same.calls k _ _ t342 _ _ t347 true _ ?side1 ?side2 ?side3 ?side4 A29.out).mono ?_); (case side1 => repeat (first | exact (Kd.R_reads' HO344.out).2.2 | (with_reducible refine Kd.C_alloc ?_ _) | (with_reducible refine Kd.C_drewN ?_ _) | (with_reducible refine Kd.C_drew ?_))); (case side2 => exact (Kd.R_reads' HO344.out).2.1); (case side3 => repeat (first | exact (Kd.R_reads' HO349.out).2.2 | (with_reducible refine Kd.C_alloc ?_ _) | (with_reducible refine Kd.C_drewN ?_ _) | (with_reducible refine Kd.C_drew ?_))); (case side4 => exact (Kd.R_reads' HO349.out).2.1); rintro e w' ⟨rfl, ⟨nd, rfl⟩⟩))
             go_meet
             case rel => exact ⟨_, (((t336 == 6) != (t346 == 6))), (by first | rfl | (simp; done) | (simp [*]; done)), H', ⟨by first | omega | exact Nat.le_refl _⟩, ⟨by (with_reducible repeat (first | apply Kd.R_alloc | apply Kd.R_drewN | apply Kd.R_drew)); exact HO328.out⟩, ⟨by (with_reducible repeat (first | apply Kd.R_alloc | apply Kd.R_drewN | apply Kd.R_drew)); exact Kd.R_mono HO339.out (fun _ hk => hk.2)⟩, ⟨by (with_reducible repeat (first | apply Kd.R_alloc | apply Kd.R_drewN | apply Kd.R_drew)); exact Kd.R_mono HO349.out (fun _ hk => hk.1.2)⟩, ⟨by (with_reducible repeat (first | refine blk_drewN ?_ _ | refine blk_drew ?_ | refine blk_alloc ?_ _)); exact BK331.out⟩, ⟨by repeat (first | (with_reducible first | exact HB.out | apply below_alloc | apply pw_below_drewN | apply below_drew1 | refine below_set ?_ GE331.out) | exact HB.out)⟩⟩
            ·rw [if_neg c32] at H
             have c32b0 : (t336 == 0) = false := beq_eq_false_iff_ne.mpr c32
             have c32b1 : (t336 != 0) = true := bne_iff_ne.mpr c32
             by_cases c37 : t336 = 6
             ·rw [if_pos c37] at H
              have c37b0 : (t336 == 6) = true := beq_iff_eq.mpr c37
              have c37b1 : (t336 != 6) = false := bne_eq_false_iff_eq.mpr c37
              clear c37
              have H' := Aside0.mk H
              clear H
              obtain ⟨Ao38, co38, eo38⟩ := Kd.R_slice HO334.out
              subst eo38
              obtain ⟨Ao39, co39, eo39⟩ := Kd.R_slice HO339.out
              subst eo39
              go_wp2_with (first | (go_at_call 27; (with_reducible refine (spec_A2Same.calls k _ _ t332 _ _ t337 true _ ?side1 ?side2 ?side3 ?side4 A25.out).mono ?_); (case side1 => repeat (first | exact (Kd.R_reads' HO334.out).2.2 | (with_reducible refine Kd.C_alloc ?_ _) | (with_reducible refine Kd.C_drewN ?_ _) | (with_reducible refine Kd.C_drew ?_))); (case side2 => exact (Kd.R_reads' HO334.out).2.1); (case side3 => repeat (first | exact (Kd.R_reads' HO339.out).2.2 | (with_reducible refine Kd.C_alloc ?_ _) | (with_reducible refine Kd.C_drewN ?_ _) | (with_reducible refine Kd.C_drew ?_))); (case side4 => exact (Kd.R_reads' HO339.out).2.1); rintro e w' ⟨rfl, ⟨nd, rfl⟩⟩; obtain ⟨Ao40, co40, eo40⟩ := Kd.R_slice HO344.out; subst eo40; obtain ⟨Ao41, co41, eo41⟩ := Kd.R_slice HO349.out; subst eo41) | (go_at_call 27; (with_reducible refine (spec_A2Same.calls k _ _ t342 _ _ t347 true _ ?side1 ?side2 ?side3 ?side4 A29.out).mono ?_); (case side1 => repeat (first | exact (Kd.R_reads' HO344.out).2.2 | (with_reducible refine Kd.C_alloc ?_ _) | (with_reducible refine Kd.C_drewN ?_ _) | (with_reducible refine Kd.C_drew ?_))); (case side2 => exact (Kd.R_reads' HO344.out).2.1); (case side3 => repeat (first | exact (Kd.R_reads' HO349.out).2.2 | (with_reducible refine Kd.C_alloc ?_ _) | (with_reducible refine Kd.C_drewN ?_ _) | (with_reducible refine Kd.C_drew ?_))); (case side4 => exact (Kd.R_reads' HO349.out).2.1); rintro e w' ⟨rfl, ⟨nd, rfl⟩⟩))
              go_meet
              case rel => exact ⟨_, (((t336 == 6) != (t346 == 6))), (by first | rfl | (simp; done) | (simp [*]; done)), H', ⟨by first | omega | exact Nat.le_refl _⟩, ⟨by (with_reducible repeat (first | apply Kd.R_alloc | apply Kd.R_drewN | apply Kd.R_drew)); exact HO328.out⟩, ⟨by (with_reducible repeat (first | apply Kd.R_alloc | apply Kd.R_drewN | apply Kd.R_drew)); exact Kd.R_mono HO339.out (fun _ hk => hk.2)⟩, ⟨by (with_reducible repeat (first | apply Kd.R_alloc | apply Kd.R_drewN | apply Kd.R_drew)); exact Kd.R_mono HO349.out (fun _ hk => hk.1.2)⟩, ⟨by (with_reducible repeat (first | refine blk_drewN ?_ _ | refine blk_drew ?_ | refine blk_alloc ?_ _)); exact BK331.out⟩, ⟨by repeat (first | (with_reducible first | exact HB.out | apply below_alloc | apply pw_below_drewN | apply below_drew1 | refine below_set ?_ GE331.out) | exact HB.out)⟩⟩
             ·rw [if_neg c37] at H
              exact absurd H (by simp)
           ·rw [if_neg c31] at H
            exact absurd H (by simp)
          ·replace c30 := Bool.eq_false_iff.mpr c30
           subst c30
           have H1 : (none) = some r := by rw [if_neg (show ¬ (false = true) by decide)] at H; exact H
           clear H
           have H := H1
           clear H1
           exact absurd H (by simp)
         ·rw [if_neg c28] at H
          exact absurd H (by simp)
        ·rw [if_neg c27] at H
         exact absurd H (by simp)
       ·replace c26 := Bool.eq_false_iff.mpr c26
        subst c26
        have H1 : (none) = some r := by rw [if_neg (show ¬ (false = true) by decide)] at H; exact H
        clear H
        have H := H1
        clear H1
        exact absurd H (by simp)
      ·rw [if_neg c24] at H
       exact absurd H (by simp)
     case rest =>
      clear HC11
      try clear c1
      try clear c2
      try clear p2
      try clear c3
      try clear c4
      try clear c20
      try clear c21
      try clear c22
      try clear c23
      try clear c24
      try clear c24b0
      try clear c24b1
      try clear c25
      try clear c26
      try clear c27
      try clear c27b0
      try clear c27b1
      try clear c28
      try clear c28b0
      try clear c28b1
      try clear c30
      try clear c31
      try clear c31b0
      try clear c31b1
      try clear c32
      try clear c32b0
      try clear c32b1
      try clear c37
      try clear c37b0
      try clear c37b1
      try clear hcz15_0
      try clear hcz15_1
      try clear hcz18_0
      try clear hcz18_1
      try clear hcz20_0
      try clear hcz20_1
      try clear hcz22_0
      try clear hcz22_1
      try clear hfz15_0
      try clear hfz15_1
      try clear hfz18_0
      try clear hfz18_1
      try clear hfz20_0
      try clear hfz20_1
      try clear hfz22_0
      try clear hfz22_1
      obtain ⟨kq, x122_10, rfl, HA, HJ10, HO_5, HO_10, HO_16, BK331, HB⟩ := hcut
      cases kq with
      | zero => exact absurd HA.out (by simp [laws_FnLines.j0])
      | succ kj10 =>
       rename_i y_1 y_2 y_3 y_4 y_5 y_6 y_7 y_8
       revert k A0 c0 l0 A1 c1 l1 r w hu28 hu38 HR0 HC0 HR1 HC1 A3 t326 A5 t329 t330 A6 t332 t335 t336 A7 t337 t340 t341 A8 t342 t345 t346 A9 t347 t350 t351 A10 y_1 nd y_2 w12 w13 gb331 w14 GW331 GE331 Ao16 co16 w17 v333 w19 v338 w21 v343 w23 v348 HO328 HO334 HO339 HO344 HO349 y_3 y_4 y_5 y_6 y_7 y_8 wc u43 u44 u45 u46 u47 u48 u49 u50 u51 u52 u53 u54 u55 u56 u57 u58 u59 u60 u61 u62 u63 u64 u65 u66 u67 u68 u69 u70 u71 u72 u73 u74 u75 u76 u77 u78 u79 u80 u81 u82 u83 u84 u85 u86 u87 u88 u89 u90 u91 u92 u93 u94 u95 u96 u97 u98 u99 u100 u101 u102 u103 u104 u105 u106 u107 u108 u109 u110 u111 u112 u113 u114 u115 u116 u117 u118 u119 u120 u121 u123 u124 u125 u126 u127 u128 u129 u130 u131 u132 u133 u134 u135 u136 u137 u138 u139 u140 u141 u142 u143 u144 u145 u146 u147 u148 u149 u150 u151 u152 u153 u154 u155 u156 u157 u158 u159 u160 u161 u162 u163 u164 u165 u166 u167 u168 u169 u170 u171 u172 u173 u174 u175 u176 u177 u178 u179 u180 u181 u182 u183 u184 u185 u186 u187 u188 u189 u190 u191 u192 u193 u194 u195 u196 u197 u198 u199 u200 u201 u202 u203 u204 u205 u206 u207 u208 u209 u210 u211 u212 u213 u214 u215 u216 u217 u218 u219 u220 u221 u222 u223 u224 u225 u226 u227 u228 u229 u230 u231 u232 u233 u234 u235 u236 u237 u238 u239 u240 u241 u242 u243 u244 u245 u246 u247 u248 u249 u250 u251 u252 u253 u254 u255 u256 u257 u258 u259 u260 u261 u262 u263 u264 u265 u266 u267 u268 u269 u270 u271 u272 u273 u274 u275 u276 u277 u278 u279 u280 u281 u282 u283 u284 u285 u286 u287 u288 u289 u290 u291 u292 u293 u294 u295 u296 u297 u298 u299 u300 u301 u302 u303 u304 u305 u306 u307 u308 u309 u310 u311 u312 u313 u314 u315 u316 u317 u318 u319 u320 u321 u322 u323 u324 u325 u326 u327 u328 u329 u330 u331 u332 u333 u334 u335 u336 u337 u338 u339 u340 u341 u342 x122_10 HO_5 HO_10 HO_16 BK331 HB kj10 HA HJ10
       exact hole1 ()
  ⟩
set_option maxHeartbeats 8000000 in
set_option maxRecDepth 100000 in
noncomputable def laws_FnLines.calls_all_kj10_p : {P : Prop × Prop // (Unit → P.1) → (Unit → P.2) → (laws_FnLines.calls_all_p.1)} :=
  ⟨(_, _), fun hole1 hole2 => by
    intro k A0 c0 l0 A1 c1 l1 r w hu28 hu38 HR0 HC0 HR1 HC1 A3 t326 A5 t329 t330 A6 t332 t335 t336 A7 t337 t340 t341 A8 t342 t345 t346 A9 t347 t350 t351 A10 _ nd _ w12 w13 gb331 w14 GW331 GE331 Ao16 co16 w17 v333 w19 v338 w21 v343 w23 v348 HO328 HO334 HO339 HO344 HO349 _ _ _ _ _ _ wc u43 u44 u45 u46 u47 u48 u49 u50 u51 u52 u53 u54 u55 u56 u57 u58 u59 u60 u61 u62 u63 u64 u65 u66 u67 u68 u69 u70 u71 u72 u73 u74 u75 u76 u77 u78 u79 u80 u81 u82 u83 u84 u85 u86 u87 u88 u89 u90 u91 u92 u93 u94 u95 u96 u97 u98 u99 u100 u101 u102 u103 u104 u105 u106 u107 u108 u109 u110 u111 u112 u113 u114 u115 u116 u117 u118 u119 u120 u121 u123 u124 u125 u126 u127 u128 u129 u130 u131 u132 u133 u134 u135 u136 u137 u138 u139 u140 u141 u142 u143 u144 u145 u146 u147 u148 u149 u150 u151 u152 u153 u154 u155 u156 u157 u158 u159 u160 u161 u162 u163 u164 u165 u166 u167 u168 u169 u170 u171 u172 u173 u174 u175 u176 u177 u178 u179 u180 u181 u182 u183 u184 u185 u186 u187 u188 u189 u190 u191 u192 u193 u194 u195 u196 u197 u198 u199 u200 u201 u202 u203 u204 u205 u206 u207 u208 u209 u210 u211 u212 u213 u214 u215 u216 u217 u218 u219 u220 u221 u222 u223 u224 u225 u226 u227 u228 u229 u230 u231 u232 u233 u234 u235 u236 u237 u238 u239 u240 u241 u242 u243 u244 u245 u246 u247 u248 u249 u250 u251 u252 u253 u254 u255 u256 u257 u258 u259 u260 u261 u262 u263 u264 u265 u266 u267 u268 u269 u270 u271 u272 u273 u274 u275 u276 u277 u278 u279 u280 u281 u282 u283 u284 u285 u286 u287 u288 u289 u290 u291 u292 u293 u294 u295 u296 u297 u298 u299 u300 u301 u302 u303 u304 u305 u306 u307 u308 u309 u310 u311 u312 u313 u314 u315 u316 u317 u318 u319 u320 u321 u322 u323 u324 u325 u326 u327 u328 u329 u330 u331 u332 u333 u334 u335 u336 u337 u338 u339 u340 u341 u342 x122_10 HO_5 HO_10 HO_16 BK331 HB kj10 HA HJ10
    have H := HA.out
    clear HA
    simp only [laws_FnLines.j0] at H
    by_cases c42 : x122_10 = true
    ·subst c42
     have H1 : (none) = some r := by rw [if_pos rfl] at H; exact H
     clear H
     have H := H1
     clear H1
     exact absurd H (by simp)
    ·replace c42 := Bool.eq_false_iff.mpr c42
     subst c42
     have H1 : (if t336 = 0 then ((impl_CheckLines.f kj10 t329 t330 t326 t337).bind fun bt360 => (if bt360.2 = 0 then (if bt360.1 = true then (if (t337.length : Int) = (t326.length : Int) then (laws_FnLines.j2 kj10 t326 t340 t346 t347 t350 (decide (t340 > (t326.length : Int))) t329 t330) else (none)) else (none)) else (none))) else (laws_FnLines.l0 kj10 t326 false 0 t329 t330)) = some r := by rw [if_neg (show ¬ (false = true) by decide)] at H; exact H
     clear H
     have H := H1
     clear H1
     by_cases c43 : t336 = 0
     ·rw [if_pos c43] at H
      have c43b0 : (t336 == 0) = true := beq_iff_eq.mpr c43
      have c43b1 : (t336 != 0) = false := bne_eq_false_iff_eq.mpr c43
      clear c43
      replace H := Option.bind_eq_some_iff.mp H
      obtain ⟨⟨t360, t361⟩, A440, H⟩ := H
      replace H : (if t361 = 0 then (if t360 = true then (if (t337.length : Int) = (t326.length : Int) then (laws_FnLines.j2 kj10 t326 t340 t346 t347 t350 (decide (t340 > (t326.length : Int))) t329 t330) else (none)) else (none)) else (none)) = some r := H
      have A44 := Aside0.mk A440
      clear A440
      have HC45 := Aside0.mk H
      clear H
      have hcz46_0 : wc.cell? ⟨gb331, 0, none⟩ = some (.int .i16 t329) := (blk_cell BK331.out 0).trans rfl
      have hcz46_1 : wc.cell? ⟨gb331, 1, none⟩ = some (.int .i16 t330) := (blk_cell BK331.out 1).trans rfl
      have hfz46_0 := blk_frozen BK331.out 0
      have hfz46_1 := blk_frozen BK331.out 1
      obtain ⟨Ao47, co47, eo47⟩ := Kd.R_slice HO_10.out
      subst eo47
      go_upto_region 22 with (first | ((with_reducible refine gate_callee (f := 29) rfl ?_); refine goesL_ (some 153) rfl rfl Try.func29 (by kernel_rfl) rfl #[.agg #[.int .i16 t329, .int .i16 t330], .slice Ao16 t326.length co16, .slice Ao47 t337.length co47] rfl (by (try simp only [List.map_toArray, List.map_cons, List.map_nil]); first | done | rfl | (simp only [List.length_drop, List.length_take]; rfl)) ?_; (with_reducible refine (impl_CheckLines.calls kj10 t329 t330 _ _ t326 _ _ t337 t360 t361 _ ?side1 ?side2 ?side3 ?side4 A44.out).mono ?_); (case side1 => repeat (first | exact (Kd.R_reads' HO_5.out).2.2 | (with_reducible refine Kd.C_alloc ?_ _) | (with_reducible refine Kd.C_drewN ?_ _) | (with_reducible refine Kd.C_drew ?_))); (case side2 => exact (Kd.R_reads' HO_5.out).2.1); (case side3 => repeat (first | exact (Kd.R_reads' HO_10.out).2.2 | (with_reducible refine Kd.C_alloc ?_ _) | (with_reducible refine Kd.C_drewN ?_ _) | (with_reducible refine Kd.C_drew ?_))); (case side4 => exact (Kd.R_reads' HO_10.out).2.1); rintro e w48 ⟨rfl, hb⟩; refine ⟨_, rfl, ?_⟩; have n0_ := Aside0.mk (Kd.R_below (by (with_reducible repeat (first | apply Kd.R_alloc | apply Kd.R_drewN | apply Kd.R_drew)); exact HO_5.out) hb); have n1_ := Aside0.mk (Kd.R_below (by (with_reducible repeat (first | apply Kd.R_alloc | apply Kd.R_drewN | apply Kd.R_drew)); exact HO_10.out) hb); have n2_ := Aside0.mk (Kd.R_below (by (with_reducible repeat (first | apply Kd.R_alloc | apply Kd.R_drewN | apply Kd.R_drew)); exact HO_16.out) hb); have n3_ := Aside0.mk (blk_below (g := gb331) (o := .cells #[.int .i16 t329, .int .i16 t330] 28 (0, 0)) (by (with_reducible repeat (first | refine blk_drewN ?_ _ | refine blk_drew ?_ | refine blk_alloc ?_ _)); exact BK331.out) hb); have n4_ := Aside0.mk (below_step (by repeat (first | (with_reducible first | exact HB.out | apply below_alloc | apply pw_below_drewN | apply below_drew1 | refine below_set ?_ GE331.out) | exact HB.out)) hb); clear HO_5; clear HO_10; clear HO_16; clear BK331; clear HB; have HO_5 := n0_; have HO_10 := n1_; have HO_16 := n2_; have BK331 := n3_; have HB := n4_; clear n0_ n1_ n2_ n3_ n4_; (try clear hb); (try clear hb2); (try clear hk); (try clear hi)))
      (try simp only [Act.put, List.setIfInBounds_toArray, List.set_cons_zero, List.set_cons_succ])
      go_cut [174] (fun v174 wc => ∃ (kq : Nat) (x174_44 : Bool), v174 = .bool x174_44 ∧ Aside0 (laws_FnLines.j2 kq t326 t340 t346 t347 t350 x174_44 t329 t330 = some r) ∧ Aside0 (kq ≤ kj10) ∧ Aside0 (Kd.R k38 38 wc w.heap.size (fun _ => True) (.slice Ao16 t326.length co16) t326) ∧ Aside0 (Kd.R (Kd.int .i64) 2 wc w.heap.size (fun _ => True) v348 t347) ∧ Aside0 (wc.heap[gb331]? = some (.cells #[.int .i16 t329, .int .i16 t330] 28 (0, 0))) ∧ Aside0 (Below w.heap.size w wc))
      case first =>
       have H := HC45.out
       clear HC45
       by_cases c49 : t361 = 0
       ·rw [if_pos c49] at H
        have c49b0 : (t361 == 0) = true := beq_iff_eq.mpr c49
        have c49b1 : (t361 != 0) = false := bne_eq_false_iff_eq.mpr c49
        clear c49
        (first | rw [c49b0] | (simp only [i64_w, i32_w]; rw [c49b0]) | skip)
        by_cases c50 : t360 = true
        ·subst c50
         have H1 : (if (t337.length : Int) = (t326.length : Int) then (laws_FnLines.j2 kj10 t326 t340 t346 t347 t350 (decide (t340 > (t326.length : Int))) t329 t330) else (none)) = some r := by rw [if_pos rfl] at H; exact H
         clear H
         have H := H1
         clear H1
         by_cases c51 : (t337.length : Int) = (t326.length : Int)
         ·rw [if_pos c51] at H
          have c51b0 : ((t337.length : Int) == (t326.length : Int)) = true := beq_iff_eq.mpr c51
          have c51b1 : ((t337.length : Int) != (t326.length : Int)) = false := bne_eq_false_iff_eq.mpr c51
          have c51b2 : (t337.length == t326.length) = true := by first | simpa using c51 | (simp at c51 ⊢; omega)
          clear c51
          have H' := Aside0.mk H
          clear H
          go_wp2
          go_meet
          case rel => exact ⟨_, (decide (t340 > (t326.length : Int))), (by first | rfl | (simp; done) | (simp [*]; done)), H', ⟨by have := HJ10.out; first | omega | exact Nat.le_refl _⟩, ⟨by (with_reducible repeat (first | apply Kd.R_alloc | apply Kd.R_drewN | apply Kd.R_drew)); exact HO_5.out⟩, ⟨by (with_reducible repeat (first | apply Kd.R_alloc | apply Kd.R_drewN | apply Kd.R_drew)); exact Kd.R_mono HO_16.out (fun _ hk => trivial)⟩, ⟨by (with_reducible repeat (first | refine blk_drewN ?_ _ | refine blk_drew ?_ | refine blk_alloc ?_ _)); exact BK331.out⟩, ⟨by repeat (first | (with_reducible first | exact HB.out | apply below_alloc | apply pw_below_drewN | apply below_drew1 | refine below_set ?_ GE331.out) | exact HB.out)⟩⟩
         ·rw [if_neg c51] at H
          exact absurd H (by simp)
        ·replace c50 := Bool.eq_false_iff.mpr c50
         subst c50
         have H1 : (none) = some r := by rw [if_neg (show ¬ (false = true) by decide)] at H; exact H
         clear H
         have H := H1
         clear H1
         exact absurd H (by simp)
       ·rw [if_neg c49] at H
        exact absurd H (by simp)
      case rest =>
       clear HC45
       try clear c1
       try clear c2
       try clear p2
       try clear c3
       try clear c4
       try clear c5
       try clear c20
       try clear c21
       try clear c22
       try clear c23
       try clear c24
       try clear c24b0
       try clear c24b1
       try clear c25
       try clear c26
       try clear c27
       try clear c27b0
       try clear c27b1
       try clear c28
       try clear c28b0
       try clear c28b1
       try clear c29
       try clear c30
       try clear c31
       try clear c31b0
       try clear c31b1
       try clear c32
       try clear c32b0
       try clear c32b1
       try clear c37
       try clear c37b0
       try clear c37b1
       try clear c42
       try clear c43
       try clear c43b0
       try clear c43b1
       try clear c49
       try clear c49b0
       try clear c49b1
       try clear c50
       try clear c51
       try clear c51b0
       try clear c51b1
       try clear c51b2
       try clear hcz15_0
       try clear hcz15_1
       try clear hcz18_0
       try clear hcz18_1
       try clear hcz20_0
       try clear hcz20_1
       try clear hcz22_0
       try clear hcz22_1
       try clear hcz46_0
       try clear hcz46_1
       try clear hfz15_0
       try clear hfz15_1
       try clear hfz18_0
       try clear hfz18_1
       try clear hfz20_0
       try clear hfz20_1
       try clear hfz22_0
       try clear hfz22_1
       try clear hfz46_0
       try clear hfz46_1
       try clear p2
       obtain ⟨kq, x174_44, rfl, HA, HJ44, HO_5, HO_16, BK331, HB⟩ := hcut
       cases kq with
       | zero => exact absurd HA.out (by simp [laws_FnLines.j2])
       | succ kj44 =>
        rename_i y_1 y_2 y_3 y_4 y_5 y_6 y_7 y_8 y_9 y_10 y_11 y_12 y_13 y_14 y_15 y_16 y_17 y_18 y_19 y_20 y_21 y_22 y_23 y_24 y_25 y_26 y_27 y_28 y_29 y_30 y_31 y_32 y_33 y_34 y_35 y_36 y_37 y_38 y_39 y_40 y_41 y_42 y_43 y_44 y_45 y_46 y_47 y_48 y_49 y_50 y_51 y_52 y_53 y_54 y_55 y_56 y_57 y_58 y_59 y_60 y_61 y_62 y_63 y_64 y_65 y_66 y_67 y_68 y_69 y_70 y_71 y_72 y_73 y_74 y_75 y_76 y_77 y_78 y_79 y_80 y_81 y_82 y_83 y_84 y_85 y_86 y_87 y_88 y_89 y_90 y_91 y_92 y_93 y_94 y_95 y_96 y_97 y_98 y_99 y_100 y_101 y_102 y_103 y_104 y_105 y_106 y_107 y_108 y_109 y_110 y_111 y_112 y_113 y_114 y_115 y_116 y_117 y_118 y_119 y_120 y_121 y_122 y_123 y_124 y_125 y_126 y_127 y_128 y_129 y_130 y_131 y_132 y_133 y_134 y_135 y_136 y_137 y_138 y_139 y_140 y_141 y_142 y_143 y_144 y_145 y_146 y_147 y_148 y_149 y_150 y_151 y_152 y_153 y_154 y_155 y_156 y_157 y_158 y_159 y_160 y_161 y_162 y_163 y_164 y_165 y_166 y_167 y_168 y_169 y_170 y_171 y_172 y_173 y_174 y_175 y_176 y_177 y_178 y_179 y_180 y_181 y_182 y_183 y_184 y_185 y_186 y_187 y_188 y_189 y_190 y_191 y_192 y_193 y_194 y_195 y_196 y_197 y_198 y_199 y_200 y_201 y_202 y_203 y_204 y_205 y_206 y_207 y_208 y_209 y_210 y_211 y_212 y_213 y_214 y_215 y_216 y_217 y_218 y_219 y_220 y_221 y_222 y_223 y_224 y_225 y_226 y_227 y_228 y_229 y_230 y_231 y_232 y_233 y_234 y_235 y_236 y_237 y_238 y_239 y_240 y_241 y_242 y_243 y_244 y_245 y_246 y_247 y_248 y_249 y_250 y_251 y_252 y_253 y_254 y_255 y_256 y_257 y_258 y_259 y_260 y_261 y_262 y_263 y_264 y_265 y_266 y_267 y_268 y_269 y_270 y_271 y_272 y_273 y_274 y_275 y_276 y_277 y_278 y_279 y_280 y_281 y_282 y_283 y_284 y_285 y_286 y_287 y_288 y_289 y_290 y_291 y_292 y_293 y_294 y_295 y_296 y_297 y_298 y_299 y_300 y_301 y_302 y_303 y_304 y_305 y_306 y_307 y_308 y_309 y_310 y_311
        revert k A0 c0 l0 A1 c1 l1 r w hu28 hu38 HR0 HC0 HR1 HC1 A3 t326 A5 t329 t330 A6 t332 t335 t336 A7 t337 t340 t341 A8 t342 t345 t346 A9 t347 t350 t351 A10 y_1 nd y_2 w12 w13 gb331 w14 GW331 GE331 Ao16 co16 w17 v333 w19 w21 v343 w23 v348 HO328 y_3 y_4 y_5 y_6 y_7 y_8 y_9 y_10 y_11 y_12 y_13 y_14 y_15 y_16 y_17 y_18 y_19 y_20 y_21 y_22 y_23 y_24 y_25 y_26 y_27 y_28 y_29 y_30 y_31 y_32 y_33 y_34 y_35 y_36 y_37 y_38 y_39 y_40 y_41 y_42 y_43 y_44 y_45 y_46 y_47 y_48 y_49 y_50 y_51 y_52 y_53 y_54 y_55 y_56 y_57 y_58 y_59 y_60 y_61 y_62 y_63 y_64 y_65 y_66 y_67 y_68 y_69 y_70 y_71 y_72 y_73 y_74 y_75 y_76 y_77 y_78 y_79 y_80 y_81 y_82 y_83 y_84 y_85 y_86 y_87 y_88 y_89 y_90 y_91 y_92 y_93 y_94 y_95 y_96 y_97 y_98 y_99 y_100 y_101 y_102 y_103 y_104 y_105 y_106 y_107 y_108 y_109 y_110 y_111 y_112 y_113 y_114 y_115 y_116 y_117 y_118 y_119 y_120 y_121 y_122 y_123 y_124 y_125 y_126 y_127 y_128 y_129 y_130 y_131 y_132 y_133 y_134 y_135 u174 y_136 y_137 y_138 y_139 y_140 y_141 y_142 y_143 y_144 y_145 y_146 y_147 y_148 y_149 y_150 y_151 y_152 y_153 y_154 y_155 y_156 y_157 y_158 y_159 y_160 y_161 y_162 y_163 y_164 y_165 y_166 y_167 y_168 y_169 y_170 y_171 y_172 y_173 y_174 y_175 y_176 y_177 y_178 y_179 y_180 y_181 y_182 y_183 y_184 y_185 y_186 y_187 y_188 y_189 y_190 y_191 y_192 y_193 y_194 y_195 y_196 y_197 y_198 y_199 y_200 y_201 y_202 y_203 y_204 y_205 y_206 y_207 y_208 y_209 y_210 y_211 y_212 y_213 y_214 y_215 y_216 y_217 y_218 y_219 y_220 y_221 y_222 y_223 y_224 y_225 y_226 y_227 y_228 y_229 y_230 y_231 y_232 y_233 y_234 y_235 y_236 y_237 y_238 y_239 y_240 y_241 y_242 y_243 y_244 y_245 y_246 y_247 y_248 y_249 y_250 y_251 y_252 y_253 y_254 y_255 y_256 y_257 y_258 y_259 y_260 y_261 y_262 y_263 y_264 y_265 y_266 y_267 y_268 y_269 y_270 y_271 y_272 y_273 y_274 y_275 y_276 y_277 y_278 y_279 y_280 y_281 y_282 y_283 y_284 y_285 y_286 y_287 y_288 y_289 y_290 y_291 y_292 y_293 y_294 y_295 y_296 y_297 y_298 y_299 y_300 y_301 y_302 y_303 kj10 HJ10 t360 t361 A44 Ao47 co47 HO334 HO339 HO344 HO349 w48 y_304 HO_10 y_305 y_306 y_307 y_308 y_309 y_310 y_311 wc u43 u44 u45 u46 u47 u48 u49 u50 u51 u52 u53 u54 u55 u56 u57 u58 u59 u60 u61 u62 u63 u64 u65 u66 u67 u68 u69 u70 u71 u72 u73 u74 u75 u76 u77 u78 u79 u80 u81 u82 u83 u84 u85 u86 u87 u88 u89 u90 u91 u92 u93 u94 u95 u96 u97 u98 u99 u100 u101 u102 u103 u104 u105 u106 u107 u108 u109 u110 u111 u112 u113 u114 u115 u116 u117 u118 u119 u120 u121 u122 u123 u124 u125 u126 u127 u128 u129 u130 u131 u132 u133 u134 u135 u136 u137 u138 u139 u140 u141 u142 u143 u144 u145 u146 u147 u148 u149 u150 u151 u152 u153 u154 u155 u156 u157 u158 u159 u160 u161 u162 u163 u164 u165 u166 u167 u168 u169 u170 u171 u172 u173 u175 u176 u177 u178 u179 u180 u181 u182 u183 u184 u185 u186 u187 u188 u189 u190 u191 u192 u193 u194 u195 u196 u197 u198 u199 u200 u201 u202 u203 u204 u205 u206 u207 u208 u209 u210 u211 u212 u213 u214 u215 u216 u217 u218 u219 u220 u221 u222 u223 u224 u225 u226 u227 u228 u229 u230 u231 u232 u233 u234 u235 u236 u237 u238 u239 u240 u241 u242 u243 u244 u245 u246 u247 u248 u249 u250 u251 u252 u253 u254 u255 u256 u257 u258 u259 u260 u261 u262 u263 u264 u265 u266 u267 u268 u269 u270 u271 u272 u273 u274 u275 u276 u277 u278 u279 u280 u281 u282 u283 u284 u285 u286 u287 u288 u289 u290 u291 u292 u293 u294 u295 u296 u297 u298 u299 u300 u301 u302 u303 u304 u305 u306 u307 u308 u309 u310 u311 u312 u313 u314 u315 u316 u317 u318 u319 u320 u321 u322 u323 u324 u325 u326 u327 u328 u329 u330 u331 u332 u333 u334 u335 u336 u337 u338 u339 u340 u341 u342 x174_44 HO_5 HO_16 BK331 HB kj44 HA HJ44
        exact hole1 ()
     ·rw [if_neg c43] at H
      have c43b0 : (t336 == 0) = false := beq_eq_false_iff_ne.mpr c43
      have c43b1 : (t336 != 0) = true := bne_iff_ne.mpr c43
      have H' := Aside0.mk H
      clear H
      go_wp2
      go_loopg [19, 20] kj10 (fun kq v19 v20 w' => ∃ (x19_2 : Bool) (x20_2 : Int), v19 = .bool x19_2 ∧ v20 = .int .i64 x20_2 ∧ Aside0 (laws_FnLines.l0 kq t326 x19_2 x20_2 t329 t330 = some r) ∧ Aside0 (kq ≤ kj10) ∧ Aside0 (Kd.R k38 38 w' w.heap.size (fun _ => True) (.slice Ao16 t326.length co16) t326) ∧ Aside0 (w'.heap[gb331]? = some (.cells #[.int .i16 t329, .int .i16 t330] 28 (0, 0))) ∧ Aside0 (Below w.heap.size w w'))
      case atStart => exact ⟨(false), (0), (by first | rfl | (simp; done) | (simp [*]; done)), (by first | rfl | (simp; done) | (simp [*]; done)), H', ⟨Nat.le_refl _⟩, ⟨by (with_reducible repeat (first | apply Kd.R_alloc | apply Kd.R_drewN | apply Kd.R_drew)); exact HO_5.out⟩, ⟨by (with_reducible repeat (first | refine blk_drewN ?_ _ | refine blk_drew ?_ | refine blk_alloc ?_ _)); exact BK331.out⟩, ⟨by repeat (first | (with_reducible first | exact HB.out | apply below_alloc | apply pw_below_drewN | apply below_drew1 | refine below_set ?_ GE331.out) | exact HB.out)⟩⟩
      case round =>
       clear H'
       try clear c1
       try clear c2
       try clear p2
       try clear c3
       try clear p3
       try clear q3
       try clear hx3
       try clear c4
       try clear c5
       try clear c6
       try clear p6
       try clear c7
       try clear c8
       try clear c9
       try clear c10
       try clear c11
       try clear c20
       try clear c21
       try clear c22
       try clear c23
       try clear c24
       try clear c24b0
       try clear c24b1
       try clear c25
       try clear c26
       try clear c27
       try clear c27b0
       try clear c27b1
       try clear c28
       try clear c28b0
       try clear c28b1
       try clear c29
       try clear c30
       try clear c31
       try clear c31b0
       try clear c31b1
       try clear c32
       try clear c32b0
       try clear c32b1
       try clear p36
       try clear q36
       try clear hx36
       try clear c37
       try clear c37b0
       try clear c37b1
       try clear p38
       try clear q38
       try clear hx38
       try clear c42
       try clear c43
       try clear c43b0
       try clear c43b1
       try clear c49
       try clear c49b0
       try clear c49b1
       try clear c50
       try clear c51
       try clear c51b0
       try clear c51b1
       try clear c51b2
       try clear c52
       try clear c54
       try clear c54b0
       try clear c54b1
       try clear c59
       try clear c59b0
       try clear c61
       try clear c61b0
       try clear c62
       try clear c62b0
       try clear c63
       try clear c64
       try clear c64b0
       try clear p64
       try clear c65
       try clear c65b0
       try clear c66
       try clear c66b0
       try clear c66b1
       try clear c71
       try clear c71b0
       try clear c71b1
       try clear c72
       try clear c73
       try clear c73b0
       try clear c73b1
       try clear c73b2
       try clear c74
       try clear c74b0
       try clear c75
       try clear c75b0
       try clear c75b1
       try clear c75b2
       try clear c76
       try clear c76b0
       try clear c76b1
       try clear c77
       try clear c78
       try clear c78b0
       try clear c80
       try clear c80b0
       try clear c80b1
       try clear c92
       try clear c92b0
       try clear c92b1
       try clear c93
       try clear c93b0
       try clear c93b1
       try clear c94
       try clear c94b0
       try clear c94b1
       try clear c95
       try clear c96
       try clear c96b0
       try clear c97
       try clear c97b0
       try clear c98
       try clear c98b0
       try clear c100
       try clear c100b0
       try clear c100b1
       try clear c101
       try clear c101b0
       try clear c101b1
       try clear c102
       try clear c102b0
       try clear c103
       try clear c104
       try clear c104b0
       try clear c104b1
       try clear c106
       try clear c106b0
       try clear c106b1
       try clear c107
       try clear c110
       try clear hcz15_0
       try clear hcz15_1
       try clear hcz18_0
       try clear hcz18_1
       try clear hcz20_0
       try clear hcz20_1
       try clear hcz22_0
       try clear hcz22_1
       try clear hcz46_0
       try clear hcz46_1
       try clear hcz56_0
       try clear hcz56_1
       try clear hcz69_0
       try clear hcz69_1
       try clear hcz81_0
       try clear hcz81_1
       try clear hcz86_0
       try clear hcz86_1
       try clear hfz15_0
       try clear hfz15_1
       try clear hfz18_0
       try clear hfz18_1
       try clear hfz20_0
       try clear hfz20_1
       try clear hfz22_0
       try clear hfz22_1
       try clear hfz46_0
       try clear hfz46_1
       try clear hfz56_0
       try clear hfz56_1
       try clear hfz69_0
       try clear hfz69_1
       try clear hfz81_0
       try clear hfz81_1
       try clear hfz86_0
       try clear hfz86_1
       try clear hx364_0
       try clear hx365_0
       try clear hx366_0
       try clear hx384_0
       try clear hx384_1
       try clear p2
       try clear p3
       try clear p36
       try clear p364
       try clear p365
       try clear p366
       try clear p384
       try clear p6
       try clear p64
       try clear q3
       try clear q36
       try clear q364
       try clear q365
       try clear q366
       try clear q384
       obtain ⟨x19_2, x20_2, rfl, rfl, HA, HK2, HO_5, BK331, HB⟩ := hrel
       cases gk with
       | zero => exact absurd HA.out (by simp [laws_FnLines.l0])
       | succ k2 =>
        rename_i y_1 y_2 y_3 y_4 y_5 y_6 y_7 y_8 y_9 y_10 y_11 y_12 y_13 y_14 y_15 y_16 y_17 y_18 y_19 y_20 y_21 y_22 y_23 y_24 y_25 y_26 y_27 y_28 y_29 y_30 y_31 y_32 y_33 y_34 y_35 y_36 y_37 y_38
        revert k A0 c0 l0 A1 c1 l1 r w hu28 hu38 HR0 HC0 HR1 HC1 A3 t326 A5 t329 t330 A6 t332 t335 t336 A7 t337 t340 t341 A8 t342 t345 t346 A9 t347 t350 t351 A10 y_1 nd y_2 w12 w13 gb331 w14 GW331 GE331 Ao16 co16 w17 v333 w19 v338 w21 v343 w23 v348 HO328 HO334 HO339 HO344 HO349 y_3 y_4 wc u43 u44 u45 u46 u47 u48 u49 u50 u51 u52 u53 u54 u55 u56 u57 u58 u59 u60 u61 u62 u63 u64 u65 u66 u67 u68 u69 u70 u71 u72 u73 u74 u75 u76 u77 u78 u79 u80 u81 u82 u83 u84 u85 u86 u87 u88 u89 u90 u91 u92 u93 u94 u95 u96 u97 u98 u99 u100 u101 u102 u103 u104 u105 u106 u107 u108 u109 u110 u111 u112 u113 u114 u115 u116 u117 u118 u119 u120 u121 u123 u124 y_5 y_6 y_7 y_8 y_9 y_10 y_11 y_12 y_13 y_14 y_15 y_16 y_17 y_18 y_19 y_20 y_21 y_22 y_23 y_24 y_25 y_26 y_27 u148 u149 u150 u151 u152 u153 u154 u155 u156 u157 u158 u159 u160 u161 u162 u163 u164 u165 u166 u167 u168 u169 u170 u171 u172 u173 u174 u175 u176 u177 u178 u179 u180 u181 u182 u183 u184 u185 u186 u187 u188 u189 u190 u191 u192 u193 u194 u195 u196 u197 u198 u199 u200 u201 u202 u203 u204 u205 u206 u207 u208 u209 u210 u211 u212 u213 u214 u215 u216 u217 u218 u219 u220 u221 u222 u223 u224 u225 u226 u227 u228 u229 u230 u231 u232 u233 u234 u235 u236 u237 u238 u239 u240 u241 u242 u243 u244 u245 u246 u247 u248 u249 u250 u251 u252 u253 u254 u255 u256 u257 u258 u259 u260 u261 u262 u263 u264 u265 u266 u267 u268 u269 u270 u271 u272 u273 u274 u275 u276 u277 u278 u279 u280 u281 u282 u283 u284 u285 u286 u287 u288 u289 u290 u291 u292 u293 u294 u295 u296 u297 u298 u299 u300 u301 u302 u303 u304 u305 u306 u307 u308 u309 u310 u311 u312 u313 u314 u315 u316 u317 u318 u319 u320 u321 u322 u323 u324 u325 u326 u327 u328 u329 u330 u331 u332 u333 u334 u335 u336 u337 u338 u339 u340 u341 u342 y_28 HO_10 HO_16 y_29 y_30 kj10 HJ10 y_31 y_32 y_33 y_34 wr u4 u21 u22 u125 u126 u127 u128 u129 u130 u131 u132 u133 u134 u135 u136 u137 u138 u139 u140 u141 u142 u143 u144 u145 u146 u147 y_35 y_36 y_37 x19_2 x20_2 HO_5 BK331 HB k2 y_38 HA HK2
        exact hole2 ()
  ⟩
set_option maxHeartbeats 8000000 in
set_option maxRecDepth 100000 in
noncomputable def laws_FnLines.calls_all_kj10_kj44_p : {P : Prop × Prop // (Unit → P.1) → (Unit → P.2) → (laws_FnLines.calls_all_kj10_p.1.1)} :=
  ⟨(_, _), fun hole1 hole2 => by
    intro k A0 c0 l0 A1 c1 l1 r w hu28 hu38 HR0 HC0 HR1 HC1 A3 t326 A5 t329 t330 A6 t332 t335 t336 A7 t337 t340 t341 A8 t342 t345 t346 A9 t347 t350 t351 A10 _ nd _ w12 w13 gb331 w14 GW331 GE331 Ao16 co16 w17 v333 w19 w21 v343 w23 v348 HO328 _ _ _ _ _ _ _ _ _ _ _ _ _ _ _ _ _ _ _ _ _ _ _ _ _ _ _ _ _ _ _ _ _ _ _ _ _ _ _ _ _ _ _ _ _ _ _ _ _ _ _ _ _ _ _ _ _ _ _ _ _ _ _ _ _ _ _ _ _ _ _ _ _ _ _ _ _ _ _ _ _ _ _ _ _ _ _ _ _ _ _ _ _ _ _ _ _ _ _ _ _ _ _ _ _ _ _ _ _ _ _ _ _ _ _ _ _ _ _ _ _ _ _ _ _ _ _ _ _ _ _ _ _ u174 _ _ _ _ _ _ _ _ _ _ _ _ _ _ _ _ _ _ _ _ _ _ _ _ _ _ _ _ _ _ _ _ _ _ _ _ _ _ _ _ _ _ _ _ _ _ _ _ _ _ _ _ _ _ _ _ _ _ _ _ _ _ _ _ _ _ _ _ _ _ _ _ _ _ _ _ _ _ _ _ _ _ _ _ _ _ _ _ _ _ _ _ _ _ _ _ _ _ _ _ _ _ _ _ _ _ _ _ _ _ _ _ _ _ _ _ _ _ _ _ _ _ _ _ _ _ _ _ _ _ _ _ _ _ _ _ _ _ _ _ _ _ _ _ _ _ _ _ _ _ _ _ _ _ _ _ _ _ _ _ _ _ _ _ _ _ _ _ kj10 HJ10 t360 t361 A44 Ao47 co47 HO334 HO339 HO344 HO349 w48 _ HO_10 _ _ _ _ _ _ _ wc u43 u44 u45 u46 u47 u48 u49 u50 u51 u52 u53 u54 u55 u56 u57 u58 u59 u60 u61 u62 u63 u64 u65 u66 u67 u68 u69 u70 u71 u72 u73 u74 u75 u76 u77 u78 u79 u80 u81 u82 u83 u84 u85 u86 u87 u88 u89 u90 u91 u92 u93 u94 u95 u96 u97 u98 u99 u100 u101 u102 u103 u104 u105 u106 u107 u108 u109 u110 u111 u112 u113 u114 u115 u116 u117 u118 u119 u120 u121 u122 u123 u124 u125 u126 u127 u128 u129 u130 u131 u132 u133 u134 u135 u136 u137 u138 u139 u140 u141 u142 u143 u144 u145 u146 u147 u148 u149 u150 u151 u152 u153 u154 u155 u156 u157 u158 u159 u160 u161 u162 u163 u164 u165 u166 u167 u168 u169 u170 u171 u172 u173 u175 u176 u177 u178 u179 u180 u181 u182 u183 u184 u185 u186 u187 u188 u189 u190 u191 u192 u193 u194 u195 u196 u197 u198 u199 u200 u201 u202 u203 u204 u205 u206 u207 u208 u209 u210 u211 u212 u213 u214 u215 u216 u217 u218 u219 u220 u221 u222 u223 u224 u225 u226 u227 u228 u229 u230 u231 u232 u233 u234 u235 u236 u237 u238 u239 u240 u241 u242 u243 u244 u245 u246 u247 u248 u249 u250 u251 u252 u253 u254 u255 u256 u257 u258 u259 u260 u261 u262 u263 u264 u265 u266 u267 u268 u269 u270 u271 u272 u273 u274 u275 u276 u277 u278 u279 u280 u281 u282 u283 u284 u285 u286 u287 u288 u289 u290 u291 u292 u293 u294 u295 u296 u297 u298 u299 u300 u301 u302 u303 u304 u305 u306 u307 u308 u309 u310 u311 u312 u313 u314 u315 u316 u317 u318 u319 u320 u321 u322 u323 u324 u325 u326 u327 u328 u329 u330 u331 u332 u333 u334 u335 u336 u337 u338 u339 u340 u341 u342 x174_44 HO_5 HO_16 BK331 HB kj44 HA HJ44
    have H := HA.out
    clear HA
    simp only [laws_FnLines.j2] at H
    by_cases c52 : x174_44 = true
    ·subst c52
     have H1 : (none) = some r := by rw [if_pos rfl] at H; exact H
     clear H
     have H := H1
     clear H1
     exact absurd H (by simp)
    ·replace c52 := Bool.eq_false_iff.mpr c52
     subst c52
     have H1 : (if t346 = 0 then ((impl_CheckLines.f kj44 t329 t330 t326 t347).bind fun bt362 => (laws_FnLines.l1 kj44 t326 t340 t347 t350 bt362.1 bt362.2 0 0 t329 t330)) else (laws_FnLines.j6 kj44 t326 t329 t330)) = some r := by rw [if_neg (show ¬ (false = true) by decide)] at H; exact H
     clear H
     have H := H1
     clear H1
     have HC53 := Aside0.mk H
     clear H
     go_upto_if 176 with (fail)
     go_cut [] (fun wc => ∃ (kq : Nat), Aside0 (laws_FnLines.j6 kq t326 t329 t330 = some r) ∧ Aside0 (kq ≤ kj44) ∧ Aside0 (Kd.R k38 38 wc w.heap.size (fun _ => True) (.slice Ao16 t326.length co16) t326) ∧ Aside0 (wc.heap[gb331]? = some (.cells #[.int .i16 t329, .int .i16 t330] 28 (0, 0))) ∧ Aside0 (Below w.heap.size w wc))
     case first =>
      have H := HC53.out
      clear HC53
      by_cases c54 : t346 = 0
      ·rw [if_pos c54] at H
       have c54b0 : (t346 == 0) = true := beq_iff_eq.mpr c54
       have c54b1 : (t346 != 0) = false := bne_eq_false_iff_eq.mpr c54
       clear c54
       (first | rw [c54b0] | (simp only [i64_w, i32_w]; rw [c54b0]) | skip)
       replace H := Option.bind_eq_some_iff.mp H
       obtain ⟨⟨t362, t363⟩, A550, H⟩ := H
       replace H : (laws_FnLines.l1 kj44 t326 t340 t347 t350 t362 t363 0 0 t329 t330) = some r := H
       have A55 := Aside0.mk A550
       clear A550
       have H' := Aside0.mk H
       clear H
       have hcz56_0 : wc.cell? ⟨gb331, 0, none⟩ = some (.int .i16 t329) := (blk_cell BK331.out 0).trans rfl
       have hcz56_1 : wc.cell? ⟨gb331, 1, none⟩ = some (.int .i16 t330) := (blk_cell BK331.out 1).trans rfl
       have hfz56_0 := blk_frozen BK331.out 0
       have hfz56_1 := blk_frozen BK331.out 1
       obtain ⟨Ao57, co57, eo57⟩ := Kd.R_slice HO_16.out
       subst eo57
       go_wp2_with (first | ((with_reducible refine gate_callee (f := 29) rfl ?_); refine goesL_ (some 181) rfl rfl Try.func29 (by kernel_rfl) rfl #[.agg #[.int .i16 t329, .int .i16 t330], .slice Ao16 t326.length co16, .slice Ao57 t347.length co57] rfl (by (try simp only [List.map_toArray, List.map_cons, List.map_nil]); first | done | rfl | (simp only [List.length_drop, List.length_take]; rfl)) ?_; (with_reducible refine (impl_CheckLines.calls kj44 t329 t330 _ _ t326 _ _ t347 t362 t363 _ ?side1 ?side2 ?side3 ?side4 A55.out).mono ?_); (case side1 => repeat (first | exact (Kd.R_reads' HO_5.out).2.2 | (with_reducible refine Kd.C_alloc ?_ _) | (with_reducible refine Kd.C_drewN ?_ _) | (with_reducible refine Kd.C_drew ?_))); (case side2 => exact (Kd.R_reads' HO_5.out).2.1); (case side3 => repeat (first | exact (Kd.R_reads' HO_16.out).2.2 | (with_reducible refine Kd.C_alloc ?_ _) | (with_reducible refine Kd.C_drewN ?_ _) | (with_reducible refine Kd.C_drew ?_))); (case side4 => exact (Kd.R_reads' HO_16.out).2.1); rintro e w58 ⟨rfl, hb⟩; refine ⟨_, rfl, ?_⟩; have n0_ := Aside0.mk (Kd.R_below (by (with_reducible repeat (first | apply Kd.R_alloc | apply Kd.R_drewN | apply Kd.R_drew)); exact HO_5.out) hb); have n1_ := Aside0.mk (Kd.R_below (by (with_reducible repeat (first | apply Kd.R_alloc | apply Kd.R_drewN | apply Kd.R_drew)); exact HO_16.out) hb); have n2_ := Aside0.mk (blk_below (g := gb331) (o := .cells #[.int .i16 t329, .int .i16 t330] 28 (0, 0)) (by (with_reducible repeat (first | refine blk_drewN ?_ _ | refine blk_drew ?_ | refine blk_alloc ?_ _)); exact BK331.out) hb); have n3_ := Aside0.mk (below_step (by repeat (first | (with_reducible first | exact HB.out | apply below_alloc | apply pw_below_drewN | apply below_drew1 | refine below_set ?_ GE331.out) | exact HB.out)) hb); clear HO_5; clear HO_16; clear BK331; clear HB; have HO_5 := n0_; have HO_16 := n1_; have BK331 := n2_; have HB := n3_; clear n0_ n1_ n2_ n3_; (try clear hb); (try clear hb2); (try clear hk); (try clear hi)))
       go_loopg [27, 28] kj44 (fun kq v27 v28 w' => ∃ (x27_3 : Int) (x28_3 : Int), v27 = .int .i64 x27_3 ∧ v28 = .int .i64 x28_3 ∧ Aside0 (laws_FnLines.l1 kq t326 t340 t347 t350 t362 t363 x27_3 x28_3 t329 t330 = some r) ∧ Aside0 (kq ≤ kj44) ∧ Aside0 (Kd.R k38 38 w' w.heap.size (fun _ => True) (.slice Ao16 t326.length co16) t326) ∧ Aside0 (Kd.R (Kd.int .i64) 2 w' w.heap.size (fun _ => True) (.slice Ao57 t347.length co57) t347) ∧ Aside0 (w'.heap[gb331]? = some (.cells #[.int .i16 t329, .int .i16 t330] 28 (0, 0))) ∧ Aside0 (Below w.heap.size w w'))
       case atStart => exact ⟨(0), (0), (by first | rfl | (simp; done) | (simp [*]; done)), (by first | rfl | (simp; done) | (simp [*]; done)), H', ⟨Nat.le_refl _⟩, ⟨by (with_reducible repeat (first | apply Kd.R_alloc | apply Kd.R_drewN | apply Kd.R_drew)); exact HO_5.out⟩, ⟨by (with_reducible repeat (first | apply Kd.R_alloc | apply Kd.R_drewN | apply Kd.R_drew)); exact HO_16.out⟩, ⟨by (with_reducible repeat (first | refine blk_drewN ?_ _ | refine blk_drew ?_ | refine blk_alloc ?_ _)); exact BK331.out⟩, ⟨by repeat (first | (with_reducible first | exact HB.out | apply below_alloc | apply pw_below_drewN | apply below_drew1 | refine below_set ?_ GE331.out) | exact HB.out)⟩⟩
       case round =>
        clear H'
        try clear c1
        try clear c2
        try clear p2
        try clear c3
        try clear c4
        try clear c5
        try clear c20
        try clear c21
        try clear c22
        try clear c23
        try clear c24
        try clear c24b0
        try clear c24b1
        try clear c25
        try clear c26
        try clear c27
        try clear c27b0
        try clear c27b1
        try clear c28
        try clear c28b0
        try clear c28b1
        try clear c29
        try clear c30
        try clear c31
        try clear c31b0
        try clear c31b1
        try clear c32
        try clear c32b0
        try clear c32b1
        try clear c37
        try clear c37b0
        try clear c37b1
        try clear c42
        try clear c43
        try clear c43b0
        try clear c43b1
        try clear c49
        try clear c49b0
        try clear c49b1
        try clear c50
        try clear c51
        try clear c51b0
        try clear c51b1
        try clear c51b2
        try clear c52
        try clear c54
        try clear c54b0
        try clear c54b1
        try clear hcz15_0
        try clear hcz15_1
        try clear hcz18_0
        try clear hcz18_1
        try clear hcz20_0
        try clear hcz20_1
        try clear hcz22_0
        try clear hcz22_1
        try clear hcz46_0
        try clear hcz46_1
        try clear hcz56_0
        try clear hcz56_1
        try clear hfz15_0
        try clear hfz15_1
        try clear hfz18_0
        try clear hfz18_1
        try clear hfz20_0
        try clear hfz20_1
        try clear hfz22_0
        try clear hfz22_1
        try clear hfz46_0
        try clear hfz46_1
        try clear hfz56_0
        try clear hfz56_1
        try clear p2
        obtain ⟨x27_3, x28_3, rfl, rfl, HA, HK3, HO_5, HO_16, BK331, HB⟩ := hrel
        cases gk with
        | zero => exact absurd HA.out (by simp [laws_FnLines.l1])
        | succ k3 =>
         rename_i y_1 y_2 y_3 y_4 y_5 y_6 y_7 y_8 y_9 y_10 y_11 y_12 y_13 y_14 y_15 y_16 y_17 y_18 y_19 y_20 y_21 y_22 y_23 y_24 y_25 y_26 y_27 y_28 y_29 y_30 y_31 y_32 y_33 y_34 y_35 y_36 y_37 y_38 y_39 y_40 y_41 y_42 y_43 y_44 y_45 y_46 y_47 y_48 y_49 y_50 y_51 y_52 y_53 y_54 y_55 y_56 y_57 y_58 y_59 y_60 y_61 y_62 y_63 y_64 y_65 y_66 y_67 y_68 y_69 y_70 y_71 y_72 y_73 y_74 y_75 y_76 y_77 y_78 y_79 y_80 y_81 y_82 y_83 y_84 y_85 y_86 y_87 y_88 y_89 y_90 y_91 y_92 y_93 y_94 y_95 y_96 y_97 y_98 y_99 y_100 y_101 y_102 y_103 y_104 y_105 y_106 y_107 y_108 y_109 y_110 y_111 y_112 y_113 y_114 y_115 y_116 y_117 y_118 y_119 y_120 y_121 y_122 y_123 y_124 y_125 y_126 y_127 y_128 y_129 y_130 y_131 y_132 y_133 y_134 y_135 y_136 y_137 y_138 y_139 y_140 y_141 y_142 y_143 y_144 y_145 y_146 y_147 y_148 y_149 y_150 y_151 y_152 y_153 y_154 y_155 y_156 y_157 y_158 y_159 y_160 y_161 y_162 y_163 y_164 y_165 y_166 y_167 y_168 y_169 y_170 y_171 y_172 y_173 y_174 y_175 y_176 y_177 y_178 y_179 y_180 y_181 y_182 y_183 y_184 y_185 y_186 y_187 y_188 y_189 y_190 y_191 y_192 y_193 y_194 y_195 y_196 y_197 y_198 y_199 y_200 y_201 y_202 y_203 y_204 y_205 y_206 y_207 y_208 y_209 y_210 y_211 y_212 y_213 y_214 y_215 y_216 y_217 y_218 y_219 y_220 y_221 y_222 y_223 y_224 y_225 y_226 y_227 y_228 y_229 y_230 y_231 y_232 y_233 y_234 y_235 y_236 y_237 y_238 y_239 y_240 y_241 y_242 y_243 y_244 y_245 y_246 y_247 y_248 y_249 y_250 y_251 y_252 y_253 y_254 y_255 y_256 y_257 y_258 y_259 y_260 y_261 y_262 y_263 y_264 y_265 y_266 y_267 y_268 y_269 y_270 y_271 y_272 y_273 y_274 y_275 y_276 y_277 y_278 y_279 y_280 y_281 y_282 y_283 y_284 y_285 y_286 y_287 y_288 y_289 y_290 y_291 y_292 y_293 y_294 y_295 y_296 y_297 y_298 y_299 y_300 y_301 y_302 y_303 y_304 y_305 y_306 y_307 y_308 y_309 y_310 y_311 y_312 y_313 y_314 y_315 y_316 y_317 y_318 y_319 y_320 y_321 y_322 y_323 y_324 y_325 y_326 y_327 y_328 y_329 y_330 y_331 y_332 y_333 y_334 y_335 y_336 y_337 y_338 y_339 y_340 y_341 y_342 y_343 y_344 y_345 y_346 y_347 y_348 y_349 y_350
         revert k A0 c0 l0 A1 c1 l1 r w hu28 hu38 HR0 HC0 HR1 HC1 A3 t326 A5 t329 t330 A6 t332 t335 t336 A7 t337 t340 t341 A8 t342 t345 t346 A9 t347 t350 t351 A10 y_1 nd y_2 w12 w13 gb331 w14 GW331 GE331 Ao16 co16 w17 v333 w19 w21 v343 w23 HO328 y_3 y_4 y_5 y_6 y_7 y_8 y_9 y_10 y_11 y_12 y_13 y_14 y_15 y_16 y_17 y_18 y_19 y_20 y_21 y_22 y_23 y_24 y_25 y_26 y_27 y_28 y_29 y_30 y_31 y_32 y_33 y_34 y_35 y_36 y_37 y_38 y_39 y_40 y_41 y_42 y_43 y_44 y_45 y_46 y_47 y_48 y_49 y_50 y_51 y_52 y_53 y_54 y_55 y_56 y_57 y_58 y_59 y_60 y_61 y_62 y_63 y_64 y_65 y_66 y_67 y_68 y_69 y_70 y_71 y_72 y_73 y_74 y_75 y_76 y_77 y_78 y_79 y_80 y_81 y_82 y_83 y_84 y_85 y_86 y_87 y_88 y_89 y_90 y_91 y_92 y_93 y_94 y_95 y_96 y_97 y_98 y_99 y_100 y_101 y_102 y_103 y_104 y_105 y_106 y_107 y_108 y_109 y_110 y_111 y_112 y_113 y_114 y_115 y_116 y_117 y_118 y_119 y_120 y_121 y_122 y_123 y_124 y_125 y_126 y_127 y_128 y_129 y_130 y_131 y_132 y_133 y_134 y_135 u174 y_136 y_137 y_138 y_139 y_140 y_141 y_142 y_143 y_144 y_145 y_146 y_147 y_148 y_149 y_150 y_151 y_152 y_153 y_154 y_155 y_156 y_157 y_158 y_159 y_160 y_161 y_162 y_163 y_164 y_165 y_166 y_167 y_168 y_169 y_170 y_171 y_172 y_173 y_174 y_175 y_176 y_177 y_178 y_179 y_180 y_181 y_182 y_183 y_184 y_185 y_186 y_187 y_188 y_189 y_190 y_191 y_192 y_193 y_194 y_195 y_196 y_197 y_198 y_199 y_200 y_201 y_202 y_203 y_204 y_205 y_206 y_207 y_208 y_209 y_210 y_211 y_212 y_213 y_214 y_215 y_216 y_217 y_218 y_219 y_220 y_221 y_222 y_223 y_224 y_225 y_226 y_227 y_228 y_229 y_230 y_231 y_232 y_233 y_234 y_235 y_236 y_237 y_238 y_239 y_240 y_241 y_242 y_243 y_244 y_245 y_246 y_247 y_248 y_249 y_250 y_251 y_252 y_253 y_254 y_255 y_256 y_257 y_258 y_259 y_260 y_261 y_262 y_263 y_264 y_265 y_266 y_267 y_268 y_269 y_270 y_271 y_272 y_273 y_274 y_275 y_276 y_277 y_278 y_279 y_280 y_281 y_282 y_283 y_284 y_285 y_286 y_287 y_288 y_289 y_290 y_291 y_292 y_293 y_294 y_295 y_296 y_297 y_298 y_299 y_300 y_301 y_302 y_303 kj10 HJ10 t360 t361 A44 Ao47 co47 w48 y_304 y_305 y_306 wc u43 u44 u45 u46 u47 u48 u49 u50 u51 u52 u53 u54 u55 u56 u57 u58 u59 u60 u61 u62 u63 u64 u65 u66 u67 u68 u69 u70 u71 u72 u73 u74 u75 u76 u77 u78 u79 u80 u81 u82 u83 u84 u85 u86 u87 u88 u89 u90 u91 u92 u93 u94 u95 u96 u97 u98 u99 u100 u101 u102 u103 u104 u105 u106 u107 u108 u109 u110 u111 u112 u113 u114 u115 u116 u117 u118 u119 u120 u121 u122 u123 u124 u125 u126 u127 u128 u129 u130 u131 u132 u133 u134 u135 u136 u137 u138 u139 u140 u141 u142 u143 u144 u145 u146 u147 u148 u149 u150 u151 u152 u153 u154 u155 u156 u157 u158 u159 u160 u161 u162 u163 u164 u165 u166 u167 u168 u169 u170 u171 u172 u173 u175 u176 u177 u178 u179 u180 u181 u182 u183 y_307 y_308 y_309 y_310 y_311 y_312 y_313 y_314 y_315 y_316 y_317 y_318 y_319 y_320 y_321 y_322 y_323 y_324 y_325 y_326 y_327 y_328 y_329 y_330 y_331 y_332 y_333 u211 u212 u213 u214 u215 u216 u217 u218 u219 u220 u221 u222 u223 u224 u225 u226 u227 u228 u229 u230 u231 u232 u233 u234 u235 u236 u237 u238 u239 u240 u241 u242 u243 u244 u245 u246 u247 u248 u249 u250 u251 u252 u253 u254 u255 u256 u257 u258 u259 u260 u261 u262 u263 u264 u265 u266 u267 u268 u269 u270 u271 u272 u273 u274 u275 u276 u277 u278 u279 u280 u281 u282 u283 u284 u285 u286 u287 u288 u289 u290 u291 u292 u293 u294 u295 u296 u297 u298 u299 u300 u301 u302 u303 u304 u305 u306 u307 u308 u309 u310 u311 u312 u313 u314 u315 u316 u317 u318 u319 u320 u321 u322 u323 u324 u325 u326 u327 u328 u329 u330 u331 u332 u333 u334 u335 u336 u337 u338 u339 u340 u341 u342 kj44 HJ44 y_334 y_335 y_336 y_337 y_338 t362 t363 A55 Ao57 co57 HO334 HO339 HO344 HO349 HO_10 y_339 y_340 w58 y_341 y_342 y_343 y_344 y_345 y_346 wr u4 u184 u185 u186 u187 u188 u189 u190 u191 u192 u193 u194 u195 u196 u197 u198 u199 u200 u201 u202 u203 u204 u205 u206 u207 u208 u209 u210 y_347 y_348 y_349 x27_3 x28_3 HO_5 HO_16 BK331 HB k3 y_350 HA HK3
         exact hole1 ()
      ·rw [if_neg c54] at H
       have c54b0 : (t346 == 0) = false := beq_eq_false_iff_ne.mpr c54
       have c54b1 : (t346 != 0) = true := bne_iff_ne.mpr c54
       (first | rw [c54b0] | (simp only [i64_w, i32_w]; rw [c54b0]) | skip)
       have H' := Aside0.mk H
       clear H
       go_wp2
       go_meet
       case rel => exact ⟨_, H', ⟨by have := HJ10.out; have := HJ44.out; first | omega | exact Nat.le_refl _⟩, ⟨by (with_reducible repeat (first | apply Kd.R_alloc | apply Kd.R_drewN | apply Kd.R_drew)); exact HO_5.out⟩, ⟨by (with_reducible repeat (first | refine blk_drewN ?_ _ | refine blk_drew ?_ | refine blk_alloc ?_ _)); exact BK331.out⟩, ⟨by repeat (first | (with_reducible first | exact HB.out | apply below_alloc | apply pw_below_drewN | apply below_drew1 | refine below_set ?_ GE331.out) | exact HB.out)⟩⟩
     case rest =>
      clear HC53
      try clear c1
      try clear c2
      try clear p2
      try clear c3
      try clear p3
      try clear q3
      try clear hx3
      try clear c4
      try clear c5
      try clear c6
      try clear p6
      try clear c7
      try clear c8
      try clear c20
      try clear c21
      try clear c22
      try clear c23
      try clear c24
      try clear c24b0
      try clear c24b1
      try clear c25
      try clear c26
      try clear c27
      try clear c27b0
      try clear c27b1
      try clear c28
      try clear c28b0
      try clear c28b1
      try clear c29
      try clear c30
      try clear c31
      try clear c31b0
      try clear c31b1
      try clear c32
      try clear c32b0
      try clear c32b1
      try clear p36
      try clear q36
      try clear hx36
      try clear c37
      try clear c37b0
      try clear c37b1
      try clear c42
      try clear c43
      try clear c43b0
      try clear c43b1
      try clear c49
      try clear c49b0
      try clear c49b1
      try clear c50
      try clear c51
      try clear c51b0
      try clear c51b1
      try clear c51b2
      try clear c52
      try clear c54
      try clear c54b0
      try clear c54b1
      try clear c59
      try clear c59b0
      try clear c61
      try clear c61b0
      try clear c62
      try clear c62b0
      try clear c63
      try clear c64
      try clear c64b0
      try clear p64
      try clear c65
      try clear c65b0
      try clear c66
      try clear c66b0
      try clear c66b1
      try clear c71
      try clear c71b0
      try clear c71b1
      try clear c72
      try clear c73
      try clear c73b0
      try clear c73b1
      try clear c73b2
      try clear c74
      try clear c74b0
      try clear c75
      try clear c75b0
      try clear c75b1
      try clear c75b2
      try clear c76
      try clear c76b0
      try clear c76b1
      try clear c77
      try clear c78
      try clear c78b0
      try clear c80
      try clear c80b0
      try clear c80b1
      try clear hcz15_0
      try clear hcz15_1
      try clear hcz18_0
      try clear hcz18_1
      try clear hcz20_0
      try clear hcz20_1
      try clear hcz22_0
      try clear hcz22_1
      try clear hcz46_0
      try clear hcz46_1
      try clear hcz56_0
      try clear hcz56_1
      try clear hcz69_0
      try clear hcz69_1
      try clear hcz81_0
      try clear hcz81_1
      try clear hfz15_0
      try clear hfz15_1
      try clear hfz18_0
      try clear hfz18_1
      try clear hfz20_0
      try clear hfz20_1
      try clear hfz22_0
      try clear hfz22_1
      try clear hfz46_0
      try clear hfz46_1
      try clear hfz56_0
      try clear hfz56_1
      try clear hfz69_0
      try clear hfz69_1
      try clear hfz81_0
      try clear hfz81_1
      try clear hx364_0
      try clear hx365_0
      try clear hx366_0
      try clear p2
      try clear p3
      try clear p36
      try clear p364
      try clear p365
      try clear p366
      try clear p6
      try clear p64
      try clear q3
      try clear q36
      try clear q364
      try clear q365
      try clear q366
      obtain ⟨kq, HA, HJ52, HO_5, BK331, HB⟩ := hcut
      cases kq with
      | zero => exact absurd HA.out (by simp [laws_FnLines.j6])
      | succ kj52 =>
       rename_i y_1 y_2 y_3 y_4 y_5 y_6 y_7 y_8 y_9 y_10 y_11 y_12 y_13 y_14 y_15 y_16 y_17 y_18 y_19 y_20 y_21 y_22 y_23 y_24 y_25 y_26 y_27 y_28 y_29 y_30 y_31 y_32 y_33 y_34 y_35 y_36 y_37 y_38 y_39 y_40 y_41 y_42 y_43 y_44 y_45 y_46 y_47 y_48 y_49 y_50 y_51 y_52 y_53 y_54 y_55 y_56 y_57 y_58 y_59 y_60 y_61 y_62 y_63 y_64 y_65 y_66 y_67 y_68 y_69 y_70 y_71 y_72 y_73 y_74 y_75 y_76 y_77 y_78 y_79 y_80 y_81 y_82 y_83 y_84 y_85 y_86 y_87 y_88 y_89 y_90 y_91 y_92 y_93 y_94 y_95 y_96 y_97 y_98 y_99 y_100 y_101 y_102 y_103 y_104 y_105 y_106 y_107 y_108 y_109 y_110 y_111 y_112 y_113 y_114 y_115 y_116 y_117 y_118 y_119 y_120 y_121 y_122 y_123 y_124 y_125 y_126 y_127 y_128 y_129 y_130 y_131 y_132 y_133 y_134 y_135 y_136 y_137 y_138 y_139 y_140 y_141 y_142 y_143 y_144 y_145 y_146 y_147 y_148 y_149 y_150 y_151 y_152 y_153 y_154 y_155 y_156 y_157 y_158 y_159 y_160 y_161 y_162 y_163 y_164 y_165 y_166 y_167 y_168 y_169 y_170 y_171 y_172 y_173 y_174 y_175 y_176 y_177 y_178 y_179 y_180 y_181 y_182 y_183 y_184 y_185 y_186 y_187 y_188 y_189 y_190 y_191 y_192 y_193 y_194 y_195 y_196 y_197 y_198 y_199 y_200 y_201 y_202 y_203 y_204 y_205 y_206 y_207 y_208 y_209 y_210 y_211 y_212 y_213 y_214 y_215 y_216 y_217 y_218 y_219 y_220 y_221 y_222 y_223 y_224 y_225 y_226 y_227 y_228 y_229 y_230 y_231 y_232 y_233 y_234 y_235 y_236 y_237 y_238 y_239 y_240 y_241 y_242 y_243 y_244 y_245 y_246 y_247 y_248 y_249 y_250 y_251 y_252 y_253 y_254 y_255 y_256 y_257 y_258 y_259 y_260 y_261 y_262 y_263 y_264 y_265 y_266 y_267 y_268 y_269 y_270 y_271 y_272 y_273 y_274 y_275 y_276 y_277 y_278 y_279 y_280 y_281 y_282 y_283 y_284 y_285 y_286 y_287 y_288 y_289 y_290 y_291 y_292 y_293 y_294 y_295 y_296 y_297 y_298 y_299 y_300 y_301 y_302 y_303 y_304 y_305 y_306 y_307 y_308 y_309 y_310 y_311 y_312 y_313 y_314 y_315 y_316 y_317 y_318 y_319 y_320 y_321 y_322 y_323 y_324 y_325 y_326 y_327 y_328 y_329 y_330 y_331 y_332 y_333 y_334 y_335 y_336 y_337 y_338 y_339 y_340 y_341 y_342 y_343 y_344 y_345 y_346 y_347 y_348 y_349 y_350 y_351 y_352 y_353 y_354 y_355 y_356 y_357 y_358 y_359 y_360 y_361 y_362 y_363 y_364 y_365 y_366 y_367 y_368 y_369 y_370 y_371 y_372 y_373 y_374 y_375 y_376 y_377 y_378 y_379 y_380 y_381 y_382 y_383 y_384 y_385 y_386 y_387 y_388 y_389 y_390 y_391 y_392 y_393 y_394 y_395 y_396 y_397 y_398 y_399 y_400 y_401 y_402 y_403 y_404 y_405 y_406 y_407 y_408 y_409 y_410 y_411 y_412 y_413 y_414 y_415 y_416 y_417 y_418 y_419 y_420 y_421 y_422 y_423 y_424 y_425 y_426 y_427 y_428 y_429 y_430 y_431 y_432 y_433 y_434 y_435 y_436 y_437 y_438 y_439 y_440 y_441 y_442 y_443 y_444 y_445 y_446 y_447 y_448 y_449 y_450 y_451 y_452 y_453 y_454 y_455 y_456 y_457 y_458 y_459 y_460 y_461 y_462 y_463 y_464 y_465 y_466 y_467 y_468 y_469 y_470 y_471 y_472 y_473 y_474 y_475 y_476 y_477 y_478 y_479 y_480 y_481 y_482 y_483 y_484 y_485 y_486 y_487 y_488 y_489 y_490 y_491 y_492 y_493 y_494 y_495 y_496 y_497 y_498 y_499 y_500 y_501 y_502 y_503 y_504 y_505 y_506 y_507 y_508 y_509 y_510 y_511 y_512 y_513 y_514 y_515 y_516 y_517 y_518 y_519 y_520 y_521 y_522 y_523 y_524 y_525 y_526 y_527 y_528 y_529 y_530 y_531 y_532 y_533 y_534 y_535 y_536 y_537 y_538 y_539 y_540 y_541 y_542 y_543 y_544 y_545 y_546 y_547 y_548 y_549 y_550 y_551 y_552 y_553 y_554 y_555 y_556 y_557 y_558 y_559 y_560 y_561 y_562 y_563 y_564 y_565 y_566 y_567 y_568 y_569 y_570 y_571 y_572 y_573 y_574 y_575 y_576 y_577 y_578 y_579 y_580 y_581 y_582 y_583 y_584 y_585 y_586 y_587 y_588 y_589 y_590 y_591 y_592 y_593 y_594 y_595 y_596 y_597 y_598 y_599 y_600 y_601 y_602 y_603 y_604 y_605 y_606 y_607 y_608 y_609 y_610 y_611 y_612 y_613
       revert k A0 c0 l0 A1 c1 l1 r w hu28 hu38 HR0 HC0 HR1 HC1 A3 t326 A5 t329 t330 A6 t332 t335 t336 A7 t337 t340 t341 A8 t342 t345 t346 A9 t347 t350 t351 A10 y_1 nd y_2 w12 w13 gb331 w14 GW331 GE331 Ao16 co16 w17 v333 w19 w21 v343 w23 v348 HO328 y_3 y_4 y_5 y_6 y_7 y_8 y_9 y_10 y_11 y_12 y_13 y_14 y_15 y_16 y_17 y_18 y_19 y_20 y_21 y_22 y_23 y_24 y_25 y_26 y_27 y_28 y_29 y_30 y_31 y_32 y_33 y_34 y_35 y_36 y_37 y_38 y_39 y_40 y_41 y_42 y_43 y_44 y_45 y_46 y_47 y_48 y_49 y_50 y_51 y_52 y_53 y_54 y_55 y_56 y_57 y_58 y_59 y_60 y_61 y_62 y_63 y_64 y_65 y_66 y_67 y_68 y_69 y_70 y_71 y_72 y_73 y_74 y_75 y_76 y_77 y_78 y_79 y_80 y_81 y_82 y_83 y_84 y_85 y_86 y_87 y_88 y_89 y_90 y_91 y_92 y_93 y_94 y_95 y_96 y_97 y_98 y_99 y_100 y_101 y_102 y_103 y_104 y_105 y_106 y_107 y_108 y_109 y_110 y_111 y_112 y_113 y_114 y_115 y_116 y_117 y_118 y_119 y_120 y_121 y_122 y_123 y_124 y_125 y_126 y_127 y_128 y_129 y_130 y_131 y_132 y_133 y_134 y_135 y_136 y_137 y_138 y_139 y_140 y_141 y_142 y_143 y_144 y_145 y_146 y_147 y_148 y_149 y_150 y_151 y_152 y_153 y_154 y_155 y_156 y_157 y_158 y_159 y_160 y_161 y_162 y_163 y_164 y_165 y_166 y_167 y_168 y_169 y_170 y_171 y_172 y_173 y_174 y_175 y_176 y_177 y_178 y_179 y_180 y_181 y_182 y_183 y_184 y_185 y_186 y_187 y_188 y_189 y_190 y_191 y_192 y_193 y_194 y_195 y_196 y_197 y_198 y_199 y_200 y_201 y_202 y_203 y_204 y_205 y_206 y_207 y_208 y_209 y_210 y_211 y_212 y_213 y_214 y_215 y_216 y_217 y_218 y_219 y_220 y_221 y_222 y_223 y_224 y_225 y_226 y_227 y_228 y_229 y_230 y_231 y_232 y_233 y_234 y_235 y_236 y_237 y_238 y_239 y_240 y_241 y_242 y_243 y_244 y_245 y_246 y_247 y_248 y_249 y_250 y_251 y_252 y_253 y_254 y_255 y_256 y_257 y_258 y_259 y_260 y_261 y_262 y_263 y_264 y_265 y_266 y_267 y_268 y_269 y_270 y_271 y_272 y_273 y_274 y_275 y_276 y_277 y_278 y_279 y_280 y_281 y_282 y_283 y_284 y_285 y_286 y_287 y_288 y_289 y_290 y_291 y_292 y_293 y_294 y_295 y_296 y_297 y_298 y_299 y_300 y_301 y_302 y_303 y_304 kj10 HJ10 t360 t361 A44 Ao47 co47 HO334 HO339 HO344 HO349 w48 y_305 HO_10 y_306 y_307 y_308 y_309 y_310 y_311 y_312 y_313 y_314 y_315 y_316 y_317 y_318 y_319 y_320 y_321 y_322 y_323 y_324 y_325 y_326 y_327 y_328 y_329 y_330 y_331 y_332 y_333 y_334 y_335 y_336 y_337 y_338 y_339 y_340 y_341 y_342 y_343 y_344 y_345 y_346 y_347 y_348 y_349 y_350 y_351 y_352 y_353 y_354 y_355 y_356 y_357 y_358 y_359 y_360 y_361 y_362 y_363 y_364 y_365 y_366 y_367 y_368 y_369 y_370 y_371 y_372 y_373 y_374 y_375 y_376 y_377 y_378 y_379 y_380 y_381 y_382 y_383 y_384 y_385 y_386 y_387 y_388 y_389 y_390 y_391 y_392 y_393 y_394 y_395 y_396 y_397 y_398 y_399 y_400 y_401 y_402 y_403 y_404 y_405 y_406 y_407 y_408 y_409 y_410 y_411 y_412 y_413 y_414 y_415 y_416 y_417 y_418 y_419 y_420 y_421 y_422 y_423 y_424 y_425 y_426 y_427 y_428 y_429 y_430 y_431 y_432 y_433 y_434 y_435 y_436 y_437 y_438 y_439 y_440 y_441 y_442 y_443 y_444 y_445 y_446 y_447 y_448 y_449 y_450 y_451 y_452 y_453 y_454 y_455 y_456 y_457 y_458 y_459 y_460 y_461 y_462 y_463 y_464 y_465 y_466 y_467 y_468 y_469 y_470 y_471 y_472 y_473 y_474 y_475 y_476 y_477 y_478 y_479 y_480 y_481 y_482 y_483 y_484 y_485 y_486 y_487 y_488 y_489 y_490 y_491 y_492 y_493 y_494 y_495 y_496 y_497 y_498 y_499 y_500 y_501 y_502 y_503 y_504 y_505 y_506 y_507 y_508 y_509 y_510 y_511 y_512 y_513 y_514 y_515 y_516 y_517 y_518 y_519 y_520 y_521 y_522 y_523 y_524 y_525 y_526 y_527 y_528 y_529 y_530 y_531 y_532 y_533 y_534 y_535 y_536 y_537 y_538 y_539 y_540 y_541 y_542 y_543 y_544 y_545 y_546 y_547 y_548 y_549 y_550 y_551 y_552 y_553 y_554 y_555 y_556 y_557 y_558 y_559 y_560 y_561 y_562 y_563 y_564 y_565 y_566 y_567 y_568 y_569 y_570 y_571 y_572 y_573 y_574 y_575 y_576 y_577 y_578 y_579 y_580 y_581 y_582 y_583 y_584 y_585 y_586 y_587 y_588 y_589 y_590 y_591 y_592 y_593 y_594 y_595 y_596 y_597 y_598 y_599 y_600 y_601 y_602 y_603 y_604 y_605 y_606 y_607 y_608 y_609 HO_16 y_610 y_611 kj44 HJ44 y_612 y_613 wc u4 u25 u26 u27 u28 u29 u30 u31 u32 u33 u34 u43 u44 u45 u46 u47 u48 u49 u50 u51 u52 u53 u54 u55 u56 u57 u58 u59 u60 u61 u62 u63 u64 u65 u66 u67 u68 u69 u70 u71 u72 u73 u74 u75 u76 u77 u78 u79 u80 u81 u82 u83 u84 u85 u86 u87 u88 u89 u90 u91 u92 u93 u94 u95 u96 u97 u98 u99 u100 u101 u102 u103 u104 u105 u106 u107 u108 u109 u110 u111 u112 u113 u114 u115 u116 u117 u118 u119 u120 u121 u122 u123 u124 u125 u126 u127 u128 u129 u130 u131 u132 u133 u134 u135 u136 u137 u138 u139 u140 u141 u142 u143 u144 u145 u146 u147 u148 u149 u150 u151 u152 u153 u154 u155 u156 u157 u158 u159 u160 u161 u162 u163 u164 u165 u166 u167 u168 u169 u170 u171 u172 u173 u174 u175 u176 u177 u178 u179 u180 u181 u182 u183 u184 u185 u186 u187 u188 u189 u190 u191 u192 u193 u194 u195 u196 u197 u198 u199 u200 u201 u202 u203 u204 u205 u206 u207 u208 u209 u210 u211 u212 u213 u214 u215 u216 u217 u218 u219 u220 u221 u222 u223 u224 u225 u226 u227 u228 u229 u230 u231 u232 u233 u234 u235 u236 u237 u238 u239 u240 u241 u242 u243 u244 u245 u246 u247 u248 u249 u250 u251 u252 u253 u254 u255 u256 u257 u258 u259 u260 u261 u262 u263 u264 u265 u266 u267 u268 u269 u270 u271 u272 u273 u274 u275 u276 u277 u278 u279 u280 u281 u282 u283 u284 u285 u286 u287 u288 u289 u290 u291 u292 u293 u294 u295 u296 u297 u298 u299 u300 u301 u302 u303 u304 u305 u306 u307 u308 u309 u310 u311 u312 u313 u314 u315 u316 u317 u318 u319 u320 u321 u322 u323 u324 u325 u326 u327 u328 u329 u330 u331 u332 u333 u334 u335 u336 u337 u338 u339 u340 u341 u342 HO_5 BK331 HB kj52 HA HJ52
       exact hole2 ()
  ⟩
set_option maxHeartbeats 8000000 in
set_option maxRecDepth 100000 in
noncomputable def laws_FnLines.calls_all_kj10_kj44_k3_p : {P : Prop × Prop // (Unit → P.1) → (Unit → P.2) → (laws_FnLines.calls_all_kj10_kj44_p.1.1)} :=
  ⟨(_, _), fun hole1 hole2 => by
    intro k A0 c0 l0 A1 c1 l1 r w hu28 hu38 HR0 HC0 HR1 HC1 A3 t326 A5 t329 t330 A6 t332 t335 t336 A7 t337 t340 t341 A8 t342 t345 t346 A9 t347 t350 t351 A10 _ nd _ w12 w13 gb331 w14 GW331 GE331 Ao16 co16 w17 v333 w19 w21 v343 w23 HO328 _ _ _ _ _ _ _ _ _ _ _ _ _ _ _ _ _ _ _ _ _ _ _ _ _ _ _ _ _ _ _ _ _ _ _ _ _ _ _ _ _ _ _ _ _ _ _ _ _ _ _ _ _ _ _ _ _ _ _ _ _ _ _ _ _ _ _ _ _ _ _ _ _ _ _ _ _ _ _ _ _ _ _ _ _ _ _ _ _ _ _ _ _ _ _ _ _ _ _ _ _ _ _ _ _ _ _ _ _ _ _ _ _ _ _ _ _ _ _ _ _ _ _ _ _ _ _ _ _ _ _ _ _ u174 _ _ _ _ _ _ _ _ _ _ _ _ _ _ _ _ _ _ _ _ _ _ _ _ _ _ _ _ _ _ _ _ _ _ _ _ _ _ _ _ _ _ _ _ _ _ _ _ _ _ _ _ _ _ _ _ _ _ _ _ _ _ _ _ _ _ _ _ _ _ _ _ _ _ _ _ _ _ _ _ _ _ _ _ _ _ _ _ _ _ _ _ _ _ _ _ _ _ _ _ _ _ _ _ _ _ _ _ _ _ _ _ _ _ _ _ _ _ _ _ _ _ _ _ _ _ _ _ _ _ _ _ _ _ _ _ _ _ _ _ _ _ _ _ _ _ _ _ _ _ _ _ _ _ _ _ _ _ _ _ _ _ _ _ _ _ _ _ kj10 HJ10 t360 t361 A44 Ao47 co47 w48 _ _ _ wc u43 u44 u45 u46 u47 u48 u49 u50 u51 u52 u53 u54 u55 u56 u57 u58 u59 u60 u61 u62 u63 u64 u65 u66 u67 u68 u69 u70 u71 u72 u73 u74 u75 u76 u77 u78 u79 u80 u81 u82 u83 u84 u85 u86 u87 u88 u89 u90 u91 u92 u93 u94 u95 u96 u97 u98 u99 u100 u101 u102 u103 u104 u105 u106 u107 u108 u109 u110 u111 u112 u113 u114 u115 u116 u117 u118 u119 u120 u121 u122 u123 u124 u125 u126 u127 u128 u129 u130 u131 u132 u133 u134 u135 u136 u137 u138 u139 u140 u141 u142 u143 u144 u145 u146 u147 u148 u149 u150 u151 u152 u153 u154 u155 u156 u157 u158 u159 u160 u161 u162 u163 u164 u165 u166 u167 u168 u169 u170 u171 u172 u173 u175 u176 u177 u178 u179 u180 u181 u182 u183 _ _ _ _ _ _ _ _ _ _ _ _ _ _ _ _ _ _ _ _ _ _ _ _ _ _ _ u211 u212 u213 u214 u215 u216 u217 u218 u219 u220 u221 u222 u223 u224 u225 u226 u227 u228 u229 u230 u231 u232 u233 u234 u235 u236 u237 u238 u239 u240 u241 u242 u243 u244 u245 u246 u247 u248 u249 u250 u251 u252 u253 u254 u255 u256 u257 u258 u259 u260 u261 u262 u263 u264 u265 u266 u267 u268 u269 u270 u271 u272 u273 u274 u275 u276 u277 u278 u279 u280 u281 u282 u283 u284 u285 u286 u287 u288 u289 u290 u291 u292 u293 u294 u295 u296 u297 u298 u299 u300 u301 u302 u303 u304 u305 u306 u307 u308 u309 u310 u311 u312 u313 u314 u315 u316 u317 u318 u319 u320 u321 u322 u323 u324 u325 u326 u327 u328 u329 u330 u331 u332 u333 u334 u335 u336 u337 u338 u339 u340 u341 u342 kj44 HJ44 _ _ _ _ _ t362 t363 A55 Ao57 co57 HO334 HO339 HO344 HO349 HO_10 _ _ w58 _ _ _ _ _ _ wr u4 u184 u185 u186 u187 u188 u189 u190 u191 u192 u193 u194 u195 u196 u197 u198 u199 u200 u201 u202 u203 u204 u205 u206 u207 u208 u209 u210 _ _ _ x27_3 x28_3 HO_5 HO_16 BK331 HB k3 _ HA HK3
    have H := HA.out
    clear HA
    simp only [laws_FnLines.l1] at H
    by_cases c59 : x28_3 < (t347.length : Int)
    ·rw [if_pos c59] at H
     have c59b0 : decide (x28_3 < (t347.length : Int)) = true := decide_eq_true c59
     clear c59
     have HC60 := Aside0.mk H
     clear H
     go_upto_region 30 with (fail)
     go_cut [202] (fun v202 wc => ∃ (kq : Nat) (x202_59 : Bool), v202 = .bool x202_59 ∧ Aside0 (laws_FnLines.j4 kq t326 t340 t347 t350 t362 t363 x27_3 x28_3 x202_59 t329 t330 = some r) ∧ Aside0 (kq ≤ k3) ∧ Aside0 (Kd.R k38 38 wc w.heap.size (fun _ => True) (.slice Ao16 t326.length co16) t326) ∧ Aside0 (Kd.R (Kd.int .i64) 2 wc w.heap.size (fun _ => True) (.slice Ao57 t347.length co57) t347) ∧ Aside0 (wc.heap[gb331]? = some (.cells #[.int .i16 t329, .int .i16 t330] 28 (0, 0))) ∧ Aside0 (Below w.heap.size w wc))
     case first =>
      have H := HC60.out
      clear HC60
      by_cases c61 : 0 ≤ x28_3
      ·rw [if_pos c61] at H
       have c61b0 : decide (0 ≤ x28_3) = true := decide_eq_true c61
       clear c61
       (first | rw [c61b0] | (simp only [i64_w, i32_w]; rw [c61b0]) | skip)
       by_cases c62 : (rd t347 x28_3) < 0
       ·rw [if_pos c62] at H
        exact absurd H (by simp)
       ·rw [if_neg c62] at H
        have c62b0 : decide ((rd t347 x28_3) < 0) = false := decide_eq_false c62
        clear c62
        have H' := Aside0.mk H
        clear H
        have p364 : 0 ≤ (x28_3 : Int) := of_decide_eq_true (by first | (with_reducible assumption) | assumption)
        have q364 : x28_3 < (t347.length : Int) := of_decide_eq_true (by first | (with_reducible assumption) | assumption)
        obtain ⟨ad364, e364, hx364_0⟩ := Kd.at_int (Kd.R_reads' HO_16.out).2.2 x28_3 p364 q364
        cases e364
        replace p364 := eq_true p364
        replace q364 := eq_true q364
        have p365 : 0 ≤ (x28_3 : Int) := of_decide_eq_true (by first | (with_reducible assumption) | assumption)
        have q365 : x28_3 < (t347.length : Int) := of_decide_eq_true (by first | (with_reducible assumption) | assumption)
        obtain ⟨ad365, e365, hx365_0⟩ := Kd.at_int (Kd.R_reads' HO_16.out).2.2 x28_3 p365 q365
        obtain rfl : ad364 = ad365 := (by injection e365)
        replace p365 := eq_true p365
        replace q365 := eq_true q365
        go_wp2
        go_meet
        case rel => exact ⟨_, (decide ((rd t347 x28_3) > x27_3)), (by first | rfl | (simp; done) | (simp [*]; done)), H', ⟨by have := HJ10.out; have := HJ44.out; have := HK3.out; first | omega | exact Nat.le_refl _⟩, ⟨by (with_reducible repeat (first | apply Kd.R_alloc | apply Kd.R_drewN | apply Kd.R_drew)); exact HO_5.out⟩, ⟨by (with_reducible repeat (first | apply Kd.R_alloc | apply Kd.R_drewN | apply Kd.R_drew)); exact HO_16.out⟩, ⟨by (with_reducible repeat (first | refine blk_drewN ?_ _ | refine blk_drew ?_ | refine blk_alloc ?_ _)); exact BK331.out⟩, ⟨by repeat (first | (with_reducible first | exact HB.out | apply below_alloc | apply pw_below_drewN | apply below_drew1 | refine below_set ?_ GE331.out) | exact HB.out)⟩⟩
      ·rw [if_neg c61] at H
       exact absurd H (by simp)
     case rest =>
      clear HC60
      try clear c1
      try clear c2
      try clear p2
      try clear c3
      try clear p3
      try clear q3
      try clear hx3
      try clear c4
      try clear c5
      try clear c6
      try clear c20
      try clear c21
      try clear c22
      try clear c23
      try clear c24
      try clear c24b0
      try clear c24b1
      try clear c25
      try clear c26
      try clear c27
      try clear c27b0
      try clear c27b1
      try clear c28
      try clear c28b0
      try clear c28b1
      try clear c29
      try clear c30
      try clear c31
      try clear c31b0
      try clear c31b1
      try clear c32
      try clear c32b0
      try clear c32b1
      try clear p36
      try clear q36
      try clear hx36
      try clear c37
      try clear c37b0
      try clear c37b1
      try clear c42
      try clear c43
      try clear c43b0
      try clear c43b1
      try clear c49
      try clear c49b0
      try clear c49b1
      try clear c50
      try clear c51
      try clear c51b0
      try clear c51b1
      try clear c51b2
      try clear c52
      try clear c54
      try clear c54b0
      try clear c54b1
      try clear c59
      try clear c59b0
      try clear c61
      try clear c61b0
      try clear c62
      try clear c62b0
      try clear hcz15_0
      try clear hcz15_1
      try clear hcz18_0
      try clear hcz18_1
      try clear hcz20_0
      try clear hcz20_1
      try clear hcz22_0
      try clear hcz22_1
      try clear hcz46_0
      try clear hcz46_1
      try clear hcz56_0
      try clear hcz56_1
      try clear hfz15_0
      try clear hfz15_1
      try clear hfz18_0
      try clear hfz18_1
      try clear hfz20_0
      try clear hfz20_1
      try clear hfz22_0
      try clear hfz22_1
      try clear hfz46_0
      try clear hfz46_1
      try clear hfz56_0
      try clear hfz56_1
      try clear hx364_0
      try clear hx365_0
      try clear p2
      try clear p364
      try clear p365
      try clear q364
      try clear q365
      obtain ⟨kq, x202_59, rfl, HA, HJ59, HO_5, HO_16, BK331, HB⟩ := hcut
      cases kq with
      | zero => exact absurd HA.out (by simp [laws_FnLines.j4])
      | succ kj59 =>
       rename_i y_1 y_2 y_3 y_4 y_5 y_6 y_7 y_8 y_9 y_10 y_11 y_12 y_13 y_14 y_15 y_16 y_17 y_18 y_19 y_20 y_21 y_22 y_23 y_24 y_25 y_26 y_27 y_28 y_29 y_30 y_31 y_32 y_33 y_34 y_35 y_36 y_37 y_38 y_39 y_40 y_41 y_42 y_43 y_44 y_45 y_46 y_47 y_48 y_49 y_50 y_51 y_52 y_53 y_54 y_55 y_56 y_57 y_58 y_59 y_60 y_61 y_62 y_63 y_64 y_65 y_66 y_67 y_68 y_69 y_70 y_71 y_72 y_73 y_74 y_75 y_76 y_77 y_78 y_79 y_80 y_81 y_82 y_83 y_84 y_85 y_86 y_87 y_88 y_89 y_90 y_91 y_92 y_93 y_94 y_95 y_96 y_97 y_98 y_99 y_100 y_101 y_102 y_103 y_104 y_105 y_106 y_107 y_108 y_109 y_110 y_111 y_112 y_113 y_114 y_115 y_116 y_117 y_118 y_119 y_120 y_121 y_122 y_123 y_124 y_125 y_126 y_127 y_128 y_129 y_130 y_131 y_132 y_133 y_134 y_135 y_136 y_137 y_138 y_139 y_140 y_141 y_142 y_143 y_144 y_145 y_146 y_147 y_148 y_149 y_150 y_151 y_152 y_153 y_154 y_155 y_156 y_157 y_158 y_159 y_160 y_161 y_162 y_163 y_164 y_165 y_166 y_167 y_168 y_169 y_170 y_171 y_172 y_173 y_174 y_175 y_176 y_177 y_178 y_179 y_180 y_181 y_182 y_183 y_184 y_185 y_186 y_187 y_188 y_189 y_190 y_191 y_192 y_193 y_194 y_195 y_196 y_197 y_198 y_199 y_200 y_201 y_202 y_203 y_204 y_205 y_206 y_207 y_208 y_209 y_210 y_211 y_212 y_213 y_214 y_215 y_216 y_217 y_218 y_219 y_220 y_221 y_222 y_223 y_224 y_225 y_226 y_227 y_228 y_229 y_230 y_231 y_232 y_233 y_234 y_235 y_236 y_237 y_238 y_239 y_240 y_241 y_242 y_243 y_244 y_245 y_246 y_247 y_248 y_249 y_250 y_251 y_252 y_253 y_254 y_255 y_256 y_257 y_258 y_259 y_260 y_261 y_262 y_263 y_264 y_265 y_266 y_267 y_268 y_269 y_270 y_271 y_272 y_273 y_274 y_275 y_276 y_277 y_278 y_279 y_280 y_281 y_282 y_283 y_284 y_285 y_286 y_287 y_288 y_289 y_290 y_291 y_292 y_293 y_294 y_295 y_296 y_297 y_298 y_299 y_300 y_301 y_302 y_303 y_304 y_305 y_306 y_307 y_308 y_309 y_310 y_311 y_312 y_313 y_314 y_315 y_316 y_317 y_318 y_319 y_320 y_321 y_322 y_323 y_324 y_325 y_326 y_327 y_328 y_329 y_330 y_331 y_332 y_333 y_334 y_335 y_336 y_337 y_338 y_339 y_340 y_341 y_342 y_343 y_344 y_345 y_346 y_347 y_348 y_349 y_350 y_351 y_352 y_353 y_354 y_355 y_356 y_357 y_358 y_359 y_360 y_361 y_362 y_363 y_364 y_365 y_366 y_367 y_368 y_369 y_370 y_371 y_372 y_373 y_374 y_375 y_376 y_377 y_378 y_379 y_380 y_381 y_382 y_383 y_384 y_385 y_386 y_387
       revert k A0 c0 l0 A1 c1 l1 r w hu28 hu38 HR0 HC0 HR1 HC1 A3 t326 A5 t329 t330 A6 t332 t335 t336 A7 t337 t340 t341 A8 t342 t345 t346 A9 t347 t350 t351 A10 y_1 nd y_2 w12 w13 gb331 w14 GW331 GE331 Ao16 co16 w17 v333 w19 w21 v343 w23 HO328 y_3 y_4 y_5 y_6 y_7 y_8 y_9 y_10 y_11 y_12 y_13 y_14 y_15 y_16 y_17 y_18 y_19 y_20 y_21 y_22 y_23 y_24 y_25 y_26 y_27 y_28 y_29 y_30 y_31 y_32 y_33 y_34 y_35 y_36 y_37 y_38 y_39 y_40 y_41 y_42 y_43 y_44 y_45 y_46 y_47 y_48 y_49 y_50 y_51 y_52 y_53 y_54 y_55 y_56 y_57 y_58 y_59 y_60 y_61 y_62 y_63 y_64 y_65 y_66 y_67 y_68 y_69 y_70 y_71 y_72 y_73 y_74 y_75 y_76 y_77 y_78 y_79 y_80 y_81 y_82 y_83 y_84 y_85 y_86 y_87 y_88 y_89 y_90 y_91 y_92 y_93 y_94 y_95 y_96 y_97 y_98 y_99 y_100 y_101 y_102 y_103 y_104 y_105 y_106 y_107 y_108 y_109 y_110 y_111 y_112 y_113 y_114 y_115 y_116 y_117 y_118 y_119 y_120 y_121 y_122 y_123 y_124 y_125 y_126 y_127 y_128 y_129 y_130 y_131 y_132 y_133 y_134 y_135 u174 y_136 y_137 y_138 y_139 y_140 y_141 y_142 y_143 y_144 y_145 y_146 y_147 y_148 y_149 y_150 y_151 y_152 y_153 y_154 y_155 y_156 y_157 y_158 y_159 y_160 y_161 y_162 y_163 y_164 y_165 y_166 y_167 y_168 y_169 y_170 y_171 y_172 y_173 y_174 y_175 y_176 y_177 y_178 y_179 y_180 y_181 y_182 y_183 y_184 y_185 y_186 y_187 y_188 y_189 y_190 y_191 y_192 y_193 y_194 y_195 y_196 y_197 y_198 y_199 y_200 y_201 y_202 y_203 y_204 y_205 y_206 y_207 y_208 y_209 y_210 y_211 y_212 y_213 y_214 y_215 y_216 y_217 y_218 y_219 y_220 y_221 y_222 y_223 y_224 y_225 y_226 y_227 y_228 y_229 y_230 y_231 y_232 y_233 y_234 y_235 y_236 y_237 y_238 y_239 y_240 y_241 y_242 y_243 y_244 y_245 y_246 y_247 y_248 y_249 y_250 y_251 y_252 y_253 y_254 y_255 y_256 y_257 y_258 y_259 y_260 y_261 y_262 y_263 y_264 y_265 y_266 y_267 y_268 y_269 y_270 y_271 y_272 y_273 y_274 y_275 y_276 y_277 y_278 y_279 y_280 y_281 y_282 y_283 y_284 y_285 y_286 y_287 y_288 y_289 y_290 y_291 y_292 y_293 y_294 y_295 y_296 y_297 y_298 y_299 y_300 y_301 y_302 y_303 kj10 HJ10 t360 t361 A44 Ao47 co47 w48 y_304 y_305 y_306 y_307 u43 u44 u45 u46 u47 u48 u49 u50 u51 u52 u53 u54 u55 u56 u57 u58 u59 u60 u61 u62 u63 u64 u65 u66 u67 u68 u69 u70 u71 u72 u73 u74 u75 u76 u77 u78 u79 u80 u81 u82 u83 u84 u85 u86 u87 u88 u89 u90 u91 u92 u93 u94 u95 u96 u97 u98 u99 u100 u101 u102 u103 u104 u105 u106 u107 u108 u109 u110 u111 u112 u113 u114 u115 u116 u117 u118 u119 u120 u121 u122 u123 u124 u125 u126 u127 u128 u129 u130 u131 u132 u133 u134 u135 u136 u137 u138 u139 u140 u141 u142 u143 u144 u145 u146 u147 u148 u149 u150 u151 u152 u153 u154 u155 u156 u157 u158 u159 u160 u161 u162 u163 u164 u165 u166 u167 u168 u169 u170 u171 u172 u173 u175 u176 u177 u178 u179 u180 u181 u182 u183 y_308 y_309 y_310 y_311 y_312 y_313 y_314 y_315 y_316 y_317 y_318 y_319 y_320 y_321 y_322 y_323 y_324 y_325 y_326 y_327 y_328 y_329 y_330 y_331 y_332 y_333 y_334 u211 u212 u213 u214 u215 u216 u217 u218 u219 u220 u221 u222 u223 u224 u225 u226 u227 u228 u229 u230 u231 u232 u233 u234 u235 u236 u237 u238 u239 u240 u241 u242 u243 u244 u245 u246 u247 u248 u249 u250 u251 u252 u253 u254 u255 u256 u257 u258 u259 u260 u261 u262 u263 u264 u265 u266 u267 u268 u269 u270 u271 u272 u273 u274 u275 u276 u277 u278 u279 u280 u281 u282 u283 u284 u285 u286 u287 u288 u289 u290 u291 u292 u293 u294 u295 u296 u297 u298 u299 u300 u301 u302 u303 u304 u305 u306 u307 u308 u309 u310 u311 u312 u313 u314 u315 u316 u317 u318 u319 u320 u321 u322 u323 u324 u325 u326 u327 u328 u329 u330 u331 u332 u333 u334 u335 u336 u337 u338 u339 u340 u341 u342 kj44 HJ44 y_335 y_336 y_337 y_338 y_339 t362 t363 A55 Ao57 co57 HO334 HO339 HO344 HO349 HO_10 y_340 y_341 w58 y_342 y_343 y_344 y_345 y_346 y_347 wr u4 y_348 y_349 y_350 y_351 y_352 y_353 y_354 y_355 y_356 y_357 y_358 y_359 y_360 y_361 y_362 y_363 y_364 y_365 u202 y_366 y_367 y_368 y_369 y_370 y_371 y_372 y_373 y_374 y_375 y_376 x27_3 x28_3 y_377 y_378 y_379 y_380 k3 y_381 HK3 y_382 y_383 y_384 y_385 y_386 y_387 wc u184 u185 u186 u187 u188 u189 u190 u191 u192 u193 u194 u195 u196 u197 u198 u199 u200 u201 u203 u204 u205 u206 u207 u208 u209 u210 x202_59 HO_5 HO_16 BK331 HB kj59 HA HJ59
       exact hole1 ()
    ·rw [if_neg c59] at H
     have c59b0 : decide (x28_3 < (t347.length : Int)) = false := decide_eq_false c59
     clear c59
     replace H := Option.bind_eq_some_iff.mp H
     obtain ⟨⟨t367, t370, t371⟩, A670, H⟩ := H
     replace H : (if t363 = 0 then (if t362 = true then (if (t347.length : Int) = (t326.length : Int) then (if x27_3 > t340 then (none) else (if ((x27_3 == 0) != ((t326.length : Int) == 0)) = true then (none) else (if t371 = 0 then (laws_FnLines.j5 k3 t326 t350 (decide (t350 < (t326.length : Int))) t329 t330) else (none)))) else (none)) else (none)) else (none)) = some r := H
     have A67 := Aside0.mk A670
     clear A670
     have HC68 := Aside0.mk H
     clear H
     have hcz69_0 : wr.cell? ⟨gb331, 0, none⟩ = some (.int .i16 t329) := (blk_cell BK331.out 0).trans rfl
     have hcz69_1 : wr.cell? ⟨gb331, 1, none⟩ = some (.int .i16 t330) := (blk_cell BK331.out 1).trans rfl
     have hfz69_0 := blk_frozen BK331.out 0
     have hfz69_1 := blk_frozen BK331.out 1
     go_upto_region 35 with (first | ((with_reducible refine gate_callee (f := 25) rfl ?_); refine goesL_ (some 215) rfl rfl Try.func25 (by kernel_rfl) rfl #[.agg #[.int .i16 t329, .int .i16 t330], .slice Ao16 t326.length co16, .int .i64 t350] rfl (by (try simp only [List.map_toArray, List.map_cons, List.map_nil]); first | done | rfl | (simp only [List.length_drop, List.length_take]; rfl)) ?_; (with_reducible refine (impl_FewestLines.calls k3 t329 t330 _ _ t326 t350 t367 t370 t371 _ ?side1 ?side2 A67.out).mono ?_); (case side1 => repeat (first | exact (Kd.R_reads' HO_5.out).2.2 | (with_reducible refine Kd.C_alloc ?_ _) | (with_reducible refine Kd.C_drewN ?_ _) | (with_reducible refine Kd.C_drew ?_))); (case side2 => exact (Kd.R_reads' HO_5.out).2.1); rintro e w70 ⟨v368, rfl, ho0, hb⟩; refine ⟨_, rfl, ?_⟩; have n0_ := Aside0.mk (Kd.R_below (by (with_reducible repeat (first | apply Kd.R_alloc | apply Kd.R_drewN | apply Kd.R_drew)); exact HO_5.out) hb); have n1_ := Aside0.mk (Kd.R_elder' (by (with_reducible repeat (first | apply Kd.R_alloc | apply Kd.R_drewN | apply Kd.R_drew)); exact HO_16.out) (Kd.R_base ho0) hb); have n2_ := Aside0.mk (Kd.R_lower (Kd.R_new' ho0 (Kd.R_lt (by (with_reducible repeat (first | apply Kd.R_alloc | apply Kd.R_drewN | apply Kd.R_drew)); exact HO_16.out))) (below_size (by repeat (first | (with_reducible first | exact HB.out | apply below_alloc | apply pw_below_drewN | apply below_drew1 | refine below_set ?_ GE331.out) | exact HB.out)))); have n3_ := Aside0.mk (blk_below (g := gb331) (o := .cells #[.int .i16 t329, .int .i16 t330] 28 (0, 0)) (by (with_reducible repeat (first | refine blk_drewN ?_ _ | refine blk_drew ?_ | refine blk_alloc ?_ _)); exact BK331.out) hb); have n4_ := Aside0.mk (below_step (by repeat (first | (with_reducible first | exact HB.out | apply below_alloc | apply pw_below_drewN | apply below_drew1 | refine below_set ?_ GE331.out) | exact HB.out)) hb); clear HO_5; clear HO_16; clear BK331; clear HB; have HO_5 := n0_; have HO_16 := n1_; have HO369 := n2_; have BK331 := n3_; have HB := n4_; clear n0_ n1_ n2_ n3_ n4_; (try clear hb); (try clear hb2); (try clear hk); (try clear hi); (try clear ho0)))
     (try simp only [Act.put, List.setIfInBounds_toArray, List.set_cons_zero, List.set_cons_succ])
     go_cut [254] (fun v254 wc => ∃ (kq : Nat) (x254_67 : Bool), v254 = .bool x254_67 ∧ Aside0 (laws_FnLines.j5 kq t326 t350 x254_67 t329 t330 = some r) ∧ Aside0 (kq ≤ k3) ∧ Aside0 (Kd.R k38 38 wc w.heap.size (fun _ => True) (.slice Ao16 t326.length co16) t326) ∧ Aside0 (wc.heap[gb331]? = some (.cells #[.int .i16 t329, .int .i16 t330] 28 (0, 0))) ∧ Aside0 (Below w.heap.size w wc))
     case first =>
      have H := HC68.out
      clear HC68
      by_cases c71 : t363 = 0
      ·rw [if_pos c71] at H
       have c71b0 : (t363 == 0) = true := beq_iff_eq.mpr c71
       have c71b1 : (t363 != 0) = false := bne_eq_false_iff_eq.mpr c71
       clear c71
       (first | rw [c71b0] | (simp only [i64_w, i32_w]; rw [c71b0]) | skip)
       by_cases c72 : t362 = true
       ·subst c72
        have H1 : (if (t347.length : Int) = (t326.length : Int) then (if x27_3 > t340 then (none) else (if ((x27_3 == 0) != ((t326.length : Int) == 0)) = true then (none) else (if t371 = 0 then (laws_FnLines.j5 k3 t326 t350 (decide (t350 < (t326.length : Int))) t329 t330) else (none)))) else (none)) = some r := by rw [if_pos rfl] at H; exact H
        clear H
        have H := H1
        clear H1
        by_cases c73 : (t347.length : Int) = (t326.length : Int)
        ·rw [if_pos c73] at H
         have c73b0 : ((t347.length : Int) == (t326.length : Int)) = true := beq_iff_eq.mpr c73
         have c73b1 : ((t347.length : Int) != (t326.length : Int)) = false := bne_eq_false_iff_eq.mpr c73
         have c73b2 : (t347.length == t326.length) = true := by first | simpa using c73 | (simp at c73 ⊢; omega)
         clear c73
         by_cases c74 : x27_3 > t340
         ·rw [if_pos c74] at H
          exact absurd H (by simp)
         ·rw [if_neg c74] at H
          have c74b0 : decide (t340 < x27_3) = false := decide_eq_false c74
          clear c74
          by_cases c75 : ((x27_3 == 0) != ((t326.length : Int) == 0)) = true
          ·rw [if_pos c75] at H
           exact absurd H (by simp)
          ·rw [if_neg c75] at H
           have c75b0 : ((x27_3 == 0) != ((t326.length : Int) == 0)) = false := by simpa using c75
           (try (have c75b1 : decide ((x27_3 == 0) = ((t326.length : Int) == 0)) = true := by simpa using c75))
           (try (have c75b2 : ((x27_3 == 0) == ((t326.length : Int) == 0)) = true := by simpa using c75))
           clear c75
           by_cases c76 : t371 = 0
           ·rw [if_pos c76] at H
            have c76b0 : (t371 == 0) = true := beq_iff_eq.mpr c76
            have c76b1 : (t371 != 0) = false := bne_eq_false_iff_eq.mpr c76
            clear c76
            have H' := Aside0.mk H
            clear H
            go_wp2
            go_meet
            case rel => exact ⟨_, (decide (t350 < (t326.length : Int))), (by first | rfl | (simp; done) | (simp [*]; done)), H', ⟨by have := HJ10.out; have := HJ44.out; have := HK3.out; first | omega | exact Nat.le_refl _⟩, ⟨by (with_reducible repeat (first | apply Kd.R_alloc | apply Kd.R_drewN | apply Kd.R_drew)); exact HO_5.out⟩, ⟨by (with_reducible repeat (first | refine blk_drewN ?_ _ | refine blk_drew ?_ | refine blk_alloc ?_ _)); exact BK331.out⟩, ⟨by repeat (first | (with_reducible first | exact HB.out | apply below_alloc | apply pw_below_drewN | apply below_drew1 | refine below_set ?_ GE331.out) | exact HB.out)⟩⟩
           ·rw [if_neg c76] at H
            exact absurd H (by simp)
        ·rw [if_neg c73] at H
         exact absurd H (by simp)
       ·replace c72 := Bool.eq_false_iff.mpr c72
        subst c72
        have H1 : (none) = some r := by rw [if_neg (show ¬ (false = true) by decide)] at H; exact H
        clear H
        have H := H1
        clear H1
        exact absurd H (by simp)
      ·rw [if_neg c71] at H
       exact absurd H (by simp)
     case rest =>
      clear HC68
      try clear c1
      try clear c2
      try clear p2
      try clear c3
      try clear p3
      try clear q3
      try clear hx3
      try clear c4
      try clear c5
      try clear c6
      try clear p6
      try clear c7
      try clear c20
      try clear c21
      try clear c22
      try clear c23
      try clear c24
      try clear c24b0
      try clear c24b1
      try clear c25
      try clear c26
      try clear c27
      try clear c27b0
      try clear c27b1
      try clear c28
      try clear c28b0
      try clear c28b1
      try clear c29
      try clear c30
      try clear c31
      try clear c31b0
      try clear c31b1
      try clear c32
      try clear c32b0
      try clear c32b1
      try clear p36
      try clear q36
      try clear hx36
      try clear c37
      try clear c37b0
      try clear c37b1
      try clear c42
      try clear c43
      try clear c43b0
      try clear c43b1
      try clear c49
      try clear c49b0
      try clear c49b1
      try clear c50
      try clear c51
      try clear c51b0
      try clear c51b1
      try clear c51b2
      try clear c52
      try clear c54
      try clear c54b0
      try clear c54b1
      try clear c59
      try clear c59b0
      try clear c61
      try clear c61b0
      try clear c62
      try clear c62b0
      try clear c63
      try clear c64
      try clear c64b0
      try clear p64
      try clear c65
      try clear c65b0
      try clear c66
      try clear c66b0
      try clear c66b1
      try clear c71
      try clear c71b0
      try clear c71b1
      try clear c72
      try clear c73
      try clear c73b0
      try clear c73b1
      try clear c73b2
      try clear c74
      try clear c74b0
      try clear c75
      try clear c75b0
      try clear c75b1
      try clear c75b2
      try clear c76
      try clear c76b0
      try clear c76b1
      try clear hcz15_0
      try clear hcz15_1
      try clear hcz18_0
      try clear hcz18_1
      try clear hcz20_0
      try clear hcz20_1
      try clear hcz22_0
      try clear hcz22_1
      try clear hcz46_0
      try clear hcz46_1
      try clear hcz56_0
      try clear hcz56_1
      try clear hcz69_0
      try clear hcz69_1
      try clear hfz15_0
      try clear hfz15_1
      try clear hfz18_0
      try clear hfz18_1
      try clear hfz20_0
      try clear hfz20_1
      try clear hfz22_0
      try clear hfz22_1
      try clear hfz46_0
      try clear hfz46_1
      try clear hfz56_0
      try clear hfz56_1
      try clear hfz69_0
      try clear hfz69_1
      try clear hx364_0
      try clear hx365_0
      try clear hx366_0
      try clear p2
      try clear p3
      try clear p36
      try clear p364
      try clear p365
      try clear p366
      try clear q3
      try clear q36
      try clear q364
      try clear q365
      try clear q366
      obtain ⟨kq, x254_67, rfl, HA, HJ67, HO_5, BK331, HB⟩ := hcut
      cases kq with
      | zero => exact absurd HA.out (by simp [laws_FnLines.j5])
      | succ kj67 =>
       rename_i y_1 y_2 y_3 y_4 y_5 y_6 y_7 y_8 y_9 y_10 y_11 y_12 y_13 y_14 y_15 y_16 y_17 y_18 y_19 y_20 y_21 y_22 y_23 y_24 y_25 y_26 y_27 y_28 y_29 y_30 y_31 y_32 y_33 y_34 y_35 y_36 y_37 y_38 y_39 y_40 y_41 y_42 y_43 y_44 y_45 y_46 y_47 y_48 y_49 y_50 y_51 y_52 y_53 y_54 y_55 y_56 y_57 y_58 y_59 y_60 y_61 y_62 y_63 y_64 y_65 y_66 y_67 y_68 y_69 y_70 y_71 y_72 y_73 y_74 y_75 y_76 y_77 y_78 y_79 y_80 y_81 y_82 y_83 y_84 y_85 y_86 y_87 y_88 y_89 y_90 y_91 y_92 y_93 y_94 y_95 y_96 y_97 y_98 y_99 y_100 y_101 y_102 y_103 y_104 y_105 y_106 y_107 y_108 y_109 y_110 y_111 y_112 y_113 y_114 y_115 y_116 y_117 y_118 y_119 y_120 y_121 y_122 y_123 y_124 y_125 y_126 y_127 y_128 y_129 y_130 y_131 y_132 y_133 y_134 y_135 y_136 y_137 y_138 y_139 y_140 y_141 y_142 y_143 y_144 y_145 y_146 y_147 y_148 y_149 y_150 y_151 y_152 y_153 y_154 y_155 y_156 y_157 y_158 y_159 y_160 y_161 y_162 y_163 y_164 y_165 y_166 y_167 y_168 y_169 y_170 y_171 y_172 y_173 y_174 y_175 y_176 y_177 y_178 y_179 y_180 y_181 y_182 y_183 y_184 y_185 y_186 y_187 y_188 y_189 y_190 y_191 y_192 y_193 y_194 y_195 y_196 y_197 y_198 y_199 y_200 y_201 y_202 y_203 y_204 y_205 y_206 y_207 y_208 y_209 y_210 y_211 y_212 y_213 y_214 y_215 y_216 y_217 y_218 y_219 y_220 y_221 y_222 y_223 y_224 y_225 y_226 y_227 y_228 y_229 y_230 y_231 y_232 y_233 y_234 y_235 y_236 y_237 y_238 y_239 y_240 y_241 y_242 y_243 y_244 y_245 y_246 y_247 y_248 y_249 y_250 y_251 y_252 y_253 y_254 y_255 y_256 y_257 y_258 y_259 y_260 y_261 y_262 y_263 y_264 y_265 y_266 y_267 y_268 y_269 y_270 y_271 y_272 y_273 y_274 y_275 y_276 y_277 y_278 y_279 y_280 y_281 y_282 y_283 y_284 y_285 y_286 y_287 y_288 y_289 y_290 y_291 y_292 y_293 y_294 y_295 y_296 y_297 y_298 y_299 y_300 y_301 y_302 y_303 y_304 y_305 y_306 y_307 y_308 y_309 y_310 y_311 y_312 y_313 y_314 y_315 y_316 y_317 y_318 y_319 y_320 y_321 y_322 y_323 y_324 y_325 y_326 y_327 y_328 y_329 y_330 y_331 y_332 y_333 y_334 y_335 y_336 y_337 y_338 y_339 y_340 y_341 y_342 y_343 y_344 y_345 y_346 y_347 y_348 y_349 y_350 y_351 y_352 y_353 y_354 y_355 y_356 y_357 y_358 y_359 y_360 y_361 y_362 y_363 y_364 y_365 y_366 y_367 y_368 y_369 y_370 y_371 y_372 y_373 y_374 y_375 y_376 y_377 y_378 y_379 y_380 y_381 y_382 y_383 y_384 y_385 y_386 y_387 y_388 y_389 y_390 y_391 y_392 y_393 y_394 y_395 y_396 y_397 y_398 y_399 y_400 y_401 y_402 y_403 y_404 y_405 y_406 y_407 y_408 y_409 y_410 y_411 y_412 y_413 y_414 y_415 y_416 y_417 y_418 y_419 y_420 y_421 y_422 y_423 y_424 y_425 y_426 y_427 y_428 y_429 y_430 y_431 y_432 y_433 y_434 y_435 y_436 y_437 y_438 y_439 y_440 y_441 y_442 y_443 y_444 y_445 y_446 y_447 y_448 y_449 y_450 y_451 y_452 y_453 y_454 y_455 y_456 y_457 y_458 y_459 y_460 y_461 y_462 y_463 y_464 y_465 y_466 y_467 y_468 y_469 y_470 y_471 y_472 y_473 y_474 y_475 y_476 y_477 y_478 y_479 y_480 y_481 y_482 y_483 y_484 y_485 y_486 y_487 y_488 y_489 y_490 y_491 y_492 y_493 y_494 y_495 y_496 y_497 y_498 y_499 y_500 y_501 y_502 y_503 y_504 y_505 y_506 y_507 y_508 y_509 y_510 y_511 y_512 y_513 y_514 y_515 y_516 y_517 y_518 y_519 y_520 y_521 y_522 y_523 y_524 y_525 y_526 y_527 y_528 y_529 y_530 y_531 y_532 y_533 y_534 y_535 y_536 y_537 y_538 y_539 y_540 y_541 y_542 y_543 y_544 y_545 y_546 y_547 y_548 y_549 y_550 y_551 y_552 y_553 y_554 y_555 y_556 y_557 y_558 y_559 y_560 y_561 y_562 y_563 y_564 y_565 y_566 y_567 y_568 y_569 y_570 y_571 y_572 y_573 y_574 y_575 y_576 y_577 y_578 y_579 y_580 y_581 y_582 y_583 y_584 y_585 y_586 y_587 y_588 y_589 y_590 y_591 y_592 y_593 y_594 y_595 y_596 y_597 y_598 y_599 y_600 y_601 y_602 y_603 y_604 y_605 y_606 y_607 y_608 y_609 y_610 y_611 y_612 y_613 y_614 y_615 y_616 y_617 y_618 y_619 y_620 y_621 y_622 y_623 y_624 y_625 y_626 y_627 y_628 y_629 y_630 y_631 y_632 y_633 y_634 y_635 y_636 y_637 y_638 y_639 y_640 y_641 y_642 y_643 y_644 y_645 y_646 y_647 y_648 y_649 y_650 y_651 y_652 y_653 y_654 y_655 y_656 y_657 y_658
       revert k A0 c0 l0 A1 c1 l1 r w hu28 hu38 HR0 HC0 HR1 HC1 A3 t326 A5 t329 t330 A6 t332 t335 t336 A7 t337 t340 t341 A8 t342 t345 t346 A9 t347 t350 t351 A10 y_1 nd y_2 w12 w13 gb331 w14 GW331 GE331 Ao16 co16 w17 v333 w19 w21 v343 w23 HO328 y_3 y_4 y_5 y_6 y_7 y_8 y_9 y_10 y_11 y_12 y_13 y_14 y_15 y_16 y_17 y_18 y_19 y_20 y_21 y_22 y_23 y_24 y_25 y_26 y_27 y_28 y_29 y_30 y_31 y_32 y_33 y_34 y_35 y_36 y_37 y_38 y_39 y_40 y_41 y_42 y_43 y_44 y_45 y_46 y_47 y_48 y_49 y_50 y_51 y_52 y_53 y_54 y_55 y_56 y_57 y_58 y_59 y_60 y_61 y_62 y_63 y_64 y_65 y_66 y_67 y_68 y_69 y_70 y_71 y_72 y_73 y_74 y_75 y_76 y_77 y_78 y_79 y_80 y_81 y_82 y_83 y_84 y_85 y_86 y_87 y_88 y_89 y_90 y_91 y_92 y_93 y_94 y_95 y_96 y_97 y_98 y_99 y_100 y_101 y_102 y_103 y_104 y_105 y_106 y_107 y_108 y_109 y_110 y_111 y_112 y_113 y_114 y_115 y_116 y_117 y_118 y_119 y_120 y_121 y_122 y_123 y_124 y_125 y_126 y_127 y_128 y_129 y_130 y_131 y_132 y_133 y_134 y_135 y_136 y_137 y_138 y_139 y_140 y_141 y_142 y_143 y_144 y_145 y_146 y_147 y_148 y_149 y_150 y_151 y_152 y_153 y_154 y_155 y_156 y_157 y_158 y_159 y_160 y_161 y_162 y_163 y_164 y_165 y_166 y_167 y_168 y_169 y_170 y_171 y_172 y_173 y_174 y_175 y_176 y_177 y_178 y_179 y_180 y_181 y_182 y_183 y_184 y_185 y_186 y_187 y_188 y_189 y_190 y_191 y_192 y_193 y_194 y_195 y_196 y_197 y_198 y_199 y_200 y_201 y_202 y_203 y_204 y_205 y_206 y_207 y_208 y_209 y_210 y_211 y_212 y_213 y_214 y_215 y_216 y_217 y_218 y_219 y_220 y_221 y_222 y_223 y_224 y_225 y_226 y_227 y_228 y_229 y_230 y_231 y_232 y_233 y_234 y_235 y_236 y_237 y_238 y_239 y_240 y_241 y_242 y_243 y_244 y_245 y_246 y_247 y_248 y_249 y_250 y_251 y_252 y_253 y_254 y_255 y_256 y_257 y_258 y_259 y_260 y_261 y_262 y_263 y_264 y_265 y_266 y_267 y_268 y_269 y_270 y_271 y_272 y_273 y_274 y_275 y_276 y_277 y_278 y_279 y_280 y_281 y_282 y_283 y_284 y_285 y_286 y_287 y_288 y_289 y_290 y_291 y_292 y_293 y_294 y_295 y_296 y_297 y_298 y_299 y_300 y_301 y_302 y_303 y_304 kj10 HJ10 t360 t361 A44 Ao47 co47 w48 y_305 y_306 y_307 y_308 y_309 y_310 y_311 y_312 y_313 y_314 y_315 y_316 y_317 y_318 y_319 y_320 y_321 y_322 y_323 y_324 y_325 y_326 y_327 y_328 y_329 y_330 y_331 y_332 y_333 y_334 y_335 y_336 y_337 y_338 y_339 y_340 y_341 y_342 y_343 y_344 y_345 y_346 y_347 y_348 y_349 y_350 y_351 y_352 y_353 y_354 y_355 y_356 y_357 y_358 y_359 y_360 y_361 y_362 y_363 y_364 y_365 y_366 y_367 y_368 y_369 y_370 y_371 y_372 y_373 y_374 y_375 y_376 y_377 y_378 y_379 y_380 y_381 y_382 y_383 y_384 y_385 y_386 y_387 y_388 y_389 y_390 y_391 y_392 y_393 y_394 y_395 y_396 y_397 y_398 y_399 y_400 y_401 y_402 y_403 y_404 y_405 y_406 y_407 y_408 y_409 y_410 y_411 y_412 y_413 y_414 y_415 y_416 y_417 y_418 y_419 y_420 y_421 y_422 y_423 y_424 y_425 y_426 y_427 y_428 y_429 y_430 y_431 y_432 y_433 y_434 y_435 y_436 y_437 y_438 y_439 y_440 y_441 y_442 y_443 y_444 y_445 y_446 y_447 y_448 y_449 y_450 y_451 y_452 y_453 y_454 y_455 y_456 y_457 y_458 y_459 y_460 y_461 y_462 y_463 y_464 y_465 y_466 y_467 y_468 y_469 y_470 y_471 y_472 y_473 y_474 y_475 y_476 y_477 y_478 y_479 y_480 y_481 y_482 y_483 y_484 y_485 y_486 y_487 y_488 y_489 y_490 y_491 y_492 y_493 y_494 y_495 y_496 y_497 y_498 y_499 y_500 y_501 y_502 y_503 y_504 y_505 y_506 y_507 y_508 y_509 y_510 y_511 y_512 y_513 y_514 y_515 y_516 y_517 y_518 u254 y_519 y_520 y_521 y_522 y_523 y_524 y_525 y_526 y_527 y_528 y_529 y_530 y_531 y_532 y_533 y_534 y_535 y_536 y_537 y_538 y_539 y_540 y_541 y_542 y_543 y_544 y_545 y_546 y_547 y_548 y_549 y_550 y_551 y_552 y_553 y_554 y_555 y_556 y_557 y_558 y_559 y_560 y_561 y_562 y_563 y_564 y_565 y_566 y_567 y_568 y_569 y_570 y_571 y_572 y_573 y_574 y_575 y_576 y_577 y_578 y_579 y_580 y_581 y_582 y_583 y_584 y_585 y_586 y_587 y_588 y_589 y_590 y_591 y_592 y_593 y_594 y_595 y_596 y_597 y_598 y_599 y_600 y_601 y_602 y_603 y_604 y_605 y_606 kj44 HJ44 y_607 y_608 y_609 y_610 y_611 t362 t363 A55 Ao57 co57 HO334 HO339 HO344 HO349 HO_10 y_612 y_613 w58 y_614 y_615 y_616 y_617 y_618 wr u4 y_619 y_620 y_621 y_622 y_623 y_624 y_625 y_626 y_627 y_628 y_629 y_630 y_631 y_632 y_633 y_634 y_635 y_636 y_637 y_638 y_639 y_640 y_641 y_642 y_643 y_644 y_645 y_646 y_647 y_648 x27_3 x28_3 k3 y_649 HK3 t367 t370 t371 A67 y_650 y_651 w70 v368 y_652 HO_16 HO369 y_653 y_654 y_655 y_656 y_657 y_658 wc u43 u44 u45 u46 u47 u48 u49 u50 u51 u52 u53 u54 u55 u56 u57 u58 u59 u60 u61 u62 u63 u64 u65 u66 u67 u68 u69 u70 u71 u72 u73 u74 u75 u76 u77 u78 u79 u80 u81 u82 u83 u84 u85 u86 u87 u88 u89 u90 u91 u92 u93 u94 u95 u96 u97 u98 u99 u100 u101 u102 u103 u104 u105 u106 u107 u108 u109 u110 u111 u112 u113 u114 u115 u116 u117 u118 u119 u120 u121 u122 u123 u124 u125 u126 u127 u128 u129 u130 u131 u132 u133 u134 u135 u136 u137 u138 u139 u140 u141 u142 u143 u144 u145 u146 u147 u148 u149 u150 u151 u152 u153 u154 u155 u156 u157 u158 u159 u160 u161 u162 u163 u164 u165 u166 u167 u168 u169 u170 u171 u172 u173 u174 u175 u176 u177 u178 u179 u180 u181 u182 u183 u184 u185 u186 u187 u188 u189 u190 u191 u192 u193 u194 u195 u196 u197 u198 u199 u200 u201 u202 u203 u204 u205 u206 u207 u208 u209 u210 u211 u212 u213 u214 u215 u216 u217 u218 u219 u220 u221 u222 u223 u224 u225 u226 u227 u228 u229 u230 u231 u232 u233 u234 u235 u236 u237 u238 u239 u240 u241 u242 u243 u244 u245 u246 u247 u248 u249 u250 u251 u252 u253 u255 u256 u257 u258 u259 u260 u261 u262 u263 u264 u265 u266 u267 u268 u269 u270 u271 u272 u273 u274 u275 u276 u277 u278 u279 u280 u281 u282 u283 u284 u285 u286 u287 u288 u289 u290 u291 u292 u293 u294 u295 u296 u297 u298 u299 u300 u301 u302 u303 u304 u305 u306 u307 u308 u309 u310 u311 u312 u313 u314 u315 u316 u317 u318 u319 u320 u321 u322 u323 u324 u325 u326 u327 u328 u329 u330 u331 u332 u333 u334 u335 u336 u337 u338 u339 u340 u341 u342 x254_67 HO_5 BK331 HB kj67 HA HJ67
       exact hole2 ()
  ⟩
set_option maxHeartbeats 8000000 in
set_option maxRecDepth 100000 in
theorem laws_FnLines.calls_all_kj10_kj44_k3_kj59 : laws_FnLines.calls_all_kj10_kj44_k3_p.1.1 := by
  intro k A0 c0 l0 A1 c1 l1 r w hu28 hu38 HR0 HC0 HR1 HC1 A3 t326 A5 t329 t330 A6 t332 t335 t336 A7 t337 t340 t341 A8 t342 t345 t346 A9 t347 t350 t351 A10 _ nd _ w12 w13 gb331 w14 GW331 GE331 Ao16 co16 w17 v333 w19 w21 v343 w23 HO328 _ _ _ _ _ _ _ _ _ _ _ _ _ _ _ _ _ _ _ _ _ _ _ _ _ _ _ _ _ _ _ _ _ _ _ _ _ _ _ _ _ _ _ _ _ _ _ _ _ _ _ _ _ _ _ _ _ _ _ _ _ _ _ _ _ _ _ _ _ _ _ _ _ _ _ _ _ _ _ _ _ _ _ _ _ _ _ _ _ _ _ _ _ _ _ _ _ _ _ _ _ _ _ _ _ _ _ _ _ _ _ _ _ _ _ _ _ _ _ _ _ _ _ _ _ _ _ _ _ _ _ _ _ u174 _ _ _ _ _ _ _ _ _ _ _ _ _ _ _ _ _ _ _ _ _ _ _ _ _ _ _ _ _ _ _ _ _ _ _ _ _ _ _ _ _ _ _ _ _ _ _ _ _ _ _ _ _ _ _ _ _ _ _ _ _ _ _ _ _ _ _ _ _ _ _ _ _ _ _ _ _ _ _ _ _ _ _ _ _ _ _ _ _ _ _ _ _ _ _ _ _ _ _ _ _ _ _ _ _ _ _ _ _ _ _ _ _ _ _ _ _ _ _ _ _ _ _ _ _ _ _ _ _ _ _ _ _ _ _ _ _ _ _ _ _ _ _ _ _ _ _ _ _ _ _ _ _ _ _ _ _ _ _ _ _ _ _ _ _ _ _ _ kj10 HJ10 t360 t361 A44 Ao47 co47 w48 _ _ _ _ u43 u44 u45 u46 u47 u48 u49 u50 u51 u52 u53 u54 u55 u56 u57 u58 u59 u60 u61 u62 u63 u64 u65 u66 u67 u68 u69 u70 u71 u72 u73 u74 u75 u76 u77 u78 u79 u80 u81 u82 u83 u84 u85 u86 u87 u88 u89 u90 u91 u92 u93 u94 u95 u96 u97 u98 u99 u100 u101 u102 u103 u104 u105 u106 u107 u108 u109 u110 u111 u112 u113 u114 u115 u116 u117 u118 u119 u120 u121 u122 u123 u124 u125 u126 u127 u128 u129 u130 u131 u132 u133 u134 u135 u136 u137 u138 u139 u140 u141 u142 u143 u144 u145 u146 u147 u148 u149 u150 u151 u152 u153 u154 u155 u156 u157 u158 u159 u160 u161 u162 u163 u164 u165 u166 u167 u168 u169 u170 u171 u172 u173 u175 u176 u177 u178 u179 u180 u181 u182 u183 _ _ _ _ _ _ _ _ _ _ _ _ _ _ _ _ _ _ _ _ _ _ _ _ _ _ _ u211 u212 u213 u214 u215 u216 u217 u218 u219 u220 u221 u222 u223 u224 u225 u226 u227 u228 u229 u230 u231 u232 u233 u234 u235 u236 u237 u238 u239 u240 u241 u242 u243 u244 u245 u246 u247 u248 u249 u250 u251 u252 u253 u254 u255 u256 u257 u258 u259 u260 u261 u262 u263 u264 u265 u266 u267 u268 u269 u270 u271 u272 u273 u274 u275 u276 u277 u278 u279 u280 u281 u282 u283 u284 u285 u286 u287 u288 u289 u290 u291 u292 u293 u294 u295 u296 u297 u298 u299 u300 u301 u302 u303 u304 u305 u306 u307 u308 u309 u310 u311 u312 u313 u314 u315 u316 u317 u318 u319 u320 u321 u322 u323 u324 u325 u326 u327 u328 u329 u330 u331 u332 u333 u334 u335 u336 u337 u338 u339 u340 u341 u342 kj44 HJ44 _ _ _ _ _ t362 t363 A55 Ao57 co57 HO334 HO339 HO344 HO349 HO_10 _ _ w58 _ _ _ _ _ _ wr u4 _ _ _ _ _ _ _ _ _ _ _ _ _ _ _ _ _ _ u202 _ _ _ _ _ _ _ _ _ _ _ x27_3 x28_3 _ _ _ _ k3 _ HK3 _ _ _ _ _ _ wc u184 u185 u186 u187 u188 u189 u190 u191 u192 u193 u194 u195 u196 u197 u198 u199 u200 u201 u203 u204 u205 u206 u207 u208 u209 u210 x202_59 HO_5 HO_16 BK331 HB kj59 HA HJ59
  have H := HA.out
  clear HA
  simp only [laws_FnLines.j4] at H
  by_cases c63 : x202_59 = true
  ·subst c63
   have H1 : (none) = some r := by rw [if_pos rfl] at H; exact H
   clear H
   have H := H1
   clear H1
   exact absurd H (by simp)
  ·replace c63 := Bool.eq_false_iff.mpr c63
   subst c63
   have H1 : (if 0 ≤ x28_3 then (if x28_3 < (t347.length : Int) then (if (rd t347 x28_3) = x27_3 then (laws_FnLines.l1 kj59 t326 t340 t347 t350 t362 t363 (wrap64 (x27_3 + 1)) (wrap64 (x28_3 + 1)) t329 t330) else (laws_FnLines.l1 kj59 t326 t340 t347 t350 t362 t363 x27_3 (wrap64 (x28_3 + 1)) t329 t330)) else (none)) else (none)) = some r := by rw [if_neg (show ¬ (false = true) by decide)] at H; exact H
   clear H
   have H := H1
   clear H1
   by_cases c64 : 0 ≤ x28_3
   ·rw [if_pos c64] at H
    have c64b0 : decide (0 ≤ x28_3) = true := decide_eq_true c64
    clear c64
    by_cases c65 : x28_3 < (t347.length : Int)
    ·rw [if_pos c65] at H
     have c65b0 : decide (x28_3 < (t347.length : Int)) = true := decide_eq_true c65
     clear c65
     by_cases c66 : (rd t347 x28_3) = x27_3
     ·rw [if_pos c66] at H
      have c66b0 : ((rd t347 x28_3) == x27_3) = true := beq_iff_eq.mpr c66
      have c66b1 : ((rd t347 x28_3) != x27_3) = false := bne_eq_false_iff_eq.mpr c66
      clear c66
      have H' := Aside0.mk H
      clear H
      have p366 : 0 ≤ (x28_3 : Int) := of_decide_eq_true (by first | (with_reducible assumption) | assumption)
      have q366 : x28_3 < (t347.length : Int) := of_decide_eq_true (by first | (with_reducible assumption) | assumption)
      obtain ⟨ad366, e366, hx366_0⟩ := Kd.at_int (Kd.R_reads' HO_16.out).2.2 x28_3 p366 q366
      cases e366
      replace p366 := eq_true p366
      replace q366 := eq_true q366
      go_wp2
      go_roundg kj59
      case measure => have := HJ10.out; have := HJ44.out; have := HK3.out; have := HJ59.out; omega
      case rel => exact ⟨(wrap64 (x27_3 + 1)), (wrap64 (x28_3 + 1)), (by first | rfl | (simp; done) | (simp [*]; done)), (by first | rfl | (simp; done) | (simp [*]; done)), H', ⟨by have := HJ10.out; have := HJ44.out; have := HK3.out; have := HJ59.out; omega⟩, ⟨by (with_reducible repeat (first | apply Kd.R_alloc | apply Kd.R_drewN | apply Kd.R_drew)); exact HO_5.out⟩, ⟨by (with_reducible repeat (first | apply Kd.R_alloc | apply Kd.R_drewN | apply Kd.R_drew)); exact HO_16.out⟩, ⟨by (with_reducible repeat (first | refine blk_drewN ?_ _ | refine blk_drew ?_ | refine blk_alloc ?_ _)); exact BK331.out⟩, ⟨by repeat (first | (with_reducible first | exact HB.out | apply below_alloc | apply pw_below_drewN | apply below_drew1 | refine below_set ?_ GE331.out) | exact HB.out)⟩⟩
     ·rw [if_neg c66] at H
      have c66b0 : ((rd t347 x28_3) == x27_3) = false := beq_eq_false_iff_ne.mpr c66
      have c66b1 : ((rd t347 x28_3) != x27_3) = true := bne_iff_ne.mpr c66
      have H' := Aside0.mk H
      clear H
      have p366 : 0 ≤ (x28_3 : Int) := of_decide_eq_true (by first | (with_reducible assumption) | assumption)
      have q366 : x28_3 < (t347.length : Int) := of_decide_eq_true (by first | (with_reducible assumption) | assumption)
      obtain ⟨ad366, e366, hx366_0⟩ := Kd.at_int (Kd.R_reads' HO_16.out).2.2 x28_3 p366 q366
      cases e366
      replace p366 := eq_true p366
      replace q366 := eq_true q366
      go_wp2
      go_roundg kj59
      case measure => have := HJ10.out; have := HJ44.out; have := HK3.out; have := HJ59.out; omega
      case rel => exact ⟨(x27_3), (wrap64 (x28_3 + 1)), (by first | rfl | (simp; done) | (simp [*]; done)), (by first | rfl | (simp; done) | (simp [*]; done)), H', ⟨by have := HJ10.out; have := HJ44.out; have := HK3.out; have := HJ59.out; omega⟩, ⟨by (with_reducible repeat (first | apply Kd.R_alloc | apply Kd.R_drewN | apply Kd.R_drew)); exact HO_5.out⟩, ⟨by (with_reducible repeat (first | apply Kd.R_alloc | apply Kd.R_drewN | apply Kd.R_drew)); exact HO_16.out⟩, ⟨by (with_reducible repeat (first | refine blk_drewN ?_ _ | refine blk_drew ?_ | refine blk_alloc ?_ _)); exact BK331.out⟩, ⟨by repeat (first | (with_reducible first | exact HB.out | apply below_alloc | apply pw_below_drewN | apply below_drew1 | refine below_set ?_ GE331.out) | exact HB.out)⟩⟩
    ·rw [if_neg c65] at H
     exact absurd H (by simp)
   ·rw [if_neg c64] at H
    exact absurd H (by simp)
set_option maxHeartbeats 8000000 in
set_option maxRecDepth 100000 in
theorem laws_FnLines.calls_all_kj10_kj44_k3_kj67 : laws_FnLines.calls_all_kj10_kj44_k3_p.1.2 := by
  intro k A0 c0 l0 A1 c1 l1 r w hu28 hu38 HR0 HC0 HR1 HC1 A3 t326 A5 t329 t330 A6 t332 t335 t336 A7 t337 t340 t341 A8 t342 t345 t346 A9 t347 t350 t351 A10 _ nd _ w12 w13 gb331 w14 GW331 GE331 Ao16 co16 w17 v333 w19 w21 v343 w23 HO328 _ _ _ _ _ _ _ _ _ _ _ _ _ _ _ _ _ _ _ _ _ _ _ _ _ _ _ _ _ _ _ _ _ _ _ _ _ _ _ _ _ _ _ _ _ _ _ _ _ _ _ _ _ _ _ _ _ _ _ _ _ _ _ _ _ _ _ _ _ _ _ _ _ _ _ _ _ _ _ _ _ _ _ _ _ _ _ _ _ _ _ _ _ _ _ _ _ _ _ _ _ _ _ _ _ _ _ _ _ _ _ _ _ _ _ _ _ _ _ _ _ _ _ _ _ _ _ _ _ _ _ _ _ _ _ _ _ _ _ _ _ _ _ _ _ _ _ _ _ _ _ _ _ _ _ _ _ _ _ _ _ _ _ _ _ _ _ _ _ _ _ _ _ _ _ _ _ _ _ _ _ _ _ _ _ _ _ _ _ _ _ _ _ _ _ _ _ _ _ _ _ _ _ _ _ _ _ _ _ _ _ _ _ _ _ _ _ _ _ _ _ _ _ _ _ _ _ _ _ _ _ _ _ _ _ _ _ _ _ _ _ _ _ _ _ _ _ _ _ _ _ _ _ _ _ _ _ _ _ _ _ _ _ _ _ _ _ _ _ _ _ _ _ _ _ _ _ _ _ _ _ _ _ _ _ _ _ _ _ _ _ _ _ _ _ _ _ _ _ _ _ _ kj10 HJ10 t360 t361 A44 Ao47 co47 w48 _ _ _ _ _ _ _ _ _ _ _ _ _ _ _ _ _ _ _ _ _ _ _ _ _ _ _ _ _ _ _ _ _ _ _ _ _ _ _ _ _ _ _ _ _ _ _ _ _ _ _ _ _ _ _ _ _ _ _ _ _ _ _ _ _ _ _ _ _ _ _ _ _ _ _ _ _ _ _ _ _ _ _ _ _ _ _ _ _ _ _ _ _ _ _ _ _ _ _ _ _ _ _ _ _ _ _ _ _ _ _ _ _ _ _ _ _ _ _ _ _ _ _ _ _ _ _ _ _ _ _ _ _ _ _ _ _ _ _ _ _ _ _ _ _ _ _ _ _ _ _ _ _ _ _ _ _ _ _ _ _ _ _ _ _ _ _ _ _ _ _ _ _ _ _ _ _ _ _ _ _ _ _ _ _ _ _ _ _ _ _ _ _ _ _ _ _ _ _ _ _ _ _ _ _ _ _ _ _ _ _ _ _ _ u254 _ _ _ _ _ _ _ _ _ _ _ _ _ _ _ _ _ _ _ _ _ _ _ _ _ _ _ _ _ _ _ _ _ _ _ _ _ _ _ _ _ _ _ _ _ _ _ _ _ _ _ _ _ _ _ _ _ _ _ _ _ _ _ _ _ _ _ _ _ _ _ _ _ _ _ _ _ _ _ _ _ _ _ _ _ _ _ _ kj44 HJ44 _ _ _ _ _ t362 t363 A55 Ao57 co57 HO334 HO339 HO344 HO349 HO_10 _ _ w58 _ _ _ _ _ wr u4 _ _ _ _ _ _ _ _ _ _ _ _ _ _ _ _ _ _ _ _ _ _ _ _ _ _ _ _ _ _ x27_3 x28_3 k3 _ HK3 t367 t370 t371 A67 _ _ w70 v368 _ HO_16 HO369 _ _ _ _ _ _ wc u43 u44 u45 u46 u47 u48 u49 u50 u51 u52 u53 u54 u55 u56 u57 u58 u59 u60 u61 u62 u63 u64 u65 u66 u67 u68 u69 u70 u71 u72 u73 u74 u75 u76 u77 u78 u79 u80 u81 u82 u83 u84 u85 u86 u87 u88 u89 u90 u91 u92 u93 u94 u95 u96 u97 u98 u99 u100 u101 u102 u103 u104 u105 u106 u107 u108 u109 u110 u111 u112 u113 u114 u115 u116 u117 u118 u119 u120 u121 u122 u123 u124 u125 u126 u127 u128 u129 u130 u131 u132 u133 u134 u135 u136 u137 u138 u139 u140 u141 u142 u143 u144 u145 u146 u147 u148 u149 u150 u151 u152 u153 u154 u155 u156 u157 u158 u159 u160 u161 u162 u163 u164 u165 u166 u167 u168 u169 u170 u171 u172 u173 u174 u175 u176 u177 u178 u179 u180 u181 u182 u183 u184 u185 u186 u187 u188 u189 u190 u191 u192 u193 u194 u195 u196 u197 u198 u199 u200 u201 u202 u203 u204 u205 u206 u207 u208 u209 u210 u211 u212 u213 u214 u215 u216 u217 u218 u219 u220 u221 u222 u223 u224 u225 u226 u227 u228 u229 u230 u231 u232 u233 u234 u235 u236 u237 u238 u239 u240 u241 u242 u243 u244 u245 u246 u247 u248 u249 u250 u251 u252 u253 u255 u256 u257 u258 u259 u260 u261 u262 u263 u264 u265 u266 u267 u268 u269 u270 u271 u272 u273 u274 u275 u276 u277 u278 u279 u280 u281 u282 u283 u284 u285 u286 u287 u288 u289 u290 u291 u292 u293 u294 u295 u296 u297 u298 u299 u300 u301 u302 u303 u304 u305 u306 u307 u308 u309 u310 u311 u312 u313 u314 u315 u316 u317 u318 u319 u320 u321 u322 u323 u324 u325 u326 u327 u328 u329 u330 u331 u332 u333 u334 u335 u336 u337 u338 u339 u340 u341 u342 x254_67 HO_5 BK331 HB kj67 HA HJ67
  have H := HA.out
  clear HA
  simp only [laws_FnLines.j5] at H
  by_cases c77 : x254_67 = true
  ·subst c77
   have H1 : (none) = some r := by rw [if_pos rfl] at H; exact H
   clear H
   have H := H1
   clear H1
   exact absurd H (by simp)
  ·replace c77 := Bool.eq_false_iff.mpr c77
   subst c77
   have H1 : (if t350 > 0 then ((impl_FewestLines.f kj67 t329 t330 t326 (wrap64 (t350 - 1))).bind fun bt372 => (if bt372.2.2 = 7 then (laws_FnLines.j6 kj67 t326 t329 t330) else (none))) else (laws_FnLines.j6 kj67 t326 t329 t330)) = some r := by rw [if_neg (show ¬ (false = true) by decide)] at H; exact H
   clear H
   have H := H1
   clear H1
   by_cases c78 : t350 > 0
   ·rw [if_pos c78] at H
    have c78b0 : decide (0 < t350) = true := decide_eq_true c78
    clear c78
    replace H := Option.bind_eq_some_iff.mp H
    obtain ⟨⟨t372, t375, t376⟩, A790, H⟩ := H
    replace H : (if t376 = 7 then (laws_FnLines.j6 kj67 t326 t329 t330) else (none)) = some r := H
    have A79 := Aside0.mk A790
    clear A790
    by_cases c80 : t376 = 7
    ·rw [if_pos c80] at H
     have c80b0 : (t376 == 7) = true := beq_iff_eq.mpr c80
     have c80b1 : (t376 != 7) = false := bne_eq_false_iff_eq.mpr c80
     clear c80
     have H' := Aside0.mk H
     clear H
     have hcz81_0 : wc.cell? ⟨gb331, 0, none⟩ = some (.int .i16 t329) := (blk_cell BK331.out 0).trans rfl
     have hcz81_1 : wc.cell? ⟨gb331, 1, none⟩ = some (.int .i16 t330) := (blk_cell BK331.out 1).trans rfl
     have hfz81_0 := blk_frozen BK331.out 0
     have hfz81_1 := blk_frozen BK331.out 1
     go_wp2_with (first | ((with_reducible refine gate_callee (f := 25) rfl ?_); refine goesL_ (some 262) rfl rfl Try.func25 (by kernel_rfl) rfl #[.agg #[.int .i16 t329, .int .i16 t330], .slice Ao16 t326.length co16, .int .i64 (wrap64 (t350 - 1))] rfl (by (try simp only [List.map_toArray, List.map_cons, List.map_nil]); first | done | rfl | (simp only [List.length_drop, List.length_take]; rfl)) ?_; (with_reducible refine (impl_FewestLines.calls kj67 t329 t330 _ _ t326 (wrap64 (t350 - 1)) t372 t375 t376 _ ?side1 ?side2 A79.out).mono ?_); (case side1 => repeat (first | exact (Kd.R_reads' HO_5.out).2.2 | (with_reducible refine Kd.C_alloc ?_ _) | (with_reducible refine Kd.C_drewN ?_ _) | (with_reducible refine Kd.C_drew ?_))); (case side2 => exact (Kd.R_reads' HO_5.out).2.1); rintro e w82 ⟨v373, rfl, ho0, hb⟩; refine ⟨_, rfl, ?_⟩; have n0_ := Aside0.mk (Kd.R_below (by (with_reducible repeat (first | apply Kd.R_alloc | apply Kd.R_drewN | apply Kd.R_drew)); exact HO_5.out) hb); have n1_ := Aside0.mk (Kd.R_lower ho0 (below_size (by repeat (first | (with_reducible first | exact HB.out | apply below_alloc | apply pw_below_drewN | apply below_drew1 | refine below_set ?_ GE331.out) | exact HB.out)))); have n2_ := Aside0.mk (blk_below (g := gb331) (o := .cells #[.int .i16 t329, .int .i16 t330] 28 (0, 0)) (by (with_reducible repeat (first | refine blk_drewN ?_ _ | refine blk_drew ?_ | refine blk_alloc ?_ _)); exact BK331.out) hb); have n3_ := Aside0.mk (below_step (by repeat (first | (with_reducible first | exact HB.out | apply below_alloc | apply pw_below_drewN | apply below_drew1 | refine below_set ?_ GE331.out) | exact HB.out)) hb); clear HO_5; clear BK331; clear HB; have HO_5 := n0_; have HO374 := n1_; have BK331 := n2_; have HB := n3_; clear n0_ n1_ n2_ n3_; (try clear hb); (try clear hb2); (try clear hk); (try clear hi); (try clear ho0)))
     go_meet
     case rel => exact ⟨_, H', ⟨by have := HJ10.out; have := HJ44.out; have := HK3.out; have := HJ67.out; first | omega | exact Nat.le_refl _⟩, ⟨by (with_reducible repeat (first | apply Kd.R_alloc | apply Kd.R_drewN | apply Kd.R_drew)); exact HO_5.out⟩, ⟨by (with_reducible repeat (first | refine blk_drewN ?_ _ | refine blk_drew ?_ | refine blk_alloc ?_ _)); exact BK331.out⟩, ⟨by repeat (first | (with_reducible first | exact HB.out | apply below_alloc | apply pw_below_drewN | apply below_drew1 | refine below_set ?_ GE331.out) | exact HB.out)⟩⟩
    ·rw [if_neg c80] at H
     exact absurd H (by simp)
   ·rw [if_neg c78] at H
    have c78b0 : decide (0 < t350) = false := decide_eq_false c78
    clear c78
    have H' := Aside0.mk H
    clear H
    go_wp2
    go_meet
    case rel => exact ⟨_, H', ⟨by have := HJ10.out; have := HJ44.out; have := HK3.out; have := HJ67.out; first | omega | exact Nat.le_refl _⟩, ⟨by (with_reducible repeat (first | apply Kd.R_alloc | apply Kd.R_drewN | apply Kd.R_drew)); exact HO_5.out⟩, ⟨by (with_reducible repeat (first | refine blk_drewN ?_ _ | refine blk_drew ?_ | refine blk_alloc ?_ _)); exact BK331.out⟩, ⟨by repeat (first | (with_reducible first | exact HB.out | apply below_alloc | apply pw_below_drewN | apply below_drew1 | refine below_set ?_ GE331.out) | exact HB.out)⟩⟩
theorem laws_FnLines.calls_all_kj10_kj44_k3 : laws_FnLines.calls_all_kj10_kj44_p.1.1 := laws_FnLines.calls_all_kj10_kj44_k3_p.2 (fun _ => laws_FnLines.calls_all_kj10_kj44_k3_kj59) (fun _ => laws_FnLines.calls_all_kj10_kj44_k3_kj67)
set_option maxHeartbeats 8000000 in
set_option maxRecDepth 100000 in
noncomputable def laws_FnLines.calls_all_kj10_kj44_kj52_p : {P : Prop // (Unit → P) → (laws_FnLines.calls_all_kj10_kj44_p.1.2)} :=
  ⟨_, fun hole1 => by
    intro k A0 c0 l0 A1 c1 l1 r w hu28 hu38 HR0 HC0 HR1 HC1 A3 t326 A5 t329 t330 A6 t332 t335 t336 A7 t337 t340 t341 A8 t342 t345 t346 A9 t347 t350 t351 A10 _ nd _ w12 w13 gb331 w14 GW331 GE331 Ao16 co16 w17 v333 w19 w21 v343 w23 v348 HO328 _ _ _ _ _ _ _ _ _ _ _ _ _ _ _ _ _ _ _ _ _ _ _ _ _ _ _ _ _ _ _ _ _ _ _ _ _ _ _ _ _ _ _ _ _ _ _ _ _ _ _ _ _ _ _ _ _ _ _ _ _ _ _ _ _ _ _ _ _ _ _ _ _ _ _ _ _ _ _ _ _ _ _ _ _ _ _ _ _ _ _ _ _ _ _ _ _ _ _ _ _ _ _ _ _ _ _ _ _ _ _ _ _ _ _ _ _ _ _ _ _ _ _ _ _ _ _ _ _ _ _ _ _ _ _ _ _ _ _ _ _ _ _ _ _ _ _ _ _ _ _ _ _ _ _ _ _ _ _ _ _ _ _ _ _ _ _ _ _ _ _ _ _ _ _ _ _ _ _ _ _ _ _ _ _ _ _ _ _ _ _ _ _ _ _ _ _ _ _ _ _ _ _ _ _ _ _ _ _ _ _ _ _ _ _ _ _ _ _ _ _ _ _ _ _ _ _ _ _ _ _ _ _ _ _ _ _ _ _ _ _ _ _ _ _ _ _ _ _ _ _ _ _ _ _ _ _ _ _ _ _ _ _ _ _ _ _ _ _ _ _ _ _ _ _ _ _ _ _ _ _ _ _ _ _ _ _ _ _ _ _ _ _ _ _ _ _ _ _ _ _ _ kj10 HJ10 t360 t361 A44 Ao47 co47 HO334 HO339 HO344 HO349 w48 _ HO_10 _ _ _ _ _ _ _ _ _ _ _ _ _ _ _ _ _ _ _ _ _ _ _ _ _ _ _ _ _ _ _ _ _ _ _ _ _ _ _ _ _ _ _ _ _ _ _ _ _ _ _ _ _ _ _ _ _ _ _ _ _ _ _ _ _ _ _ _ _ _ _ _ _ _ _ _ _ _ _ _ _ _ _ _ _ _ _ _ _ _ _ _ _ _ _ _ _ _ _ _ _ _ _ _ _ _ _ _ _ _ _ _ _ _ _ _ _ _ _ _ _ _ _ _ _ _ _ _ _ _ _ _ _ _ _ _ _ _ _ _ _ _ _ _ _ _ _ _ _ _ _ _ _ _ _ _ _ _ _ _ _ _ _ _ _ _ _ _ _ _ _ _ _ _ _ _ _ _ _ _ _ _ _ _ _ _ _ _ _ _ _ _ _ _ _ _ _ _ _ _ _ _ _ _ _ _ _ _ _ _ _ _ _ _ _ _ _ _ _ _ _ _ _ _ _ _ _ _ _ _ _ _ _ _ _ _ _ _ _ _ _ _ _ _ _ _ _ _ _ _ _ _ _ _ _ _ _ _ _ _ _ _ _ _ _ _ _ _ _ _ _ _ _ _ _ _ _ _ _ _ _ _ _ _ _ _ _ _ _ _ _ _ _ _ _ _ _ _ _ _ _ _ _ _ HO_16 _ _ kj44 HJ44 _ _ wc u4 u25 u26 u27 u28 u29 u30 u31 u32 u33 u34 u43 u44 u45 u46 u47 u48 u49 u50 u51 u52 u53 u54 u55 u56 u57 u58 u59 u60 u61 u62 u63 u64 u65 u66 u67 u68 u69 u70 u71 u72 u73 u74 u75 u76 u77 u78 u79 u80 u81 u82 u83 u84 u85 u86 u87 u88 u89 u90 u91 u92 u93 u94 u95 u96 u97 u98 u99 u100 u101 u102 u103 u104 u105 u106 u107 u108 u109 u110 u111 u112 u113 u114 u115 u116 u117 u118 u119 u120 u121 u122 u123 u124 u125 u126 u127 u128 u129 u130 u131 u132 u133 u134 u135 u136 u137 u138 u139 u140 u141 u142 u143 u144 u145 u146 u147 u148 u149 u150 u151 u152 u153 u154 u155 u156 u157 u158 u159 u160 u161 u162 u163 u164 u165 u166 u167 u168 u169 u170 u171 u172 u173 u174 u175 u176 u177 u178 u179 u180 u181 u182 u183 u184 u185 u186 u187 u188 u189 u190 u191 u192 u193 u194 u195 u196 u197 u198 u199 u200 u201 u202 u203 u204 u205 u206 u207 u208 u209 u210 u211 u212 u213 u214 u215 u216 u217 u218 u219 u220 u221 u222 u223 u224 u225 u226 u227 u228 u229 u230 u231 u232 u233 u234 u235 u236 u237 u238 u239 u240 u241 u242 u243 u244 u245 u246 u247 u248 u249 u250 u251 u252 u253 u254 u255 u256 u257 u258 u259 u260 u261 u262 u263 u264 u265 u266 u267 u268 u269 u270 u271 u272 u273 u274 u275 u276 u277 u278 u279 u280 u281 u282 u283 u284 u285 u286 u287 u288 u289 u290 u291 u292 u293 u294 u295 u296 u297 u298 u299 u300 u301 u302 u303 u304 u305 u306 u307 u308 u309 u310 u311 u312 u313 u314 u315 u316 u317 u318 u319 u320 u321 u322 u323 u324 u325 u326 u327 u328 u329 u330 u331 u332 u333 u334 u335 u336 u337 u338 u339 u340 u341 u342 HO_5 BK331 HB kj52 HA HJ52
    have H := HA.out
    clear HA
    simp only [laws_FnLines.j6] at H
    obtain ⟨y377, hy377⟩ : ∃ y_ : List (S28), y_ = (([(⟨40, 100⟩ : S28), (⟨t329, t330⟩ : S28), (⟨400, 2000⟩ : S28)] : List (S28))) := ⟨_, rfl⟩
    replace H : ((impl_WhichLine.f kj52 y377 t326).bind fun bt380 => ((spec_WhichLine.f kj52 y377 t326).bind fun bt382 => (if bt380.2 = bt382.2 then (if bt380.1 = bt382.1 then (if bt380.2 = 0 then (laws_FnLines.j7 kj52 t326 y377 bt380.2 bt382.1 false) else (laws_FnLines.j7 kj52 t326 y377 bt380.2 bt382.1 (bt380.2 != 6))) else (none)) else (none)))) = some r := by first | (rw [hy377]; with_reducible exact H) | (have H2_ := (Option.bind_some _ _).symm.trans H; rw [hy377]; with_reducible exact H2_) | (have H2_ := (Option.bind_some _ _).symm.trans H; with_reducible exact H2_) | with_reducible exact H | (rw [hy377]; exact H) | exact H
    have Ny377 := Aside0.mk hy377
    clear hy377
    replace H := Option.bind_eq_some_iff.mp H
    obtain ⟨⟨t380, t381⟩, A830, H⟩ := H
    replace H : ((spec_WhichLine.f kj52 y377 t326).bind fun bt382 => (if t381 = bt382.2 then (if t380 = bt382.1 then (if t381 = 0 then (laws_FnLines.j7 kj52 t326 y377 t381 bt382.1 false) else (laws_FnLines.j7 kj52 t326 y377 t381 bt382.1 (t381 != 6))) else (none)) else (none))) = some r := H
    have A83 := Aside0.mk A830
    clear A830
    replace H := Option.bind_eq_some_iff.mp H
    obtain ⟨⟨t382, t383⟩, A840, H⟩ := H
    replace H : (if t381 = t383 then (if t380 = t382 then (if t381 = 0 then (laws_FnLines.j7 kj52 t326 y377 t381 t382 false) else (laws_FnLines.j7 kj52 t326 y377 t381 t382 (t381 != 6))) else (none)) else (none)) = some r := H
    have A84 := Aside0.mk A840
    clear A840
    have HC85 := Aside0.mk H
    clear H
    have hcz86_0 : wc.cell? ⟨gb331, 0, none⟩ = some (.int .i16 t329) := (blk_cell BK331.out 0).trans rfl
    have hcz86_1 : wc.cell? ⟨gb331, 1, none⟩ = some (.int .i16 t330) := (blk_cell BK331.out 1).trans rfl
    have hfz86_0 := blk_frozen BK331.out 0
    have hfz86_1 := blk_frozen BK331.out 1
    go_upto_region 44 with (first | ((with_reducible refine gate_dst (N := 271) rfl ?_); (try (refine gate_guard (by rfl) ?_; dsimp only)); refine Kd.R_lit k28 _ 28 ?hg (N := 271) ?hd (xs := ([(⟨40, 100⟩ : S28), (⟨t329, t330⟩ : S28), (⟨400, 2000⟩ : S28)] : List (S28))) (inner := [.int .i16 40, .int .i16 100, .int .i16 t329, .int .i16 t330, .int .i16 400, .int .i16 2000]) (ok := fun _ => True) (okp := fun _ => True) ?hr ?hp (fun _ hk => hk) trivial (Below.refl _ _) (Nat.le_refl _) (by simp) ?_; (case hd => rfl); (case hg => rfl); (case hr => first | (go_simp; done) | (go_simp; rfl)); (case hp => exact (Reps.c2 (show Kd.M k28 _ _ _ (⟨40, 100⟩ : S28) [.int .i16 40, .int .i16 100] from (k28_mkM _ _ _ (⟨40, 100⟩ : S28) )) (Reps.c2 (show Kd.M k28 _ _ _ (⟨t329, t330⟩ : S28) [.int .i16 t329, .int .i16 t330] from (k28_mkM _ _ _ (⟨t329, t330⟩ : S28) )) (Reps.c2 (show Kd.M k28 _ _ _ (⟨400, 2000⟩ : S28) [.int .i16 400, .int .i16 2000] from (k28_mkM _ _ _ (⟨400, 2000⟩ : S28) )) (Reps.none _ _))))); intro v378 w87 ho88 hb hg_ hnew_; clear hg_ hnew_; (first | rw [← Ny377.out] at ho88 | (simp only [Int.reduceToNat] at ho88; rw [← Ny377.out] at ho88)); have n0_ := Aside0.mk (Kd.R_below (by (with_reducible repeat (first | apply Kd.R_alloc | apply Kd.R_drewN | apply Kd.R_drew)); exact HO_5.out) hb); have n1_ := Aside0.mk (Kd.R_lower (Kd.R_newB ho88 (g := gb331) (o := .cells #[.int .i16 t329, .int .i16 t330] 28 (0, 0)) (by (with_reducible repeat (first | refine blk_drewN ?_ _ | refine blk_drew ?_ | refine blk_alloc ?_ _)); exact BK331.out)) (below_size (by repeat (first | (with_reducible first | exact HB.out | apply below_alloc | apply pw_below_drewN | apply below_drew1 | refine below_set ?_ GE331.out) | exact HB.out)))); have n2_ := Aside0.mk (blk_below (g := gb331) (o := .cells #[.int .i16 t329, .int .i16 t330] 28 (0, 0)) (by (with_reducible repeat (first | refine blk_drewN ?_ _ | refine blk_drew ?_ | refine blk_alloc ?_ _)); exact BK331.out) hb); have n3_ := Aside0.mk (below_step (by repeat (first | (with_reducible first | exact HB.out | apply below_alloc | apply pw_below_drewN | apply below_drew1 | refine below_set ?_ GE331.out) | exact HB.out)) hb); clear HO_5; clear BK331; clear HB; have HO_5 := n0_; have HO379 := n1_; have BK331 := n2_; have HB := n3_; clear n0_ n1_ n2_ n3_; clear hb ho88; obtain ⟨Ao89, co89, eo89⟩ := Kd.R_slice HO379.out; subst eo89) | ((with_reducible refine gate_callee (f := 30) rfl ?_); refine goesL_ (some 275) rfl rfl Try.func30 (by kernel_rfl) rfl #[.slice Ao89 y377.length co89, .slice Ao16 t326.length co16] rfl (by (try simp only [List.map_toArray, List.map_cons, List.map_nil]); first | done | rfl | (simp only [List.length_drop, List.length_take]; rfl)) ?_; (with_reducible refine (impl_WhichLine.calls kj52 _ _ y377 _ _ t326 t380 t381 _ ?side1 ?side2 ?side3 ?side4 A83.out).mono ?_); (case side1 => repeat (first | exact (Kd.R_reads' HO379.out).2.2 | (with_reducible refine Kd.C_alloc ?_ _) | (with_reducible refine Kd.C_drewN ?_ _) | (with_reducible refine Kd.C_drew ?_))); (case side2 => exact (Kd.R_reads' HO379.out).2.1); (case side3 => repeat (first | exact (Kd.R_reads' HO_5.out).2.2 | (with_reducible refine Kd.C_alloc ?_ _) | (with_reducible refine Kd.C_drewN ?_ _) | (with_reducible refine Kd.C_drew ?_))); (case side4 => exact (Kd.R_reads' HO_5.out).2.1); rintro e w90 ⟨rfl, hb⟩; refine ⟨_, rfl, ?_⟩; have n0_ := Aside0.mk (Kd.R_below (by (with_reducible repeat (first | apply Kd.R_alloc | apply Kd.R_drewN | apply Kd.R_drew)); exact HO_5.out) hb); have n1_ := Aside0.mk (Kd.R_below (by (with_reducible repeat (first | apply Kd.R_alloc | apply Kd.R_drewN | apply Kd.R_drew)); exact HO379.out) hb); have n2_ := Aside0.mk (blk_below (g := gb331) (o := .cells #[.int .i16 t329, .int .i16 t330] 28 (0, 0)) (by (with_reducible repeat (first | refine blk_drewN ?_ _ | refine blk_drew ?_ | refine blk_alloc ?_ _)); exact BK331.out) hb); have n3_ := Aside0.mk (below_step (by repeat (first | (with_reducible first | exact HB.out | apply below_alloc | apply pw_below_drewN | apply below_drew1 | refine below_set ?_ GE331.out) | exact HB.out)) hb); clear HO_5; clear HO379; clear BK331; clear HB; have HO_5 := n0_; have HO379 := n1_; have BK331 := n2_; have HB := n3_; clear n0_ n1_ n2_ n3_; (try clear hb); (try clear hb2); (try clear hk); (try clear hi)) | ((with_reducible refine gate_callee (f := 31) rfl ?_); refine goesL_ (some 281) rfl rfl Try.func31 (by kernel_rfl) rfl #[.slice Ao89 y377.length co89, .slice Ao16 t326.length co16] rfl (by (try simp only [List.map_toArray, List.map_cons, List.map_nil]); first | done | rfl | (simp only [List.length_drop, List.length_take]; rfl)) ?_; (with_reducible refine (spec_WhichLine.calls kj52 _ _ y377 _ _ t326 t382 t383 _ ?side1 ?side2 ?side3 ?side4 A84.out).mono ?_); (case side1 => repeat (first | exact (Kd.R_reads' HO379.out).2.2 | (with_reducible refine Kd.C_alloc ?_ _) | (with_reducible refine Kd.C_drewN ?_ _) | (with_reducible refine Kd.C_drew ?_))); (case side2 => exact (Kd.R_reads' HO379.out).2.1); (case side3 => repeat (first | exact (Kd.R_reads' HO_5.out).2.2 | (with_reducible refine Kd.C_alloc ?_ _) | (with_reducible refine Kd.C_drewN ?_ _) | (with_reducible refine Kd.C_drew ?_))); (case side4 => exact (Kd.R_reads' HO_5.out).2.1); rintro e w91 ⟨rfl, hb⟩; refine ⟨_, rfl, ?_⟩; have n0_ := Aside0.mk (Kd.R_below (by (with_reducible repeat (first | apply Kd.R_alloc | apply Kd.R_drewN | apply Kd.R_drew)); exact HO_5.out) hb); have n1_ := Aside0.mk (Kd.R_below (by (with_reducible repeat (first | apply Kd.R_alloc | apply Kd.R_drewN | apply Kd.R_drew)); exact HO379.out) hb); have n2_ := Aside0.mk (blk_below (g := gb331) (o := .cells #[.int .i16 t329, .int .i16 t330] 28 (0, 0)) (by (with_reducible repeat (first | refine blk_drewN ?_ _ | refine blk_drew ?_ | refine blk_alloc ?_ _)); exact BK331.out) hb); have n3_ := Aside0.mk (below_step (by repeat (first | (with_reducible first | exact HB.out | apply below_alloc | apply pw_below_drewN | apply below_drew1 | refine below_set ?_ GE331.out) | exact HB.out)) hb); clear HO_5; clear HO379; clear BK331; clear HB; have HO_5 := n0_; have HO379 := n1_; have BK331 := n2_; have HB := n3_; clear n0_ n1_ n2_ n3_; (try clear hb); (try clear hb2); (try clear hk); (try clear hi)))
    (try simp only [Act.put, List.setIfInBounds_toArray, List.set_cons_zero, List.set_cons_succ])
    go_cut [299] (fun v299 wc => ∃ (kq : Nat) (x299_84 : Bool), v299 = .bool x299_84 ∧ Aside0 (laws_FnLines.j7 kq t326 y377 t381 t382 x299_84 = some r) ∧ Aside0 (kq ≤ kj52) ∧ Aside0 (Kd.R k38 38 wc w.heap.size (fun _ => True) (.slice Ao16 t326.length co16) t326) ∧ Aside0 (Kd.R k28 28 wc w.heap.size (fun k_ => k_ ≠ gb331) (.slice Ao89 y377.length co89) y377) ∧ Aside0 (wc.heap[gb331]? = some (.cells #[.int .i16 t329, .int .i16 t330] 28 (0, 0))) ∧ Aside0 (Below w.heap.size w wc))
    case first =>
     have H := HC85.out
     clear HC85
     by_cases c92 : t381 = t383
     ·rw [if_pos c92] at H
      have c92b0 : (t381 == t383) = true := beq_iff_eq.mpr c92
      have c92b1 : (t381 != t383) = false := bne_eq_false_iff_eq.mpr c92
      clear c92
      (first | rw [c92b0] | (simp only [i64_w, i32_w]; rw [c92b0]) | skip)
      by_cases c93 : t380 = t382
      ·rw [if_pos c93] at H
       have c93b0 : (t380 == t382) = true := beq_iff_eq.mpr c93
       have c93b1 : (t380 != t382) = false := bne_eq_false_iff_eq.mpr c93
       clear c93
       by_cases c94 : t381 = 0
       ·rw [if_pos c94] at H
        have c94b0 : (t381 == 0) = true := beq_iff_eq.mpr c94
        have c94b1 : (t381 != 0) = false := bne_eq_false_iff_eq.mpr c94
        clear c94
        have H' := Aside0.mk H
        clear H
        go_wp2
        go_meet
        case rel => exact ⟨_, (false), (by first | rfl | (simp; done) | (simp [*]; done)), H', ⟨by have := HJ10.out; have := HJ44.out; have := HJ52.out; first | omega | exact Nat.le_refl _⟩, ⟨by (with_reducible repeat (first | apply Kd.R_alloc | apply Kd.R_drewN | apply Kd.R_drew)); exact HO_5.out⟩, ⟨by (with_reducible repeat (first | apply Kd.R_alloc | apply Kd.R_drewN | apply Kd.R_drew)); exact Kd.R_mono HO379.out (fun _ hk => hk.2)⟩, ⟨by (with_reducible repeat (first | refine blk_drewN ?_ _ | refine blk_drew ?_ | refine blk_alloc ?_ _)); exact BK331.out⟩, ⟨by repeat (first | (with_reducible first | exact HB.out | apply below_alloc | apply pw_below_drewN | apply below_drew1 | refine below_set ?_ GE331.out) | exact HB.out)⟩⟩
       ·rw [if_neg c94] at H
        have c94b0 : (t381 == 0) = false := beq_eq_false_iff_ne.mpr c94
        have c94b1 : (t381 != 0) = true := bne_iff_ne.mpr c94
        have H' := Aside0.mk H
        clear H
        go_wp2
        go_meet
        case rel => exact ⟨_, ((t381 != 6)), (by first | rfl | (simp; done) | (simp [*]; done)), H', ⟨by have := HJ10.out; have := HJ44.out; have := HJ52.out; first | omega | exact Nat.le_refl _⟩, ⟨by (with_reducible repeat (first | apply Kd.R_alloc | apply Kd.R_drewN | apply Kd.R_drew)); exact HO_5.out⟩, ⟨by (with_reducible repeat (first | apply Kd.R_alloc | apply Kd.R_drewN | apply Kd.R_drew)); exact Kd.R_mono HO379.out (fun _ hk => hk.2)⟩, ⟨by (with_reducible repeat (first | refine blk_drewN ?_ _ | refine blk_drew ?_ | refine blk_alloc ?_ _)); exact BK331.out⟩, ⟨by repeat (first | (with_reducible first | exact HB.out | apply below_alloc | apply pw_below_drewN | apply below_drew1 | refine below_set ?_ GE331.out) | exact HB.out)⟩⟩
      ·rw [if_neg c93] at H
       exact absurd H (by simp)
     ·rw [if_neg c92] at H
      exact absurd H (by simp)
    case rest =>
     clear HC85
     try clear c1
     try clear c2
     try clear p2
     try clear c3
     try clear p3
     try clear q3
     try clear hx3
     try clear c4
     try clear c5
     try clear c6
     try clear p6
     try clear c7
     try clear c8
     try clear c9
     try clear c20
     try clear c21
     try clear c22
     try clear c23
     try clear c24
     try clear c24b0
     try clear c24b1
     try clear c25
     try clear c26
     try clear c27
     try clear c27b0
     try clear c27b1
     try clear c28
     try clear c28b0
     try clear c28b1
     try clear c29
     try clear c30
     try clear c31
     try clear c31b0
     try clear c31b1
     try clear c32
     try clear c32b0
     try clear c32b1
     try clear p36
     try clear q36
     try clear hx36
     try clear c37
     try clear c37b0
     try clear c37b1
     try clear c42
     try clear c43
     try clear c43b0
     try clear c43b1
     try clear c49
     try clear c49b0
     try clear c49b1
     try clear c50
     try clear c51
     try clear c51b0
     try clear c51b1
     try clear c51b2
     try clear c52
     try clear c54
     try clear c54b0
     try clear c54b1
     try clear c59
     try clear c59b0
     try clear c61
     try clear c61b0
     try clear c62
     try clear c62b0
     try clear c63
     try clear c64
     try clear c64b0
     try clear p64
     try clear c65
     try clear c65b0
     try clear c66
     try clear c66b0
     try clear c66b1
     try clear c71
     try clear c71b0
     try clear c71b1
     try clear c72
     try clear c73
     try clear c73b0
     try clear c73b1
     try clear c73b2
     try clear c74
     try clear c74b0
     try clear c75
     try clear c75b0
     try clear c75b1
     try clear c75b2
     try clear c76
     try clear c76b0
     try clear c76b1
     try clear c77
     try clear c78
     try clear c78b0
     try clear c80
     try clear c80b0
     try clear c80b1
     try clear c92
     try clear c92b0
     try clear c92b1
     try clear c93
     try clear c93b0
     try clear c93b1
     try clear c94
     try clear c94b0
     try clear c94b1
     try clear hcz15_0
     try clear hcz15_1
     try clear hcz18_0
     try clear hcz18_1
     try clear hcz20_0
     try clear hcz20_1
     try clear hcz22_0
     try clear hcz22_1
     try clear hcz46_0
     try clear hcz46_1
     try clear hcz56_0
     try clear hcz56_1
     try clear hcz69_0
     try clear hcz69_1
     try clear hcz81_0
     try clear hcz81_1
     try clear hcz86_0
     try clear hcz86_1
     try clear hfz15_0
     try clear hfz15_1
     try clear hfz18_0
     try clear hfz18_1
     try clear hfz20_0
     try clear hfz20_1
     try clear hfz22_0
     try clear hfz22_1
     try clear hfz46_0
     try clear hfz46_1
     try clear hfz56_0
     try clear hfz56_1
     try clear hfz69_0
     try clear hfz69_1
     try clear hfz81_0
     try clear hfz81_1
     try clear hfz86_0
     try clear hfz86_1
     try clear hx364_0
     try clear hx365_0
     try clear hx366_0
     try clear p2
     try clear p3
     try clear p36
     try clear p364
     try clear p365
     try clear p366
     try clear p6
     try clear p64
     try clear q3
     try clear q36
     try clear q364
     try clear q365
     try clear q366
     obtain ⟨kq, x299_84, rfl, HA, HJ84, HO_5, HO_35, BK331, HB⟩ := hcut
     cases kq with
     | zero => exact absurd HA.out (by simp [laws_FnLines.j7])
     | succ kj84 =>
      rename_i y_1 y_2 y_3 y_4 y_5 y_6 y_7 y_8 y_9 y_10 y_11 y_12 y_13 y_14 y_15 y_16 y_17 y_18 y_19 y_20 y_21 y_22 y_23 y_24 y_25 y_26 y_27 y_28 y_29 y_30 y_31 y_32 y_33 y_34 y_35 y_36 y_37 y_38 y_39 y_40 y_41 y_42 y_43 y_44 y_45 y_46 y_47 y_48 y_49 y_50 y_51 y_52 y_53 y_54 y_55 y_56 y_57 y_58 y_59 y_60 y_61 y_62 y_63 y_64 y_65 y_66 y_67 y_68 y_69 y_70 y_71 y_72 y_73 y_74 y_75 y_76 y_77 y_78 y_79 y_80 y_81 y_82 y_83 y_84 y_85 y_86 y_87 y_88 y_89 y_90 y_91 y_92 y_93 y_94 y_95 y_96 y_97 y_98 y_99 y_100 y_101 y_102 y_103 y_104 y_105 y_106 y_107 y_108 y_109 y_110 y_111 y_112 y_113 y_114 y_115 y_116 y_117 y_118 y_119 y_120 y_121 y_122 y_123 y_124 y_125 y_126 y_127 y_128 y_129 y_130 y_131 y_132 y_133 y_134 y_135 y_136 y_137 y_138 y_139 y_140 y_141 y_142 y_143 y_144 y_145 y_146 y_147 y_148 y_149 y_150 y_151 y_152 y_153 y_154 y_155 y_156 y_157 y_158 y_159 y_160 y_161 y_162 y_163 y_164 y_165 y_166 y_167 y_168 y_169 y_170 y_171 y_172 y_173 y_174 y_175 y_176 y_177 y_178 y_179 y_180 y_181 y_182 y_183 y_184 y_185 y_186 y_187 y_188 y_189 y_190 y_191 y_192 y_193 y_194 y_195 y_196 y_197 y_198 y_199 y_200 y_201 y_202 y_203 y_204 y_205 y_206 y_207 y_208 y_209 y_210 y_211 y_212 y_213 y_214 y_215 y_216 y_217 y_218 y_219 y_220 y_221 y_222 y_223 y_224 y_225 y_226 y_227 y_228 y_229 y_230 y_231 y_232 y_233 y_234 y_235 y_236 y_237 y_238 y_239 y_240 y_241 y_242 y_243 y_244 y_245 y_246 y_247 y_248 y_249 y_250 y_251 y_252 y_253 y_254 y_255 y_256 y_257 y_258 y_259 y_260 y_261 y_262 y_263 y_264 y_265 y_266 y_267 y_268 y_269 y_270 y_271 y_272 y_273 y_274 y_275 y_276 y_277 y_278 y_279 y_280 y_281 y_282 y_283 y_284 y_285 y_286 y_287 y_288 y_289 y_290 y_291 y_292 y_293 y_294 y_295 y_296 y_297 y_298 y_299 y_300 y_301 y_302 y_303 y_304 y_305 y_306 y_307 y_308 y_309 y_310 y_311 y_312 y_313 y_314 y_315 y_316 y_317 y_318 y_319 y_320 y_321 y_322 y_323 y_324 y_325 y_326 y_327 y_328 y_329 y_330 y_331 y_332 y_333 y_334 y_335 y_336 y_337 y_338 y_339 y_340 y_341 y_342 y_343 y_344 y_345 y_346 y_347 y_348 y_349 y_350 y_351 y_352 y_353 y_354 y_355 y_356 y_357 y_358 y_359 y_360 y_361 y_362 y_363 y_364 y_365 y_366 y_367 y_368 y_369 y_370 y_371 y_372 y_373 y_374 y_375 y_376 y_377 y_378 y_379 y_380 y_381 y_382 y_383 y_384 y_385 y_386 y_387 y_388 y_389 y_390 y_391 y_392 y_393 y_394 y_395 y_396 y_397 y_398 y_399 y_400 y_401 y_402 y_403 y_404 y_405 y_406 y_407 y_408 y_409 y_410 y_411 y_412 y_413 y_414 y_415 y_416 y_417 y_418 y_419 y_420 y_421 y_422 y_423 y_424 y_425 y_426 y_427 y_428 y_429 y_430 y_431 y_432 y_433 y_434 y_435 y_436 y_437 y_438 y_439 y_440 y_441 y_442 y_443 y_444 y_445 y_446 y_447 y_448 y_449 y_450 y_451 y_452 y_453 y_454 y_455 y_456 y_457 y_458 y_459 y_460 y_461 y_462 y_463 y_464 y_465 y_466 y_467 y_468 y_469 y_470 y_471 y_472 y_473 y_474 y_475 y_476 y_477 y_478 y_479 y_480 y_481 y_482 y_483 y_484 y_485 y_486 y_487 y_488 y_489 y_490 y_491 y_492 y_493 y_494 y_495 y_496 y_497 y_498 y_499 y_500 y_501 y_502 y_503 y_504 y_505 y_506 y_507 y_508 y_509 y_510 y_511 y_512 y_513 y_514 y_515 y_516 y_517 y_518 y_519 y_520 y_521 y_522 y_523 y_524 y_525 y_526 y_527 y_528 y_529 y_530 y_531 y_532 y_533 y_534 y_535 y_536 y_537 y_538 y_539 y_540 y_541 y_542 y_543 y_544 y_545 y_546 y_547 y_548 y_549 y_550 y_551 y_552 y_553 y_554 y_555 y_556 y_557 y_558 y_559 y_560 y_561 y_562 y_563 y_564 y_565 y_566 y_567 y_568 y_569 y_570 y_571 y_572 y_573 y_574 y_575 y_576 y_577 y_578 y_579 y_580 y_581 y_582 y_583 y_584 y_585 y_586 y_587 y_588 y_589 y_590 y_591 y_592 y_593 y_594 y_595 y_596 y_597 y_598 y_599 y_600 y_601 y_602 y_603 y_604 y_605 y_606 y_607 y_608 y_609 y_610 y_611 y_612 y_613 y_614 y_615 y_616 y_617 y_618 y_619 y_620 y_621 y_622 y_623 y_624 y_625 y_626 y_627 y_628 y_629 y_630 y_631 y_632 y_633 y_634 y_635 y_636 y_637 y_638 y_639 y_640 y_641 y_642 y_643 y_644 y_645 y_646 y_647 y_648 y_649 y_650 y_651 y_652 y_653 y_654 y_655 y_656 y_657 y_658 y_659 y_660 y_661 y_662 y_663 y_664 y_665 y_666 y_667 y_668 y_669 y_670 y_671 y_672 y_673 y_674 y_675 y_676 y_677 y_678 y_679 y_680 y_681 y_682 y_683 y_684 y_685 y_686 y_687 y_688 y_689 y_690 y_691 y_692 y_693 y_694 y_695 y_696 y_697 y_698 y_699 y_700 y_701 y_702 y_703 y_704 y_705 y_706 y_707 y_708 y_709 y_710 y_711 y_712 y_713 y_714 y_715 y_716 y_717 y_718 y_719 y_720 y_721 y_722 y_723 y_724 y_725 y_726 y_727 y_728 y_729 y_730 y_731 y_732 y_733 y_734 y_735 y_736 y_737 y_738 y_739 y_740 y_741 y_742 y_743 y_744 y_745 y_746 y_747 y_748 y_749 y_750 y_751 y_752 y_753 y_754 y_755 y_756 y_757 y_758 y_759 y_760 y_761 y_762 y_763 y_764 y_765 y_766 y_767 y_768 y_769 y_770 y_771 y_772 y_773 y_774 y_775 y_776 y_777 y_778 y_779 y_780 y_781 y_782 y_783 y_784 y_785 y_786 y_787 y_788 y_789 y_790 y_791 y_792 y_793 y_794 y_795 y_796 y_797 y_798 y_799 y_800 y_801 y_802 y_803 y_804 y_805 y_806 y_807 y_808 y_809 y_810 y_811 y_812 y_813 y_814 y_815 y_816 y_817 y_818 y_819 y_820 y_821 y_822 y_823 y_824 y_825 y_826 y_827 y_828 y_829 y_830 y_831 y_832 y_833 y_834 y_835 y_836 y_837 y_838 y_839 y_840 y_841 y_842 y_843 y_844 y_845 y_846 y_847 y_848 y_849 y_850 y_851 y_852 y_853 y_854 y_855 y_856 y_857 y_858 y_859 y_860 y_861 y_862 y_863 y_864 y_865 y_866 y_867 y_868 y_869 y_870 y_871 y_872 y_873 y_874 y_875 y_876 y_877 y_878 y_879 y_880 y_881 y_882 y_883 y_884 y_885 y_886 y_887 y_888 y_889 y_890 y_891 y_892 y_893 y_894 y_895 y_896 y_897 y_898 y_899 y_900 y_901 y_902 y_903 y_904 y_905 y_906 y_907 y_908 y_909 y_910 y_911 y_912 y_913 y_914 y_915 y_916 y_917 y_918
      revert k A0 c0 l0 A1 c1 l1 r w hu28 hu38 HR0 HC0 HR1 HC1 A3 t326 A5 t329 t330 A6 t332 t335 t336 A7 t337 t340 t341 A8 t342 t345 t346 A9 t347 t350 t351 A10 y_1 nd y_2 w12 w13 gb331 w14 GW331 GE331 Ao16 co16 w17 v333 w19 w21 v343 w23 v348 HO328 y_3 y_4 y_5 y_6 y_7 y_8 y_9 y_10 y_11 y_12 y_13 y_14 y_15 y_16 y_17 y_18 y_19 y_20 y_21 y_22 y_23 y_24 y_25 y_26 y_27 y_28 y_29 y_30 y_31 y_32 y_33 y_34 y_35 y_36 y_37 y_38 y_39 y_40 y_41 y_42 y_43 y_44 y_45 y_46 y_47 y_48 y_49 y_50 y_51 y_52 y_53 y_54 y_55 y_56 y_57 y_58 y_59 y_60 y_61 y_62 y_63 y_64 y_65 y_66 y_67 y_68 y_69 y_70 y_71 y_72 y_73 y_74 y_75 y_76 y_77 y_78 y_79 y_80 y_81 y_82 y_83 y_84 y_85 y_86 y_87 y_88 y_89 y_90 y_91 y_92 y_93 y_94 y_95 y_96 y_97 y_98 y_99 y_100 y_101 y_102 y_103 y_104 y_105 y_106 y_107 y_108 y_109 y_110 y_111 y_112 y_113 y_114 y_115 y_116 y_117 y_118 y_119 y_120 y_121 y_122 y_123 y_124 y_125 y_126 y_127 y_128 y_129 y_130 y_131 y_132 y_133 y_134 y_135 y_136 y_137 y_138 y_139 y_140 y_141 y_142 y_143 y_144 y_145 y_146 y_147 y_148 y_149 y_150 y_151 y_152 y_153 y_154 y_155 y_156 y_157 y_158 y_159 y_160 y_161 y_162 y_163 y_164 y_165 y_166 y_167 y_168 y_169 y_170 y_171 y_172 y_173 y_174 y_175 y_176 y_177 y_178 y_179 y_180 y_181 y_182 y_183 y_184 y_185 y_186 y_187 y_188 y_189 y_190 y_191 y_192 y_193 y_194 y_195 y_196 y_197 y_198 y_199 y_200 y_201 y_202 y_203 y_204 y_205 y_206 y_207 y_208 y_209 y_210 y_211 y_212 y_213 y_214 y_215 y_216 y_217 y_218 y_219 y_220 y_221 y_222 y_223 y_224 y_225 y_226 y_227 y_228 y_229 y_230 y_231 y_232 y_233 y_234 y_235 y_236 y_237 y_238 y_239 y_240 y_241 y_242 y_243 y_244 y_245 y_246 y_247 y_248 y_249 y_250 y_251 y_252 y_253 y_254 y_255 y_256 y_257 y_258 y_259 y_260 y_261 y_262 y_263 y_264 y_265 y_266 y_267 y_268 y_269 y_270 y_271 y_272 y_273 y_274 y_275 y_276 y_277 y_278 y_279 y_280 y_281 y_282 y_283 y_284 y_285 y_286 y_287 y_288 y_289 y_290 y_291 y_292 y_293 y_294 y_295 y_296 y_297 y_298 y_299 y_300 y_301 y_302 y_303 y_304 kj10 HJ10 t360 t361 A44 Ao47 co47 HO334 HO339 HO344 HO349 w48 y_305 HO_10 y_306 y_307 y_308 y_309 y_310 y_311 y_312 y_313 y_314 y_315 y_316 y_317 y_318 y_319 y_320 y_321 y_322 y_323 y_324 y_325 y_326 y_327 y_328 y_329 y_330 y_331 y_332 y_333 y_334 y_335 y_336 y_337 y_338 y_339 y_340 y_341 y_342 y_343 y_344 y_345 y_346 y_347 y_348 y_349 y_350 y_351 y_352 y_353 y_354 y_355 y_356 y_357 y_358 y_359 y_360 y_361 y_362 y_363 y_364 y_365 y_366 y_367 y_368 y_369 y_370 y_371 y_372 y_373 y_374 y_375 y_376 y_377 y_378 y_379 y_380 y_381 y_382 y_383 y_384 y_385 y_386 y_387 y_388 y_389 y_390 y_391 y_392 y_393 y_394 y_395 y_396 y_397 y_398 y_399 y_400 y_401 y_402 y_403 y_404 y_405 y_406 y_407 y_408 y_409 y_410 y_411 y_412 y_413 y_414 y_415 y_416 y_417 y_418 y_419 y_420 y_421 y_422 y_423 y_424 y_425 y_426 y_427 y_428 y_429 y_430 y_431 y_432 y_433 y_434 y_435 y_436 y_437 y_438 y_439 y_440 y_441 y_442 y_443 y_444 y_445 y_446 y_447 y_448 y_449 y_450 y_451 y_452 y_453 y_454 y_455 y_456 y_457 y_458 y_459 y_460 y_461 y_462 y_463 y_464 y_465 y_466 y_467 y_468 y_469 y_470 y_471 y_472 y_473 y_474 y_475 y_476 y_477 y_478 y_479 y_480 y_481 y_482 y_483 y_484 y_485 y_486 y_487 y_488 y_489 y_490 y_491 y_492 y_493 y_494 y_495 y_496 y_497 y_498 y_499 y_500 y_501 y_502 y_503 y_504 y_505 y_506 y_507 y_508 y_509 y_510 y_511 y_512 y_513 y_514 y_515 y_516 y_517 y_518 y_519 y_520 y_521 y_522 y_523 y_524 y_525 y_526 y_527 y_528 y_529 y_530 y_531 y_532 y_533 y_534 y_535 y_536 y_537 y_538 y_539 y_540 y_541 y_542 y_543 y_544 y_545 y_546 y_547 y_548 y_549 y_550 y_551 y_552 y_553 y_554 y_555 y_556 y_557 y_558 y_559 y_560 y_561 y_562 y_563 y_564 y_565 y_566 y_567 y_568 y_569 y_570 y_571 y_572 y_573 y_574 y_575 y_576 y_577 y_578 y_579 y_580 y_581 y_582 y_583 y_584 y_585 y_586 y_587 y_588 y_589 y_590 y_591 y_592 y_593 y_594 y_595 y_596 y_597 y_598 y_599 y_600 y_601 y_602 y_603 y_604 y_605 y_606 y_607 y_608 y_609 HO_16 y_610 y_611 kj44 HJ44 y_612 u4 u25 u26 u27 u28 u29 u30 u31 u32 u33 u34 y_613 y_614 y_615 y_616 y_617 y_618 y_619 y_620 y_621 y_622 y_623 y_624 y_625 y_626 y_627 y_628 y_629 y_630 y_631 y_632 y_633 y_634 y_635 y_636 y_637 y_638 y_639 y_640 y_641 y_642 y_643 y_644 y_645 y_646 y_647 y_648 y_649 y_650 y_651 y_652 y_653 y_654 y_655 y_656 y_657 y_658 y_659 y_660 y_661 y_662 y_663 y_664 y_665 y_666 y_667 y_668 y_669 y_670 y_671 y_672 y_673 y_674 y_675 y_676 y_677 y_678 y_679 y_680 y_681 y_682 y_683 y_684 y_685 y_686 y_687 y_688 y_689 y_690 y_691 y_692 y_693 y_694 y_695 y_696 y_697 y_698 y_699 y_700 y_701 y_702 y_703 y_704 y_705 y_706 y_707 y_708 y_709 y_710 y_711 y_712 y_713 y_714 y_715 y_716 y_717 y_718 y_719 y_720 y_721 y_722 y_723 y_724 y_725 y_726 y_727 y_728 y_729 y_730 y_731 y_732 y_733 y_734 y_735 y_736 y_737 y_738 y_739 y_740 y_741 y_742 y_743 y_744 y_745 y_746 y_747 y_748 y_749 y_750 y_751 y_752 y_753 y_754 y_755 y_756 y_757 y_758 y_759 y_760 y_761 y_762 y_763 y_764 y_765 y_766 y_767 y_768 y_769 y_770 y_771 y_772 y_773 y_774 y_775 y_776 y_777 y_778 y_779 y_780 y_781 y_782 y_783 y_784 y_785 y_786 y_787 y_788 y_789 y_790 y_791 y_792 y_793 y_794 y_795 y_796 y_797 y_798 y_799 y_800 y_801 y_802 y_803 y_804 y_805 y_806 y_807 y_808 y_809 y_810 y_811 y_812 y_813 y_814 y_815 y_816 y_817 y_818 y_819 y_820 y_821 y_822 y_823 y_824 y_825 y_826 y_827 y_828 y_829 y_830 y_831 y_832 y_833 y_834 y_835 y_836 y_837 y_838 y_839 y_840 y_841 y_842 y_843 y_844 y_845 y_846 y_847 y_848 y_849 y_850 y_851 y_852 y_853 y_854 y_855 y_856 y_857 y_858 y_859 y_860 y_861 y_862 y_863 y_864 y_865 y_866 y_867 y_868 u299 y_869 y_870 y_871 y_872 y_873 y_874 y_875 y_876 y_877 y_878 y_879 y_880 y_881 y_882 y_883 y_884 y_885 y_886 y_887 y_888 y_889 y_890 y_891 y_892 y_893 y_894 y_895 y_896 y_897 y_898 y_899 y_900 y_901 y_902 y_903 y_904 y_905 y_906 y_907 y_908 y_909 y_910 y_911 kj52 HJ52 y377 Ny377 t380 t381 A83 t382 t383 A84 w87 Ao89 co89 w90 w91 y_912 HO379 y_913 y_914 y_915 y_916 y_917 y_918 wc u43 u44 u45 u46 u47 u48 u49 u50 u51 u52 u53 u54 u55 u56 u57 u58 u59 u60 u61 u62 u63 u64 u65 u66 u67 u68 u69 u70 u71 u72 u73 u74 u75 u76 u77 u78 u79 u80 u81 u82 u83 u84 u85 u86 u87 u88 u89 u90 u91 u92 u93 u94 u95 u96 u97 u98 u99 u100 u101 u102 u103 u104 u105 u106 u107 u108 u109 u110 u111 u112 u113 u114 u115 u116 u117 u118 u119 u120 u121 u122 u123 u124 u125 u126 u127 u128 u129 u130 u131 u132 u133 u134 u135 u136 u137 u138 u139 u140 u141 u142 u143 u144 u145 u146 u147 u148 u149 u150 u151 u152 u153 u154 u155 u156 u157 u158 u159 u160 u161 u162 u163 u164 u165 u166 u167 u168 u169 u170 u171 u172 u173 u174 u175 u176 u177 u178 u179 u180 u181 u182 u183 u184 u185 u186 u187 u188 u189 u190 u191 u192 u193 u194 u195 u196 u197 u198 u199 u200 u201 u202 u203 u204 u205 u206 u207 u208 u209 u210 u211 u212 u213 u214 u215 u216 u217 u218 u219 u220 u221 u222 u223 u224 u225 u226 u227 u228 u229 u230 u231 u232 u233 u234 u235 u236 u237 u238 u239 u240 u241 u242 u243 u244 u245 u246 u247 u248 u249 u250 u251 u252 u253 u254 u255 u256 u257 u258 u259 u260 u261 u262 u263 u264 u265 u266 u267 u268 u269 u270 u271 u272 u273 u274 u275 u276 u277 u278 u279 u280 u281 u282 u283 u284 u285 u286 u287 u288 u289 u290 u291 u292 u293 u294 u295 u296 u297 u298 u300 u301 u302 u303 u304 u305 u306 u307 u308 u309 u310 u311 u312 u313 u314 u315 u316 u317 u318 u319 u320 u321 u322 u323 u324 u325 u326 u327 u328 u329 u330 u331 u332 u333 u334 u335 u336 u337 u338 u339 u340 u341 u342 x299_84 HO_5 HO_35 BK331 HB kj84 HA HJ84
      exact hole1 ()
  ⟩
set_option maxHeartbeats 8000000 in
set_option maxRecDepth 100000 in
noncomputable def laws_FnLines.calls_all_kj10_kj44_kj52_kj84_p : {P : Prop // (Unit → P) → (laws_FnLines.calls_all_kj10_kj44_kj52_p.1)} :=
  ⟨_, fun hole1 => by
    intro k A0 c0 l0 A1 c1 l1 r w hu28 hu38 HR0 HC0 HR1 HC1 A3 t326 A5 t329 t330 A6 t332 t335 t336 A7 t337 t340 t341 A8 t342 t345 t346 A9 t347 t350 t351 A10 _ nd _ w12 w13 gb331 w14 GW331 GE331 Ao16 co16 w17 v333 w19 w21 v343 w23 v348 HO328 _ _ _ _ _ _ _ _ _ _ _ _ _ _ _ _ _ _ _ _ _ _ _ _ _ _ _ _ _ _ _ _ _ _ _ _ _ _ _ _ _ _ _ _ _ _ _ _ _ _ _ _ _ _ _ _ _ _ _ _ _ _ _ _ _ _ _ _ _ _ _ _ _ _ _ _ _ _ _ _ _ _ _ _ _ _ _ _ _ _ _ _ _ _ _ _ _ _ _ _ _ _ _ _ _ _ _ _ _ _ _ _ _ _ _ _ _ _ _ _ _ _ _ _ _ _ _ _ _ _ _ _ _ _ _ _ _ _ _ _ _ _ _ _ _ _ _ _ _ _ _ _ _ _ _ _ _ _ _ _ _ _ _ _ _ _ _ _ _ _ _ _ _ _ _ _ _ _ _ _ _ _ _ _ _ _ _ _ _ _ _ _ _ _ _ _ _ _ _ _ _ _ _ _ _ _ _ _ _ _ _ _ _ _ _ _ _ _ _ _ _ _ _ _ _ _ _ _ _ _ _ _ _ _ _ _ _ _ _ _ _ _ _ _ _ _ _ _ _ _ _ _ _ _ _ _ _ _ _ _ _ _ _ _ _ _ _ _ _ _ _ _ _ _ _ _ _ _ _ _ _ _ _ _ _ _ _ _ _ _ _ _ _ _ _ _ _ _ _ _ _ _ kj10 HJ10 t360 t361 A44 Ao47 co47 HO334 HO339 HO344 HO349 w48 _ HO_10 _ _ _ _ _ _ _ _ _ _ _ _ _ _ _ _ _ _ _ _ _ _ _ _ _ _ _ _ _ _ _ _ _ _ _ _ _ _ _ _ _ _ _ _ _ _ _ _ _ _ _ _ _ _ _ _ _ _ _ _ _ _ _ _ _ _ _ _ _ _ _ _ _ _ _ _ _ _ _ _ _ _ _ _ _ _ _ _ _ _ _ _ _ _ _ _ _ _ _ _ _ _ _ _ _ _ _ _ _ _ _ _ _ _ _ _ _ _ _ _ _ _ _ _ _ _ _ _ _ _ _ _ _ _ _ _ _ _ _ _ _ _ _ _ _ _ _ _ _ _ _ _ _ _ _ _ _ _ _ _ _ _ _ _ _ _ _ _ _ _ _ _ _ _ _ _ _ _ _ _ _ _ _ _ _ _ _ _ _ _ _ _ _ _ _ _ _ _ _ _ _ _ _ _ _ _ _ _ _ _ _ _ _ _ _ _ _ _ _ _ _ _ _ _ _ _ _ _ _ _ _ _ _ _ _ _ _ _ _ _ _ _ _ _ _ _ _ _ _ _ _ _ _ _ _ _ _ _ _ _ _ _ _ _ _ _ _ _ _ _ _ _ _ _ _ _ _ _ _ _ _ _ _ _ _ _ _ _ _ _ _ _ _ _ _ _ _ _ _ _ _ _ _ _ HO_16 _ _ kj44 HJ44 _ u4 u25 u26 u27 u28 u29 u30 u31 u32 u33 u34 _ _ _ _ _ _ _ _ _ _ _ _ _ _ _ _ _ _ _ _ _ _ _ _ _ _ _ _ _ _ _ _ _ _ _ _ _ _ _ _ _ _ _ _ _ _ _ _ _ _ _ _ _ _ _ _ _ _ _ _ _ _ _ _ _ _ _ _ _ _ _ _ _ _ _ _ _ _ _ _ _ _ _ _ _ _ _ _ _ _ _ _ _ _ _ _ _ _ _ _ _ _ _ _ _ _ _ _ _ _ _ _ _ _ _ _ _ _ _ _ _ _ _ _ _ _ _ _ _ _ _ _ _ _ _ _ _ _ _ _ _ _ _ _ _ _ _ _ _ _ _ _ _ _ _ _ _ _ _ _ _ _ _ _ _ _ _ _ _ _ _ _ _ _ _ _ _ _ _ _ _ _ _ _ _ _ _ _ _ _ _ _ _ _ _ _ _ _ _ _ _ _ _ _ _ _ _ _ _ _ _ _ _ _ _ _ _ _ _ _ _ _ _ _ _ _ _ _ _ _ _ _ _ _ _ _ _ _ _ _ _ _ _ _ _ _ _ _ _ _ _ _ _ _ _ _ u299 _ _ _ _ _ _ _ _ _ _ _ _ _ _ _ _ _ _ _ _ _ _ _ _ _ _ _ _ _ _ _ _ _ _ _ _ _ _ _ _ _ _ _ kj52 HJ52 y377 Ny377 t380 t381 A83 t382 t383 A84 w87 Ao89 co89 w90 w91 _ HO379 _ _ _ _ _ _ wc u43 u44 u45 u46 u47 u48 u49 u50 u51 u52 u53 u54 u55 u56 u57 u58 u59 u60 u61 u62 u63 u64 u65 u66 u67 u68 u69 u70 u71 u72 u73 u74 u75 u76 u77 u78 u79 u80 u81 u82 u83 u84 u85 u86 u87 u88 u89 u90 u91 u92 u93 u94 u95 u96 u97 u98 u99 u100 u101 u102 u103 u104 u105 u106 u107 u108 u109 u110 u111 u112 u113 u114 u115 u116 u117 u118 u119 u120 u121 u122 u123 u124 u125 u126 u127 u128 u129 u130 u131 u132 u133 u134 u135 u136 u137 u138 u139 u140 u141 u142 u143 u144 u145 u146 u147 u148 u149 u150 u151 u152 u153 u154 u155 u156 u157 u158 u159 u160 u161 u162 u163 u164 u165 u166 u167 u168 u169 u170 u171 u172 u173 u174 u175 u176 u177 u178 u179 u180 u181 u182 u183 u184 u185 u186 u187 u188 u189 u190 u191 u192 u193 u194 u195 u196 u197 u198 u199 u200 u201 u202 u203 u204 u205 u206 u207 u208 u209 u210 u211 u212 u213 u214 u215 u216 u217 u218 u219 u220 u221 u222 u223 u224 u225 u226 u227 u228 u229 u230 u231 u232 u233 u234 u235 u236 u237 u238 u239 u240 u241 u242 u243 u244 u245 u246 u247 u248 u249 u250 u251 u252 u253 u254 u255 u256 u257 u258 u259 u260 u261 u262 u263 u264 u265 u266 u267 u268 u269 u270 u271 u272 u273 u274 u275 u276 u277 u278 u279 u280 u281 u282 u283 u284 u285 u286 u287 u288 u289 u290 u291 u292 u293 u294 u295 u296 u297 u298 u300 u301 u302 u303 u304 u305 u306 u307 u308 u309 u310 u311 u312 u313 u314 u315 u316 u317 u318 u319 u320 u321 u322 u323 u324 u325 u326 u327 u328 u329 u330 u331 u332 u333 u334 u335 u336 u337 u338 u339 u340 u341 u342 x299_84 HO_5 HO_35 BK331 HB kj84 HA HJ84
    have H := HA.out
    clear HA
    simp only [laws_FnLines.j7] at H
    by_cases c95 : x299_84 = true
    ·subst c95
     have H1 : (none) = some r := by rw [if_pos rfl] at H; exact H
     clear H
     have H := H1
     clear H1
     exact absurd H (by simp)
    ·replace c95 := Bool.eq_false_iff.mpr c95
     subst c95
     have H1 : (laws_FnLines.l2 kj84 t326 y377 t381 t382 0) = some r := by rw [if_neg (show ¬ (false = true) by decide)] at H; exact H
     clear H
     have H := H1
     clear H1
     have H' := Aside0.mk H
     clear H
     go_wp2
     go_loopg [40] kj84 (fun kq v40 w' => ∃ (x40_5 : Int), v40 = .int .i64 x40_5 ∧ Aside0 (laws_FnLines.l2 kq t326 y377 t381 t382 x40_5 = some r) ∧ Aside0 (kq ≤ kj84) ∧ Aside0 (Kd.R k38 38 w' w.heap.size (fun _ => True) (.slice Ao16 t326.length co16) t326) ∧ Aside0 (Kd.R k28 28 w' w.heap.size (fun k_ => k_ ≠ gb331) (.slice Ao89 y377.length co89) y377) ∧ Aside0 (w'.heap[gb331]? = some (.cells #[.int .i16 t329, .int .i16 t330] 28 (0, 0))) ∧ Aside0 (Below w.heap.size w w'))
     case atStart => exact ⟨(0), (by first | rfl | (simp; done) | (simp [*]; done)), H', ⟨Nat.le_refl _⟩, ⟨by (with_reducible repeat (first | apply Kd.R_alloc | apply Kd.R_drewN | apply Kd.R_drew)); exact HO_5.out⟩, ⟨by (with_reducible repeat (first | apply Kd.R_alloc | apply Kd.R_drewN | apply Kd.R_drew)); exact HO_35.out⟩, ⟨by (with_reducible repeat (first | refine blk_drewN ?_ _ | refine blk_drew ?_ | refine blk_alloc ?_ _)); exact BK331.out⟩, ⟨by repeat (first | (with_reducible first | exact HB.out | apply below_alloc | apply pw_below_drewN | apply below_drew1 | refine below_set ?_ GE331.out) | exact HB.out)⟩⟩
     case round =>
      clear H'
      try clear c1
      try clear c2
      try clear p2
      try clear c3
      try clear p3
      try clear q3
      try clear hx3
      try clear c4
      try clear c5
      try clear c6
      try clear p6
      try clear c7
      try clear c8
      try clear c9
      try clear c20
      try clear c21
      try clear c22
      try clear c23
      try clear c24
      try clear c24b0
      try clear c24b1
      try clear c25
      try clear c26
      try clear c27
      try clear c27b0
      try clear c27b1
      try clear c28
      try clear c28b0
      try clear c28b1
      try clear c29
      try clear c30
      try clear c31
      try clear c31b0
      try clear c31b1
      try clear c32
      try clear c32b0
      try clear c32b1
      try clear p36
      try clear q36
      try clear hx36
      try clear c37
      try clear c37b0
      try clear c37b1
      try clear c42
      try clear c43
      try clear c43b0
      try clear c43b1
      try clear c49
      try clear c49b0
      try clear c49b1
      try clear c50
      try clear c51
      try clear c51b0
      try clear c51b1
      try clear c51b2
      try clear c52
      try clear c54
      try clear c54b0
      try clear c54b1
      try clear c59
      try clear c59b0
      try clear c61
      try clear c61b0
      try clear c62
      try clear c62b0
      try clear c63
      try clear c64
      try clear c64b0
      try clear p64
      try clear c65
      try clear c65b0
      try clear c66
      try clear c66b0
      try clear c66b1
      try clear c71
      try clear c71b0
      try clear c71b1
      try clear c72
      try clear c73
      try clear c73b0
      try clear c73b1
      try clear c73b2
      try clear c74
      try clear c74b0
      try clear c75
      try clear c75b0
      try clear c75b1
      try clear c75b2
      try clear c76
      try clear c76b0
      try clear c76b1
      try clear c77
      try clear c78
      try clear c78b0
      try clear c80
      try clear c80b0
      try clear c80b1
      try clear c92
      try clear c92b0
      try clear c92b1
      try clear c93
      try clear c93b0
      try clear c93b1
      try clear c94
      try clear c94b0
      try clear c94b1
      try clear c95
      try clear hcz15_0
      try clear hcz15_1
      try clear hcz18_0
      try clear hcz18_1
      try clear hcz20_0
      try clear hcz20_1
      try clear hcz22_0
      try clear hcz22_1
      try clear hcz46_0
      try clear hcz46_1
      try clear hcz56_0
      try clear hcz56_1
      try clear hcz69_0
      try clear hcz69_1
      try clear hcz81_0
      try clear hcz81_1
      try clear hcz86_0
      try clear hcz86_1
      try clear hfz15_0
      try clear hfz15_1
      try clear hfz18_0
      try clear hfz18_1
      try clear hfz20_0
      try clear hfz20_1
      try clear hfz22_0
      try clear hfz22_1
      try clear hfz46_0
      try clear hfz46_1
      try clear hfz56_0
      try clear hfz56_1
      try clear hfz69_0
      try clear hfz69_1
      try clear hfz81_0
      try clear hfz81_1
      try clear hfz86_0
      try clear hfz86_1
      try clear hx364_0
      try clear hx365_0
      try clear hx366_0
      try clear p2
      try clear p3
      try clear p36
      try clear p364
      try clear p365
      try clear p366
      try clear p6
      try clear p64
      try clear q3
      try clear q36
      try clear q364
      try clear q365
      try clear q366
      obtain ⟨x40_5, rfl, HA, HK5, HO_5, HO_35, BK331, HB⟩ := hrel
      cases gk with
      | zero => exact absurd HA.out (by simp [laws_FnLines.l2])
      | succ k5 =>
       rename_i y_1 y_2 y_3 y_4 y_5 y_6 y_7 y_8 y_9 y_10 y_11 y_12 y_13 y_14 y_15 y_16 y_17 y_18 y_19 y_20 y_21 y_22 y_23 y_24 y_25 y_26 y_27 y_28 y_29 y_30 y_31 y_32 y_33 y_34 y_35 y_36 y_37 y_38 y_39 y_40 y_41 y_42 y_43 y_44 y_45 y_46 y_47 y_48 y_49 y_50 y_51 y_52 y_53 y_54 y_55 y_56 y_57 y_58 y_59 y_60 y_61 y_62 y_63 y_64 y_65 y_66 y_67 y_68 y_69 y_70 y_71 y_72 y_73 y_74 y_75 y_76 y_77 y_78 y_79 y_80 y_81 y_82 y_83 y_84 y_85 y_86 y_87 y_88 y_89 y_90 y_91 y_92 y_93 y_94 y_95 y_96 y_97 y_98 y_99 y_100 y_101 y_102 y_103 y_104 y_105 y_106 y_107 y_108 y_109 y_110 y_111 y_112 y_113 y_114 y_115 y_116 y_117 y_118 y_119 y_120 y_121 y_122 y_123 y_124 y_125 y_126 y_127 y_128 y_129 y_130 y_131 y_132 y_133 y_134 y_135 y_136 y_137 y_138 y_139 y_140 y_141 y_142 y_143 y_144 y_145 y_146 y_147 y_148 y_149 y_150 y_151 y_152 y_153 y_154 y_155 y_156 y_157 y_158 y_159 y_160 y_161 y_162 y_163 y_164 y_165 y_166 y_167 y_168 y_169 y_170 y_171 y_172 y_173 y_174 y_175 y_176 y_177 y_178 y_179 y_180 y_181 y_182 y_183 y_184 y_185 y_186 y_187 y_188 y_189 y_190 y_191 y_192 y_193 y_194 y_195 y_196 y_197 y_198 y_199 y_200 y_201 y_202 y_203 y_204 y_205 y_206 y_207 y_208 y_209 y_210 y_211 y_212 y_213 y_214 y_215 y_216 y_217 y_218 y_219 y_220 y_221 y_222 y_223 y_224 y_225 y_226 y_227 y_228 y_229 y_230 y_231 y_232 y_233 y_234 y_235 y_236 y_237 y_238 y_239 y_240 y_241 y_242 y_243 y_244 y_245 y_246 y_247 y_248 y_249 y_250 y_251 y_252 y_253 y_254 y_255 y_256 y_257 y_258 y_259 y_260 y_261 y_262 y_263 y_264 y_265 y_266 y_267 y_268 y_269 y_270 y_271 y_272 y_273 y_274 y_275 y_276 y_277 y_278 y_279 y_280 y_281 y_282 y_283 y_284 y_285 y_286 y_287 y_288 y_289 y_290 y_291 y_292 y_293 y_294 y_295 y_296 y_297 y_298 y_299 y_300 y_301 y_302 y_303 y_304 y_305 y_306 y_307 y_308 y_309 y_310 y_311 y_312 y_313 y_314 y_315 y_316 y_317 y_318 y_319 y_320 y_321 y_322 y_323 y_324 y_325 y_326 y_327 y_328 y_329 y_330 y_331 y_332 y_333 y_334 y_335 y_336 y_337 y_338 y_339 y_340 y_341 y_342 y_343 y_344 y_345 y_346 y_347 y_348 y_349 y_350 y_351 y_352 y_353 y_354 y_355 y_356 y_357 y_358 y_359 y_360 y_361 y_362 y_363 y_364 y_365 y_366 y_367 y_368 y_369 y_370 y_371 y_372 y_373 y_374 y_375 y_376 y_377 y_378 y_379 y_380 y_381 y_382 y_383 y_384 y_385 y_386 y_387 y_388 y_389 y_390 y_391 y_392 y_393 y_394 y_395 y_396 y_397 y_398 y_399 y_400 y_401 y_402 y_403 y_404 y_405 y_406 y_407 y_408 y_409 y_410 y_411 y_412 y_413 y_414 y_415 y_416 y_417 y_418 y_419 y_420 y_421 y_422 y_423 y_424 y_425 y_426 y_427 y_428 y_429 y_430 y_431 y_432 y_433 y_434 y_435 y_436 y_437 y_438 y_439 y_440 y_441 y_442 y_443 y_444 y_445 y_446 y_447 y_448 y_449 y_450 y_451 y_452 y_453 y_454 y_455 y_456 y_457 y_458 y_459 y_460 y_461 y_462 y_463 y_464 y_465 y_466 y_467 y_468 y_469 y_470 y_471 y_472 y_473 y_474 y_475 y_476 y_477 y_478 y_479 y_480 y_481 y_482 y_483 y_484 y_485 y_486 y_487 y_488 y_489 y_490 y_491 y_492 y_493 y_494 y_495 y_496 y_497 y_498 y_499 y_500 y_501 y_502 y_503 y_504 y_505 y_506 y_507 y_508 y_509 y_510 y_511 y_512 y_513 y_514 y_515 y_516 y_517 y_518 y_519 y_520 y_521 y_522 y_523 y_524 y_525 y_526 y_527 y_528 y_529 y_530 y_531 y_532 y_533 y_534 y_535 y_536 y_537 y_538 y_539 y_540 y_541 y_542 y_543 y_544 y_545 y_546 y_547 y_548 y_549 y_550 y_551 y_552 y_553 y_554 y_555 y_556 y_557 y_558 y_559 y_560 y_561 y_562 y_563 y_564 y_565 y_566 y_567 y_568 y_569 y_570 y_571 y_572 y_573 y_574 y_575 y_576 y_577 y_578 y_579 y_580 y_581 y_582 y_583 y_584 y_585 y_586 y_587 y_588 y_589 y_590 y_591 y_592 y_593 y_594 y_595 y_596 y_597 y_598 y_599 y_600 y_601 y_602 y_603 y_604 y_605 y_606 y_607 y_608 y_609 y_610 y_611 y_612 y_613 y_614 y_615 y_616 y_617 y_618 y_619 y_620 y_621 y_622 y_623 y_624 y_625 y_626 y_627 y_628 y_629 y_630 y_631 y_632 y_633 y_634 y_635 y_636 y_637 y_638 y_639 y_640 y_641 y_642 y_643 y_644 y_645 y_646 y_647 y_648 y_649 y_650 y_651 y_652 y_653 y_654 y_655 y_656 y_657 y_658 y_659 y_660 y_661 y_662 y_663 y_664 y_665 y_666 y_667 y_668 y_669 y_670 y_671 y_672 y_673 y_674 y_675 y_676 y_677 y_678 y_679 y_680 y_681 y_682 y_683 y_684 y_685 y_686 y_687 y_688 y_689 y_690 y_691 y_692 y_693 y_694 y_695 y_696 y_697 y_698 y_699 y_700 y_701 y_702 y_703 y_704 y_705 y_706 y_707 y_708 y_709 y_710 y_711 y_712 y_713 y_714 y_715 y_716 y_717 y_718 y_719 y_720 y_721 y_722 y_723 y_724 y_725 y_726 y_727 y_728 y_729 y_730 y_731 y_732 y_733 y_734 y_735 y_736 y_737 y_738 y_739 y_740 y_741 y_742 y_743 y_744 y_745 y_746 y_747 y_748 y_749 y_750 y_751 y_752 y_753 y_754 y_755 y_756 y_757 y_758 y_759 y_760 y_761 y_762 y_763 y_764 y_765 y_766 y_767 y_768 y_769 y_770 y_771 y_772 y_773 y_774 y_775 y_776 y_777 y_778 y_779 y_780 y_781 y_782 y_783 y_784 y_785 y_786 y_787 y_788 y_789 y_790 y_791 y_792 y_793 y_794 y_795 y_796 y_797 y_798 y_799 y_800 y_801 y_802 y_803 y_804 y_805 y_806 y_807 y_808 y_809 y_810 y_811 y_812 y_813 y_814 y_815 y_816 y_817 y_818 y_819 y_820 y_821 y_822 y_823 y_824 y_825 y_826 y_827 y_828 y_829 y_830 y_831 y_832 y_833 y_834 y_835 y_836 y_837 y_838 y_839 y_840 y_841 y_842 y_843 y_844 y_845 y_846 y_847 y_848 y_849 y_850 y_851 y_852 y_853 y_854 y_855 y_856 y_857 y_858 y_859 y_860 y_861 y_862 y_863 y_864 y_865 y_866 y_867 y_868 y_869 y_870 y_871 y_872 y_873 y_874 y_875 y_876 y_877 y_878 y_879 y_880 y_881 y_882 y_883 y_884 y_885 y_886 y_887 y_888 y_889 y_890 y_891 y_892 y_893 y_894 y_895 y_896 y_897 y_898 y_899 y_900 y_901 y_902 y_903 y_904 y_905 y_906 y_907 y_908 y_909 y_910 y_911 y_912 y_913 y_914 y_915 y_916 y_917 y_918 y_919 y_920 y_921 y_922 y_923 y_924 y_925 y_926 y_927 y_928 y_929 y_930 y_931 y_932 y_933 y_934 y_935 y_936 y_937 y_938 y_939 y_940 y_941 y_942 y_943 y_944 y_945 y_946 y_947 y_948 y_949 y_950 y_951 y_952 y_953 y_954 y_955 y_956 y_957 y_958 y_959 y_960 y_961 y_962 y_963 y_964 y_965 y_966 y_967 y_968
       revert k A0 c0 l0 A1 c1 l1 r w hu28 hu38 HR0 HC0 HR1 HC1 A3 t326 A5 t329 t330 A6 t332 t335 t336 A7 t337 t340 t341 A8 t342 t345 t346 A9 t347 t350 t351 A10 y_1 nd y_2 w12 w13 gb331 w14 GW331 GE331 Ao16 co16 w17 v333 w19 w21 v343 w23 v348 HO328 y_3 y_4 y_5 y_6 y_7 y_8 y_9 y_10 y_11 y_12 y_13 y_14 y_15 y_16 y_17 y_18 y_19 y_20 y_21 y_22 y_23 y_24 y_25 y_26 y_27 y_28 y_29 y_30 y_31 y_32 y_33 y_34 y_35 y_36 y_37 y_38 y_39 y_40 y_41 y_42 y_43 y_44 y_45 y_46 y_47 y_48 y_49 y_50 y_51 y_52 y_53 y_54 y_55 y_56 y_57 y_58 y_59 y_60 y_61 y_62 y_63 y_64 y_65 y_66 y_67 y_68 y_69 y_70 y_71 y_72 y_73 y_74 y_75 y_76 y_77 y_78 y_79 y_80 y_81 y_82 y_83 y_84 y_85 y_86 y_87 y_88 y_89 y_90 y_91 y_92 y_93 y_94 y_95 y_96 y_97 y_98 y_99 y_100 y_101 y_102 y_103 y_104 y_105 y_106 y_107 y_108 y_109 y_110 y_111 y_112 y_113 y_114 y_115 y_116 y_117 y_118 y_119 y_120 y_121 y_122 y_123 y_124 y_125 y_126 y_127 y_128 y_129 y_130 y_131 y_132 y_133 y_134 y_135 y_136 y_137 y_138 y_139 y_140 y_141 y_142 y_143 y_144 y_145 y_146 y_147 y_148 y_149 y_150 y_151 y_152 y_153 y_154 y_155 y_156 y_157 y_158 y_159 y_160 y_161 y_162 y_163 y_164 y_165 y_166 y_167 y_168 y_169 y_170 y_171 y_172 y_173 y_174 y_175 y_176 y_177 y_178 y_179 y_180 y_181 y_182 y_183 y_184 y_185 y_186 y_187 y_188 y_189 y_190 y_191 y_192 y_193 y_194 y_195 y_196 y_197 y_198 y_199 y_200 y_201 y_202 y_203 y_204 y_205 y_206 y_207 y_208 y_209 y_210 y_211 y_212 y_213 y_214 y_215 y_216 y_217 y_218 y_219 y_220 y_221 y_222 y_223 y_224 y_225 y_226 y_227 y_228 y_229 y_230 y_231 y_232 y_233 y_234 y_235 y_236 y_237 y_238 y_239 y_240 y_241 y_242 y_243 y_244 y_245 y_246 y_247 y_248 y_249 y_250 y_251 y_252 y_253 y_254 y_255 y_256 y_257 y_258 y_259 y_260 y_261 y_262 y_263 y_264 y_265 y_266 y_267 y_268 y_269 y_270 y_271 y_272 y_273 y_274 y_275 y_276 y_277 y_278 y_279 y_280 y_281 y_282 y_283 y_284 y_285 y_286 y_287 y_288 y_289 y_290 y_291 y_292 y_293 y_294 y_295 y_296 y_297 y_298 y_299 y_300 y_301 y_302 y_303 y_304 kj10 HJ10 t360 t361 A44 Ao47 co47 HO334 HO339 HO344 HO349 w48 y_305 HO_10 y_306 y_307 y_308 y_309 y_310 y_311 y_312 y_313 y_314 y_315 y_316 y_317 y_318 y_319 y_320 y_321 y_322 y_323 y_324 y_325 y_326 y_327 y_328 y_329 y_330 y_331 y_332 y_333 y_334 y_335 y_336 y_337 y_338 y_339 y_340 y_341 y_342 y_343 y_344 y_345 y_346 y_347 y_348 y_349 y_350 y_351 y_352 y_353 y_354 y_355 y_356 y_357 y_358 y_359 y_360 y_361 y_362 y_363 y_364 y_365 y_366 y_367 y_368 y_369 y_370 y_371 y_372 y_373 y_374 y_375 y_376 y_377 y_378 y_379 y_380 y_381 y_382 y_383 y_384 y_385 y_386 y_387 y_388 y_389 y_390 y_391 y_392 y_393 y_394 y_395 y_396 y_397 y_398 y_399 y_400 y_401 y_402 y_403 y_404 y_405 y_406 y_407 y_408 y_409 y_410 y_411 y_412 y_413 y_414 y_415 y_416 y_417 y_418 y_419 y_420 y_421 y_422 y_423 y_424 y_425 y_426 y_427 y_428 y_429 y_430 y_431 y_432 y_433 y_434 y_435 y_436 y_437 y_438 y_439 y_440 y_441 y_442 y_443 y_444 y_445 y_446 y_447 y_448 y_449 y_450 y_451 y_452 y_453 y_454 y_455 y_456 y_457 y_458 y_459 y_460 y_461 y_462 y_463 y_464 y_465 y_466 y_467 y_468 y_469 y_470 y_471 y_472 y_473 y_474 y_475 y_476 y_477 y_478 y_479 y_480 y_481 y_482 y_483 y_484 y_485 y_486 y_487 y_488 y_489 y_490 y_491 y_492 y_493 y_494 y_495 y_496 y_497 y_498 y_499 y_500 y_501 y_502 y_503 y_504 y_505 y_506 y_507 y_508 y_509 y_510 y_511 y_512 y_513 y_514 y_515 y_516 y_517 y_518 y_519 y_520 y_521 y_522 y_523 y_524 y_525 y_526 y_527 y_528 y_529 y_530 y_531 y_532 y_533 y_534 y_535 y_536 y_537 y_538 y_539 y_540 y_541 y_542 y_543 y_544 y_545 y_546 y_547 y_548 y_549 y_550 y_551 y_552 y_553 y_554 y_555 y_556 y_557 y_558 y_559 y_560 y_561 y_562 y_563 y_564 y_565 y_566 y_567 y_568 y_569 y_570 y_571 y_572 y_573 y_574 y_575 y_576 y_577 y_578 y_579 y_580 y_581 y_582 y_583 y_584 y_585 y_586 y_587 y_588 y_589 y_590 y_591 y_592 y_593 y_594 y_595 y_596 y_597 y_598 y_599 y_600 y_601 y_602 y_603 y_604 y_605 y_606 y_607 y_608 y_609 HO_16 y_610 y_611 kj44 HJ44 y_612 y_613 u25 u26 u27 u28 u29 u30 u31 u32 u33 u34 y_614 y_615 y_616 y_617 y_618 y_619 y_620 y_621 y_622 y_623 y_624 y_625 y_626 y_627 y_628 y_629 y_630 y_631 y_632 y_633 y_634 y_635 y_636 y_637 y_638 y_639 y_640 y_641 y_642 y_643 y_644 y_645 y_646 y_647 y_648 y_649 y_650 y_651 y_652 y_653 y_654 y_655 y_656 y_657 y_658 y_659 y_660 y_661 y_662 y_663 y_664 y_665 y_666 y_667 y_668 y_669 y_670 y_671 y_672 y_673 y_674 y_675 y_676 y_677 y_678 y_679 y_680 y_681 y_682 y_683 y_684 y_685 y_686 y_687 y_688 y_689 y_690 y_691 y_692 y_693 y_694 y_695 y_696 y_697 y_698 y_699 y_700 y_701 y_702 y_703 y_704 y_705 y_706 y_707 y_708 y_709 y_710 y_711 y_712 y_713 y_714 y_715 y_716 y_717 y_718 y_719 y_720 y_721 y_722 y_723 y_724 y_725 y_726 y_727 y_728 y_729 y_730 y_731 y_732 y_733 y_734 y_735 y_736 y_737 y_738 y_739 y_740 y_741 y_742 y_743 y_744 y_745 y_746 y_747 y_748 y_749 y_750 y_751 y_752 y_753 y_754 y_755 y_756 y_757 y_758 y_759 y_760 y_761 y_762 y_763 y_764 y_765 y_766 y_767 y_768 y_769 y_770 y_771 y_772 y_773 y_774 y_775 y_776 y_777 y_778 y_779 y_780 y_781 y_782 y_783 y_784 y_785 y_786 y_787 y_788 y_789 y_790 y_791 y_792 y_793 y_794 y_795 y_796 y_797 y_798 y_799 y_800 y_801 y_802 y_803 y_804 y_805 y_806 y_807 y_808 y_809 y_810 y_811 y_812 y_813 y_814 y_815 y_816 y_817 y_818 y_819 y_820 y_821 y_822 y_823 y_824 y_825 y_826 y_827 y_828 y_829 y_830 y_831 y_832 y_833 y_834 y_835 y_836 y_837 y_838 y_839 y_840 y_841 y_842 y_843 y_844 y_845 y_846 y_847 y_848 y_849 y_850 y_851 y_852 y_853 y_854 y_855 y_856 y_857 y_858 y_859 y_860 y_861 y_862 y_863 y_864 y_865 y_866 y_867 y_868 y_869 u299 y_870 y_871 y_872 y_873 y_874 y_875 y_876 y_877 y_878 y_879 y_880 y_881 y_882 y_883 y_884 y_885 y_886 y_887 y_888 y_889 y_890 y_891 y_892 y_893 y_894 y_895 y_896 y_897 y_898 y_899 y_900 y_901 y_902 y_903 y_904 y_905 y_906 y_907 y_908 y_909 y_910 y_911 y_912 kj52 HJ52 y377 Ny377 t380 t381 A83 t382 t383 A84 w87 Ao89 co89 w90 w91 y_913 HO379 y_914 y_915 wc u43 u44 u45 u46 u47 u48 u49 u50 u51 u52 u53 u54 u55 u56 u57 u58 u59 u60 u61 u62 u63 u64 u65 u66 u67 u68 u69 u70 u71 u72 u73 u74 u75 u76 u77 u78 u79 u80 u81 u82 u83 u84 u85 u86 u87 u88 u89 u90 u91 u92 u93 u94 u95 u96 u97 u98 u99 u100 u101 u102 u103 u104 u105 u106 u107 u108 u109 u110 u111 u112 u113 u114 u115 u116 u117 u118 u119 u120 u121 u122 u123 u124 u125 u126 u127 u128 u129 u130 u131 u132 u133 u134 u135 u136 u137 u138 u139 u140 u141 u142 u143 u144 u145 u146 u147 u148 u149 u150 u151 u152 u153 u154 u155 u156 u157 u158 u159 u160 u161 u162 u163 u164 u165 u166 u167 u168 u169 u170 u171 u172 u173 u174 u175 u176 u177 u178 u179 u180 u181 u182 u183 u184 u185 u186 u187 u188 u189 u190 u191 u192 u193 u194 u195 u196 u197 u198 u199 u200 u201 u202 u203 u204 u205 u206 u207 u208 u209 u210 u211 u212 u213 u214 u215 u216 u217 u218 u219 u220 u221 u222 u223 u224 u225 u226 u227 u228 u229 u230 u231 u232 u233 u234 u235 u236 u237 u238 u239 u240 u241 u242 u243 u244 u245 u246 u247 u248 u249 u250 u251 u252 u253 u254 u255 u256 u257 u258 u259 u260 u261 u262 u263 u264 u265 u266 u267 u268 u269 u270 u271 u272 u273 u274 u275 u276 u277 u278 u279 u280 u281 u282 u283 u284 u285 u286 u287 u288 u289 u290 u291 u292 u293 u294 u295 u296 u297 u298 y_916 y_917 y_918 y_919 y_920 y_921 y_922 y_923 y_924 y_925 y_926 y_927 y_928 y_929 y_930 y_931 y_932 y_933 y_934 y_935 y_936 y_937 y_938 y_939 y_940 y_941 y_942 y_943 y_944 y_945 y_946 y_947 y_948 y_949 y_950 y_951 y_952 y_953 y_954 y_955 y_956 y_957 y_958 y_959 y_960 y_961 y_962 kj84 HJ84 y_963 y_964 wr u4 u41 u42 u300 u301 u302 u303 u304 u305 u306 u307 u308 u309 u310 u311 u312 u313 u314 u315 u316 u317 u318 u319 u320 u321 u322 u323 u324 u325 u326 u327 u328 u329 u330 u331 u332 u333 u334 u335 u336 u337 u338 u339 u340 u341 u342 y_965 y_966 y_967 x40_5 HO_5 HO_35 BK331 HB k5 y_968 HA HK5
       exact hole1 ()
  ⟩
set_option maxHeartbeats 8000000 in
set_option maxRecDepth 100000 in
theorem laws_FnLines.calls_all_kj10_kj44_kj52_kj84_k5 : laws_FnLines.calls_all_kj10_kj44_kj52_kj84_p.1 := by
  intro k A0 c0 l0 A1 c1 l1 r w hu28 hu38 HR0 HC0 HR1 HC1 A3 t326 A5 t329 t330 A6 t332 t335 t336 A7 t337 t340 t341 A8 t342 t345 t346 A9 t347 t350 t351 A10 _ nd _ w12 w13 gb331 w14 GW331 GE331 Ao16 co16 w17 v333 w19 w21 v343 w23 v348 HO328 _ _ _ _ _ _ _ _ _ _ _ _ _ _ _ _ _ _ _ _ _ _ _ _ _ _ _ _ _ _ _ _ _ _ _ _ _ _ _ _ _ _ _ _ _ _ _ _ _ _ _ _ _ _ _ _ _ _ _ _ _ _ _ _ _ _ _ _ _ _ _ _ _ _ _ _ _ _ _ _ _ _ _ _ _ _ _ _ _ _ _ _ _ _ _ _ _ _ _ _ _ _ _ _ _ _ _ _ _ _ _ _ _ _ _ _ _ _ _ _ _ _ _ _ _ _ _ _ _ _ _ _ _ _ _ _ _ _ _ _ _ _ _ _ _ _ _ _ _ _ _ _ _ _ _ _ _ _ _ _ _ _ _ _ _ _ _ _ _ _ _ _ _ _ _ _ _ _ _ _ _ _ _ _ _ _ _ _ _ _ _ _ _ _ _ _ _ _ _ _ _ _ _ _ _ _ _ _ _ _ _ _ _ _ _ _ _ _ _ _ _ _ _ _ _ _ _ _ _ _ _ _ _ _ _ _ _ _ _ _ _ _ _ _ _ _ _ _ _ _ _ _ _ _ _ _ _ _ _ _ _ _ _ _ _ _ _ _ _ _ _ _ _ _ _ _ _ _ _ _ _ _ _ _ _ _ _ _ _ _ _ _ _ _ _ _ _ _ _ _ _ _ kj10 HJ10 t360 t361 A44 Ao47 co47 HO334 HO339 HO344 HO349 w48 _ HO_10 _ _ _ _ _ _ _ _ _ _ _ _ _ _ _ _ _ _ _ _ _ _ _ _ _ _ _ _ _ _ _ _ _ _ _ _ _ _ _ _ _ _ _ _ _ _ _ _ _ _ _ _ _ _ _ _ _ _ _ _ _ _ _ _ _ _ _ _ _ _ _ _ _ _ _ _ _ _ _ _ _ _ _ _ _ _ _ _ _ _ _ _ _ _ _ _ _ _ _ _ _ _ _ _ _ _ _ _ _ _ _ _ _ _ _ _ _ _ _ _ _ _ _ _ _ _ _ _ _ _ _ _ _ _ _ _ _ _ _ _ _ _ _ _ _ _ _ _ _ _ _ _ _ _ _ _ _ _ _ _ _ _ _ _ _ _ _ _ _ _ _ _ _ _ _ _ _ _ _ _ _ _ _ _ _ _ _ _ _ _ _ _ _ _ _ _ _ _ _ _ _ _ _ _ _ _ _ _ _ _ _ _ _ _ _ _ _ _ _ _ _ _ _ _ _ _ _ _ _ _ _ _ _ _ _ _ _ _ _ _ _ _ _ _ _ _ _ _ _ _ _ _ _ _ _ _ _ _ _ _ _ _ _ _ _ _ _ _ _ _ _ _ _ _ _ _ _ _ _ _ _ _ _ _ _ _ _ _ _ _ _ _ _ _ _ _ _ _ _ _ _ _ _ _ HO_16 _ _ kj44 HJ44 _ _ u25 u26 u27 u28 u29 u30 u31 u32 u33 u34 _ _ _ _ _ _ _ _ _ _ _ _ _ _ _ _ _ _ _ _ _ _ _ _ _ _ _ _ _ _ _ _ _ _ _ _ _ _ _ _ _ _ _ _ _ _ _ _ _ _ _ _ _ _ _ _ _ _ _ _ _ _ _ _ _ _ _ _ _ _ _ _ _ _ _ _ _ _ _ _ _ _ _ _ _ _ _ _ _ _ _ _ _ _ _ _ _ _ _ _ _ _ _ _ _ _ _ _ _ _ _ _ _ _ _ _ _ _ _ _ _ _ _ _ _ _ _ _ _ _ _ _ _ _ _ _ _ _ _ _ _ _ _ _ _ _ _ _ _ _ _ _ _ _ _ _ _ _ _ _ _ _ _ _ _ _ _ _ _ _ _ _ _ _ _ _ _ _ _ _ _ _ _ _ _ _ _ _ _ _ _ _ _ _ _ _ _ _ _ _ _ _ _ _ _ _ _ _ _ _ _ _ _ _ _ _ _ _ _ _ _ _ _ _ _ _ _ _ _ _ _ _ _ _ _ _ _ _ _ _ _ _ _ _ _ _ _ _ _ _ _ _ _ _ _ _ u299 _ _ _ _ _ _ _ _ _ _ _ _ _ _ _ _ _ _ _ _ _ _ _ _ _ _ _ _ _ _ _ _ _ _ _ _ _ _ _ _ _ _ _ kj52 HJ52 y377 Ny377 t380 t381 A83 t382 t383 A84 w87 Ao89 co89 w90 w91 _ HO379 _ _ wc u43 u44 u45 u46 u47 u48 u49 u50 u51 u52 u53 u54 u55 u56 u57 u58 u59 u60 u61 u62 u63 u64 u65 u66 u67 u68 u69 u70 u71 u72 u73 u74 u75 u76 u77 u78 u79 u80 u81 u82 u83 u84 u85 u86 u87 u88 u89 u90 u91 u92 u93 u94 u95 u96 u97 u98 u99 u100 u101 u102 u103 u104 u105 u106 u107 u108 u109 u110 u111 u112 u113 u114 u115 u116 u117 u118 u119 u120 u121 u122 u123 u124 u125 u126 u127 u128 u129 u130 u131 u132 u133 u134 u135 u136 u137 u138 u139 u140 u141 u142 u143 u144 u145 u146 u147 u148 u149 u150 u151 u152 u153 u154 u155 u156 u157 u158 u159 u160 u161 u162 u163 u164 u165 u166 u167 u168 u169 u170 u171 u172 u173 u174 u175 u176 u177 u178 u179 u180 u181 u182 u183 u184 u185 u186 u187 u188 u189 u190 u191 u192 u193 u194 u195 u196 u197 u198 u199 u200 u201 u202 u203 u204 u205 u206 u207 u208 u209 u210 u211 u212 u213 u214 u215 u216 u217 u218 u219 u220 u221 u222 u223 u224 u225 u226 u227 u228 u229 u230 u231 u232 u233 u234 u235 u236 u237 u238 u239 u240 u241 u242 u243 u244 u245 u246 u247 u248 u249 u250 u251 u252 u253 u254 u255 u256 u257 u258 u259 u260 u261 u262 u263 u264 u265 u266 u267 u268 u269 u270 u271 u272 u273 u274 u275 u276 u277 u278 u279 u280 u281 u282 u283 u284 u285 u286 u287 u288 u289 u290 u291 u292 u293 u294 u295 u296 u297 u298 _ _ _ _ _ _ _ _ _ _ _ _ _ _ _ _ _ _ _ _ _ _ _ _ _ _ _ _ _ _ _ _ _ _ _ _ _ _ _ _ _ _ _ _ _ _ _ kj84 HJ84 _ _ wr u4 u41 u42 u300 u301 u302 u303 u304 u305 u306 u307 u308 u309 u310 u311 u312 u313 u314 u315 u316 u317 u318 u319 u320 u321 u322 u323 u324 u325 u326 u327 u328 u329 u330 u331 u332 u333 u334 u335 u336 u337 u338 u339 u340 u341 u342 _ _ _ x40_5 HO_5 HO_35 BK331 HB k5 _ HA HK5
  have H := HA.out
  clear HA
  simp only [laws_FnLines.l2] at H
  by_cases c96 : x40_5 < 3
  ·rw [if_pos c96] at H
   have c96b0 : decide (x40_5 < 3) = true := decide_eq_true c96
   clear c96
   by_cases c97 : 0 ≤ x40_5
   ·rw [if_pos c97] at H
    have c97b0 : decide (0 ≤ x40_5) = true := decide_eq_true c97
    clear c97
    by_cases c98 : x40_5 < (y377.length : Int)
    ·rw [if_pos c98] at H
     have c98b0 : decide (x40_5 < (y377.length : Int)) = true := decide_eq_true c98
     clear c98
     replace H := Option.bind_eq_some_iff.mp H
     obtain ⟨⟨t385, t386⟩, A990, H⟩ := H
     replace H : (if t386 = 0 then (if t381 = 0 then (if x40_5 < t382 then (if t385 = true then (none) else (if x40_5 = t382 then (none) else (laws_FnLines.l2 k5 t326 y377 t381 t382 (wrap64 (x40_5 + 1))))) else (if x40_5 = t382 then (if t385 = true then (laws_FnLines.l2 k5 t326 y377 t381 t382 (wrap64 (x40_5 + 1))) else (none)) else (laws_FnLines.l2 k5 t326 y377 t381 t382 (wrap64 (x40_5 + 1))))) else (if t385 = true then (none) else (laws_FnLines.l2 k5 t326 y377 t381 t382 (wrap64 (x40_5 + 1))))) else (none)) = some r := H
     have A99 := Aside0.mk A990
     clear A990
     by_cases c100 : t386 = 0
     ·rw [if_pos c100] at H
      have c100b0 : (t386 == 0) = true := beq_iff_eq.mpr c100
      have c100b1 : (t386 != 0) = false := bne_eq_false_iff_eq.mpr c100
      clear c100
      by_cases c101 : t381 = 0
      ·rw [if_pos c101] at H
       have c101b0 : (t381 == 0) = true := beq_iff_eq.mpr c101
       have c101b1 : (t381 != 0) = false := bne_eq_false_iff_eq.mpr c101
       clear c101
       by_cases c102 : x40_5 < t382
       ·rw [if_pos c102] at H
        have c102b0 : decide (x40_5 < t382) = true := decide_eq_true c102
        clear c102
        by_cases c103 : t385 = true
        ·subst c103
         have H1 : (none) = some r := by rw [if_pos rfl] at H; exact H
         clear H
         have H := H1
         clear H1
         exact absurd H (by simp)
        ·replace c103 := Bool.eq_false_iff.mpr c103
         subst c103
         have H1 : (if x40_5 = t382 then (none) else (laws_FnLines.l2 k5 t326 y377 t381 t382 (wrap64 (x40_5 + 1)))) = some r := by rw [if_neg (show ¬ (false = true) by decide)] at H; exact H
         clear H
         have H := H1
         clear H1
         by_cases c104 : x40_5 = t382
         ·rw [if_pos c104] at H
          exact absurd H (by simp)
         ·rw [if_neg c104] at H
          have c104b0 : (x40_5 == t382) = false := beq_eq_false_iff_ne.mpr c104
          have c104b1 : (x40_5 != t382) = true := bne_iff_ne.mpr c104
          have H' := Aside0.mk H
          clear H
          have p384 : 0 ≤ (x40_5 : Int) := of_decide_eq_true (by first | (with_reducible assumption) | assumption)
          have q384 : x40_5 < (y377.length : Int) := of_decide_eq_true (by first | (with_reducible assumption) | assumption)
          obtain ⟨ad384, e384, hx384_0, hx384_1⟩ := at_T28 (Kd.R_reads' HO_35.out).2.2 x40_5 p384 q384
          cases e384
          replace p384 := eq_true p384
          replace q384 := eq_true q384
          go_wp2_with (first | ((with_reducible refine gate_callee (f := 28) rfl ?_); refine goesL_ (some 310) rfl rfl Try.func28 (by kernel_rfl) rfl #[.agg #[.int .i16 ((rd_T28 y377 x40_5).f0), .int .i16 ((rd_T28 y377 x40_5).f1)], .slice Ao16 t326.length co16] rfl (by (try simp only [List.map_toArray, List.map_cons, List.map_nil]); first | done | rfl | (simp only [List.length_drop, List.length_take]; rfl)) ?_; (with_reducible refine (impl_FitsLine.calls k5 ((rd_T28 y377 x40_5).f0) ((rd_T28 y377 x40_5).f1) _ _ t326 false t386 _ ?side1 ?side2 A99.out).mono ?_); (case side1 => repeat (first | exact (Kd.R_reads' HO_5.out).2.2 | (with_reducible refine Kd.C_alloc ?_ _) | (with_reducible refine Kd.C_drewN ?_ _) | (with_reducible refine Kd.C_drew ?_))); (case side2 => exact (Kd.R_reads' HO_5.out).2.1); rintro e w105 ⟨rfl, hb⟩; refine ⟨_, rfl, ?_⟩; have n0_ := Aside0.mk (Kd.R_below (by (with_reducible repeat (first | apply Kd.R_alloc | apply Kd.R_drewN | apply Kd.R_drew)); exact HO_5.out) hb); have n1_ := Aside0.mk (Kd.R_below (by (with_reducible repeat (first | apply Kd.R_alloc | apply Kd.R_drewN | apply Kd.R_drew)); exact HO_35.out) hb); have n2_ := Aside0.mk (blk_below (g := gb331) (o := .cells #[.int .i16 t329, .int .i16 t330] 28 (0, 0)) (by (with_reducible repeat (first | refine blk_drewN ?_ _ | refine blk_drew ?_ | refine blk_alloc ?_ _)); exact BK331.out) hb); have n3_ := Aside0.mk (below_step (by repeat (first | (with_reducible first | exact HB.out | apply below_alloc | apply pw_below_drewN | apply below_drew1 | refine below_set ?_ GE331.out) | exact HB.out)) hb); clear HO_5; clear HO_35; clear BK331; clear HB; have HO_5 := n0_; have HO_35 := n1_; have BK331 := n2_; have HB := n3_; clear n0_ n1_ n2_ n3_; (try clear hb); (try clear hb2); (try clear hk); (try clear hi)))
          go_roundg k5
          case measure => have := HJ10.out; have := HJ44.out; have := HJ52.out; have := HJ84.out; have := HK5.out; omega
          case rel => exact ⟨(wrap64 (x40_5 + 1)), (by first | rfl | (simp; done) | (simp [*]; done)), H', ⟨by have := HJ10.out; have := HJ44.out; have := HJ52.out; have := HJ84.out; have := HK5.out; omega⟩, ⟨by (with_reducible repeat (first | apply Kd.R_alloc | apply Kd.R_drewN | apply Kd.R_drew)); exact HO_5.out⟩, ⟨by (with_reducible repeat (first | apply Kd.R_alloc | apply Kd.R_drewN | apply Kd.R_drew)); exact HO_35.out⟩, ⟨by (with_reducible repeat (first | refine blk_drewN ?_ _ | refine blk_drew ?_ | refine blk_alloc ?_ _)); exact BK331.out⟩, ⟨by repeat (first | (with_reducible first | exact HB.out | apply below_alloc | apply pw_below_drewN | apply below_drew1 | refine below_set ?_ GE331.out) | exact HB.out)⟩⟩
       ·rw [if_neg c102] at H
        have c102b0 : decide (x40_5 < t382) = false := decide_eq_false c102
        clear c102
        by_cases c106 : x40_5 = t382
        ·rw [if_pos c106] at H
         have c106b0 : (x40_5 == t382) = true := beq_iff_eq.mpr c106
         have c106b1 : (x40_5 != t382) = false := bne_eq_false_iff_eq.mpr c106
         clear c106
         by_cases c107 : t385 = true
         ·subst c107
          have H1 : (laws_FnLines.l2 k5 t326 y377 t381 t382 (wrap64 (x40_5 + 1))) = some r := by rw [if_pos rfl] at H; exact H
          clear H
          have H := H1
          clear H1
          have H' := Aside0.mk H
          clear H
          have p384 : 0 ≤ (x40_5 : Int) := of_decide_eq_true (by first | (with_reducible assumption) | assumption)
          have q384 : x40_5 < (y377.length : Int) := of_decide_eq_true (by first | (with_reducible assumption) | assumption)
          obtain ⟨ad384, e384, hx384_0, hx384_1⟩ := at_T28 (Kd.R_reads' HO_35.out).2.2 x40_5 p384 q384
          cases e384
          replace p384 := eq_true p384
          replace q384 := eq_true q384
          go_wp2_with (first | ((with_reducible refine gate_callee (f := 28) rfl ?_); refine goesL_ (some 310) rfl rfl Try.func28 (by kernel_rfl) rfl #[.agg #[.int .i16 ((rd_T28 y377 x40_5).f0), .int .i16 ((rd_T28 y377 x40_5).f1)], .slice Ao16 t326.length co16] rfl (by (try simp only [List.map_toArray, List.map_cons, List.map_nil]); first | done | rfl | (simp only [List.length_drop, List.length_take]; rfl)) ?_; (with_reducible refine (impl_FitsLine.calls k5 ((rd_T28 y377 x40_5).f0) ((rd_T28 y377 x40_5).f1) _ _ t326 true t386 _ ?side1 ?side2 A99.out).mono ?_); (case side1 => repeat (first | exact (Kd.R_reads' HO_5.out).2.2 | (with_reducible refine Kd.C_alloc ?_ _) | (with_reducible refine Kd.C_drewN ?_ _) | (with_reducible refine Kd.C_drew ?_))); (case side2 => exact (Kd.R_reads' HO_5.out).2.1); rintro e w108 ⟨rfl, hb⟩; refine ⟨_, rfl, ?_⟩; have n0_ := Aside0.mk (Kd.R_below (by (with_reducible repeat (first | apply Kd.R_alloc | apply Kd.R_drewN | apply Kd.R_drew)); exact HO_5.out) hb); have n1_ := Aside0.mk (Kd.R_below (by (with_reducible repeat (first | apply Kd.R_alloc | apply Kd.R_drewN | apply Kd.R_drew)); exact HO_35.out) hb); have n2_ := Aside0.mk (blk_below (g := gb331) (o := .cells #[.int .i16 t329, .int .i16 t330] 28 (0, 0)) (by (with_reducible repeat (first | refine blk_drewN ?_ _ | refine blk_drew ?_ | refine blk_alloc ?_ _)); exact BK331.out) hb); have n3_ := Aside0.mk (below_step (by repeat (first | (with_reducible first | exact HB.out | apply below_alloc | apply pw_below_drewN | apply below_drew1 | refine below_set ?_ GE331.out) | exact HB.out)) hb); clear HO_5; clear HO_35; clear BK331; clear HB; have HO_5 := n0_; have HO_35 := n1_; have BK331 := n2_; have HB := n3_; clear n0_ n1_ n2_ n3_; (try clear hb); (try clear hb2); (try clear hk); (try clear hi)))
          go_roundg k5
          case measure => have := HJ10.out; have := HJ44.out; have := HJ52.out; have := HJ84.out; have := HK5.out; omega
          case rel => exact ⟨(wrap64 (x40_5 + 1)), (by first | rfl | (simp; done) | (simp [*]; done)), H', ⟨by have := HJ10.out; have := HJ44.out; have := HJ52.out; have := HJ84.out; have := HK5.out; omega⟩, ⟨by (with_reducible repeat (first | apply Kd.R_alloc | apply Kd.R_drewN | apply Kd.R_drew)); exact HO_5.out⟩, ⟨by (with_reducible repeat (first | apply Kd.R_alloc | apply Kd.R_drewN | apply Kd.R_drew)); exact HO_35.out⟩, ⟨by (with_reducible repeat (first | refine blk_drewN ?_ _ | refine blk_drew ?_ | refine blk_alloc ?_ _)); exact BK331.out⟩, ⟨by repeat (first | (with_reducible first | exact HB.out | apply below_alloc | apply pw_below_drewN | apply below_drew1 | refine below_set ?_ GE331.out) | exact HB.out)⟩⟩
         ·replace c107 := Bool.eq_false_iff.mpr c107
          subst c107
          have H1 : (none) = some r := by rw [if_neg (show ¬ (false = true) by decide)] at H; exact H
          clear H
          have H := H1
          clear H1
          exact absurd H (by simp)
        ·rw [if_neg c106] at H
         have c106b0 : (x40_5 == t382) = false := beq_eq_false_iff_ne.mpr c106
         have c106b1 : (x40_5 != t382) = true := bne_iff_ne.mpr c106
         have H' := Aside0.mk H
         clear H
         have p384 : 0 ≤ (x40_5 : Int) := of_decide_eq_true (by first | (with_reducible assumption) | assumption)
         have q384 : x40_5 < (y377.length : Int) := of_decide_eq_true (by first | (with_reducible assumption) | assumption)
         obtain ⟨ad384, e384, hx384_0, hx384_1⟩ := at_T28 (Kd.R_reads' HO_35.out).2.2 x40_5 p384 q384
         cases e384
         replace p384 := eq_true p384
         replace q384 := eq_true q384
         go_wp2_with (first | ((with_reducible refine gate_callee (f := 28) rfl ?_); refine goesL_ (some 310) rfl rfl Try.func28 (by kernel_rfl) rfl #[.agg #[.int .i16 ((rd_T28 y377 x40_5).f0), .int .i16 ((rd_T28 y377 x40_5).f1)], .slice Ao16 t326.length co16] rfl (by (try simp only [List.map_toArray, List.map_cons, List.map_nil]); first | done | rfl | (simp only [List.length_drop, List.length_take]; rfl)) ?_; (with_reducible refine (impl_FitsLine.calls k5 ((rd_T28 y377 x40_5).f0) ((rd_T28 y377 x40_5).f1) _ _ t326 t385 t386 _ ?side1 ?side2 A99.out).mono ?_); (case side1 => repeat (first | exact (Kd.R_reads' HO_5.out).2.2 | (with_reducible refine Kd.C_alloc ?_ _) | (with_reducible refine Kd.C_drewN ?_ _) | (with_reducible refine Kd.C_drew ?_))); (case side2 => exact (Kd.R_reads' HO_5.out).2.1); rintro e w109 ⟨rfl, hb⟩; refine ⟨_, rfl, ?_⟩; have n0_ := Aside0.mk (Kd.R_below (by (with_reducible repeat (first | apply Kd.R_alloc | apply Kd.R_drewN | apply Kd.R_drew)); exact HO_5.out) hb); have n1_ := Aside0.mk (Kd.R_below (by (with_reducible repeat (first | apply Kd.R_alloc | apply Kd.R_drewN | apply Kd.R_drew)); exact HO_35.out) hb); have n2_ := Aside0.mk (blk_below (g := gb331) (o := .cells #[.int .i16 t329, .int .i16 t330] 28 (0, 0)) (by (with_reducible repeat (first | refine blk_drewN ?_ _ | refine blk_drew ?_ | refine blk_alloc ?_ _)); exact BK331.out) hb); have n3_ := Aside0.mk (below_step (by repeat (first | (with_reducible first | exact HB.out | apply below_alloc | apply pw_below_drewN | apply below_drew1 | refine below_set ?_ GE331.out) | exact HB.out)) hb); clear HO_5; clear HO_35; clear BK331; clear HB; have HO_5 := n0_; have HO_35 := n1_; have BK331 := n2_; have HB := n3_; clear n0_ n1_ n2_ n3_; (try clear hb); (try clear hb2); (try clear hk); (try clear hi)))
         go_roundg k5
         case measure => have := HJ10.out; have := HJ44.out; have := HJ52.out; have := HJ84.out; have := HK5.out; omega
         case rel => exact ⟨(wrap64 (x40_5 + 1)), (by first | rfl | (simp; done) | (simp [*]; done)), H', ⟨by have := HJ10.out; have := HJ44.out; have := HJ52.out; have := HJ84.out; have := HK5.out; omega⟩, ⟨by (with_reducible repeat (first | apply Kd.R_alloc | apply Kd.R_drewN | apply Kd.R_drew)); exact HO_5.out⟩, ⟨by (with_reducible repeat (first | apply Kd.R_alloc | apply Kd.R_drewN | apply Kd.R_drew)); exact HO_35.out⟩, ⟨by (with_reducible repeat (first | refine blk_drewN ?_ _ | refine blk_drew ?_ | refine blk_alloc ?_ _)); exact BK331.out⟩, ⟨by repeat (first | (with_reducible first | exact HB.out | apply below_alloc | apply pw_below_drewN | apply below_drew1 | refine below_set ?_ GE331.out) | exact HB.out)⟩⟩
      ·rw [if_neg c101] at H
       have c101b0 : (t381 == 0) = false := beq_eq_false_iff_ne.mpr c101
       have c101b1 : (t381 != 0) = true := bne_iff_ne.mpr c101
       by_cases c110 : t385 = true
       ·subst c110
        have H1 : (none) = some r := by rw [if_pos rfl] at H; exact H
        clear H
        have H := H1
        clear H1
        exact absurd H (by simp)
       ·replace c110 := Bool.eq_false_iff.mpr c110
        subst c110
        have H1 : (laws_FnLines.l2 k5 t326 y377 t381 t382 (wrap64 (x40_5 + 1))) = some r := by rw [if_neg (show ¬ (false = true) by decide)] at H; exact H
        clear H
        have H := H1
        clear H1
        have H' := Aside0.mk H
        clear H
        have p384 : 0 ≤ (x40_5 : Int) := of_decide_eq_true (by first | (with_reducible assumption) | assumption)
        have q384 : x40_5 < (y377.length : Int) := of_decide_eq_true (by first | (with_reducible assumption) | assumption)
        obtain ⟨ad384, e384, hx384_0, hx384_1⟩ := at_T28 (Kd.R_reads' HO_35.out).2.2 x40_5 p384 q384
        cases e384
        replace p384 := eq_true p384
        replace q384 := eq_true q384
        go_wp2_with (first | ((with_reducible refine gate_callee (f := 28) rfl ?_); refine goesL_ (some 310) rfl rfl Try.func28 (by kernel_rfl) rfl #[.agg #[.int .i16 ((rd_T28 y377 x40_5).f0), .int .i16 ((rd_T28 y377 x40_5).f1)], .slice Ao16 t326.length co16] rfl (by (try simp only [List.map_toArray, List.map_cons, List.map_nil]); first | done | rfl | (simp only [List.length_drop, List.length_take]; rfl)) ?_; (with_reducible refine (impl_FitsLine.calls k5 ((rd_T28 y377 x40_5).f0) ((rd_T28 y377 x40_5).f1) _ _ t326 false t386 _ ?side1 ?side2 A99.out).mono ?_); (case side1 => repeat (first | exact (Kd.R_reads' HO_5.out).2.2 | (with_reducible refine Kd.C_alloc ?_ _) | (with_reducible refine Kd.C_drewN ?_ _) | (with_reducible refine Kd.C_drew ?_))); (case side2 => exact (Kd.R_reads' HO_5.out).2.1); rintro e w111 ⟨rfl, hb⟩; refine ⟨_, rfl, ?_⟩; have n0_ := Aside0.mk (Kd.R_below (by (with_reducible repeat (first | apply Kd.R_alloc | apply Kd.R_drewN | apply Kd.R_drew)); exact HO_5.out) hb); have n1_ := Aside0.mk (Kd.R_below (by (with_reducible repeat (first | apply Kd.R_alloc | apply Kd.R_drewN | apply Kd.R_drew)); exact HO_35.out) hb); have n2_ := Aside0.mk (blk_below (g := gb331) (o := .cells #[.int .i16 t329, .int .i16 t330] 28 (0, 0)) (by (with_reducible repeat (first | refine blk_drewN ?_ _ | refine blk_drew ?_ | refine blk_alloc ?_ _)); exact BK331.out) hb); have n3_ := Aside0.mk (below_step (by repeat (first | (with_reducible first | exact HB.out | apply below_alloc | apply pw_below_drewN | apply below_drew1 | refine below_set ?_ GE331.out) | exact HB.out)) hb); clear HO_5; clear HO_35; clear BK331; clear HB; have HO_5 := n0_; have HO_35 := n1_; have BK331 := n2_; have HB := n3_; clear n0_ n1_ n2_ n3_; (try clear hb); (try clear hb2); (try clear hk); (try clear hi)))
        go_roundg k5
        case measure => have := HJ10.out; have := HJ44.out; have := HJ52.out; have := HJ84.out; have := HK5.out; omega
        case rel => exact ⟨(wrap64 (x40_5 + 1)), (by first | rfl | (simp; done) | (simp [*]; done)), H', ⟨by have := HJ10.out; have := HJ44.out; have := HJ52.out; have := HJ84.out; have := HK5.out; omega⟩, ⟨by (with_reducible repeat (first | apply Kd.R_alloc | apply Kd.R_drewN | apply Kd.R_drew)); exact HO_5.out⟩, ⟨by (with_reducible repeat (first | apply Kd.R_alloc | apply Kd.R_drewN | apply Kd.R_drew)); exact HO_35.out⟩, ⟨by (with_reducible repeat (first | refine blk_drewN ?_ _ | refine blk_drew ?_ | refine blk_alloc ?_ _)); exact BK331.out⟩, ⟨by repeat (first | (with_reducible first | exact HB.out | apply below_alloc | apply pw_below_drewN | apply below_drew1 | refine below_set ?_ GE331.out) | exact HB.out)⟩⟩
     ·rw [if_neg c100] at H
      exact absurd H (by simp)
    ·rw [if_neg c98] at H
     exact absurd H (by simp)
   ·rw [if_neg c97] at H
    exact absurd H (by simp)
  ·rw [if_neg c96] at H
   have c96b0 : decide (x40_5 < 3) = false := decide_eq_false c96
   clear c96
   obtain rfl := Option.some.inj H
   go_wp2
   go_ret
   exact ⟨by first | rfl | (simp [errW_none, errW_some] <;> rfl) | (simp [*, errW_none, errW_some] <;> rfl), by repeat (first | (with_reducible first | exact HB.out | apply below_alloc | apply pw_below_drewN | apply below_drew1 | refine below_set ?_ GE331.out) | exact HB.out)⟩
theorem laws_FnLines.calls_all_kj10_kj44_kj52_kj84 : laws_FnLines.calls_all_kj10_kj44_kj52_p.1 := laws_FnLines.calls_all_kj10_kj44_kj52_kj84_p.2 (fun _ => laws_FnLines.calls_all_kj10_kj44_kj52_kj84_k5)
theorem laws_FnLines.calls_all_kj10_kj44_kj52 : laws_FnLines.calls_all_kj10_kj44_p.1.2 := laws_FnLines.calls_all_kj10_kj44_kj52_p.2 (fun _ => laws_FnLines.calls_all_kj10_kj44_kj52_kj84)
theorem laws_FnLines.calls_all_kj10_kj44 : laws_FnLines.calls_all_kj10_p.1.1 := laws_FnLines.calls_all_kj10_kj44_p.2 (fun _ => laws_FnLines.calls_all_kj10_kj44_k3) (fun _ => laws_FnLines.calls_all_kj10_kj44_kj52)
set_option maxHeartbeats 8000000 in
set_option maxRecDepth 100000 in
theorem laws_FnLines.calls_all_kj10_k2 : laws_FnLines.calls_all_kj10_p.1.2 := by
  intro k A0 c0 l0 A1 c1 l1 r w hu28 hu38 HR0 HC0 HR1 HC1 A3 t326 A5 t329 t330 A6 t332 t335 t336 A7 t337 t340 t341 A8 t342 t345 t346 A9 t347 t350 t351 A10 _ nd _ w12 w13 gb331 w14 GW331 GE331 Ao16 co16 w17 v333 w19 v338 w21 v343 w23 v348 HO328 HO334 HO339 HO344 HO349 _ _ wc u43 u44 u45 u46 u47 u48 u49 u50 u51 u52 u53 u54 u55 u56 u57 u58 u59 u60 u61 u62 u63 u64 u65 u66 u67 u68 u69 u70 u71 u72 u73 u74 u75 u76 u77 u78 u79 u80 u81 u82 u83 u84 u85 u86 u87 u88 u89 u90 u91 u92 u93 u94 u95 u96 u97 u98 u99 u100 u101 u102 u103 u104 u105 u106 u107 u108 u109 u110 u111 u112 u113 u114 u115 u116 u117 u118 u119 u120 u121 u123 u124 _ _ _ _ _ _ _ _ _ _ _ _ _ _ _ _ _ _ _ _ _ _ _ u148 u149 u150 u151 u152 u153 u154 u155 u156 u157 u158 u159 u160 u161 u162 u163 u164 u165 u166 u167 u168 u169 u170 u171 u172 u173 u174 u175 u176 u177 u178 u179 u180 u181 u182 u183 u184 u185 u186 u187 u188 u189 u190 u191 u192 u193 u194 u195 u196 u197 u198 u199 u200 u201 u202 u203 u204 u205 u206 u207 u208 u209 u210 u211 u212 u213 u214 u215 u216 u217 u218 u219 u220 u221 u222 u223 u224 u225 u226 u227 u228 u229 u230 u231 u232 u233 u234 u235 u236 u237 u238 u239 u240 u241 u242 u243 u244 u245 u246 u247 u248 u249 u250 u251 u252 u253 u254 u255 u256 u257 u258 u259 u260 u261 u262 u263 u264 u265 u266 u267 u268 u269 u270 u271 u272 u273 u274 u275 u276 u277 u278 u279 u280 u281 u282 u283 u284 u285 u286 u287 u288 u289 u290 u291 u292 u293 u294 u295 u296 u297 u298 u299 u300 u301 u302 u303 u304 u305 u306 u307 u308 u309 u310 u311 u312 u313 u314 u315 u316 u317 u318 u319 u320 u321 u322 u323 u324 u325 u326 u327 u328 u329 u330 u331 u332 u333 u334 u335 u336 u337 u338 u339 u340 u341 u342 _ HO_10 HO_16 _ _ kj10 HJ10 _ _ _ _ wr u4 u21 u22 u125 u126 u127 u128 u129 u130 u131 u132 u133 u134 u135 u136 u137 u138 u139 u140 u141 u142 u143 u144 u145 u146 u147 _ _ _ x19_2 x20_2 HO_5 BK331 HB k2 _ HA HK2
  have H := HA.out
  clear HA
  simp only [laws_FnLines.l0] at H
  by_cases c112 : x20_2 < (t326.length : Int)
  ·rw [if_pos c112] at H
   have c112b0 : decide (x20_2 < (t326.length : Int)) = true := decide_eq_true c112
   clear c112
   by_cases c113 : 0 ≤ x20_2
   ·rw [if_pos c113] at H
    have c113b0 : decide (0 ≤ x20_2) = true := decide_eq_true c113
    clear c113
    obtain ⟨y355, hy355⟩ : ∃ y_ : List (S38), y_ = (([(⟨(rd_T38 t326 x20_2).f0, (rd_T38 t326 x20_2).f1⟩ : S38)] : List (S38))) := ⟨_, rfl⟩
    replace H : ((impl_FitsLine.f k2 t329 t330 y355).bind fun bt358 => (if bt358.2 = 0 then (if x19_2 = true then (laws_FnLines.l0 k2 t326 true (wrap64 (x20_2 + 1)) t329 t330) else (laws_FnLines.l0 k2 t326 (!bt358.1) (wrap64 (x20_2 + 1)) t329 t330)) else (none))) = some r := by first | (rw [hy355]; with_reducible exact H) | (have H2_ := (Option.bind_some _ _).symm.trans H; rw [hy355]; with_reducible exact H2_) | (have H2_ := (Option.bind_some _ _).symm.trans H; with_reducible exact H2_) | with_reducible exact H | (rw [hy355]; exact H) | exact H
    have Ny355 := Aside0.mk hy355
    clear hy355
    replace H := Option.bind_eq_some_iff.mp H
    obtain ⟨⟨t358, t359⟩, A1140, H⟩ := H
    replace H : (if t359 = 0 then (if x19_2 = true then (laws_FnLines.l0 k2 t326 true (wrap64 (x20_2 + 1)) t329 t330) else (laws_FnLines.l0 k2 t326 (!t358) (wrap64 (x20_2 + 1)) t329 t330)) else (none)) = some r := H
    have A114 := Aside0.mk A1140
    clear A1140
    by_cases c115 : t359 = 0
    ·rw [if_pos c115] at H
     have c115b0 : (t359 == 0) = true := beq_iff_eq.mpr c115
     have c115b1 : (t359 != 0) = false := bne_eq_false_iff_eq.mpr c115
     clear c115
     by_cases c116 : x19_2 = true
     ·subst c116
      have H1 : (laws_FnLines.l0 k2 t326 true (wrap64 (x20_2 + 1)) t329 t330) = some r := by rw [if_pos rfl] at H; exact H
      clear H
      have H := H1
      clear H1
      have H' := Aside0.mk H
      clear H
      try go_wp2
      have n0_ := Aside0.mk (Kd.R_drew HO_5.out)
      have n1_ := Aside0.mk (blk_drew BK331.out)
      have n2_ := Aside0.mk (below_drew1 HB.out)
      clear HO_5
      clear BK331
      clear HB
      have HO_5 := n0_
      have BK331 := n1_
      have HB := n2_
      clear n0_ n1_ n2_
      have p354 : 0 ≤ (x20_2 : Int) := of_decide_eq_true (by first | (with_reducible assumption) | assumption)
      have q354 : x20_2 < (t326.length : Int) := of_decide_eq_true (by first | (with_reducible assumption) | assumption)
      obtain ⟨ad354, e354, hx354_0, hx354_1⟩ := at_T38 (Kd.R_reads' HO_5.out).2.2 x20_2 p354 q354
      cases e354
      replace p354 := eq_true p354
      replace q354 := eq_true q354
      refine start_ (n := 12) (S := fun w' => w'.cell? ⟨gb331, 0, none⟩ = some (.int .i16 t329) ∧ w'.cell? ⟨gb331, 1, none⟩ = some (.int .i16 t330) ∧ w'.cell? (ad354.add ((x20_2).toNat * 2)) = some (.int .i16 ((rd_T38 t326 x20_2).f0)) ∧ w'.cell? ⟨(ad354.add ((x20_2).toNat * 2)).block, (ad354.add ((x20_2).toNat * 2)).off + 1, none⟩ = some (.int .i16 ((rd_T38 t326 x20_2).f1))) (ds := []) #[false, false, false, false, false, false, false, false, false, false, false, false] (by kernel_rfl) rfl rfl ⟨(blk_cell BK331.out 0).trans rfl, (blk_cell BK331.out 1).trans rfl, hx354_0, hx354_1⟩ (fun hHeld => ?_); refine with_tabW laws_FnLines.tab16 laws_FnLines.bits16 (fun HT_ HW_ => ?_)
      generalize wr.drew = w117 at HO_5 BK331 HB hx354_0 hx354_1 hHeld ⊢
      refine pure_ (i := 1) (N := some 133) (v := ?_) (a' := ?_) #[false, true, false, false, false, false, false, false, false, false, false, false] rfl rfl (any_of HT_.out (by kernel_rfl)) (fun _ _ _ h => h) (Or.inl ⟨by rfl, ?_⟩) ?_ ?_
      rotate_left
      ·intro w'
       go_simp
       with_reducible rfl
      rotate_left
      ·simp only [Act.put, List.setIfInBounds_toArray, List.set_cons_zero, List.set_cons_succ, i64_w, i32_w]
       rfl
      refine pure_ (i := 2) (N := some 134) (v := ?_) (a' := ?_) #[false, true, true, false, false, false, false, false, false, false, false, false] rfl rfl (any_of HT_.out (by kernel_rfl)) (fun _ _ _ h => h) (Or.inl ⟨by rfl, ?_⟩) ?_ ?_
      rotate_left
      ·intro w'
       go_simp
       with_reducible rfl
      rotate_left
      ·simp only [Act.put, List.setIfInBounds_toArray, List.set_cons_zero, List.set_cons_succ, i64_w, i32_w]
       rfl
      refine pure_ (i := 3) (N := some 135) (v := ?_) (a' := ?_) #[false, true, true, true, false, false, false, false, false, false, false, false] rfl rfl (any_of HT_.out (by kernel_rfl)) (fun _ _ _ h => h) (Or.inl ⟨by rfl, ?_⟩) ?_ ?_
      rotate_left
      ·intro w'
       go_simp
       with_reducible rfl
      rotate_left
      ·simp only [Act.put, List.setIfInBounds_toArray, List.set_cons_zero, List.set_cons_succ, i64_w, i32_w]
       rfl
      refine take_ (i := 0) (N := some 132) (v := ?_) (a' := ?_) #[true, true, true, true, false, false, false, false, false, false, false, false] rfl rfl (take_ofW HT_.out HW_.out (by kernel_rfl)) (fun _ _ _ h => h) (Or.inl ⟨by rfl, ?_⟩) hHeld ?_ ?_
      rotate_left
      ·rintro w' ⟨s0, s1, s2, s3⟩
       go_simp
       with_reducible rfl
      rotate_left
      ·simp only [Act.put, List.setIfInBounds_toArray, List.set_cons_zero, List.set_cons_succ, i64_w, i32_w]
       rfl
      refine take_ (i := 4) (N := some 136) (v := ?_) (a' := ?_) #[true, true, true, true, true, false, false, false, false, false, false, false] rfl rfl (take_ofW HT_.out HW_.out (by kernel_rfl)) (fun _ _ _ h => h) (Or.inl ⟨by rfl, ?_⟩) hHeld ?_ ?_
      rotate_left
      ·rintro w' ⟨s0, s1, s2, s3⟩
       go_simp
       with_reducible rfl
      rotate_left
      ·simp only [Act.put, List.setIfInBounds_toArray, List.set_cons_zero, List.set_cons_succ, i64_w, i32_w]
       rfl
      refine one_ (i := 5) (N := some 137) #[true, true, true, true, true, true, false, false, false, false, false, false] rfl rfl (one_of HT_.out (by kernel_rfl)) (by decide) (fun K hK => ?_)
      refine Kd.R_lit_step k38 _ 38 ?hg (N := 137) ?hd (xs := ([(⟨(rd_T38 t326 x20_2).f0, (rd_T38 t326 x20_2).f1⟩ : S38)] : List (S38))) (inner := [.int .i16 ((rd_T38 t326 x20_2).f0), .int .i16 ((rd_T38 t326 x20_2).f1)]) (ok := fun _ => True) (okp := fun _ => True) ?hr ?hp (fun _ hk => hk) trivial (Below.refl _ _) (Nat.le_refl _) (by simp) ?_; (case hd => rfl); (case hg => rfl); (case hr => first | (go_simp; done) | (go_simp; rfl)); (case hp => exact (Reps.c2 (show Kd.M k38 _ _ _ (⟨(rd_T38 t326 x20_2).f0, (rd_T38 t326 x20_2).f1⟩ : S38) [.int .i16 ((rd_T38 t326 x20_2).f0), .int .i16 ((rd_T38 t326 x20_2).f1)] from (k38_mkM _ _ _ (⟨(rd_T38 t326 x20_2).f0, (rd_T38 t326 x20_2).f1⟩ : S38) )) (Reps.none _ _)))
      intro v356 w118 ho119 hb hg_ hnew_
      have HS2_ := (hb.cell (World.block_lt_of_cell? _ _ (hHeld.2.2.1))).trans (hHeld.2.2.1)
      have HS3_ := (hb.cell (World.block_lt_of_cell? _ _ (hHeld.2.2.2))).trans (hHeld.2.2.2)
      clear hg_ hnew_
      (first | rw [← Ny355.out] at ho119 | (simp only [Int.reduceToNat] at ho119; rw [← Ny355.out] at ho119))
      have n0_ := Aside0.mk (Kd.R_elder' (by (with_reducible repeat (first | apply Kd.R_alloc | apply Kd.R_drewN | apply Kd.R_drew)); exact HO_5.out) (Kd.R_base ho119) hb)
      have n1_ := Aside0.mk (Kd.R_lower (Kd.R_new' ho119 (Kd.R_lt (by (with_reducible repeat (first | apply Kd.R_alloc | apply Kd.R_drewN | apply Kd.R_drew)); exact HO_5.out))) (below_size (by repeat (first | (with_reducible first | exact HB.out | apply below_alloc | apply pw_below_drewN | apply below_drew1 | refine below_set ?_ GE331.out) | exact HB.out))))
      have n2_ := Aside0.mk (blk_below (g := gb331) (o := .cells #[.int .i16 t329, .int .i16 t330] 28 (0, 0)) (by (with_reducible repeat (first | refine blk_drewN ?_ _ | refine blk_drew ?_ | refine blk_alloc ?_ _)); exact BK331.out) hb)
      have n3_ := Aside0.mk (below_step (by repeat (first | (with_reducible first | exact HB.out | apply below_alloc | apply pw_below_drewN | apply below_drew1 | refine below_set ?_ GE331.out) | exact HB.out)) hb)
      clear HO_5
      clear BK331
      clear HB
      have HO_5 := n0_
      have HO357 := n1_
      have BK331 := n2_
      have HB := n3_
      clear n0_ n1_ n2_ n3_
      clear hb ho119
      obtain ⟨Ao120, co120, eo120⟩ := Kd.R_slice HO357.out
      (first | subst eo120 | (injection eo120 with f1_ f2_ f3_; have f4_ := f1_.symm; have f5_ := f3_.symm; clear f1_ f2_ f3_; subst f4_; subst f5_))
      refine hK.out _ _ ⟨(blk_cell BK331.out 0).trans rfl, (blk_cell BK331.out 1).trans rfl, HS2_, HS3_⟩ (fun hHeld => ?_)
      clear hK K
      refine norm_ (a' := ?_) ?_ ?_
      rotate_left
      ·show Act.put _ (some 137) _ = _
       simp only [Act.put, List.setIfInBounds_toArray, List.set_cons_zero, List.set_cons_succ, i64_w, i32_w]
       rfl
      refine one_ (i := 6) (N := some 138) #[true, true, true, true, true, true, true, false, false, false, false, false] rfl rfl (one_of HT_.out (by kernel_rfl)) (by decide) (fun K hK => ?_)
      refine goes_ Try.func28 (by kernel_rfl) rfl #[.agg #[.int .i16 t329, .int .i16 t330], .slice Ao120 y355.length co120] (by rfl) rfl rfl (by (try simp only [List.map_toArray, List.map_cons, List.map_nil]); first | done | rfl | (simp only [List.length_drop, List.length_take]; rfl)) ?_
      with_reducible refine (impl_FitsLine.calls k2 t329 t330 _ _ y355 t358 t359 _ ?side1 ?side2 A114.out).mono ?_
      (case side1 => repeat (first | exact (Kd.R_reads' HO357.out).2.2 | (with_reducible refine Kd.C_alloc ?_ _) | (with_reducible refine Kd.C_drewN ?_ _) | (with_reducible refine Kd.C_drew ?_)))
      (case side2 => exact (Kd.R_reads' HO357.out).2.1)
      rintro e w121 ⟨rfl, hb⟩
      have HS2_ := (hb.cell (World.block_lt_of_cell? _ _ (hHeld.2.2.1))).trans (hHeld.2.2.1)
      have HS3_ := (hb.cell (World.block_lt_of_cell? _ _ (hHeld.2.2.2))).trans (hHeld.2.2.2)
      refine ⟨_, rfl, ?_⟩
      have n0_ := Aside0.mk (Kd.R_below (by (with_reducible repeat (first | apply Kd.R_alloc | apply Kd.R_drewN | apply Kd.R_drew)); exact HO_5.out) hb)
      have n1_ := Aside0.mk (Kd.R_below (by (with_reducible repeat (first | apply Kd.R_alloc | apply Kd.R_drewN | apply Kd.R_drew)); exact HO357.out) hb)
      have n2_ := Aside0.mk (blk_below (g := gb331) (o := .cells #[.int .i16 t329, .int .i16 t330] 28 (0, 0)) (by (with_reducible repeat (first | refine blk_drewN ?_ _ | refine blk_drew ?_ | refine blk_alloc ?_ _)); exact BK331.out) hb)
      have n3_ := Aside0.mk (below_step (by repeat (first | (with_reducible first | exact HB.out | apply below_alloc | apply pw_below_drewN | apply below_drew1 | refine below_set ?_ GE331.out) | exact HB.out)) hb)
      clear HO_5
      clear HO357
      clear BK331
      clear HB
      have HO_5 := n0_
      have HO357 := n1_
      have BK331 := n2_
      have HB := n3_
      clear n0_ n1_ n2_ n3_
      (try clear hb)
      (try clear hb2)
      (try clear hk)
      (try clear hi)
      refine hK.out _ _ ⟨(blk_cell BK331.out 0).trans rfl, (blk_cell BK331.out 1).trans rfl, HS2_, HS3_⟩ (fun hHeld => ?_)
      clear hK K
      refine norm_ (a' := ?_) ?_ ?_
      rotate_left
      ·show Act.put _ (some 138) _ = _
       simp only [Act.put, List.setIfInBounds_toArray, List.set_cons_zero, List.set_cons_succ, i64_w, i32_w]
       rfl
      refine pure_ (i := 7) (N := some 131) (v := ?_) (a' := ?_) #[true, true, true, true, true, true, true, true, false, false, false, false] rfl rfl (any_of HT_.out (by kernel_rfl)) (fun _ _ _ h => h) (Or.inl ⟨by rfl, ?_⟩) ?_ ?_
      rotate_left
      ·intro w'
       go_simp
       with_reducible rfl
      rotate_left
      ·simp only [Act.put, List.setIfInBounds_toArray, List.set_cons_zero, List.set_cons_succ, i64_w, i32_w]
       rfl
      refine pure_ (i := 8) (N := some 139) (v := ?_) (a' := ?_) #[true, true, true, true, true, true, true, true, true, false, false, false] rfl rfl (any_of HT_.out (by kernel_rfl)) (fun _ _ _ h => h) (Or.inl ⟨by rfl, ?_⟩) ?_ ?_
      rotate_left
      ·intro w'
       go_simp
       with_reducible rfl
      rotate_left
      ·simp only [Act.put, List.setIfInBounds_toArray, List.set_cons_zero, List.set_cons_succ, i64_w, i32_w]
       rfl
      refine pure_ (i := 9) (N := some 140) (v := ?_) (a' := ?_) #[true, true, true, true, true, true, true, true, true, true, false, false] rfl rfl (any_of HT_.out (by kernel_rfl)) (fun _ _ _ h => h) (Or.inl ⟨by rfl, ?_⟩) ?_ ?_
      rotate_left
      ·intro w'
       go_simp
       with_reducible rfl
      rotate_left
      ·simp only [Act.put, List.setIfInBounds_toArray, List.set_cons_zero, List.set_cons_succ, i64_w, i32_w]
       rfl
      refine pure_ (i := 10) (N := some 21) (v := ?_) (a' := ?_) #[true, true, true, true, true, true, true, true, true, true, true, false] rfl rfl (any_of HT_.out (by kernel_rfl)) (fun _ _ _ h => h) (Or.inl ⟨by rfl, ?_⟩) ?_ ?_
      rotate_left
      ·intro w'
       go_simp
       with_reducible rfl
      rotate_left
      ·simp only [Act.put, List.setIfInBounds_toArray, List.set_cons_zero, List.set_cons_succ, i64_w, i32_w]
       rfl
      refine pure_ (i := 11) (N := some 22) (v := ?_) (a' := ?_) #[true, true, true, true, true, true, true, true, true, true, true, true] rfl rfl (any_of HT_.out (by kernel_rfl)) (fun _ _ _ h => h) (Or.inl ⟨by rfl, ?_⟩) ?_ ?_
      rotate_left
      ·intro w'
       go_simp
       with_reducible rfl
      rotate_left
      ·simp only [Act.put, List.setIfInBounds_toArray, List.set_cons_zero, List.set_cons_succ, i64_w, i32_w]
       rfl
      refine done_ (done_of HT_.out (by kernel_rfl)) ?_
      try go_wp2
      go_roundg k2
      case measure => have := HJ10.out; have := HK2.out; omega
      case rel => exact ⟨(true), (wrap64 (x20_2 + 1)), (by first | rfl | (simp; done) | (simp [*]; done)), (by first | rfl | (simp; done) | (simp [*]; done)), H', ⟨by have := HJ10.out; have := HK2.out; omega⟩, ⟨by (with_reducible repeat (first | apply Kd.R_alloc | apply Kd.R_drewN | apply Kd.R_drew)); exact Kd.R_mono HO_5.out (fun _ hk => trivial)⟩, ⟨by (with_reducible repeat (first | refine blk_drewN ?_ _ | refine blk_drew ?_ | refine blk_alloc ?_ _)); exact BK331.out⟩, ⟨by repeat (first | (with_reducible first | exact HB.out | apply below_alloc | apply pw_below_drewN | apply below_drew1 | refine below_set ?_ GE331.out) | exact HB.out)⟩⟩
     ·replace c116 := Bool.eq_false_iff.mpr c116
      subst c116
      have H1 : (laws_FnLines.l0 k2 t326 (!t358) (wrap64 (x20_2 + 1)) t329 t330) = some r := by rw [if_neg (show ¬ (false = true) by decide)] at H; exact H
      clear H
      have H := H1
      clear H1
      have H' := Aside0.mk H
      clear H
      try go_wp2
      have n0_ := Aside0.mk (Kd.R_drew HO_5.out)
      have n1_ := Aside0.mk (blk_drew BK331.out)
      have n2_ := Aside0.mk (below_drew1 HB.out)
      clear HO_5
      clear BK331
      clear HB
      have HO_5 := n0_
      have BK331 := n1_
      have HB := n2_
      clear n0_ n1_ n2_
      have p354 : 0 ≤ (x20_2 : Int) := of_decide_eq_true (by first | (with_reducible assumption) | assumption)
      have q354 : x20_2 < (t326.length : Int) := of_decide_eq_true (by first | (with_reducible assumption) | assumption)
      obtain ⟨ad354, e354, hx354_0, hx354_1⟩ := at_T38 (Kd.R_reads' HO_5.out).2.2 x20_2 p354 q354
      cases e354
      replace p354 := eq_true p354
      replace q354 := eq_true q354
      refine start_ (n := 12) (S := fun w' => w'.cell? ⟨gb331, 0, none⟩ = some (.int .i16 t329) ∧ w'.cell? ⟨gb331, 1, none⟩ = some (.int .i16 t330) ∧ w'.cell? (ad354.add ((x20_2).toNat * 2)) = some (.int .i16 ((rd_T38 t326 x20_2).f0)) ∧ w'.cell? ⟨(ad354.add ((x20_2).toNat * 2)).block, (ad354.add ((x20_2).toNat * 2)).off + 1, none⟩ = some (.int .i16 ((rd_T38 t326 x20_2).f1))) (ds := []) #[false, false, false, false, false, false, false, false, false, false, false, false] (by kernel_rfl) rfl rfl ⟨(blk_cell BK331.out 0).trans rfl, (blk_cell BK331.out 1).trans rfl, hx354_0, hx354_1⟩ (fun hHeld => ?_); refine with_tabW laws_FnLines.tab16 laws_FnLines.bits16 (fun HT_ HW_ => ?_)
      generalize wr.drew = w122 at HO_5 BK331 HB hx354_0 hx354_1 hHeld ⊢
      refine pure_ (i := 1) (N := some 133) (v := ?_) (a' := ?_) #[false, true, false, false, false, false, false, false, false, false, false, false] rfl rfl (any_of HT_.out (by kernel_rfl)) (fun _ _ _ h => h) (Or.inl ⟨by rfl, ?_⟩) ?_ ?_
      rotate_left
      ·intro w'
       go_simp
       with_reducible rfl
      rotate_left
      ·simp only [Act.put, List.setIfInBounds_toArray, List.set_cons_zero, List.set_cons_succ, i64_w, i32_w]
       rfl
      refine pure_ (i := 2) (N := some 134) (v := ?_) (a' := ?_) #[false, true, true, false, false, false, false, false, false, false, false, false] rfl rfl (any_of HT_.out (by kernel_rfl)) (fun _ _ _ h => h) (Or.inl ⟨by rfl, ?_⟩) ?_ ?_
      rotate_left
      ·intro w'
       go_simp
       with_reducible rfl
      rotate_left
      ·simp only [Act.put, List.setIfInBounds_toArray, List.set_cons_zero, List.set_cons_succ, i64_w, i32_w]
       rfl
      refine pure_ (i := 3) (N := some 135) (v := ?_) (a' := ?_) #[false, true, true, true, false, false, false, false, false, false, false, false] rfl rfl (any_of HT_.out (by kernel_rfl)) (fun _ _ _ h => h) (Or.inl ⟨by rfl, ?_⟩) ?_ ?_
      rotate_left
      ·intro w'
       go_simp
       with_reducible rfl
      rotate_left
      ·simp only [Act.put, List.setIfInBounds_toArray, List.set_cons_zero, List.set_cons_succ, i64_w, i32_w]
       rfl
      refine take_ (i := 0) (N := some 132) (v := ?_) (a' := ?_) #[true, true, true, true, false, false, false, false, false, false, false, false] rfl rfl (take_ofW HT_.out HW_.out (by kernel_rfl)) (fun _ _ _ h => h) (Or.inl ⟨by rfl, ?_⟩) hHeld ?_ ?_
      rotate_left
      ·rintro w' ⟨s0, s1, s2, s3⟩
       go_simp
       with_reducible rfl
      rotate_left
      ·simp only [Act.put, List.setIfInBounds_toArray, List.set_cons_zero, List.set_cons_succ, i64_w, i32_w]
       rfl
      refine take_ (i := 4) (N := some 136) (v := ?_) (a' := ?_) #[true, true, true, true, true, false, false, false, false, false, false, false] rfl rfl (take_ofW HT_.out HW_.out (by kernel_rfl)) (fun _ _ _ h => h) (Or.inl ⟨by rfl, ?_⟩) hHeld ?_ ?_
      rotate_left
      ·rintro w' ⟨s0, s1, s2, s3⟩
       go_simp
       with_reducible rfl
      rotate_left
      ·simp only [Act.put, List.setIfInBounds_toArray, List.set_cons_zero, List.set_cons_succ, i64_w, i32_w]
       rfl
      refine one_ (i := 5) (N := some 137) #[true, true, true, true, true, true, false, false, false, false, false, false] rfl rfl (one_of HT_.out (by kernel_rfl)) (by decide) (fun K hK => ?_)
      refine Kd.R_lit_step k38 _ 38 ?hg (N := 137) ?hd (xs := ([(⟨(rd_T38 t326 x20_2).f0, (rd_T38 t326 x20_2).f1⟩ : S38)] : List (S38))) (inner := [.int .i16 ((rd_T38 t326 x20_2).f0), .int .i16 ((rd_T38 t326 x20_2).f1)]) (ok := fun _ => True) (okp := fun _ => True) ?hr ?hp (fun _ hk => hk) trivial (Below.refl _ _) (Nat.le_refl _) (by simp) ?_; (case hd => rfl); (case hg => rfl); (case hr => first | (go_simp; done) | (go_simp; rfl)); (case hp => exact (Reps.c2 (show Kd.M k38 _ _ _ (⟨(rd_T38 t326 x20_2).f0, (rd_T38 t326 x20_2).f1⟩ : S38) [.int .i16 ((rd_T38 t326 x20_2).f0), .int .i16 ((rd_T38 t326 x20_2).f1)] from (k38_mkM _ _ _ (⟨(rd_T38 t326 x20_2).f0, (rd_T38 t326 x20_2).f1⟩ : S38) )) (Reps.none _ _)))
      intro v356 w123 ho124 hb hg_ hnew_
      have HS2_ := (hb.cell (World.block_lt_of_cell? _ _ (hHeld.2.2.1))).trans (hHeld.2.2.1)
      have HS3_ := (hb.cell (World.block_lt_of_cell? _ _ (hHeld.2.2.2))).trans (hHeld.2.2.2)
      clear hg_ hnew_
      (first | rw [← Ny355.out] at ho124 | (simp only [Int.reduceToNat] at ho124; rw [← Ny355.out] at ho124))
      have n0_ := Aside0.mk (Kd.R_elder' (by (with_reducible repeat (first | apply Kd.R_alloc | apply Kd.R_drewN | apply Kd.R_drew)); exact HO_5.out) (Kd.R_base ho124) hb)
      have n1_ := Aside0.mk (Kd.R_lower (Kd.R_new' ho124 (Kd.R_lt (by (with_reducible repeat (first | apply Kd.R_alloc | apply Kd.R_drewN | apply Kd.R_drew)); exact HO_5.out))) (below_size (by repeat (first | (with_reducible first | exact HB.out | apply below_alloc | apply pw_below_drewN | apply below_drew1 | refine below_set ?_ GE331.out) | exact HB.out))))
      have n2_ := Aside0.mk (blk_below (g := gb331) (o := .cells #[.int .i16 t329, .int .i16 t330] 28 (0, 0)) (by (with_reducible repeat (first | refine blk_drewN ?_ _ | refine blk_drew ?_ | refine blk_alloc ?_ _)); exact BK331.out) hb)
      have n3_ := Aside0.mk (below_step (by repeat (first | (with_reducible first | exact HB.out | apply below_alloc | apply pw_below_drewN | apply below_drew1 | refine below_set ?_ GE331.out) | exact HB.out)) hb)
      clear HO_5
      clear BK331
      clear HB
      have HO_5 := n0_
      have HO357 := n1_
      have BK331 := n2_
      have HB := n3_
      clear n0_ n1_ n2_ n3_
      clear hb ho124
      obtain ⟨Ao125, co125, eo125⟩ := Kd.R_slice HO357.out
      (first | subst eo125 | (injection eo125 with f1_ f2_ f3_; have f4_ := f1_.symm; have f5_ := f3_.symm; clear f1_ f2_ f3_; subst f4_; subst f5_))
      refine hK.out _ _ ⟨(blk_cell BK331.out 0).trans rfl, (blk_cell BK331.out 1).trans rfl, HS2_, HS3_⟩ (fun hHeld => ?_)
      clear hK K
      refine norm_ (a' := ?_) ?_ ?_
      rotate_left
      ·show Act.put _ (some 137) _ = _
       simp only [Act.put, List.setIfInBounds_toArray, List.set_cons_zero, List.set_cons_succ, i64_w, i32_w]
       rfl
      refine one_ (i := 6) (N := some 138) #[true, true, true, true, true, true, true, false, false, false, false, false] rfl rfl (one_of HT_.out (by kernel_rfl)) (by decide) (fun K hK => ?_)
      refine goes_ Try.func28 (by kernel_rfl) rfl #[.agg #[.int .i16 t329, .int .i16 t330], .slice Ao125 y355.length co125] (by rfl) rfl rfl (by (try simp only [List.map_toArray, List.map_cons, List.map_nil]); first | done | rfl | (simp only [List.length_drop, List.length_take]; rfl)) ?_
      with_reducible refine (impl_FitsLine.calls k2 t329 t330 _ _ y355 t358 t359 _ ?side1 ?side2 A114.out).mono ?_
      (case side1 => repeat (first | exact (Kd.R_reads' HO357.out).2.2 | (with_reducible refine Kd.C_alloc ?_ _) | (with_reducible refine Kd.C_drewN ?_ _) | (with_reducible refine Kd.C_drew ?_)))
      (case side2 => exact (Kd.R_reads' HO357.out).2.1)
      rintro e w126 ⟨rfl, hb⟩
      have HS2_ := (hb.cell (World.block_lt_of_cell? _ _ (hHeld.2.2.1))).trans (hHeld.2.2.1)
      have HS3_ := (hb.cell (World.block_lt_of_cell? _ _ (hHeld.2.2.2))).trans (hHeld.2.2.2)
      refine ⟨_, rfl, ?_⟩
      have n0_ := Aside0.mk (Kd.R_below (by (with_reducible repeat (first | apply Kd.R_alloc | apply Kd.R_drewN | apply Kd.R_drew)); exact HO_5.out) hb)
      have n1_ := Aside0.mk (Kd.R_below (by (with_reducible repeat (first | apply Kd.R_alloc | apply Kd.R_drewN | apply Kd.R_drew)); exact HO357.out) hb)
      have n2_ := Aside0.mk (blk_below (g := gb331) (o := .cells #[.int .i16 t329, .int .i16 t330] 28 (0, 0)) (by (with_reducible repeat (first | refine blk_drewN ?_ _ | refine blk_drew ?_ | refine blk_alloc ?_ _)); exact BK331.out) hb)
      have n3_ := Aside0.mk (below_step (by repeat (first | (with_reducible first | exact HB.out | apply below_alloc | apply pw_below_drewN | apply below_drew1 | refine below_set ?_ GE331.out) | exact HB.out)) hb)
      clear HO_5
      clear HO357
      clear BK331
      clear HB
      have HO_5 := n0_
      have HO357 := n1_
      have BK331 := n2_
      have HB := n3_
      clear n0_ n1_ n2_ n3_
      (try clear hb)
      (try clear hb2)
      (try clear hk)
      (try clear hi)
      refine hK.out _ _ ⟨(blk_cell BK331.out 0).trans rfl, (blk_cell BK331.out 1).trans rfl, HS2_, HS3_⟩ (fun hHeld => ?_)
      clear hK K
      refine norm_ (a' := ?_) ?_ ?_
      rotate_left
      ·show Act.put _ (some 138) _ = _
       simp only [Act.put, List.setIfInBounds_toArray, List.set_cons_zero, List.set_cons_succ, i64_w, i32_w]
       rfl
      refine pure_ (i := 7) (N := some 131) (v := ?_) (a' := ?_) #[true, true, true, true, true, true, true, true, false, false, false, false] rfl rfl (any_of HT_.out (by kernel_rfl)) (fun _ _ _ h => h) (Or.inl ⟨by rfl, ?_⟩) ?_ ?_
      rotate_left
      ·intro w'
       go_simp
       with_reducible rfl
      rotate_left
      ·simp only [Act.put, List.setIfInBounds_toArray, List.set_cons_zero, List.set_cons_succ, i64_w, i32_w]
       rfl
      refine pure_ (i := 8) (N := some 139) (v := ?_) (a' := ?_) #[true, true, true, true, true, true, true, true, true, false, false, false] rfl rfl (any_of HT_.out (by kernel_rfl)) (fun _ _ _ h => h) (Or.inl ⟨by rfl, ?_⟩) ?_ ?_
      rotate_left
      ·intro w'
       go_simp
       with_reducible rfl
      rotate_left
      ·simp only [Act.put, List.setIfInBounds_toArray, List.set_cons_zero, List.set_cons_succ, i64_w, i32_w]
       rfl
      refine pure_ (i := 9) (N := some 140) (v := ?_) (a' := ?_) #[true, true, true, true, true, true, true, true, true, true, false, false] rfl rfl (any_of HT_.out (by kernel_rfl)) (fun _ _ _ h => h) (Or.inl ⟨by rfl, ?_⟩) ?_ ?_
      rotate_left
      ·intro w'
       go_simp
       with_reducible rfl
      rotate_left
      ·simp only [Act.put, List.setIfInBounds_toArray, List.set_cons_zero, List.set_cons_succ, i64_w, i32_w]
       rfl
      refine pure_ (i := 10) (N := some 21) (v := ?_) (a' := ?_) #[true, true, true, true, true, true, true, true, true, true, true, false] rfl rfl (any_of HT_.out (by kernel_rfl)) (fun _ _ _ h => h) (Or.inl ⟨by rfl, ?_⟩) ?_ ?_
      rotate_left
      ·intro w'
       go_simp
       with_reducible rfl
      rotate_left
      ·simp only [Act.put, List.setIfInBounds_toArray, List.set_cons_zero, List.set_cons_succ, i64_w, i32_w]
       rfl
      refine pure_ (i := 11) (N := some 22) (v := ?_) (a' := ?_) #[true, true, true, true, true, true, true, true, true, true, true, true] rfl rfl (any_of HT_.out (by kernel_rfl)) (fun _ _ _ h => h) (Or.inl ⟨by rfl, ?_⟩) ?_ ?_
      rotate_left
      ·intro w'
       go_simp
       with_reducible rfl
      rotate_left
      ·simp only [Act.put, List.setIfInBounds_toArray, List.set_cons_zero, List.set_cons_succ, i64_w, i32_w]
       rfl
      refine done_ (done_of HT_.out (by kernel_rfl)) ?_
      try go_wp2
      go_roundg k2
      case measure => have := HJ10.out; have := HK2.out; omega
      case rel => exact ⟨(!t358), (wrap64 (x20_2 + 1)), (by first | rfl | (simp; done) | (simp [*]; done)), (by first | rfl | (simp; done) | (simp [*]; done)), H', ⟨by have := HJ10.out; have := HK2.out; omega⟩, ⟨by (with_reducible repeat (first | apply Kd.R_alloc | apply Kd.R_drewN | apply Kd.R_drew)); exact Kd.R_mono HO_5.out (fun _ hk => trivial)⟩, ⟨by (with_reducible repeat (first | refine blk_drewN ?_ _ | refine blk_drew ?_ | refine blk_alloc ?_ _)); exact BK331.out⟩, ⟨by repeat (first | (with_reducible first | exact HB.out | apply below_alloc | apply pw_below_drewN | apply below_drew1 | refine below_set ?_ GE331.out) | exact HB.out)⟩⟩
    ·rw [if_neg c115] at H
     exact absurd H (by simp)
   ·rw [if_neg c113] at H
    exact absurd H (by simp)
  ·rw [if_neg c112] at H
   have c112b0 : decide (x20_2 < (t326.length : Int)) = false := decide_eq_false c112
   clear c112
   obtain rfl := Option.some.inj H
   go_wp2
   go_ret
   exact ⟨by first | rfl | (simp [errW_none, errW_some] <;> rfl) | (simp [*, errW_none, errW_some] <;> rfl), by repeat (first | (with_reducible first | exact HB.out | apply below_alloc | apply pw_below_drewN | apply below_drew1 | refine below_set ?_ GE331.out) | exact HB.out)⟩
theorem laws_FnLines.calls_all_kj10 : laws_FnLines.calls_all_p.1 := laws_FnLines.calls_all_kj10_p.2 (fun _ => laws_FnLines.calls_all_kj10_kj44) (fun _ => laws_FnLines.calls_all_kj10_k2)
theorem laws_FnLines.calls_all : ∀ (k : Nat) (A0 : Option Addr) (c0 : Nat) (l0 : List Int) (A1 : Option Addr) (c1 : Nat) (l1 : List Int) (r : Bool) (w : World) (hr0 : Kd.C (Kd.int .u8) w A0 l0.length l0) (hc0 : l0.length ≤ c0) (hr1 : Kd.C (Kd.int .u8) w A1 l1.length l1) (hc1 : l1.length ≤ c1) (h : laws_FnLines.f k l0 l1 = some r), Calls Try.prog 3 #[.slice A0 l0.length c0, .slice A1 l1.length c1] w fun e w' => e = .returned (.bool r) ∧ Below w.heap.size w w' := laws_FnLines.calls_all_p.2 (fun _ => laws_FnLines.calls_all_kj10)
theorem laws_FnLines.calls (k : Nat) (A0 : Option Addr) (c0 : Nat) (l0 : List Int) (A1 : Option Addr) (c1 : Nat) (l1 : List Int) (r : Bool) (w : World) (hr0 : Kd.C (Kd.int .u8) w A0 l0.length l0) (hc0 : l0.length ≤ c0) (hr1 : Kd.C (Kd.int .u8) w A1 l1.length l1) (hc1 : l1.length ≤ c1) (h : laws_FnLines.f k l0 l1 = some r) : Calls Try.prog 3 #[.slice A0 l0.length c0, .slice A1 l1.length c1] w fun e w' => e = .returned (.bool r) ∧ Below w.heap.size w w' := laws_FnLines.calls_all k A0 c0 l0 A1 c1 l1 r w hr0 hc0 hr1 hc1 h
end Go.Proofs.Ytlkpgpnieodifaa.Ln
