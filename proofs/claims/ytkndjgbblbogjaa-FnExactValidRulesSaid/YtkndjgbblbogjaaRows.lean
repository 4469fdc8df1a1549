/-
  No cell of these rows narrows 'for every input' (looked for: loops, veiled, ifaces, maps, wideKeys, modest, calm, conditions, laid).
  DERIVED. THE GIVEN ROWS OF THIS SEAT. 8 by the template 'for every input the law returns true; each argument reads behind the call as it read before'; 0 by the template 'total and deterministic' (their statements: YtkndjgbblbogjaaTotals.lean).
  GIVEN WITH THE SEED: the statements are not yours to turn. If you find one false, say at which input.
  Laid BY PROGRAM, IN A SANDBOX (cutbox-rows.mjs): the forced cells as the released guide's own fill.sh prints them over the translation 7342e2cc2469eff1… (all of the seat's roots in one cut). By AI agents, Wed Nov 11 2026. No macro, syntax, notation, axiom, sorry.
-/
import Derived.Test.YtkndjgbblbogjaaChecked
import GoSem.Claim
import GoSem.ClaimJoined
import GoSem.ClaimMapViews
import Derived.JoinedTies
import Derived.KernelRfl
namespace Go.Proofs.Ytkndjgbblbogjaa
/- THE CELL 'sum', in the pinned program and in every row, IS THE sha256 OF THE DUMP (.gsa) THAT YtkndjgbblbogjaaProg.lean LOADS. Nothing in Lean hashes anything: it is a label: what it is worth is what the hold of that sum in a sandbox is worth. -/
noncomputable def Try.pinned : Pinned := { name := "ytkndjgbblbogjaa", sum := "7342e2cc2469eff1cc25f8d86b3dc73a01968c68d9fb9244a6b25ae4d5551005", checked := Try.checked }
namespace Rows
def none {H : Type} : Left H := { results := [], args := [] }

/-- 'laws.FnExactConstants': WHATEVER THE INPUT: true; the input reads as it did. -/
def fnExactConstantsSpec : ChangeSpec := { name := "fnExactConstants", fn := fun _ => fun
  | [] => { results := [.lit (.bool true)], args := [] }
  | _ => none }
def fnExactConstantsRow : OpenClaim := { program := "ytkndjgbblbogjaa", sum := "7342e2cc2469eff1cc25f8d86b3dc73a01968c68d9fb9244a6b25ae4d5551005", func := "loop.example/g01378/laws.FnExactConstants", spec := "fnExactConstants", apart := false }
def FnExactConstantsSaid : Prop := fnExactConstantsRow.holds Try.pinned (OpenSpec.ofChange fnExactConstantsSpec)

/-- ITS FALSE NEIGHBOUR: 'it returns false'. Refute it at one input. -/
def fnExactConstantsWrong : ChangeSpec := { name := "fnExactConstants", fn := fun _ => fun
  | [] => { results := [.lit (.bool false)], args := [] }
  | _ => none }
def FnExactConstantsWrongFalsely : Prop := fnExactConstantsRow.holds Try.pinned (OpenSpec.ofChange fnExactConstantsWrong)

/-- 'laws.FnExactValidLine': WHATEVER THE INPUT: true; the input reads as it did. -/
def fnExactValidLineSpec : ChangeSpec := { name := "fnExactValidLine", fn := fun _ => fun
  | [d] => { results := [.lit (.bool true)], args := [d] }
  | _ => none }
def fnExactValidLineRow : OpenClaim := { program := "ytkndjgbblbogjaa", sum := "7342e2cc2469eff1cc25f8d86b3dc73a01968c68d9fb9244a6b25ae4d5551005", func := "loop.example/g01378/laws.FnExactValidLine", spec := "fnExactValidLine", apart := false }
def FnExactValidLineSaid : Prop := fnExactValidLineRow.holds Try.pinned (OpenSpec.ofChange fnExactValidLineSpec)

/-- ITS FALSE NEIGHBOUR: 'it returns false'. Refute it at one input. -/
def fnExactValidLineWrong : ChangeSpec := { name := "fnExactValidLine", fn := fun _ => fun
  | [d] => { results := [.lit (.bool false)], args := [d] }
  | _ => none }
def FnExactValidLineWrongFalsely : Prop := fnExactValidLineRow.holds Try.pinned (OpenSpec.ofChange fnExactValidLineWrong)

/-- 'laws.FnExactValidWash': WHATEVER THE INPUT: true; the input reads as it did. -/
def fnExactValidWashSpec : ChangeSpec := { name := "fnExactValidWash", fn := fun _ => fun
  | [d] => { results := [.lit (.bool true)], args := [d] }
  | _ => none }
def fnExactValidWashRow : OpenClaim := { program := "ytkndjgbblbogjaa", sum := "7342e2cc2469eff1cc25f8d86b3dc73a01968c68d9fb9244a6b25ae4d5551005", func := "loop.example/g01378/laws.FnExactValidWash", spec := "fnExactValidWash", apart := false }
def FnExactValidWashSaid : Prop := fnExactValidWashRow.holds Try.pinned (OpenSpec.ofChange fnExactValidWashSpec)

/-- ITS FALSE NEIGHBOUR: 'it returns false'. Refute it at one input. -/
def fnExactValidWashWrong : ChangeSpec := { name := "fnExactValidWash", fn := fun _ => fun
  | [d] => { results := [.lit (.bool false)], args := [d] }
  | _ => none }
def FnExactValidWashWrongFalsely : Prop := fnExactValidWashRow.holds Try.pinned (OpenSpec.ofChange fnExactValidWashWrong)

/-- 'laws.FnExactCodeName': WHATEVER THE INPUT: true; the input reads as it did. -/
def fnExactCodeNameSpec : ChangeSpec := { name := "fnExactCodeName", fn := fun _ => fun
  | [d] => { results := [.lit (.bool true)], args := [d] }
  | _ => none }
def fnExactCodeNameRow : OpenClaim := { program := "ytkndjgbblbogjaa", sum := "7342e2cc2469eff1cc25f8d86b3dc73a01968c68d9fb9244a6b25ae4d5551005", func := "loop.example/g01378/laws.FnExactCodeName", spec := "fnExactCodeName", apart := false }
def FnExactCodeNameSaid : Prop := fnExactCodeNameRow.holds Try.pinned (OpenSpec.ofChange fnExactCodeNameSpec)

/-- ITS FALSE NEIGHBOUR: 'it returns false'. Refute it at one input. -/
def fnExactCodeNameWrong : ChangeSpec := { name := "fnExactCodeName", fn := fun _ => fun
  | [d] => { results := [.lit (.bool false)], args := [d] }
  | _ => none }
def FnExactCodeNameWrongFalsely : Prop := fnExactCodeNameRow.holds Try.pinned (OpenSpec.ofChange fnExactCodeNameWrong)

/-- 'laws.FnExactValidGarment': WHATEVER THE INPUT: true; the input reads as it did. -/
def fnExactValidGarmentSpec : ChangeSpec := { name := "fnExactValidGarment", fn := fun _ => fun
  | [d] => { results := [.lit (.bool true)], args := [d] }
  | _ => none }
def fnExactValidGarmentRow : OpenClaim := { program := "ytkndjgbblbogjaa", sum := "7342e2cc2469eff1cc25f8d86b3dc73a01968c68d9fb9244a6b25ae4d5551005", func := "loop.example/g01378/laws.FnExactValidGarment", spec := "fnExactValidGarment", apart := false }
def FnExactValidGarmentSaid : Prop := fnExactValidGarmentRow.holds Try.pinned (OpenSpec.ofChange fnExactValidGarmentSpec)

/-- ITS FALSE NEIGHBOUR: 'it returns false'. Refute it at one input. -/
def fnExactValidGarmentWrong : ChangeSpec := { name := "fnExactValidGarment", fn := fun _ => fun
  | [d] => { results := [.lit (.bool false)], args := [d] }
  | _ => none }
def FnExactValidGarmentWrongFalsely : Prop := fnExactValidGarmentRow.holds Try.pinned (OpenSpec.ofChange fnExactValidGarmentWrong)

/-- 'laws.FnExactValidSheet': WHATEVER THE INPUT: true; the input reads as it did. -/
def fnExactValidSheetSpec : ChangeSpec := { name := "fnExactValidSheet", fn := fun _ => fun
  | [d] => { results := [.lit (.bool true)], args := [d] }
  | _ => none }
def fnExactValidSheetRow : OpenClaim := { program := "ytkndjgbblbogjaa", sum := "7342e2cc2469eff1cc25f8d86b3dc73a01968c68d9fb9244a6b25ae4d5551005", func := "loop.example/g01378/laws.FnExactValidSheet", spec := "fnExactValidSheet", apart := false }
def FnExactValidSheetSaid : Prop := fnExactValidSheetRow.holds Try.pinned (OpenSpec.ofChange fnExactValidSheetSpec)

/-- ITS FALSE NEIGHBOUR: 'it returns false'. Refute it at one input. -/
def fnExactValidSheetWrong : ChangeSpec := { name := "fnExactValidSheet", fn := fun _ => fun
  | [d] => { results := [.lit (.bool false)], args := [d] }
  | _ => none }
def FnExactValidSheetWrongFalsely : Prop := fnExactValidSheetRow.holds Try.pinned (OpenSpec.ofChange fnExactValidSheetWrong)

/-- 'laws.FnExactAreaOf': WHATEVER THE INPUT: true; the input reads as it did. -/
def fnExactAreaOfSpec : ChangeSpec := { name := "fnExactAreaOf", fn := fun _ => fun
  | [d] => { results := [.lit (.bool true)], args := [d] }
  | _ => none }
def fnExactAreaOfRow : OpenClaim := { program := "ytkndjgbblbogjaa", sum := "7342e2cc2469eff1cc25f8d86b3dc73a01968c68d9fb9244a6b25ae4d5551005", func := "loop.example/g01378/laws.FnExactAreaOf", spec := "fnExactAreaOf", apart := false }
def FnExactAreaOfSaid : Prop := fnExactAreaOfRow.holds Try.pinned (OpenSpec.ofChange fnExactAreaOfSpec)

/-- ITS FALSE NEIGHBOUR: 'it returns false'. Refute it at one input. -/
def fnExactAreaOfWrong : ChangeSpec := { name := "fnExactAreaOf", fn := fun _ => fun
  | [d] => { results := [.lit (.bool false)], args := [d] }
  | _ => none }
def FnExactAreaOfWrongFalsely : Prop := fnExactAreaOfRow.holds Try.pinned (OpenSpec.ofChange fnExactAreaOfWrong)

/-- 'laws.FnExactValidRules': WHATEVER THE INPUT: true; the input reads as it did. -/
def fnExactValidRulesSpec : ChangeSpec := { name := "fnExactValidRules", fn := fun _ => fun
  | [d] => { results := [.lit (.bool true)], args := [d] }
  | _ => none }
def fnExactValidRulesRow : OpenClaim := { program := "ytkndjgbblbogjaa", sum := "7342e2cc2469eff1cc25f8d86b3dc73a01968c68d9fb9244a6b25ae4d5551005", func := "loop.example/g01378/laws.FnExactValidRules", spec := "fnExactValidRules", apart := false }
def FnExactValidRulesSaid : Prop := fnExactValidRulesRow.holds Try.pinned (OpenSpec.ofChange fnExactValidRulesSpec)

/-- ITS FALSE NEIGHBOUR: 'it returns false'. Refute it at one input. -/
def fnExactValidRulesWrong : ChangeSpec := { name := "fnExactValidRules", fn := fun _ => fun
  | [d] => { results := [.lit (.bool false)], args := [d] }
  | _ => none }
def FnExactValidRulesWrongFalsely : Prop := fnExactValidRulesRow.holds Try.pinned (OpenSpec.ofChange fnExactValidRulesWrong)

/- THE SECOND FORM. 'bulk': how many values and letters a reading holds, each counted each time it is reached (what is shared counts as often as it is met; a slice's spare places count too). A statement '..UptoSaid' is the law's where the arguments, and the package variables that the reading takes, are together of bulk at most 1048576: NARROWER than '..Said'. Prove '..Said' where nothing that the law and all that it calls make is longer than what came in: it says more and counts as full. Else prove '..UptoSaid'. A law counts once. -/
mutual
def uptoBulk {H : Type} : DataW H → Nat
  | .lit (.string bytes) => bytes.length + 1
  | .lit _ => 1
  | .nil => 1
  | .ptr d => uptoBulk d + 1
  | .slice elems spare => uptoBulkAll elems + uptoBulkAll spare + 1
  | .agg parts => uptoBulkAll parts + 1
  | .iface _ d => uptoBulk d + 1
  | .map entries => uptoBulkEntries entries + 1
  | .held _ => 1
def uptoBulkAll {H : Type} : List (DataW H) → Nat
  | [] => 0
  | d :: r => uptoBulk d + uptoBulkAll r
def uptoBulkEntries {H : Type} : List (Lit × DataW H) → Nat
  | [] => 0
  | x :: r => uptoBulkEntry x + uptoBulkEntries r
def uptoBulkEntry {H : Type} : Lit × DataW H → Nat
  | (.string bytes, d) => bytes.length + uptoBulk d + 1
  | (_, d) => uptoBulk d + 1
 end
def uptoSmall : (H : Type) → List (DataW H) → Bool := fun _ ds => decide (uptoBulkAll ds ≤ 1048576)
def OpenSpec.upto (s : _root_.Go.ChangeSpec) : _root_.Go.OpenSpec := { _root_.Go.OpenSpec.ofChange s with cond := some uptoSmall }

/-- 'laws.FnExactConstants', WHERE WHAT IT READS IS OF BULK AT MOST 1048576: true; the input reads as it did. -/
def fnExactConstantsUptoRow : OpenClaim := { program := "ytkndjgbblbogjaa", sum := "7342e2cc2469eff1cc25f8d86b3dc73a01968c68d9fb9244a6b25ae4d5551005", func := "loop.example/g01378/laws.FnExactConstants", spec := "fnExactConstants", apart := false, narrowed := true }
def FnExactConstantsUptoSaid : Prop := fnExactConstantsUptoRow.holds Try.pinned (OpenSpec.upto fnExactConstantsSpec)

/-- 'laws.FnExactValidLine', WHERE WHAT IT READS IS OF BULK AT MOST 1048576: true; the input reads as it did. -/
def fnExactValidLineUptoRow : OpenClaim := { program := "ytkndjgbblbogjaa", sum := "7342e2cc2469eff1cc25f8d86b3dc73a01968c68d9fb9244a6b25ae4d5551005", func := "loop.example/g01378/laws.FnExactValidLine", spec := "fnExactValidLine", apart := false, narrowed := true }
def FnExactValidLineUptoSaid : Prop := fnExactValidLineUptoRow.holds Try.pinned (OpenSpec.upto fnExactValidLineSpec)

/-- 'laws.FnExactValidWash', WHERE WHAT IT READS IS OF BULK AT MOST 1048576: true; the input reads as it did. -/
def fnExactValidWashUptoRow : OpenClaim := { program := "ytkndjgbblbogjaa", sum := "7342e2cc2469eff1cc25f8d86b3dc73a01968c68d9fb9244a6b25ae4d5551005", func := "loop.example/g01378/laws.FnExactValidWash", spec := "fnExactValidWash", apart := false, narrowed := true }
def FnExactValidWashUptoSaid : Prop := fnExactValidWashUptoRow.holds Try.pinned (OpenSpec.upto fnExactValidWashSpec)

/-- 'laws.FnExactCodeName', WHERE WHAT IT READS IS OF BULK AT MOST 1048576: true; the input reads as it did. -/
def fnExactCodeNameUptoRow : OpenClaim := { program := "ytkndjgbblbogjaa", sum := "7342e2cc2469eff1cc25f8d86b3dc73a01968c68d9fb9244a6b25ae4d5551005", func := "loop.example/g01378/laws.FnExactCodeName", spec := "fnExactCodeName", apart := false, narrowed := true }
def FnExactCodeNameUptoSaid : Prop := fnExactCodeNameUptoRow.holds Try.pinned (OpenSpec.upto fnExactCodeNameSpec)

/-- 'laws.FnExactValidGarment', WHERE WHAT IT READS IS OF BULK AT MOST 1048576: true; the input reads as it did. -/
def fnExactValidGarmentUptoRow : OpenClaim := { program := "ytkndjgbblbogjaa", sum := "7342e2cc2469eff1cc25f8d86b3dc73a01968c68d9fb9244a6b25ae4d5551005", func := "loop.example/g01378/laws.FnExactValidGarment", spec := "fnExactValidGarment", apart := false, narrowed := true }
def FnExactValidGarmentUptoSaid : Prop := fnExactValidGarmentUptoRow.holds Try.pinned (OpenSpec.upto fnExactValidGarmentSpec)

/-- 'laws.FnExactValidSheet', WHERE WHAT IT READS IS OF BULK AT MOST 1048576: true; the input reads as it did. -/
def fnExactValidSheetUptoRow : OpenClaim := { program := "ytkndjgbblbogjaa", sum := "7342e2cc2469eff1cc25f8d86b3dc73a01968c68d9fb9244a6b25ae4d5551005", func := "loop.example/g01378/laws.FnExactValidSheet", spec := "fnExactValidSheet", apart := false, narrowed := true }
def FnExactValidSheetUptoSaid : Prop := fnExactValidSheetUptoRow.holds Try.pinned (OpenSpec.upto fnExactValidSheetSpec)

/-- 'laws.FnExactAreaOf', WHERE WHAT IT READS IS OF BULK AT MOST 1048576: true; the input reads as it did. -/
def fnExactAreaOfUptoRow : OpenClaim := { program := "ytkndjgbblbogjaa", sum := "7342e2cc2469eff1cc25f8d86b3dc73a01968c68d9fb9244a6b25ae4d5551005", func := "loop.example/g01378/laws.FnExactAreaOf", spec := "fnExactAreaOf", apart := false, narrowed := true }
def FnExactAreaOfUptoSaid : Prop := fnExactAreaOfUptoRow.holds Try.pinned (OpenSpec.upto fnExactAreaOfSpec)

/-- 'laws.FnExactValidRules', WHERE WHAT IT READS IS OF BULK AT MOST 1048576: true; the input reads as it did. -/
def fnExactValidRulesUptoRow : OpenClaim := { program := "ytkndjgbblbogjaa", sum := "7342e2cc2469eff1cc25f8d86b3dc73a01968c68d9fb9244a6b25ae4d5551005", func := "loop.example/g01378/laws.FnExactValidRules", spec := "fnExactValidRules", apart := false, narrowed := true }
def FnExactValidRulesUptoSaid : Prop := fnExactValidRulesUptoRow.holds Try.pinned (OpenSpec.upto fnExactValidRulesSpec)

end Rows
end Go.Proofs.Ytkndjgbblbogjaa
