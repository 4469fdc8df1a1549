/-
  No cell of these rows narrows 'for every input' (looked for: loops, veiled, ifaces, maps, wideKeys, modest, calm, conditions, laid).
  DERIVED. THE GIVEN ROWS OF THIS SEAT. 17 by the template 'for every input the law returns true; each argument reads behind the call as it read before'; 0 by the template 'total and deterministic' (their statements: YtlkpgpnieodifaaTotals.lean).
  GIVEN WITH THE SEED: the statements are not yours to turn. If you find one false, say at which input.
  Laid BY PROGRAM, IN A SANDBOX (cutbox-rows.mjs): the forced cells as the released guide's own fill.sh prints them over the translation 6ca0bc580ac2d6c5… (all of the seat's roots in one cut). By AI agents, Wed Nov 11 2026. No macro, syntax, notation, axiom, sorry.
-/
import Derived.Test.YtlkpgpnieodifaaChecked
import GoSem.Claim
import GoSem.ClaimJoined
import GoSem.ClaimMapViews
import Derived.JoinedTies
import Derived.KernelRfl
namespace Go.Proofs.Ytlkpgpnieodifaa
/- THE CELL 'sum', in the pinned program and in every row, IS THE sha256 OF THE DUMP (.gsa) THAT YtlkpgpnieodifaaProg.lean LOADS. Nothing in Lean hashes anything: it is a label: what it is worth is what the hold of that sum in a sandbox is worth. -/
noncomputable def Try.pinned : Pinned := { name := "ytlkpgpnieodifaa", sum := "6ca0bc580ac2d6c5653c496921d22ba4d8b3567bcad50614c419698eeaded948", checked := Try.checked }
namespace Rows
def none {H : Type} : Left H := { results := [], args := [] }

/-- 'laws.FnLines': WHATEVER THE INPUT: true; the input reads as it did. -/
def fnLinesSpec : ChangeSpec := { name := "fnLines", fn := fun _ => fun
  | [d1, d2] => { results := [.lit (.bool true)], args := [d1, d2] }
  | _ => none }
def fnLinesRow : OpenClaim := { program := "ytlkpgpnieodifaa", sum := "6ca0bc580ac2d6c5653c496921d22ba4d8b3567bcad50614c419698eeaded948", func := "loop.example/g01378/laws.FnLines", spec := "fnLines", unfollowed := true, recurses := true, apart := false }
def FnLinesSaid : Prop := fnLinesRow.holds Try.pinned (OpenSpec.ofChange fnLinesSpec)

/-- ITS FALSE NEIGHBOUR: 'it returns false'. Refute it at one input. -/
def fnLinesWrong : ChangeSpec := { name := "fnLines", fn := fun _ => fun
  | [d1, d2] => { results := [.lit (.bool false)], args := [d1, d2] }
  | _ => none }
def FnLinesWrongFalsely : Prop := fnLinesRow.holds Try.pinned (OpenSpec.ofChange fnLinesWrong)

/-- 'laws.FnExactSharePeg': WHATEVER THE INPUT: true; the input reads as it did. -/
def fnExactSharePegSpec : ChangeSpec := { name := "fnExactSharePeg", fn := fun _ => fun
  | [d1, d2] => { results := [.lit (.bool true)], args := [d1, d2] }
  | _ => none }
def fnExactSharePegRow : OpenClaim := { program := "ytlkpgpnieodifaa", sum := "6ca0bc580ac2d6c5653c496921d22ba4d8b3567bcad50614c419698eeaded948", func := "loop.example/g01378/laws.FnExactSharePeg", spec := "fnExactSharePeg", unfollowed := true, recurses := true, apart := false }
def FnExactSharePegSaid : Prop := fnExactSharePegRow.holds Try.pinned (OpenSpec.ofChange fnExactSharePegSpec)

/-- ITS FALSE NEIGHBOUR: 'it returns false'. Refute it at one input. -/
def fnExactSharePegWrong : ChangeSpec := { name := "fnExactSharePeg", fn := fun _ => fun
  | [d1, d2] => { results := [.lit (.bool false)], args := [d1, d2] }
  | _ => none }
def FnExactSharePegWrongFalsely : Prop := fnExactSharePegRow.holds Try.pinned (OpenSpec.ofChange fnExactSharePegWrong)

/-- 'laws.FnExactValidCloths': WHATEVER THE INPUT: true; the input reads as it did. -/
def fnExactValidClothsSpec : ChangeSpec := { name := "fnExactValidCloths", fn := fun _ => fun
  | [d] => { results := [.lit (.bool true)], args := [d] }
  | _ => none }
def fnExactValidClothsRow : OpenClaim := { program := "ytlkpgpnieodifaa", sum := "6ca0bc580ac2d6c5653c496921d22ba4d8b3567bcad50614c419698eeaded948", func := "loop.example/g01378/laws.FnExactValidCloths", spec := "fnExactValidCloths", unfollowed := true, recurses := true, apart := false }
def FnExactValidClothsSaid : Prop := fnExactValidClothsRow.holds Try.pinned (OpenSpec.ofChange fnExactValidClothsSpec)

/-- ITS FALSE NEIGHBOUR: 'it returns false'. Refute it at one input. -/
def fnExactValidClothsWrong : ChangeSpec := { name := "fnExactValidCloths", fn := fun _ => fun
  | [d] => { results := [.lit (.bool false)], args := [d] }
  | _ => none }
def FnExactValidClothsWrongFalsely : Prop := fnExactValidClothsRow.holds Try.pinned (OpenSpec.ofChange fnExactValidClothsWrong)

/-- 'laws.FnOrders': WHATEVER THE INPUT: true; the input reads as it did. -/
def fnOrdersSpec : ChangeSpec := { name := "fnOrders", fn := fun _ => fun
  | [d1, d2] => { results := [.lit (.bool true)], args := [d1, d2] }
  | _ => none }
def fnOrdersRow : OpenClaim := { program := "ytlkpgpnieodifaa", sum := "6ca0bc580ac2d6c5653c496921d22ba4d8b3567bcad50614c419698eeaded948", func := "loop.example/g01378/laws.FnOrders", spec := "fnOrders", unfollowed := true, recurses := true, apart := false }
def FnOrdersSaid : Prop := fnOrdersRow.holds Try.pinned (OpenSpec.ofChange fnOrdersSpec)

/-- ITS FALSE NEIGHBOUR: 'it returns false'. Refute it at one input. -/
def fnOrdersWrong : ChangeSpec := { name := "fnOrders", fn := fun _ => fun
  | [d1, d2] => { results := [.lit (.bool false)], args := [d1, d2] }
  | _ => none }
def FnOrdersWrongFalsely : Prop := fnOrdersRow.holds Try.pinned (OpenSpec.ofChange fnOrdersWrong)

/-- 'laws.FnExactPegsFor': WHATEVER THE INPUT: true; the input reads as it did. -/
def fnExactPegsForSpec : ChangeSpec := { name := "fnExactPegsFor", fn := fun _ => fun
  | [d] => { results := [.lit (.bool true)], args := [d] }
  | _ => none }
def fnExactPegsForRow : OpenClaim := { program := "ytlkpgpnieodifaa", sum := "6ca0bc580ac2d6c5653c496921d22ba4d8b3567bcad50614c419698eeaded948", func := "loop.example/g01378/laws.FnExactPegsFor", spec := "fnExactPegsFor", unfollowed := true, recurses := true, apart := false }
def FnExactPegsForSaid : Prop := fnExactPegsForRow.holds Try.pinned (OpenSpec.ofChange fnExactPegsForSpec)

/-- ITS FALSE NEIGHBOUR: 'it returns false'. Refute it at one input. -/
def fnExactPegsForWrong : ChangeSpec := { name := "fnExactPegsFor", fn := fun _ => fun
  | [d] => { results := [.lit (.bool false)], args := [d] }
  | _ => none }
def FnExactPegsForWrongFalsely : Prop := fnExactPegsForRow.holds Try.pinned (OpenSpec.ofChange fnExactPegsForWrong)

/-- 'laws.FnExactWidthFor': WHATEVER THE INPUT: true; the input reads as it did. -/
def fnExactWidthForSpec : ChangeSpec := { name := "fnExactWidthFor", fn := fun _ => fun
  | [d] => { results := [.lit (.bool true)], args := [d] }
  | _ => none }
def fnExactWidthForRow : OpenClaim := { program := "ytlkpgpnieodifaa", sum := "6ca0bc580ac2d6c5653c496921d22ba4d8b3567bcad50614c419698eeaded948", func := "loop.example/g01378/laws.FnExactWidthFor", spec := "fnExactWidthFor", unfollowed := true, recurses := true, apart := false }
def FnExactWidthForSaid : Prop := fnExactWidthForRow.holds Try.pinned (OpenSpec.ofChange fnExactWidthForSpec)

/-- ITS FALSE NEIGHBOUR: 'it returns false'. Refute it at one input. -/
def fnExactWidthForWrong : ChangeSpec := { name := "fnExactWidthFor", fn := fun _ => fun
  | [d] => { results := [.lit (.bool false)], args := [d] }
  | _ => none }
def FnExactWidthForWrongFalsely : Prop := fnExactWidthForRow.holds Try.pinned (OpenSpec.ofChange fnExactWidthForWrong)

/-- 'laws.FnExactFitsLine': WHATEVER THE INPUT: true; the input reads as it did. -/
def fnExactFitsLineSpec : ChangeSpec := { name := "fnExactFitsLine", fn := fun _ => fun
  | [d1, d2] => { results := [.lit (.bool true)], args := [d1, d2] }
  | _ => none }
def fnExactFitsLineRow : OpenClaim := { program := "ytlkpgpnieodifaa", sum := "6ca0bc580ac2d6c5653c496921d22ba4d8b3567bcad50614c419698eeaded948", func := "loop.example/g01378/laws.FnExactFitsLine", spec := "fnExactFitsLine", unfollowed := true, recurses := true, apart := false }
def FnExactFitsLineSaid : Prop := fnExactFitsLineRow.holds Try.pinned (OpenSpec.ofChange fnExactFitsLineSpec)

/-- ITS FALSE NEIGHBOUR: 'it returns false'. Refute it at one input. -/
def fnExactFitsLineWrong : ChangeSpec := { name := "fnExactFitsLine", fn := fun _ => fun
  | [d1, d2] => { results := [.lit (.bool false)], args := [d1, d2] }
  | _ => none }
def FnExactFitsLineWrongFalsely : Prop := fnExactFitsLineRow.holds Try.pinned (OpenSpec.ofChange fnExactFitsLineWrong)

/-- 'laws.FnExactPlacesOf': WHATEVER THE INPUT: true; the input reads as it did. -/
def fnExactPlacesOfSpec : ChangeSpec := { name := "fnExactPlacesOf", fn := fun _ => fun
  | [d] => { results := [.lit (.bool true)], args := [d] }
  | _ => none }
def fnExactPlacesOfRow : OpenClaim := { program := "ytlkpgpnieodifaa", sum := "6ca0bc580ac2d6c5653c496921d22ba4d8b3567bcad50614c419698eeaded948", func := "loop.example/g01378/laws.FnExactPlacesOf", spec := "fnExactPlacesOf", unfollowed := true, recurses := true, apart := false }
def FnExactPlacesOfSaid : Prop := fnExactPlacesOfRow.holds Try.pinned (OpenSpec.ofChange fnExactPlacesOfSpec)

/-- ITS FALSE NEIGHBOUR: 'it returns false'. Refute it at one input. -/
def fnExactPlacesOfWrong : ChangeSpec := { name := "fnExactPlacesOf", fn := fun _ => fun
  | [d] => { results := [.lit (.bool false)], args := [d] }
  | _ => none }
def FnExactPlacesOfWrongFalsely : Prop := fnExactPlacesOfRow.holds Try.pinned (OpenSpec.ofChange fnExactPlacesOfWrong)

/-- 'laws.FnExactSagOf': WHATEVER THE INPUT: true; the input reads as it did. -/
def fnExactSagOfSpec : ChangeSpec := { name := "fnExactSagOf", fn := fun _ => fun
  | [d1, d2] => { results := [.lit (.bool true)], args := [d1, d2] }
  | _ => none }
def fnExactSagOfRow : OpenClaim := { program := "ytlkpgpnieodifaa", sum := "6ca0bc580ac2d6c5653c496921d22ba4d8b3567bcad50614c419698eeaded948", func := "loop.example/g01378/laws.FnExactSagOf", spec := "fnExactSagOf", unfollowed := true, recurses := true, apart := false }
def FnExactSagOfSaid : Prop := fnExactSagOfRow.holds Try.pinned (OpenSpec.ofChange fnExactSagOfSpec)

/-- ITS FALSE NEIGHBOUR: 'it returns false'. Refute it at one input. -/
def fnExactSagOfWrong : ChangeSpec := { name := "fnExactSagOf", fn := fun _ => fun
  | [d1, d2] => { results := [.lit (.bool false)], args := [d1, d2] }
  | _ => none }
def FnExactSagOfWrongFalsely : Prop := fnExactSagOfRow.holds Try.pinned (OpenSpec.ofChange fnExactSagOfWrong)

/-- 'laws.FnExactWhichLine': WHATEVER THE INPUT: true; the input reads as it did. -/
def fnExactWhichLineSpec : ChangeSpec := { name := "fnExactWhichLine", fn := fun _ => fun
  | [d1, d2] => { results := [.lit (.bool true)], args := [d1, d2] }
  | _ => none }
def fnExactWhichLineRow : OpenClaim := { program := "ytlkpgpnieodifaa", sum := "6ca0bc580ac2d6c5653c496921d22ba4d8b3567bcad50614c419698eeaded948", func := "loop.example/g01378/laws.FnExactWhichLine", spec := "fnExactWhichLine", unfollowed := true, recurses := true, apart := false }
def FnExactWhichLineSaid : Prop := fnExactWhichLineRow.holds Try.pinned (OpenSpec.ofChange fnExactWhichLineSpec)

/-- ITS FALSE NEIGHBOUR: 'it returns false'. Refute it at one input. -/
def fnExactWhichLineWrong : ChangeSpec := { name := "fnExactWhichLine", fn := fun _ => fun
  | [d1, d2] => { results := [.lit (.bool false)], args := [d1, d2] }
  | _ => none }
def FnExactWhichLineWrongFalsely : Prop := fnExactWhichLineRow.holds Try.pinned (OpenSpec.ofChange fnExactWhichLineWrong)

/-- 'laws.FnExactCheckLines': WHATEVER THE INPUT: true; the input reads as it did. -/
def fnExactCheckLinesSpec : ChangeSpec := { name := "fnExactCheckLines", fn := fun _ => fun
  | [d1, d2, d3] => { results := [.lit (.bool true)], args := [d1, d2, d3] }
  | _ => none }
def fnExactCheckLinesRow : OpenClaim := { program := "ytlkpgpnieodifaa", sum := "6ca0bc580ac2d6c5653c496921d22ba4d8b3567bcad50614c419698eeaded948", func := "loop.example/g01378/laws.FnExactCheckLines", spec := "fnExactCheckLines", unfollowed := true, recurses := true, apart := false }
def FnExactCheckLinesSaid : Prop := fnExactCheckLinesRow.holds Try.pinned (OpenSpec.ofChange fnExactCheckLinesSpec)

/-- ITS FALSE NEIGHBOUR: 'it returns false'. Refute it at one input. -/
def fnExactCheckLinesWrong : ChangeSpec := { name := "fnExactCheckLines", fn := fun _ => fun
  | [d1, d2, d3] => { results := [.lit (.bool false)], args := [d1, d2, d3] }
  | _ => none }
def FnExactCheckLinesWrongFalsely : Prop := fnExactCheckLinesRow.holds Try.pinned (OpenSpec.ofChange fnExactCheckLinesWrong)

/-- 'laws.FnExactFewestPegs': WHATEVER THE INPUT: true; the input reads as it did. -/
def fnExactFewestPegsSpec : ChangeSpec := { name := "fnExactFewestPegs", fn := fun _ => fun
  | [d] => { results := [.lit (.bool true)], args := [d] }
  | _ => none }
def fnExactFewestPegsRow : OpenClaim := { program := "ytlkpgpnieodifaa", sum := "6ca0bc580ac2d6c5653c496921d22ba4d8b3567bcad50614c419698eeaded948", func := "loop.example/g01378/laws.FnExactFewestPegs", spec := "fnExactFewestPegs", unfollowed := true, recurses := true, apart := false }
def FnExactFewestPegsSaid : Prop := fnExactFewestPegsRow.holds Try.pinned (OpenSpec.ofChange fnExactFewestPegsSpec)

/-- ITS FALSE NEIGHBOUR: 'it returns false'. Refute it at one input. -/
def fnExactFewestPegsWrong : ChangeSpec := { name := "fnExactFewestPegs", fn := fun _ => fun
  | [d] => { results := [.lit (.bool false)], args := [d] }
  | _ => none }
def FnExactFewestPegsWrongFalsely : Prop := fnExactFewestPegsRow.holds Try.pinned (OpenSpec.ofChange fnExactFewestPegsWrong)

/-- 'laws.FnExactNarrowest': WHATEVER THE INPUT: true; the input reads as it did. -/
def fnExactNarrowestSpec : ChangeSpec := { name := "fnExactNarrowest", fn := fun _ => fun
  | [d] => { results := [.lit (.bool true)], args := [d] }
  | _ => none }
def fnExactNarrowestRow : OpenClaim := { program := "ytlkpgpnieodifaa", sum := "6ca0bc580ac2d6c5653c496921d22ba4d8b3567bcad50614c419698eeaded948", func := "loop.example/g01378/laws.FnExactNarrowest", spec := "fnExactNarrowest", unfollowed := true, recurses := true, apart := false }
def FnExactNarrowestSaid : Prop := fnExactNarrowestRow.holds Try.pinned (OpenSpec.ofChange fnExactNarrowestSpec)

/-- ITS FALSE NEIGHBOUR: 'it returns false'. Refute it at one input. -/
def fnExactNarrowestWrong : ChangeSpec := { name := "fnExactNarrowest", fn := fun _ => fun
  | [d] => { results := [.lit (.bool false)], args := [d] }
  | _ => none }
def FnExactNarrowestWrongFalsely : Prop := fnExactNarrowestRow.holds Try.pinned (OpenSpec.ofChange fnExactNarrowestWrong)

/-- 'laws.FnExactFirstLines': WHATEVER THE INPUT: true; the input reads as it did. -/
def fnExactFirstLinesSpec : ChangeSpec := { name := "fnExactFirstLines", fn := fun _ => fun
  | [d1, d2] => { results := [.lit (.bool true)], args := [d1, d2] }
  | _ => none }
def fnExactFirstLinesRow : OpenClaim := { program := "ytlkpgpnieodifaa", sum := "6ca0bc580ac2d6c5653c496921d22ba4d8b3567bcad50614c419698eeaded948", func := "loop.example/g01378/laws.FnExactFirstLines", spec := "fnExactFirstLines", unfollowed := true, recurses := true, apart := false }
def FnExactFirstLinesSaid : Prop := fnExactFirstLinesRow.holds Try.pinned (OpenSpec.ofChange fnExactFirstLinesSpec)

/-- ITS FALSE NEIGHBOUR: 'it returns false'. Refute it at one input. -/
def fnExactFirstLinesWrong : ChangeSpec := { name := "fnExactFirstLines", fn := fun _ => fun
  | [d1, d2] => { results := [.lit (.bool false)], args := [d1, d2] }
  | _ => none }
def FnExactFirstLinesWrongFalsely : Prop := fnExactFirstLinesRow.holds Try.pinned (OpenSpec.ofChange fnExactFirstLinesWrong)

/-- 'laws.FnExactFewestLines': WHATEVER THE INPUT: true; the input reads as it did. -/
def fnExactFewestLinesSpec : ChangeSpec := { name := "fnExactFewestLines", fn := fun _ => fun
  | [d1, d2, d3] => { results := [.lit (.bool true)], args := [d1, d2, d3] }
  | _ => none }
def fnExactFewestLinesRow : OpenClaim := { program := "ytlkpgpnieodifaa", sum := "6ca0bc580ac2d6c5653c496921d22ba4d8b3567bcad50614c419698eeaded948", func := "loop.example/g01378/laws.FnExactFewestLines", spec := "fnExactFewestLines", unfollowed := true, recurses := true, apart := false }
def FnExactFewestLinesSaid : Prop := fnExactFewestLinesRow.holds Try.pinned (OpenSpec.ofChange fnExactFewestLinesSpec)

/-- ITS FALSE NEIGHBOUR: 'it returns false'. Refute it at one input. -/
def fnExactFewestLinesWrong : ChangeSpec := { name := "fnExactFewestLines", fn := fun _ => fun
  | [d1, d2, d3] => { results := [.lit (.bool false)], args := [d1, d2, d3] }
  | _ => none }
def FnExactFewestLinesWrongFalsely : Prop := fnExactFewestLinesRow.holds Try.pinned (OpenSpec.ofChange fnExactFewestLinesWrong)

/-- 'laws.FnExactLeastSag': WHATEVER THE INPUT: true; the input reads as it did. -/
def fnExactLeastSagSpec : ChangeSpec := { name := "fnExactLeastSag", fn := fun _ => fun
  | [d1, d2] => { results := [.lit (.bool true)], args := [d1, d2] }
  | _ => none }
def fnExactLeastSagRow : OpenClaim := { program := "ytlkpgpnieodifaa", sum := "6ca0bc580ac2d6c5653c496921d22ba4d8b3567bcad50614c419698eeaded948", func := "loop.example/g01378/laws.FnExactLeastSag", spec := "fnExactLeastSag", unfollowed := true, recurses := true, apart := false }
def FnExactLeastSagSaid : Prop := fnExactLeastSagRow.holds Try.pinned (OpenSpec.ofChange fnExactLeastSagSpec)

/-- ITS FALSE NEIGHBOUR: 'it returns false'. Refute it at one input. -/
def fnExactLeastSagWrong : ChangeSpec := { name := "fnExactLeastSag", fn := fun _ => fun
  | [d1, d2] => { results := [.lit (.bool false)], args := [d1, d2] }
  | _ => none }
def FnExactLeastSagWrongFalsely : Prop := fnExactLeastSagRow.holds Try.pinned (OpenSpec.ofChange fnExactLeastSagWrong)

/-- 'laws.FnExactInOrder': WHATEVER THE INPUT: true; the input reads as it did. -/
def fnExactInOrderSpec : ChangeSpec := { name := "fnExactInOrder", fn := fun _ => fun
  | [d1, d2] => { results := [.lit (.bool true)], args := [d1, d2] }
  | _ => none }
def fnExactInOrderRow : OpenClaim := { program := "ytlkpgpnieodifaa", sum := "6ca0bc580ac2d6c5653c496921d22ba4d8b3567bcad50614c419698eeaded948", func := "loop.example/g01378/laws.FnExactInOrder", spec := "fnExactInOrder", unfollowed := true, recurses := true, apart := false }
def FnExactInOrderSaid : Prop := fnExactInOrderRow.holds Try.pinned (OpenSpec.ofChange fnExactInOrderSpec)

/-- ITS FALSE NEIGHBOUR: 'it returns false'. Refute it at one input. -/
def fnExactInOrderWrong : ChangeSpec := { name := "fnExactInOrder", fn := fun _ => fun
  | [d1, d2] => { results := [.lit (.bool false)], args := [d1, d2] }
  | _ => none }
def FnExactInOrderWrongFalsely : Prop := fnExactInOrderRow.holds Try.pinned (OpenSpec.ofChange fnExactInOrderWrong)

/- THE SECOND FORM. 'bulk': how many values and letters a reading holds, each counted each time it is reached (what is shared counts as often as it is met; a slice's spare places count too). A statement '..UptoSaid' is the law's where the arguments, and the package variables that the reading takes, are together of bulk at most 1048576: NARROWER than '..Said'. Prove '..Said' where nothing that the law and all that it calls make is longer than what came in: it says more and counts as full. Else prove '..UptoSaid'. A law counts once. -/
mutual
def uptoBulk {H : Type} : DataW H → Nat
  | .lit (.string bytes) => bytes.length + 1
  | .lit _ => 1
  | .nil => 1
  | .ptr d => uptoBulk d + 1
  | .slice elems spare => uptoBulkAll elems + uptoBulkAll spare + 1
  | .agg parts => uptoBulkAll parts + 1
  | .iface _ d => uptoBulk d + 1
  | .map entries => uptoBulkEntries entries + 1
  | .held _ => 1
def uptoBulkAll {H : Type} : List (DataW H) → Nat
  | [] => 0
  | d :: r => uptoBulk d + uptoBulkAll r
def uptoBulkEntries {H : Type} : List (Lit × DataW H) → Nat
  | [] => 0
  | x :: r => uptoBulkEntry x + uptoBulkEntries r
def uptoBulkEntry {H : Type} : Lit × DataW H → Nat
  | (.string bytes, d) => bytes.length + uptoBulk d + 1
  | (_, d) => uptoBulk d + 1
 end
def uptoSmall : (H : Type) → List (DataW H) → Bool := fun _ ds => decide (uptoBulkAll ds ≤ 1048576)
def OpenSpec.upto (s : _root_.Go.ChangeSpec) : _root_.Go.OpenSpec := { _root_.Go.OpenSpec.ofChange s with cond := some uptoSmall }

/-- 'laws.FnLines', WHERE WHAT IT READS IS OF BULK AT MOST 1048576: true; the input reads as it did. -/
def fnLinesUptoRow : OpenClaim := { program := "ytlkpgpnieodifaa", sum := "6ca0bc580ac2d6c5653c496921d22ba4d8b3567bcad50614c419698eeaded948", func := "loop.example/g01378/laws.FnLines", spec := "fnLines", unfollowed := true, recurses := true, apart := false, narrowed := true }
def FnLinesUptoSaid : Prop := fnLinesUptoRow.holds Try.pinned (OpenSpec.upto fnLinesSpec)

/-- 'laws.FnExactSharePeg', WHERE WHAT IT READS IS OF BULK AT MOST 1048576: true; the input reads as it did. -/
def fnExactSharePegUptoRow : OpenClaim := { program := "ytlkpgpnieodifaa", sum := "6ca0bc580ac2d6c5653c496921d22ba4d8b3567bcad50614c419698eeaded948", func := "loop.example/g01378/laws.FnExactSharePeg", spec := "fnExactSharePeg", unfollowed := true, recurses := true, apart := false, narrowed := true }
def FnExactSharePegUptoSaid : Prop := fnExactSharePegUptoRow.holds Try.pinned (OpenSpec.upto fnExactSharePegSpec)

/-- 'laws.FnExactValidCloths', WHERE WHAT IT READS IS OF BULK AT MOST 1048576: true; the input reads as it did. -/
def fnExactValidClothsUptoRow : OpenClaim := { program := "ytlkpgpnieodifaa", sum := "6ca0bc580ac2d6c5653c496921d22ba4d8b3567bcad50614c419698eeaded948", func := "loop.example/g01378/laws.FnExactValidCloths", spec := "fnExactValidCloths", unfollowed := true, recurses := true, apart := false, narrowed := true }
def FnExactValidClothsUptoSaid : Prop := fnExactValidClothsUptoRow.holds Try.pinned (OpenSpec.upto fnExactValidClothsSpec)

/-- 'laws.FnOrders', WHERE WHAT IT READS IS OF BULK AT MOST 1048576: true; the input reads as it did. -/
def fnOrdersUptoRow : OpenClaim := { program := "ytlkpgpnieodifaa", sum := "6ca0bc580ac2d6c5653c496921d22ba4d8b3567bcad50614c419698eeaded948", func := "loop.example/g01378/laws.FnOrders", spec := "fnOrders", unfollowed := true, recurses := true, apart := false, narrowed := true }
def FnOrdersUptoSaid : Prop := fnOrdersUptoRow.holds Try.pinned (OpenSpec.upto fnOrdersSpec)

/-- 'laws.FnExactPegsFor', WHERE WHAT IT READS IS OF BULK AT MOST 1048576: true; the input reads as it did. -/
def fnExactPegsForUptoRow : OpenClaim := { program := "ytlkpgpnieodifaa", sum := "6ca0bc580ac2d6c5653c496921d22ba4d8b3567bcad50614c419698eeaded948", func := "loop.example/g01378/laws.FnExactPegsFor", spec := "fnExactPegsFor", unfollowed := true, recurses := true, apart := false, narrowed := true }
def FnExactPegsForUptoSaid : Prop := fnExactPegsForUptoRow.holds Try.pinned (OpenSpec.upto fnExactPegsForSpec)

/-- 'laws.FnExactWidthFor', WHERE WHAT IT READS IS OF BULK AT MOST 1048576: true; the input reads as it did. -/
def fnExactWidthForUptoRow : OpenClaim := { program := "ytlkpgpnieodifaa", sum := "6ca0bc580ac2d6c5653c496921d22ba4d8b3567bcad50614c419698eeaded948", func := "loop.example/g01378/laws.FnExactWidthFor", spec := "fnExactWidthFor", unfollowed := true, recurses := true, apart := false, narrowed := true }
def FnExactWidthForUptoSaid : Prop := fnExactWidthForUptoRow.holds Try.pinned (OpenSpec.upto fnExactWidthForSpec)

/-- 'laws.FnExactFitsLine', WHERE WHAT IT READS IS OF BULK AT MOST 1048576: true; the input reads as it did. -/
def fnExactFitsLineUptoRow : OpenClaim := { program := "ytlkpgpnieodifaa", sum := "6ca0bc580ac2d6c5653c496921d22ba4d8b3567bcad50614c419698eeaded948", func := "loop.example/g01378/laws.FnExactFitsLine", spec := "fnExactFitsLine", unfollowed := true, recurses := true, apart := false, narrowed := true }
def FnExactFitsLineUptoSaid : Prop := fnExactFitsLineUptoRow.holds Try.pinned (OpenSpec.upto fnExactFitsLineSpec)

/-- 'laws.FnExactPlacesOf', WHERE WHAT IT READS IS OF BULK AT MOST 1048576: true; the input reads as it did. -/
def fnExactPlacesOfUptoRow : OpenClaim := { program := "ytlkpgpnieodifaa", sum := "6ca0bc580ac2d6c5653c496921d22ba4d8b3567bcad50614c419698eeaded948", func := "loop.example/g01378/laws.FnExactPlacesOf", spec := "fnExactPlacesOf", unfollowed := true, recurses := true, apart := false, narrowed := true }
def FnExactPlacesOfUptoSaid : Prop := fnExactPlacesOfUptoRow.holds Try.pinned (OpenSpec.upto fnExactPlacesOfSpec)

/-- 'laws.FnExactSagOf', WHERE WHAT IT READS IS OF BULK AT MOST 1048576: true; the input reads as it did. -/
def fnExactSagOfUptoRow : OpenClaim := { program := "ytlkpgpnieodifaa", sum := "6ca0bc580ac2d6c5653c496921d22ba4d8b3567bcad50614c419698eeaded948", func := "loop.example/g01378/laws.FnExactSagOf", spec := "fnExactSagOf", unfollowed := true, recurses := true, apart := false, narrowed := true }
def FnExactSagOfUptoSaid : Prop := fnExactSagOfUptoRow.holds Try.pinned (OpenSpec.upto fnExactSagOfSpec)

/-- 'laws.FnExactWhichLine', WHERE WHAT IT READS IS OF BULK AT MOST 1048576: true; the input reads as it did. -/
def fnExactWhichLineUptoRow : OpenClaim := { program := "ytlkpgpnieodifaa", sum := "6ca0bc580ac2d6c5653c496921d22ba4d8b3567bcad50614c419698eeaded948", func := "loop.example/g01378/laws.FnExactWhichLine", spec := "fnExactWhichLine", unfollowed := true, recurses := true, apart := false, narrowed := true }
def FnExactWhichLineUptoSaid : Prop := fnExactWhichLineUptoRow.holds Try.pinned (OpenSpec.upto fnExactWhichLineSpec)

/-- 'laws.FnExactCheckLines', WHERE WHAT IT READS IS OF BULK AT MOST 1048576: true; the input reads as it did. -/
def fnExactCheckLinesUptoRow : OpenClaim := { program := "ytlkpgpnieodifaa", sum := "6ca0bc580ac2d6c5653c496921d22ba4d8b3567bcad50614c419698eeaded948", func := "loop.example/g01378/laws.FnExactCheckLines", spec := "fnExactCheckLines", unfollowed := true, recurses := true, apart := false, narrowed := true }
def FnExactCheckLinesUptoSaid : Prop := fnExactCheckLinesUptoRow.holds Try.pinned (OpenSpec.upto fnExactCheckLinesSpec)

/-- 'laws.FnExactFewestPegs', WHERE WHAT IT READS IS OF BULK AT MOST 1048576: true; the input reads as it did. -/
def fnExactFewestPegsUptoRow : OpenClaim := { program := "ytlkpgpnieodifaa", sum := "6ca0bc580ac2d6c5653c496921d22ba4d8b3567bcad50614c419698eeaded948", func := "loop.example/g01378/laws.FnExactFewestPegs", spec := "fnExactFewestPegs", unfollowed := true, recurses := true, apart := false, narrowed := true }
def FnExactFewestPegsUptoSaid : Prop := fnExactFewestPegsUptoRow.holds Try.pinned (OpenSpec.upto fnExactFewestPegsSpec)

/-- 'laws.FnExactNarrowest', WHERE WHAT IT READS IS OF BULK AT MOST 1048576: true; the input reads as it did. -/
def fnExactNarrowestUptoRow : OpenClaim := { program := "ytlkpgpnieodifaa", sum := "6ca0bc580ac2d6c5653c496921d22ba4d8b3567bcad50614c419698eeaded948", func := "loop.example/g01378/laws.FnExactNarrowest", spec := "fnExactNarrowest", unfollowed := true, recurses := true, apart := false, narrowed := true }
def FnExactNarrowestUptoSaid : Prop := fnExactNarrowestUptoRow.holds Try.pinned (OpenSpec.upto fnExactNarrowestSpec)

/-- 'laws.FnExactFirstLines', WHERE WHAT IT READS IS OF BULK AT MOST 1048576: true; the input reads as it did. -/
def fnExactFirstLinesUptoRow : OpenClaim := { program := "ytlkpgpnieodifaa", sum := "6ca0bc580ac2d6c5653c496921d22ba4d8b3567bcad50614c419698eeaded948", func := "loop.example/g01378/laws.FnExactFirstLines", spec := "fnExactFirstLines", unfollowed := true, recurses := true, apart := false, narrowed := true }
def FnExactFirstLinesUptoSaid : Prop := fnExactFirstLinesUptoRow.holds Try.pinned (OpenSpec.upto fnExactFirstLinesSpec)

/-- 'laws.FnExactFewestLines', WHERE WHAT IT READS IS OF BULK AT MOST 1048576: true; the input reads as it did. -/
def fnExactFewestLinesUptoRow : OpenClaim := { program := "ytlkpgpnieodifaa", sum := "6ca0bc580ac2d6c5653c496921d22ba4d8b3567bcad50614c419698eeaded948", func := "loop.example/g01378/laws.FnExactFewestLines", spec := "fnExactFewestLines", unfollowed := true, recurses := true, apart := false, narrowed := true }
def FnExactFewestLinesUptoSaid : Prop := fnExactFewestLinesUptoRow.holds Try.pinned (OpenSpec.upto fnExactFewestLinesSpec)

/-- 'laws.FnExactLeastSag', WHERE WHAT IT READS IS OF BULK AT MOST 1048576: true; the input reads as it did. -/
def fnExactLeastSagUptoRow : OpenClaim := { program := "ytlkpgpnieodifaa", sum := "6ca0bc580ac2d6c5653c496921d22ba4d8b3567bcad50614c419698eeaded948", func := "loop.example/g01378/laws.FnExactLeastSag", spec := "fnExactLeastSag", unfollowed := true, recurses := true, apart := false, narrowed := true }
def FnExactLeastSagUptoSaid : Prop := fnExactLeastSagUptoRow.holds Try.pinned (OpenSpec.upto fnExactLeastSagSpec)

/-- 'laws.FnExactInOrder', WHERE WHAT IT READS IS OF BULK AT MOST 1048576: true; the input reads as it did. -/
def fnExactInOrderUptoRow : OpenClaim := { program := "ytlkpgpnieodifaa", sum := "6ca0bc580ac2d6c5653c496921d22ba4d8b3567bcad50614c419698eeaded948", func := "loop.example/g01378/laws.FnExactInOrder", spec := "fnExactInOrder", unfollowed := true, recurses := true, apart := false, narrowed := true }
def FnExactInOrderUptoSaid : Prop := fnExactInOrderUptoRow.holds Try.pinned (OpenSpec.upto fnExactInOrderSpec)

end Rows
end Go.Proofs.Ytlkpgpnieodifaa
