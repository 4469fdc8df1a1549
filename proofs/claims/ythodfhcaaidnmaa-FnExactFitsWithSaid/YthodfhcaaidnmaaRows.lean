/-
  No cell of these rows narrows 'for every input' (looked for: loops, veiled, ifaces, maps, wideKeys, modest, calm, conditions, laid).
  DERIVED. THE GIVEN ROWS OF THIS SEAT. 11 by the template 'for every input the law returns true; each argument reads behind the call as it read before'; 0 by the template 'total and deterministic' (their statements: YthodfhcaaidnmaaTotals.lean).
  GIVEN WITH THE SEED: the statements are not yours to turn. If you find one false, say at which input.
  Laid BY PROGRAM, IN A SANDBOX (cutbox-rows.mjs): the forced cells as the released guide's own fill.sh prints them over the translation 4638cc1a02e0a655… (all of the seat's roots in one cut). By AI agents, Wed Nov 11 2026. No macro, syntax, notation, axiom, sorry.
-/
import Derived.Test.YthodfhcaaidnmaaChecked
import GoSem.Claim
import GoSem.ClaimJoined
import GoSem.ClaimMapViews
import Derived.JoinedTies
import Derived.KernelRfl
namespace Go.Proofs.Ythodfhcaaidnmaa
/- THE CELL 'sum', in the pinned program and in every row, IS THE sha256 OF THE DUMP (.gsa) THAT YthodfhcaaidnmaaProg.lean LOADS. Nothing in Lean hashes anything: it is a label: what it is worth is what the hold of that sum in a sandbox is worth. -/
noncomputable def Try.pinned : Pinned := { name := "ythodfhcaaidnmaa", sum := "4638cc1a02e0a655f37b7acfd9977d807d0353a0e17f68ad9a9540aec4d0b1bd", checked := Try.checked }
namespace Rows
def none {H : Type} : Left H := { results := [], args := [] }

/-- 'laws.FnExactSameGarments': WHATEVER THE INPUT: true; the input reads as it did. -/
def fnExactSameGarmentsSpec : ChangeSpec := { name := "fnExactSameGarments", fn := fun _ => fun
  | [d1, d2] => { results := [.lit (.bool true)], args := [d1, d2] }
  | _ => none }
def fnExactSameGarmentsRow : OpenClaim := { program := "ythodfhcaaidnmaa", sum := "4638cc1a02e0a655f37b7acfd9977d807d0353a0e17f68ad9a9540aec4d0b1bd", func := "loop.example/g01378/laws.FnExactSameGarments", spec := "fnExactSameGarments", apart := false }
def FnExactSameGarmentsSaid : Prop := fnExactSameGarmentsRow.holds Try.pinned (OpenSpec.ofChange fnExactSameGarmentsSpec)

/-- ITS FALSE NEIGHBOUR: 'it returns false'. Refute it at one input. -/
def fnExactSameGarmentsWrong : ChangeSpec := { name := "fnExactSameGarments", fn := fun _ => fun
  | [d1, d2] => { results := [.lit (.bool false)], args := [d1, d2] }
  | _ => none }
def FnExactSameGarmentsWrongFalsely : Prop := fnExactSameGarmentsRow.holds Try.pinned (OpenSpec.ofChange fnExactSameGarmentsWrong)

/-- 'laws.FnExactMayMeet': WHATEVER THE INPUT: true; the input reads as it did. -/
def fnExactMayMeetSpec : ChangeSpec := { name := "fnExactMayMeet", fn := fun _ => fun
  | [d1, d2, d3] => { results := [.lit (.bool true)], args := [d1, d2, d3] }
  | _ => none }
def fnExactMayMeetRow : OpenClaim := { program := "ythodfhcaaidnmaa", sum := "4638cc1a02e0a655f37b7acfd9977d807d0353a0e17f68ad9a9540aec4d0b1bd", func := "loop.example/g01378/laws.FnExactMayMeet", spec := "fnExactMayMeet", unfollowed := true, recurses := true, apart := false }
def FnExactMayMeetSaid : Prop := fnExactMayMeetRow.holds Try.pinned (OpenSpec.ofChange fnExactMayMeetSpec)

/-- ITS FALSE NEIGHBOUR: 'it returns false'. Refute it at one input. -/
def fnExactMayMeetWrong : ChangeSpec := { name := "fnExactMayMeet", fn := fun _ => fun
  | [d1, d2, d3] => { results := [.lit (.bool false)], args := [d1, d2, d3] }
  | _ => none }
def FnExactMayMeetWrongFalsely : Prop := fnExactMayMeetRow.holds Try.pinned (OpenSpec.ofChange fnExactMayMeetWrong)

/-- 'laws.FnExactColourSets': WHATEVER THE INPUT: true; the input reads as it did. -/
def fnExactColourSetsSpec : ChangeSpec := { name := "fnExactColourSets", fn := fun _ => fun
  | [d] => { results := [.lit (.bool true)], args := [d] }
  | _ => none }
def fnExactColourSetsRow : OpenClaim := { program := "ythodfhcaaidnmaa", sum := "4638cc1a02e0a655f37b7acfd9977d807d0353a0e17f68ad9a9540aec4d0b1bd", func := "loop.example/g01378/laws.FnExactColourSets", spec := "fnExactColourSets", apart := false }
def FnExactColourSetsSaid : Prop := fnExactColourSetsRow.holds Try.pinned (OpenSpec.ofChange fnExactColourSetsSpec)

/-- ITS FALSE NEIGHBOUR: 'it returns false'. Refute it at one input. -/
def fnExactColourSetsWrong : ChangeSpec := { name := "fnExactColourSets", fn := fun _ => fun
  | [d] => { results := [.lit (.bool false)], args := [d] }
  | _ => none }
def FnExactColourSetsWrongFalsely : Prop := fnExactColourSetsRow.holds Try.pinned (OpenSpec.ofChange fnExactColourSetsWrong)

/-- 'laws.FnExactHeatsFor': WHATEVER THE INPUT: true; the input reads as it did. -/
def fnExactHeatsForSpec : ChangeSpec := { name := "fnExactHeatsFor", fn := fun _ => fun
  | [d] => { results := [.lit (.bool true)], args := [d] }
  | _ => none }
def fnExactHeatsForRow : OpenClaim := { program := "ythodfhcaaidnmaa", sum := "4638cc1a02e0a655f37b7acfd9977d807d0353a0e17f68ad9a9540aec4d0b1bd", func := "loop.example/g01378/laws.FnExactHeatsFor", spec := "fnExactHeatsFor", unfollowed := true, recurses := true, apart := false }
def FnExactHeatsForSaid : Prop := fnExactHeatsForRow.holds Try.pinned (OpenSpec.ofChange fnExactHeatsForSpec)

/-- ITS FALSE NEIGHBOUR: 'it returns false'. Refute it at one input. -/
def fnExactHeatsForWrong : ChangeSpec := { name := "fnExactHeatsFor", fn := fun _ => fun
  | [d] => { results := [.lit (.bool false)], args := [d] }
  | _ => none }
def FnExactHeatsForWrongFalsely : Prop := fnExactHeatsForRow.holds Try.pinned (OpenSpec.ofChange fnExactHeatsForWrong)

/-- 'laws.FnExactIsLoad': WHATEVER THE INPUT: true; the input reads as it did. -/
def fnExactIsLoadSpec : ChangeSpec := { name := "fnExactIsLoad", fn := fun _ => fun
  | [d1, d2, d3] => { results := [.lit (.bool true)], args := [d1, d2, d3] }
  | _ => none }
def fnExactIsLoadRow : OpenClaim := { program := "ythodfhcaaidnmaa", sum := "4638cc1a02e0a655f37b7acfd9977d807d0353a0e17f68ad9a9540aec4d0b1bd", func := "loop.example/g01378/laws.FnExactIsLoad", spec := "fnExactIsLoad", unfollowed := true, recurses := true, apart := false }
def FnExactIsLoadSaid : Prop := fnExactIsLoadRow.holds Try.pinned (OpenSpec.ofChange fnExactIsLoadSpec)

/-- ITS FALSE NEIGHBOUR: 'it returns false'. Refute it at one input. -/
def fnExactIsLoadWrong : ChangeSpec := { name := "fnExactIsLoad", fn := fun _ => fun
  | [d1, d2, d3] => { results := [.lit (.bool false)], args := [d1, d2, d3] }
  | _ => none }
def FnExactIsLoadWrongFalsely : Prop := fnExactIsLoadRow.holds Try.pinned (OpenSpec.ofChange fnExactIsLoadWrong)

/-- 'laws.FnExactCheckLoads': WHATEVER THE INPUT: true; the input reads as it did. -/
def fnExactCheckLoadsSpec : ChangeSpec := { name := "fnExactCheckLoads", fn := fun _ => fun
  | [d1, d2, d3, d4] => { results := [.lit (.bool true)], args := [d1, d2, d3, d4] }
  | _ => none }
def fnExactCheckLoadsRow : OpenClaim := { program := "ythodfhcaaidnmaa", sum := "4638cc1a02e0a655f37b7acfd9977d807d0353a0e17f68ad9a9540aec4d0b1bd", func := "loop.example/g01378/laws.FnExactCheckLoads", spec := "fnExactCheckLoads", unfollowed := true, recurses := true, apart := false }
def FnExactCheckLoadsSaid : Prop := fnExactCheckLoadsRow.holds Try.pinned (OpenSpec.ofChange fnExactCheckLoadsSpec)

/-- ITS FALSE NEIGHBOUR: 'it returns false'. Refute it at one input. -/
def fnExactCheckLoadsWrong : ChangeSpec := { name := "fnExactCheckLoads", fn := fun _ => fun
  | [d1, d2, d3, d4] => { results := [.lit (.bool false)], args := [d1, d2, d3, d4] }
  | _ => none }
def FnExactCheckLoadsWrongFalsely : Prop := fnExactCheckLoadsRow.holds Try.pinned (OpenSpec.ofChange fnExactCheckLoadsWrong)

/-- 'laws.FnExactGreedyLoads': WHATEVER THE INPUT: true; the input reads as it did. -/
def fnExactGreedyLoadsSpec : ChangeSpec := { name := "fnExactGreedyLoads", fn := fun _ => fun
  | [d1, d2, d3] => { results := [.lit (.bool true)], args := [d1, d2, d3] }
  | _ => none }
def fnExactGreedyLoadsRow : OpenClaim := { program := "ythodfhcaaidnmaa", sum := "4638cc1a02e0a655f37b7acfd9977d807d0353a0e17f68ad9a9540aec4d0b1bd", func := "loop.example/g01378/laws.FnExactGreedyLoads", spec := "fnExactGreedyLoads", unfollowed := true, recurses := true, apart := false }
def FnExactGreedyLoadsSaid : Prop := fnExactGreedyLoadsRow.holds Try.pinned (OpenSpec.ofChange fnExactGreedyLoadsSpec)

/-- ITS FALSE NEIGHBOUR: 'it returns false'. Refute it at one input. -/
def fnExactGreedyLoadsWrong : ChangeSpec := { name := "fnExactGreedyLoads", fn := fun _ => fun
  | [d1, d2, d3] => { results := [.lit (.bool false)], args := [d1, d2, d3] }
  | _ => none }
def FnExactGreedyLoadsWrongFalsely : Prop := fnExactGreedyLoadsRow.holds Try.pinned (OpenSpec.ofChange fnExactGreedyLoadsWrong)

/-- 'laws.FnExactFitsWith': WHATEVER THE INPUT: true; the input reads as it did. -/
def fnExactFitsWithSpec : ChangeSpec := { name := "fnExactFitsWith", fn := fun _ => fun
  | [d1, d2, d3, d4] => { results := [.lit (.bool true)], args := [d1, d2, d3, d4] }
  | _ => none }
def fnExactFitsWithRow : OpenClaim := { program := "ythodfhcaaidnmaa", sum := "4638cc1a02e0a655f37b7acfd9977d807d0353a0e17f68ad9a9540aec4d0b1bd", func := "loop.example/g01378/laws.FnExactFitsWith", spec := "fnExactFitsWith", unfollowed := true, recurses := true, apart := false }
def FnExactFitsWithSaid : Prop := fnExactFitsWithRow.holds Try.pinned (OpenSpec.ofChange fnExactFitsWithSpec)

/-- ITS FALSE NEIGHBOUR: 'it returns false'. Refute it at one input. -/
def fnExactFitsWithWrong : ChangeSpec := { name := "fnExactFitsWith", fn := fun _ => fun
  | [d1, d2, d3, d4] => { results := [.lit (.bool false)], args := [d1, d2, d3, d4] }
  | _ => none }
def FnExactFitsWithWrongFalsely : Prop := fnExactFitsWithRow.holds Try.pinned (OpenSpec.ofChange fnExactFitsWithWrong)

/-- 'laws.FnExactCostOf': WHATEVER THE INPUT: true; the input reads as it did. -/
def fnExactCostOfSpec : ChangeSpec := { name := "fnExactCostOf", fn := fun _ => fun
  | [d1, d2, d3, d4, d5] => { results := [.lit (.bool true)], args := [d1, d2, d3, d4, d5] }
  | _ => none }
def fnExactCostOfRow : OpenClaim := { program := "ythodfhcaaidnmaa", sum := "4638cc1a02e0a655f37b7acfd9977d807d0353a0e17f68ad9a9540aec4d0b1bd", func := "loop.example/g01378/laws.FnExactCostOf", spec := "fnExactCostOf", unfollowed := true, recurses := true, apart := false }
def FnExactCostOfSaid : Prop := fnExactCostOfRow.holds Try.pinned (OpenSpec.ofChange fnExactCostOfSpec)

/-- ITS FALSE NEIGHBOUR: 'it returns false'. Refute it at one input. -/
def fnExactCostOfWrong : ChangeSpec := { name := "fnExactCostOf", fn := fun _ => fun
  | [d1, d2, d3, d4, d5] => { results := [.lit (.bool false)], args := [d1, d2, d3, d4, d5] }
  | _ => none }
def FnExactCostOfWrongFalsely : Prop := fnExactCostOfRow.holds Try.pinned (OpenSpec.ofChange fnExactCostOfWrong)

/-- 'laws.FnExactFewestLoads': WHATEVER THE INPUT: true; the input reads as it did. -/
def fnExactFewestLoadsSpec : ChangeSpec := { name := "fnExactFewestLoads", fn := fun _ => fun
  | [d1, d2, d3] => { results := [.lit (.bool true)], args := [d1, d2, d3] }
  | _ => none }
def fnExactFewestLoadsRow : OpenClaim := { program := "ythodfhcaaidnmaa", sum := "4638cc1a02e0a655f37b7acfd9977d807d0353a0e17f68ad9a9540aec4d0b1bd", func := "loop.example/g01378/laws.FnExactFewestLoads", spec := "fnExactFewestLoads", unfollowed := true, recurses := true, apart := false }
def FnExactFewestLoadsSaid : Prop := fnExactFewestLoadsRow.holds Try.pinned (OpenSpec.ofChange fnExactFewestLoadsSpec)

/-- ITS FALSE NEIGHBOUR: 'it returns false'. Refute it at one input. -/
def fnExactFewestLoadsWrong : ChangeSpec := { name := "fnExactFewestLoads", fn := fun _ => fun
  | [d1, d2, d3] => { results := [.lit (.bool false)], args := [d1, d2, d3] }
  | _ => none }
def FnExactFewestLoadsWrongFalsely : Prop := fnExactFewestLoadsRow.holds Try.pinned (OpenSpec.ofChange fnExactFewestLoadsWrong)

/-- 'laws.FnExactCheapestLoads': WHATEVER THE INPUT: true; the input reads as it did. -/
def fnExactCheapestLoadsSpec : ChangeSpec := { name := "fnExactCheapestLoads", fn := fun _ => fun
  | [d1, d2, d3, d4] => { results := [.lit (.bool true)], args := [d1, d2, d3, d4] }
  | _ => none }
def fnExactCheapestLoadsRow : OpenClaim := { program := "ythodfhcaaidnmaa", sum := "4638cc1a02e0a655f37b7acfd9977d807d0353a0e17f68ad9a9540aec4d0b1bd", func := "loop.example/g01378/laws.FnExactCheapestLoads", spec := "fnExactCheapestLoads", unfollowed := true, recurses := true, apart := false }
def FnExactCheapestLoadsSaid : Prop := fnExactCheapestLoadsRow.holds Try.pinned (OpenSpec.ofChange fnExactCheapestLoadsSpec)

/-- ITS FALSE NEIGHBOUR: 'it returns false'. Refute it at one input. -/
def fnExactCheapestLoadsWrong : ChangeSpec := { name := "fnExactCheapestLoads", fn := fun _ => fun
  | [d1, d2, d3, d4] => { results := [.lit (.bool false)], args := [d1, d2, d3, d4] }
  | _ => none }
def FnExactCheapestLoadsWrongFalsely : Prop := fnExactCheapestLoadsRow.holds Try.pinned (OpenSpec.ofChange fnExactCheapestLoadsWrong)

/- THE SECOND FORM. 'bulk': how many values and letters a reading holds, each counted each time it is reached (what is shared counts as often as it is met; a slice's spare places count too). A statement '..UptoSaid' is the law's where the arguments, and the package variables that the reading takes, are together of bulk at most 1048576: NARROWER than '..Said'. Prove '..Said' where nothing that the law and all that it calls make is longer than what came in: it says more and counts as full. Else prove '..UptoSaid'. A law counts once. -/
mutual
def uptoBulk {H : Type} : DataW H → Nat
  | .lit (.string bytes) => bytes.length + 1
  | .lit _ => 1
  | .nil => 1
  | .ptr d => uptoBulk d + 1
  | .slice elems spare => uptoBulkAll elems + uptoBulkAll spare + 1
  | .agg parts => uptoBulkAll parts + 1
  | .iface _ d => uptoBulk d + 1
  | .map entries => uptoBulkEntries entries + 1
  | .held _ => 1
def uptoBulkAll {H : Type} : List (DataW H) → Nat
  | [] => 0
  | d :: r => uptoBulk d + uptoBulkAll r
def uptoBulkEntries {H : Type} : List (Lit × DataW H) → Nat
  | [] => 0
  | x :: r => uptoBulkEntry x + uptoBulkEntries r
def uptoBulkEntry {H : Type} : Lit × DataW H → Nat
  | (.string bytes, d) => bytes.length + uptoBulk d + 1
  | (_, d) => uptoBulk d + 1
 end
def uptoSmall : (H : Type) → List (DataW H) → Bool := fun _ ds => decide (uptoBulkAll ds ≤ 1048576)
def OpenSpec.upto (s : _root_.Go.ChangeSpec) : _root_.Go.OpenSpec := { _root_.Go.OpenSpec.ofChange s with cond := some uptoSmall }

/-- 'laws.FnExactSameGarments', WHERE WHAT IT READS IS OF BULK AT MOST 1048576: true; the input reads as it did. -/
def fnExactSameGarmentsUptoRow : OpenClaim := { program := "ythodfhcaaidnmaa", sum := "4638cc1a02e0a655f37b7acfd9977d807d0353a0e17f68ad9a9540aec4d0b1bd", func := "loop.example/g01378/laws.FnExactSameGarments", spec := "fnExactSameGarments", apart := false, narrowed := true }
def FnExactSameGarmentsUptoSaid : Prop := fnExactSameGarmentsUptoRow.holds Try.pinned (OpenSpec.upto fnExactSameGarmentsSpec)

/-- 'laws.FnExactMayMeet', WHERE WHAT IT READS IS OF BULK AT MOST 1048576: true; the input reads as it did. -/
def fnExactMayMeetUptoRow : OpenClaim := { program := "ythodfhcaaidnmaa", sum := "4638cc1a02e0a655f37b7acfd9977d807d0353a0e17f68ad9a9540aec4d0b1bd", func := "loop.example/g01378/laws.FnExactMayMeet", spec := "fnExactMayMeet", unfollowed := true, recurses := true, apart := false, narrowed := true }
def FnExactMayMeetUptoSaid : Prop := fnExactMayMeetUptoRow.holds Try.pinned (OpenSpec.upto fnExactMayMeetSpec)

/-- 'laws.FnExactColourSets', WHERE WHAT IT READS IS OF BULK AT MOST 1048576: true; the input reads as it did. -/
def fnExactColourSetsUptoRow : OpenClaim := { program := "ythodfhcaaidnmaa", sum := "4638cc1a02e0a655f37b7acfd9977d807d0353a0e17f68ad9a9540aec4d0b1bd", func := "loop.example/g01378/laws.FnExactColourSets", spec := "fnExactColourSets", apart := false, narrowed := true }
def FnExactColourSetsUptoSaid : Prop := fnExactColourSetsUptoRow.holds Try.pinned (OpenSpec.upto fnExactColourSetsSpec)

/-- 'laws.FnExactHeatsFor', WHERE WHAT IT READS IS OF BULK AT MOST 1048576: true; the input reads as it did. -/
def fnExactHeatsForUptoRow : OpenClaim := { program := "ythodfhcaaidnmaa", sum := "4638cc1a02e0a655f37b7acfd9977d807d0353a0e17f68ad9a9540aec4d0b1bd", func := "loop.example/g01378/laws.FnExactHeatsFor", spec := "fnExactHeatsFor", unfollowed := true, recurses := true, apart := false, narrowed := true }
def FnExactHeatsForUptoSaid : Prop := fnExactHeatsForUptoRow.holds Try.pinned (OpenSpec.upto fnExactHeatsForSpec)

/-- 'laws.FnExactIsLoad', WHERE WHAT IT READS IS OF BULK AT MOST 1048576: true; the input reads as it did. -/
def fnExactIsLoadUptoRow : OpenClaim := { program := "ythodfhcaaidnmaa", sum := "4638cc1a02e0a655f37b7acfd9977d807d0353a0e17f68ad9a9540aec4d0b1bd", func := "loop.example/g01378/laws.FnExactIsLoad", spec := "fnExactIsLoad", unfollowed := true, recurses := true, apart := false, narrowed := true }
def FnExactIsLoadUptoSaid : Prop := fnExactIsLoadUptoRow.holds Try.pinned (OpenSpec.upto fnExactIsLoadSpec)

/-- 'laws.FnExactCheckLoads', WHERE WHAT IT READS IS OF BULK AT MOST 1048576: true; the input reads as it did. -/
def fnExactCheckLoadsUptoRow : OpenClaim := { program := "ythodfhcaaidnmaa", sum := "4638cc1a02e0a655f37b7acfd9977d807d0353a0e17f68ad9a9540aec4d0b1bd", func := "loop.example/g01378/laws.FnExactCheckLoads", spec := "fnExactCheckLoads", unfollowed := true, recurses := true, apart := false, narrowed := true }
def FnExactCheckLoadsUptoSaid : Prop := fnExactCheckLoadsUptoRow.holds Try.pinned (OpenSpec.upto fnExactCheckLoadsSpec)

/-- 'laws.FnExactGreedyLoads', WHERE WHAT IT READS IS OF BULK AT MOST 1048576: true; the input reads as it did. -/
def fnExactGreedyLoadsUptoRow : OpenClaim := { program := "ythodfhcaaidnmaa", sum := "4638cc1a02e0a655f37b7acfd9977d807d0353a0e17f68ad9a9540aec4d0b1bd", func := "loop.example/g01378/laws.FnExactGreedyLoads", spec := "fnExactGreedyLoads", unfollowed := true, recurses := true, apart := false, narrowed := true }
def FnExactGreedyLoadsUptoSaid : Prop := fnExactGreedyLoadsUptoRow.holds Try.pinned (OpenSpec.upto fnExactGreedyLoadsSpec)

/-- 'laws.FnExactFitsWith', WHERE WHAT IT READS IS OF BULK AT MOST 1048576: true; the input reads as it did. -/
def fnExactFitsWithUptoRow : OpenClaim := { program := "ythodfhcaaidnmaa", sum := "4638cc1a02e0a655f37b7acfd9977d807d0353a0e17f68ad9a9540aec4d0b1bd", func := "loop.example/g01378/laws.FnExactFitsWith", spec := "fnExactFitsWith", unfollowed := true, recurses := true, apart := false, narrowed := true }
def FnExactFitsWithUptoSaid : Prop := fnExactFitsWithUptoRow.holds Try.pinned (OpenSpec.upto fnExactFitsWithSpec)

/-- 'laws.FnExactCostOf', WHERE WHAT IT READS IS OF BULK AT MOST 1048576: true; the input reads as it did. -/
def fnExactCostOfUptoRow : OpenClaim := { program := "ythodfhcaaidnmaa", sum := "4638cc1a02e0a655f37b7acfd9977d807d0353a0e17f68ad9a9540aec4d0b1bd", func := "loop.example/g01378/laws.FnExactCostOf", spec := "fnExactCostOf", unfollowed := true, recurses := true, apart := false, narrowed := true }
def FnExactCostOfUptoSaid : Prop := fnExactCostOfUptoRow.holds Try.pinned (OpenSpec.upto fnExactCostOfSpec)

/-- 'laws.FnExactFewestLoads', WHERE WHAT IT READS IS OF BULK AT MOST 1048576: true; the input reads as it did. -/
def fnExactFewestLoadsUptoRow : OpenClaim := { program := "ythodfhcaaidnmaa", sum := "4638cc1a02e0a655f37b7acfd9977d807d0353a0e17f68ad9a9540aec4d0b1bd", func := "loop.example/g01378/laws.FnExactFewestLoads", spec := "fnExactFewestLoads", unfollowed := true, recurses := true, apart := false, narrowed := true }
def FnExactFewestLoadsUptoSaid : Prop := fnExactFewestLoadsUptoRow.holds Try.pinned (OpenSpec.upto fnExactFewestLoadsSpec)

/-- 'laws.FnExactCheapestLoads', WHERE WHAT IT READS IS OF BULK AT MOST 1048576: true; the input reads as it did. -/
def fnExactCheapestLoadsUptoRow : OpenClaim := { program := "ythodfhcaaidnmaa", sum := "4638cc1a02e0a655f37b7acfd9977d807d0353a0e17f68ad9a9540aec4d0b1bd", func := "loop.example/g01378/laws.FnExactCheapestLoads", spec := "fnExactCheapestLoads", unfollowed := true, recurses := true, apart := false, narrowed := true }
def FnExactCheapestLoadsUptoSaid : Prop := fnExactCheapestLoadsUptoRow.holds Try.pinned (OpenSpec.upto fnExactCheapestLoadsSpec)

end Rows
end Go.Proofs.Ythodfhcaaidnmaa
