/-
  No cell of these rows narrows 'for every input' (looked for: loops, veiled, ifaces, maps, wideKeys, modest, calm, conditions, laid).
  DERIVED. THE GIVEN ROWS OF THIS SEAT. 3 by the template 'for every input the law returns true; each argument reads behind the call as it read before'; 0 by the template 'total and deterministic' (their statements: YtanalckdmamepaaTotals.lean).
  GIVEN WITH THE SEED: the statements are not yours to turn. If you find one false, say at which input.
  Laid BY PROGRAM, IN A SANDBOX (cutbox-rows.mjs): the forced cells as the released guide's own fill.sh prints them over the translation 5a5d0fec200045d1… (all of the seat's roots in one cut). By AI agents, Wed Nov 11 2026. No macro, syntax, notation, axiom, sorry.
-/
import Derived.Test.YtanalckdmamepaaChecked
import GoSem.Claim
import GoSem.ClaimJoined
import GoSem.ClaimMapViews
import Derived.JoinedTies
import Derived.KernelRfl
namespace Go.Proofs.Ytanalckdmamepaa
/- THE CELL 'sum', in the pinned program and in every row, IS THE sha256 OF THE DUMP (.gsa) THAT YtanalckdmamepaaProg.lean LOADS. Nothing in Lean hashes anything: it is a label: what it is worth is what the hold of that sum in a sandbox is worth. -/
noncomputable def Try.pinned : Pinned := { name := "ytanalckdmamepaa", sum := "5a5d0fec200045d1f4e8f992282fc06c8dbbf5d6825f4e134750db1a0e4ee6a4", checked := Try.checked }
namespace Rows
def none {H : Type} : Left H := { results := [], args := [] }

/-- 'laws.FnExactValidDay': WHATEVER THE INPUT: true; the input reads as it did. -/
def fnExactValidDaySpec : ChangeSpec := { name := "fnExactValidDay", fn := fun _ => fun
  | [d] => { results := [.lit (.bool true)], args := [d] }
  | _ => none }
def fnExactValidDayRow : OpenClaim := { program := "ytanalckdmamepaa", sum := "5a5d0fec200045d1f4e8f992282fc06c8dbbf5d6825f4e134750db1a0e4ee6a4", func := "loop.example/g01378/laws.FnExactValidDay", spec := "fnExactValidDay", unfollowed := true, recurses := true, apart := false }
def FnExactValidDaySaid : Prop := fnExactValidDayRow.holds Try.pinned (OpenSpec.ofChange fnExactValidDaySpec)

/-- ITS FALSE NEIGHBOUR: 'it returns false'. Refute it at one input. -/
def fnExactValidDayWrong : ChangeSpec := { name := "fnExactValidDay", fn := fun _ => fun
  | [d] => { results := [.lit (.bool false)], args := [d] }
  | _ => none }
def FnExactValidDayWrongFalsely : Prop := fnExactValidDayRow.holds Try.pinned (OpenSpec.ofChange fnExactValidDayWrong)

/-- 'laws.FnExactLongestDry': WHATEVER THE INPUT: true; the input reads as it did. -/
def fnExactLongestDrySpec : ChangeSpec := { name := "fnExactLongestDry", fn := fun _ => fun
  | [d] => { results := [.lit (.bool true)], args := [d] }
  | _ => none }
def fnExactLongestDryRow : OpenClaim := { program := "ytanalckdmamepaa", sum := "5a5d0fec200045d1f4e8f992282fc06c8dbbf5d6825f4e134750db1a0e4ee6a4", func := "loop.example/g01378/laws.FnExactLongestDry", spec := "fnExactLongestDry", unfollowed := true, recurses := true, apart := false }
def FnExactLongestDrySaid : Prop := fnExactLongestDryRow.holds Try.pinned (OpenSpec.ofChange fnExactLongestDrySpec)

/-- ITS FALSE NEIGHBOUR: 'it returns false'. Refute it at one input. -/
def fnExactLongestDryWrong : ChangeSpec := { name := "fnExactLongestDry", fn := fun _ => fun
  | [d] => { results := [.lit (.bool false)], args := [d] }
  | _ => none }
def FnExactLongestDryWrongFalsely : Prop := fnExactLongestDryRow.holds Try.pinned (OpenSpec.ofChange fnExactLongestDryWrong)

/-- 'laws.FnExactDryHour': WHATEVER THE INPUT: true; the input reads as it did. -/
def fnExactDryHourSpec : ChangeSpec := { name := "fnExactDryHour", fn := fun _ => fun
  | [d1, d2, d3] => { results := [.lit (.bool true)], args := [d1, d2, d3] }
  | _ => none }
def fnExactDryHourRow : OpenClaim := { program := "ytanalckdmamepaa", sum := "5a5d0fec200045d1f4e8f992282fc06c8dbbf5d6825f4e134750db1a0e4ee6a4", func := "loop.example/g01378/laws.FnExactDryHour", spec := "fnExactDryHour", unfollowed := true, recurses := true, apart := false }
def FnExactDryHourSaid : Prop := fnExactDryHourRow.holds Try.pinned (OpenSpec.ofChange fnExactDryHourSpec)

/-- ITS FALSE NEIGHBOUR: 'it returns false'. Refute it at one input. -/
def fnExactDryHourWrong : ChangeSpec := { name := "fnExactDryHour", fn := fun _ => fun
  | [d1, d2, d3] => { results := [.lit (.bool false)], args := [d1, d2, d3] }
  | _ => none }
def FnExactDryHourWrongFalsely : Prop := fnExactDryHourRow.holds Try.pinned (OpenSpec.ofChange fnExactDryHourWrong)

/- THE SECOND FORM. 'bulk': how many values and letters a reading holds, each counted each time it is reached (what is shared counts as often as it is met; a slice's spare places count too). A statement '..UptoSaid' is the law's where the arguments, and the package variables that the reading takes, are together of bulk at most 1048576: NARROWER than '..Said'. Prove '..Said' where nothing that the law and all that it calls make is longer than what came in: it says more and counts as full. Else prove '..UptoSaid'. A law counts once. -/
mutual
def uptoBulk {H : Type} : DataW H → Nat
  | .lit (.string bytes) => bytes.length + 1
  | .lit _ => 1
  | .nil => 1
  | .ptr d => uptoBulk d + 1
  | .slice elems spare => uptoBulkAll elems + uptoBulkAll spare + 1
  | .agg parts => uptoBulkAll parts + 1
  | .iface _ d => uptoBulk d + 1
  | .map entries => uptoBulkEntries entries + 1
  | .held _ => 1
def uptoBulkAll {H : Type} : List (DataW H) → Nat
  | [] => 0
  | d :: r => uptoBulk d + uptoBulkAll r
def uptoBulkEntries {H : Type} : List (Lit × DataW H) → Nat
  | [] => 0
  | x :: r => uptoBulkEntry x + uptoBulkEntries r
def uptoBulkEntry {H : Type} : Lit × DataW H → Nat
  | (.string bytes, d) => bytes.length + uptoBulk d + 1
  | (_, d) => uptoBulk d + 1
 end
def uptoSmall : (H : Type) → List (DataW H) → Bool := fun _ ds => decide (uptoBulkAll ds ≤ 1048576)
def OpenSpec.upto (s : _root_.Go.ChangeSpec) : _root_.Go.OpenSpec := { _root_.Go.OpenSpec.ofChange s with cond := some uptoSmall }

/-- 'laws.FnExactValidDay', WHERE WHAT IT READS IS OF BULK AT MOST 1048576: true; the input reads as it did. -/
def fnExactValidDayUptoRow : OpenClaim := { program := "ytanalckdmamepaa", sum := "5a5d0fec200045d1f4e8f992282fc06c8dbbf5d6825f4e134750db1a0e4ee6a4", func := "loop.example/g01378/laws.FnExactValidDay", spec := "fnExactValidDay", unfollowed := true, recurses := true, apart := false, narrowed := true }
def FnExactValidDayUptoSaid : Prop := fnExactValidDayUptoRow.holds Try.pinned (OpenSpec.upto fnExactValidDaySpec)

/-- 'laws.FnExactLongestDry', WHERE WHAT IT READS IS OF BULK AT MOST 1048576: true; the input reads as it did. -/
def fnExactLongestDryUptoRow : OpenClaim := { program := "ytanalckdmamepaa", sum := "5a5d0fec200045d1f4e8f992282fc06c8dbbf5d6825f4e134750db1a0e4ee6a4", func := "loop.example/g01378/laws.FnExactLongestDry", spec := "fnExactLongestDry", unfollowed := true, recurses := true, apart := false, narrowed := true }
def FnExactLongestDryUptoSaid : Prop := fnExactLongestDryUptoRow.holds Try.pinned (OpenSpec.upto fnExactLongestDrySpec)

/-- 'laws.FnExactDryHour', WHERE WHAT IT READS IS OF BULK AT MOST 1048576: true; the input reads as it did. -/
def fnExactDryHourUptoRow : OpenClaim := { program := "ytanalckdmamepaa", sum := "5a5d0fec200045d1f4e8f992282fc06c8dbbf5d6825f4e134750db1a0e4ee6a4", func := "loop.example/g01378/laws.FnExactDryHour", spec := "fnExactDryHour", unfollowed := true, recurses := true, apart := false, narrowed := true }
def FnExactDryHourUptoSaid : Prop := fnExactDryHourUptoRow.holds Try.pinned (OpenSpec.upto fnExactDryHourSpec)

end Rows
end Go.Proofs.Ytanalckdmamepaa
