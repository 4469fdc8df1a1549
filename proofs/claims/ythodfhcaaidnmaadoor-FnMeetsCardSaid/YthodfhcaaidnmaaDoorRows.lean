/-
  NARROWER THAN 'FOR EVERY INPUT', by the rows' own cells (each row's printed sentence says how): FnMeets: laid · FnExactLoadsBound: laid · FnExactApartSet: laid · FnExactGarmentsText: laid · FnExactHeaviestLoad: laid.
  DERIVED. THE GIVEN ROWS OF THIS SEAT. 5 by the template 'for every input the law returns true; each argument reads behind the call as it read before'; 0 by the template 'total and deterministic' (their statements: YthodfhcaaidnmaaDoorTotals.lean).
  GIVEN WITH THE SEED: the statements are not yours to turn. If you find one false, say at which input.
  Laid BY PROGRAM, IN A SANDBOX (cutbox-rows.mjs): the forced cells as the released guide's own fill.sh prints them over the translation a8df3d53f349cc5e… (all of the seat's roots in one cut). By AI agents, Wed Nov 11 2026. No macro, syntax, notation, axiom, sorry.
-/
import Derived.Test.YthodfhcaaidnmaaDoorChecked
import GoSem.Claim
import GoSem.ClaimJoined
import GoSem.ClaimMapViews
import Derived.JoinedTies
import Derived.KernelRfl
namespace Go.Proofs.YthodfhcaaidnmaaDoor
/- THE CELL 'sum', in the pinned program and in every row, IS THE sha256 OF THE DUMP (.gsa) THAT YthodfhcaaidnmaaDoorProg.lean LOADS. Nothing in Lean hashes anything: it is a label: what it is worth is what the hold of that sum in a sandbox is worth. -/
noncomputable def Tryd.pinned : Pinned := { name := "ythodfhcaaidnmaadoor", sum := "a8df3d53f349cc5ef6b55b83944d8da46d49390200d7e54510b7485ae08534df", checked := Tryd.checked }
namespace Rows
def none {H : Type} : Left H := { results := [], args := [] }

/- WHAT THE LISTED PACKAGE-LEVEL VARIABLES READ AS WHEN THE CALL BEGINS. Each datum BY PROGRAM (the guide's laid-datum.mjs) off the statement by which the dump's own 'gosem.cut.vars' lays the variable. In a bare row this is a premise. The card (YthodfhcaaidnmaaDoorCards.lean) ties it to the program's text. -/
def laid_math_bits_deBruijn32tab {H : Type} : DataW H := .agg [.lit (.int .u8 0), .lit (.int .u8 1), .lit (.int .u8 28), .lit (.int .u8 2), .lit (.int .u8 29), .lit (.int .u8 14), .lit (.int .u8 24), .lit (.int .u8 3), .lit (.int .u8 30), .lit (.int .u8 22), .lit (.int .u8 20), .lit (.int .u8 15), .lit (.int .u8 25), .lit (.int .u8 17), .lit (.int .u8 4), .lit (.int .u8 8), .lit (.int .u8 31), .lit (.int .u8 27), .lit (.int .u8 13), .lit (.int .u8 23), .lit (.int .u8 21), .lit (.int .u8 19), .lit (.int .u8 16), .lit (.int .u8 7), .lit (.int .u8 26), .lit (.int .u8 12), .lit (.int .u8 18), .lit (.int .u8 6), .lit (.int .u8 11), .lit (.int .u8 5), .lit (.int .u8 10), .lit (.int .u8 9)]
def laid_math_bits_deBruijn64tab {H : Type} : DataW H := .agg [.lit (.int .u8 0), .lit (.int .u8 1), .lit (.int .u8 56), .lit (.int .u8 2), .lit (.int .u8 57), .lit (.int .u8 49), .lit (.int .u8 28), .lit (.int .u8 3), .lit (.int .u8 61), .lit (.int .u8 58), .lit (.int .u8 42), .lit (.int .u8 50), .lit (.int .u8 38), .lit (.int .u8 29), .lit (.int .u8 17), .lit (.int .u8 4), .lit (.int .u8 62), .lit (.int .u8 47), .lit (.int .u8 59), .lit (.int .u8 36), .lit (.int .u8 45), .lit (.int .u8 43), .lit (.int .u8 51), .lit (.int .u8 22), .lit (.int .u8 53), .lit (.int .u8 39), .lit (.int .u8 33), .lit (.int .u8 30), .lit (.int .u8 24), .lit (.int .u8 18), .lit (.int .u8 12), .lit (.int .u8 5), .lit (.int .u8 63), .lit (.int .u8 55), .lit (.int .u8 48), .lit (.int .u8 27), .lit (.int .u8 60), .lit (.int .u8 41), .lit (.int .u8 37), .lit (.int .u8 16), .lit (.int .u8 46), .lit (.int .u8 35), .lit (.int .u8 44), .lit (.int .u8 21), .lit (.int .u8 52), .lit (.int .u8 32), .lit (.int .u8 23), .lit (.int .u8 11), .lit (.int .u8 54), .lit (.int .u8 26), .lit (.int .u8 40), .lit (.int .u8 15), .lit (.int .u8 34), .lit (.int .u8 20), .lit (.int .u8 31), .lit (.int .u8 10), .lit (.int .u8 25), .lit (.int .u8 14), .lit (.int .u8 19), .lit (.int .u8 9), .lit (.int .u8 13), .lit (.int .u8 8), .lit (.int .u8 7), .lit (.int .u8 6)]
def laid_internal_strconv_uint64pow10 {H : Type} : DataW H := .agg [.lit (.int .u64 1), .lit (.int .u64 10), .lit (.int .u64 100), .lit (.int .u64 1000), .lit (.int .u64 10000), .lit (.int .u64 100000), .lit (.int .u64 1000000), .lit (.int .u64 10000000), .lit (.int .u64 100000000), .lit (.int .u64 1000000000), .lit (.int .u64 10000000000), .lit (.int .u64 100000000000), .lit (.int .u64 1000000000000), .lit (.int .u64 10000000000000), .lit (.int .u64 100000000000000), .lit (.int .u64 1000000000000000), .lit (.int .u64 10000000000000000), .lit (.int .u64 100000000000000000), .lit (.int .u64 1000000000000000000), .lit (.int .u64 10000000000000000000)]

/-- 'laws.FnMeets': WHATEVER THE INPUT: true; the input reads as it did. -/
def fnMeetsSpec : ChangeSpec := { name := "fnMeets", fn := fun _ => fun
  | [d1, d2] => { results := [.lit (.bool true)], args := [d1, d2] }
  | _ => none }
def fnMeetsRow : OpenClaim := { program := "ythodfhcaaidnmaadoor", sum := "a8df3d53f349cc5ef6b55b83944d8da46d49390200d7e54510b7485ae08534df", func := "loop.example/g01378/laws.FnMeets", spec := "fnMeets", unfollowed := true, recurses := true, named := ["math/bits.deBruijn32tab", "math/bits.deBruijn64tab"], apart := false, laid := [("math/bits.deBruijn32tab", laid_math_bits_deBruijn32tab), ("math/bits.deBruijn64tab", laid_math_bits_deBruijn64tab)] }
def FnMeetsSaid : Prop := fnMeetsRow.holds Tryd.pinned (OpenSpec.ofChange fnMeetsSpec)

/-- ITS FALSE NEIGHBOUR: 'it returns false'. Refute it at one input. -/
def fnMeetsWrong : ChangeSpec := { name := "fnMeets", fn := fun _ => fun
  | [d1, d2] => { results := [.lit (.bool false)], args := [d1, d2] }
  | _ => none }
def FnMeetsWrongFalsely : Prop := fnMeetsRow.holds Tryd.pinned (OpenSpec.ofChange fnMeetsWrong)

/-- 'laws.FnExactLoadsBound': WHATEVER THE INPUT: true; the input reads as it did. -/
def fnExactLoadsBoundSpec : ChangeSpec := { name := "fnExactLoadsBound", fn := fun _ => fun
  | [d1, d2, d3] => { results := [.lit (.bool true)], args := [d1, d2, d3] }
  | _ => none }
def fnExactLoadsBoundRow : OpenClaim := { program := "ythodfhcaaidnmaadoor", sum := "a8df3d53f349cc5ef6b55b83944d8da46d49390200d7e54510b7485ae08534df", func := "loop.example/g01378/laws.FnExactLoadsBound", spec := "fnExactLoadsBound", unfollowed := true, recurses := true, named := ["math/bits.deBruijn32tab", "math/bits.deBruijn64tab"], apart := false, laid := [("math/bits.deBruijn32tab", laid_math_bits_deBruijn32tab), ("math/bits.deBruijn64tab", laid_math_bits_deBruijn64tab)] }
def FnExactLoadsBoundSaid : Prop := fnExactLoadsBoundRow.holds Tryd.pinned (OpenSpec.ofChange fnExactLoadsBoundSpec)

/-- ITS FALSE NEIGHBOUR: 'it returns false'. Refute it at one input. -/
def fnExactLoadsBoundWrong : ChangeSpec := { name := "fnExactLoadsBound", fn := fun _ => fun
  | [d1, d2, d3] => { results := [.lit (.bool false)], args := [d1, d2, d3] }
  | _ => none }
def FnExactLoadsBoundWrongFalsely : Prop := fnExactLoadsBoundRow.holds Tryd.pinned (OpenSpec.ofChange fnExactLoadsBoundWrong)

/-- 'laws.FnExactApartSet': WHATEVER THE INPUT: true; the input reads as it did. -/
def fnExactApartSetSpec : ChangeSpec := { name := "fnExactApartSet", fn := fun _ => fun
  | [d1, d2] => { results := [.lit (.bool true)], args := [d1, d2] }
  | _ => none }
def fnExactApartSetRow : OpenClaim := { program := "ythodfhcaaidnmaadoor", sum := "a8df3d53f349cc5ef6b55b83944d8da46d49390200d7e54510b7485ae08534df", func := "loop.example/g01378/laws.FnExactApartSet", spec := "fnExactApartSet", unfollowed := true, recurses := true, named := ["math/bits.deBruijn32tab", "math/bits.deBruijn64tab"], apart := false, laid := [("math/bits.deBruijn32tab", laid_math_bits_deBruijn32tab), ("math/bits.deBruijn64tab", laid_math_bits_deBruijn64tab)] }
def FnExactApartSetSaid : Prop := fnExactApartSetRow.holds Tryd.pinned (OpenSpec.ofChange fnExactApartSetSpec)

/-- ITS FALSE NEIGHBOUR: 'it returns false'. Refute it at one input. -/
def fnExactApartSetWrong : ChangeSpec := { name := "fnExactApartSet", fn := fun _ => fun
  | [d1, d2] => { results := [.lit (.bool false)], args := [d1, d2] }
  | _ => none }
def FnExactApartSetWrongFalsely : Prop := fnExactApartSetRow.holds Tryd.pinned (OpenSpec.ofChange fnExactApartSetWrong)

/-- 'laws.FnExactGarmentsText': WHATEVER THE INPUT: true; the input reads as it did. -/
def fnExactGarmentsTextSpec : ChangeSpec := { name := "fnExactGarmentsText", fn := fun _ => fun
  | [d] => { results := [.lit (.bool true)], args := [d] }
  | _ => none }
def fnExactGarmentsTextRow : OpenClaim := { program := "ythodfhcaaidnmaadoor", sum := "a8df3d53f349cc5ef6b55b83944d8da46d49390200d7e54510b7485ae08534df", func := "loop.example/g01378/laws.FnExactGarmentsText", spec := "fnExactGarmentsText", inPlace := ["internal/abi.NoEscape"], unfollowed := true, recurses := true, named := ["internal/strconv.uint64pow10", "math/bits.deBruijn32tab", "math/bits.deBruijn64tab"], apart := false, laid := [("math/bits.deBruijn32tab", laid_math_bits_deBruijn32tab), ("math/bits.deBruijn64tab", laid_math_bits_deBruijn64tab), ("internal/strconv.uint64pow10", laid_internal_strconv_uint64pow10)] }
def FnExactGarmentsTextSaid : Prop := fnExactGarmentsTextRow.holds Tryd.pinned (OpenSpec.ofChange fnExactGarmentsTextSpec)

/-- ITS FALSE NEIGHBOUR: 'it returns false'. Refute it at one input. -/
def fnExactGarmentsTextWrong : ChangeSpec := { name := "fnExactGarmentsText", fn := fun _ => fun
  | [d] => { results := [.lit (.bool false)], args := [d] }
  | _ => none }
def FnExactGarmentsTextWrongFalsely : Prop := fnExactGarmentsTextRow.holds Tryd.pinned (OpenSpec.ofChange fnExactGarmentsTextWrong)

/-- 'laws.FnExactHeaviestLoad': WHATEVER THE INPUT: true; the input reads as it did. -/
def fnExactHeaviestLoadSpec : ChangeSpec := { name := "fnExactHeaviestLoad", fn := fun _ => fun
  | [d1, d2, d3] => { results := [.lit (.bool true)], args := [d1, d2, d3] }
  | _ => none }
def fnExactHeaviestLoadRow : OpenClaim := { program := "ythodfhcaaidnmaadoor", sum := "a8df3d53f349cc5ef6b55b83944d8da46d49390200d7e54510b7485ae08534df", func := "loop.example/g01378/laws.FnExactHeaviestLoad", spec := "fnExactHeaviestLoad", unfollowed := true, recurses := true, named := ["math/bits.deBruijn32tab", "math/bits.deBruijn64tab"], apart := false, laid := [("math/bits.deBruijn32tab", laid_math_bits_deBruijn32tab), ("math/bits.deBruijn64tab", laid_math_bits_deBruijn64tab)] }
def FnExactHeaviestLoadSaid : Prop := fnExactHeaviestLoadRow.holds Tryd.pinned (OpenSpec.ofChange fnExactHeaviestLoadSpec)

/-- ITS FALSE NEIGHBOUR: 'it returns false'. Refute it at one input. -/
def fnExactHeaviestLoadWrong : ChangeSpec := { name := "fnExactHeaviestLoad", fn := fun _ => fun
  | [d1, d2, d3] => { results := [.lit (.bool false)], args := [d1, d2, d3] }
  | _ => none }
def FnExactHeaviestLoadWrongFalsely : Prop := fnExactHeaviestLoadRow.holds Tryd.pinned (OpenSpec.ofChange fnExactHeaviestLoadWrong)

/- THE SECOND FORM. 'bulk': how many values and letters a reading holds, each counted each time it is reached (what is shared counts as often as it is met; a slice's spare places count too). A statement '..UptoSaid' is the law's where the arguments, and the package variables that the reading takes, are together of bulk at most 1048576: NARROWER than '..Said'. Prove '..Said' where nothing that the law and all that it calls make is longer than what came in: it says more and counts as full. Else prove '..UptoSaid'. A law counts once. -/
mutual
def uptoBulk {H : Type} : DataW H → Nat
  | .lit (.string bytes) => bytes.length + 1
  | .lit _ => 1
  | .nil => 1
  | .ptr d => uptoBulk d + 1
  | .slice elems spare => uptoBulkAll elems + uptoBulkAll spare + 1
  | .agg parts => uptoBulkAll parts + 1
  | .iface _ d => uptoBulk d + 1
  | .map entries => uptoBulkEntries entries + 1
  | .held _ => 1
def uptoBulkAll {H : Type} : List (DataW H) → Nat
  | [] => 0
  | d :: r => uptoBulk d + uptoBulkAll r
def uptoBulkEntries {H : Type} : List (Lit × DataW H) → Nat
  | [] => 0
  | x :: r => uptoBulkEntry x + uptoBulkEntries r
def uptoBulkEntry {H : Type} : Lit × DataW H → Nat
  | (.string bytes, d) => bytes.length + uptoBulk d + 1
  | (_, d) => uptoBulk d + 1
 end
def uptoSmall : (H : Type) → List (DataW H) → Bool := fun _ ds => decide (uptoBulkAll ds ≤ 1048576)
def OpenSpec.upto (s : _root_.Go.ChangeSpec) : _root_.Go.OpenSpec := { _root_.Go.OpenSpec.ofChange s with cond := some uptoSmall }

/-- 'laws.FnMeets', WHERE WHAT IT READS IS OF BULK AT MOST 1048576: true; the input reads as it did. -/
def fnMeetsUptoRow : OpenClaim := { program := "ythodfhcaaidnmaadoor", sum := "a8df3d53f349cc5ef6b55b83944d8da46d49390200d7e54510b7485ae08534df", func := "loop.example/g01378/laws.FnMeets", spec := "fnMeets", unfollowed := true, recurses := true, named := ["math/bits.deBruijn32tab", "math/bits.deBruijn64tab"], apart := false, laid := [("math/bits.deBruijn32tab", laid_math_bits_deBruijn32tab), ("math/bits.deBruijn64tab", laid_math_bits_deBruijn64tab)], narrowed := true }
def FnMeetsUptoSaid : Prop := fnMeetsUptoRow.holds Tryd.pinned (OpenSpec.upto fnMeetsSpec)

/-- 'laws.FnExactLoadsBound', WHERE WHAT IT READS IS OF BULK AT MOST 1048576: true; the input reads as it did. -/
def fnExactLoadsBoundUptoRow : OpenClaim := { program := "ythodfhcaaidnmaadoor", sum := "a8df3d53f349cc5ef6b55b83944d8da46d49390200d7e54510b7485ae08534df", func := "loop.example/g01378/laws.FnExactLoadsBound", spec := "fnExactLoadsBound", unfollowed := true, recurses := true, named := ["math/bits.deBruijn32tab", "math/bits.deBruijn64tab"], apart := false, laid := [("math/bits.deBruijn32tab", laid_math_bits_deBruijn32tab), ("math/bits.deBruijn64tab", laid_math_bits_deBruijn64tab)], narrowed := true }
def FnExactLoadsBoundUptoSaid : Prop := fnExactLoadsBoundUptoRow.holds Tryd.pinned (OpenSpec.upto fnExactLoadsBoundSpec)

/-- 'laws.FnExactApartSet', WHERE WHAT IT READS IS OF BULK AT MOST 1048576: true; the input reads as it did. -/
def fnExactApartSetUptoRow : OpenClaim := { program := "ythodfhcaaidnmaadoor", sum := "a8df3d53f349cc5ef6b55b83944d8da46d49390200d7e54510b7485ae08534df", func := "loop.example/g01378/laws.FnExactApartSet", spec := "fnExactApartSet", unfollowed := true, recurses := true, named := ["math/bits.deBruijn32tab", "math/bits.deBruijn64tab"], apart := false, laid := [("math/bits.deBruijn32tab", laid_math_bits_deBruijn32tab), ("math/bits.deBruijn64tab", laid_math_bits_deBruijn64tab)], narrowed := true }
def FnExactApartSetUptoSaid : Prop := fnExactApartSetUptoRow.holds Tryd.pinned (OpenSpec.upto fnExactApartSetSpec)

/-- 'laws.FnExactGarmentsText', WHERE WHAT IT READS IS OF BULK AT MOST 1048576: true; the input reads as it did. -/
def fnExactGarmentsTextUptoRow : OpenClaim := { program := "ythodfhcaaidnmaadoor", sum := "a8df3d53f349cc5ef6b55b83944d8da46d49390200d7e54510b7485ae08534df", func := "loop.example/g01378/laws.FnExactGarmentsText", spec := "fnExactGarmentsText", inPlace := ["internal/abi.NoEscape"], unfollowed := true, recurses := true, named := ["internal/strconv.uint64pow10", "math/bits.deBruijn32tab", "math/bits.deBruijn64tab"], apart := false, laid := [("math/bits.deBruijn32tab", laid_math_bits_deBruijn32tab), ("math/bits.deBruijn64tab", laid_math_bits_deBruijn64tab), ("internal/strconv.uint64pow10", laid_internal_strconv_uint64pow10)], narrowed := true }
def FnExactGarmentsTextUptoSaid : Prop := fnExactGarmentsTextUptoRow.holds Tryd.pinned (OpenSpec.upto fnExactGarmentsTextSpec)

/-- 'laws.FnExactHeaviestLoad', WHERE WHAT IT READS IS OF BULK AT MOST 1048576: true; the input reads as it did. -/
def fnExactHeaviestLoadUptoRow : OpenClaim := { program := "ythodfhcaaidnmaadoor", sum := "a8df3d53f349cc5ef6b55b83944d8da46d49390200d7e54510b7485ae08534df", func := "loop.example/g01378/laws.FnExactHeaviestLoad", spec := "fnExactHeaviestLoad", unfollowed := true, recurses := true, named := ["math/bits.deBruijn32tab", "math/bits.deBruijn64tab"], apart := false, laid := [("math/bits.deBruijn32tab", laid_math_bits_deBruijn32tab), ("math/bits.deBruijn64tab", laid_math_bits_deBruijn64tab)], narrowed := true }
def FnExactHeaviestLoadUptoSaid : Prop := fnExactHeaviestLoadUptoRow.holds Tryd.pinned (OpenSpec.upto fnExactHeaviestLoadSpec)

end Rows
end Go.Proofs.YthodfhcaaidnmaaDoor
