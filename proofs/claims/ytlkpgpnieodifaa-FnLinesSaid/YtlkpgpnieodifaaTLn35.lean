/- Words and walks for the law FnLines. -/
import Derived.Test.YtlkpgpnieodifaaRows
import Derived.JoinedOf
import Derived.WalkKit
import Derived.ProofKit
namespace Go.Proofs.Ytlkpgpnieodifaa.Facts
open Go.ChangeShapes Go.WideShapes Go.ChangeAt Go.RowKit
theorem and_t {a b : Bool} (h : a = true) (k : b = true) : (a && b) = true := by rw [h, k]; rfl
theorem mayEnter : Program.mayEnter Try.prog = true := by kernel_rfl
theorem lifts : (false == Program.liftsFinal Try.prog) = true := by kernel_rfl
theorem made : (Program.make Try.prog == some Make.cut) = true := by kernel_rfl
end Go.Proofs.Ytlkpgpnieodifaa.Facts
