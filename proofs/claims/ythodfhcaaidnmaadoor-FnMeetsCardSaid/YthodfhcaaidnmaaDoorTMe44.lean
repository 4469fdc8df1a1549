/- Words and walks for the law FnMeets. -/
import Derived.Test.YthodfhcaaidnmaaDoorRows
import Derived.JoinedOf
import Derived.WalkKit
import Derived.ProofKit
namespace Go.Proofs.YthodfhcaaidnmaaDoor.Facts
open Go.ChangeShapes Go.WideShapes Go.ChangeAt Go.RowKit
theorem and_t {a b : Bool} (h : a = true) (k : b = true) : (a && b) = true := by rw [h, k]; rfl
theorem mayEnter : Program.mayEnter Tryd.prog = true := by kernel_rfl
theorem lifts : (false == Program.liftsFinal Tryd.prog) = true := by kernel_rfl
theorem made : (Program.make Tryd.prog == some Make.cut) = true := by kernel_rfl
end Go.Proofs.YthodfhcaaidnmaaDoor.Facts
