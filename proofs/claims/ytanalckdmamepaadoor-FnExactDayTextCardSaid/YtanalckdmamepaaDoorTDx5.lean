/- Words and walks for the law FnExactDayText. -/
import Derived.Test.YtanalckdmamepaaDoorTDx4
namespace Go.Proofs.YtanalckdmamepaaDoorW.PrintLast
section
variable {P : Program} {ops : Array Oper} {Q : Exit → Act → World → Prop} {md : Region.Mode} {S : World → Prop} {ds : List Nat} {T : Bool × List (List Nat × List Nat)}
end
end Go.Proofs.YtanalckdmamepaaDoorW.PrintLast
