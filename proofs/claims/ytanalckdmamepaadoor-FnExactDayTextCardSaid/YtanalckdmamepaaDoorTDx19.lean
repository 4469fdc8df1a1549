/- Words and walks for the law FnExactDayText. -/
import Derived.Test.YtanalckdmamepaaDoorTDx18
import Derived.Test.YtanalckdmamepaaDoorTDx14
namespace Go.Proofs.YtanalckdmamepaaDoorW.PrintWords
open Go.RowKit
end Go.Proofs.YtanalckdmamepaaDoorW.PrintWords
namespace Go.Proofs.YtanalckdmamepaaDoorW.PrintLast
section
variable {ops : Array Oper} {a : Act} {o og : Oper} {g : Nat} {t : Tmp} {u : Bool}
end
end Go.Proofs.YtanalckdmamepaaDoorW.PrintLast
