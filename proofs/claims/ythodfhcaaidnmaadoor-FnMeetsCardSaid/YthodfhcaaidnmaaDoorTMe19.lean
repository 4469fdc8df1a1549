/- Words and walks for the law FnMeets. -/
import Derived.Test.YthodfhcaaidnmaaDoorTMe18
import Derived.Test.YthodfhcaaidnmaaDoorTMe14
namespace Go.Proofs.YthodfhcaaidnmaaDoorW.PrintWords
open Go.RowKit
end Go.Proofs.YthodfhcaaidnmaaDoorW.PrintWords
namespace Go.Proofs.YthodfhcaaidnmaaDoorW.PrintLast
section
variable {ops : Array Oper} {a : Act} {o og : Oper} {g : Nat} {t : Tmp} {u : Bool}
end
end Go.Proofs.YthodfhcaaidnmaaDoorW.PrintLast
