/- Words and walks for the law FnExactLoadsBound. -/
import Derived.Test.YthodfhcaaidnmaaDoorTLb18
import Derived.Test.YthodfhcaaidnmaaDoorTLb14
namespace Go.Proofs.YthodfhcaaidnmaaDoorW.PrintWords
open Go.RowKit
end Go.Proofs.YthodfhcaaidnmaaDoorW.PrintWords
namespace Go.Proofs.YthodfhcaaidnmaaDoorW.PrintLast
section
variable {ops : Array Oper} {a : Act} {o og : Oper} {g : Nat} {t : Tmp} {u : Bool}
end
end Go.Proofs.YthodfhcaaidnmaaDoorW.PrintLast
