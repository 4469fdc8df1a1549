/- Words and walks for the law FnExactFitsWith. -/
import Derived.Test.YthodfhcaaidnmaaTFw17
import Derived.Test.YthodfhcaaidnmaaTFw13
namespace Go.Proofs.YthodfhcaaidnmaaW.PrintWords
open Go.RowKit
end Go.Proofs.YthodfhcaaidnmaaW.PrintWords
namespace Go.Proofs.YthodfhcaaidnmaaW.PrintLast
section
variable {ops : Array Oper} {a : Act} {o og : Oper} {g : Nat} {t : Tmp} {u : Bool}
end
end Go.Proofs.YthodfhcaaidnmaaW.PrintLast
