/- Words and walks for the law FnLines. -/
import Derived.Test.YtlkpgpnieodifaaTLn17
import Derived.Test.YtlkpgpnieodifaaTLn13
namespace Go.Proofs.YtlkpgpnieodifaaW.PrintWords
open Go.RowKit
end Go.Proofs.YtlkpgpnieodifaaW.PrintWords
namespace Go.Proofs.YtlkpgpnieodifaaW.PrintLast
section
variable {ops : Array Oper} {a : Act} {o og : Oper} {g : Nat} {t : Tmp} {u : Bool}
end
end Go.Proofs.YtlkpgpnieodifaaW.PrintLast
