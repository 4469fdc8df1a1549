/- Words and walks for the law FnExactClothsText. -/
import Derived.Test.YtlkpgpnieodifaaDoorTCt18
import Derived.Test.YtlkpgpnieodifaaDoorTCt14
namespace Go.Proofs.YtlkpgpnieodifaaDoorW.PrintWords
open Go.RowKit
end Go.Proofs.YtlkpgpnieodifaaDoorW.PrintWords
namespace Go.Proofs.YtlkpgpnieodifaaDoorW.PrintLast
section
variable {ops : Array Oper} {a : Act} {o og : Oper} {g : Nat} {t : Tmp} {u : Bool}
end
end Go.Proofs.YtlkpgpnieodifaaDoorW.PrintLast
