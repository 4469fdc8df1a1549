/- Words and walks for the law FnExactClothsText. -/
import Derived.Test.YtlkpgpnieodifaaDoorTCt0
import Derived.Laws.StructEq
namespace Go.Proofs.YtlkpgpnieodifaaDoorW.PrintWords
open Go.RowKit
section
variable {P : Program} {d : Nat} {xs ys : Array Value} {f : Field} {fs : List Field} {a b : Value} {r s : Bool} {w : World}
end
end Go.Proofs.YtlkpgpnieodifaaDoorW.PrintWords
