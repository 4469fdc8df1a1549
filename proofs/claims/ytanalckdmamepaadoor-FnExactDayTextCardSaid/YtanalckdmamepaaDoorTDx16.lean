/- Words and walks for the law FnExactDayText. -/
import Derived.Test.YtanalckdmamepaaDoorTDx0
import Derived.Laws.StructEq
namespace Go.Proofs.YtanalckdmamepaaDoorW.PrintWords
open Go.RowKit
section
variable {P : Program} {d : Nat} {xs ys : Array Value} {f : Field} {fs : List Field} {a b : Value} {r s : Bool} {w : World}
end
end Go.Proofs.YtanalckdmamepaaDoorW.PrintWords
