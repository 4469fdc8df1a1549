/- Words and walks for the law FnExactFitsWith. -/
import Derived.Test.YthodfhcaaidnmaaTFw0
import Derived.Laws.StructEq
namespace Go.Proofs.YthodfhcaaidnmaaW.PrintWords
open Go.RowKit
section
variable {P : Program} {d : Nat} {xs ys : Array Value} {f : Field} {fs : List Field} {a b : Value} {r s : Bool} {w : World}
end
end Go.Proofs.YthodfhcaaidnmaaW.PrintWords
