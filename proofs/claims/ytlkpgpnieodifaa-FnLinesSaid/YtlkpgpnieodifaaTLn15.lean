/- Words and walks for the law FnLines. -/
import Derived.Test.YtlkpgpnieodifaaTLn0
import Derived.Laws.StructEq
namespace Go.Proofs.YtlkpgpnieodifaaW.PrintWords
open Go.RowKit
section
variable {P : Program} {d : Nat} {xs ys : Array Value} {f : Field} {fs : List Field} {a b : Value} {r s : Bool} {w : World}
end
end Go.Proofs.YtlkpgpnieodifaaW.PrintWords
