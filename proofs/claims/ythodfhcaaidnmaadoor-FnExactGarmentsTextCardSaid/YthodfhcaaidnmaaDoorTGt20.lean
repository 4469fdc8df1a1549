/- Words and walks for the law FnExactGarmentsText. -/
import Derived.Test.YthodfhcaaidnmaaDoorTGt0
namespace Go.Proofs.YthodfhcaaidnmaaDoorW.PrintWords
open Go.RowKit
section
variable {P : Program} {ops : Array Oper} {rest : List Oper} {o : Oper} {a : Act} {Q : Exit → Act → World → Prop} {W : World}
end
end Go.Proofs.YthodfhcaaidnmaaDoorW.PrintWords
