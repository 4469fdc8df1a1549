/- Words and walks for the law FnExactDayText. -/
import Derived.Test.YtanalckdmamepaaDoorTDx0
namespace Go.Proofs.YtanalckdmamepaaDoorW.PrintWords
open Go.RowKit
section
variable {P : Program} {ops : Array Oper} {rest : List Oper} {o : Oper} {a : Act} {Q : Exit → Act → World → Prop} {W : World}
end
end Go.Proofs.YtanalckdmamepaaDoorW.PrintWords
