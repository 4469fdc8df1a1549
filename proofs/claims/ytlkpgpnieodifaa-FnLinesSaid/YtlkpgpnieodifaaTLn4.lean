/- Words and walks for the law FnLines. -/
import Derived.Test.YtlkpgpnieodifaaTLn3
namespace Go.Proofs.YtlkpgpnieodifaaW.PrintLast
section
variable {P : Program} {ops : Array Oper} {Q : Exit → Act → World → Prop} {md : Region.Mode} {S : World → Prop} {ds : List Nat} {T : Bool × List (List Nat × List Nat)}
end
end Go.Proofs.YtlkpgpnieodifaaW.PrintLast
