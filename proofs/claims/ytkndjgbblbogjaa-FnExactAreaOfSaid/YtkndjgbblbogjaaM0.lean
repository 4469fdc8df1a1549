/- Functions of the program as Lean functions; of each a proof that the machine's call does what its Lean function says. -/
import Derived.Test.YtkndjgbblbogjaaProg
import Derived.Below
import Derived.Deep.Draws
import Derived.Deep.AppendLies
import Derived.Maps.AppendAt
import Derived.OwnWalk
import Derived.Laws.BytesArg
import Derived.Laws.MakeOwn
import Derived.Laws.OwnMore
import Derived.Deep.OwnRows
import Derived.Tactics
import Derived.Lib.ConvBytes
import Derived.Laws.Slices
import Derived.WalkKit
import Derived.KernelRfl
import Derived.RowKit3
import Derived.Deep.LoopGhost
import Derived.Deep.QuietTactic
import Derived.BigQuiet
import Derived.WideLaws
import Derived.Deep.DeepCutAuto
import Derived.Deep.CutBlock
import Derived.Deep.RegionHeld3
import Derived.Laws.Rows
import Derived.Lib.AppendStr
import Derived.ArgAppend
import Derived.Laws.IdiomCopy
import Derived.OrdersHeld
import Derived.Laws.BitsLemmas
import Derived.RowKit
import Derived.Test.YtkndjgbblbogjaaWWords
import Derived.Test.YtkndjgbblbogjaaWLast
import Derived.Test.YtkndjgbblbogjaaWTab
import Derived.Test.YtkndjgbblbogjaaWFour
import Derived.Test.YtkndjgbblbogjaaWQPut
import Derived.Test.YtkndjgbblbogjaaWApart
import Derived.Test.YtkndjgbblbogjaaWArr
import Derived.Test.YtkndjgbblbogjaaWZeros
import Derived.Test.YtkndjgbblbogjaaWFoot
import Derived.Test.YtkndjgbblbogjaaWKept
import Derived.Test.YtkndjgbblbogjaaWShare
import Derived.Test.YtkndjgbblbogjaaWN
import Derived.Test.YtkndjgbblbogjaaWFootNe
import Derived.Test.YtkndjgbblbogjaaWAt
import Derived.Test.YtkndjgbblbogjaaWEqStruct
import Derived.Test.YtkndjgbblbogjaaWRepsOne
import Derived.Test.YtkndjgbblbogjaaWInv
import Derived.Test.YtkndjgbblbogjaaWInvWords
import Derived.Test.YtkndjgbblbogjaaWGuard
import Derived.Test.YtkndjgbblbogjaaWNEv
import Derived.Test.YtkndjgbblbogjaaWMore
namespace Go.Proofs.Ytkndjgbblbogjaa.M
open Go.RowKit Go.Proofs.YtkndjgbblbogjaaW.PrintWords Go.Proofs.YtkndjgbblbogjaaW.PrintLast Go.Proofs.YtkndjgbblbogjaaW.PrintMore
attribute [local go_sem] max2_int min2_int max_two min_two max_three min_three max_four min_four   -- for this text's walks alone
set_option linter.unusedVariables false
set_option linter.unusedSimpArgs false



def errW : Option Int → Value
  | none => .nilIface
  | some c => .iface 0 (.int .i64 c)
theorem errW_none : errW none = .nilIface := rfl
theorem errW_some (c : Int) : errW (some c) = .iface 0 (.int .i64 c) := rfl

theorem info9 : (Try.prog.info? 9).map (fun i => (i.zero, i.size, i.bytes)) = some (some (.string ⟨#[]⟩), 1, 16) := by kernel_rfl
-- the values' own types

end Go.Proofs.Ytkndjgbblbogjaa.M
