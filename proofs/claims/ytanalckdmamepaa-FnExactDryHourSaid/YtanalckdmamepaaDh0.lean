/- Functions of the program as Lean functions; of each a proof that the machine's call does what its Lean function says. -/
import Derived.Test.YtanalckdmamepaaProg
import Derived.Below
import Derived.Deep.Draws
import Derived.Deep.AppendLies
import Derived.Maps.AppendAt
import Derived.OwnWalk
import Derived.Laws.BytesArg
import Derived.Laws.MakeOwn
import Derived.Laws.OwnMore
import Derived.Deep.OwnRows
import Derived.Tactics
import Derived.Lib.ConvBytes
import Derived.Laws.Slices
import Derived.WalkKit
import Derived.KernelRfl
import Derived.RowKit3
import Derived.Deep.LoopGhost
import Derived.Deep.QuietTactic
import Derived.BigQuiet
import Derived.WideLaws
import Derived.Deep.DeepCutAuto
import Derived.Deep.CutBlock
import Derived.Deep.RegionHeld3
import Derived.Laws.Rows
import Derived.Lib.AppendStr
import Derived.ArgAppend
import Derived.Laws.IdiomCopy
import Derived.OrdersHeld
import Derived.Laws.BitsLemmas
import Derived.RowKit
import Derived.Shelf.Abstract
import Derived.Lib.SliceRun
import Derived.Laws.EntriesVeiled
import Derived.Test.YtanalckdmamepaaOwn
import Derived.Test.YtanalckdmamepaaWWords
import Derived.Test.YtanalckdmamepaaWLast
import Derived.Test.YtanalckdmamepaaWTab
import Derived.Test.YtanalckdmamepaaWFour
import Derived.Test.YtanalckdmamepaaWQPut
import Derived.Test.YtanalckdmamepaaWApart
import Derived.Test.YtanalckdmamepaaWArr
import Derived.Test.YtanalckdmamepaaWZeros
import Derived.Test.YtanalckdmamepaaWFoot
import Derived.Test.YtanalckdmamepaaWKept
import Derived.Test.YtanalckdmamepaaWShare
import Derived.Test.YtanalckdmamepaaWN
import Derived.Test.YtanalckdmamepaaWFootNe
import Derived.Test.YtanalckdmamepaaWAt
import Derived.Test.YtanalckdmamepaaWEqStruct
import Derived.Test.YtanalckdmamepaaWRepsOne
import Derived.Test.YtanalckdmamepaaWInv
import Derived.Test.YtanalckdmamepaaWInvWords
import Derived.Test.YtanalckdmamepaaWGuard
import Derived.Test.YtanalckdmamepaaWNEv
import Derived.Test.YtanalckdmamepaaWMore
namespace Go.Proofs.Ytanalckdmamepaa.Dh
open Go.RowKit Go.Proofs.YtanalckdmamepaaW.PrintWords Go.Proofs.YtanalckdmamepaaW.PrintLast Go.Proofs.YtanalckdmamepaaW.PrintMore
attribute [local go_sem] max2_int min2_int max_two min_two max_three min_three max_four min_four   -- for this text's walks alone
set_option linter.unusedVariables false
set_option linter.unusedSimpArgs false



def errW : Option Int → Value
  | none => .nilIface
  | some c => .iface 0 (.int .i64 c)
theorem errW_none : errW none = .nilIface := rfl
theorem errW_some (c : Int) : errW (some c) = .iface 0 (.int .i64 c) := rfl

theorem info2 : (Try.prog.info? 2).map (fun i => (i.zero, i.size, i.bytes)) = some (some (.int .i64 0), 1, 8) := by kernel_rfl
-- the values' own types

end Go.Proofs.Ytanalckdmamepaa.Dh
