/- Words and walks for the law FnMeets. -/
import Derived.Test.YthodfhcaaidnmaaDoorProg
import Derived.Below
import Derived.Deep.Draws
import Derived.Deep.AppendLies
import Derived.Maps.AppendAt
import Derived.OwnWalk
import Derived.Laws.BytesArg
import Derived.Laws.MakeOwn
import Derived.Laws.OwnMore
import Derived.Deep.OwnRows
import Derived.Tactics
import Derived.Lib.ConvBytes
import Derived.Laws.Slices
import Derived.WalkKit
import Derived.KernelRfl
import Derived.RowKit3
import Derived.Deep.LoopGhost
import Derived.Deep.QuietTactic
import Derived.BigQuiet
import Derived.WideLaws
import Derived.Deep.DeepCutAuto
import Derived.Deep.CutBlock
import Derived.Deep.RegionHeld3
import Derived.Laws.Rows
import Derived.Lib.AppendStr
import Derived.ArgAppend
import Derived.Laws.IdiomCopy
import Derived.OrdersHeld
import Derived.Laws.BitsLemmas
import Derived.RowKit
import Derived.Shelf.Abstract
import Derived.Lib.SliceRun
import Derived.Laws.EntriesVeiled
import Derived.Test.YthodfhcaaidnmaaDoorTMe1
import Derived.Test.YthodfhcaaidnmaaDoorTMe2
import Derived.Shelf.Spec.TrailingZeros
import Derived.Test.YthodfhcaaidnmaaDoorTMe0
import Derived.Test.YthodfhcaaidnmaaDoorTMe3
import Derived.Test.YthodfhcaaidnmaaDoorTMe4
import Derived.Test.YthodfhcaaidnmaaDoorTMe5
import Derived.Test.YthodfhcaaidnmaaDoorTMe6
import Derived.Test.YthodfhcaaidnmaaDoorTMe7
import Derived.Test.YthodfhcaaidnmaaDoorTMe8
import Derived.Test.YthodfhcaaidnmaaDoorTMe9
import Derived.Test.YthodfhcaaidnmaaDoorTMe10
import Derived.Test.YthodfhcaaidnmaaDoorTMe11
import Derived.Test.YthodfhcaaidnmaaDoorTMe12
import Derived.Test.YthodfhcaaidnmaaDoorTMe13
import Derived.Test.YthodfhcaaidnmaaDoorTMe14
import Derived.Test.YthodfhcaaidnmaaDoorTMe15
import Derived.Test.YthodfhcaaidnmaaDoorTMe16
import Derived.Test.YthodfhcaaidnmaaDoorTMe17
import Derived.Test.YthodfhcaaidnmaaDoorTMe18
import Derived.Test.YthodfhcaaidnmaaDoorTMe19
import Derived.Test.YthodfhcaaidnmaaDoorTMe20
import Derived.Test.YthodfhcaaidnmaaDoorTMe21
import Derived.Test.YthodfhcaaidnmaaDoorTMe22
namespace Go.Proofs.YthodfhcaaidnmaaDoor.Zz
open Go.RowKit Go.Proofs.YthodfhcaaidnmaaDoorW.PrintWords Go.Proofs.YthodfhcaaidnmaaDoorW.PrintLast Go.Proofs.YthodfhcaaidnmaaDoorW.PrintMore
theorem zA : type_of% @Kd.R_alloc := @Kd.R_alloc
theorem zB : type_of% @Kd.R_drewN := @Kd.R_drewN
theorem zC : type_of% @Kd.R_drew := @Kd.R_drew
theorem zD : type_of% @Kd.V_alloc := @Kd.V_alloc
theorem zE : type_of% @Kd.V_drewN := @Kd.V_drewN
theorem zF : type_of% @Kd.V_drew := @Kd.V_drew
theorem zG : type_of% @blk_alloc := @blk_alloc
theorem zH : type_of% @blk_drewN := @blk_drewN
theorem zI : type_of% @blk_drew := @blk_drew
theorem zJ : type_of% @below_alloc := @below_alloc
theorem zK : type_of% @pw_below_drewN := @pw_below_drewN
theorem zL : type_of% @below_drew1 := @below_drew1
theorem zM : type_of% @below_set := @below_set
theorem zN : type_of% @Aside0.mk := @Aside0.mk
theorem zO : type_of% @List.setIfInBounds_toArray := @List.setIfInBounds_toArray
theorem zP : type_of% @List.set_cons_zero := @List.set_cons_zero
theorem zQ : type_of% @List.set_cons_succ := @List.set_cons_succ
theorem zR : type_of% @World.block_lt_of_cell? := @World.block_lt_of_cell?
theorem zS : type_of% @of_decide_eq_true := @of_decide_eq_true
theorem zT : type_of% @below_size := @below_size
theorem zU : type_of% @blk_below := @blk_below
theorem zV : type_of% @below_step := @below_step
theorem zW : type_of% @Kd.R_below := @Kd.R_below
theorem zX : type_of% @Kd.V_elder' := @Kd.V_elder'
theorem zY : type_of% @Kd.R_elder' := @Kd.R_elder'
end Go.Proofs.YthodfhcaaidnmaaDoor.Zz
