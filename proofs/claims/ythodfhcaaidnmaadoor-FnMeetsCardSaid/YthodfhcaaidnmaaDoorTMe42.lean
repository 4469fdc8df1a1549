/- Words and walks for the law FnMeets. -/
import Derived.Test.YthodfhcaaidnmaaDoorTMe40
import Derived.Test.YthodfhcaaidnmaaDoorTMe41
namespace Go.Proofs.YthodfhcaaidnmaaDoor.Me
open Go.Proofs.YthodfhcaaidnmaaDoor.Zz
open Go.RowKit Go.Proofs.YthodfhcaaidnmaaDoorW.PrintWords Go.Proofs.YthodfhcaaidnmaaDoorW.PrintLast Go.Proofs.YthodfhcaaidnmaaDoorW.PrintMore
attribute [local go_sem] max2_int min2_int max_two min_two max_three min_three max_four min_four   -- for this text's walks alone
set_option linter.unusedVariables false
set_option linter.unusedSimpArgs false
theorem laws_FnMeets.calls_all_kj2_0_kj13_1_k4_5:laws_FnMeets.calls_all_kj2_0_kj13_1_p.1:=laws_FnMeets.calls_all_kj2_0_kj13_1_k4_5_p.2 (fun _=>laws_FnMeets.calls_all_kj2_0_kj13_1_k4_5_k6_7) (fun _=>laws_FnMeets.calls_all_kj2_0_kj13_1_k4_5_kj124_8)
theorem laws_FnMeets.calls_all_kj2_0_kj13_1:laws_FnMeets.calls_all_kj2_0_p.1:=laws_FnMeets.calls_all_kj2_0_kj13_1_p.2 (fun _=>laws_FnMeets.calls_all_kj2_0_kj13_1_k4_5)
theorem laws_FnMeets.calls_all_kj2_0:laws_FnMeets.calls_all_p.1:=laws_FnMeets.calls_all_kj2_0_p.2 (fun _=>laws_FnMeets.calls_all_kj2_0_kj13_1)
theorem laws_FnMeets.calls_all:∀(k:Nat) (A0:Option Addr) (c0:Nat) (l0:List Int) (A1:Option Addr) (c1:Nat) (l1:List Int) (r:Bool) (w:World) (hr0:Kd.C (Kd.int .u8) w A0 l0.length l0) (hc0:l0.length≤c0) (hr1:Kd.C (Kd.int .u8) w A1 l1.length l1) (hc1:l1.length≤c1) (hT:TabOK w) (h:laws_FnMeets.f k l0 l1=some r),Calls Tryd.prog 3 #[.slice A0 l0.length c0,.slice A1 l1.length c1] w fun e w'=>e=.returned (.bool r)∧Below w.heap.size w w':=laws_FnMeets.calls_all_p.2 (fun _=>laws_FnMeets.calls_all_kj2_0)
theorem laws_FnMeets.calls (k:Nat) (A0:Option Addr) (c0:Nat) (l0:List Int) (A1:Option Addr) (c1:Nat) (l1:List Int) (r:Bool) (w:World) (hr0:Kd.C (Kd.int .u8) w A0 l0.length l0) (hc0:l0.length≤c0) (hr1:Kd.C (Kd.int .u8) w A1 l1.length l1) (hc1:l1.length≤c1) (hT:TabOK w) (h:laws_FnMeets.f k l0 l1=some r):Calls Tryd.prog 3 #[.slice A0 l0.length c0,.slice A1 l1.length c1] w fun e w'=>e=.returned (.bool r)∧Below w.heap.size w w':=laws_FnMeets.calls_all k A0 c0 l0 A1 c1 l1 r w hr0 hc0 hr1 hc1 hT h
end Go.Proofs.YthodfhcaaidnmaaDoor.Me
