/- AgentRefuses, what stands at the end of each law. -/
import Derived.Test.YtfebdfceidnnmaaGreatDoorRefusesTa
set_option autoImplicit false
set_option maxRecDepth 1000000
namespace Go.AX
open Go.Proofs
def tab3 : MT := [(25, [([], .bool true)])]
theorem run3 : chkT call3 tab3 = true := by kernel_rfl
theorem tab3_ok {a0 : Nat → Value} : MtOk a0 Tryz.prog tab3 := chkT_ok (ready.call S3_ok (mergeOf_ok _) 60) run3
noncomputable def S4 : Sum := orS (memoF tab3) S3
theorem S4_ok {a0 : Nat → Value} : SumOk a0 Tryz.prog S4 := orS_ok (memoF_ok tab3_ok) S3_ok
noncomputable def callT : CallF := fCall E CC mkT S4 (mergeOf []) 60
def A0 (n0 : Int) : Nat → Value := (fun i : Nat => match i with | _ => .int .i64 n0)
end Go.AX

