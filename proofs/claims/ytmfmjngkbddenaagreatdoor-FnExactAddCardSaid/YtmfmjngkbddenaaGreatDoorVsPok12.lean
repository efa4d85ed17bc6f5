import Derived.Test.YtmfmjngkbddenaaGreatDoorProg
import Derived.Test.YtmfmjngkbddenaaGreatDoorVsPok11
set_option linter.all false
namespace Go.Vs
open Go.Proofs
set_option maxRecDepth 100000
noncomputable section
theorem Yhv x:fX [.see Ycy,.see Yc2] [] .d Tryz.f19 [(true,Ef),(false,.I .i64)] [(false,.I .i64)] x=Vv x:=by kernel_rfl
def Yc1:=eS Tryz.func19 (by kernel_rfl) Yhv
theorem Yhc x:fX [.see Ydk,.see Ydi,.see Ydv,.see Ydt,.see Ydz,.see Ybx,.see Yct,.see Ycr,.gen Ydb,
 .gen Yc8,.see Yc1] [] .d Tryz.f3 [(true,Ef),(true,Cd)] [(false,.B)] x=Zf1 x:=by kernel_rfl
def Ycl:=eS Tryz.func3 (by kernel_rfl) Yhc
section
set_option maxHeartbeats 1000000
set_option maxRecDepth 4000
end
end
end Go.Vs
