import Derived.Test.YtmfmjngkbddenaaGreatDoorProg
import Derived.Test.YtmfmjngkbddenaaGreatDoorVsPok13
set_option linter.all false
namespace Go.Vs
open Go.Proofs
set_option maxRecDepth 100000
noncomputable section
theorem Yd9 x:fX [.see Ya2,.see Ya6,.see Ybj,.see Zzy,.see Yao,.see Yaj,.gen Yaw,.gen Yaz,.see
 Yau] [] .d Tryz.f6 [(true,txP),(false,.I .i64)] [(false,.B)] x=Zez x:=by kernel_rfl
def Yag:=eS Tryz.func6 (by kernel_rfl) Yd9
end
end Go.Vs
