import Derived.Test.YtmfmjngkbddenaaGreatDoorProg
import Derived.Test.YtmfmjngkbddenaaGreatDoorVsPok13
set_option linter.all false
namespace Go.Vs
open Go.Proofs
set_option maxRecDepth 100000
noncomputable section
theorem Yky x:fX [.see Ygz,.see Yg3,.see Yhg,.see Yfn,.see Ygh,.see Zs8,.gen Zs9,.gen Ygv,.see
 Ygp] [] .d Tryz.f4 [(true,txP)] [(false,.B)] x=Zii x:=by kernel_rfl
def Yga:=eS Tryz.func4 (by kernel_rfl) Yky
end
end Go.Vs
