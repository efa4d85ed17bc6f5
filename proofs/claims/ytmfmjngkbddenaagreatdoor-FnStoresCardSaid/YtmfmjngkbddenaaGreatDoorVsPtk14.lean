import Derived.Test.YtmfmjngkbddenaaGreatDoorProg
import Derived.Test.YtmfmjngkbddenaaGreatDoorVsPtk13
set_option linter.all false
namespace Go.Vs
open Go.Proofs
set_option maxRecDepth 100000
noncomputable section
theorem Yls x:fX [.see Yg8,.see Yhg,.see Yge,.see Zk5,.see Zk6,.see Ygi,.see Ygo,.see Ztr,.see Ze6,.see
 Yhb] [] .d Tryz.f7 [(false,.L .Y)] [(false,.B)] x=Ziy x:=by kernel_rfl
def Yg7:=eS Tryz.func7 (by kernel_rfl) Yls
end
end Go.Vs
