import Derived.Test.YtmfmjngkbddenaaGreatDoorVsPtk13
set_option linter.all false
namespace Go.Vs
open Go.Proofs
set_option maxRecDepth 100000
noncomputable section
theorem Ymb x:fX [] [] .d Tryz.f48 [(false,.L .Y),(false,.I .i64)] [(false,.I .i64)] x=R3 x:=by kernel_rfl
def Yho:=eS Tryz.func48 (by kernel_rfl) Ymb
theorem Yma x:fX [.see Yhp,.see Yhx,.see Yho,.see Ygt,.see Zli,.see Ygx,.see Yg3,.see Yhs] [] .d Tryz.f8 [(false,.L
 .Y)] [(false,.B)] x=Zi9 x:=by kernel_rfl
def Yhn:=eS Tryz.func8 (by kernel_rfl) Yma
end
end Go.Vs
