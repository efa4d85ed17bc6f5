import Derived.Test.YtmfmjngkbddenaaGreatDoorVsPtk10
set_option linter.all false
namespace Go.Vs
open Go.Proofs
set_option maxRecDepth 100000
noncomputable section
section
set_option maxHeartbeats 1000000
set_option maxRecDepth 4000
end
theorem Yk8 x:fX [.see Zq,.see Gv,.see Mv] [(40,.sb),(47,.sb)] (.sq none .d (.sq none .d (.sq (some [.kt 1,.kt 2]) (.sq none .d (.bl (.lp
 [.kt 1,.kt 2,.lt 5 (.I .i64)] .d))) .d))) Tryz.f71 [(true,txQ),(false,.I .i64)] [(false,.L .Y)] x=Ur x:=by kernel_rfl
def Zt9:=eS Tryz.func71 (by kernel_rfl) Yk8
theorem Ykx x:fX [] [] .d Tryz.f190 [(false,.L .Y),(false,.I .i64)] [(false,.I .i64),(false,.I .i64),(false,.B)] x=X6 x:=by kernel_rfl
def Zt4:=eS Tryz.func190 (by kernel_rfl) Ykx
theorem Yl3 x:fG [.see Zt4] [] .d Tryz.f144 [⟨true,false,txG,[.rx,.rd,.rd],(some txB)⟩] [(false,.I .i64)] x=Io x:=by kernel_rfl
def Zlr:=eG Tryz.func144 (by kernel_rfl) Yl3
theorem Yl1 x:fG [.gen Zlr,.see Zlm] [] .d Tryz.f145 [⟨true,false,txG,[.rx,.rd,.rd],(some txB)⟩] [(false,.B)] x=Nw x:=by kernel_rfl
def Zuh:=eG Tryz.func145 (by kernel_rfl) Yl1
theorem Ykt x:fX [.gen Zlr,.gen Zuh,.see Gv] [] .d Tryz.f70 [(false,.L .Y)] [(false,.I .i64),(false,.I .i64),(false,.B)] x =
 X3 x:=by kernel_rfl
def Ygy:=eS Tryz.func70 (by kernel_rfl) Ykt
theorem Ylz x:fG [] [] .d Tryz.f157 [⟨true,false,txG,[.rx,.rd,.rd],(some txB)⟩] [(false,.I .i64)] x=Hc x:=by kernel_rfl
def Zlp:=eG Tryz.func157 (by kernel_rfl) Ylz
theorem Ykw x:fX [.see Zt4] [] .d Tryz.f200 [(false,.L .Y),(false,.I .i64)] [(false,.S),(false,.I .i64),(false,.B)] x=Zcs x:=by kernel_rfl
def Yg1:=eS Tryz.func200 (by kernel_rfl) Ykw
theorem Yl2 x:fG [.see Yg1] [] .d Tryz.f159 [⟨true,false,txG,[.rx,.rd,.rd],(some txB)⟩] [(false,.S)] x=Mo x:=by kernel_rfl
def Zlq:=eG Tryz.func159 (by kernel_rfl) Yl2
theorem Yly x:fG [.gen Zlp,.gen Zlq] [] .d Tryz.f199 [⟨true,false,txG,[.rx,.rd,.rd],(some txB)⟩] [(true,txC)] x=J3 x:=by
 kernel_rfl
def Yhh:=eG Tryz.func199 (by kernel_rfl) Yly
end
end Go.Vs
