import Derived.Test.YtmfmjngkbddenaaGreatDoorProg
import Derived.Test.YtmfmjngkbddenaaGreatDoorVsPtk10
set_option linter.all false
namespace Go.Vs
open Go.Proofs
set_option maxRecDepth 100000
noncomputable section
section
set_option maxHeartbeats 1000000
set_option maxRecDepth 4000
end
theorem Ykq x:fX [.see Zf,.see Gt,.see Mt] [(40,.sb),(47,.sb)] (.sq none .d (.sq none .d (.sq (some [.kt 1,.kt 2]) (.sq none .d (.bl (.lp
 [.kt 1,.kt 2,.lt 5 (.I .i64)] .d))) .d))) Tryz.f71 [(true,txQ),(false,.I .i64)] [(false,.L .Y)] x=Uh x:=by kernel_rfl
def Ztq:=eS Tryz.func71 (by kernel_rfl) Ykq
theorem Ykf x:fX [] [] .d Tryz.f190 [(false,.L .Y),(false,.I .i64)] [(false,.I .i64),(false,.I .i64),(false,.B)] x=Xr x:=by kernel_rfl
def Ztm:=eS Tryz.func190 (by kernel_rfl) Ykf
theorem Yll x:fG [.see Ztm] [] .d Tryz.f144 [⟨true,false,txG,[.rx,.rd,.rd],(some txB)⟩] [(false,.I .i64)] x=Ik x:=by kernel_rfl
def Zle:=eG Tryz.func144 (by kernel_rfl) Yll
theorem Ylj x:fG [.gen Zle,.see Zk9] [] .d Tryz.f145 [⟨true,false,txG,[.rx,.rd,.rd],(some txB)⟩] [(false,.B)] x=Nu x:=by kernel_rfl
def Ztz:=eG Tryz.func145 (by kernel_rfl) Ylj
theorem Ykb x:fX [.gen Zle,.gen Ztz,.see Gt] [] .d Tryz.f70 [(false,.L .Y)] [(false,.I .i64),(false,.I .i64),(false,.B)] x =
 Xp x:=by kernel_rfl
def Ygj:=eS Tryz.func70 (by kernel_rfl) Ykb
theorem Ylh x:fG [] [] .d Tryz.f157 [⟨true,false,txG,[.rx,.rd,.rd],(some txB)⟩] [(false,.I .i64)] x=G9 x:=by kernel_rfl
def Zlc:=eG Tryz.func157 (by kernel_rfl) Ylh
theorem Yke x:fX [.see Ztm] [] .d Tryz.f200 [(false,.L .Y),(false,.I .i64)] [(false,.S),(false,.I .i64),(false,.B)] x=Zcj x:=by kernel_rfl
def Ygm:=eS Tryz.func200 (by kernel_rfl) Yke
theorem Ylk x:fG [.see Ygm] [] .d Tryz.f159 [⟨true,false,txG,[.rx,.rd,.rd],(some txB)⟩] [(false,.S)] x=Ml x:=by kernel_rfl
def Zld:=eG Tryz.func159 (by kernel_rfl) Ylk
theorem Ylg x:fG [.gen Zlc,.gen Zld] [] .d Tryz.f199 [⟨true,false,txG,[.rx,.rd,.rd],(some txB)⟩] [(true,txC)] x=J1 x:=by
 kernel_rfl
def Yg1:=eG Tryz.func199 (by kernel_rfl) Ylg
end
end Go.Vs
