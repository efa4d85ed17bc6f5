import Derived.Test.YtmfmjngkbddenaaGreatDoorProg
import Derived.Test.YtmfmjngkbddenaaGreatDoorVsPok12
set_option linter.all false
namespace Go.Vs
open Go.Proofs
set_option maxRecDepth 100000
noncomputable section
theorem Ymh x:fX [.see Zti,.see Yha,.see Yhl,.see Ztm,.see Ztk,.see Yhf] [] (.sq none .d (.sq none .d (.sq (some [.kt 2,.bx
 4 [.O (.L .Y),.O txC,.L (.I .i64),.L .B,.O txT,.L (.I .i64),.O txH,.L (.I .i64),.L (.I .i64)]]) (.sq none .d (.bl (.lp [.kt 1,.kt 2,.bx 4 [.O (.L .Y),.O txC,.L (.I
 .i64),.L .B,.O txT,.L (.I .i64),.O txH,.L (.I .i64),.L (.I .i64)],.lt 5 (.I .i64)] (.sq none .d (.sq (some [.kt 1,.kt 2,.bx 4 [.O (.L .Y),.O txC,.L (.I .i64),.L .B,
 .O txT,.L (.I .i64),.O txH,.L (.I .i64),.L (.I .i64)],.kt 5]) .d .d))))) .d))) Tryz.f21 [(true,txP)] [(true,Gt),(false,.B)] x=Zcp x:=by kernel_rfl
def Yhg:=eS Tryz.func21 (by kernel_rfl) Ymh
theorem Yjw x:fX [.see Zep,.see G1,.see Nz] [(40,.sb),(47,.sb)] (.sq none .d (.sq none .d (.sq (some [.kt 1,.kt 2]) (.sq none .d (.bl (.lp
 [.kt 1,.kt 2,.lt 5 (.I .i64)] .d))) .d))) Tryz.f71 [(true,txP),(false,.I .i64)] [(false,.L .Y)] x=Tx x:=by kernel_rfl
def Zsz:=eS Tryz.func71 (by kernel_rfl) Yjw
theorem Yjl x:fX [] [] .d Tryz.f190 [(false,.L .Y),(false,.I .i64)] [(false,.I .i64),(false,.I .i64),(false,.B)] x=W6 x:=by kernel_rfl
def Zsw:=eS Tryz.func190 (by kernel_rfl) Yjl
theorem Ykr x:fG [.see Zsw] [] .d Tryz.f144 [⟨true,false,txG,[.rx,.rd,.rd],(some txB)⟩] [(false,.I .i64)] x=Ic x:=by kernel_rfl
def Zkw:=eG Tryz.func144 (by kernel_rfl) Ykr
theorem Ykp x:fG [.gen Zkw,.see Zkr] [] .d Tryz.f145 [⟨true,false,txG,[.rx,.rd,.rd],(some txB)⟩] [(false,.B)] x=Na x:=by kernel_rfl
def Zs6:=eG Tryz.func145 (by kernel_rfl) Ykp
theorem Yjh x:fX [.gen Zkw,.gen Zs6,.see G1] [] .d Tryz.f70 [(false,.L .Y)] [(false,.I .i64),(false,.I .i64),(false,.B)] x =
 W4 x:=by kernel_rfl
def Yfh:=eS Tryz.func70 (by kernel_rfl) Yjh
theorem Ykn x:fG [] [] .d Tryz.f157 [⟨true,false,txG,[.rx,.rd,.rd],(some txB)⟩] [(false,.I .i64)] x=Gu x:=by kernel_rfl
def Zku:=eG Tryz.func157 (by kernel_rfl) Ykn
theorem Yjk x:fX [.see Zsw] [] .d Tryz.f200 [(false,.L .Y),(false,.I .i64)] [(false,.S),(false,.I .i64),(false,.B)] x=Zbp x:=by kernel_rfl
def Yfk:=eS Tryz.func200 (by kernel_rfl) Yjk
theorem Ykq x:fG [.see Yfk] [] .d Tryz.f159 [⟨true,false,txG,[.rx,.rd,.rd],(some txB)⟩] [(false,.S)] x=L1 x:=by kernel_rfl
def Zkv:=eG Tryz.func159 (by kernel_rfl) Ykq
theorem Ykm x:fG [.gen Zku,.gen Zkv] [] .d Tryz.f199 [⟨true,false,txG,[.rx,.rd,.rd],(some txB)⟩] [(true,txC)] x=Jh x:=by
 kernel_rfl
def Yf4:=eG Tryz.func199 (by kernel_rfl) Ykm
theorem Yko x:fG [.gen Zkv,.gen Zku,.gen Yf4,.see Zeq] [] (.sq none .d (.sq none .d (.sq none .d (.sq none .d (.sq none .d (.sq
 none .d (.sq (some [.bx 0 [.K,.L (.I .i64),.L .B],.kt 2,.bx 3 [.K,.L (.I .i64),.O .Y,.K,.K,.K,.K],.kt 4]) .d (.sq (some [.bx 0 [.K,.L (.I .i64),.L .B],.kt 2,.bx 3
 [.K,.K,.K,.L (.I .i64),.O .Y,.K,.K],.kt 4]) .d .d)))))))) Tryz.f158 [⟨true,false,txG,[.rx,.rd,.rd],(some txB)⟩] [(true,txT)] x=Rb x:=by kernel_rfl
def Yf5:=eG Tryz.func158 (by kernel_rfl) Yko
theorem Yji x:fX [.gen Zkw,.gen Zku,.gen Yf5,.gen Zkv,.gen Zs6,.see Zkq] [] (.sq none .d (.sq none .d (.sq none
 .d (.sq none .d (.sq none .d (.sq none .d (.sq (some [.kt 4,.kt 6,.bx 7 [.K,.L .S,.L (.I .i64),.O .Y,.L (.I .i64),.O .Y,.L (.I .i64),.L .B,.L .S,.L (.I .i64),.K,.K,
 .K],.kt 8,.kt 9,.bx 12 [.K,.L (.I .i64),.L .B]]) .d .d))))))) Tryz.f90 [(false,.L .Y)] [(false,.I .i64),(false,.I .i64),(true,Dn),(false,.B)] x=W5 x :=
 by kernel_rfl
def Yfi:=eS Tryz.func90 (by kernel_rfl) Yji
theorem Yjz x:fX [.see G1,.see Zs7,.see Zsz,.see Yfi,.see Yfc] [] (.sq none .d (.sq none .d (.sq none .d (.sq (some [.bx 4 [.O
 txT,.L (.I .i64),.O txH],.bx 6 [.O txT,.L (.I .i64),.O txH]]) (.sq none .d (.bl (.lp [.kt 1,.kt 2,.bx 4 [.O txT,.L (.I .i64),.O txH],.bx 6 [.O txT,.L (.I .i64),.O
 txH],.lt 7 (.I .i64)] .d))) .d)))) Tryz.f32 [(true,txP),(false,.I .i64)] [(true,Fn),(false,.I .i64)] x=Xd x:=by kernel_rfl
def Yft:=eS Tryz.func32 (by kernel_rfl) Yjz
theorem Yjp x:fX [.see Zsz,.see Yfh,.see Yft,.see Zer,.see Zs0,.see Yfm] [] (.sq none .d (.sq none .d (.sq (some [.kt 2,.bx
 4 [.O (.L .Y),.O txC,.L (.I .i64),.L .B,.O txT,.L (.I .i64),.O txH,.L (.I .i64),.L (.I .i64)]]) (.sq none .d (.bl (.lp [.kt 1,.kt 2,.bx 4 [.O (.L .Y),.O txC,.L (.I
 .i64),.L .B,.O txT,.L (.I .i64),.O txH,.L (.I .i64),.L (.I .i64)],.lt 12 (.I .i64)] (.sq none .d (.sq none .d (.sq (some [.kt 1,.kt 2,.bx 4 [.O (.L .Y),.O txC,.L (.I
 .i64),.L .B,.O txT,.L (.I .i64),.O txH,.L (.I .i64),.L (.I .i64)],.kt 12]) .d .d)))))) .d))) Tryz.f23 [(true,txP)] [(true,Gt),(false,.B)] x=Xa x:=by
 kernel_rfl
def Yfn:=eS Tryz.func23 (by kernel_rfl) Yjp
end
end Go.Vs
