import Derived.Test.YtmfmjngkbddenaaGreatDoorProg
import Derived.Test.YtmfmjngkbddenaaGreatDoorVsPtk12
set_option linter.all false
namespace Go.Vs
open Go.Proofs
set_option maxRecDepth 100000
noncomputable section
theorem Ylu x:fX [] [] .d Tryz.f175 [(true,txC),(true,txC)] [(false,.B)] x=Xz x:=by kernel_rfl
def Yg9:=eS Tryz.func175 (by kernel_rfl) Ylu
theorem Ylv x:fX [.see Yg9] [] .d Tryz.f103 [(true,txU),(true,txU)] [(false,.B)] x=X3 x:=by kernel_rfl
def Yha:=eS Tryz.func103 (by kernel_rfl) Ylv
theorem Ylw x:fX [.see Yha] [] (.sq none .d (.sq none .d (.sq (some [.kt 2,.kt 3]) (.sq none .d (.bl (.lp [.kt 2,.kt 3,.lt 5 (.I .i64)] .d))) (.sq none (.sq
 none .d (.bl (.lp [.kt 2,.kt 3,.lt 6 (.I .i64)] .d))) .d)))) Tryz.f40 [(true,G8),(true,G8)] [(false,.B)] x=Et x:=by kernel_rfl
def Yhb:=eS Tryz.func40 (by kernel_rfl) Ylw
theorem Yl5 x:fX [.cur Yh9,.gen Zi,.gen Yh7,.gen Zt9,.gen Oc] [(12,.el (.I .i64))] .d Tryz.f45 [(false,.L .Y)] [(true,
 Jc),(true,C9),(false,.I .i64)] x=Zct x:=by kernel_rfl
def Yhg:=eS Tryz.func45 (by kernel_rfl) Yl5
theorem Yj9 x:fX [.see Zg,.see Zf,.see Gt,.see Mt] [(40,.sb)] (.sq none .d (.sq none .d (.sq none .d (.sq (some [.lt 1 (.I .i64),.kt
 4,.kt 5]) .d (.sq (some [.kt 4,.bx 5 [.O (.L .Y),.K,.K,.K]]) (.sq none .d (.bl (.lp [.kt 1,.kt 4,.bx 5 [.O (.L .Y),.K,.K,.K],.kt 18,.kt 19,.lt 20 (.I .i64)] (.sq
 none .d (.sq none .d (.sq (some [.kt 1,.kt 4,.bx 5 [.O (.L .Y),.K,.K,.K],.kt 18,.kt 19,.kt 20]) .d .d)))))) .d))))) Tryz.f47 [(true,txQ),(false,.I .i64)] [(true,txQ)]
 x=Xo x:=by kernel_rfl
def Ygi:=eS Tryz.func47 (by kernel_rfl) Yj9
end
end Go.Vs
