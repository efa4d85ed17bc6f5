import Derived.Test.YtmfmjngkbddenaaGreatDoorProg
import Derived.Test.YtmfmjngkbddenaaGreatDoorVsPok2
set_option linter.all false
namespace Go.Vs
open Go.Proofs
set_option maxRecDepth 100000
noncomputable section
theorem Yja x:fX [.see Fn] [] .d Tryz.f260 [(false,.I .i64),(false,.I .i64)] [(false,.I .i64),(false,.B)] x=Za0 x:=by kernel_rfl
def Yd7:=eS Tryz.func260 (by kernel_rfl) Yja
theorem Yi6 x:fX [.see Fn,.see Yd7] [] .d Tryz.f250 [(false,.L .Y),(false,.I .i64)] [(false,.I .i64),(false,.I .i64),(false,.B)] x=Zax x
 := by kernel_rfl
def Yd4:=eS Tryz.func250 (by kernel_rfl) Yi6
theorem Yj8 x:fX [] [] .d Tryz.f241 [(false,.I .i64)] [(false,.I .i64)] x=Zof x:=by kernel_rfl
def Yeq:=eS Tryz.func241 (by kernel_rfl) Yj8
theorem Yj7 x:fX [] [(4,.el (.I .i64))] .d Tryz.f242 [(false,.I .i64)] [(false,.I .i64)] x=Zoe x:=by kernel_rfl
def Yep:=eS Tryz.func242 (by kernel_rfl) Yj7
theorem Yj9 x:fX [] [(4,.el (.I .i64))] .d Tryz.f243 [(false,.I .i64)] [(false,.I .i64)] x=Zog x:=by kernel_rfl
def Yer:=eS Tryz.func243 (by kernel_rfl) Yj9
theorem Yi1 x:fX [.see Fn,.see Yeq,.see Yep,.see Yer] [] (.sq none .d (.sq none .d (.sq none .d (.sq (some [.lt 6 (.I .i64)]) .d .d))))
 Tryz.f235 [(false,.I .i64),(false,.I .i64)] [(false,.I .i64),(false,.B)] x=Qe x:=by kernel_rfl
def Yd1:=eS Tryz.func235 (by kernel_rfl) Yi1
theorem Ykb x:fX [.see Yd5,.see Yd4,.see Yd1] [] .d Tryz.f238 [(false,.I .i64),(false,.L .Y),(false,.I .i64)] [(false,.I .i64),(false,.I
 .i64),(false,.B)] x=Za5 x:=by kernel_rfl
def Yes:=eS Tryz.func238 (by kernel_rfl) Ykb
theorem Yi4 x:fX [.see Zq7,.see Yes,.see Zqx] [(11,.el .Y)] (.sq none .d (.sq none .d (.sq none .d (.sq (some [.ot 6 .Y]) (.sq none .d (.bl (.lp [.kt
 0,.kt 1,.ot 6 .Y,.lt 7 (.I .i64)] .d))) .d)))) Tryz.f229 [(false,.I .i64),(false,.L .Y)] [(false,.S),(false,.B)] x=Zaw x:=by kernel_rfl
def Yd2:=eS Tryz.func229 (by kernel_rfl) Yi4
theorem Yi3 x:fX [.see Zqt,.see Yd2] [] .d Tryz.f214 [(true,txC)] [(false,.S),(false,.B)] x=H8 x:=by kernel_rfl
def Zqu:=eS Tryz.func214 (by kernel_rfl) Yi3
theorem Yjk x:fX [.see Zqu] [] .d Tryz.f216 [(true,txC),(true,txC)] [(false,.B)] x=Bn x:=by kernel_rfl
def Yeb:=eS Tryz.func216 (by kernel_rfl) Yjk
theorem Yjj x:fX [.see Zqv,.see Fn,.see Zra,.see Zq9,.see Zq8,.see Zqu,.see Zqt,.see Yeb] [] .d Tryz.f171
 [(true,txT)] [(false,.B)] x=Mb x:=by kernel_rfl
def Zik:=eS Tryz.func171 (by kernel_rfl) Yjj
theorem Yj5 x:fX [.see Fn] [] .d Tryz.f184 [(false,.I .i64)] [(false,.B)] x=Md x:=by kernel_rfl
def Zil:=eS Tryz.func184 (by kernel_rfl) Yj5
theorem Yjx x:fX [.see Fn,.see Zil] [] .d Tryz.f172 [(true,txH)] [(false,.B)] x=V8 x:=by kernel_rfl
def Yei:=eS Tryz.func172 (by kernel_rfl) Yjx
theorem Yjo x:fX [.see Zik,.see Yei,.see Fn] [] (.sq none .d (.sq (some [.kt 1]) (.sq none .d (.bl (.lp [.kt 1,.lt 3 (.I .i64)] .d))) (.sq (some [.kt
 1]) (.sq none .d (.bl (.lp [.kt 1,.lt 4 (.I .i64)] .d))) .d))) Tryz.f100 [(true,E3)] [(false,.B)] x=Mc x:=by kernel_rfl
def Zq1:=eS Tryz.func100 (by kernel_rfl) Yjo
end
end Go.Vs
