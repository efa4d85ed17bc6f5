import Derived.Test.YtmfmjngkbddenaaGreatDoorProg
import Derived.Test.YtmfmjngkbddenaaGreatDoorVsPtk0
set_option linter.all false
namespace Go.Vs
open Go.Proofs
set_option maxRecDepth 100000
noncomputable section
theorem Yl1 x:fX [.see Zln] [] .d Tryz.f215 [(true,txC)] [(false,.B)] x=Nv x:=by kernel_rfl
def Zt1:=eS Tryz.func215 (by kernel_rfl) Yl1
theorem Ynl x:fX [.see Fn] [] .d Tryz.f259 [(false,.Y)] [(false,.I .i64)] x=Zc6 x:=by kernel_rfl
def Yic:=eS Tryz.func259 (by kernel_rfl) Ynl
theorem Ymr x:fX [.see Fn] [] .d Tryz.f233 [(false,.I .i64)] [(false,.B)] x=Rv x:=by kernel_rfl
def Zll:=eS Tryz.func233 (by kernel_rfl) Ymr
theorem Ymh x:fX [.see Zll] [(6,.el .Y),(8,.el .Y),(20,.el .Y),(21,.el .Y),(34,.el .Y),(35,.el .Y),(53,.el .Y),(54,.el .Y),(74,.el .Y),(75,.el
 .Y)] .d Tryz.f224 [(false,.L .Y),(false,.I .i64)] [(false,.L .Y)] x=Nw x:=by kernel_rfl
def Ze7:=eS Tryz.func224 (by kernel_rfl) Ymh
theorem Yma x:fX [.see Fn,.see Yic,.see Zll,.see Ze7] [(71,.el .Y)] (.sq none .d (.sq none .d (.sq none .d (.sq none .d (.sq none .d (.sq
 (some [.kt 0,.kt 1,.kt 7,.lt 8 (.I .i64)]) .d (.sq (some [.kt 0,.kt 1,.kt 7,.lt 8 (.I .i64)]) (.sq none .d (.bl (.lp [.kt 0,.kt 1,.kt 7,.lt 8 (.I .i64),.lt 9 (.I .i64)]
 .d))) .d))))))) Tryz.f249 [(false,.L .Y),(false,.I .i64)] [(false,.I .i64),(false,.I .i64),(false,.B)] x=X7 x:=by kernel_rfl
def Zt2:=eS Tryz.func249 (by kernel_rfl) Yma
theorem Ymd x:fX [.see Fn] [] .d Tryz.f260 [(false,.I .i64),(false,.I .i64)] [(false,.I .i64),(false,.B)] x=Zcy x:=by kernel_rfl
def Yhm:=eS Tryz.func260 (by kernel_rfl) Ymd
theorem Yl7 x:fX [.see Fn,.see Yhm] [] .d Tryz.f250 [(false,.L .Y),(false,.I .i64)] [(false,.I .i64),(false,.I .i64),(false,.B)] x=Zcv x
 := by kernel_rfl
def Yhi:=eS Tryz.func250 (by kernel_rfl) Yl7
theorem Ynp x:fX [] [] .d Tryz.f241 [(false,.I .i64)] [(false,.I .i64)] x=Zrg x:=by kernel_rfl
def Yig:=eS Tryz.func241 (by kernel_rfl) Ynp
theorem Yno x:fX [] [(4,.el (.I .i64))] .d Tryz.f242 [(false,.I .i64)] [(false,.I .i64)] x=Zrf x:=by kernel_rfl
def Yif:=eS Tryz.func242 (by kernel_rfl) Yno
theorem Ynq x:fX [] [(4,.el (.I .i64))] .d Tryz.f243 [(false,.I .i64)] [(false,.I .i64)] x=Zrh x:=by kernel_rfl
def Yih:=eS Tryz.func243 (by kernel_rfl) Ynq
theorem Ylz x:fX [.see Fn,.see Yig,.see Yif,.see Yih] [] (.sq none .d (.sq none .d (.sq none .d (.sq (some [.lt 6 (.I .i64)]) .d .d))))
 Tryz.f235 [(false,.I .i64),(false,.I .i64)] [(false,.I .i64),(false,.B)] x=Lp x:=by kernel_rfl
def Zlg:=eS Tryz.func235 (by kernel_rfl) Ylz
theorem Yns x:fX [.see Zt2,.see Yhi,.see Zlg] [] .d Tryz.f238 [(false,.I .i64),(false,.L .Y),(false,.I .i64)] [(false,.I .i64),(false,.I
 .i64),(false,.B)] x=Zc9 x:=by kernel_rfl
def Yii:=eS Tryz.func238 (by kernel_rfl) Yns
theorem Yl3 x:fX [.see Zln,.see Yii,.see Ze7] [(11,.el .Y)] (.sq none .d (.sq none .d (.sq none .d (.sq (some [.ot 6 .Y]) (.sq none .d (.bl (.lp [.kt
 0,.kt 1,.ot 6 .Y,.lt 7 (.I .i64)] .d))) .d)))) Tryz.f229 [(false,.I .i64),(false,.L .Y)] [(false,.S),(false,.B)] x=Zcr x:=by kernel_rfl
def Yhe:=eS Tryz.func229 (by kernel_rfl) Yl3
theorem Yl2 x:fX [.see Zt1,.see Yhe] [] .d Tryz.f214 [(true,txC)] [(false,.S),(false,.B)] x=Hv x:=by kernel_rfl
def Zlh:=eS Tryz.func214 (by kernel_rfl) Yl2
end
end Go.Vs
