import Derived.Test.YtmfmjngkbddenaaGreatDoorProg
import Derived.Test.YtmfmjngkbddenaaGreatDoorVsPok1
set_option linter.all false
namespace Go.Vs
open Go.Proofs
set_option maxRecDepth 100000
noncomputable section
theorem Yjw x:fX [.see Zim] [(7,.el txH),(10,.el txH),(27,.el txT),(28,.el txT)] (.sq none .d (.sq none .d (.sq (some [.kt 2,.bx 3 [.O txT,.K,.K]]) (.sq
 none .d (.bl (.lp [.kt 1,.kt 2,.bx 3 [.O txT,.K,.K],.lt 4 (.I .i64)] .d))) .d))) Tryz.f121 [(true,E3)] [(true,E3)] x=Sq x:=by kernel_rfl
def Zq5:=eS Tryz.func121 (by kernel_rfl) Yjw
theorem Yj2 x:fX [.see Yed,.see Zq5] [] .d Tryz.f51 [(true,Ef)] [(true,Ef)] x=Zf8 x:=by kernel_rfl
def Yem:=eS Tryz.func51 (by kernel_rfl) Yj2
theorem Yj4 x:fX [] [] .d Tryz.f91 [(false,.I .i64),(false,.I .i64),(false,.I .i64)] [(false,.B)] x=Bv x:=by kernel_rfl
def Fn:=eS Tryz.func91 (by kernel_rfl) Yj4
theorem Yi5 x:fX [.see Fn] [] (.sq none .d (.sq (some [.kt 1]) (.sq none .d (.bl (.lp [.kt 1,.lt 3 (.I .i64)] .d))) (.sq (some [.kt 1]) (.sq none .d (.bl (.lp [.kt
 1,.lt 4 (.I .i64)] .d))) .d))) Tryz.f99 [(true,txP)] [(false,.B)] x=V3 x:=by kernel_rfl
def Yd3:=eS Tryz.func99 (by kernel_rfl) Yi5
theorem Yi9 x:fX [.see Fn] [] (.sq none .d (.sq (some [.kt 0]) (.sq none .d (.bl (.lp [.kt 0,.lt 3 (.I .i64)] .d))) .d)) Tryz.f206 [(false,.S)] [(false,.B)] x =
 Sj x:=by kernel_rfl
def Zqv:=eS Tryz.func206 (by kernel_rfl) Yi9
theorem Ykg x:fX [] [] .d Tryz.f201 [(true,txT)] [(false,.B)] x=Da x:=by kernel_rfl
def Zra:=eS Tryz.func201 (by kernel_rfl) Ykg
theorem Ykf x:fX [] [] .d Tryz.f213 [(true,txC)] [(false,.B)] x=N6 x:=by kernel_rfl
def Zq9:=eS Tryz.func213 (by kernel_rfl) Ykf
theorem Yke x:fX [] [] .d Tryz.f203 [(true,txT)] [(false,.B)] x=Cq x:=by kernel_rfl
def Zq8:=eS Tryz.func203 (by kernel_rfl) Yke
theorem Yka x:fX [.see Fn] [] .d Tryz.f230 [(false,.I .i64)] [(false,.B)] x=Wc x:=by kernel_rfl
def Zq7:=eS Tryz.func230 (by kernel_rfl) Yka
theorem Yi2 x:fX [.see Zq7] [] .d Tryz.f215 [(true,txC)] [(false,.B)] x=Ma x:=by kernel_rfl
def Zqt:=eS Tryz.func215 (by kernel_rfl) Yi2
theorem Yj6 x:fX [.see Fn] [] .d Tryz.f259 [(false,.Y)] [(false,.I .i64)] x=Za4 x:=by kernel_rfl
def Yeo:=eS Tryz.func259 (by kernel_rfl) Yj6
theorem Yjl x:fX [.see Fn] [] .d Tryz.f233 [(false,.I .i64)] [(false,.B)] x=Sn x:=by kernel_rfl
def Zqz:=eS Tryz.func233 (by kernel_rfl) Yjl
theorem Yjd x:fX [.see Zqz] [(6,.el .Y),(8,.el .Y),(20,.el .Y),(21,.el .Y),(34,.el .Y),(35,.el .Y),(53,.el .Y),(54,.el .Y),(74,.el .Y),(75,.el
 .Y)] .d Tryz.f224 [(false,.L .Y),(false,.I .i64)] [(false,.L .Y)] x=Sl x:=by kernel_rfl
def Zqx:=eS Tryz.func224 (by kernel_rfl) Yjd
theorem Yi7 x:fX [.see Fn,.see Yeo,.see Zqz,.see Zqx] [(71,.el .Y)] (.sq none .d (.sq none .d (.sq none .d (.sq none .d (.sq none .d (.sq
 (some [.kt 0,.kt 1,.kt 7,.lt 8 (.I .i64)]) .d (.sq (some [.kt 0,.kt 1,.kt 7,.lt 8 (.I .i64)]) (.sq none .d (.bl (.lp [.kt 0,.kt 1,.kt 7,.lt 8 (.I .i64),.lt 9 (.I .i64)]
 .d))) .d))))))) Tryz.f249 [(false,.L .Y),(false,.I .i64)] [(false,.I .i64),(false,.I .i64),(false,.B)] x=Zay x:=by kernel_rfl
def Yd5:=eS Tryz.func249 (by kernel_rfl) Yi7
end
end Go.Vs
