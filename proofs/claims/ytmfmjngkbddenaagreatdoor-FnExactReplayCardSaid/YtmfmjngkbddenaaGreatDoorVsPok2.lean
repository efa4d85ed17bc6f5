import Derived.Test.YtmfmjngkbddenaaGreatDoorProg
import Derived.Test.YtmfmjngkbddenaaGreatDoorVsPok1
set_option linter.all false
namespace Go.Vs
open Go.Proofs
set_option maxRecDepth 100000
noncomputable section
theorem Yf0 x:fX [.see Zo0] [(7,.el txH),(10,.el txH),(27,.el txT),(28,.el txT)] (.sq none .d (.sq none .d (.sq (some [.kt 2,.bx 3 [.O txT,.K,.K]]) (.sq
 none .d (.bl (.lp [.kt 1,.kt 2,.bx 3 [.O txT,.K,.K],.lt 4 (.I .i64)] .d))) .d))) Tryz.f121 [(true,F2)] [(true,F2)] x=Vc x:=by kernel_rfl
def Ybt:=eS Tryz.func121 (by kernel_rfl) Yf0
theorem Yf5 x:fX [] [] .d Tryz.f91 [(false,.I .i64),(false,.I .i64),(false,.I .i64)] [(false,.B)] x=B0 x:=by kernel_rfl
def Fg:=eS Tryz.func91 (by kernel_rfl) Yf5
theorem Yfc x:fX [.see Fg] [] (.sq none .d (.sq (some [.kt 1]) (.sq none .d (.bl (.lp [.kt 1,.lt 3 (.I .i64)] .d))) (.sq (some [.kt 1]) (.sq none .d (.bl (.lp [.kt
 1,.lt 4 (.I .i64)] .d))) .d))) Tryz.f99 [(true,txP)] [(false,.B)] x=Zz x:=by kernel_rfl
def Ybc:=eS Tryz.func99 (by kernel_rfl) Yfc
theorem Yfi x:fX [.see Fg] [] (.sq none .d (.sq (some [.kt 0]) (.sq none .d (.bl (.lp [.kt 0,.lt 3 (.I .i64)] .d))) .d)) Tryz.f206 [(false,.S)] [(false,.B)] x =
 Ru x:=by kernel_rfl
def Zot:=eS Tryz.func206 (by kernel_rfl) Yfi
theorem Ygh x:fX [] [] .d Tryz.f201 [(true,txT)] [(false,.B)] x=Di x:=by kernel_rfl
def Zo3:=eS Tryz.func201 (by kernel_rfl) Ygh
theorem Ygg x:fX [] [] .d Tryz.f213 [(true,txC)] [(false,.B)] x=Nh x:=by kernel_rfl
def Zo2:=eS Tryz.func213 (by kernel_rfl) Ygg
theorem Ygf x:fX [] [] .d Tryz.f203 [(true,txT)] [(false,.B)] x=Cx x:=by kernel_rfl
def Zo1:=eS Tryz.func203 (by kernel_rfl) Ygf
theorem Ygb x:fX [.see Fg] [] .d Tryz.f230 [(false,.I .i64)] [(false,.B)] x=Vh x:=by kernel_rfl
def Zoz:=eS Tryz.func230 (by kernel_rfl) Ygb
theorem Ye9 x:fX [.see Zoz] [] .d Tryz.f215 [(true,txC)] [(false,.B)] x=L2 x:=by kernel_rfl
def Zoq:=eS Tryz.func215 (by kernel_rfl) Ye9
theorem Yf7 x:fX [.see Fg] [] .d Tryz.f259 [(false,.Y)] [(false,.I .i64)] x=Z7 x:=by kernel_rfl
def Yby:=eS Tryz.func259 (by kernel_rfl) Yf7
theorem Yfq x:fX [.see Fg] [] .d Tryz.f233 [(false,.I .i64)] [(false,.B)] x=Rx x:=by kernel_rfl
def Zox:=eS Tryz.func233 (by kernel_rfl) Yfq
theorem Yfk x:fX [.see Zox] [(6,.el .Y),(8,.el .Y),(20,.el .Y),(21,.el .Y),(34,.el .Y),(35,.el .Y),(53,.el .Y),(54,.el .Y),(74,.el .Y),(75,.el
 .Y)] .d Tryz.f224 [(false,.L .Y),(false,.I .i64)] [(false,.L .Y)] x=Rv x:=by kernel_rfl
def Zou:=eS Tryz.func224 (by kernel_rfl) Yfk
theorem Yff x:fX [.see Fg,.see Yby,.see Zox,.see Zou] [(71,.el .Y)] (.sq none .d (.sq none .d (.sq none .d (.sq none .d (.sq none .d (.sq
 (some [.kt 0,.kt 1,.kt 7,.lt 8 (.I .i64)]) .d (.sq (some [.kt 0,.kt 1,.kt 7,.lt 8 (.I .i64)]) (.sq none .d (.bl (.lp [.kt 0,.kt 1,.kt 7,.lt 8 (.I .i64),.lt 9 (.I .i64)]
 .d))) .d))))))) Tryz.f249 [(false,.L .Y),(false,.I .i64)] [(false,.I .i64),(false,.I .i64),(false,.B)] x=Z1 x:=by kernel_rfl
def Ybf:=eS Tryz.func249 (by kernel_rfl) Yff
end
end Go.Vs
