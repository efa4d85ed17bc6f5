import Derived.Test.YtmfmjngkbddenaaGreatDoorProg
import Derived.Test.YtmfmjngkbddenaaGreatDoorVsPok1
set_option linter.all false
namespace Go.Vs
open Go.Proofs
set_option maxRecDepth 100000
noncomputable section
theorem Yna x:fX [.see Zk7] [(7,.el txH),(10,.el txH),(27,.el txT),(28,.el txT)] (.sq none .d (.sq none .d (.sq (some [.kt 2,.bx 3 [.O txT,.K,.K]]) (.sq
 none .d (.bl (.lp [.kt 1,.kt 2,.bx 3 [.O txT,.K,.K],.lt 4 (.I .i64)] .d))) .d))) Tryz.f121 [(true,Fn)] [(true,Fn)] x=Uh x:=by kernel_rfl
def Zto:=eS Tryz.func121 (by kernel_rfl) Yna
theorem Ynf x:fX [.see Ztm,.see Zto] [] .d Tryz.f51 [(true,Gt)] [(true,Gt)] x=Zin x:=by kernel_rfl
def Yh0:=eS Tryz.func51 (by kernel_rfl) Ynf
theorem Ynh x:fX [] [] .d Tryz.f91 [(false,.I .i64),(false,.I .i64),(false,.I .i64)] [(false,.B)] x=Br x:=by kernel_rfl
def Ez:=eS Tryz.func91 (by kernel_rfl) Ynh
theorem Yl7 x:fX [.see Ez] [] (.sq none .d (.sq (some [.kt 1]) (.sq none .d (.bl (.lp [.kt 1,.lt 3 (.I .i64)] .d))) (.sq (some [.kt 1]) (.sq none .d (.bl (.lp [.kt
 1,.lt 4 (.I .i64)] .d))) .d))) Tryz.f99 [(true,txP)] [(false,.B)] x=T7 x:=by kernel_rfl
def Ztf:=eS Tryz.func99 (by kernel_rfl) Yl7
theorem Ymg x:fX [.see Ez] [] (.sq none .d (.sq (some [.kt 0]) (.sq none .d (.bl (.lp [.kt 0,.lt 3 (.I .i64)] .d))) .d)) Tryz.f206 [(false,.S)] [(false,.B)] x =
 T9 x:=by kernel_rfl
def Ztg:=eS Tryz.func206 (by kernel_rfl) Ymg
theorem Ynt x:fX [] [] .d Tryz.f201 [(true,txT)] [(false,.B)] x=Dh x:=by kernel_rfl
def Zk9:=eS Tryz.func201 (by kernel_rfl) Ynt
theorem Yns x:fX [] [] .d Tryz.f213 [(true,txC)] [(false,.B)] x=Pk x:=by kernel_rfl
def Ztr:=eS Tryz.func213 (by kernel_rfl) Yns
theorem Ynr x:fX [] [] .d Tryz.f203 [(true,txT)] [(false,.B)] x=C0 x:=by kernel_rfl
def Zk8:=eS Tryz.func203 (by kernel_rfl) Ynr
theorem Ynn x:fX [.see Ez] [] .d Tryz.f230 [(false,.I .i64)] [(false,.B)] x=Xy x:=by kernel_rfl
def Ztq:=eS Tryz.func230 (by kernel_rfl) Ynn
theorem Yl4 x:fX [.see Ztq] [] .d Tryz.f215 [(true,txC)] [(false,.B)] x=Nc x:=by kernel_rfl
def Ztd:=eS Tryz.func215 (by kernel_rfl) Yl4
theorem Ynj x:fX [.see Ez] [] .d Tryz.f259 [(false,.Y)] [(false,.I .i64)] x=Zct x:=by kernel_rfl
def Yh2:=eS Tryz.func259 (by kernel_rfl) Ynj
theorem Ymu x:fX [.see Ez] [] .d Tryz.f233 [(false,.I .i64)] [(false,.B)] x=Ub x:=by kernel_rfl
def Ztj:=eS Tryz.func233 (by kernel_rfl) Ymu
theorem Yml x:fX [.see Ztj] [(6,.el .Y),(8,.el .Y),(20,.el .Y),(21,.el .Y),(34,.el .Y),(35,.el .Y),(53,.el .Y),(54,.el .Y),(74,.el .Y),(75,.el
 .Y)] .d Tryz.f224 [(false,.L .Y),(false,.I .i64)] [(false,.L .Y)] x=Ua x:=by kernel_rfl
def Zth:=eS Tryz.func224 (by kernel_rfl) Yml
theorem Ymb x:fX [.see Ez,.see Yh2,.see Ztj,.see Zth] [(71,.el .Y)] (.sq none .d (.sq none .d (.sq none .d (.sq none .d (.sq none .d (.sq
 (some [.kt 0,.kt 1,.kt 7,.lt 8 (.I .i64)]) .d (.sq (some [.kt 0,.kt 1,.kt 7,.lt 8 (.I .i64)]) (.sq none .d (.bl (.lp [.kt 0,.kt 1,.kt 7,.lt 8 (.I .i64),.lt 9 (.I .i64)]
 .d))) .d))))))) Tryz.f249 [(false,.L .Y),(false,.I .i64)] [(false,.I .i64),(false,.I .i64),(false,.B)] x=Zcm x:=by kernel_rfl
def Yhc:=eS Tryz.func249 (by kernel_rfl) Ymb
end
end Go.Vs
