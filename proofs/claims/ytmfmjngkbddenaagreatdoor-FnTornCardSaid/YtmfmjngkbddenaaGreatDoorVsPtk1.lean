import Derived.Test.YtmfmjngkbddenaaGreatDoorVsPtk0
set_option linter.all false
namespace Go.Vs
open Go.Proofs
set_option maxRecDepth 100000
noncomputable section
theorem Ymk x:fX [.see Zl0] [] .d Tryz.f215 [(true,txC)] [(false,.B)] x=Nx x:=by kernel_rfl
def Zuj:=eS Tryz.func215 (by kernel_rfl) Ymk
theorem Yn4 x:fX [.see Fn] [] .d Tryz.f259 [(false,.Y)] [(false,.I .i64)] x=Zdf x:=by kernel_rfl
def Yit:=eS Tryz.func259 (by kernel_rfl) Yn4
theorem Yna x:fX [.see Fn] [] .d Tryz.f233 [(false,.I .i64)] [(false,.B)] x=R6 x:=by kernel_rfl
def Zly:=eS Tryz.func233 (by kernel_rfl) Yna
theorem Ym0 x:fX [.see Zly] [(6,.el .Y),(8,.el .Y),(20,.el .Y),(21,.el .Y),(34,.el .Y),(35,.el .Y),(53,.el .Y),(54,.el .Y),(74,.el .Y),(75,.el
 .Y)] .d Tryz.f224 [(false,.L .Y),(false,.I .i64)] [(false,.L .Y)] x=Ny x:=by kernel_rfl
def Zfg:=eS Tryz.func224 (by kernel_rfl) Ym0
theorem Ymt x:fX [.see Fn,.see Yit,.see Zly,.see Zfg] [(71,.el .Y)] (.sq none .d (.sq none .d (.sq none .d (.sq none .d (.sq none .d (.sq
 (some [.kt 0,.kt 1,.kt 7,.lt 8 (.I .i64)]) .d (.sq (some [.kt 0,.kt 1,.kt 7,.lt 8 (.I .i64)]) (.sq none .d (.bl (.lp [.kt 0,.kt 1,.kt 7,.lt 8 (.I .i64),.lt 9 (.I .i64)]
 .d))) .d))))))) Tryz.f249 [(false,.L .Y),(false,.I .i64)] [(false,.I .i64),(false,.I .i64),(false,.B)] x=Yj x:=by kernel_rfl
def Zuk:=eS Tryz.func249 (by kernel_rfl) Ymt
theorem Ymw x:fX [.see Fn] [] .d Tryz.f260 [(false,.I .i64),(false,.I .i64)] [(false,.I .i64),(false,.B)] x=Zc7 x:=by kernel_rfl
def Yh3:=eS Tryz.func260 (by kernel_rfl) Ymw
theorem Ymq x:fX [.see Fn,.see Yh3] [] .d Tryz.f250 [(false,.L .Y),(false,.I .i64)] [(false,.I .i64),(false,.I .i64),(false,.B)] x=Zc4 x
 := by kernel_rfl
def Yhz:=eS Tryz.func250 (by kernel_rfl) Ymq
theorem Yn8 x:fX [] [] .d Tryz.f241 [(false,.I .i64)] [(false,.I .i64)] x=Zrz x:=by kernel_rfl
def Yix:=eS Tryz.func241 (by kernel_rfl) Yn8
theorem Yn7 x:fX [] [(4,.el (.I .i64))] .d Tryz.f242 [(false,.I .i64)] [(false,.I .i64)] x=Zry x:=by kernel_rfl
def Yiw:=eS Tryz.func242 (by kernel_rfl) Yn7
theorem Yn9 x:fX [] [(4,.el (.I .i64))] .d Tryz.f243 [(false,.I .i64)] [(false,.I .i64)] x=Zr0 x:=by kernel_rfl
def Yiy:=eS Tryz.func243 (by kernel_rfl) Yn9
theorem Ymi x:fX [.see Fn,.see Yix,.see Yiw,.see Yiy] [] (.sq none .d (.sq none .d (.sq none .d (.sq (some [.lt 6 (.I .i64)]) .d .d))))
 Tryz.f235 [(false,.I .i64),(false,.I .i64)] [(false,.I .i64),(false,.B)] x=Lp x:=by kernel_rfl
def Zlt:=eS Tryz.func235 (by kernel_rfl) Ymi
theorem Yob x:fX [.see Zuk,.see Yhz,.see Zlt] [] .d Tryz.f238 [(false,.I .i64),(false,.L .Y),(false,.I .i64)] [(false,.I .i64),(false,.I
 .i64),(false,.B)] x=Zdi x:=by kernel_rfl
def Yiz:=eS Tryz.func238 (by kernel_rfl) Yob
theorem Ymm x:fX [.see Zl0,.see Yiz,.see Zfg] [(11,.el .Y)] (.sq none .d (.sq none .d (.sq none .d (.sq (some [.ot 6 .Y]) (.sq none .d (.bl (.lp [.kt
 0,.kt 1,.ot 6 .Y,.lt 7 (.I .i64)] .d))) .d)))) Tryz.f229 [(false,.I .i64),(false,.L .Y)] [(false,.S),(false,.B)] x=Zc0 x:=by kernel_rfl
def Yhv:=eS Tryz.func229 (by kernel_rfl) Ymm
theorem Yml x:fX [.see Zuj,.see Yhv] [] .d Tryz.f214 [(true,txC)] [(false,.S),(false,.B)] x=Hy x:=by kernel_rfl
def Zlu:=eS Tryz.func214 (by kernel_rfl) Yml
end
end Go.Vs
