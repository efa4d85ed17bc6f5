import Derived.Test.YteaoaehkkcbmbaaGreatDoorVsPvk6
set_option linter.all false
namespace Go.Vs
open Go.Proofs
set_option maxRecDepth 100000
noncomputable section
def Zdd x:fX [.see zH] [] .d Tryz.f106 [(true,Bs)] [(true,Bs)] x=NU x:=by kernel_rfl
def fy:=eS Tryz.func106 (by kernel_rfl) Zdd
def Zdf x:fX [.see fy] [(8,.el Ca),(11,.el Ca),(24,.el Bs),(25,.el Bs)] (.sq none .d (.sq none .d (.sq (some [.kt 2,.bx 3 [.O Bs,.K,.K]]) (.sq
 none .d (.bl (.lp [.kt 2,.bx 3 [.O Bs,.K,.K],.kt 14,.kt 15,.lt 16 (.I .i64)] .d))) .d))) Tryz.f72 [(true,GM)] [(true,GM)] x=Rz x:=by kernel_rfl
def pE:=eS Tryz.func72 (by kernel_rfl) Zdf
def Zde x:fX [.see ZI,.see pE] [] .d Tryz.f30 [(true,Fd)] [(true,Fd)] x=Ry x:=by kernel_rfl
def pD:=eS Tryz.func30 (by kernel_rfl) Zde
def Zdn x:fX [] [] .d Tryz.f144 [(true,BH),(true,BH)] [(false,.B)] x=KC x:=by kernel_rfl
def pH:=eS Tryz.func144 (by kernel_rfl) Zdn
def Zdo x:fX [.see pH] [] .d Tryz.f122 [(true,Bs),(true,Bs)] [(false,.B)] x=X3 x:=by kernel_rfl
def zL:=eS Tryz.func122 (by kernel_rfl) Zdo
def Zd0 x:fX [] [] .d Tryz.f50 [(false,.I .i64),(false,.I .i64),(false,.I .i64)] [(false,.B)] x=D0 x:=by kernel_rfl
def H7:=eS Tryz.func50 (by kernel_rfl) Zd0
def Zcr x:fX [.see H7] [] (.sq none .d (.sq (some [.kt 0]) (.sq none .d (.bl (.lp [.kt 0,.lt 3 (.I .i64)] .d))) .d)) Tryz.f123 [(false,.S)] [(false,.B)] x =
 TP x:=by kernel_rfl
def oq:=eS Tryz.func123 (by kernel_rfl) Zcr
def Zdh x:fX [.see H7] [] .d Tryz.f162 [(false,.I .i64)] [(false,.B)] x=X1 x:=by kernel_rfl
def pF:=eS Tryz.func162 (by kernel_rfl) Zdh
def Zcc x:fX [.see pF] [] .d Tryz.f145 [(true,BH)] [(false,.B)] x=TK x:=by kernel_rfl
def oj:=eS Tryz.func145 (by kernel_rfl) Zcc
def Zhi x:fX [] [] .d Tryz.f196 [(false,.L .Y)] [(false,.I .i32),(false,.I .i64)] x=M6 x:=by kernel_rfl
def Za4:=eS Tryz.func196 (by kernel_rfl) Zhi
def Zhg x:fX [.see Za4] [] (.sq none .d (.sq (some [.kt 0]) (.sq none .d (.bl (.lp [.kt 0,.kt 6,.kt 7,.lt 8 (.I .i64)] .d))) .d)) Tryz.f187
 [(false,.L .Y)] [(false,.I .i32),(false,.I .i64)] x=Yf x:=by kernel_rfl
def Za2:=eS Tryz.func187 (by kernel_rfl) Zhg
def Zcm x:fX [.see Za2] [] .d Tryz.f178 [(false,.L .Y),(false,.I .i64)] [(false,.I .i64),(false,.I .i64),(false,.B)] x=Xx x:=by
 kernel_rfl
def yy:=eS Tryz.func178 (by kernel_rfl) Zcm
def Zct x:fX [.see H7] [] .d Tryz.f188 [(false,.I .i64),(false,.I .i64)] [(false,.I .i64),(false,.B)] x=dM x:=by kernel_rfl
def zC:=eS Tryz.func188 (by kernel_rfl) Zct
def Zch x:fX [.see zC] [] .d Tryz.f179 [(false,.L .Y),(false,.I .i64)] [(false,.I .i64),(false,.I .i64),(false,.B)] x=Xv x:=by
 kernel_rfl
def yu:=eS Tryz.func179 (by kernel_rfl) Zch
end
end Go.Vs
