import Derived.Test.YteaoaehkkcbmbaaGreatDoorVsPvk12
set_option linter.all false
namespace Go.Vs
open Go.Proofs
set_option maxRecDepth 100000
noncomputable section
def Ze9 x:fX [.see Fi,.see ZN,.see pR,.see zh,.see gE] [] (.sq none .d (.sq none .d (.sq (some [.kt 1,.bx 4 [.O Bs,.L (.I
 .i64),.O Ca],.bx 6 [.O Bs,.L (.I .i64),.O Ca]]) (.sq none .d (.bl (.lp [.kt 1,.kt 2,.bx 4 [.O Bs,.L (.I .i64),.O Ca],.bx 6 [.O Bs,.L (.I .i64),.O Ca],.lt 7 (.I
 .i64)] .d))) .d))) Tryz.f15 [(true,DR),(false,.I .i64)] [(true,GM),(false,.I .i64)] x=R6 x:=by kernel_rfl
def pS:=eS Tryz.func15 (by kernel_rfl) Ze9
def Zex x:fX [.see pW,.see ZK,.gen gX] [] (.sq none .d (.sq none .d (.sq (some [.kt 2,.bx 3 [.O (.L .Y),.O BH,.L (.I .i64),.L .B,.K,.L
 (.I .i64),.K,.L (.I .i64),.L (.I .i64)]]) .d .d))) Tryz.f21 [(true,Fd)] [(true,Fd)] x=R4 x:=by kernel_rfl
def pP:=eS Tryz.func21 (by kernel_rfl) Zex
def Zez x:fX [.see pR,.see zg,.see pS,.see gQ,.see ZK,.see pP] [] (.sq none .d (.sq none .d (.sq (some [.kt 2,.bx
 4 [.O (.L .Y),.O BH,.L (.I .i64),.L .B,.O Bs,.L (.I .i64),.O Ca,.L (.I .i64),.L (.I .i64)]]) (.sq none .d (.bl (.lp [.kt 1,.kt 2,.bx 4 [.O (.L .Y),.O BH,.L (.I
 .i64),.L .B,.O Bs,.L (.I .i64),.O Ca,.L (.I .i64),.L (.I .i64)],.lt 5 (.I .i64)] (.sq none .d (.sq (some [.kt 1,.kt 2,.bx 4 [.O (.L .Y),.O BH,.L (.I .i64),.L .B,
 .O Bs,.L (.I .i64),.O Ca,.L (.I .i64),.L (.I .i64)],.kt 5]) .d .d))))) .d))) Tryz.f12 [(true,DR)] [(true,Fd),(false,.B)] x=Uh x:=by kernel_rfl
def zk:=eS Tryz.func12 (by kernel_rfl) Zez
def Zel x:fX [.cur Vu,.gen gW,.gen Gu,.see ZN,.gen ZO,.gen gP,.gen IH] [(42,.el (.I .i64))] (.sq
 none .d (.sq none .d (.sq none .d (.sq (some [.bx 2 [.O (.L .Y),.O BH,.L (.I .i64),.L .B],.kt 4,.bx 5 [.O (.L .Y),.K,.K,.K,.K,.K,.K,.K,.K],.bx 7 [.K,.L (.I .i64),
 .L (.I .i64)]]) .d .d)))) Tryz.f13 [(false,.L .Y)] [(true,DR),(false,.I .i64)] x=XF x:=by kernel_rfl
def za:=eS Tryz.func13 (by kernel_rfl) Zel
def Zcf x:fX [.see H7] [(8,.el (.L .Y))] .d Tryz.f57 [(false,.I .i64)] [(true,DR)] x=Xu x:=by kernel_rfl
def yt:=eS Tryz.func57 (by kernel_rfl) Zcf
def Zcj x:fX [.see oy,.see yt,.see pG] [] .d Tryz.f16 [] [(true,Fd)] x=Xw x:=by kernel_rfl
def yv:=eS Tryz.func16 (by kernel_rfl) Zcj
def Zd4 x:fX [] [] (.sq none .d (.sq none .d (.sq (some [.kt 2,.kt 3]) (.sq none .d (.bl (.lp [.kt 2,.kt 3,.lt 5 (.I .i64)] .d))) (.sq none (.sq none .d (.bl (.lp
 [.kt 2,.kt 3,.lt 6 (.I .i64)] .d))) .d)))) Tryz.f62 [(true,DR),(true,DR)] [(false,.B)] x=X6 x:=by kernel_rfl
def zW:=eS Tryz.func62 (by kernel_rfl) Zd4
def Zd3 x:fX [] [] .d Tryz.f113 [(true,BH),(true,BH)] [(false,.B)] x=TW x:=by kernel_rfl
def zU:=eS Tryz.func113 (by kernel_rfl) Zd3
def Zd5 x:fX [.see zU] [] .d Tryz.f64 [(true,Bs),(true,Bs)] [(false,.B)] x=TX x:=by kernel_rfl
def zX:=eS Tryz.func64 (by kernel_rfl) Zd5
def Zd7 x:fX [.see zX] [] (.sq none .d (.sq none .d (.sq (some [.kt 2,.kt 3]) (.sq none .d (.bl (.lp [.kt 2,.kt 3,.lt 5 (.I .i64)] .d))) (.sq none (.sq
 none .d (.bl (.lp [.kt 2,.kt 3,.lt 6 (.I .i64)] .d))) .d)))) Tryz.f22 [(true,GM),(true,GM)] [(false,.B)] x=TY x:=by kernel_rfl
def pJ:=eS Tryz.func22 (by kernel_rfl) Zd7
def Zd6 x:fX [.see zW,.see pJ] [] .d Tryz.f19 [(true,Fd),(true,Fd)] [(false,.B)] x=P4 x:=by kernel_rfl
def zY:=eS Tryz.func19 (by kernel_rfl) Zd6
def Zd1 x:fX [.see zT,.see zb,.see z7,.see yp,.see zZ,.see z8,.see z_,.see zB,.see
 zk,.see za,.see oz,.see pS,.see yv,.see ZH,.see ZK,.see zY,.see fq,.see pP,.see
 pJ,.see pN] [] .d Tryz.f3 [(false,.L .Y)] [(false,.B)] x=dQ x:=by kernel_rfl
def zS:=eS Tryz.func3 (by kernel_rfl) Zd1
end
end Go.Vs
