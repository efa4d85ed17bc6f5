import Derived.Test.YteaoaehkkcbmbaaGreatDoorVsPvk9
set_option linter.all false
namespace Go.Vs
open Go.Proofs
set_option maxRecDepth 100000
noncomputable section
def Zdg x:fX [] [] .d Tryz.f125 [(false,.B)] [(false,.Y)] x=dP x:=by kernel_rfl
def zI:=eS Tryz.func125 (by kernel_rfl) Zdg
def Zcv x:fX [.see Nb,.see ZG,.see ov,.see zI] [(7,.sb),(23,.el .Y),(24,.el .Y),(33,.el .Y),(34,.el .Y),(48,.el .Y),(49,
 .el .Y)] (.sq none .d (.sq none .d (.sq none .d (.sq none .d (.sq (some [.kt 3,.ot 5 .Y]) .d (.sq (some [.ot 5 .Y]) .d .d)))))) Tryz.f82 [(false,.L .Y),(true,Bs)] [(false,
 .L .Y)] x=TR x:=by kernel_rfl
def zD:=eS Tryz.func82 (by kernel_rfl) Zcv
def Zc7 x:fX [] [] (.sq none .d (.sq none .d (.sq (some [.lt 3 (.I .i64)]) (.sq none .d (.bl (.lp [.lt 3 (.I .i64),.kt 6,.kt 7,.lt 8 (.I .i64)] (.sq none .d (.sq none
 .d (.sq (some [.lt 3 (.I .i64),.kt 6,.kt 7,.kt 8]) (.bl (.sq none .d (.sq none .d (.sq none .d (.bl (.lp [.lt 3 (.I .i64),.kt 6,.kt 7,.kt 8,.lt 17 (.I .i64)] (.sq none .d
 (.sq none .d (.sq (some [.lt 3 (.I .i64),.kt 6,.kt 7,.kt 8,.kt 17]) .d .d))))))))) .d)))))) .d))) Tryz.f84 [(false,.L .Y)] [(false,.I .i64)] x=Rx x:=by kernel_rfl
def fw:=eS Tryz.func84 (by kernel_rfl) Zc7
def Zcu x:fX [.see fu,.see fz,.see ft,.see zD,.see ov,.see fw] [(28,.el .Y),(29,.el .Y),(50,.el .Y),(51,.el .Y),
 (59,.el .Y),(60,.el .Y)] (.sq none .d (.sq none .d (.sq none .d (.sq (some [.kt 5,.ot 7 .Y]) .d .d)))) Tryz.f34 [(false,.I .i64),(false,.I .i64),(true,DC)] [(false,.L
 .Y)] x=P2 x:=by kernel_rfl
def ou:=eS Tryz.func34 (by kernel_rfl) Zcu
def Zda x:fG [] [] (.sq none .d (.sq none .d (.sq (some [.bx 1 [.K,.K,.L (.I .i64),.K],.kt 2]) .d .d))) Tryz.f78 [⟨false,true,DR,[.ow,.ow,.rd,.rd],none⟩]
 [(true,DR),(false,.B)] x=TS x:=by kernel_rfl
def pC:=eG Tryz.func78 (by kernel_rfl) Zda
def Zc9 x:fX [.see ZI,.see ZF,.see H7,.gen pC,.see Nb] [(49,.sb),(52,.el BH),(53,.el BH)] (.sq none .d (.sq none .d
 (.sq none .d (.sq none .d (.sq (some [.kt 6,.bx 7 [.K,.O BH,.K,.K]]) .d .d))))) Tryz.f32 [(true,DR),(false,.I .i64),(false,.L .Y)] [(true,DR)] x=J5 x:=
 by kernel_rfl
def pB:=eS Tryz.func32 (by kernel_rfl) Zc9
def Zci x:fX [.see ZI,.see ZF,.gen pC,.see Nb] [(38,.sb)] (.sq none .d (.sq none .d (.sq none .d (.sq none .d (.sq none .d (.sq
 (some [.kt 2,.bx 3 [.O (.L .Y),.K,.K,.K]]) (.sq none .d (.bl (.lp [.kt 2,.bx 3 [.O (.L .Y),.K,.K,.K],.kt 26,.kt 27,.lt 28 (.I .i64)] .d))) .d)))))) Tryz.f35 [(true,
 DR)] [(true,DR)] x=KA x:=by kernel_rfl
def om:=eS Tryz.func35 (by kernel_rfl) Zci
def Zcp x:fX [.see H7,.see ft,.see fw] [] .d Tryz.f107 [(false,.I .i64),(false,.I .i64)] [(false,.L .Y)] x=TO x:=by kernel_rfl
def zA:=eS Tryz.func107 (by kernel_rfl) Zcp
def Zdl x:fX [.see gD,.see ou,.see pB,.see om,.see zA] [] (.sq none .d (.sq none (.sq none .d (.bl (.pl .d [.kt 1,.kt
 2,.bx 3 [.O (.L .Y),.O (.P (.I .i64) (.L .Y)),.L (.I .i64),.L .B],.kt 6,.kt 9,.kt 10,.lt 11 (.I .i64)] .d))) .d)) Tryz.f56 [(true,DR),(false,.I .i64),(false,lj)]
 [(true,DR)] x=TU x:=by kernel_rfl
def pG:=eS Tryz.func56 (by kernel_rfl) Zdl
def Zcq x:fX [.see pD,.see ZH,.see oy,.see pG] [] (.sq none .d (.sq none .d (.sq none .d (.sq none .d (.sq none .d (.sq (some [.kt 2,
 .bx 3 [.K,.K,.K,.K,.K,.K,.K,.L (.I .i64),.L (.I .i64)]]) .d .d)))))) Tryz.f20 [(true,Fd)] [(true,Fd)] x=NS x:=by kernel_rfl
def fq:=eS Tryz.func20 (by kernel_rfl) Zcq
def Zb8 x:fX [.see pD,.see oh,.see ZH,.see fq,.see gD,.see ou,.see pB,.see om] [] (.sq none
 .d (.sq none .d (.sq none .d (.sq none .d (.sq (some [.kt 3,.kt 4,.bx 6 [.O (.L .Y),.O BH,.L (.I .i64),.L .B,.O Bs,.L (.I .i64),.O Ca,.L (.I .i64),.L (.I .i64)],.kt
 7]) .d .d))))) Tryz.f7 [(true,Fd),(true,DC)] [(true,Fd),(false,.B)] x=Xs x:=by kernel_rfl
def yp:=eS Tryz.func7 (by kernel_rfl) Zb8
def Zfn x:fX [] [(20,.el .Y),(26,.el .Y),(27,.el (.L .Y)),(28,.el (.L .Y)),(45,.el .Y),(52,.el .Y),(54,.el BH),(55,.el BH)] (.sq none .d (.sq none .d
 (.sq (some [.kt 1,.kt 2,.bx 3 [.O (.L .Y),.K,.K,.K]]) (.sq none .d (.bl (.lp [.kt 1,.kt 2,.bx 3 [.O (.L .Y),.K,.K,.K],.lt 4 (.I .i64)] .d))) (.sq (some [.kt 2,.bx 3
 [.K,.O BH,.K,.K]]) (.sq none .d (.bl (.lp [.kt 1,.kt 2,.bx 3 [.K,.O BH,.K,.K],.lt 5 (.I .i64)] .d))) .d)))) Tryz.f48 [(true,DR)] [(true,DR)] x=PC x:=
 by kernel_rfl
def gQ:=eS Tryz.func48 (by kernel_rfl) Zfn
def Zgb x:fX [.see gQ,.see pV] [] .d Tryz.f36 [(true,Fd)] [(true,Fd)] x=Uq x:=by kernel_rfl
def pW:=eS Tryz.func36 (by kernel_rfl) Zgb
def Zeh x:fX [.see Fi] [] (.sq none .d (.sq (some [.kt 1]) (.sq none .d (.bl (.lp [.kt 1,.lt 3 (.I .i64)] .d))) (.sq (some [.kt 1]) (.sq none .d (.bl (.lp [.kt
 1,.lt 4 (.I .i64)] .d))) .d))) Tryz.f60 [(true,DR)] [(false,.B)] x=P7 x:=by kernel_rfl
def gI:=eS Tryz.func60 (by kernel_rfl) Zeh
end
end Go.Vs
