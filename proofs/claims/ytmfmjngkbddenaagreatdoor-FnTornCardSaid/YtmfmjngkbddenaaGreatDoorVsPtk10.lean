import Derived.Test.YtmfmjngkbddenaaGreatDoorVsPtk9
set_option linter.all false
namespace Go.Vs
open Go.Proofs
set_option maxRecDepth 100000
noncomputable section
theorem Ylp x:fX [] [] .d Tryz.f189 [(false,.B)] [(false,.Y)] x=Zi8 x:=by kernel_rfl
def Yhc:=eS Tryz.func189 (by kernel_rfl) Ylp
theorem Yk4 x:fX [.see Mv,.see Zff,.see Zt8,.see Yhc] [(7,.sb),(23,.el .Y),(24,.el .Y),(33,.el .Y),(34,.el .Y),(48,.el .Y),(49,
 .el .Y)] (.sq none .d (.sq none .d (.sq none .d (.sq none .d (.sq (some [.kt 3,.ot 5 .Y]) .d (.sq (some [.ot 5 .Y]) .d .d)))))) Tryz.f131 [(false,.L .Y),(true,txU)] [(false,
 .L .Y)] x=Ya x:=by kernel_rfl
def Yg5:=eS Tryz.func131 (by kernel_rfl) Yk4
theorem Ylg x:fX [] [] (.sq none .d (.sq none .d (.sq (some [.lt 3 (.I .i64)]) (.sq none .d (.bl (.lp [.lt 3 (.I .i64),.kt 6,.kt 7,.lt 8 (.I .i64)] (.sq none .d (.sq none
 .d (.sq (some [.lt 3 (.I .i64),.kt 6,.kt 7,.kt 8]) (.bl (.sq none .d (.sq none .d (.sq none .d (.bl (.lp [.lt 3 (.I .i64),.kt 6,.kt 7,.kt 8,.lt 17 (.I .i64)] (.sq none .d
 (.sq none .d (.sq (some [.lt 3 (.I .i64),.kt 6,.kt 7,.kt 8,.kt 17]) .d .d))))))))) .d)))))) .d))) Tryz.f133 [(false,.L .Y)] [(false,.I .i64)] x=Us x:=by kernel_rfl
def Zlm:=eS Tryz.func133 (by kernel_rfl) Ylg
theorem Yk3 x:fX [.see Zlk,.see Zlo,.see Zlj,.see Yg5,.see Zt8,.see Zlm] [(28,.el .Y),(29,.el .Y),(50,.el .Y),(51,.el .Y),
 (59,.el .Y),(60,.el .Y)] (.sq none .d (.sq none .d (.sq none .d (.sq (some [.kt 5,.ot 7 .Y]) .d .d)))) Tryz.f58 [(false,.I .i64),(false,.I .i64),(true,Db)] [(false,.L
 .Y)] x=Ry x:=by kernel_rfl
def Zt7:=eS Tryz.func58 (by kernel_rfl) Yk3
theorem Ylj x:fG [] [] (.sq none .d (.sq none .d (.sq (some [.bx 1 [.K,.K,.L (.I .i64),.K],.kt 2]) .d .d))) Tryz.f128 [⟨false,true,txQ,[.ow,.ow,.rd,.rd],none⟩]
 [(true,txQ),(false,.B)] x=Yc x:=by kernel_rfl
def Zuc:=eG Tryz.func128 (by kernel_rfl) Ylj
theorem Yli x:fX [.see Zr,.see Zq,.see Gv,.gen Zuc,.see Mv] [(49,.sb),(52,.el txC),(53,.el txC)] (.sq none .d (.sq none .d
 (.sq none .d (.sq none .d (.sq (some [.kt 6,.bx 7 [.K,.O txC,.K,.K]]) .d .d))))) Tryz.f56 [(true,txQ),(false,.I .i64),(false,.L .Y)] [(true,txQ)] x=Ji x :=
 by kernel_rfl
def Zub:=eS Tryz.func56 (by kernel_rfl) Yli
theorem Yks x:fX [.see Zr,.see Zq,.gen Zuc,.see Mv] [(38,.sb)] (.sq none .d (.sq none .d (.sq none .d (.sq none .d (.sq none .d (.sq
 (some [.kt 2,.bx 3 [.O (.L .Y),.K,.K,.K]]) (.sq none .d (.bl (.lp [.kt 2,.bx 3 [.O (.L .Y),.K,.K,.K],.kt 26,.kt 27,.lt 28 (.I .i64)] .d))) .d)))))) Tryz.f59 [(true,
 txQ)] [(true,txQ)] x=Lm x:=by kernel_rfl
def Zt3:=eS Tryz.func59 (by kernel_rfl) Yks
theorem Yky x:fX [.see Gv,.see Zlj,.see Zlm] [] .d Tryz.f169 [(false,.I .i64),(false,.I .i64)] [(false,.L .Y)] x=X7 x:=by kernel_rfl
def Yg2:=eS Tryz.func169 (by kernel_rfl) Yky
theorem Ylu x:fX [.see Zls,.see Zt7,.see Zub,.see Zt3,.see Yg2] [] (.sq none .d (.sq none (.sq none .d (.bl (.pl .d [.kt 1,.kt
 2,.bx 3 [.O (.L .Y),.O (.P (.I .i64) (.L .Y)),.L (.I .i64),.L .B],.kt 6,.kt 9,.kt 10,.lt 11 (.I .i64)] .d))) .d)) Tryz.f95 [(true,txQ),(false,.I .i64),(false,Zrd)]
 [(true,txQ)] x=Zcw x:=by kernel_rfl
def Yhe:=eS Tryz.func95 (by kernel_rfl) Ylu
theorem Ykz x:fX [.see Zud,.see Zll,.see Yg7,.see Yhe] [] (.sq none .d (.sq none .d (.sq none .d (.sq none .d (.sq none .d (.sq (some [.kt 2,
 .bx 3 [.K,.K,.K,.K,.K,.K,.K,.L (.I .i64),.L (.I .i64)]]) .d .d)))))) Tryz.f38 [(true,Je)] [(true,Je)] x=Rx x:=by kernel_rfl
def Zt5:=eS Tryz.func38 (by kernel_rfl) Ykz
theorem Yki x:fX [.see Zud,.see Zli,.see Zll,.see Zt5,.see Zls,.see Zt7,.see Zub,.see Zt3] [] (.sq none
 .d (.sq none .d (.sq none .d (.sq none .d (.sq (some [.kt 3,.kt 4,.bx 6 [.O (.L .Y),.O txC,.L (.I .i64),.L .B,.O txU,.L (.I .i64),.O txI,.L (.I .i64),.L (.I .i64)],.kt
 7]) .d .d))))) Tryz.f14 [(true,Je),(true,Db)] [(true,Je),(false,.B)] x=Zco x:=by kernel_rfl
def Ygt:=eS Tryz.func14 (by kernel_rfl) Yki
end
end Go.Vs
