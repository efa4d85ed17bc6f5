import Derived.Test.YtmfmjngkbddenaaGreatDoorProg
import Derived.Test.YtmfmjngkbddenaaGreatDoorVsPok8
set_option linter.all false
namespace Go.Vs
open Go.Proofs
set_option maxRecDepth 100000
noncomputable section
theorem Yge x:fX [.see Om,.see Zia,.see Zqd,.see Ycc] [(7,.sb),(23,.el .Y),(24,.el .Y),(33,.el .Y),(34,.el .Y),(48,.el .Y),(49,
 .el .Y)] (.sq none .d (.sq none .d (.sq none .d (.sq none .d (.sq (some [.kt 3,.ot 5 .Y]) .d (.sq (some [.ot 5 .Y]) .d .d)))))) Tryz.f131 [(false,.L .Y),(true,txT)] [(false,
 .L .Y)] x=Vl x:=by kernel_rfl
def Yb6:=eS Tryz.func131 (by kernel_rfl) Yge
theorem Ygo x:fX [] [] (.sq none .d (.sq none .d (.sq (some [.lt 3 (.I .i64)]) (.sq none .d (.bl (.lp [.lt 3 (.I .i64),.kt 6,.kt 7,.lt 8 (.I .i64)] (.sq none .d (.sq none
 .d (.sq (some [.lt 3 (.I .i64),.kt 6,.kt 7,.kt 8]) (.bl (.sq none .d (.sq none .d (.sq none .d (.bl (.lp [.lt 3 (.I .i64),.kt 6,.kt 7,.kt 8,.lt 17 (.I .i64)] (.sq none .d
 (.sq none .d (.sq (some [.lt 3 (.I .i64),.kt 6,.kt 7,.kt 8,.kt 17]) .d .d))))))))) .d)))))) .d))) Tryz.f133 [(false,.L .Y)] [(false,.I .i64)] x=Vn x:=by kernel_rfl
def Zqg:=eS Tryz.func133 (by kernel_rfl) Ygo
theorem Ygd x:fX [.see Zqe,.see Zid,.see Zh9,.see Yb6,.see Zqd,.see Zqg] [(28,.el .Y),(29,.el .Y),(50,.el .Y),(51,.el .Y),
 (59,.el .Y),(60,.el .Y)] (.sq none .d (.sq none .d (.sq none .d (.sq (some [.kt 5,.ot 7 .Y]) .d .d)))) Tryz.f58 [(false,.I .i64),(false,.I .i64),(true,Cd)] [(false,.L
 .Y)] x=P5 x:=by kernel_rfl
def Zqc:=eS Tryz.func58 (by kernel_rfl) Ygd
theorem Ygr x:fG [] [] (.sq none .d (.sq none .d (.sq (some [.bx 1 [.K,.K,.L (.I .i64),.K],.kt 2]) .d .d))) Tryz.f128 [⟨false,true,txP,[.ow,.ow,.rd,.rd],none⟩]
 [(true,txP),(false,.B)] x=Vo x:=by kernel_rfl
def Zqj:=eG Tryz.func128 (by kernel_rfl) Ygr
theorem Ygq x:fX [.see Zib,.see Zh8,.see H9,.gen Zqj,.see Om] [(49,.sb),(52,.el txC),(53,.el txC)] (.sq none .d (.sq none .d
 (.sq none .d (.sq none .d (.sq (some [.kt 6,.bx 7 [.K,.O txC,.K,.K]]) .d .d))))) Tryz.f56 [(true,txP),(false,.I .i64),(false,.L .Y)] [(true,txP)] x=H7 x :=
 by kernel_rfl
def Zqi:=eS Tryz.func56 (by kernel_rfl) Ygq
theorem Yf7 x:fX [.see Zib,.see Zh8,.gen Zqj,.see Om] [(38,.sb)] (.sq none .d (.sq none .d (.sq none .d (.sq none .d (.sq none .d (.sq
 (some [.kt 2,.bx 3 [.O (.L .Y),.K,.K,.K]]) (.sq none .d (.bl (.lp [.kt 2,.bx 3 [.O (.L .Y),.K,.K,.K],.kt 26,.kt 27,.lt 28 (.I .i64)] .d))) .d)))))) Tryz.f59 [(true,
 txP)] [(true,txP)] x=Je x:=by kernel_rfl
def Zqa:=eS Tryz.func59 (by kernel_rfl) Yf7
theorem Yf9 x:fX [.see H9,.see Zh9,.see Zqg] [] .d Tryz.f169 [(false,.I .i64),(false,.I .i64)] [(false,.L .Y)] x=Vi x:=by kernel_rfl
def Yb3:=eS Tryz.func169 (by kernel_rfl) Yf9
theorem Yg2 x:fX [.see Zqo,.see Zqc,.see Zqi,.see Zqa,.see Yb3] [] (.sq none .d (.sq none (.sq none .d (.bl (.pl .d [.kt 1,.kt
 2,.bx 3 [.O (.L .Y),.O (.P (.I .i64) (.L .Y)),.L (.I .i64),.L .B],.kt 6,.kt 9,.kt 10,.lt 11 (.I .i64)] .d))) .d)) Tryz.f95 [(true,txP),(false,.I .i64),(false,Znv)]
 [(true,txP)] x=Zv x:=by kernel_rfl
def Yce:=eS Tryz.func95 (by kernel_rfl) Yg2
theorem Yga x:fX [.see Zqk,.see Zqf,.see Yb8,.see Yce] [] (.sq none .d (.sq none .d (.sq none .d (.sq none .d (.sq none .d (.sq (some [.kt 2,
 .bx 3 [.K,.K,.K,.K,.K,.K,.K,.L (.I .i64),.L (.I .i64)]]) .d .d)))))) Tryz.f38 [(true,Ef)] [(true,Ef)] x=Vj x:=by kernel_rfl
def Yb4:=eS Tryz.func38 (by kernel_rfl) Yga
theorem Yfy x:fX [.see Zqk,.see Yby,.see Zqf,.see Yb4,.see Zqo,.see Zqc,.see Zqi,.see Zqa] [] (.sq none
 .d (.sq none .d (.sq none .d (.sq none .d (.sq (some [.kt 3,.kt 4,.bx 6 [.O (.L .Y),.O txC,.L (.I .i64),.L .B,.O txT,.L (.I .i64),.O txH,.L (.I .i64),.L (.I .i64)],.kt
 7]) .d .d))))) Tryz.f14 [(true,Ef),(true,Cd)] [(true,Ef),(false,.B)] x=Vf x:=by kernel_rfl
def Ybx:=eS Tryz.func14 (by kernel_rfl) Yfy
theorem Yhd x:fX [] [] (.sq none .d (.sq none .d (.sq none (.sq none .d (.bl (.lp [.kt 0,.kt 1,.lt 5 (.I .i64)] .d))) .d))) Tryz.f146 [(false,.L .Y),(false,.L .Y)]
 [(false,.B)] x=P6 x:=by kernel_rfl
def Zie:=eS Tryz.func146 (by kernel_rfl) Yhd
theorem Yhe x:fX [.see Zie] [] (.sq none .d (.sq none .d (.sq none (.sq none .d (.bl (.lp [.kt 0,.kt 1,.lt 5 (.I .i64)] .d))) .d))) Tryz.f73 [(false,txA),
 (false,txA)] [(false,.B)] x=Zy x:=by kernel_rfl
def Ycm:=eS Tryz.func73 (by kernel_rfl) Yhe
theorem Yho x:fX [.see Zie] [] .d Tryz.f147 [(true,txC),(true,txC)] [(false,.B)] x=Z3 x:=by kernel_rfl
def Ycv:=eS Tryz.func147 (by kernel_rfl) Yho
theorem Yhp x:fX [.see Ycv] [] (.sq none .d (.sq none .d (.sq none (.sq none .d (.bl (.lp [.kt 0,.kt 1,.lt 5 (.I .i64)] .d))) .d))) Tryz.f74 [(false,txF),(false,
 txF)] [(false,.B)] x=Z4 x:=by kernel_rfl
def Ycw:=eS Tryz.func74 (by kernel_rfl) Yhp
end
end Go.Vs
