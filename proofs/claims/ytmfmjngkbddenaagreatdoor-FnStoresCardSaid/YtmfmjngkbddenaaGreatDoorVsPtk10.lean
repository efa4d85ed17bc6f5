import Derived.Test.YtmfmjngkbddenaaGreatDoorProg
import Derived.Test.YtmfmjngkbddenaaGreatDoorVsPtk9
set_option linter.all false
namespace Go.Vs
open Go.Proofs
set_option maxRecDepth 100000
noncomputable section
theorem Yk7 x:fX [] [] .d Tryz.f189 [(false,.B)] [(false,.Y)] x=Zix x:=by kernel_rfl
def Ygw:=eS Tryz.func189 (by kernel_rfl) Yk7
theorem Ykm x:fX [.see Mt,.see Ze5,.see Ztp,.see Ygw] [(7,.sb),(23,.el .Y),(24,.el .Y),(33,.el .Y),(34,.el .Y),(48,.el .Y),(49,
 .el .Y)] (.sq none .d (.sq none .d (.sq none .d (.sq none .d (.sq (some [.kt 3,.ot 5 .Y]) .d (.sq (some [.ot 5 .Y]) .d .d)))))) Tryz.f131 [(false,.L .Y),(true,txU)] [(false,
 .L .Y)] x=Xv x:=by kernel_rfl
def Ygq:=eS Tryz.func131 (by kernel_rfl) Ykm
theorem Yky x:fX [] [] (.sq none .d (.sq none .d (.sq (some [.lt 3 (.I .i64)]) (.sq none .d (.bl (.lp [.lt 3 (.I .i64),.kt 6,.kt 7,.lt 8 (.I .i64)] (.sq none .d (.sq none
 .d (.sq (some [.lt 3 (.I .i64),.kt 6,.kt 7,.kt 8]) (.bl (.sq none .d (.sq none .d (.sq none .d (.bl (.lp [.lt 3 (.I .i64),.kt 6,.kt 7,.kt 8,.lt 17 (.I .i64)] (.sq none .d
 (.sq none .d (.sq (some [.lt 3 (.I .i64),.kt 6,.kt 7,.kt 8,.kt 17]) .d .d))))))))) .d)))))) .d))) Tryz.f133 [(false,.L .Y)] [(false,.I .i64)] x=Uj x:=by kernel_rfl
def Zk9:=eS Tryz.func133 (by kernel_rfl) Yky
theorem Ykl x:fX [.see Zk8,.see Zlb,.see Zk7,.see Ygq,.see Ztp,.see Zk9] [(28,.el .Y),(29,.el .Y),(50,.el .Y),(51,.el .Y),
 (59,.el .Y),(60,.el .Y)] (.sq none .d (.sq none .d (.sq none .d (.sq (some [.kt 5,.ot 7 .Y]) .d .d)))) Tryz.f58 [(false,.I .i64),(false,.I .i64),(true,C9)] [(false,.L
 .Y)] x=Rr x:=by kernel_rfl
def Zto:=eS Tryz.func58 (by kernel_rfl) Ykl
theorem Yk1 x:fG [] [] (.sq none .d (.sq none .d (.sq (some [.bx 1 [.K,.K,.L (.I .i64),.K],.kt 2]) .d .d))) Tryz.f128 [⟨false,true,txQ,[.ow,.ow,.rd,.rd],none⟩]
 [(true,txQ),(false,.B)] x=Xw x:=by kernel_rfl
def Ztu:=eG Tryz.func128 (by kernel_rfl) Yk1
theorem Yk0 x:fX [.see Zg,.see Zf,.see Gt,.gen Ztu,.see Mt] [(49,.sb),(52,.el txC),(53,.el txC)] (.sq none .d (.sq none .d
 (.sq none .d (.sq none .d (.sq (some [.kt 6,.bx 7 [.K,.O txC,.K,.K]]) .d .d))))) Tryz.f56 [(true,txQ),(false,.I .i64),(false,.L .Y)] [(true,txQ)] x=Jh x :=
 by kernel_rfl
def Ztt:=eS Tryz.func56 (by kernel_rfl) Yk0
theorem Yka x:fX [.see Zg,.see Zf,.gen Ztu,.see Mt] [(38,.sb)] (.sq none .d (.sq none .d (.sq none .d (.sq none .d (.sq none .d (.sq
 (some [.kt 2,.bx 3 [.O (.L .Y),.K,.K,.K]]) (.sq none .d (.bl (.lp [.kt 2,.bx 3 [.O (.L .Y),.K,.K,.K],.kt 26,.kt 27,.lt 28 (.I .i64)] .d))) .d)))))) Tryz.f59 [(true,
 txQ)] [(true,txQ)] x=Lm x:=by kernel_rfl
def Ztl:=eS Tryz.func59 (by kernel_rfl) Yka
theorem Ykg x:fX [.see Gt,.see Zk7,.see Zk9] [] .d Tryz.f169 [(false,.I .i64),(false,.I .i64)] [(false,.L .Y)] x=Xs x:=by kernel_rfl
def Ygn:=eS Tryz.func169 (by kernel_rfl) Ykg
theorem Ylc x:fX [.see Zlf,.see Zto,.see Ztt,.see Ztl,.see Ygn] [] (.sq none .d (.sq none (.sq none .d (.bl (.pl .d [.kt 1,.kt
 2,.bx 3 [.O (.L .Y),.O (.P (.I .i64) (.L .Y)),.L (.I .i64),.L .B],.kt 6,.kt 9,.kt 10,.lt 11 (.I .i64)] .d))) .d)) Tryz.f95 [(true,txQ),(false,.I .i64),(false,Zqu)]
 [(true,txQ)] x=Zcn x:=by kernel_rfl
def Ygy:=eS Tryz.func95 (by kernel_rfl) Ylc
theorem Ykh x:fX [.see Ztv,.see Ze6,.see Ygs,.see Ygy] [] (.sq none .d (.sq none .d (.sq none .d (.sq none .d (.sq none .d (.sq (some [.kt 2,
 .bx 3 [.K,.K,.K,.K,.K,.K,.K,.L (.I .i64),.L (.I .i64)]]) .d .d)))))) Tryz.f38 [(true,Jc)] [(true,Jc)] x=Px x:=by kernel_rfl
def Zk6:=eS Tryz.func38 (by kernel_rfl) Ykh
theorem Yj0 x:fX [.see Ztv,.see Zk5,.see Ze6,.see Zk6,.see Zlf,.see Zto,.see Ztt,.see Ztl] [] (.sq none
 .d (.sq none .d (.sq none .d (.sq none .d (.sq (some [.kt 3,.kt 4,.bx 6 [.O (.L .Y),.O txC,.L (.I .i64),.L .B,.O txU,.L (.I .i64),.O txI,.L (.I .i64),.L (.I .i64)],.kt
 7]) .d .d))))) Tryz.f14 [(true,Jc),(true,C9)] [(true,Jc),(false,.B)] x=Zcf x:=by kernel_rfl
def Yge:=eS Tryz.func14 (by kernel_rfl) Yj0
end
end Go.Vs
