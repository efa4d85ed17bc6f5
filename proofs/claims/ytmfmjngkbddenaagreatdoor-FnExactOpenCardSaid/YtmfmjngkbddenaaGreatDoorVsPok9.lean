import Derived.Test.YtmfmjngkbddenaaGreatDoorProg
import Derived.Test.YtmfmjngkbddenaaGreatDoorVsPok8
set_option linter.all false
namespace Go.Vs
open Go.Proofs
set_option maxRecDepth 100000
noncomputable section
theorem Yjs x:fX [.see Nz,.see Zeq,.see Zsy,.see Yfz] [(7,.sb),(23,.el .Y),(24,.el .Y),(33,.el .Y),(34,.el .Y),(48,.el .Y),(49,
 .el .Y)] (.sq none .d (.sq none .d (.sq none .d (.sq none .d (.sq (some [.kt 3,.ot 5 .Y]) .d (.sq (some [.ot 5 .Y]) .d .d)))))) Tryz.f131 [(false,.L .Y),(true,txT)] [(false,
 .L .Y)] x=Xc x:=by kernel_rfl
def Yfq:=eS Tryz.func131 (by kernel_rfl) Yjs
theorem Yj4 x:fX [] [] (.sq none .d (.sq none .d (.sq (some [.lt 3 (.I .i64)]) (.sq none .d (.bl (.lp [.lt 3 (.I .i64),.kt 6,.kt 7,.lt 8 (.I .i64)] (.sq none .d (.sq none
 .d (.sq (some [.lt 3 (.I .i64),.kt 6,.kt 7,.kt 8]) (.bl (.sq none .d (.sq none .d (.sq none .d (.bl (.lp [.lt 3 (.I .i64),.kt 6,.kt 7,.kt 8,.lt 17 (.I .i64)] (.sq none .d
 (.sq none .d (.sq (some [.lt 3 (.I .i64),.kt 6,.kt 7,.kt 8,.kt 17]) .d .d))))))))) .d)))))) .d))) Tryz.f133 [(false,.L .Y)] [(false,.I .i64)] x=T1 x:=by kernel_rfl
def Zkr:=eS Tryz.func133 (by kernel_rfl) Yj4
theorem Yjr x:fX [.see Zkq,.see Zkt,.see Zkp,.see Yfq,.see Zsy,.see Zkr] [(28,.el .Y),(29,.el .Y),(50,.el .Y),(51,.el .Y),
 (59,.el .Y),(60,.el .Y)] (.sq none .d (.sq none .d (.sq none .d (.sq (some [.kt 5,.ot 7 .Y]) .d .d)))) Tryz.f58 [(false,.I .i64),(false,.I .i64),(true,Dn)] [(false,.L
 .Y)] x=Xb x:=by kernel_rfl
def Yfp:=eS Tryz.func58 (by kernel_rfl) Yjr
theorem Yj7 x:fG [] [] (.sq none .d (.sq none .d (.sq (some [.bx 1 [.K,.K,.L (.I .i64),.K],.kt 2]) .d .d))) Tryz.f128 [⟨false,true,txP,[.ow,.ow,.rd,.rd],none⟩]
 [(true,txP),(false,.B)] x=Xe x:=by kernel_rfl
def Zs2:=eG Tryz.func128 (by kernel_rfl) Yj7
theorem Yj6 x:fX [.see Zer,.see Zep,.see G1,.gen Zs2,.see Nz] [(49,.sb),(52,.el txC),(53,.el txC)] (.sq none .d (.sq none .d
 (.sq none .d (.sq none .d (.sq (some [.kt 6,.bx 7 [.K,.O txC,.K,.K]]) .d .d))))) Tryz.f56 [(true,txP),(false,.I .i64),(false,.L .Y)] [(true,txP)] x=K4 x :=
 by kernel_rfl
def Yfw:=eS Tryz.func56 (by kernel_rfl) Yj6
theorem Yjg x:fX [.see Zer,.see Zep,.gen Zs2,.see Nz] [(38,.sb)] (.sq none .d (.sq none .d (.sq none .d (.sq none .d (.sq none .d (.sq
 (some [.kt 2,.bx 3 [.O (.L .Y),.K,.K,.K]]) (.sq none .d (.bl (.lp [.kt 2,.bx 3 [.O (.L .Y),.K,.K,.K],.kt 26,.kt 27,.lt 28 (.I .i64)] .d))) .d)))))) Tryz.f59 [(true,
 txP)] [(true,txP)] x=M6 x:=by kernel_rfl
def Yfg:=eS Tryz.func59 (by kernel_rfl) Yjg
theorem Yjm x:fX [.see G1,.see Zkp,.see Zkr] [] .d Tryz.f169 [(false,.I .i64),(false,.I .i64)] [(false,.L .Y)] x=W7 x:=by kernel_rfl
def Yfl:=eS Tryz.func169 (by kernel_rfl) Yjm
theorem Yki x:fX [.see Zs7,.see Yfp,.see Yfw,.see Yfg,.see Yfl] [] (.sq none .d (.sq none (.sq none .d (.bl (.pl .d [.kt 1,.kt
 2,.bx 3 [.O (.L .Y),.O (.P (.I .i64) (.L .Y)),.L (.I .i64),.L .B],.kt 6,.kt 9,.kt 10,.lt 11 (.I .i64)] .d))) .d)) Tryz.f95 [(true,txP),(false,.I .i64),(false,Zqa)]
 [(true,txP)] x=Zbt x:=by kernel_rfl
def Yf1:=eS Tryz.func95 (by kernel_rfl) Yki
theorem Yjn x:fX [.see Yfy,.see Zs0,.see Yfs,.see Yf1] [] (.sq none .d (.sq none .d (.sq none .d (.sq none .d (.sq none .d (.sq (some [.kt 2,
 .bx 3 [.K,.K,.K,.K,.K,.K,.K,.L (.I .i64),.L (.I .i64)]]) .d .d)))))) Tryz.f38 [(true,Gt)] [(true,Gt)] x=W8 x:=by kernel_rfl
def Yfm:=eS Tryz.func38 (by kernel_rfl) Yjn
theorem Ykz x:fX [] [] (.sq none .d (.sq none .d (.sq none (.sq none .d (.bl (.lp [.kt 0,.kt 1,.lt 5 (.I .i64)] .d))) .d))) Tryz.f146 [(false,.L .Y),(false,.L .Y)]
 [(false,.B)] x=Re x:=by kernel_rfl
def Zkx:=eS Tryz.func146 (by kernel_rfl) Ykz
theorem Yk0 x:fX [.see Zkx] [] (.sq none .d (.sq none .d (.sq none (.sq none .d (.bl (.lp [.kt 0,.kt 1,.lt 5 (.I .i64)] .d))) .d))) Tryz.f73 [(false,txA),
 (false,txA)] [(false,.B)] x=Zbw x:=by kernel_rfl
def Ygb:=eS Tryz.func73 (by kernel_rfl) Yk0
theorem Yk9 x:fX [.see Zkx] [] .d Tryz.f147 [(true,txC),(true,txC)] [(false,.B)] x=Zb0 x:=by kernel_rfl
def Ygj:=eS Tryz.func147 (by kernel_rfl) Yk9
theorem Yla x:fX [.see Ygj] [] (.sq none .d (.sq none .d (.sq none (.sq none .d (.bl (.lp [.kt 0,.kt 1,.lt 5 (.I .i64)] .d))) .d))) Tryz.f74 [(false,txF),(false,
 txF)] [(false,.B)] x=Zb1 x:=by kernel_rfl
def Ygk:=eS Tryz.func74 (by kernel_rfl) Yla
end
end Go.Vs
