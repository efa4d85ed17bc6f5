import Derived.Test.YtmfmjngkbddenaaGreatDoorProg
import Derived.Test.YtmfmjngkbddenaaGreatDoorVsPtk4
set_option linter.all false
namespace Go.Vs
open Go.Proofs
set_option maxRecDepth 100000
noncomputable section
theorem Ym5 x:fX [.see Fn,.see Zlm] [] .d Tryz.f172 [(true,txI)] [(false,.B)] x=Yf x:=by kernel_rfl
def Yh3:=eS Tryz.func172 (by kernel_rfl) Ym5
theorem Ymv x:fX [.see Zh,.see Yh3,.see Fn] [] (.sq none .d (.sq (some [.kt 1]) (.sq none .d (.bl (.lp [.kt 1,.lt 3 (.I .i64)] .d))) (.sq (some [.kt
 1]) (.sq none .d (.bl (.lp [.kt 1,.lt 4 (.I .i64)] .d))) .d))) Tryz.f100 [(true,G8)] [(false,.B)] x=Us x:=by kernel_rfl
def Yhw:=eS Tryz.func100 (by kernel_rfl) Ymv
theorem Ym7 x:fG [.see Zj] [(8,.el txU),(30,.el txU),(31,.el txU),(45,.el txU),(46,.el txU),(52,.el txU),(53,.el txU)] (.sq none .d (.sq none .d (.sq
 none .d (.sq (some [.kt 3,.ot 5 txU,.lt 6 .B]) (.sq none .d (.bl (.lp [.sr 0 txV,.kt 3,.ot 5 txU,.lt 6 .B,.lt 7 (.I .i64)] (.sq none .d (.sq (some [.sr 0 txV,.kt 3,.ot 5
 txU,.lt 6 .B,.kt 7]) (.bl (.sq (some [.kt 0,.kt 3,.ot 5 txU,.lt 6 .B,.kt 7]) .d .d)) .d))))) (.sq (some [.ot 5 txU]) .d .d))))) Tryz.f165 [⟨false,false,txY,[.ow],none⟩,
 ⟨false,true,txU,[.rd,.rd,.rd,.rd,.rd,.rd,.rd],none⟩] [(false,txX)] x=Yh x:=by kernel_rfl
def Yh5:=eG Tryz.func165 (by kernel_rfl) Ym7
theorem Ymm x:fX [] [] (.sq none .d (.sq none (.sq none .d (.bl (.lp [.kt 1,.kt 2,.lt 5 (.I .i64)] .d))) .d)) Tryz.f166 [(true,G8),(false,.S)] [(false,.I .i64)] x =
 Yb x:=by kernel_rfl
def Yhq:=eS Tryz.func166 (by kernel_rfl) Ymm
theorem Ym6 x:fX [] [(8,.el txI),(29,.el txI),(30,.el txI),(44,.el txI),(45,.el txI),(50,.el txI),(51,.el txI)] (.sq none .d (.sq none .d (.sq none .d (.sq
 (some [.kt 3,.ot 5 txI,.lt 6 .B]) (.sq none .d (.bl (.lp [.kt 0,.kt 3,.ot 5 txI,.lt 6 .B,.lt 7 (.I .i64)] (.sq none .d (.sq (some [.kt 0,.kt 3,.ot 5 txI,.lt 6 .B,.kt
 7]) (.bl (.sq (some [.kt 0,.kt 3,.ot 5 txI,.lt 6 .B,.kt 7]) .d .d)) .d))))) (.sq (some [.ot 5 txI]) .d .d))))) Tryz.f167 [(false,txJ),(true,txI)] [(false,txJ)] x =
 Yg x:=by kernel_rfl
def Yh4:=eS Tryz.func167 (by kernel_rfl) Ym6
theorem Ylx x:fX [.see Yh2,.see Yhw,.see Zt4,.gen Yh5,.see Yhq,.see Yh4] [(37,.el txU),(42,.el txU),(48,.el txU)] (.sq
 none .d (.sq none .d (.sq none .d (.sq (some [.kt 2,.kt 3,.kt 4,.bx 6 [.O txU,.L (.I .i64),.K]]) .d (.sq (some [.kt 2,.kt 4,.bx 6 [.K,.K,.O txI]]) .d .d))))) Tryz.f93
 [(true,G8),(true,C9)] [(true,G8),(false,.B)] x=Zcq x:=by kernel_rfl
def Yhc:=eS Tryz.func93 (by kernel_rfl) Ylx
theorem Ym8 x:fG [.see Yhc,.gen Zub,.see Zua,.see Zt3,.gen Zt8,.gen Zt6] [] (.sq none .d (.sq none .d (.sq none .d (.sq
 (some [.bx 0 [.O (.L .Y),.O txC,.L (.I .i64),.L .B,.K,.L (.I .i64),.K,.L (.I .i64),.L (.I .i64)],.kt 3,.kt 5]) .d .d)))) Tryz.f52 [⟨true,false,Jc,[.ow,.ow,.rd,
 .rd,.ow,.rd,.ow,.rd,.rd],(some Jc)⟩,⟨false,true,C9,[.rd,.rd,.rd,.rd,.rd,.rd,.rd,.rd,.rd,.rd,.rd,.rd,.rd],none⟩] [(false,.B)] x=Yi x:=by
 kernel_rfl
def Yh6:=eG Tryz.func52 (by kernel_rfl) Ym8
theorem Yna x:fG [.see Yhk,.gen Oc,.gen Zt9,.gen Yh6] [] (.sq none .d (.sq none .d (.sq (some [.bx 0 [.K,.L (.I .i64),.L (.I .i64)],
 .kt 4,.bx 5 [.O (.L .Y),.O txC,.L (.I .i64),.L .B,.O txU,.L (.I .i64),.O txI,.L (.I .i64),.L (.I .i64)]]) (.sq none .d (.bl (.lp [.bx 0 [.K,.L (.I .i64),.L (.I .i64)],
 .kt 4,.bx 5 [.O (.L .Y),.O txC,.L (.I .i64),.L .B,.O txU,.L (.I .i64),.O txI,.L (.I .i64),.L (.I .i64)],.lt 6 (.I .i64)] .d))) .d))) Tryz.f83 [⟨true,false,txH,[.rx,
 .rd,.rd],(some txE)⟩,⟨false,false,.I .i64,[.rd],none⟩] [(true,Jc)] x=Zc3 x:=by kernel_rfl
def Yh7:=eG Tryz.func83 (by kernel_rfl) Yna
end
end Go.Vs
