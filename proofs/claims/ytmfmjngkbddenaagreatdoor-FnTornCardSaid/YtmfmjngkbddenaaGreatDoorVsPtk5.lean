import Derived.Test.YtmfmjngkbddenaaGreatDoorVsPtk4
set_option linter.all false
namespace Go.Vs
open Go.Proofs
set_option maxRecDepth 100000
noncomputable section
theorem Yno x:fX [.see Fn,.see Zlz] [] .d Tryz.f172 [(true,txI)] [(false,.B)] x=Yr x:=by kernel_rfl
def Yik:=eS Tryz.func172 (by kernel_rfl) Yno
theorem Yne x:fX [.see Zs,.see Yik,.see Fn] [] (.sq none .d (.sq (some [.kt 1]) (.sq none .d (.bl (.lp [.kt 1,.lt 3 (.I .i64)] .d))) (.sq (some [.kt
 1]) (.sq none .d (.bl (.lp [.kt 1,.lt 4 (.I .i64)] .d))) .d))) Tryz.f100 [(true,Hb)] [(false,.B)] x=U2 x:=by kernel_rfl
def Yid:=eS Tryz.func100 (by kernel_rfl) Yne
theorem Ynq x:fG [.see Zu] [(8,.el txU),(30,.el txU),(31,.el txU),(45,.el txU),(46,.el txU),(52,.el txU),(53,.el txU)] (.sq none .d (.sq none .d (.sq
 none .d (.sq (some [.kt 3,.ot 5 txU,.lt 6 .B]) (.sq none .d (.bl (.lp [.sr 0 txV,.kt 3,.ot 5 txU,.lt 6 .B,.lt 7 (.I .i64)] (.sq none .d (.sq (some [.sr 0 txV,.kt 3,.ot 5
 txU,.lt 6 .B,.kt 7]) (.bl (.sq (some [.kt 0,.kt 3,.ot 5 txU,.lt 6 .B,.kt 7]) .d .d)) .d))))) (.sq (some [.ot 5 txU]) .d .d))))) Tryz.f165 [⟨false,false,txY,[.ow],none⟩,
 ⟨false,true,txU,[.rd,.rd,.rd,.rd,.rd,.rd,.rd],none⟩] [(false,txX)] x=Yt x:=by kernel_rfl
def Yim:=eG Tryz.func165 (by kernel_rfl) Ynq
theorem Ym5 x:fX [] [] (.sq none .d (.sq none (.sq none .d (.bl (.lp [.kt 1,.kt 2,.lt 5 (.I .i64)] .d))) .d)) Tryz.f166 [(true,Hb),(false,.S)] [(false,.I .i64)] x =
 Yn x:=by kernel_rfl
def Yh7:=eS Tryz.func166 (by kernel_rfl) Ym5
theorem Ynp x:fX [] [(8,.el txI),(29,.el txI),(30,.el txI),(44,.el txI),(45,.el txI),(50,.el txI),(51,.el txI)] (.sq none .d (.sq none .d (.sq none .d (.sq
 (some [.kt 3,.ot 5 txI,.lt 6 .B]) (.sq none .d (.bl (.lp [.kt 0,.kt 3,.ot 5 txI,.lt 6 .B,.lt 7 (.I .i64)] (.sq none .d (.sq (some [.kt 0,.kt 3,.ot 5 txI,.lt 6 .B,.kt
 7]) (.bl (.sq (some [.kt 0,.kt 3,.ot 5 txI,.lt 6 .B,.kt 7]) .d .d)) .d))))) (.sq (some [.ot 5 txI]) .d .d))))) Tryz.f167 [(false,txJ),(true,txI)] [(false,txJ)] x =
 Ys x:=by kernel_rfl
def Yil:=eS Tryz.func167 (by kernel_rfl) Ynp
theorem Ymg x:fX [.see Yij,.see Yid,.see Zum,.gen Yim,.see Yh7,.see Yil] [(37,.el txU),(42,.el txU),(48,.el txU)] (.sq
 none .d (.sq none .d (.sq none .d (.sq (some [.kt 2,.kt 3,.kt 4,.bx 6 [.O txU,.L (.I .i64),.K]]) .d (.sq (some [.kt 2,.kt 4,.bx 6 [.K,.K,.O txI]]) .d .d))))) Tryz.f93
 [(true,Hb),(true,Db)] [(true,Hb),(false,.B)] x=Zcz x:=by kernel_rfl
def Yht:=eS Tryz.func93 (by kernel_rfl) Ymg
theorem Ynr x:fG [.see Yht,.gen Zut,.see Zus,.see Zul,.gen Zuq,.gen Zuo] [] (.sq none .d (.sq none .d (.sq none .d (.sq
 (some [.bx 0 [.O (.L .Y),.O txC,.L (.I .i64),.L .B,.K,.L (.I .i64),.K,.L (.I .i64),.L (.I .i64)],.kt 3,.kt 5]) .d .d)))) Tryz.f52 [⟨true,false,Je,[.ow,.ow,.rd,
 .rd,.ow,.rd,.ow,.rd,.rd],(some Je)⟩,⟨false,true,Db,[.rd,.rd,.rd,.rd,.rd,.rd,.rd,.rd,.rd,.rd,.rd,.rd,.rd],none⟩] [(false,.B)] x=Yu x:=by
 kernel_rfl
def Yin:=eG Tryz.func52 (by kernel_rfl) Ynr
theorem Ynt x:fG [.see Yh1,.gen Od,.gen Zur,.gen Yin] [] (.sq none .d (.sq none .d (.sq (some [.bx 0 [.K,.L (.I .i64),.L (.I .i64)],
 .kt 4,.bx 5 [.O (.L .Y),.O txC,.L (.I .i64),.L .B,.O txU,.L (.I .i64),.O txI,.L (.I .i64),.L (.I .i64)]]) (.sq none .d (.bl (.lp [.bx 0 [.K,.L (.I .i64),.L (.I .i64)],
 .kt 4,.bx 5 [.O (.L .Y),.O txC,.L (.I .i64),.L .B,.O txU,.L (.I .i64),.O txI,.L (.I .i64),.L (.I .i64)],.lt 6 (.I .i64)] .d))) .d))) Tryz.f83 [⟨true,false,txH,[.rx,
 .rd,.rd],(some txE)⟩,⟨false,false,.I .i64,[.rd],none⟩] [(true,Je)] x=Zdc x:=by kernel_rfl
def Yio:=eG Tryz.func83 (by kernel_rfl) Ynt
end
end Go.Vs
