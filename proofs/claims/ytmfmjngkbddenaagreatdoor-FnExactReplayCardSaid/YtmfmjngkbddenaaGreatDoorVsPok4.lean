import Derived.Test.YtmfmjngkbddenaaGreatDoorProg
import Derived.Test.YtmfmjngkbddenaaGreatDoorVsPok3
set_option linter.all false
namespace Go.Vs
open Go.Proofs
set_option maxRecDepth 100000
noncomputable section
theorem Yfw x:fX [.see Zo2] [] .d Tryz.f205 [(true,txT)] [(false,.B)] x=Z6 x:=by kernel_rfl
def Ybq:=eS Tryz.func205 (by kernel_rfl) Yfw
theorem Yfy x:fX [.see Fg,.see Zoy] [] .d Tryz.f207 [(true,Lx)] [(false,.B)] x=Ze2 x:=by kernel_rfl
def Ybr:=eS Tryz.func207 (by kernel_rfl) Yfy
theorem Yfl x:fX [.see Ybq,.see Zow,.see Zot,.see Fg,.see Ybr] [] (.sq none .d (.sq none .d (.sq none .d (.sq none .d (.sq (some [.kt
 1,.lt 3 .B,.lt 4 .B,.lt 5 .B]) .d .d))))) Tryz.f164 [(true,Lx)] [(false,.B)] x=Rw x:=by kernel_rfl
def Zov:=eS Tryz.func164 (by kernel_rfl) Yfl
theorem Yf3 x:fG [.see Zo0] [(8,.el txT),(30,.el txT),(31,.el txT),(45,.el txT),(46,.el txT),(52,.el txT),(53,.el txT)] (.sq none .d (.sq none .d (.sq
 none .d (.sq (some [.kt 3,.ot 5 txT,.lt 6 .B]) (.sq none .d (.bl (.lp [.sr 0 txU,.kt 3,.ot 5 txT,.lt 6 .B,.lt 7 (.I .i64)] (.sq none .d (.sq (some [.sr 0 txU,.kt 3,.ot 5
 txT,.lt 6 .B,.kt 7]) (.bl (.sq (some [.kt 0,.kt 3,.ot 5 txT,.lt 6 .B,.kt 7]) .d .d)) .d))))) (.sq (some [.ot 5 txT]) .d .d))))) Tryz.f165 [⟨false,false,txX,[.ow],none⟩,
 ⟨false,true,txT,[.rd,.rd,.rd,.rd,.rd,.rd,.rd],none⟩] [(false,txW)] x=Vf x:=by kernel_rfl
def Ybw:=eG Tryz.func165 (by kernel_rfl) Yf3
theorem Yfn x:fX [] [] (.sq none .d (.sq none (.sq none .d (.bl (.lp [.kt 1,.kt 2,.lt 5 (.I .i64)] .d))) .d)) Tryz.f166 [(true,F2),(false,.S)] [(false,.I .i64)] x =
 Vb x:=by kernel_rfl
def Ybk:=eS Tryz.func166 (by kernel_rfl) Yfn
theorem Yf2 x:fX [] [(8,.el txH),(29,.el txH),(30,.el txH),(44,.el txH),(45,.el txH),(50,.el txH),(51,.el txH)] (.sq none .d (.sq none .d (.sq none .d (.sq
 (some [.kt 3,.ot 5 txH,.lt 6 .B]) (.sq none .d (.bl (.lp [.kt 0,.kt 3,.ot 5 txH,.lt 6 .B,.lt 7 (.I .i64)] (.sq none .d (.sq (some [.kt 0,.kt 3,.ot 5 txH,.lt 6 .B,.kt
 7]) (.bl (.sq (some [.kt 0,.kt 3,.ot 5 txH,.lt 6 .B,.kt 7]) .d .d)) .d))))) (.sq (some [.ot 5 txH]) .d .d))))) Tryz.f167 [(false,txI),(true,txH)] [(false,txI)] x =
 Ve x:=by kernel_rfl
def Ybv:=eS Tryz.func167 (by kernel_rfl) Yf2
theorem Ye7 x:fX [.see Ybt,.see Ybn,.see Zov,.gen Ybw,.see Ybk,.see Ybv] [(37,.el txT),(42,.el txT),(48,.el txT)] (.sq
 none .d (.sq none .d (.sq none .d (.sq (some [.kt 2,.kt 3,.kt 4,.bx 6 [.O txT,.L (.I .i64),.K]]) .d (.sq (some [.kt 2,.kt 4,.bx 6 [.K,.K,.O txH]]) .d .d))))) Tryz.f93
 [(true,F2),(true,Lx)] [(true,F2),(false,.B)] x=Zx x:=by kernel_rfl
def Ya9:=eS Tryz.func93 (by kernel_rfl) Ye7
theorem Yf4 x:fX [] [] .d Tryz.f88 [(false,.I .i64),(false,.I .i64)] [(false,.I .i64)] x=Ze3 x:=by kernel_rfl
def Ybx:=eS Tryz.func88 (by kernel_rfl) Yf4
end
end Go.Vs
