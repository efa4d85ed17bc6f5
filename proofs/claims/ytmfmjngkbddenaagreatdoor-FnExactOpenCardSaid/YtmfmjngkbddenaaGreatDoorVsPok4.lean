import Derived.Test.YtmfmjngkbddenaaGreatDoorProg
import Derived.Test.YtmfmjngkbddenaaGreatDoorVsPok3
set_option linter.all false
namespace Go.Vs
open Go.Proofs
set_option maxRecDepth 100000
noncomputable section
theorem Ymv x:fX [.see Ztf,.see Ztl,.see Ez] [] .d Tryz.f36 [(true,Gt)] [(false,.B)] x=Uc x:=by kernel_rfl
def Ztk:=eS Tryz.func36 (by kernel_rfl) Ymv
theorem Ym6 x:fX [.see Ztr] [] .d Tryz.f205 [(true,txT)] [(false,.B)] x=Zcs x:=by kernel_rfl
def Yhu:=eS Tryz.func205 (by kernel_rfl) Ym6
theorem Ym8 x:fX [.see Ez,.see Zk6] [] .d Tryz.f207 [(true,Dn)] [(false,.B)] x=Zim x:=by kernel_rfl
def Yhv:=eS Tryz.func207 (by kernel_rfl) Ym8
theorem Ymo x:fX [.see Yhu,.see Zk4,.see Ztg,.see Ez,.see Yhv] [] (.sq none .d (.sq none .d (.sq none .d (.sq none .d (.sq (some [.kt
 1,.lt 3 .B,.lt 4 .B,.lt 5 .B]) .d .d))))) Tryz.f164 [(true,Dn)] [(false,.B)] x=Pf x:=by kernel_rfl
def Zk3:=eS Tryz.func164 (by kernel_rfl) Ymo
theorem Ynd x:fG [.see Zk7] [(8,.el txT),(30,.el txT),(31,.el txT),(45,.el txT),(46,.el txT),(52,.el txT),(53,.el txT)] (.sq none .d (.sq none .d (.sq
 none .d (.sq (some [.kt 3,.ot 5 txT,.lt 6 .B]) (.sq none .d (.bl (.lp [.sr 0 txU,.kt 3,.ot 5 txT,.lt 6 .B,.lt 7 (.I .i64)] (.sq none .d (.sq (some [.sr 0 txU,.kt 3,.ot 5
 txT,.lt 6 .B,.kt 7]) (.bl (.sq (some [.kt 0,.kt 3,.ot 5 txT,.lt 6 .B,.kt 7]) .d .d)) .d))))) (.sq (some [.ot 5 txT]) .d .d))))) Tryz.f165 [⟨false,false,txX,[.ow],none⟩,
 ⟨false,true,txT,[.rd,.rd,.rd,.rd,.rd,.rd,.rd],none⟩] [(false,txW)] x=Xv x:=by kernel_rfl
def Yhz:=eG Tryz.func165 (by kernel_rfl) Ynd
theorem Ymr x:fX [] [] (.sq none .d (.sq none (.sq none .d (.bl (.lp [.kt 1,.kt 2,.lt 5 (.I .i64)] .d))) .d)) Tryz.f166 [(true,Fn),(false,.S)] [(false,.I .i64)] x =
 Xs x:=by kernel_rfl
def Yhm:=eS Tryz.func166 (by kernel_rfl) Ymr
theorem Ync x:fX [] [(8,.el txH),(29,.el txH),(30,.el txH),(44,.el txH),(45,.el txH),(50,.el txH),(51,.el txH)] (.sq none .d (.sq none .d (.sq none .d (.sq
 (some [.kt 3,.ot 5 txH,.lt 6 .B]) (.sq none .d (.bl (.lp [.kt 0,.kt 3,.ot 5 txH,.lt 6 .B,.lt 7 (.I .i64)] (.sq none .d (.sq (some [.kt 0,.kt 3,.ot 5 txH,.lt 6 .B,.kt
 7]) (.bl (.sq (some [.kt 0,.kt 3,.ot 5 txH,.lt 6 .B,.kt 7]) .d .d)) .d))))) (.sq (some [.ot 5 txH]) .d .d))))) Tryz.f167 [(false,txI),(true,txH)] [(false,txI)] x =
 Xu x:=by kernel_rfl
def Yhy:=eS Tryz.func167 (by kernel_rfl) Ync
theorem Yl2 x:fX [.see Zto,.see Ztl,.see Zk3,.gen Yhz,.see Yhm,.see Yhy] [(37,.el txT),(42,.el txT),(48,.el txT)] (.sq
 none .d (.sq none .d (.sq none .d (.sq (some [.kt 2,.kt 3,.kt 4,.bx 6 [.O txT,.L (.I .i64),.K]]) .d (.sq (some [.kt 2,.kt 4,.bx 6 [.K,.K,.O txH]]) .d .d))))) Tryz.f93
 [(true,Fn),(true,Dn)] [(true,Fn),(false,.B)] x=Zcj x:=by kernel_rfl
def Yg6:=eS Tryz.func93 (by kernel_rfl) Yl2
theorem Ymp x:fX [.see Zk7] [(9,.el Dn),(25,.el Dn),(26,.el Dn),(54,.el Dn),(55,.el Dn)] (.sq none .d (.sq none .d (.sq (some [.kt 1,.ot 3
 Dn]) (.sq none .d (.bl (.lp [.kt 1,.ot 3 Dn,.lt 4 (.I .i64)] .d))) (.sq (some [.ot 3 Dn]) (.sq none .d (.bl (.lp [.kt 1,.ot 3 Dn,.lt 5 (.I .i64)] .d))) .d))))
 Tryz.f173 [(true,Fn)] [(false,Zqa)] x=Xq x:=by kernel_rfl
def Yhk:=eS Tryz.func173 (by kernel_rfl) Ymp
theorem Yne x:fX [] [] .d Tryz.f88 [(false,.I .i64),(false,.I .i64)] [(false,.I .i64)] x=Xw x:=by kernel_rfl
def Ztp:=eS Tryz.func88 (by kernel_rfl) Yne
theorem Ymn x:fX [] [(6,.el .Y),(8,.el .Y),(15,.el .Y),(16,.el .Y)] .d Tryz.f185 [(false,.L .Y),(false,.I .i64)] [(false,.L .Y)] x=Ji x:=by kernel_rfl
def Zk2:=eS Tryz.func185 (by kernel_rfl) Ymn
theorem Ymm x:fX [.see Zk2] [(8,.el .Y),(10,.el .Y),(16,.el .Y)] .d Tryz.f187 [(false,.L .Y),(false,.S)] [(false,.L .Y)] x=Ri x:=by kernel_rfl
def Zk1:=eS Tryz.func187 (by kernel_rfl) Ymm
theorem Ym1 x:fX [] [] .d Tryz.f218 [(false,.B)] [(false,.Y)] x=Zil x:=by kernel_rfl
def Yhq:=eS Tryz.func218 (by kernel_rfl) Ym1
theorem Ym3 x:fG [.see Zk1] [(9,.el .Y),(10,.el .Y)] .d Tryz.f219 [⟨false,false,.L .Y,[.ow],none⟩,⟨false,true,txC,[.rd,.rd],none⟩] [(false,.L .Y)] x
 = Uf x:=by kernel_rfl
def Yhr:=eG Tryz.func219 (by kernel_rfl) Ym3
end
end Go.Vs
