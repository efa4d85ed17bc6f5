import Derived.Test.YtmfmjngkbddenaaGreatDoorProg
import Derived.Test.YtmfmjngkbddenaaGreatDoorVsPok3
set_option linter.all false
namespace Go.Vs
open Go.Proofs
set_option maxRecDepth 100000
noncomputable section
theorem Yjm x:fX [.see Yd3,.see Zq1,.see Fn] [] .d Tryz.f36 [(true,Ef)] [(false,.B)] x=Za1 x:=by kernel_rfl
def Yec:=eS Tryz.func36 (by kernel_rfl) Yjm
theorem Yju x:fX [.see Zq9] [] .d Tryz.f205 [(true,txT)] [(false,.B)] x=Za3 x:=by kernel_rfl
def Yeg:=eS Tryz.func205 (by kernel_rfl) Yju
theorem Yjv x:fX [.see Fn,.see Zil] [] .d Tryz.f207 [(true,Cd)] [(false,.B)] x=Zf7 x:=by kernel_rfl
def Yeh:=eS Tryz.func207 (by kernel_rfl) Yjv
theorem Yjg x:fX [.see Yeg,.see Zik,.see Zqv,.see Fn,.see Yeh] [] (.sq none .d (.sq none .d (.sq none .d (.sq none .d (.sq (some [.kt
 1,.lt 3 .B,.lt 4 .B,.lt 5 .B]) .d .d))))) Tryz.f164 [(true,Cd)] [(false,.B)] x=Sm x:=by kernel_rfl
def Zqy:=eS Tryz.func164 (by kernel_rfl) Yjg
theorem Yjz x:fG [.see Zim] [(8,.el txT),(30,.el txT),(31,.el txT),(45,.el txT),(46,.el txT),(52,.el txT),(53,.el txT)] (.sq none .d (.sq none .d (.sq
 none .d (.sq (some [.kt 3,.ot 5 txT,.lt 6 .B]) (.sq none .d (.bl (.lp [.sr 0 txU,.kt 3,.ot 5 txT,.lt 6 .B,.lt 7 (.I .i64)] (.sq none .d (.sq (some [.sr 0 txU,.kt 3,.ot 5
 txT,.lt 6 .B,.kt 7]) (.bl (.sq (some [.kt 0,.kt 3,.ot 5 txT,.lt 6 .B,.kt 7]) .d .d)) .d))))) (.sq (some [.ot 5 txT]) .d .d))))) Tryz.f165 [⟨false,false,txX,[.ow],none⟩,
 ⟨false,true,txT,[.rd,.rd,.rd,.rd,.rd,.rd,.rd],none⟩] [(false,txW)] x=Wa x:=by kernel_rfl
def Yek:=eG Tryz.func165 (by kernel_rfl) Yjz
theorem Yji x:fX [] [] (.sq none .d (.sq none (.sq none .d (.bl (.lp [.kt 1,.kt 2,.lt 5 (.I .i64)] .d))) .d)) Tryz.f166 [(true,E3),(false,.S)] [(false,.I .i64)] x =
 V6 x:=by kernel_rfl
def Yea:=eS Tryz.func166 (by kernel_rfl) Yji
theorem Yjy x:fX [] [(8,.el txH),(29,.el txH),(30,.el txH),(44,.el txH),(45,.el txH),(50,.el txH),(51,.el txH)] (.sq none .d (.sq none .d (.sq none .d (.sq
 (some [.kt 3,.ot 5 txH,.lt 6 .B]) (.sq none .d (.bl (.lp [.kt 0,.kt 3,.ot 5 txH,.lt 6 .B,.lt 7 (.I .i64)] (.sq none .d (.sq (some [.kt 0,.kt 3,.ot 5 txH,.lt 6 .B,.kt
 7]) (.bl (.sq (some [.kt 0,.kt 3,.ot 5 txH,.lt 6 .B,.kt 7]) .d .d)) .d))))) (.sq (some [.ot 5 txH]) .d .d))))) Tryz.f167 [(false,txI),(true,txH)] [(false,txI)] x =
 V9 x:=by kernel_rfl
def Yej:=eS Tryz.func167 (by kernel_rfl) Yjy
theorem Yi0 x:fX [.see Zq5,.see Zq1,.see Zqy,.gen Yek,.see Yea,.see Yej] [(37,.el txT),(42,.el txT),(48,.el txT)] (.sq
 none .d (.sq none .d (.sq none .d (.sq (some [.kt 2,.kt 3,.kt 4,.bx 6 [.O txT,.L (.I .i64),.K]]) .d (.sq (some [.kt 2,.kt 4,.bx 6 [.K,.K,.O txH]]) .d .d))))) Tryz.f93
 [(true,E3),(true,Cd)] [(true,E3),(false,.B)] x=Zav x:=by kernel_rfl
def Yd0:=eS Tryz.func93 (by kernel_rfl) Yi0
theorem Yjh x:fX [.see Zim] [(9,.el Cd),(25,.el Cd),(26,.el Cd),(54,.el Cd),(55,.el Cd)] (.sq none .d (.sq none .d (.sq (some [.kt 1,.ot 3
 Cd]) (.sq none .d (.bl (.lp [.kt 1,.ot 3 Cd,.lt 4 (.I .i64)] .d))) (.sq (some [.ot 3 Cd]) (.sq none .d (.bl (.lp [.kt 1,.ot 3 Cd,.lt 5 (.I .i64)] .d))) .d))))
 Tryz.f173 [(true,E3)] [(false,Znv)] x=V5 x:=by kernel_rfl
def Yd9:=eS Tryz.func173 (by kernel_rfl) Yjh
theorem Yj1 x:fX [] [] .d Tryz.f88 [(false,.I .i64),(false,.I .i64)] [(false,.I .i64)] x=Sr x:=by kernel_rfl
def Zq6:=eS Tryz.func88 (by kernel_rfl) Yj1
theorem Yjf x:fX [] [(6,.el .Y),(8,.el .Y),(15,.el .Y),(16,.el .Y)] .d Tryz.f185 [(false,.L .Y),(false,.I .i64)] [(false,.L .Y)] x=Io x:=by kernel_rfl
def Zij:=eS Tryz.func185 (by kernel_rfl) Yjf
theorem Yje x:fX [.see Zij] [(8,.el .Y),(10,.el .Y),(16,.el .Y)] .d Tryz.f187 [(false,.L .Y),(false,.S)] [(false,.L .Y)] x=Qf x:=by kernel_rfl
def Zii:=eS Tryz.func187 (by kernel_rfl) Yje
theorem Yjs x:fX [] [] .d Tryz.f218 [(false,.B)] [(false,.Y)] x=Zf6 x:=by kernel_rfl
def Yee:=eS Tryz.func218 (by kernel_rfl) Yjs
theorem Yjt x:fG [.see Zii] [(9,.el .Y),(10,.el .Y)] .d Tryz.f219 [⟨false,false,.L .Y,[.ow],none⟩,⟨false,true,txC,[.rd,.rd],none⟩] [(false,.L .Y)] x
 = Sp x:=by kernel_rfl
def Yef:=eG Tryz.func219 (by kernel_rfl) Yjt
end
end Go.Vs
