import Derived.Test.YtmfmjngkbddenaaGreatDoorProg
import Derived.Test.YtmfmjngkbddenaaGreatDoorVsPok7
set_option linter.all false
namespace Go.Vs
open Go.Proofs
set_option maxRecDepth 100000
noncomputable section
theorem Yj5 x:fX [.see Zeq,.see G1,.see Zkt] [] (.sq none .d (.sq (some [.kt 1]) (.sq none .d (.bl (.lp [.kt 1,.kt 8,.kt 9,.lt 10 (.I .i64)] .d)))
 (.sq (some [.kt 1]) (.sq none .d (.bl (.lp [.kt 1,.kt 36,.kt 37,.lt 38 (.I .i64)] .d))) .d))) Tryz.f98 [(true,Fn)] [(false,.B)] x=M8 x:=by kernel_rfl
def Zs1:=eS Tryz.func98 (by kernel_rfl) Yj5
theorem Ykw x:fG [.see Zks] [(9,.el txT),(28,.el txT),(29,.el txT),(37,.el txT),(38,.el txT),(45,.el txT),(46,.el txT)] (.sq none .d (.sq none .d
 (.sq none .d (.sq (some [.kt 3,.ot 5 txT,.lt 6 .B]) (.sq none .d (.bl (.lp [.kt 3,.ot 5 txT,.lt 6 .B,.sr 10 txU,.kt 11,.lt 12 (.I .i64)] (.sq none .d (.sq none .d (.sq
 (some [.kt 3,.ot 5 txT,.lt 6 .B,.sr 10 txU,.kt 11,.kt 12]) (.bl (.sq none .d (.sq (some [.kt 3,.ot 5 txT,.lt 6 .B,.kt 8,.kt 10,.kt 11,.kt 12]) .d .d))) .d)))))) (.sq
 (some [.ot 5 txT]) .d .d))))) Tryz.f113 [⟨false,false,txX,[.ow],none⟩,⟨false,true,txT,[.rd,.rd,.rd,.rd,.rd,.rd,.rd],none⟩] [(false,txW)] x=Xg x:=by
 kernel_rfl
def Yf9:=eG Tryz.func113 (by kernel_rfl) Ykw
theorem Zre:Yl Tryz.prog 115=true:=by kernel_rfl
theorem Yi9 x:fG [] [] .d Tryz.f115 [⟨false,true,txT,[.rd,.rd,.rd,.rd,.rd,.rd,.rd],none⟩,⟨true,false,Dn,[.rd,.rd,.rd,.rx,.rd,.rx,.rd,.rd,.rd,.rd,
 .rd,.rd,.rd],(some Zp9)⟩] [(false,.B)] x=W2 x:=by kernel_rfl
def Zst:=eG Tryz.func115 (by kernel_rfl) Yi9
theorem Ynv x:fH [.fv Zst Zre] [] (.sq none .d (.sq none (.sq none .d (.bl (.lp [.kt 0,.bx 1 [.L (.I .i64),.L .S,.L (.I .i64),.K,.L
 (.I .i64),.K,.L (.I .i64),.L .B,.L .S,.L (.I .i64),.L (.I .i64),.L (.I .i64),.L (.I .i64)],.kt 7,.lt 8 (.I .i64)] .d))) .d)) Tryz.f181 1 115 [⟨false,false,txW,[.rd],
 none⟩,⟨true,false,Dn,[.rd,.rd,.rd,.rx,.rd,.rx,.rd,.rd,.rd,.rd,.rd,.rd,.rd],(some Zp9)⟩] [(false,.I .i64)] x=Zcv x:=by kernel_rfl
def Yh9:=eH Tryz.func181 (by kernel_rfl) Ynv
theorem Ynu x:fH [.hof Yh9,.fv Zst Zre] [] (.sq none .d (.sq none .d (.sq none .d (.sq (some [.sr 0 txU,.bx 1
 [.L (.I .i64),.L .S,.L (.I .i64),.K,.L (.I .i64),.K,.L (.I .i64),.L .B,.L .S,.L (.I .i64),.L (.I .i64),.L (.I .i64),.L (.I .i64)],.lt 5 (.I .i64)]) (.sq none .d (.bl
 (.lp [.sr 0 txU,.bx 1 [.L (.I .i64),.L .S,.L (.I .i64),.K,.L (.I .i64),.K,.L (.I .i64),.L .B,.L .S,.L (.I .i64),.L (.I .i64),.L (.I .i64),.L (.I .i64)],.lt 5 (.I
 .i64),.lt 6 (.I .i64)] (.sq none .d (.sq (some [.sr 0 txU,.bx 1 [.L (.I .i64),.L .S,.L (.I .i64),.K,.L (.I .i64),.K,.L (.I .i64),.L .B,.L .S,.L (.I .i64),.L (.I
 .i64),.L (.I .i64),.L (.I .i64)],.lt 5 (.I .i64),.kt 6]) .d .d))))) .d)))) Tryz.f114 1 115 [⟨false,false,txX,[.ow],none⟩,⟨true,false,Dn,[.rd,.rd,.rd,.rx,.rd,
 .rx,.rd,.rd,.rd,.rd,.rd,.rd,.rd],(some Zp9)⟩] [(false,txW)] x=X3 x:=by kernel_rfl
def Yh8:=eH Tryz.func114 (by kernel_rfl) Ynu
theorem Ykv x:fX [] [(9,.el txH),(27,.el txH),(28,.el txH),(36,.el txH),(37,.el txH),(43,.el txH),(44,.el txH)] (.sq none .d (.sq none .d (.sq none .d (.sq
 (some [.kt 3,.ot 5 txH,.lt 6 .B]) (.sq none .d (.bl (.lp [.kt 3,.ot 5 txH,.lt 6 .B,.kt 10,.kt 11,.lt 12 (.I .i64)] (.sq none .d (.sq none .d (.sq (some [.kt 3,.ot 5 txH,
 .lt 6 .B,.kt 10,.kt 11,.kt 12]) (.bl (.sq none .d (.sq (some [.kt 3,.ot 5 txH,.lt 6 .B,.kt 8,.kt 10,.kt 11,.kt 12]) .d .d))) .d)))))) (.sq (some [.ot 5 txH]) .d .d)))))
 Tryz.f116 [(false,txI),(true,txH)] [(false,txI)] x=T3 x:=by kernel_rfl
def Yf8:=eS Tryz.func116 (by kernel_rfl) Ykv
theorem Yi8 x:fX [.see Zs3,.see Zkq,.see Zs1,.gen Yf9,.hof Yh8,.see Yf8] [] (.sq none .d (.sq none .d
 (.sq none .d (.sq (some [.kt 2,.bx 3 [.L (.I .i64),.L .S,.L (.I .i64),.K,.L (.I .i64),.K,.L (.I .i64),.L .B,.L .S,.L (.I .i64),.L (.I .i64),.L (.I .i64),.L (.I
 .i64)],.kt 4,.bx 6 [.O txT,.L (.I .i64),.K]]) .d (.sq (some [.kt 2,.kt 4,.bx 6 [.K,.K,.O txH]]) .d .d))))) Tryz.f46 [(true,Fn),(true,Dn)] [(true,Fn),(false,
 .B)] x=Zbl x:=by kernel_rfl
def Yfc:=eS Tryz.func46 (by kernel_rfl) Yi8
theorem Yje x:fX [.see G1] [] (.sq none .d (.sq none .d (.sq (some [.kt 1]) (.sq none .d (.bl (.lp [.kt 1,.kt 25,.kt 26,.lt 27 (.I .i64)] .d))) (.sq none (.sq
 none .d (.bl (.lp [.kt 1,.kt 36,.kt 37,.lt 38 (.I .i64)] .d))) .d)))) Tryz.f97 [(true,txP)] [(false,.B)] x=K2 x:=by kernel_rfl
def Zep:=eS Tryz.func97 (by kernel_rfl) Yje
theorem Yj3 x:fX [.see Zep,.see Zs1,.see G1] [] .d Tryz.f35 [(true,Gt)] [(false,.B)] x=Tz x:=by kernel_rfl
def Zs0:=eS Tryz.func35 (by kernel_rfl) Yj3
theorem Yjy x:fX [.see Zks] [(11,.el Dn),(23,.el Dn),(24,.el Dn),(41,.el Dn),(42,.el Dn)] (.sq none .d (.sq none .d (.sq (some [.kt 1,.ot 3
 Dn]) (.sq none .d (.bl (.lp [.kt 1,.ot 3 Dn,.kt 13,.kt 14,.lt 15 (.I .i64)] .d))) (.sq (some [.ot 3 Dn]) (.sq none .d (.bl (.lp [.ot 3 Dn,.kt 27,.kt 28,.lt 29 (.I
 .i64)] .d))) .d)))) Tryz.f94 [(true,Fn)] [(false,Zqa)] x=Zbr x:=by kernel_rfl
def Yfs:=eS Tryz.func94 (by kernel_rfl) Yjy
theorem Yks x:fX [] [] .d Tryz.f57 [(false,.I .i64),(false,.I .i64)] [(false,.I .i64)] x=Rc x:=by kernel_rfl
def Zs7:=eS Tryz.func57 (by kernel_rfl) Yks
theorem Yjv x:fX [.see Nz] [(13,.el .Y),(14,.sb)] .d Tryz.f130 [(false,.L .Y),(false,.I .i64)] [(false,.L .Y)] x=Jg x:=by kernel_rfl
def Zkp:=eS Tryz.func130 (by kernel_rfl) Yjv
theorem Yju x:fX [.see Nz,.see Zkp] [(9,.sb),(17,.sb)] .d Tryz.f132 [(false,.L .Y),(false,.S)] [(false,.L .Y)] x=M7 x:=by kernel_rfl
def Zsy:=eS Tryz.func132 (by kernel_rfl) Yju
theorem Ykd x:fX [] [] .d Tryz.f189 [(false,.B)] [(false,.Y)] x=Zih x:=by kernel_rfl
def Yfz:=eS Tryz.func189 (by kernel_rfl) Ykd
end
end Go.Vs
