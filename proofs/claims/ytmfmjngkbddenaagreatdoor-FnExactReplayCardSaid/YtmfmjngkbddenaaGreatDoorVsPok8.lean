import Derived.Test.YtmfmjngkbddenaaGreatDoorProg
import Derived.Test.YtmfmjngkbddenaaGreatDoorVsPok7
set_option linter.all false
namespace Go.Vs
open Go.Proofs
set_option maxRecDepth 100000
noncomputable section
theorem Ydm x:fX [.see Zgy,.see Ih,.see Zok] [] (.sq none .d (.sq (some [.kt 1]) (.sq none .d (.bl (.lp [.kt 1,.kt 8,.kt 9,.lt 10 (.I .i64)] .d)))
 (.sq (some [.kt 1]) (.sq none .d (.bl (.lp [.kt 1,.kt 36,.kt 37,.lt 38 (.I .i64)] .d))) .d))) Tryz.f98 [(true,F2)] [(false,.B)] x=Ro x:=by kernel_rfl
def Zz2:=eS Tryz.func98 (by kernel_rfl) Ydm
theorem Yd7 x:fG [.see Zoi] [(9,.el txT),(28,.el txT),(29,.el txT),(37,.el txT),(38,.el txT),(45,.el txT),(46,.el txT)] (.sq none .d (.sq none .d
 (.sq none .d (.sq (some [.kt 3,.ot 5 txT,.lt 6 .B]) (.sq none .d (.bl (.lp [.kt 3,.ot 5 txT,.lt 6 .B,.sr 10 txU,.kt 11,.lt 12 (.I .i64)] (.sq none .d (.sq none .d (.sq
 (some [.kt 3,.ot 5 txT,.lt 6 .B,.sr 10 txU,.kt 11,.kt 12]) (.bl (.sq none .d (.sq (some [.kt 3,.ot 5 txT,.lt 6 .B,.kt 8,.kt 10,.kt 11,.kt 12]) .d .d))) .d)))))) (.sq
 (some [.ot 5 txT]) .d .d))))) Tryz.f113 [⟨false,false,txX,[.ow],none⟩,⟨false,true,txT,[.rd,.rd,.rd,.rd,.rd,.rd,.rd],none⟩] [(false,txW)] x=U4 x:=by
 kernel_rfl
def Yaf:=eG Tryz.func113 (by kernel_rfl) Yd7
theorem Zmz:V4 Tryz.prog 115=true:=by kernel_rfl
theorem Yc1 x:fG [] [] .d Tryz.f115 [⟨false,true,txT,[.rd,.rd,.rd,.rd,.rd,.rd,.rd],none⟩,⟨true,false,Lx,[.rd,.rd,.rd,.rx,.rd,.rx,.rd,.rd,.rd,.rd,
 .rd,.rd,.rd],(some Zlt)⟩] [(false,.B)] x=Uu x:=by kernel_rfl
def Zoc:=eG Tryz.func115 (by kernel_rfl) Yc1
theorem Ygj x:fH [.fv Zoc Zmz] [] (.sq none .d (.sq none (.sq none .d (.bl (.lp [.kt 0,.bx 1 [.L (.I .i64),.L .S,.L (.I .i64),.K,.L
 (.I .i64),.K,.L (.I .i64),.L .B,.L .S,.L (.I .i64),.L (.I .i64),.L (.I .i64),.L (.I .i64)],.kt 7,.lt 8 (.I .i64)] .d))) .d)) Tryz.f181 1 115 [⟨false,false,txW,[.rd],
 none⟩,⟨true,false,Lx,[.rd,.rd,.rd,.rx,.rd,.rx,.rd,.rd,.rd,.rd,.rd,.rd,.rd],(some Zlt)⟩] [(false,.I .i64)] x=Z9 x:=by kernel_rfl
def Yb5:=eH Tryz.func181 (by kernel_rfl) Ygj
theorem Ygi x:fH [.hof Yb5,.fv Zoc Zmz] [] (.sq none .d (.sq none .d (.sq none .d (.sq (some [.sr 0 txU,.bx 1
 [.L (.I .i64),.L .S,.L (.I .i64),.K,.L (.I .i64),.K,.L (.I .i64),.L .B,.L .S,.L (.I .i64),.L (.I .i64),.L (.I .i64),.L (.I .i64)],.lt 5 (.I .i64)]) (.sq none .d (.bl
 (.lp [.sr 0 txU,.bx 1 [.L (.I .i64),.L .S,.L (.I .i64),.K,.L (.I .i64),.K,.L (.I .i64),.L .B,.L .S,.L (.I .i64),.L (.I .i64),.L (.I .i64),.L (.I .i64)],.lt 5 (.I
 .i64),.lt 6 (.I .i64)] (.sq none .d (.sq (some [.sr 0 txU,.bx 1 [.L (.I .i64),.L .S,.L (.I .i64),.K,.L (.I .i64),.K,.L (.I .i64),.L .B,.L .S,.L (.I .i64),.L (.I
 .i64),.L (.I .i64),.L (.I .i64)],.lt 5 (.I .i64),.kt 6]) .d .d))))) .d)))) Tryz.f114 1 115 [⟨false,false,txX,[.ow],none⟩,⟨true,false,Lx,[.rd,.rd,.rd,.rx,.rd,
 .rx,.rd,.rd,.rd,.rd,.rd,.rd,.rd],(some Zlt)⟩] [(false,txW)] x=Vj x:=by kernel_rfl
def Yb4:=eH Tryz.func114 (by kernel_rfl) Ygi
theorem Yd6 x:fX [] [(9,.el txH),(27,.el txH),(28,.el txH),(36,.el txH),(37,.el txH),(43,.el txH),(44,.el txH)] (.sq none .d (.sq none .d (.sq none .d (.sq
 (some [.kt 3,.ot 5 txH,.lt 6 .B]) (.sq none .d (.bl (.lp [.kt 3,.ot 5 txH,.lt 6 .B,.kt 10,.kt 11,.lt 12 (.I .i64)] (.sq none .d (.sq none .d (.sq (some [.kt 3,.ot 5 txH,
 .lt 6 .B,.kt 10,.kt 11,.kt 12]) (.bl (.sq none .d (.sq (some [.kt 3,.ot 5 txH,.lt 6 .B,.kt 8,.kt 10,.kt 11,.kt 12]) .d .d))) .d)))))) (.sq (some [.ot 5 txH]) .d .d)))))
 Tryz.f116 [(false,txI),(true,txH)] [(false,txI)] x=Rp x:=by kernel_rfl
def Yae:=eS Tryz.func116 (by kernel_rfl) Yd6
theorem Yc0 x:fX [.see Zz4,.see Zoh,.see Zz2,.gen Yaf,.hof Yb4,.see Yae] [] (.sq none .d (.sq none .d
 (.sq none .d (.sq (some [.kt 2,.bx 3 [.L (.I .i64),.L .S,.L (.I .i64),.K,.L (.I .i64),.K,.L (.I .i64),.L .B,.L .S,.L (.I .i64),.L (.I .i64),.L (.I .i64),.L (.I
 .i64)],.kt 4,.bx 6 [.O txT,.L (.I .i64),.K]]) .d (.sq (some [.kt 2,.kt 4,.bx 6 [.K,.K,.O txH]]) .d .d))))) Tryz.f46 [(true,F2),(true,Lx)] [(true,F2),(false,
 .B)] x=Y2 x:=by kernel_rfl
def Zzn:=eS Tryz.func46 (by kernel_rfl) Yc0
theorem Yc6 x:fX [.see Ih] [] (.sq none .d (.sq none .d (.sq (some [.kt 1]) (.sq none .d (.bl (.lp [.kt 1,.kt 25,.kt 26,.lt 27 (.I .i64)] .d))) (.sq none (.sq
 none .d (.bl (.lp [.kt 1,.kt 36,.kt 37,.lt 38 (.I .i64)] .d))) .d)))) Tryz.f97 [(true,txP)] [(false,.B)] x=Uw x:=by kernel_rfl
def Zzq:=eS Tryz.func97 (by kernel_rfl) Yc6
theorem Yd3 x:fX [] [] .d Tryz.f57 [(false,.I .i64),(false,.I .i64)] [(false,.I .i64)] x=Zey x:=by kernel_rfl
def Yab:=eS Tryz.func57 (by kernel_rfl) Yd3
end
end Go.Vs
