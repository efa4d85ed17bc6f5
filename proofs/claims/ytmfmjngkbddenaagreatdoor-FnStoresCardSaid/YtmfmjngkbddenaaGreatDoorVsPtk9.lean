import Derived.Test.YtmfmjngkbddenaaGreatDoorProg
import Derived.Test.YtmfmjngkbddenaaGreatDoorVsPtk8
set_option linter.all false
namespace Go.Vs
open Go.Proofs
set_option maxRecDepth 100000
noncomputable section
theorem Ykr x:fX [.see Yg0,.see Ze5,.see Ztn,.see Gt,.see Zlb] [] (.sq none .d (.sq none .d (.sq none .d (.sq (some [.kt 1,.lt 5
 .B]) .d .d)))) Tryz.f112 [(true,C9)] [(false,.B)] x=Py x:=by kernel_rfl
def Zk8:=eS Tryz.func112 (by kernel_rfl) Ykr
theorem Ykz x:fX [.see Ze5,.see Gt,.see Zlb] [] (.sq none .d (.sq (some [.kt 1]) (.sq none .d (.bl (.lp [.kt 1,.kt 8,.kt 9,.lt 10 (.I .i64)] .d)))
 (.sq (some [.kt 1]) (.sq none .d (.bl (.lp [.kt 1,.kt 36,.kt 37,.lt 38 (.I .i64)] .d))) .d))) Tryz.f98 [(true,G8)] [(false,.B)] x=Ns x:=by kernel_rfl
def Zts:=eS Tryz.func98 (by kernel_rfl) Ykz
theorem Ylq x:fG [.see Zla] [(9,.el txU),(28,.el txU),(29,.el txU),(37,.el txU),(38,.el txU),(45,.el txU),(46,.el txU)] (.sq none .d (.sq none .d
 (.sq none .d (.sq (some [.kt 3,.ot 5 txU,.lt 6 .B]) (.sq none .d (.bl (.lp [.kt 3,.ot 5 txU,.lt 6 .B,.sr 10 txV,.kt 11,.lt 12 (.I .i64)] (.sq none .d (.sq none .d (.sq
 (some [.kt 3,.ot 5 txU,.lt 6 .B,.sr 10 txV,.kt 11,.kt 12]) (.bl (.sq none .d (.sq (some [.kt 3,.ot 5 txU,.lt 6 .B,.kt 8,.kt 10,.kt 11,.kt 12]) .d .d))) .d)))))) (.sq
 (some [.ot 5 txU]) .d .d))))) Tryz.f113 [⟨false,false,txY,[.ow],none⟩,⟨false,true,txU,[.rd,.rd,.rd,.rd,.rd,.rd,.rd],none⟩] [(false,txX)] x=Xy x:=by
 kernel_rfl
def Yg6:=eG Tryz.func113 (by kernel_rfl) Ylq
theorem Zrz:Y1 Tryz.prog 115=true:=by kernel_rfl
theorem Yj2 x:fG [] [] .d Tryz.f115 [⟨false,true,txU,[.rd,.rd,.rd,.rd,.rd,.rd,.rd],none⟩,⟨true,false,C9,[.rd,.rd,.rd,.rx,.rd,.rx,.rd,.rd,.rd,.rd,
 .rd,.rd,.rd],(some Zqt)⟩] [(false,.B)] x=Xm x:=by kernel_rfl
def Zti:=eG Tryz.func115 (by kernel_rfl) Yj2
theorem Yn3 x:fH [.fv Zti Zrz] [] (.sq none .d (.sq none (.sq none .d (.bl (.lp [.kt 0,.bx 1 [.L (.I .i64),.L .S,.L (.I .i64),.K,.L
 (.I .i64),.K,.L (.I .i64),.L .B,.L .S,.L (.I .i64),.L (.I .i64),.L (.I .i64),.L (.I .i64)],.kt 7,.lt 8 (.I .i64)] .d))) .d)) Tryz.f181 1 115 [⟨false,false,txX,[.rd],
 none⟩,⟨true,false,C9,[.rd,.rd,.rd,.rx,.rd,.rx,.rd,.rd,.rd,.rd,.rd,.rd,.rd],(some Zqt)⟩] [(false,.I .i64)] x=Zdc x:=by kernel_rfl
def Yio:=eH Tryz.func181 (by kernel_rfl) Yn3
theorem Yn2 x:fH [.hof Yio,.fv Zti Zrz] [] (.sq none .d (.sq none .d (.sq none .d (.sq (some [.sr 0 txV,.bx 1
 [.L (.I .i64),.L .S,.L (.I .i64),.K,.L (.I .i64),.K,.L (.I .i64),.L .B,.L .S,.L (.I .i64),.L (.I .i64),.L (.I .i64),.L (.I .i64)],.lt 5 (.I .i64)]) (.sq none .d (.bl
 (.lp [.sr 0 txV,.bx 1 [.L (.I .i64),.L .S,.L (.I .i64),.K,.L (.I .i64),.K,.L (.I .i64),.L .B,.L .S,.L (.I .i64),.L (.I .i64),.L (.I .i64),.L (.I .i64)],.lt 5 (.I
 .i64),.lt 6 (.I .i64)] (.sq none .d (.sq (some [.sr 0 txV,.bx 1 [.L (.I .i64),.L .S,.L (.I .i64),.K,.L (.I .i64),.K,.L (.I .i64),.L .B,.L .S,.L (.I .i64),.L (.I
 .i64),.L (.I .i64),.L (.I .i64)],.lt 5 (.I .i64),.kt 6]) .d .d))))) .d)))) Tryz.f114 1 115 [⟨false,false,txY,[.ow],none⟩,⟨true,false,C9,[.rd,.rd,.rd,.rx,.rd,
 .rx,.rd,.rd,.rd,.rd,.rd,.rd,.rd],(some Zqt)⟩] [(false,txX)] x=Yn x:=by kernel_rfl
def Yin:=eH Tryz.func114 (by kernel_rfl) Yn2
theorem Ylp x:fX [] [(9,.el txI),(27,.el txI),(28,.el txI),(36,.el txI),(37,.el txI),(43,.el txI),(44,.el txI)] (.sq none .d (.sq none .d (.sq none .d (.sq
 (some [.kt 3,.ot 5 txI,.lt 6 .B]) (.sq none .d (.bl (.lp [.kt 3,.ot 5 txI,.lt 6 .B,.kt 10,.kt 11,.lt 12 (.I .i64)] (.sq none .d (.sq none .d (.sq (some [.kt 3,.ot 5 txI,
 .lt 6 .B,.kt 10,.kt 11,.kt 12]) (.bl (.sq none .d (.sq (some [.kt 3,.ot 5 txI,.lt 6 .B,.kt 8,.kt 10,.kt 11,.kt 12]) .d .d))) .d)))))) (.sq (some [.ot 5 txI]) .d .d)))))
 Tryz.f116 [(false,txJ),(true,txI)] [(false,txJ)] x=Um x:=by kernel_rfl
def Yg5:=eS Tryz.func116 (by kernel_rfl) Ylp
theorem Yj1 x:fX [.see Ztw,.see Zk8,.see Zts,.gen Yg6,.hof Yin,.see Yg5] [] (.sq none .d (.sq none .d
 (.sq none .d (.sq (some [.kt 2,.bx 3 [.L (.I .i64),.L .S,.L (.I .i64),.K,.L (.I .i64),.K,.L (.I .i64),.L .B,.L .S,.L (.I .i64),.L (.I .i64),.L (.I .i64),.L (.I
 .i64)],.kt 4,.bx 6 [.O txU,.L (.I .i64),.K]]) .d (.sq (some [.kt 2,.kt 4,.bx 6 [.K,.K,.O txI]]) .d .d))))) Tryz.f46 [(true,G8),(true,C9)] [(true,G8),(false,
 .B)] x=Ug x:=by kernel_rfl
def Zk5:=eS Tryz.func46 (by kernel_rfl) Yj1
theorem Yj7 x:fX [.see Gt] [] (.sq none .d (.sq none .d (.sq (some [.kt 1]) (.sq none .d (.bl (.lp [.kt 1,.kt 25,.kt 26,.lt 27 (.I .i64)] .d))) (.sq none (.sq
 none .d (.bl (.lp [.kt 1,.kt 36,.kt 37,.lt 38 (.I .i64)] .d))) .d)))) Tryz.f97 [(true,txQ)] [(false,.B)] x=Jf x:=by kernel_rfl
def Zf:=eS Tryz.func97 (by kernel_rfl) Yj7
theorem Ykx x:fX [.see Zf,.see Zts,.see Gt] [] .d Tryz.f35 [(true,Jc)] [(false,.B)] x=Jg x:=by kernel_rfl
def Ze6:=eS Tryz.func35 (by kernel_rfl) Ykx
theorem Yks x:fX [.see Zla] [(11,.el C9),(23,.el C9),(24,.el C9),(41,.el C9),(42,.el C9)] (.sq none .d (.sq none .d (.sq (some [.kt 1,.ot 3
 C9]) (.sq none .d (.bl (.lp [.kt 1,.ot 3 C9,.kt 13,.kt 14,.lt 15 (.I .i64)] .d))) (.sq (some [.ot 3 C9]) (.sq none .d (.bl (.lp [.ot 3 C9,.kt 27,.kt 28,.lt 29 (.I
 .i64)] .d))) .d)))) Tryz.f94 [(true,G8)] [(false,Zqu)] x=Zcl x:=by kernel_rfl
def Ygs:=eS Tryz.func94 (by kernel_rfl) Yks
theorem Ylm x:fX [] [] .d Tryz.f57 [(false,.I .i64),(false,.I .i64)] [(false,.I .i64)] x=Mm x:=by kernel_rfl
def Zlf:=eS Tryz.func57 (by kernel_rfl) Ylm
theorem Ykp x:fX [.see Mt] [(13,.el .Y),(14,.sb)] .d Tryz.f130 [(false,.L .Y),(false,.I .i64)] [(false,.L .Y)] x=Jz x:=by kernel_rfl
def Zk7:=eS Tryz.func130 (by kernel_rfl) Ykp
theorem Yko x:fX [.see Mt,.see Zk7] [(9,.sb),(17,.sb)] .d Tryz.f132 [(false,.L .Y),(false,.S)] [(false,.L .Y)] x=Nr x:=by kernel_rfl
def Ztp:=eS Tryz.func132 (by kernel_rfl) Yko
end
end Go.Vs
