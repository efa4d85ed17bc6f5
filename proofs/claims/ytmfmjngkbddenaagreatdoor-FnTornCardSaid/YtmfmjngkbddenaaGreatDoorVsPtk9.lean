import Derived.Test.YtmfmjngkbddenaaGreatDoorVsPtk8
set_option linter.all false
namespace Go.Vs
open Go.Proofs
set_option maxRecDepth 100000
noncomputable section
theorem Yk9 x:fX [.see Yhg,.see Zff,.see Zt6,.see Gv,.see Zlo] [] (.sq none .d (.sq none .d (.sq none .d (.sq (some [.kt 1,.lt 5
 .B]) .d .d)))) Tryz.f112 [(true,Db)] [(false,.B)] x=P0 x:=by kernel_rfl
def Zlk:=eS Tryz.func112 (by kernel_rfl) Yk9
theorem Ylh x:fX [.see Zff,.see Gv,.see Zlo] [] (.sq none .d (.sq (some [.kt 1]) (.sq none .d (.bl (.lp [.kt 1,.kt 8,.kt 9,.lt 10 (.I .i64)] .d)))
 (.sq (some [.kt 1]) (.sq none .d (.bl (.lp [.kt 1,.kt 36,.kt 37,.lt 38 (.I .i64)] .d))) .d))) Tryz.f98 [(true,Hb)] [(false,.B)] x=Nu x:=by kernel_rfl
def Zua:=eS Tryz.func98 (by kernel_rfl) Ylh
theorem Yl8 x:fG [.see Zln] [(9,.el txU),(28,.el txU),(29,.el txU),(37,.el txU),(38,.el txU),(45,.el txU),(46,.el txU)] (.sq none .d (.sq none .d
 (.sq none .d (.sq (some [.kt 3,.ot 5 txU,.lt 6 .B]) (.sq none .d (.bl (.lp [.kt 3,.ot 5 txU,.lt 6 .B,.sr 10 txV,.kt 11,.lt 12 (.I .i64)] (.sq none .d (.sq none .d (.sq
 (some [.kt 3,.ot 5 txU,.lt 6 .B,.sr 10 txV,.kt 11,.kt 12]) (.bl (.sq none .d (.sq (some [.kt 3,.ot 5 txU,.lt 6 .B,.kt 8,.kt 10,.kt 11,.kt 12]) .d .d))) .d)))))) (.sq
 (some [.ot 5 txU]) .d .d))))) Tryz.f113 [⟨false,false,txY,[.ow],none⟩,⟨false,true,txU,[.rd,.rd,.rd,.rd,.rd,.rd,.rd],none⟩] [(false,txX)] x=Ye x:=by
 kernel_rfl
def Yhm:=eG Tryz.func113 (by kernel_rfl) Yl8
theorem Zsh:Zd Tryz.prog 115=true:=by kernel_rfl
theorem Ykk x:fG [] [] .d Tryz.f115 [⟨false,true,txU,[.rd,.rd,.rd,.rd,.rd,.rd,.rd],none⟩,⟨true,false,Db,[.rd,.rd,.rd,.rx,.rd,.rx,.rd,.rd,.rd,.rd,
 .rd,.rd,.rd],(some Zrc)⟩] [(false,.B)] x=Xx x:=by kernel_rfl
def Zt0:=eG Tryz.func115 (by kernel_rfl) Ykk
theorem Yom x:fH [.fv Zt0 Zsh] [] (.sq none .d (.sq none (.sq none .d (.bl (.lp [.kt 0,.bx 1 [.L (.I .i64),.L .S,.L (.I .i64),.K,.L
 (.I .i64),.K,.L (.I .i64),.L .B,.L .S,.L (.I .i64),.L (.I .i64),.L (.I .i64),.L (.I .i64)],.kt 7,.lt 8 (.I .i64)] .d))) .d)) Tryz.f181 1 115 [⟨false,false,txX,[.rd],
 none⟩,⟨true,false,Db,[.rd,.rd,.rd,.rx,.rd,.rx,.rd,.rd,.rd,.rd,.rd,.rd,.rd],(some Zrc)⟩] [(false,.I .i64)] x=Zdl x:=by kernel_rfl
def Yi5:=eH Tryz.func181 (by kernel_rfl) Yom
theorem Yol x:fH [.hof Yi5,.fv Zt0 Zsh] [] (.sq none .d (.sq none .d (.sq none .d (.sq (some [.sr 0 txV,.bx 1
 [.L (.I .i64),.L .S,.L (.I .i64),.K,.L (.I .i64),.K,.L (.I .i64),.L .B,.L .S,.L (.I .i64),.L (.I .i64),.L (.I .i64),.L (.I .i64)],.lt 5 (.I .i64)]) (.sq none .d (.bl
 (.lp [.sr 0 txV,.bx 1 [.L (.I .i64),.L .S,.L (.I .i64),.K,.L (.I .i64),.K,.L (.I .i64),.L .B,.L .S,.L (.I .i64),.L (.I .i64),.L (.I .i64),.L (.I .i64)],.lt 5 (.I
 .i64),.lt 6 (.I .i64)] (.sq none .d (.sq (some [.sr 0 txV,.bx 1 [.L (.I .i64),.L .S,.L (.I .i64),.K,.L (.I .i64),.K,.L (.I .i64),.L .B,.L .S,.L (.I .i64),.L (.I
 .i64),.L (.I .i64),.L (.I .i64)],.lt 5 (.I .i64),.kt 6]) .d .d))))) .d)))) Tryz.f114 1 115 [⟨false,false,txY,[.ow],none⟩,⟨true,false,Db,[.rd,.rd,.rd,.rx,.rd,
 .rx,.rd,.rd,.rd,.rd,.rd,.rd,.rd],(some Zrc)⟩] [(false,txX)] x=Yz x:=by kernel_rfl
def Yi4:=eH Tryz.func114 (by kernel_rfl) Yol
theorem Yl7 x:fX [] [(9,.el txI),(27,.el txI),(28,.el txI),(36,.el txI),(37,.el txI),(43,.el txI),(44,.el txI)] (.sq none .d (.sq none .d (.sq none .d (.sq
 (some [.kt 3,.ot 5 txI,.lt 6 .B]) (.sq none .d (.bl (.lp [.kt 3,.ot 5 txI,.lt 6 .B,.kt 10,.kt 11,.lt 12 (.I .i64)] (.sq none .d (.sq none .d (.sq (some [.kt 3,.ot 5 txI,
 .lt 6 .B,.kt 10,.kt 11,.kt 12]) (.bl (.sq none .d (.sq (some [.kt 3,.ot 5 txI,.lt 6 .B,.kt 8,.kt 10,.kt 11,.kt 12]) .d .d))) .d)))))) (.sq (some [.ot 5 txI]) .d .d)))))
 Tryz.f116 [(false,txJ),(true,txI)] [(false,txJ)] x=Uv x:=by kernel_rfl
def Yhl:=eS Tryz.func116 (by kernel_rfl) Yl7
theorem Ykj x:fX [.see Zue,.see Zlk,.see Zua,.gen Yhm,.hof Yi4,.see Yhl] [] (.sq none .d (.sq none .d
 (.sq none .d (.sq (some [.kt 2,.bx 3 [.L (.I .i64),.L .S,.L (.I .i64),.K,.L (.I .i64),.K,.L (.I .i64),.L .B,.L .S,.L (.I .i64),.L (.I .i64),.L (.I .i64),.L (.I
 .i64)],.kt 4,.bx 6 [.O txU,.L (.I .i64),.K]]) .d (.sq (some [.kt 2,.kt 4,.bx 6 [.K,.K,.O txI]]) .d .d))))) Tryz.f46 [(true,Hb),(true,Db)] [(true,Hb),(false,
 .B)] x=Uq x:=by kernel_rfl
def Zli:=eS Tryz.func46 (by kernel_rfl) Ykj
theorem Ykp x:fX [.see Gv] [] (.sq none .d (.sq none .d (.sq (some [.kt 1]) (.sq none .d (.bl (.lp [.kt 1,.kt 25,.kt 26,.lt 27 (.I .i64)] .d))) (.sq none (.sq
 none .d (.bl (.lp [.kt 1,.kt 36,.kt 37,.lt 38 (.I .i64)] .d))) .d)))) Tryz.f97 [(true,txQ)] [(false,.B)] x=Jh x:=by kernel_rfl
def Zq:=eS Tryz.func97 (by kernel_rfl) Ykp
theorem Ylf x:fX [.see Zq,.see Zua,.see Gv] [] .d Tryz.f35 [(true,Je)] [(false,.B)] x=Rz x:=by kernel_rfl
def Zll:=eS Tryz.func35 (by kernel_rfl) Ylf
theorem Yla x:fX [.see Zln] [(11,.el Db),(23,.el Db),(24,.el Db),(41,.el Db),(42,.el Db)] (.sq none .d (.sq none .d (.sq (some [.kt 1,.ot 3
 Db]) (.sq none .d (.bl (.lp [.kt 1,.ot 3 Db,.kt 13,.kt 14,.lt 15 (.I .i64)] .d))) (.sq (some [.ot 3 Db]) (.sq none .d (.bl (.lp [.ot 3 Db,.kt 27,.kt 28,.lt 29 (.I
 .i64)] .d))) .d)))) Tryz.f94 [(true,Hb)] [(false,Zrd)] x=Zcu x:=by kernel_rfl
def Yg7:=eS Tryz.func94 (by kernel_rfl) Yla
theorem Yl4 x:fX [] [] .d Tryz.f57 [(false,.I .i64),(false,.I .i64)] [(false,.I .i64)] x=Mp x:=by kernel_rfl
def Zls:=eS Tryz.func57 (by kernel_rfl) Yl4
theorem Yk7 x:fX [.see Mv] [(13,.el .Y),(14,.sb)] .d Tryz.f130 [(false,.L .Y),(false,.I .i64)] [(false,.L .Y)] x=J1 x:=by kernel_rfl
def Zlj:=eS Tryz.func130 (by kernel_rfl) Yk7
theorem Yk6 x:fX [.see Mv,.see Zlj] [(9,.sb),(17,.sb)] .d Tryz.f132 [(false,.L .Y),(false,.S)] [(false,.L .Y)] x=Nt x:=by kernel_rfl
def Zt8:=eS Tryz.func132 (by kernel_rfl) Yk6
end
end Go.Vs
