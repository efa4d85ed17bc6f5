import Derived.Test.YtmfmjngkbddenaaGreatDoorProg
import Derived.Test.YtmfmjngkbddenaaGreatDoorVsPok7
set_option linter.all false
namespace Go.Vs
open Go.Proofs
set_option maxRecDepth 100000
noncomputable section
theorem Ygp x:fX [.see Zia,.see H9,.see Zid] [] (.sq none .d (.sq (some [.kt 1]) (.sq none .d (.bl (.lp [.kt 1,.kt 8,.kt 9,.lt 10 (.I .i64)] .d)))
 (.sq (some [.kt 1]) (.sq none .d (.bl (.lp [.kt 1,.kt 36,.kt 37,.lt 38 (.I .i64)] .d))) .d))) Tryz.f98 [(true,E3)] [(false,.B)] x=L6 x:=by kernel_rfl
def Zqh:=eS Tryz.func98 (by kernel_rfl) Ygp
theorem Yha x:fG [.see Zic] [(9,.el txT),(28,.el txT),(29,.el txT),(37,.el txT),(38,.el txT),(45,.el txT),(46,.el txT)] (.sq none .d (.sq none .d
 (.sq none .d (.sq (some [.kt 3,.ot 5 txT,.lt 6 .B]) (.sq none .d (.bl (.lp [.kt 3,.ot 5 txT,.lt 6 .B,.sr 10 txU,.kt 11,.lt 12 (.I .i64)] (.sq none .d (.sq none .d (.sq
 (some [.kt 3,.ot 5 txT,.lt 6 .B,.sr 10 txU,.kt 11,.kt 12]) (.bl (.sq none .d (.sq (some [.kt 3,.ot 5 txT,.lt 6 .B,.kt 8,.kt 10,.kt 11,.kt 12]) .d .d))) .d)))))) (.sq
 (some [.ot 5 txT]) .d .d))))) Tryz.f113 [⟨false,false,txX,[.ow],none⟩,⟨false,true,txT,[.rd,.rd,.rd,.rd,.rd,.rd,.rd],none⟩] [(false,txW)] x=Vq x:=by
 kernel_rfl
def Yck:=eG Tryz.func113 (by kernel_rfl) Yha
theorem Zox:Wu Tryz.prog 115=true:=by kernel_rfl
theorem Yf0 x:fG [] [] .d Tryz.f115 [⟨false,true,txT,[.rd,.rd,.rd,.rd,.rd,.rd,.rd],none⟩,⟨true,false,Cd,[.rd,.rd,.rd,.rx,.rd,.rx,.rd,.rd,.rd,.rd,
 .rd,.rd,.rd],(some Znu)⟩] [(false,.B)] x=Vg x:=by kernel_rfl
def Zp7:=eG Tryz.func115 (by kernel_rfl) Yf0
theorem Yki x:fH [.fv Zp7 Zox] [] (.sq none .d (.sq none (.sq none .d (.bl (.lp [.kt 0,.bx 1 [.L (.I .i64),.L .S,.L (.I .i64),.K,.L
 (.I .i64),.K,.L (.I .i64),.L .B,.L .S,.L (.I .i64),.L (.I .i64),.L (.I .i64),.L (.I .i64)],.kt 7,.lt 8 (.I .i64)] .d))) .d)) Tryz.f181 1 115 [⟨false,false,txW,[.rd],
 none⟩,⟨true,false,Cd,[.rd,.rd,.rd,.rx,.rd,.rx,.rd,.rd,.rd,.rd,.rd,.rd,.rd],(some Znu)⟩] [(false,.I .i64)] x=Za6 x:=by kernel_rfl
def Yev:=eH Tryz.func181 (by kernel_rfl) Yki
theorem Ykh x:fH [.hof Yev,.fv Zp7 Zox] [] (.sq none .d (.sq none .d (.sq none .d (.sq (some [.sr 0 txU,.bx 1
 [.L (.I .i64),.L .S,.L (.I .i64),.K,.L (.I .i64),.K,.L (.I .i64),.L .B,.L .S,.L (.I .i64),.L (.I .i64),.L (.I .i64),.L (.I .i64)],.lt 5 (.I .i64)]) (.sq none .d (.bl
 (.lp [.sr 0 txU,.bx 1 [.L (.I .i64),.L .S,.L (.I .i64),.K,.L (.I .i64),.K,.L (.I .i64),.L .B,.L .S,.L (.I .i64),.L (.I .i64),.L (.I .i64),.L (.I .i64)],.lt 5 (.I
 .i64),.lt 6 (.I .i64)] (.sq none .d (.sq (some [.sr 0 txU,.bx 1 [.L (.I .i64),.L .S,.L (.I .i64),.K,.L (.I .i64),.K,.L (.I .i64),.L .B,.L .S,.L (.I .i64),.L (.I
 .i64),.L (.I .i64),.L (.I .i64)],.lt 5 (.I .i64),.kt 6]) .d .d))))) .d)))) Tryz.f114 1 115 [⟨false,false,txX,[.ow],none⟩,⟨true,false,Cd,[.rd,.rd,.rd,.rx,.rd,
 .rx,.rd,.rd,.rd,.rd,.rd,.rd,.rd],(some Znu)⟩] [(false,txW)] x=We x:=by kernel_rfl
def Yeu:=eH Tryz.func114 (by kernel_rfl) Ykh
theorem Yg9 x:fX [] [(9,.el txH),(27,.el txH),(28,.el txH),(36,.el txH),(37,.el txH),(43,.el txH),(44,.el txH)] (.sq none .d (.sq none .d (.sq none .d (.sq
 (some [.kt 3,.ot 5 txH,.lt 6 .B]) (.sq none .d (.bl (.lp [.kt 3,.ot 5 txH,.lt 6 .B,.kt 10,.kt 11,.lt 12 (.I .i64)] (.sq none .d (.sq none .d (.sq (some [.kt 3,.ot 5 txH,
 .lt 6 .B,.kt 10,.kt 11,.kt 12]) (.bl (.sq none .d (.sq (some [.kt 3,.ot 5 txH,.lt 6 .B,.kt 8,.kt 10,.kt 11,.kt 12]) .d .d))) .d)))))) (.sq (some [.ot 5 txH]) .d .d)))))
 Tryz.f116 [(false,txI),(true,txH)] [(false,txI)] x=Sf x:=by kernel_rfl
def Ycj:=eS Tryz.func116 (by kernel_rfl) Yg9
theorem Yfz x:fX [.see Zql,.see Zqe,.see Zqh,.gen Yck,.hof Yeu,.see Ycj] [] (.sq none .d (.sq none .d
 (.sq none .d (.sq (some [.kt 2,.bx 3 [.L (.I .i64),.L .S,.L (.I .i64),.K,.L (.I .i64),.K,.L (.I .i64),.L .B,.L .S,.L (.I .i64),.L (.I .i64),.L (.I .i64),.L (.I
 .i64)],.kt 4,.bx 6 [.O txT,.L (.I .i64),.K]]) .d (.sq (some [.kt 2,.kt 4,.bx 6 [.K,.K,.O txH]]) .d .d))))) Tryz.f46 [(true,E3),(true,Cd)] [(true,E3),(false,
 .B)] x=Zo x:=by kernel_rfl
def Yby:=eS Tryz.func46 (by kernel_rfl) Yfz
theorem Yf5 x:fX [.see H9] [] (.sq none .d (.sq none .d (.sq (some [.kt 1]) (.sq none .d (.bl (.lp [.kt 1,.kt 25,.kt 26,.lt 27 (.I .i64)] .d))) (.sq none (.sq
 none .d (.bl (.lp [.kt 1,.kt 36,.kt 37,.lt 38 (.I .i64)] .d))) .d)))) Tryz.f97 [(true,txP)] [(false,.B)] x=L3 x:=by kernel_rfl
def Zh8:=eS Tryz.func97 (by kernel_rfl) Yf5
theorem Ygn x:fX [.see Zh8,.see Zqh,.see H9] [] .d Tryz.f35 [(true,Ef)] [(false,.B)] x=Vm x:=by kernel_rfl
def Zqf:=eS Tryz.func35 (by kernel_rfl) Ygn
theorem Ygj x:fX [.see Zic] [(11,.el Cd),(23,.el Cd),(24,.el Cd),(41,.el Cd),(42,.el Cd)] (.sq none .d (.sq none .d (.sq (some [.kt 1,.ot 3
 Cd]) (.sq none .d (.bl (.lp [.kt 1,.ot 3 Cd,.kt 13,.kt 14,.lt 15 (.I .i64)] .d))) (.sq (some [.ot 3 Cd]) (.sq none .d (.bl (.lp [.ot 3 Cd,.kt 27,.kt 28,.lt 29 (.I
 .i64)] .d))) .d)))) Tryz.f94 [(true,E3)] [(false,Znv)] x=Zt x:=by kernel_rfl
def Yb8:=eS Tryz.func94 (by kernel_rfl) Ygj
theorem Yg6 x:fX [] [] .d Tryz.f57 [(false,.I .i64),(false,.I .i64)] [(false,.I .i64)] x=N4 x:=by kernel_rfl
def Zqo:=eS Tryz.func57 (by kernel_rfl) Yg6
theorem Ygh x:fX [.see Om] [(13,.el .Y),(14,.sb)] .d Tryz.f130 [(false,.L .Y),(false,.I .i64)] [(false,.L .Y)] x=Im x:=by kernel_rfl
def Zh9:=eS Tryz.func130 (by kernel_rfl) Ygh
theorem Ygg x:fX [.see Om,.see Zh9] [(9,.sb),(17,.sb)] .d Tryz.f132 [(false,.L .Y),(false,.S)] [(false,.L .Y)] x=L4 x:=by kernel_rfl
def Zqd:=eS Tryz.func132 (by kernel_rfl) Ygg
theorem Ygx x:fX [] [] .d Tryz.f189 [(false,.B)] [(false,.Y)] x=Zf0 x:=by kernel_rfl
def Ycc:=eS Tryz.func189 (by kernel_rfl) Ygx
end
end Go.Vs
