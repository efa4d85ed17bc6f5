import Derived.Test.YteaoaehkkcbmbaaGreatDoorVsPvk4
set_option linter.all false
namespace Go.Vs
open Go.Proofs
set_option maxRecDepth 100000
noncomputable section
def Zf5 x:fX [.see Fi,.see gZ] [] .d Tryz.f110 [(true,Ca)] [(false,.B)] x=Un x:=by kernel_rfl
def Zai:=eS Tryz.func110 (by kernel_rfl) Zf5
def Zfk x:fX [.see Vr,.see Zai,.see Fi] [] (.sq none .d (.sq (some [.kt 1]) (.sq none .d (.bl (.lp [.kt 1,.lt 3 (.I .i64)] .d))) (.sq (some [.kt
 1]) (.sq none .d (.bl (.lp [.kt 1,.lt 4 (.I .i64)] .d))) .d))) Tryz.f61 [(true,GM)] [(false,.B)] x=M3 x:=by kernel_rfl
def pT:=eS Tryz.func61 (by kernel_rfl) Zfk
def Zf7 x:fG [.see Vv] [(8,.el Bs),(30,.el Bs),(31,.el Bs),(45,.el Bs),(46,.el Bs),(52,.el Bs),(53,.el Bs)] (.sq none .d (.sq none .d (.sq
 none .d (.sq (some [.kt 3,.ot 5 Bs,.lt 6 .B]) (.sq none .d (.bl (.lp [.sr 0 Pt,.kt 3,.ot 5 Bs,.lt 6 .B,.lt 7 (.I .i64)] (.sq none .d (.sq (some [.sr 0 Pt,.kt 3,.ot 5
 Bs,.lt 6 .B,.kt 7]) (.bl (.sq (some [.kt 0,.kt 3,.ot 5 Bs,.lt 6 .B,.kt 7]) .d .d)) .d))))) (.sq (some [.ot 5 Bs]) .d .d))))) Tryz.f103 [⟨false,false,ll,[.ow],none⟩,
 ⟨false,true,Bs,[.rd,.rd,.rd,.rd,.rd,.rd,.rd],none⟩] [(false,Xf)] x=Up x:=by kernel_rfl
def Zak:=eG Tryz.func103 (by kernel_rfl) Zf7
def Zfa x:fX [] [] (.sq none .d (.sq none (.sq none .d (.bl (.lp [.kt 1,.kt 2,.lt 5 (.I .i64)] .d))) .d)) Tryz.f104 [(true,GM),(false,.S)] [(false,.I .i64)] x =
 Ul x:=by kernel_rfl
def zp:=eS Tryz.func104 (by kernel_rfl) Zfa
def Zf6 x:fX [] [(8,.el Ca),(29,.el Ca),(30,.el Ca),(44,.el Ca),(45,.el Ca),(50,.el Ca),(51,.el Ca)] (.sq none .d (.sq none .d (.sq none .d (.sq
 (some [.kt 3,.ot 5 Ca,.lt 6 .B]) (.sq none .d (.bl (.lp [.kt 0,.kt 3,.ot 5 Ca,.lt 6 .B,.lt 7 (.I .i64)] (.sq none .d (.sq (some [.kt 0,.kt 3,.ot 5 Ca,.lt 6 .B,.kt
 7]) (.bl (.sq (some [.kt 0,.kt 3,.ot 5 Ca,.lt 6 .B,.kt 7]) .d .d)) .d))))) (.sq (some [.ot 5 Ca]) .d .d))))) Tryz.f105 [(false,Xe),(true,Ca)] [(false,Xe)] x =
 Uo x:=by kernel_rfl
def Zaj:=eS Tryz.func105 (by kernel_rfl) Zf6
def Zd9 x:fX [.see pV,.see pT,.see gN,.gen Zak,.see zp,.see Zaj] [(37,.el Bs),(42,.el Bs),(48,.el Bs)] (.sq
 none .d (.sq none .d (.sq none .d (.sq (some [.kt 2,.kt 3,.kt 4,.bx 6 [.O Bs,.L (.I .i64),.K]]) .d (.sq (some [.kt 2,.kt 4,.bx 6 [.K,.K,.O Ca]]) .d .d))))) Tryz.f54
 [(true,GM),(true,DC)] [(true,GM),(false,.B)] x=P5 x:=by kernel_rfl
def gE:=eS Tryz.func54 (by kernel_rfl) Zd9
def Zf8 x:fG [.see gE,.gen gX,.see ZN,.see pQ,.gen gS,.gen gR] [] (.sq none .d (.sq none .d (.sq none .d (.sq
 (some [.bx 0 [.O (.L .Y),.O BH,.L (.I .i64),.L .B,.K,.L (.I .i64),.K,.L (.I .i64),.L (.I .i64)],.kt 3,.kt 5]) .d .d)))) Tryz.f37 [⟨true,false,Fd,[.ow,.ow,.rd,
 .rd,.ow,.rd,.ow,.rd,.rd],(some Fd)⟩,⟨false,true,DC,[.rd,.rd,.rd,.rd,.rd,.rd,.rd,.rd,.rd,.rd,.rd,.rd,.rd],none⟩] [(false,.B)] x=NY x:=by
 kernel_rfl
def gU:=eG Tryz.func37 (by kernel_rfl) Zf8
def Zgc x:fG [.see pN,.gen Gu,.gen Vt,.gen gU] [] (.sq none .d (.sq none .d (.sq (some [.bx 0 [.K,.L (.I .i64),.L (.I .i64)],
 .kt 4,.bx 5 [.O (.L .Y),.O BH,.L (.I .i64),.L .B,.O Bs,.L (.I .i64),.O Ca,.L (.I .i64),.L (.I .i64)]]) (.sq none .d (.bl (.lp [.bx 0 [.K,.L (.I .i64),.L (.I .i64)],
 .kt 4,.bx 5 [.O (.L .Y),.O BH,.L (.I .i64),.L .B,.O Bs,.L (.I .i64),.O Ca,.L (.I .i64),.L (.I .i64)],.lt 6 (.I .i64)] .d))) .d))) Tryz.f38 [⟨true,false,Fe,[.rx,
 .rd,.rd],(some ED)⟩,⟨false,false,.I .i64,[.rd],none⟩] [(true,Fd)] x=RE x:=by kernel_rfl
def gW:=eG Tryz.func38 (by kernel_rfl) Zgc
def Zgh x:fG [.gen pX] [(7,.el .Y),(17,.el .Y),(18,.el .Y)] (.sq none .d (.sq none .d (.sq (some [.bx 0 [.K,.L (.I .i64),.L (.I .i64)],.ot 5 .Y]) (.sq
 none .d (.bl (.lp [.bx 0 [.K,.L (.I .i64),.L (.I .i64)],.kt 1,.ot 5 .Y,.lt 6 (.I .i64)] .d))) .d))) Tryz.f41 [⟨true,false,Fe,[.rx,.rd,.rd],(some ED)⟩,⟨false,false,
 .I .i64,[.rd],none⟩] [(false,.L .Y)] x=Kb x:=by kernel_rfl
def ZO:=eG Tryz.func41 (by kernel_rfl) Zgh
def Zfo x:fG [.gen Gu,.see pL,.gen gY,.gen gR,.gen ZO,.gen gS] [] (.sq none .d (.sq none .d (.sq (some [.bx
 0 [.K,.L (.I .i64),.L (.I .i64)],.kt 2,.bx 3 [.O (.L .Y),.O BH,.L (.I .i64),.L .B]]) (.sq none .d (.bl (.lp [.bx 0 [.K,.L (.I .i64),.L (.I .i64)],.kt 2,.bx 3 [.O (.L
 .Y),.O BH,.L (.I .i64),.L .B],.lt 4 (.I .i64)] (.sq none .d (.sq (some [.bx 0 [.K,.L (.I .i64),.L (.I .i64)],.kt 2,.bx 3 [.O (.L .Y),.O BH,.L (.I .i64),.L .B],.kt
 4]) .d .d))))) .d))) Tryz.f90 [⟨true,false,Fe,[.rx,.rd,.rd],(some ED)⟩] [(true,DR)] x=XN x:=by kernel_rfl
def zx:=eG Tryz.func90 (by kernel_rfl) Zfo
def Zfm x:fG [.gen zx,.gen Gu,.gen IH,.gen ZO] [(15,.el .Y),(22,.el (.I .i64)),(27,.el BH),(28,.el BH),(42,.el BH),
 (43,.el BH),(48,.el (.I .i64))] (.sq none .d (.sq none .d (.sq (some [.bx 0 [.K,.L (.I .i64),.L (.I .i64)],.kt 2,.bx 3 [.O (.L .Y),.O BH,.L (.I .i64),.L .B]]) (.sq
 none .d (.bl (.sq none .d (.cd .d (.sq none .d (.cd .d (.sq none .d (.cd (.bl (.lp [.bx 0 [.K,.L (.I .i64),.L (.I .i64)],.kt 2,.bx 3 [.K,.O BH,.K,.K]] .d)) .d))))))))
 .d))) Tryz.f42 [⟨true,false,Fe,[.rx,.rd,.rd],(some ED)⟩] [(true,DR)] x=R8 x:=by kernel_rfl
def gP:=eG Tryz.func42 (by kernel_rfl) Zfm
def Zf4 x:fG [.gen Gu,.gen Vt,.see gE] [] (.sq none .d (.sq none .d (.sq (some [.bx 0 [.K,.L (.I .i64),.L (.I .i64)],.kt 4,.bx 5 [.O
 Bs,.L (.I .i64),.O Ca]]) (.sq none .d (.bl (.lp [.bx 0 [.K,.L (.I .i64),.L (.I .i64)],.kt 4,.bx 5 [.O Bs,.L (.I .i64),.O Ca],.lt 6 (.I .i64)] .d))) .d))) Tryz.f114
 [⟨true,false,Fe,[.rx,.rd,.rd],(some ED)⟩,⟨false,false,.I .i64,[.rd],none⟩] [(true,GM)] x=XS x:=by kernel_rfl
def Zah:=eG Tryz.func114 (by kernel_rfl) Zf4
def Zgp x:fG [.gen p0] [(4,.el .S)] .d Tryz.f68 [⟨true,false,Fe,[.rx,.rd,.rd],(some ED)⟩] [(false,.S)] x=Uu x:=by kernel_rfl
def p4:=eG Tryz.func68 (by kernel_rfl) Zgp
def Zg6 x:fG [.gen Gu,.gen g8,.see gG] [] .d Tryz.f151 [⟨true,false,Fe,[.rx,.rd,.rd],(some ED)⟩] [(true,BH)] x=Yd x:=
 by kernel_rfl
def Zay:=eG Tryz.func151 (by kernel_rfl) Zg6
end
end Go.Vs
