import Derived.Test.YteaoaehkkcbmbaaGreatDoorVsPvk8
set_option linter.all false
namespace Go.Vs
open Go.Proofs
set_option maxRecDepth 100000
noncomputable section
def Zc0 x:fX [.see zL,.see ZG,.see oq,.see H7,.see fz] [] (.sq none .d (.sq none .d (.sq none .d (.sq (some [.kt 1,.lt 5
 .B]) .d .d)))) Tryz.f73 [(true,DC)] [(false,.B)] x=NT x:=by kernel_rfl
def fu:=eS Tryz.func73 (by kernel_rfl) Zc0
def Zc8 x:fX [.see ZG,.see H7,.see fz] [] (.sq none .d (.sq (some [.kt 1]) (.sq none .d (.bl (.lp [.kt 1,.kt 8,.kt 9,.lt 10 (.I .i64)] .d)))
 (.sq (some [.kt 1]) (.sq none .d (.bl (.lp [.kt 1,.kt 36,.kt 37,.lt 38 (.I .i64)] .d))) .d))) Tryz.f59 [(true,GM)] [(false,.B)] x=Mx x:=by kernel_rfl
def pA:=eS Tryz.func59 (by kernel_rfl) Zc8
def Zdz x:fG [.see fy] [(9,.el Bs),(28,.el Bs),(29,.el Bs),(37,.el Bs),(38,.el Bs),(45,.el Bs),(46,.el Bs)] (.sq none .d (.sq none .d
 (.sq none .d (.sq (some [.kt 3,.ot 5 Bs,.lt 6 .B]) (.sq none .d (.bl (.lp [.kt 3,.ot 5 Bs,.lt 6 .B,.sr 10 Pt,.kt 11,.lt 12 (.I .i64)] (.sq none .d (.sq none .d (.sq
 (some [.kt 3,.ot 5 Bs,.lt 6 .B,.sr 10 Pt,.kt 11,.kt 12]) (.bl (.sq none .d (.sq (some [.kt 3,.ot 5 Bs,.lt 6 .B,.kt 8,.kt 10,.kt 11,.kt 12]) .d .d))) .d)))))) (.sq
 (some [.ot 5 Bs]) .d .d))))) Tryz.f74 [⟨false,false,ll,[.ow],none⟩,⟨false,true,Bs,[.rd,.rd,.rd,.rd,.rd,.rd,.rd],none⟩] [(false,Xf)] x=TV x:=by
 kernel_rfl
def zR:=eG Tryz.func74 (by kernel_rfl) Zdz
def n8:Vc Tryz.prog 76=true:=by kernel_rfl
def Zca x:fG [] [] .d Tryz.f76 [⟨false,true,Bs,[.rd,.rd,.rd,.rd,.rd,.rd,.rd],none⟩,⟨true,false,DC,[.rd,.rd,.rd,.rx,.rd,.rx,.rd,.rd,.rd,.rd,
 .rd,.rd,.rd],(some li)⟩] [(false,.B)] x=TJ x:=by kernel_rfl
def oi:=eG Tryz.func76 (by kernel_rfl) Zca
def Zhe x:fH [.fv oi n8] [] (.sq none .d (.sq none (.sq none .d (.bl (.lp [.kt 0,.bx 1 [.L (.I .i64),.L .S,.L (.I .i64),.K,.L
 (.I .i64),.K,.L (.I .i64),.L .B,.L .S,.L (.I .i64),.L (.I .i64),.L (.I .i64),.L (.I .i64)],.kt 7,.lt 8 (.I .i64)] .d))) .d)) Tryz.f124 1 76 [⟨false,false,Xf,[.rd],
 none⟩,⟨true,false,DC,[.rd,.rd,.rd,.rx,.rd,.rx,.rd,.rd,.rd,.rd,.rd,.rd,.rd],(some li)⟩] [(false,.I .i64)] x=Ye x:=by kernel_rfl
def Za0:=eH Tryz.func124 (by kernel_rfl) Zhe
def Zhd x:fH [.hof Za0,.fv oi n8] [] (.sq none .d (.sq none .d (.sq none .d (.sq (some [.sr 0 Pt,.bx 1
 [.L (.I .i64),.L .S,.L (.I .i64),.K,.L (.I .i64),.K,.L (.I .i64),.L .B,.L .S,.L (.I .i64),.L (.I .i64),.L (.I .i64),.L (.I .i64)],.lt 5 (.I .i64)]) (.sq none .d (.bl
 (.lp [.sr 0 Pt,.bx 1 [.L (.I .i64),.L .S,.L (.I .i64),.K,.L (.I .i64),.K,.L (.I .i64),.L .B,.L .S,.L (.I .i64),.L (.I .i64),.L (.I .i64),.L (.I .i64)],.lt 5 (.I
 .i64),.lt 6 (.I .i64)] (.sq none .d (.sq (some [.sr 0 Pt,.bx 1 [.L (.I .i64),.L .S,.L (.I .i64),.K,.L (.I .i64),.K,.L (.I .i64),.L .B,.L .S,.L (.I .i64),.L (.I
 .i64),.L (.I .i64),.L (.I .i64)],.lt 5 (.I .i64),.kt 6]) .d .d))))) .d)))) Tryz.f75 1 76 [⟨false,false,ll,[.ow],none⟩,⟨true,false,DC,[.rd,.rd,.rd,.rx,.rd,.rx,
 .rd,.rd,.rd,.rd,.rd,.rd,.rd],(some li)⟩] [(false,Xf)] x=Uz x:=by kernel_rfl
def Zaz:=eH Tryz.func75 (by kernel_rfl) Zhd
def Zdy x:fX [] [(9,.el Ca),(27,.el Ca),(28,.el Ca),(36,.el Ca),(37,.el Ca),(43,.el Ca),(44,.el Ca)] (.sq none .d (.sq none .d (.sq none .d (.sq
 (some [.kt 3,.ot 5 Ca,.lt 6 .B]) (.sq none .d (.bl (.lp [.kt 3,.ot 5 Ca,.lt 6 .B,.kt 10,.kt 11,.lt 12 (.I .i64)] (.sq none .d (.sq none .d (.sq (some [.kt 3,.ot 5 Ca,
 .lt 6 .B,.kt 10,.kt 11,.kt 12]) (.bl (.sq none .d (.sq (some [.kt 3,.ot 5 Ca,.lt 6 .B,.kt 8,.kt 10,.kt 11,.kt 12]) .d .d))) .d)))))) (.sq (some [.ot 5 Ca]) .d .d)))))
 Tryz.f77 [(false,Xe),(true,Ca)] [(false,Xe)] x=R1 x:=by kernel_rfl
def zQ:=eS Tryz.func77 (by kernel_rfl) Zdy
def Zb9 x:fX [.see pE,.see fu,.see pA,.gen zR,.hof Zaz,.see zQ] [] (.sq none .d (.sq none .d
 (.sq none .d (.sq (some [.kt 2,.bx 3 [.L (.I .i64),.L .S,.L (.I .i64),.K,.L (.I .i64),.K,.L (.I .i64),.L .B,.L .S,.L (.I .i64),.L (.I .i64),.L (.I .i64),.L (.I
 .i64)],.kt 4,.bx 6 [.O Bs,.L (.I .i64),.K]]) .d (.sq (some [.kt 2,.kt 4,.bx 6 [.K,.K,.O Ca]]) .d .d))))) Tryz.f31 [(true,GM),(true,DC)] [(true,GM),(false,
 .B)] x=TI x:=by kernel_rfl
def oh:=eS Tryz.func31 (by kernel_rfl) Zb9
def Zcg x:fX [.see H7] [] (.sq none .d (.sq none .d (.sq (some [.kt 1]) (.sq none .d (.bl (.lp [.kt 1,.kt 25,.kt 26,.lt 27 (.I .i64)] .d))) (.sq none (.sq
 none .d (.bl (.lp [.kt 1,.kt 36,.kt 37,.lt 38 (.I .i64)] .d))) .d)))) Tryz.f58 [(true,DR)] [(false,.B)] x=K9 x:=by kernel_rfl
def ZF:=eS Tryz.func58 (by kernel_rfl) Zcg
def Zc6 x:fX [.see ZF,.see pA,.see H7] [] .d Tryz.f17 [(true,Fd)] [(false,.B)] x=Mw x:=by kernel_rfl
def ZH:=eS Tryz.func17 (by kernel_rfl) Zc6
def Zc1 x:fX [.see fy] [(11,.el DC),(23,.el DC),(24,.el DC),(41,.el DC),(42,.el DC)] (.sq none .d (.sq none .d (.sq (some [.kt 1,.ot 3
 DC]) (.sq none .d (.bl (.lp [.kt 1,.ot 3 DC,.kt 13,.kt 14,.lt 15 (.I .i64)] .d))) (.sq (some [.ot 3 DC]) (.sq none .d (.bl (.lp [.ot 3 DC,.kt 27,.kt 28,.lt 29 (.I
 .i64)] .d))) .d)))) Tryz.f55 [(true,GM)] [(false,lj)] x=Rv x:=by kernel_rfl
def oy:=eS Tryz.func55 (by kernel_rfl) Zc1
def Zdv x:fX [] [] .d Tryz.f33 [(false,.I .i64),(false,.I .i64)] [(false,.I .i64)] x=Lz x:=by kernel_rfl
def gD:=eS Tryz.func33 (by kernel_rfl) Zdv
def Zcy x:fX [.see Nb] [(13,.el .Y),(14,.sb)] .d Tryz.f81 [(false,.L .Y),(false,.I .i64)] [(false,.L .Y)] x=JX x:=by kernel_rfl
def ft:=eS Tryz.func81 (by kernel_rfl) Zcy
def Zcx x:fX [.see Nb,.see ft] [(9,.sb),(17,.sb)] .d Tryz.f83 [(false,.L .Y),(false,.S)] [(false,.L .Y)] x=Mv x:=by kernel_rfl
def ov:=eS Tryz.func83 (by kernel_rfl) Zcx
end
end Go.Vs
