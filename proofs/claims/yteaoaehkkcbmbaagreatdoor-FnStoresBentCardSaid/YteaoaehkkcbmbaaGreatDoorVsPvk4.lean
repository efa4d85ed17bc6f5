import Derived.Test.YteaoaehkkcbmbaaGreatDoorVsPvk3
set_option linter.all false
namespace Go.Vs
open Go.Proofs
set_option maxRecDepth 100000
noncomputable section
def Zfg x:fX [.see Fi] [] .d Tryz.f195 [(false,.I .i64)] [(false,.I .i64),(false,.I .i64),(false,.B)] x=dR x:=by kernel_rfl
def zu:=eS Tryz.func195 (by kernel_rfl) Zfg
def Ze1 x:fX [.see Fi,.see zu] [(10,.el .Y),(12,.el .Y),(18,.el .Y),(19,.el .Y),(34,.el .Y),(35,.el .Y)] .d Tryz.f185 [(false,.L .Y),
 (false,.I .i64)] [(false,.L .Y),(false,.B)] x=Ui x:=by kernel_rfl
def zm:=eS Tryz.func185 (by kernel_rfl) Ze1
def Zfe x:fX [.see gF] [] (.sq none .d (.sq (some []) (.sq none .d (.bl (.lp [.kt 0,.kt 1,.lt 6 (.I .i64)] .d))) .d)) Tryz.f186 [(false,.I .i64),
 (false,.I .i64)] [(false,.I .i64),(false,.B)] x=XL x:=by kernel_rfl
def zt:=eS Tryz.func186 (by kernel_rfl) Zfe
def Zg1 x:fX [.see ZJ,.see gO,.see zm,.see zt] [(33,.el .Y),(35,.el .Y),(36,.el .Y),(38,.el .Y),(41,.el .Y),(42,.el
 .Y)] .d Tryz.f174 [(false,.I .i64),(false,.L .Y),(false,.I .i64)] [(false,.L .Y),(false,.B)] x=Uv x:=by kernel_rfl
def Zav:=eS Tryz.func174 (by kernel_rfl) Zg1
def Zen x:fX [.see zv,.see g7,.see Zav] [(12,.el .Y),(44,.el .Y)] (.sq none .d (.sq none .d (.sq none .d (.sq none .d (.sq (some [.ot 6 .Y])
 (.sq none .d (.bl (.lp [.kt 0,.ot 6 .Y,.kt 7,.lt 9 (.I .i64)] .d))) .d))))) Tryz.f165 [(false,.I .i64),(false,.S)] [(false,.L .Y),(false,.B)] x=Ub x:=by
 kernel_rfl
def pM:=eS Tryz.func165 (by kernel_rfl) Zen
def Zec x:fX [.see pM] [] .d Tryz.f154 [(false,.I .i64),(false,.S)] [(true,BH),(false,.B)] x=P6 x:=by kernel_rfl
def gG:=eS Tryz.func154 (by kernel_rfl) Zec
def Zfb x:fX [.see gG,.see Fi,.see gK] [] (.sq none .d (.sq none .d (.sq none .d (.sq none .d (.sq (some [.kt 1,.bx 8 [.L .S,.L (.I .i64),.O
 .Y,.L (.I .i64),.O .Y,.L (.I .i64),.L .B],.kt 10,.kt 12,.kt 13]) (.sq none .d (.bl (.sq (some [.kt 1,.kt 8,.kt 10,.kt 12,.kt 13,.kt 43,.lt 44 .B]) .d (.cd .d (.sq
 (some [.kt 1,.kt 8,.kt 10,.kt 12,.kt 13,.kt 43,.lt 53 .B]) .d .d))))) .d))))) Tryz.f118 [(false,.I .i64),(false,.S),(false,.I .i64),(false,.S)] [(true,Bs),(false,
 .I .i64)] x=R7 x:=by kernel_rfl
def zq:=eS Tryz.func118 (by kernel_rfl) Zfb
def Zfl x:fX [.see gH,.see gG,.see p6] [] .d Tryz.f157 [(true,BH),(false,.I .i64)] [(true,BH),(false,.B)] x=Um x:=by
 kernel_rfl
def zw:=eS Tryz.func157 (by kernel_rfl) Zfl
def Zep x:fX [.see Vv,.see Vr,.see Vx,.see zw] [] .d Tryz.f120 [(true,Bs)] [(true,Bs)] x=Ud x:=by kernel_rfl
def zf:=eS Tryz.func120 (by kernel_rfl) Zep
def Zea x:fX [.see Vv,.see Vr,.see Vx,.see ZP] [] .d Tryz.f121 [(true,Bs)] [(true,Bs)] x=TZ x:=by kernel_rfl
def z4:=eS Tryz.func121 (by kernel_rfl) Zea
def Zg9 x:fG [.gen Zap,.gen pY,.gen Gu,.gen g8,.see zq,.gen IH,.see zf,.see z4] [(18,.el .Y),
 (43,.el (.I .i64))] (.sq none .d (.sq none .d (.sq none .d (.sq none .d (.sq none .d (.sq (some [.kt 0,.kt 2,.bx 7 [.L .S,.L (.I .i64),.O .Y,.L (.I .i64),.O .Y,.L (.I
 .i64),.L .B]]) .d .d)))))) Tryz.f70 [⟨true,false,Fe,[.rx,.rd,.rd],(some ED)⟩] [(true,Bs)] x=Uy x:=by kernel_rfl
def p8:=eG Tryz.func70 (by kernel_rfl) Zg9
def Zgn x:fG [.gen Gu] [] .d Tryz.f27 [⟨true,false,Fe,[.rx,.rd,.rd],(some ED)⟩,⟨false,false,.I .i64,[.rd],none⟩] [(false,.B)] x=PF x
 := by kernel_rfl
def gY:=eG Tryz.func27 (by kernel_rfl) Zgn
def Zfv x:fG [.gen Gu,.gen p8,.gen pY,.gen gY,.gen IH] [(37,.el (.I .i64))] (.sq none .d (.sq none .d (.sq (some [.bx 0
 [.K,.L (.I .i64),.L (.I .i64)],.kt 2,.bx 3 [.K,.L .S,.L (.I .i64),.O .Y,.L (.I .i64),.O .Y,.L (.I .i64),.L .B,.L .S,.L (.I .i64),.K,.K,.K]]) .d (.sq (some [.bx 0
 [.K,.L (.I .i64),.L (.I .i64)],.kt 2,.bx 3 [.K,.K,.K,.K,.K,.K,.K,.K,.K,.K,.L (.I .i64),.L (.I .i64),.L (.I .i64)]]) .d .d)))) Tryz.f29 [⟨true,false,Fe,[.rx,
 .rd,.rd],(some ED)⟩] [(true,DC)] x=L0 x:=by kernel_rfl
def Vt:=eG Tryz.func29 (by kernel_rfl) Zfv
def Zf3 x:fX [.see Vv] [(7,.el Ca),(10,.el Ca),(27,.el Bs),(28,.el Bs)] (.sq none .d (.sq none .d (.sq (some [.kt 2,.bx 3 [.O Bs,.K,.K]]) (.sq
 none .d (.bl (.lp [.kt 1,.kt 2,.bx 3 [.O Bs,.K,.K],.lt 4 (.I .i64)] .d))) .d))) Tryz.f85 [(true,GM)] [(true,GM)] x=RC x:=by kernel_rfl
def pV:=eS Tryz.func85 (by kernel_rfl) Zf3
end
end Go.Vs
