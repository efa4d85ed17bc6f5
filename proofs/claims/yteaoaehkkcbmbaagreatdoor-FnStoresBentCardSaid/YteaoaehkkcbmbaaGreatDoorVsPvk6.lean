import Derived.Test.YteaoaehkkcbmbaaGreatDoorVsPvk5
set_option linter.all false
namespace Go.Vs
open Go.Proofs
set_option maxRecDepth 100000
noncomputable section
def Zgt x:fG [.gen IH] [(4,.el (.I .i64))] .d Tryz.f152 [⟨true,false,Fe,[.rx,.rd,.rd],(some ED)⟩] [(false,.I .i64)] x=XY x:=by kernel_rfl
def Zao:=eG Tryz.func152 (by kernel_rfl) Zgt
def Zgf x:fG [.gen Gu] [(6,.el .Y),(8,.el .Y)] (.sq none .d (.sq none .d (.sq (some [.bx 0 [.K,.L (.I .i64),.L (.I .i64)],.sr 5 .Y]) .d .d))) Tryz.f166
 [⟨true,false,Fe,[.rx,.rd,.rd],(some ED)⟩,⟨false,false,.L .Y,[.rd],none⟩] [(false,.L .Y)] x=XU x:=by kernel_rfl
def Zal:=eG Tryz.func166 (by kernel_rfl) Zgf
def Zgy x:fG [.gen g8,.see pM,.gen Gu,.gen Zal,.gen IH] [(26,.el (.I .i64)),(29,.el .Y),(30,.el .Y)] .d Tryz.f153
 [⟨true,false,Fe,[.rx,.rd,.rd],(some ED)⟩,⟨false,false,.I .i64,[.rd],none⟩] [(false,.L .Y)] x=Ya x:=by kernel_rfl
def Zat:=eG Tryz.func153 (by kernel_rfl) Zgy
def Zg4 x:fG [.gen Zay,.gen Gu,.gen Zao,.gen Zat] [(25,.el .Y)] (.sq none .d (.sq none .d (.sq (some [.bx 0 [.K,.L (.I .i64),.L (.I
 .i64)],.kt 2,.bx 3 [.L (.I .i64),.O .Y]]) .d .d))) Tryz.f115 [⟨true,false,Fe,[.rx,.rd,.rd],(some ED)⟩] [(true,BH)] x=Uw x:=by kernel_rfl
def Zax:=eG Tryz.func115 (by kernel_rfl) Zg4
def Zg7 x:fG [.gen p8,.gen Gu,.gen p4,.gen IH,.gen Zax] [(16,.el (.I .i64)),(37,.el .Y)] (.sq none .d (.sq none .d (.sq
 (some [.bx 0 [.K,.L (.I .i64),.L (.I .i64)],.kt 2,.bx 3 [.L .S,.L (.I .i64),.O .Y,.L (.I .i64),.O .Y,.L (.I .i64),.L .B]]) .d .d))) Tryz.f67 [⟨true,false,Fe,[.rx,
 .rd,.rd],(some ED)⟩] [(true,Bs)] x=Ux x:=by kernel_rfl
def p7:=eG Tryz.func67 (by kernel_rfl) Zg7
def Zgm x:fG [.gen IH] [(4,.el (.I .i64))] .d Tryz.f69 [⟨true,false,Fe,[.rx,.rd,.rd],(some ED)⟩] [(false,.I .i64)] x=Us x:=by kernel_rfl
def pZ:=eG Tryz.func69 (by kernel_rfl) Zgm
def Zf2 x:fG [.gen Zah,.gen Gu,.gen p7,.gen IH,.gen pZ] [(18,.el Bs),(19,.el Bs),(24,.el (.I .i64)),(32,.el (.I
 .i64)),(37,.el (.I .i64)),(40,.el Ca),(41,.el Ca),(54,.el .Y),(57,.el .Y),(60,.el Bs),(61,.el Bs)] (.sq none .d (.sq none .d (.sq (some [.bx 0 [.K,.L (.I
 .i64),.L (.I .i64)],.kt 4,.bx 5 [.O Bs,.L (.I .i64),.O Ca]]) (.sq none .d (.bl (.sq none .d (.cd .d (.sq none .d (.cd .d (.sq none .d (.cd .d (.sq none .d (.cd (.sq none
 .d (.bl (.lp [.kt 0,.kt 4,.bx 5 [.O Bs,.K,.K],.lt 6 (.I .i64)] .d))) .d)))))))))) .d))) Tryz.f66 [⟨true,false,Fe,[.rx,.rd,.rd],(some ED)⟩,⟨false,false,.I .i64,
 [.rd],none⟩] [(true,GM)] x=XQ x:=by kernel_rfl
def Zag:=eG Tryz.func66 (by kernel_rfl) Zf2
def Zf9 x:fG [.gen gW,.gen Gu,.gen gP,.gen Zag,.gen IH] [(24,.el (.I .i64)),(30,.el (.I .i64)),(37,.el (.I .i64))]
 (.sq none .d (.sq none .d (.sq (some [.bx 0 [.K,.L (.I .i64),.L (.I .i64)],.kt 4,.bx 5 [.O (.L .Y),.O BH,.L (.I .i64),.L .B,.O Bs,.L (.I .i64),.O Ca,.L (.I .i64),
 .L (.I .i64)]]) (.sq none .d (.bl (.sq none .d (.cd .d (.sq none .d (.cd .d (.sq none .d (.cd .d (.sq none .d (.cd .d (.sq (some [.kt 0,.kt 4,.kt 5,.kt 10,.lt 33 .B]) .d
 .d))))))))))) .d))) Tryz.f25 [⟨true,false,Fe,[.rx,.rd,.rd],(some ED)⟩,⟨false,false,.I .i64,[.rd],none⟩] [(true,Fd)] x=RD x:=by kernel_rfl
def gV:=eG Tryz.func25 (by kernel_rfl) Zf9
def Zem x:fX [.cur Vu,.gen gV] [] .d Tryz.f5 [(false,.L .Y)] [(true,Fd)] x=XG x:=by kernel_rfl
def zb:=eS Tryz.func5 (by kernel_rfl) Zem
def Zfr x:fG [.gen Vt,.gen Gu,.gen p7,.gen p4,.gen IH,.gen pZ] [(26,.el (.I .i64)),(32,.el (.I .i64)),(43,.el
 (.I .i64))] (.sq none .d (.sq none .d (.sq (some [.bx 0 [.K,.L (.I .i64),.L (.I .i64)],.kt 2,.bx 3 [.L (.I .i64),.L .S,.L (.I .i64),.O .Y,.L (.I .i64),.O .Y,.L (.I
 .i64),.L .B,.L .S,.L (.I .i64),.L (.I .i64),.L (.I .i64),.L (.I .i64)]]) .d .d))) Tryz.f28 [⟨true,false,Fe,[.rx,.rd,.rd],(some ED)⟩] [(true,DC)] x=XO x
 := by kernel_rfl
def zy:=eG Tryz.func28 (by kernel_rfl) Zfr
def Zei x:fX [.cur Vu,.gen IH,.gen gV,.gen gY,.gen zy,.gen Vt] [(10,.el (.I .i64))] .d Tryz.f6 [(false,.L .Y)]
 [(true,Fd),(true,DC)] x=X9 x:=by kernel_rfl
def z7:=eS Tryz.func6 (by kernel_rfl) Zei
def Zdj x:fX [] [(6,.el .Y),(15,.el .Y)] (.sq none .d (.sq none .d (.sq (some [.ot 3 .Y]) (.sq none .d (.bl (.lp [.ot 3 .Y,.kt 7,.kt 8,.lt 9 (.I .i64)] .d)))
 .d))) Tryz.f79 [(false,lh)] [(false,.L .Y)] x=Hg x:=by kernel_rfl
def Nb:=eS Tryz.func79 (by kernel_rfl) Zdj
def Zdc x:fX [.see Nb] [(23,.sb),(25,.el (.L .Y)),(26,.el (.L .Y)),(42,.sb),(45,.el BH),(46,.el BH)] (.sq none .d (.sq none .d (.sq (some [.kt 1,
 .kt 2,.bx 3 [.O (.L .Y),.K,.K,.K]]) (.sq none .d (.bl (.lp [.kt 1,.kt 2,.bx 3 [.O (.L .Y),.K,.K,.K],.kt 14,.kt 15,.lt 16 (.I .i64)] .d))) (.sq (some [.kt 2,.bx 3
 [.K,.O BH,.K,.K]]) (.sq none .d (.bl (.lp [.kt 2,.bx 3 [.K,.O BH,.K,.K],.kt 30,.kt 31,.lt 32 (.I .i64)] .d))) .d)))) Tryz.f45 [(true,DR)] [(true,DR)] x =
 Lx x:=by kernel_rfl
def ZI:=eS Tryz.func45 (by kernel_rfl) Zdc
def Zdb x:fX [.see Nb] [(7,.sb)] .d Tryz.f142 [(true,BH)] [(true,BH)] x=TT x:=by kernel_rfl
def zH:=eS Tryz.func142 (by kernel_rfl) Zdb
end
end Go.Vs
