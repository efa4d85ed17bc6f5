import Derived.Test.YteaoaehkkcbmbaaGreatDoorVsPvk1
set_option linter.all false
namespace Go.Vs
open Go.Proofs
set_option maxRecDepth 100000
noncomputable section
def Zfd x:fX [.see gH] [] .d Tryz.f150 [(true,BH),(true,BH)] [(false,.B)] x=Cz x:=by kernel_rfl
def zr:=eS Tryz.func150 (by kernel_rfl) Zfd
def Zfc x:fX [.see gK,.see Fi,.see ZP,.see p9,.see Vx,.see gH,.see pK,.see zr] [] .d Tryz.f109
 [(true,Bs)] [(false,.B)] x=J6 x:=by kernel_rfl
def Vr:=eS Tryz.func109 (by kernel_rfl) Zfc
def Zgq x:fX [.see Fi] [] .d Tryz.f128 [(false,.I .i64)] [(false,.B)] x=M4 x:=by kernel_rfl
def gZ:=eS Tryz.func128 (by kernel_rfl) Zgq
def Zf0 x:fX [.see Fi,.see gZ] [] .d Tryz.f141 [(true,DC)] [(false,.B)] x=dT x:=by kernel_rfl
def Zae:=eS Tryz.func141 (by kernel_rfl) Zf0
def Ze7 x:fX [.see Zad,.see Vr,.see gK,.see Fi,.see Zae] [] (.sq none .d (.sq none .d (.sq none .d (.sq none .d (.sq (some [.kt
 1,.lt 3 .B,.lt 4 .B,.lt 5 .B]) .d .d))))) Tryz.f102 [(true,DC)] [(false,.B)] x=NV x:=by kernel_rfl
def gN:=eS Tryz.func102 (by kernel_rfl) Ze7
def Ze6 x:fX [] [(6,.el .Y),(8,.el .Y),(15,.el .Y),(16,.el .Y)] .d Tryz.f129 [(false,.L .Y),(false,.I .i64)] [(false,.L .Y)] x=JZ x:=by kernel_rfl
def gM:=eS Tryz.func129 (by kernel_rfl) Ze6
def Ze5 x:fX [.see gM] [(8,.el .Y),(10,.el .Y),(16,.el .Y)] .d Tryz.f131 [(false,.L .Y),(false,.S)] [(false,.L .Y)] x=P9 x:=by kernel_rfl
def gL:=eS Tryz.func131 (by kernel_rfl) Ze5
def Zfs x:fX [] [] .d Tryz.f159 [(false,.B)] [(false,.Y)] x=dS x:=by kernel_rfl
def zz:=eS Tryz.func159 (by kernel_rfl) Zfs
def Zfu x:fG [.see gL] [(9,.el .Y),(10,.el .Y)] .d Tryz.f160 [⟨false,false,.L .Y,[.ow],none⟩,⟨false,true,BH,[.rd,.rd],none⟩] [(false,.L .Y)] x
 = RA x:=by kernel_rfl
def Zaa:=eG Tryz.func160 (by kernel_rfl) Zfu
def Ze3 x:fX [.see Vr,.see gL,.see zz,.see ZP,.gen Zaa,.see Vx] [(6,.el .Y),(8,.el .Y),(23,.el .Y),(24,.el
 .Y)] (.sq none .d (.sq none .d (.sq none .d (.sq none .d (.sq (some [.kt 3,.ot 5 .Y]) .d (.sq (some [.ot 5 .Y]) .d .d)))))) Tryz.f130 [(false,.L .Y),(true,Bs)] [(false,.L
 .Y)] x=Uj x:=by kernel_rfl
def zn:=eS Tryz.func130 (by kernel_rfl) Ze3
def Zfj x:fX [] [] (.sq none .d (.sq none .d (.sq (some [.lt 3 (.I .i64)]) (.sq none .d (.bl (.lp [.kt 0,.lt 3 (.I .i64),.lt 4 (.I .i64)] (.sq none .d (.sq (some [.kt
 0,.lt 3 (.I .i64),.kt 4]) (.bl (.sq none .d (.sq none .d (.bl (.lp [.kt 0,.lt 3 (.I .i64),.kt 4,.lt 5 (.I .i64)] (.sq none .d (.sq (some [.kt 0,.lt 3 (.I .i64),.kt 4,.kt
 5]) .d .d))))))) .d))))) .d))) Tryz.f94 [(false,.L .Y)] [(false,.I .i64)] x=NX x:=by kernel_rfl
def ZL:=eS Tryz.func94 (by kernel_rfl) Zfj
def Ze2 x:fX [.see gN,.see gZ,.see gM,.see zn,.see gL,.see ZL] [(21,.el .Y),(22,.el .Y),(30,.el .Y),(31,.el .Y),
 (52,.el .Y),(53,.el .Y),(61,.el .Y),(62,.el .Y)] (.sq none .d (.sq none .d (.sq none .d (.sq (some [.kt 5,.ot 7 .Y]) .d .d)))) Tryz.f87 [(false,.I .i64),(false,.I
 .i64),(true,DC)] [(false,.L .Y)] x=R5 x:=by kernel_rfl
def pQ:=eS Tryz.func87 (by kernel_rfl) Ze2
def Zfp x:fG [] [] .d Tryz.f127 [⟨true,false,DR,[.rx,.rx,.rd,.rd],(some I5)⟩] [(false,.B)] x=R9 x:=by kernel_rfl
def pU:=eG Tryz.func127 (by kernel_rfl) Zfp
def Zfq x:fG [.see Fi,.gen pU] [(45,.el .Y),(47,.el .Y),(49,.el BH),(50,.el BH)] .d Tryz.f86 [⟨true,false,DR,[.rx,.ow,.rd,.rd],(some
 wh)⟩,⟨false,false,.I .i64,[.rd],none⟩,⟨false,false,.L .Y,[.rd],none⟩] [] x=KE x:=by kernel_rfl
def gS:=eG Tryz.func86 (by kernel_rfl) Zfq
end
end Go.Vs
