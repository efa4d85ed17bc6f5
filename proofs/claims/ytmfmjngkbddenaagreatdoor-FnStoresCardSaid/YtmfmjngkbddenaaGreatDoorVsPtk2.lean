import Derived.Test.YtmfmjngkbddenaaGreatDoorProg
import Derived.Test.YtmfmjngkbddenaaGreatDoorVsPtk1
set_option linter.all false
namespace Go.Vs
open Go.Proofs
set_option maxRecDepth 100000
noncomputable section
theorem Ymp x:fX [.see Zlh] [] .d Tryz.f216 [(true,txC),(true,txC)] [(false,.B)] x=Bw x:=by kernel_rfl
def Yhs:=eS Tryz.func216 (by kernel_rfl) Ymp
theorem Ymo x:fX [.see Zli,.see Fn,.see Zlo,.see Zue,.see Ze8,.see Zlh,.see Zt1,.see Yhs] [] .d Tryz.f171
 [(true,txU)] [(false,.B)] x=Ji x:=by kernel_rfl
def Zh:=eS Tryz.func171 (by kernel_rfl) Ymo
theorem Ynk x:fX [.see Fn] [] .d Tryz.f184 [(false,.I .i64)] [(false,.B)] x=Nx x:=by kernel_rfl
def Zlm:=eS Tryz.func184 (by kernel_rfl) Ynk
theorem Ym3 x:fX [.see Fn,.see Zlm] [] .d Tryz.f207 [(true,C9)] [(false,.B)] x=Zi1 x:=by kernel_rfl
def Yh1:=eS Tryz.func207 (by kernel_rfl) Ym3
theorem Ymk x:fX [.see Yh0,.see Zh,.see Zli,.see Fn,.see Yh1] [] (.sq none .d (.sq none .d (.sq none .d (.sq none .d (.sq (some [.kt
 1,.lt 3 .B,.lt 4 .B,.lt 5 .B]) .d .d))))) Tryz.f164 [(true,C9)] [(false,.B)] x=Uq x:=by kernel_rfl
def Zt4:=eS Tryz.func164 (by kernel_rfl) Ymk
theorem Ymj x:fX [] [(6,.el .Y),(8,.el .Y),(15,.el .Y),(16,.el .Y)] .d Tryz.f185 [(false,.L .Y),(false,.I .i64)] [(false,.L .Y)] x=J2 x:=by kernel_rfl
def Zlk:=eS Tryz.func185 (by kernel_rfl) Ymj
theorem Ymi x:fX [.see Zlk] [(8,.el .Y),(10,.el .Y),(16,.el .Y)] .d Tryz.f187 [(false,.L .Y),(false,.S)] [(false,.L .Y)] x=Ru x:=by kernel_rfl
def Zlj:=eS Tryz.func187 (by kernel_rfl) Ymi
theorem Ymz x:fX [] [] .d Tryz.f218 [(false,.B)] [(false,.Y)] x=Zi0 x:=by kernel_rfl
def Yhy:=eS Tryz.func218 (by kernel_rfl) Ymz
theorem Ym0 x:fG [.see Zlj] [(9,.el .Y),(10,.el .Y)] .d Tryz.f219 [⟨false,false,.L .Y,[.ow],none⟩,⟨false,true,txC,[.rd,.rd],none⟩] [(false,.L .Y)] x
 = Uu x:=by kernel_rfl
def Yhz:=eG Tryz.func219 (by kernel_rfl) Ym0
theorem Ymg x:fX [.see Zh,.see Zlj,.see Yhy,.see Zlo,.gen Yhz,.see Ze8] [(6,.el .Y),(8,.el .Y),(23,.el .Y),(24,.el
 .Y)] (.sq none .d (.sq none .d (.sq none .d (.sq none .d (.sq (some [.kt 3,.ot 5 .Y]) .d (.sq (some [.ot 5 .Y]) .d .d)))))) Tryz.f186 [(false,.L .Y),(true,txU)] [(false,.L
 .Y)] x=X9 x:=by kernel_rfl
def Yho:=eS Tryz.func186 (by kernel_rfl) Ymg
theorem Ymu x:fX [] [] (.sq none .d (.sq none .d (.sq (some [.lt 3 (.I .i64)]) (.sq none .d (.bl (.lp [.kt 0,.lt 3 (.I .i64),.lt 4 (.I .i64)] (.sq none .d (.sq (some [.kt
 0,.lt 3 (.I .i64),.kt 4]) (.bl (.sq none .d (.sq none .d (.bl (.lp [.kt 0,.lt 3 (.I .i64),.kt 4,.lt 5 (.I .i64)] (.sq none .d (.sq (some [.kt 0,.lt 3 (.I .i64),.kt 4,.kt
 5]) .d .d))))))) .d))))) .d))) Tryz.f141 [(false,.L .Y)] [(false,.I .i64)] x=Yc x:=by kernel_rfl
def Zt5:=eS Tryz.func141 (by kernel_rfl) Ymu
theorem Ymf x:fX [.see Zt4,.see Zlm,.see Zlk,.see Yho,.see Zlj,.see Zt5] [(21,.el .Y),(22,.el .Y),(30,.el .Y),(31,.el .Y),
 (52,.el .Y),(53,.el .Y),(61,.el .Y),(62,.el .Y)] (.sq none .d (.sq none .d (.sq none .d (.sq (some [.kt 5,.ot 7 .Y]) .d .d)))) Tryz.f123 [(false,.I .i64),(false,.I
 .i64),(true,C9)] [(false,.L .Y)] x=Up x:=by kernel_rfl
def Zt3:=eS Tryz.func123 (by kernel_rfl) Ymf
theorem Ymx x:fG [] [] .d Tryz.f183 [⟨true,false,txQ,[.rx,.rx,.rd,.rd],(some txB)⟩] [(false,.B)] x=Ut x:=by kernel_rfl
def Zt7:=eG Tryz.func183 (by kernel_rfl) Ymx
theorem Ymy x:fG [.see Fn,.gen Zt7] [(45,.el .Y),(47,.el .Y),(49,.el txC),(50,.el txC)] .d Tryz.f122 [⟨true,false,txQ,[.rx,.ow,.rd,.rd],(some
 txM)⟩,⟨false,false,.I .i64,[.rd],none⟩,⟨false,false,.L .Y,[.rd],none⟩] [] x=Mn x:=by kernel_rfl
def Zt8:=eG Tryz.func122 (by kernel_rfl) Ymy
end
end Go.Vs
