import Derived.Test.YtmfmjngkbddenaaGreatDoorVsPtk1
set_option linter.all false
namespace Go.Vs
open Go.Proofs
set_option maxRecDepth 100000
noncomputable section
theorem Ym8 x:fX [.see Zlu] [] .d Tryz.f216 [(true,txC),(true,txC)] [(false,.B)] x=Bx x:=by kernel_rfl
def Yh9:=eS Tryz.func216 (by kernel_rfl) Ym8
theorem Ym7 x:fX [.see Zlv,.see Fn,.see Zl1,.see Zuw,.see Zfh,.see Zlu,.see Zuj,.see Yh9] [] .d Tryz.f171
 [(true,txU)] [(false,.B)] x=Jj x:=by kernel_rfl
def Zs:=eS Tryz.func171 (by kernel_rfl) Ym7
theorem Yn3 x:fX [.see Fn] [] .d Tryz.f184 [(false,.I .i64)] [(false,.B)] x=Nz x:=by kernel_rfl
def Zlz:=eS Tryz.func184 (by kernel_rfl) Yn3
theorem Ynm x:fX [.see Fn,.see Zlz] [] .d Tryz.f207 [(true,Db)] [(false,.B)] x=Zjc x:=by kernel_rfl
def Yii:=eS Tryz.func207 (by kernel_rfl) Ynm
theorem Ym3 x:fX [.see Yih,.see Zs,.see Zlv,.see Fn,.see Yii] [] (.sq none .d (.sq none .d (.sq none .d (.sq none .d (.sq (some [.kt
 1,.lt 3 .B,.lt 4 .B,.lt 5 .B]) .d .d))))) Tryz.f164 [(true,Db)] [(false,.B)] x=U0 x:=by kernel_rfl
def Zum:=eS Tryz.func164 (by kernel_rfl) Ym3
theorem Ym2 x:fX [] [(6,.el .Y),(8,.el .Y),(15,.el .Y),(16,.el .Y)] .d Tryz.f185 [(false,.L .Y),(false,.I .i64)] [(false,.L .Y)] x=J4 x:=by kernel_rfl
def Zlx:=eS Tryz.func185 (by kernel_rfl) Ym2
theorem Ym1 x:fX [.see Zlx] [(8,.el .Y),(10,.el .Y),(16,.el .Y)] .d Tryz.f187 [(false,.L .Y),(false,.S)] [(false,.L .Y)] x=R5 x:=by kernel_rfl
def Zlw:=eS Tryz.func187 (by kernel_rfl) Ym1
theorem Yni x:fX [] [] .d Tryz.f218 [(false,.B)] [(false,.Y)] x=Zjb x:=by kernel_rfl
def Yif:=eS Tryz.func218 (by kernel_rfl) Yni
theorem Ynj x:fG [.see Zlw] [(9,.el .Y),(10,.el .Y)] .d Tryz.f219 [⟨false,false,.L .Y,[.ow],none⟩,⟨false,true,txC,[.rd,.rd],none⟩] [(false,.L .Y)] x
 = U4 x:=by kernel_rfl
def Yig:=eG Tryz.func219 (by kernel_rfl) Ynj
theorem Ymz x:fX [.see Zs,.see Zlw,.see Yif,.see Zl1,.gen Yig,.see Zfh] [(6,.el .Y),(8,.el .Y),(23,.el .Y),(24,.el
 .Y)] (.sq none .d (.sq none .d (.sq none .d (.sq none .d (.sq (some [.kt 3,.ot 5 .Y]) .d (.sq (some [.ot 5 .Y]) .d .d)))))) Tryz.f186 [(false,.L .Y),(true,txU)] [(false,.L
 .Y)] x=Yl x:=by kernel_rfl
def Yh5:=eS Tryz.func186 (by kernel_rfl) Ymz
theorem Ynd x:fX [] [] (.sq none .d (.sq none .d (.sq (some [.lt 3 (.I .i64)]) (.sq none .d (.bl (.lp [.kt 0,.lt 3 (.I .i64),.lt 4 (.I .i64)] (.sq none .d (.sq (some [.kt
 0,.lt 3 (.I .i64),.kt 4]) (.bl (.sq none .d (.sq none .d (.bl (.lp [.kt 0,.lt 3 (.I .i64),.kt 4,.lt 5 (.I .i64)] (.sq none .d (.sq (some [.kt 0,.lt 3 (.I .i64),.kt 4,.kt
 5]) .d .d))))))) .d))))) .d))) Tryz.f141 [(false,.L .Y)] [(false,.I .i64)] x=Yo x:=by kernel_rfl
def Zun:=eS Tryz.func141 (by kernel_rfl) Ynd
theorem Ymy x:fX [.see Zum,.see Zlz,.see Zlx,.see Yh5,.see Zlw,.see Zun] [(21,.el .Y),(22,.el .Y),(30,.el .Y),(31,.el .Y),
 (52,.el .Y),(53,.el .Y),(61,.el .Y),(62,.el .Y)] (.sq none .d (.sq none .d (.sq none .d (.sq (some [.kt 5,.ot 7 .Y]) .d .d)))) Tryz.f123 [(false,.I .i64),(false,.I
 .i64),(true,Db)] [(false,.L .Y)] x=Uz x:=by kernel_rfl
def Zul:=eS Tryz.func123 (by kernel_rfl) Ymy
theorem Yng x:fG [] [] .d Tryz.f183 [⟨true,false,txQ,[.rx,.rx,.rd,.rd],(some txB)⟩] [(false,.B)] x=U3 x:=by kernel_rfl
def Zup:=eG Tryz.func183 (by kernel_rfl) Yng
theorem Ynh x:fG [.see Fn,.gen Zup] [(45,.el .Y),(47,.el .Y),(49,.el txC),(50,.el txC)] .d Tryz.f122 [⟨true,false,txQ,[.rx,.ow,.rd,.rd],(some
 txM)⟩,⟨false,false,.I .i64,[.rd],none⟩,⟨false,false,.L .Y,[.rd],none⟩] [] x=Mq x:=by kernel_rfl
def Zuq:=eG Tryz.func122 (by kernel_rfl) Ynh
end
end Go.Vs
