import Derived.Test.YtmfmjngkbddenaaGreatDoorProg
import Derived.Test.YtmfmjngkbddenaaGreatDoorVsPok9
set_option linter.all false
namespace Go.Vs
open Go.Proofs
set_option maxRecDepth 100000
noncomputable section
theorem Yhg x:fX [.see Ycm,.see Ycw] [] .d Tryz.f24 [(true,txP),(true,txP)] [(false,.B)] x=Vt x:=by kernel_rfl
def Yco:=eS Tryz.func24 (by kernel_rfl) Yhg
theorem Yhf x:fX [.see Zie] [] .d Tryz.f134 [(true,txC),(true,txC)] [(false,.B)] x=Vr x:=by kernel_rfl
def Ycn:=eS Tryz.func134 (by kernel_rfl) Yhf
theorem Yhk x:fX [.see Ycn] [] .d Tryz.f60 [(true,txT),(true,txT)] [(false,.B)] x=P7 x:=by kernel_rfl
def Zqp:=eS Tryz.func60 (by kernel_rfl) Yhk
theorem Yhl x:fX [.see Zqp] [] (.sq none .d (.sq none .d (.sq none (.sq none .d (.bl (.lp [.kt 0,.kt 1,.lt 5 (.I .i64)] .d))) .d))) Tryz.f105 [(false,txW),
 (false,txW)] [(false,.B)] x=Z2 x:=by kernel_rfl
def Ycs:=eS Tryz.func105 (by kernel_rfl) Yhl
theorem Yhh x:fX [] [] .d Tryz.f176 [(true,txH),(true,txH)] [(false,.B)] x=Zz x:=by kernel_rfl
def Ycp:=eS Tryz.func176 (by kernel_rfl) Yhh
theorem Yhi x:fX [.see Ycp] [] (.sq none .d (.sq none .d (.sq none (.sq none .d (.bl (.lp [.kt 0,.kt 1,.lt 5 (.I .i64)] .d))) .d))) Tryz.f106 [(false,txI),
 (false,txI)] [(false,.B)] x=Z0 x:=by kernel_rfl
def Ycq:=eS Tryz.func106 (by kernel_rfl) Yhi
theorem Yhn x:fX [.see Ycs,.see Ycq] [] .d Tryz.f42 [(true,E3),(true,E3)] [(false,.B)] x=Vu x:=by kernel_rfl
def Ycu:=eS Tryz.func42 (by kernel_rfl) Yhn
theorem Yhm x:fX [.see Yco,.see Ycu] [] .d Tryz.f15 [(true,Ef),(true,Ef)] [(false,.B)] x=P8 x:=by kernel_rfl
def Yct:=eS Tryz.func15 (by kernel_rfl) Yhm
theorem Yhj x:fX [.see Zqp] [] .d Tryz.f16 [(true,Cd),(true,Cd)] [(false,.B)] x=Z1 x:=by kernel_rfl
def Ycr:=eS Tryz.func16 (by kernel_rfl) Yhj
theorem Yhy x:fG [] [] (.sq none .d (.sq (some [.sr 0 .Y,.lt 1 (.I .i64)]) (.sq none .d (.bl (.lp [.sr 0 .Y,.lt 1 (.I .i64),.lt 5 (.I .i64)] .d))) .d)) Tryz.f148
 [⟨false,false,.L .Y,[.io],none⟩,⟨false,false,.I .i64,[.rd],none⟩] [(false,.I .i64)] x=L9 x:=by kernel_rfl
def Zcx:=eG Tryz.func148 (by kernel_rfl) Yhy
theorem Yhz x:fG [.gen Zcx] [] (.sq none .d (.sq (some [.sr 0 (.L .Y),.lt 1 (.I .i64)]) (.sq none .d (.bl (.lp [.sr 0 (.L .Y),.lt 1 (.I .i64),.lt 5 (.I
 .i64)] .d))) .d)) Tryz.f75 [⟨false,false,txA,[.io],none⟩,⟨false,false,.I .i64,[.rd],none⟩] [(false,.I .i64)] x=Zab x:=by kernel_rfl
def Yc4:=eG Tryz.func75 (by kernel_rfl) Yhz
theorem Yh9 x:fG [.gen Zcx] [] (.sq none .d (.sq (some [.sr 0 txC,.lt 1 (.I .i64)]) (.sq none .d (.bl (.lp [.sr 0 txC,.lt 1 (.I .i64),.lt 5 (.I .i64)] .d)))
 .d)) Tryz.f76 [⟨false,false,txF,[.io],none⟩,⟨false,false,.I .i64,[.rd],none⟩] [(false,.I .i64)] x=Zah x:=by kernel_rfl
def Ydd:=eG Tryz.func76 (by kernel_rfl) Yh9
theorem Yh1 x:fG [.gen Yc4,.gen Ydd] [] .d Tryz.f25 [⟨false,true,txP,[.io,.io,.rd,.rd],none⟩,⟨false,false,.I .i64,[.rd],none⟩] [(false,.I
 .i64)] x=Zac x:=by kernel_rfl
def Yc6:=eG Tryz.func25 (by kernel_rfl) Yh1
theorem Yh8 x:fX [] [(12,.el .Y)] (.sq none .d (.sq none .d (.sq none .d (.sq (some [.lt 3 .S]) (.bl (.lp [.lt 0 (.I .i64),.lt 3 .S] .d)) .d)))) Tryz.f177 [(false,.I
 .i64)] [(false,.S)] x=Vz x:=by kernel_rfl
def Zqq:=eS Tryz.func177 (by kernel_rfl) Yh8
end
end Go.Vs
