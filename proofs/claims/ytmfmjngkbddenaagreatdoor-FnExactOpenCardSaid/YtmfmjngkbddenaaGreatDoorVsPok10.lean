import Derived.Test.YtmfmjngkbddenaaGreatDoorProg
import Derived.Test.YtmfmjngkbddenaaGreatDoorVsPok9
set_option linter.all false
namespace Go.Vs
open Go.Proofs
set_option maxRecDepth 100000
noncomputable section
theorem Yk2 x:fX [.see Ygb,.see Ygk] [] .d Tryz.f24 [(true,txP),(true,txP)] [(false,.B)] x=T4 x:=by kernel_rfl
def Zs8:=eS Tryz.func24 (by kernel_rfl) Yk2
theorem Yk1 x:fX [.see Zkx] [] .d Tryz.f134 [(true,txC),(true,txC)] [(false,.B)] x=Xh x:=by kernel_rfl
def Ygc:=eS Tryz.func134 (by kernel_rfl) Yk1
theorem Yk5 x:fX [.see Ygc] [] .d Tryz.f60 [(true,txT),(true,txT)] [(false,.B)] x=Xi x:=by kernel_rfl
def Ygf:=eS Tryz.func60 (by kernel_rfl) Yk5
theorem Yk6 x:fX [.see Ygf] [] (.sq none .d (.sq none .d (.sq none (.sq none .d (.bl (.lp [.kt 0,.kt 1,.lt 5 (.I .i64)] .d))) .d))) Tryz.f105 [(false,txW),
 (false,txW)] [(false,.B)] x=Zbz x:=by kernel_rfl
def Ygg:=eS Tryz.func105 (by kernel_rfl) Yk6
theorem Yk3 x:fX [] [] .d Tryz.f176 [(true,txH),(true,txH)] [(false,.B)] x=Zbx x:=by kernel_rfl
def Ygd:=eS Tryz.func176 (by kernel_rfl) Yk3
theorem Yk4 x:fX [.see Ygd] [] (.sq none .d (.sq none .d (.sq none (.sq none .d (.bl (.lp [.kt 0,.kt 1,.lt 5 (.I .i64)] .d))) .d))) Tryz.f106 [(false,txI),
 (false,txI)] [(false,.B)] x=Zby x:=by kernel_rfl
def Yge:=eS Tryz.func106 (by kernel_rfl) Yk4
theorem Yk8 x:fX [.see Ygg,.see Yge] [] .d Tryz.f42 [(true,Fn),(true,Fn)] [(false,.B)] x=Xj x:=by kernel_rfl
def Ygi:=eS Tryz.func42 (by kernel_rfl) Yk8
theorem Yk7 x:fX [.see Zs8,.see Ygi] [] .d Tryz.f15 [(true,Gt),(true,Gt)] [(false,.B)] x=T5 x:=by kernel_rfl
def Ygh:=eS Tryz.func15 (by kernel_rfl) Yk7
theorem Ylj x:fG [] [] (.sq none .d (.sq (some [.sr 0 .Y,.lt 1 (.I .i64)]) (.sq none .d (.bl (.lp [.sr 0 .Y,.lt 1 (.I .i64),.lt 5 (.I .i64)] .d))) .d)) Tryz.f148
 [⟨false,false,.L .Y,[.io],none⟩,⟨false,false,.I .i64,[.rd],none⟩] [(false,.I .i64)] x=Pe x:=by kernel_rfl
def Zkz:=eG Tryz.func148 (by kernel_rfl) Ylj
theorem Ylk x:fG [.gen Zkz] [] (.sq none .d (.sq (some [.sr 0 (.L .Y),.lt 1 (.I .i64)]) (.sq none .d (.bl (.lp [.sr 0 (.L .Y),.lt 1 (.I .i64),.lt 5 (.I
 .i64)] .d))) .d)) Tryz.f75 [⟨false,false,txA,[.io],none⟩,⟨false,false,.I .i64,[.rd],none⟩] [(false,.I .i64)] x=Zb8 x:=by kernel_rfl
def Ygs:=eG Tryz.func75 (by kernel_rfl) Ylk
theorem Ylr x:fG [.gen Zkz] [] (.sq none .d (.sq (some [.sr 0 txC,.lt 1 (.I .i64)]) (.sq none .d (.bl (.lp [.sr 0 txC,.lt 1 (.I .i64),.lt 5 (.I .i64)] .d)))
 .d)) Tryz.f76 [⟨false,false,txF,[.io],none⟩,⟨false,false,.I .i64,[.rd],none⟩] [(false,.I .i64)] x=Zcd x:=by kernel_rfl
def Ygx:=eG Tryz.func76 (by kernel_rfl) Ylr
theorem Yll x:fG [.gen Ygs,.gen Ygx] [] .d Tryz.f25 [⟨false,true,txP,[.io,.io,.rd,.rd],none⟩,⟨false,false,.I .i64,[.rd],none⟩] [(false,.I
 .i64)] x=Rf x:=by kernel_rfl
def Zs9:=eG Tryz.func25 (by kernel_rfl) Yll
theorem Ylq x:fX [] [(12,.el .Y)] (.sq none .d (.sq none .d (.sq none .d (.sq (some [.lt 3 .S]) (.bl (.lp [.lt 0 (.I .i64),.lt 3 .S] .d)) .d)))) Tryz.f177 [(false,.I
 .i64)] [(false,.S)] x=Xl x:=by kernel_rfl
def Zta:=eS Tryz.func177 (by kernel_rfl) Ylq
end
end Go.Vs
