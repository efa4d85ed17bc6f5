import Derived.Test.YtmfmjngkbddenaaGreatDoorProg
import Derived.Test.YtmfmjngkbddenaaGreatDoorVsPok10
set_option linter.all false
namespace Go.Vs
open Go.Proofs
set_option maxRecDepth 100000
noncomputable section
theorem Yet x:fG [.see Zon,.gen Zg3] [] (.sq none .d (.sq (some [.sr 0 txT,.lt 1 (.I .i64)]) (.sq none .d (.bl (.lp [.sr 0 txT,.lt 1 (.I .i64),.lt
 5 (.I .i64)] .d))) .d)) Tryz.f107 [⟨false,false,txW,[.io],none⟩,⟨false,false,.I .i64,[.rd],none⟩] [(false,.I .i64)] x=Zp x:=by kernel_rfl
def Yay:=eG Tryz.func107 (by kernel_rfl) Yet
theorem Yes x:fG [] [] (.sq none .d (.sq (some [.sr 0 txH,.lt 1 (.I .i64)]) (.sq none .d (.bl (.lp [.sr 0 txH,.lt 1 (.I .i64),.lt 5 (.I .i64)] .d))) .d)) Tryz.f108
 [⟨false,false,txI,[.io],none⟩,⟨false,false,.I .i64,[.rd],none⟩] [(false,.I .i64)] x=Zo x:=by kernel_rfl
def Yax:=eG Tryz.func108 (by kernel_rfl) Yes
theorem Yeu x:fG [.gen Yay,.gen Yax] [] .d Tryz.f43 [⟨false,true,F2,[.io,.rd,.io],none⟩,⟨false,false,.I .i64,[.rd],none⟩] [(false,.I
 .i64)] x=Zq x:=by kernel_rfl
def Yaz:=eG Tryz.func43 (by kernel_rfl) Yeu
theorem Yel x:fX [] [] (.sq none .d (.sq (some [.lt 1 (.I .i64)]) (.sq none .d (.bl (.lp [.kt 0,.lt 1 (.I .i64),.lt 5 (.I .i64)] .d))) .d)) Tryz.f178 [(false,.L .Y),
 (false,.I .i64)] [(false,.I .i64)] x=L1 x:=by kernel_rfl
def Yar:=eS Tryz.func178 (by kernel_rfl) Yel
theorem Yen x:fX [.see Zon,.see Yar] [] (.sq none .d (.sq (some [.lt 1 (.I .i64)]) (.sq none .d (.bl (.lp [.kt 0,.lt 1 (.I .i64),.lt 5 (.I .i64)]
 .d))) .d)) Tryz.f109 [(false,txW),(false,.I .i64)] [(false,.I .i64)] x=Zl x:=by kernel_rfl
def Yat:=eS Tryz.func109 (by kernel_rfl) Yen
theorem Yem x:fX [] [] (.sq none .d (.sq (some [.lt 1 (.I .i64)]) (.sq none .d (.bl (.lp [.kt 0,.lt 1 (.I .i64),.lt 5 (.I .i64)] .d))) .d)) Tryz.f110 [(false,txI),
 (false,.I .i64)] [(false,.I .i64)] x=Zk x:=by kernel_rfl
def Yas:=eS Tryz.func110 (by kernel_rfl) Yem
theorem Yeo x:fX [.see Yat,.see Yas] [] .d Tryz.f44 [(true,F2),(false,.I .i64)] [(false,.I .i64)] x=U7 x:=by kernel_rfl
def Yau:=eS Tryz.func44 (by kernel_rfl) Yeo
end
end Go.Vs
