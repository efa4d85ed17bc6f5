import Derived.Test.YtmfmjngkbddenaaGreatDoorProg
import Derived.Test.YtmfmjngkbddenaaGreatDoorVsPok10
set_option linter.all false
namespace Go.Vs
open Go.Proofs
set_option maxRecDepth 100000
noncomputable section
theorem Yh5 x:fG [.see Zqq,.gen Zcx] [] (.sq none .d (.sq (some [.sr 0 txT,.lt 1 (.I .i64)]) (.sq none .d (.bl (.lp [.sr 0 txT,.lt 1 (.I .i64),.lt
 5 (.I .i64)] .d))) .d)) Tryz.f107 [⟨false,false,txW,[.io],none⟩,⟨false,false,.I .i64,[.rd],none⟩] [(false,.I .i64)] x=Zaf x:=by kernel_rfl
def Yda:=eG Tryz.func107 (by kernel_rfl) Yh5
theorem Yh2 x:fG [] [] (.sq none .d (.sq (some [.sr 0 txH,.lt 1 (.I .i64)]) (.sq none .d (.bl (.lp [.sr 0 txH,.lt 1 (.I .i64),.lt 5 (.I .i64)] .d))) .d)) Tryz.f108
 [⟨false,false,txI,[.io],none⟩,⟨false,false,.I .i64,[.rd],none⟩] [(false,.I .i64)] x=Zad x:=by kernel_rfl
def Yc7:=eG Tryz.func108 (by kernel_rfl) Yh2
theorem Yh7 x:fG [.gen Yda,.gen Yc7] [] .d Tryz.f43 [⟨false,true,E3,[.io,.rd,.io],none⟩,⟨false,false,.I .i64,[.rd],none⟩] [(false,.I
 .i64)] x=Zag x:=by kernel_rfl
def Ydc:=eG Tryz.func43 (by kernel_rfl) Yh7
theorem Yh6 x:fG [.gen Yc6,.gen Ydc] [] .d Tryz.f17 [⟨false,true,Ef,[.io,.io,.rd,.rd,.io,.rd,.io,.rd,.rd],none⟩,⟨false,false,.I .i64,
 [.rd],none⟩] [(false,.I .i64)] x=Vy x:=by kernel_rfl
def Ydb:=eG Tryz.func17 (by kernel_rfl) Yh6
theorem Yh0 x:fG [.gen Zcx] [] .d Tryz.f135 [⟨false,true,txC,[.rd,.io],none⟩,⟨false,false,.I .i64,[.rd],none⟩] [(false,.I .i64)] x=P9 x
 := by kernel_rfl
def Yc5:=eG Tryz.func135 (by kernel_rfl) Yh0
theorem Yh4 x:fG [.gen Yc5] [] .d Tryz.f61 [⟨false,true,txT,[.rd,.rd,.io,.rd,.io,.rd,.rd],none⟩,⟨false,false,.I .i64,[.rd],none⟩] [(false,.I
 .i64)] x=Vx x:=by kernel_rfl
def Yc9:=eG Tryz.func61 (by kernel_rfl) Yh4
theorem Yh3 x:fG [.gen Yc9] [] .d Tryz.f18 [⟨false,true,Cd,[.rd,.rd,.rd,.io,.rd,.io,.rd,.rd,.rd,.rd,.rd,.rd,.rd],none⟩,⟨false,false,.I .i64,
 [.rd],none⟩] [(false,.I .i64)] x=Zae x:=by kernel_rfl
def Yc8:=eG Tryz.func18 (by kernel_rfl) Yh3
theorem Yhq x:fX [] [] (.sq none .d (.sq (some [.lt 1 (.I .i64)]) (.sq none .d (.bl (.lp [.kt 0,.lt 1 (.I .i64),.lt 5 (.I .i64)] .d))) .d)) Tryz.f178 [(false,.L .Y),
 (false,.I .i64)] [(false,.I .i64)] x=L8 x:=by kernel_rfl
def Zif:=eS Tryz.func178 (by kernel_rfl) Yhq
theorem Yhr x:fX [.see Zif] [] (.sq none .d (.sq (some [.lt 1 (.I .i64)]) (.sq none .d (.bl (.lp [.kt 0,.lt 1 (.I .i64),.lt 5 (.I .i64)] .d))) .d))
 Tryz.f136 [(false,txA),(false,.I .i64)] [(false,.I .i64)] x=Z5 x:=by kernel_rfl
def Ycx:=eS Tryz.func136 (by kernel_rfl) Yhr
theorem Yhx x:fX [.see Zif] [] (.sq none .d (.sq (some [.lt 1 (.I .i64)]) (.sq none .d (.bl (.lp [.kt 0,.lt 1 (.I .i64),.lt 5 (.I .i64)] .d))) .d)) Tryz.f137
 [(false,txF),(false,.I .i64)] [(false,.I .i64)] x=Zaa x:=by kernel_rfl
def Yc3:=eS Tryz.func137 (by kernel_rfl) Yhx
theorem Yhs x:fX [.see Ycx,.see Yc3] [] .d Tryz.f62 [(true,txP),(false,.I .i64)] [(false,.I .i64)] x=Z6 x:=by kernel_rfl
def Ycy:=eS Tryz.func62 (by kernel_rfl) Yhs
theorem Yhu x:fX [.see Zqq,.see Zif] [] (.sq none .d (.sq (some [.lt 1 (.I .i64)]) (.sq none .d (.bl (.lp [.kt 0,.lt 1 (.I .i64),.lt 5 (.I .i64)]
 .d))) .d)) Tryz.f109 [(false,txW),(false,.I .i64)] [(false,.I .i64)] x=Z8 x:=by kernel_rfl
def Yc0:=eS Tryz.func109 (by kernel_rfl) Yhu
theorem Yht x:fX [] [] (.sq none .d (.sq (some [.lt 1 (.I .i64)]) (.sq none .d (.bl (.lp [.kt 0,.lt 1 (.I .i64),.lt 5 (.I .i64)] .d))) .d)) Tryz.f110 [(false,txI),
 (false,.I .i64)] [(false,.I .i64)] x=Z7 x:=by kernel_rfl
def Ycz:=eS Tryz.func110 (by kernel_rfl) Yht
theorem Yhw x:fX [.see Yc0,.see Ycz] [] .d Tryz.f44 [(true,E3),(false,.I .i64)] [(false,.I .i64)] x=Z9 x:=by kernel_rfl
def Yc2:=eS Tryz.func44 (by kernel_rfl) Yhw
end
end Go.Vs
