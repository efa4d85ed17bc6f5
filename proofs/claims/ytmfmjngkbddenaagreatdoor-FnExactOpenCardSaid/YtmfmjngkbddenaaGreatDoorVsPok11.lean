import Derived.Test.YtmfmjngkbddenaaGreatDoorProg
import Derived.Test.YtmfmjngkbddenaaGreatDoorVsPok10
set_option linter.all false
namespace Go.Vs
open Go.Proofs
set_option maxRecDepth 100000
noncomputable section
theorem Yln x:fG [.see Zta,.gen Zkz] [] (.sq none .d (.sq (some [.sr 0 txT,.lt 1 (.I .i64)]) (.sq none .d (.bl (.lp [.sr 0 txT,.lt 1 (.I .i64),.lt
 5 (.I .i64)] .d))) .d)) Tryz.f107 [⟨false,false,txW,[.io],none⟩,⟨false,false,.I .i64,[.rd],none⟩] [(false,.I .i64)] x=Zca x:=by kernel_rfl
def Ygu:=eG Tryz.func107 (by kernel_rfl) Yln
theorem Ylm x:fG [] [] (.sq none .d (.sq (some [.sr 0 txH,.lt 1 (.I .i64)]) (.sq none .d (.bl (.lp [.sr 0 txH,.lt 1 (.I .i64),.lt 5 (.I .i64)] .d))) .d)) Tryz.f108
 [⟨false,false,txI,[.io],none⟩,⟨false,false,.I .i64,[.rd],none⟩] [(false,.I .i64)] x=Zb9 x:=by kernel_rfl
def Ygt:=eG Tryz.func108 (by kernel_rfl) Ylm
theorem Ylp x:fG [.gen Ygu,.gen Ygt] [] .d Tryz.f43 [⟨false,true,Fn,[.io,.rd,.io],none⟩,⟨false,false,.I .i64,[.rd],none⟩] [(false,.I
 .i64)] x=Zcc x:=by kernel_rfl
def Ygw:=eG Tryz.func43 (by kernel_rfl) Ylp
theorem Ylo x:fG [.gen Zs9,.gen Ygw] [] .d Tryz.f17 [⟨false,true,Gt,[.io,.io,.rd,.rd,.io,.rd,.io,.rd,.rd],none⟩,⟨false,false,.I .i64,
 [.rd],none⟩] [(false,.I .i64)] x=Zcb x:=by kernel_rfl
def Ygv:=eG Tryz.func17 (by kernel_rfl) Ylo
theorem Ylb x:fX [] [] (.sq none .d (.sq (some [.lt 1 (.I .i64)]) (.sq none .d (.bl (.lp [.kt 0,.lt 1 (.I .i64),.lt 5 (.I .i64)] .d))) .d)) Tryz.f178 [(false,.L .Y),
 (false,.I .i64)] [(false,.I .i64)] x=Nb x:=by kernel_rfl
def Zky:=eS Tryz.func178 (by kernel_rfl) Ylb
theorem Ylc x:fX [.see Zky] [] (.sq none .d (.sq (some [.lt 1 (.I .i64)]) (.sq none .d (.bl (.lp [.kt 0,.lt 1 (.I .i64),.lt 5 (.I .i64)] .d))) .d))
 Tryz.f136 [(false,txA),(false,.I .i64)] [(false,.I .i64)] x=Zb2 x:=by kernel_rfl
def Ygl:=eS Tryz.func136 (by kernel_rfl) Ylc
theorem Yli x:fX [.see Zky] [] (.sq none .d (.sq (some [.lt 1 (.I .i64)]) (.sq none .d (.bl (.lp [.kt 0,.lt 1 (.I .i64),.lt 5 (.I .i64)] .d))) .d)) Tryz.f137
 [(false,txF),(false,.I .i64)] [(false,.I .i64)] x=Zb7 x:=by kernel_rfl
def Ygr:=eS Tryz.func137 (by kernel_rfl) Yli
theorem Yld x:fX [.see Ygl,.see Ygr] [] .d Tryz.f62 [(true,txP),(false,.I .i64)] [(false,.I .i64)] x=Zb3 x:=by kernel_rfl
def Ygm:=eS Tryz.func62 (by kernel_rfl) Yld
theorem Ylf x:fX [.see Zta,.see Zky] [] (.sq none .d (.sq (some [.lt 1 (.I .i64)]) (.sq none .d (.bl (.lp [.kt 0,.lt 1 (.I .i64),.lt 5 (.I .i64)]
 .d))) .d)) Tryz.f109 [(false,txW),(false,.I .i64)] [(false,.I .i64)] x=Zb5 x:=by kernel_rfl
def Ygo:=eS Tryz.func109 (by kernel_rfl) Ylf
theorem Yle x:fX [] [] (.sq none .d (.sq (some [.lt 1 (.I .i64)]) (.sq none .d (.bl (.lp [.kt 0,.lt 1 (.I .i64),.lt 5 (.I .i64)] .d))) .d)) Tryz.f110 [(false,txI),
 (false,.I .i64)] [(false,.I .i64)] x=Zb4 x:=by kernel_rfl
def Ygn:=eS Tryz.func110 (by kernel_rfl) Yle
theorem Ylh x:fX [.see Ygo,.see Ygn] [] .d Tryz.f44 [(true,Fn),(false,.I .i64)] [(false,.I .i64)] x=Zb6 x:=by kernel_rfl
def Ygq:=eS Tryz.func44 (by kernel_rfl) Ylh
end
end Go.Vs
