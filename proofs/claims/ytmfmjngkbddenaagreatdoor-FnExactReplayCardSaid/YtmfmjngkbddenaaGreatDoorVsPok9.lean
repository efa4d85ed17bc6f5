import Derived.Test.YtmfmjngkbddenaaGreatDoorProg
import Derived.Test.YtmfmjngkbddenaaGreatDoorVsPok8
set_option linter.all false
namespace Go.Vs
open Go.Proofs
set_option maxRecDepth 100000
noncomputable section
theorem Ydl x:fX [] [] (.sq none .d (.sq none .d (.sq (some [.lt 3 (.I .i64)]) (.sq none .d (.bl (.lp [.lt 3 (.I .i64),.kt 6,.kt 7,.lt 8 (.I .i64)] (.sq none .d (.sq none
 .d (.sq (some [.lt 3 (.I .i64),.kt 6,.kt 7,.kt 8]) (.bl (.sq none .d (.sq none .d (.sq none .d (.bl (.lp [.lt 3 (.I .i64),.kt 6,.kt 7,.kt 8,.lt 17 (.I .i64)] (.sq none .d
 (.sq none .d (.sq (some [.lt 3 (.I .i64),.kt 6,.kt 7,.kt 8,.kt 17]) .d .d))))))))) .d)))))) .d))) Tryz.f133 [(false,.L .Y)] [(false,.I .i64)] x=Zex x:=by kernel_rfl
def Zz1:=eS Tryz.func133 (by kernel_rfl) Ydl
theorem Yea x:fX [] [] (.sq none .d (.sq none .d (.sq none (.sq none .d (.bl (.lp [.kt 0,.kt 1,.lt 5 (.I .i64)] .d))) .d))) Tryz.f146 [(false,.L .Y),(false,.L .Y)]
 [(false,.B)] x=Po x:=by kernel_rfl
def Zg2:=eS Tryz.func146 (by kernel_rfl) Yea
theorem Yeb x:fX [.see Zg2] [] (.sq none .d (.sq none .d (.sq none (.sq none .d (.bl (.lp [.kt 0,.kt 1,.lt 5 (.I .i64)] .d))) .d))) Tryz.f73 [(false,txA),
 (false,txA)] [(false,.B)] x=Zd x:=by kernel_rfl
def Yah:=eS Tryz.func73 (by kernel_rfl) Yeb
theorem Yej x:fX [.see Zg2] [] .d Tryz.f147 [(true,txC),(true,txC)] [(false,.B)] x=Zi x:=by kernel_rfl
def Yap:=eS Tryz.func147 (by kernel_rfl) Yej
theorem Yek x:fX [.see Yap] [] (.sq none .d (.sq none .d (.sq none (.sq none .d (.bl (.lp [.kt 0,.kt 1,.lt 5 (.I .i64)] .d))) .d))) Tryz.f74 [(false,txF),(false,
 txF)] [(false,.B)] x=Zj x:=by kernel_rfl
def Yaq:=eS Tryz.func74 (by kernel_rfl) Yek
end
end Go.Vs
