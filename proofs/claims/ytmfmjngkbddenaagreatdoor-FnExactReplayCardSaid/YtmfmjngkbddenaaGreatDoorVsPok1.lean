import Derived.Test.YtmfmjngkbddenaaGreatDoorProg
import Derived.Test.YtmfmjngkbddenaaGreatDoorVsPok0
set_option linter.all false
namespace Go.Vs
open Go.Proofs
set_option maxRecDepth 100000
noncomputable section
theorem Ye5 x:fX [.see Zop] [] .d Tryz.f143 [(true,txC)] [(true,txC)] x=Zv x:=by kernel_rfl
def Ya7:=eS Tryz.func143 (by kernel_rfl) Ye5
theorem Ye6 x:fX [.see Ya7] [(7,.el txC)] (.sq none .d (.sq none .d (.sq (some [.sr 3 txC]) (.sq none .d (.bl (.lp [.kt 0,.sr 3 txC,.lt 4 (.I .i64)] .d))) .d)))
 Tryz.f69 [(false,txF)] [(false,txF)] x=Zw x:=by kernel_rfl
def Ya8:=eS Tryz.func69 (by kernel_rfl) Ye6
theorem Ye4 x:fX [.see Ya5,.see Ya8] [] .d Tryz.f22 [(true,txP)] [(true,txP)] x=Pp x:=by kernel_rfl
def Ya6:=eS Tryz.func22 (by kernel_rfl) Ye4
theorem Ygd x:fX [] [(5,.el .Y),(8,.el .Y)] .d Tryz.f217 [(true,txC)] [(true,txC)] x=Vi x:=by kernel_rfl
def Yb3:=eS Tryz.func217 (by kernel_rfl) Ygd
theorem Yge x:fX [.see Yb3] [] .d Tryz.f182 [(true,txT)] [(true,txT)] x=Pu x:=by kernel_rfl
def Zo0:=eS Tryz.func182 (by kernel_rfl) Yge
end
end Go.Vs
