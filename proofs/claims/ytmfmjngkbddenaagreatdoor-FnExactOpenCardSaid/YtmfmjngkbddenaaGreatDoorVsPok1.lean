import Derived.Test.YtmfmjngkbddenaaGreatDoorProg
import Derived.Test.YtmfmjngkbddenaaGreatDoorVsPok0
set_option linter.all false
namespace Go.Vs
open Go.Proofs
set_option maxRecDepth 100000
noncomputable section
theorem Yl0 x:fX [.see Ztc] [] .d Tryz.f143 [(true,txC)] [(true,txC)] x=Zch x:=by kernel_rfl
def Yg4:=eS Tryz.func143 (by kernel_rfl) Yl0
theorem Yl1 x:fX [.see Yg4] [(7,.el txC)] (.sq none .d (.sq none .d (.sq (some [.sr 3 txC]) (.sq none .d (.bl (.lp [.kt 0,.sr 3 txC,.lt 4 (.I .i64)] .d))) .d)))
 Tryz.f69 [(false,txF)] [(false,txF)] x=Zci x:=by kernel_rfl
def Yg5:=eS Tryz.func69 (by kernel_rfl) Yl1
theorem Ylz x:fX [.see Yg2,.see Yg5] [] .d Tryz.f22 [(true,txP)] [(true,txP)] x=Rg x:=by kernel_rfl
def Yg3:=eS Tryz.func22 (by kernel_rfl) Ylz
theorem Ymy x:fX [] [(20,.el .Y),(26,.el .Y),(27,.el (.L .Y)),(28,.el (.L .Y)),(45,.el .Y),(52,.el .Y),(54,.el txC),(55,.el txC)] (.sq none .d (.sq none .d
 (.sq (some [.kt 1,.kt 2,.bx 3 [.O (.L .Y),.K,.K,.K]]) (.sq none .d (.bl (.lp [.kt 1,.kt 2,.bx 3 [.O (.L .Y),.K,.K,.K],.lt 4 (.I .i64)] .d))) (.sq (some [.kt 2,.bx 3
 [.K,.O txC,.K,.K]]) (.sq none .d (.bl (.lp [.kt 1,.kt 2,.bx 3 [.K,.O txC,.K,.K],.lt 5 (.I .i64)] .d))) .d)))) Tryz.f67 [(true,txP)] [(true,txP)] x=Ud x :=
 by kernel_rfl
def Ztm:=eS Tryz.func67 (by kernel_rfl) Ymy
theorem Ynp x:fX [] [(5,.el .Y),(8,.el .Y)] .d Tryz.f217 [(true,txC)] [(true,txC)] x=Xz x:=by kernel_rfl
def Yh7:=eS Tryz.func217 (by kernel_rfl) Ynp
theorem Ynq x:fX [.see Yh7] [] .d Tryz.f182 [(true,txT)] [(true,txT)] x=Pj x:=by kernel_rfl
def Zk7:=eS Tryz.func182 (by kernel_rfl) Ynq
end
end Go.Vs
