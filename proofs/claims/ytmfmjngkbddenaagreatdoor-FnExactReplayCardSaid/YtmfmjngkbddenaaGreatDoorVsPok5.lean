import Derived.Test.YtmfmjngkbddenaaGreatDoorProg
import Derived.Test.YtmfmjngkbddenaaGreatDoorVsPok4
set_option linter.all false
namespace Go.Vs
open Go.Proofs
set_option maxRecDepth 100000
noncomputable section
theorem Yfr x:fX [] [] (.sq none .d (.sq none .d (.sq (some [.lt 3 (.I .i64)]) (.sq none .d (.bl (.lp [.kt 0,.lt 3 (.I .i64),.lt 4 (.I .i64)] (.sq none .d (.sq (some [.kt
 0,.lt 3 (.I .i64),.kt 4]) (.bl (.sq none .d (.sq none .d (.bl (.lp [.kt 0,.lt 3 (.I .i64),.kt 4,.lt 5 (.I .i64)] (.sq none .d (.sq (some [.kt 0,.lt 3 (.I .i64),.kt 4,.kt
 5]) .d .d))))))) .d))))) .d))) Tryz.f141 [(false,.L .Y)] [(false,.I .i64)] x=Z5 x:=by kernel_rfl
def Ybm:=eS Tryz.func141 (by kernel_rfl) Yfr
section
set_option maxHeartbeats 1000000
set_option maxRecDepth 4000
end
theorem Yds x:fX [] [(6,.el .Y),(15,.el .Y)] (.sq none .d (.sq none .d (.sq (some [.ot 3 .Y]) (.sq none .d (.bl (.lp [.ot 3 .Y,.kt 7,.kt 8,.lt 9 (.I .i64)] .d)))
 .d))) Tryz.f117 [(false,txA)] [(false,.L .Y)] x=Pm x:=by kernel_rfl
def Zgz:=eS Tryz.func117 (by kernel_rfl) Yds
theorem Ydn x:fX [.see Zgz] [(7,.sb)] .d Tryz.f208 [(true,txC)] [(true,txC)] x=U1 x:=by kernel_rfl
def Zz3:=eS Tryz.func208 (by kernel_rfl) Ydn
theorem Ydo x:fX [.see Zz3] [] .d Tryz.f168 [(true,txT)] [(true,txT)] x=Pk x:=by kernel_rfl
def Zoi:=eS Tryz.func168 (by kernel_rfl) Ydo
end
end Go.Vs
