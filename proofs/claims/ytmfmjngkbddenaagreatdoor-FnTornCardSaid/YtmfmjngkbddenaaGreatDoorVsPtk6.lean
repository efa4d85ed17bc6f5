import Derived.Test.YtmfmjngkbddenaaGreatDoorVsPtk5
set_option linter.all false
namespace Go.Vs
open Go.Proofs
set_option maxRecDepth 100000
noncomputable section
theorem Yls x:fX [] [(6,.el .Y),(15,.el .Y)] (.sq none .d (.sq none .d (.sq (some [.ot 3 .Y]) (.sq none .d (.bl (.lp [.ot 3 .Y,.kt 7,.kt 8,.lt 9 (.I .i64)] .d)))
 .d))) Tryz.f117 [(false,txA)] [(false,.L .Y)] x=Fv x:=by kernel_rfl
def Mv:=eS Tryz.func117 (by kernel_rfl) Yls
theorem Yll x:fX [.see Mv] [(23,.sb),(25,.el (.L .Y)),(26,.el (.L .Y)),(42,.sb),(45,.el txC),(46,.el txC)] (.sq none .d (.sq none .d (.sq (some [.kt 1,
 .kt 2,.bx 3 [.O (.L .Y),.K,.K,.K]]) (.sq none .d (.bl (.lp [.kt 1,.kt 2,.bx 3 [.O (.L .Y),.K,.K,.K],.kt 14,.kt 15,.lt 16 (.I .i64)] .d))) (.sq (some [.kt 2,.bx 3
 [.K,.O txC,.K,.K]]) (.sq none .d (.bl (.lp [.kt 2,.bx 3 [.K,.O txC,.K,.K],.kt 30,.kt 31,.lt 32 (.I .i64)] .d))) .d)))) Tryz.f72 [(true,txQ)] [(true,txQ)] x =
 J2 x:=by kernel_rfl
def Zr:=eS Tryz.func72 (by kernel_rfl) Yll
theorem Ylk x:fX [.see Mv] [(7,.sb)] .d Tryz.f208 [(true,txC)] [(true,txC)] x=Yd x:=by kernel_rfl
def Yhb:=eS Tryz.func208 (by kernel_rfl) Ylk
end
end Go.Vs
