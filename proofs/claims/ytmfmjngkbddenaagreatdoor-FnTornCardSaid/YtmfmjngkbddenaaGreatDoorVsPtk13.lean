import Derived.Test.YtmfmjngkbddenaaGreatDoorVsPtk12
set_option linter.all false
namespace Go.Vs
open Go.Proofs
set_option maxRecDepth 100000
noncomputable section
theorem Ymd x:fX [] [] .d Tryz.f175 [(true,txC),(true,txC)] [(false,.B)] x=Yf x:=by kernel_rfl
def Yhq:=eS Tryz.func175 (by kernel_rfl) Ymd
theorem Yme x:fX [.see Yhq] [] .d Tryz.f103 [(true,txU),(true,txU)] [(false,.B)] x=Yg x:=by kernel_rfl
def Yhr:=eS Tryz.func103 (by kernel_rfl) Yme
theorem Ymf x:fX [.see Yhr] [] (.sq none .d (.sq none .d (.sq (some [.kt 2,.kt 3]) (.sq none .d (.bl (.lp [.kt 2,.kt 3,.lt 5 (.I .i64)] .d))) (.sq none (.sq
 none .d (.bl (.lp [.kt 2,.kt 3,.lt 6 (.I .i64)] .d))) .d)))) Tryz.f40 [(true,Hb),(true,Hb)] [(false,.B)] x=Ux x:=by kernel_rfl
def Yhs:=eS Tryz.func40 (by kernel_rfl) Ymf
theorem Ymo x:fX [.cur Yiq,.gen Zt,.gen Yio,.gen Zur,.gen Od] [(12,.el (.I .i64))] .d Tryz.f45 [(false,.L .Y)] [(true,
 Je),(true,Db),(false,.I .i64)] x=Zc2 x:=by kernel_rfl
def Yhx:=eS Tryz.func45 (by kernel_rfl) Ymo
theorem Ykr x:fX [.see Zr,.see Zq,.see Gv,.see Mv] [(40,.sb)] (.sq none .d (.sq none .d (.sq none .d (.sq (some [.lt 1 (.I .i64),.kt
 4,.kt 5]) .d (.sq (some [.kt 4,.bx 5 [.O (.L .Y),.K,.K,.K]]) (.sq none .d (.bl (.lp [.kt 1,.kt 4,.bx 5 [.O (.L .Y),.K,.K,.K],.kt 18,.kt 19,.lt 20 (.I .i64)] (.sq
 none .d (.sq none .d (.sq (some [.kt 1,.kt 4,.bx 5 [.O (.L .Y),.K,.K,.K],.kt 18,.kt 19,.kt 20]) .d .d)))))) .d))))) Tryz.f47 [(true,txQ),(false,.I .i64)] [(true,txQ)]
 x=Xz x:=by kernel_rfl
def Ygx:=eS Tryz.func47 (by kernel_rfl) Ykr
end
end Go.Vs
