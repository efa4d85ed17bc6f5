import Derived.Test.YtmfmjngkbddenaaGreatDoorProg
import Derived.Test.YtmfmjngkbddenaaGreatDoorVsPok5
set_option linter.all false
namespace Go.Vs
open Go.Proofs
set_option maxRecDepth 100000
noncomputable section
theorem Ydp x:fX [.see Zoi] [(8,.el txH),(11,.el txH),(24,.el txT),(25,.el txT)] (.sq none .d (.sq none .d (.sq (some [.kt 2,.bx 3 [.O txT,.K,.K]]) (.sq
 none .d (.bl (.lp [.kt 2,.bx 3 [.O txT,.K,.K],.kt 14,.kt 15,.lt 16 (.I .i64)] .d))) .d))) Tryz.f111 [(true,F2)] [(true,F2)] x=U2 x:=by kernel_rfl
def Zz4:=eS Tryz.func111 (by kernel_rfl) Ydp
theorem Ydv x:fX [] [] .d Tryz.f210 [(true,txC),(true,txC)] [(false,.B)] x=I6 x:=by kernel_rfl
def Zol:=eS Tryz.func210 (by kernel_rfl) Ydv
theorem Ydw x:fX [.see Zol] [] .d Tryz.f179 [(true,txT),(true,txT)] [(false,.B)] x=Za x:=by kernel_rfl
def Zz7:=eS Tryz.func179 (by kernel_rfl) Ydw
theorem Yd8 x:fX [] [] .d Tryz.f89 [(false,.I .i64),(false,.I .i64),(false,.I .i64)] [(false,.B)] x=De x:=by kernel_rfl
def Ih:=eS Tryz.func89 (by kernel_rfl) Yd8
theorem Ydc x:fX [.see Ih] [] (.sq none .d (.sq (some [.kt 0]) (.sq none .d (.bl (.lp [.kt 0,.lt 3 (.I .i64)] .d))) .d)) Tryz.f180 [(false,.S)] [(false,.B)] x =
 Uz x:=by kernel_rfl
def Zog:=eS Tryz.func180 (by kernel_rfl) Ydc
theorem Ydq x:fX [.see Ih] [] .d Tryz.f228 [(false,.I .i64)] [(false,.B)] x=Y9 x:=by kernel_rfl
def Zoj:=eS Tryz.func228 (by kernel_rfl) Ydq
theorem Yc3 x:fX [.see Zoj] [] .d Tryz.f211 [(true,txC)] [(false,.B)] x=Uv x:=by kernel_rfl
def Zod:=eS Tryz.func211 (by kernel_rfl) Yc3
theorem Ygn x:fX [] [] .d Tryz.f262 [(false,.L .Y)] [(false,.I .i32),(false,.I .i64)] x=L3 x:=by kernel_rfl
def Yb9:=eS Tryz.func262 (by kernel_rfl) Ygn
theorem Ygl x:fX [.see Yb9] [] (.sq none .d (.sq (some [.kt 0]) (.sq none .d (.bl (.lp [.kt 0,.kt 6,.kt 7,.lt 8 (.I .i64)] .d))) .d)) Tryz.f253
 [(false,.L .Y)] [(false,.I .i32),(false,.I .i64)] x=Zaa x:=by kernel_rfl
def Yb7:=eS Tryz.func253 (by kernel_rfl) Ygl
theorem Yc9 x:fX [.see Yb7] [] .d Tryz.f244 [(false,.L .Y),(false,.I .i64)] [(false,.I .i64),(false,.I .i64),(false,.B)] x=Y5 x:=by
 kernel_rfl
def Zzt:=eS Tryz.func244 (by kernel_rfl) Yc9
theorem Ydd x:fX [.see Ih] [] .d Tryz.f254 [(false,.I .i64),(false,.I .i64)] [(false,.I .i64),(false,.B)] x=Zeu x:=by kernel_rfl
def Zzv:=eS Tryz.func254 (by kernel_rfl) Ydd
theorem Yc7 x:fX [.see Zzv] [] .d Tryz.f245 [(false,.L .Y),(false,.I .i64)] [(false,.I .i64),(false,.I .i64),(false,.B)] x=Y4 x:=by
 kernel_rfl
def Zzr:=eS Tryz.func245 (by kernel_rfl) Yc7
theorem Ydu x:fX [] [] .d Tryz.f255 [(false,.I .i64)] [(false,.I .i64)] x=Zl9 x:=by kernel_rfl
def Zz6:=eS Tryz.func255 (by kernel_rfl) Ydu
end
end Go.Vs
