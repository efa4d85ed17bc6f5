import Derived.Test.YtmfmjngkbddenaaGreatDoorProg
import Derived.Test.YtmfmjngkbddenaaGreatDoorVsPok5
set_option linter.all false
namespace Go.Vs
open Go.Proofs
set_option maxRecDepth 100000
noncomputable section
theorem Ygw x:fX [.see Zic] [(8,.el txH),(11,.el txH),(24,.el txT),(25,.el txT)] (.sq none .d (.sq none .d (.sq (some [.kt 2,.bx 3 [.O txT,.K,.K]]) (.sq
 none .d (.bl (.lp [.kt 2,.bx 3 [.O txT,.K,.K],.kt 14,.kt 15,.lt 16 (.I .i64)] .d))) .d))) Tryz.f111 [(true,E3)] [(true,E3)] x=Se x:=by kernel_rfl
def Zql:=eS Tryz.func111 (by kernel_rfl) Ygw
theorem Ygv x:fX [.see Zib,.see Zql] [] .d Tryz.f55 [(true,Ef)] [(true,Ef)] x=Sd x:=by kernel_rfl
def Zqk:=eS Tryz.func55 (by kernel_rfl) Ygv
theorem Yg4 x:fX [] [] .d Tryz.f210 [(true,txC),(true,txC)] [(false,.B)] x=Jf x:=by kernel_rfl
def Zqn:=eS Tryz.func210 (by kernel_rfl) Yg4
theorem Yg5 x:fX [.see Zqn] [] .d Tryz.f179 [(true,txT),(true,txT)] [(false,.B)] x=Zw x:=by kernel_rfl
def Ycg:=eS Tryz.func179 (by kernel_rfl) Yg5
theorem Yhb x:fX [] [] .d Tryz.f89 [(false,.I .i64),(false,.I .i64),(false,.I .i64)] [(false,.B)] x=Cw x:=by kernel_rfl
def H9:=eS Tryz.func89 (by kernel_rfl) Yhb
theorem Ygb x:fX [.see H9] [] (.sq none .d (.sq (some [.kt 0]) (.sq none .d (.bl (.lp [.kt 0,.lt 3 (.I .i64)] .d))) .d)) Tryz.f180 [(false,.S)] [(false,.B)] x =
 Vk x:=by kernel_rfl
def Zqb:=eS Tryz.func180 (by kernel_rfl) Ygb
theorem Ygy x:fX [.see H9] [] .d Tryz.f228 [(false,.I .i64)] [(false,.B)] x=Zu x:=by kernel_rfl
def Zqm:=eS Tryz.func228 (by kernel_rfl) Ygy
theorem Yf2 x:fX [.see Zqm] [] .d Tryz.f211 [(true,txC)] [(false,.B)] x=Vh x:=by kernel_rfl
def Zp8:=eS Tryz.func211 (by kernel_rfl) Yf2
theorem Ykm x:fX [] [] .d Tryz.f262 [(false,.L .Y)] [(false,.I .i32),(false,.I .i64)] x=Me x:=by kernel_rfl
def Yez:=eS Tryz.func262 (by kernel_rfl) Ykm
theorem Ykk x:fX [.see Yez] [] (.sq none .d (.sq (some [.kt 0]) (.sq none .d (.bl (.lp [.kt 0,.kt 6,.kt 7,.lt 8 (.I .i64)] .d))) .d)) Tryz.f253
 [(false,.L .Y)] [(false,.I .i32),(false,.I .i64)] x=Za7 x:=by kernel_rfl
def Yex:=eS Tryz.func253 (by kernel_rfl) Ykk
theorem Yf8 x:fX [.see Yex] [] .d Tryz.f244 [(false,.L .Y),(false,.I .i64)] [(false,.I .i64),(false,.I .i64),(false,.B)] x=Zr x:=by
 kernel_rfl
def Yb2:=eS Tryz.func244 (by kernel_rfl) Yf8
theorem Ygc x:fX [.see H9] [] .d Tryz.f254 [(false,.I .i64),(false,.I .i64)] [(false,.I .i64),(false,.B)] x=Zfx x:=by kernel_rfl
def Yb5:=eS Tryz.func254 (by kernel_rfl) Ygc
theorem Yf6 x:fX [.see Yb5] [] .d Tryz.f245 [(false,.L .Y),(false,.I .i64)] [(false,.I .i64),(false,.I .i64),(false,.B)] x=Zq x:=by
 kernel_rfl
def Yb1:=eS Tryz.func245 (by kernel_rfl) Yf6
theorem Yg3 x:fX [] [] .d Tryz.f255 [(false,.I .i64)] [(false,.I .i64)] x=Zoc x:=by kernel_rfl
def Ycf:=eS Tryz.func255 (by kernel_rfl) Yg3
end
end Go.Vs
