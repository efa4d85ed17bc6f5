import Derived.Test.YtmfmjngkbddenaaGreatDoorProg
import Derived.Test.YtmfmjngkbddenaaGreatDoorVsPok5
set_option linter.all false
namespace Go.Vs
open Go.Proofs
set_option maxRecDepth 100000
noncomputable section
theorem Ykc x:fX [.see Zks] [(8,.el txH),(11,.el txH),(24,.el txT),(25,.el txT)] (.sq none .d (.sq none .d (.sq (some [.kt 2,.bx 3 [.O txT,.K,.K]]) (.sq
 none .d (.bl (.lp [.kt 2,.bx 3 [.O txT,.K,.K],.kt 14,.kt 15,.lt 16 (.I .i64)] .d))) .d))) Tryz.f111 [(true,Fn)] [(true,Fn)] x=T2 x:=by kernel_rfl
def Zs3:=eS Tryz.func111 (by kernel_rfl) Ykc
theorem Ykb x:fX [.see Zer,.see Zs3] [] .d Tryz.f55 [(true,Gt)] [(true,Gt)] x=Zig x:=by kernel_rfl
def Yfy:=eS Tryz.func55 (by kernel_rfl) Ykb
theorem Ykk x:fX [] [] .d Tryz.f210 [(true,txC),(true,txC)] [(false,.B)] x=K5 x:=by kernel_rfl
def Zs5:=eS Tryz.func210 (by kernel_rfl) Ykk
theorem Ykl x:fX [.see Zs5] [] .d Tryz.f179 [(true,txT),(true,txT)] [(false,.B)] x=Zbu x:=by kernel_rfl
def Yf3:=eS Tryz.func179 (by kernel_rfl) Ykl
theorem Ykx x:fX [] [] .d Tryz.f89 [(false,.I .i64),(false,.I .i64),(false,.I .i64)] [(false,.B)] x=Cu x:=by kernel_rfl
def G1:=eS Tryz.func89 (by kernel_rfl) Ykx
theorem Yjo x:fX [.see G1] [] (.sq none .d (.sq (some [.kt 0]) (.sq none .d (.bl (.lp [.kt 0,.lt 3 (.I .i64)] .d))) .d)) Tryz.f180 [(false,.S)] [(false,.B)] x =
 W9 x:=by kernel_rfl
def Zsx:=eS Tryz.func180 (by kernel_rfl) Yjo
theorem Yke x:fX [.see G1] [] .d Tryz.f228 [(false,.I .i64)] [(false,.B)] x=Zbs x:=by kernel_rfl
def Zs4:=eS Tryz.func228 (by kernel_rfl) Yke
theorem Yjb x:fX [.see Zs4] [] .d Tryz.f211 [(true,txC)] [(false,.B)] x=W3 x:=by kernel_rfl
def Zsu:=eS Tryz.func211 (by kernel_rfl) Yjb
theorem Ynz x:fX [] [] .d Tryz.f262 [(false,.L .Y)] [(false,.I .i32),(false,.I .i64)] x=Nj x:=by kernel_rfl
def Yid:=eS Tryz.func262 (by kernel_rfl) Ynz
theorem Ynx x:fX [.see Yid] [] (.sq none .d (.sq (some [.kt 0]) (.sq none .d (.bl (.lp [.kt 0,.kt 6,.kt 7,.lt 8 (.I .i64)] .d))) .d)) Tryz.f253
 [(false,.L .Y)] [(false,.I .i32),(false,.I .i64)] x=Zcw x:=by kernel_rfl
def Yib:=eS Tryz.func253 (by kernel_rfl) Ynx
theorem Yjj x:fX [.see Yib] [] .d Tryz.f244 [(false,.L .Y),(false,.I .i64)] [(false,.I .i64),(false,.I .i64),(false,.B)] x=Zbo x:=by
 kernel_rfl
def Yfj:=eS Tryz.func244 (by kernel_rfl) Yjj
theorem Yjq x:fX [.see G1] [] .d Tryz.f254 [(false,.I .i64),(false,.I .i64)] [(false,.I .i64),(false,.B)] x=Zid x:=by kernel_rfl
def Yfo:=eS Tryz.func254 (by kernel_rfl) Yjq
theorem Yjf x:fX [.see Yfo] [] .d Tryz.f245 [(false,.L .Y),(false,.I .i64)] [(false,.I .i64),(false,.I .i64),(false,.B)] x=Zbn x:=by
 kernel_rfl
def Yff:=eS Tryz.func245 (by kernel_rfl) Yjf
theorem Ykj x:fX [] [] .d Tryz.f255 [(false,.I .i64)] [(false,.I .i64)] x=Zqq x:=by kernel_rfl
def Yf2:=eS Tryz.func255 (by kernel_rfl) Ykj
end
end Go.Vs
