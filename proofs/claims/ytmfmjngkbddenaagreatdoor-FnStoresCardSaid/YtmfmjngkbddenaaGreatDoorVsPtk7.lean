import Derived.Test.YtmfmjngkbddenaaGreatDoorProg
import Derived.Test.YtmfmjngkbddenaaGreatDoorVsPtk6
set_option linter.all false
namespace Go.Vs
open Go.Proofs
set_option maxRecDepth 100000
noncomputable section
theorem Yk4 x:fX [.see Ygv] [] .d Tryz.f168 [(true,txU)] [(true,txU)] x=Pz x:=by kernel_rfl
def Zla:=eS Tryz.func168 (by kernel_rfl) Yk4
theorem Yk6 x:fX [.see Zla] [(8,.el txI),(11,.el txI),(24,.el txU),(25,.el txU)] (.sq none .d (.sq none .d (.sq (some [.kt 2,.bx 3 [.O txU,.K,.K]]) (.sq
 none .d (.bl (.lp [.kt 2,.bx 3 [.O txU,.K,.K],.kt 14,.kt 15,.lt 16 (.I .i64)] .d))) .d))) Tryz.f111 [(true,G8)] [(true,G8)] x=Ul x:=by kernel_rfl
def Ztw:=eS Tryz.func111 (by kernel_rfl) Yk6
theorem Yk5 x:fX [.see Zg,.see Ztw] [] .d Tryz.f55 [(true,Jc)] [(true,Jc)] x=Uk x:=by kernel_rfl
def Ztv:=eS Tryz.func55 (by kernel_rfl) Yk5
theorem Yle x:fX [] [] .d Tryz.f210 [(true,txC),(true,txC)] [(false,.B)] x=Lo x:=by kernel_rfl
def Zty:=eS Tryz.func210 (by kernel_rfl) Yle
theorem Ylf x:fX [.see Zty] [] .d Tryz.f179 [(true,txU),(true,txU)] [(false,.B)] x=Zco x:=by kernel_rfl
def Yg0:=eS Tryz.func179 (by kernel_rfl) Ylf
theorem Ylr x:fX [] [] .d Tryz.f89 [(false,.I .i64),(false,.I .i64),(false,.I .i64)] [(false,.B)] x=Cm x:=by kernel_rfl
def Gt:=eS Tryz.func89 (by kernel_rfl) Ylr
theorem Yki x:fX [.see Gt] [] (.sq none .d (.sq (some [.kt 0]) (.sq none .d (.bl (.lp [.kt 0,.lt 3 (.I .i64)] .d))) .d)) Tryz.f180 [(false,.S)] [(false,.B)] x =
 Xt x:=by kernel_rfl
def Ztn:=eS Tryz.func180 (by kernel_rfl) Yki
theorem Yk8 x:fX [.see Gt] [] .d Tryz.f228 [(false,.I .i64)] [(false,.B)] x=Zcm x:=by kernel_rfl
def Ztx:=eS Tryz.func228 (by kernel_rfl) Yk8
theorem Yj4 x:fX [.see Ztx] [] .d Tryz.f211 [(true,txC)] [(false,.B)] x=Xn x:=by kernel_rfl
def Ztj:=eS Tryz.func211 (by kernel_rfl) Yj4
theorem Yn7 x:fX [] [] .d Tryz.f262 [(false,.L .Y)] [(false,.I .i32),(false,.I .i64)] x=Nz x:=by kernel_rfl
def Yis:=eS Tryz.func262 (by kernel_rfl) Yn7
theorem Yn5 x:fX [.see Yis] [] (.sq none .d (.sq (some [.kt 0]) (.sq none .d (.bl (.lp [.kt 0,.kt 6,.kt 7,.lt 8 (.I .i64)] .d))) .d)) Tryz.f253
 [(false,.L .Y)] [(false,.I .i32),(false,.I .i64)] x=Zdd x:=by kernel_rfl
def Yiq:=eS Tryz.func253 (by kernel_rfl) Yn5
theorem Ykd x:fX [.see Yiq] [] .d Tryz.f244 [(false,.L .Y),(false,.I .i64)] [(false,.I .i64),(false,.I .i64),(false,.B)] x=Zci x:=by
 kernel_rfl
def Ygl:=eS Tryz.func244 (by kernel_rfl) Ykd
theorem Ykk x:fX [.see Gt] [] .d Tryz.f254 [(false,.I .i64),(false,.I .i64)] [(false,.I .i64),(false,.B)] x=Ziu x:=by kernel_rfl
def Ygp:=eS Tryz.func254 (by kernel_rfl) Ykk
theorem Yj8 x:fX [.see Ygp] [] .d Tryz.f245 [(false,.L .Y),(false,.I .i64)] [(false,.I .i64),(false,.I .i64),(false,.B)] x=Zch x:=by
 kernel_rfl
def Ygh:=eS Tryz.func245 (by kernel_rfl) Yj8
end
end Go.Vs
