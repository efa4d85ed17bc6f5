import Derived.Test.YtmfmjngkbddenaaGreatDoorVsPtk6
set_option linter.all false
namespace Go.Vs
open Go.Proofs
set_option maxRecDepth 100000
noncomputable section
theorem Ylm x:fX [.see Yhb] [] .d Tryz.f168 [(true,txU)] [(true,txU)] x=P1 x:=by kernel_rfl
def Zln:=eS Tryz.func168 (by kernel_rfl) Ylm
theorem Ylo x:fX [.see Zln] [(8,.el txI),(11,.el txI),(24,.el txU),(25,.el txU)] (.sq none .d (.sq none .d (.sq (some [.kt 2,.bx 3 [.O txU,.K,.K]]) (.sq
 none .d (.bl (.lp [.kt 2,.bx 3 [.O txU,.K,.K],.kt 14,.kt 15,.lt 16 (.I .i64)] .d))) .d))) Tryz.f111 [(true,Hb)] [(true,Hb)] x=Uu x:=by kernel_rfl
def Zue:=eS Tryz.func111 (by kernel_rfl) Ylo
theorem Yln x:fX [.see Zr,.see Zue] [] .d Tryz.f55 [(true,Je)] [(true,Je)] x=Ut x:=by kernel_rfl
def Zud:=eS Tryz.func55 (by kernel_rfl) Yln
theorem Ylw x:fX [] [] .d Tryz.f210 [(true,txC),(true,txC)] [(false,.B)] x=Lo x:=by kernel_rfl
def Zug:=eS Tryz.func210 (by kernel_rfl) Ylw
theorem Ylx x:fX [.see Zug] [] .d Tryz.f179 [(true,txU),(true,txU)] [(false,.B)] x=Zcx x:=by kernel_rfl
def Yhg:=eS Tryz.func179 (by kernel_rfl) Ylx
theorem Yl9 x:fX [] [] .d Tryz.f89 [(false,.I .i64),(false,.I .i64),(false,.I .i64)] [(false,.B)] x=Cq x:=by kernel_rfl
def Gv:=eS Tryz.func89 (by kernel_rfl) Yl9
theorem Yk0 x:fX [.see Gv] [] (.sq none .d (.sq (some [.kt 0]) (.sq none .d (.bl (.lp [.kt 0,.lt 3 (.I .i64)] .d))) .d)) Tryz.f180 [(false,.S)] [(false,.B)] x =
 X8 x:=by kernel_rfl
def Zt6:=eS Tryz.func180 (by kernel_rfl) Yk0
theorem Ylq x:fX [.see Gv] [] .d Tryz.f228 [(false,.I .i64)] [(false,.B)] x=Zcv x:=by kernel_rfl
def Zuf:=eS Tryz.func228 (by kernel_rfl) Ylq
theorem Ykm x:fX [.see Zuf] [] .d Tryz.f211 [(true,txC)] [(false,.B)] x=Xy x:=by kernel_rfl
def Zt1:=eS Tryz.func211 (by kernel_rfl) Ykm
theorem Yoq x:fX [] [] .d Tryz.f262 [(false,.L .Y)] [(false,.I .i32),(false,.I .i64)] x=N1 x:=by kernel_rfl
def Yi9:=eS Tryz.func262 (by kernel_rfl) Yoq
theorem Yoo x:fX [.see Yi9] [] (.sq none .d (.sq (some [.kt 0]) (.sq none .d (.bl (.lp [.kt 0,.kt 6,.kt 7,.lt 8 (.I .i64)] .d))) .d)) Tryz.f253
 [(false,.L .Y)] [(false,.I .i32),(false,.I .i64)] x=Zdm x:=by kernel_rfl
def Yi7:=eS Tryz.func253 (by kernel_rfl) Yoo
theorem Ykv x:fX [.see Yi7] [] .d Tryz.f244 [(false,.L .Y),(false,.I .i64)] [(false,.I .i64),(false,.I .i64),(false,.B)] x=Zcr x:=by
 kernel_rfl
def Yg0:=eS Tryz.func244 (by kernel_rfl) Ykv
theorem Yk2 x:fX [.see Gv] [] .d Tryz.f254 [(false,.I .i64),(false,.I .i64)] [(false,.I .i64),(false,.B)] x=Zi5 x:=by kernel_rfl
def Yg4:=eS Tryz.func254 (by kernel_rfl) Yk2
theorem Ykq x:fX [.see Yg4] [] .d Tryz.f245 [(false,.L .Y),(false,.I .i64)] [(false,.I .i64),(false,.I .i64),(false,.B)] x=Zcq x:=by
 kernel_rfl
def Ygw:=eS Tryz.func245 (by kernel_rfl) Ykq
end
end Go.Vs
