import Derived.Test.YtmfmjngkbddenaaGreatDoorProg
import Derived.Test.YtmfmjngkbddenaaGreatDoorVsPok2
set_option linter.all false
namespace Go.Vs
open Go.Proofs
set_option maxRecDepth 100000
noncomputable section
theorem Yfj x:fX [.see Fg] [] .d Tryz.f260 [(false,.I .i64),(false,.I .i64)] [(false,.I .i64),(false,.B)] x=Z3 x:=by kernel_rfl
def Ybh:=eS Tryz.func260 (by kernel_rfl) Yfj
theorem Yfd x:fX [.see Fg,.see Ybh] [] .d Tryz.f250 [(false,.L .Y),(false,.I .i64)] [(false,.I .i64),(false,.I .i64),(false,.B)] x=Z0 x
 := by kernel_rfl
def Ybd:=eS Tryz.func250 (by kernel_rfl) Yfd
theorem Yf9 x:fX [] [] .d Tryz.f241 [(false,.I .i64)] [(false,.I .i64)] x=Zme x:=by kernel_rfl
def Yb0:=eS Tryz.func241 (by kernel_rfl) Yf9
theorem Yf8 x:fX [] [(4,.el (.I .i64))] .d Tryz.f242 [(false,.I .i64)] [(false,.I .i64)] x=Zmd x:=by kernel_rfl
def Ybz:=eS Tryz.func242 (by kernel_rfl) Yf8
theorem Yga x:fX [] [(4,.el (.I .i64))] .d Tryz.f243 [(false,.I .i64)] [(false,.I .i64)] x=Zmf x:=by kernel_rfl
def Yb1:=eS Tryz.func243 (by kernel_rfl) Yga
theorem Ye8 x:fX [.see Fg,.see Yb0,.see Ybz,.see Yb1] [] (.sq none .d (.sq none .d (.sq none .d (.sq (some [.lt 6 (.I .i64)]) .d .d))))
 Tryz.f235 [(false,.I .i64),(false,.I .i64)] [(false,.I .i64),(false,.B)] x=Pq x:=by kernel_rfl
def Yba:=eS Tryz.func235 (by kernel_rfl) Ye8
theorem Ygc x:fX [.see Ybf,.see Ybd,.see Yba] [] .d Tryz.f238 [(false,.I .i64),(false,.L .Y),(false,.I .i64)] [(false,.I .i64),(false,.I
 .i64),(false,.B)] x=Z8 x:=by kernel_rfl
def Yb2:=eS Tryz.func238 (by kernel_rfl) Ygc
theorem Yfb x:fX [.see Zoz,.see Yb2,.see Zou] [(11,.el .Y)] (.sq none .d (.sq none .d (.sq none .d (.sq (some [.ot 6 .Y]) (.sq none .d (.bl (.lp [.kt
 0,.kt 1,.ot 6 .Y,.lt 7 (.I .i64)] .d))) .d)))) Tryz.f229 [(false,.I .i64),(false,.L .Y)] [(false,.S),(false,.B)] x=Zy x:=by kernel_rfl
def Ybb:=eS Tryz.func229 (by kernel_rfl) Yfb
theorem Yfa x:fX [.see Zoq,.see Ybb] [] .d Tryz.f214 [(true,txC)] [(false,.S),(false,.B)] x=Hs x:=by kernel_rfl
def Zor:=eS Tryz.func214 (by kernel_rfl) Yfa
theorem Yfp x:fX [.see Zor] [] .d Tryz.f216 [(true,txC),(true,txC)] [(false,.B)] x=Bo x:=by kernel_rfl
def Ybl:=eS Tryz.func216 (by kernel_rfl) Yfp
theorem Yfo x:fX [.see Zot,.see Fg,.see Zo3,.see Zo2,.see Zo1,.see Zor,.see Zoq,.see Ybl] [] .d Tryz.f171
 [(true,txT)] [(false,.B)] x=Pr x:=by kernel_rfl
def Zow:=eS Tryz.func171 (by kernel_rfl) Yfo
theorem Yf6 x:fX [.see Fg] [] .d Tryz.f184 [(false,.I .i64)] [(false,.B)] x=Vg x:=by kernel_rfl
def Zoy:=eS Tryz.func184 (by kernel_rfl) Yf6
theorem Yf1 x:fX [.see Fg,.see Zoy] [] .d Tryz.f172 [(true,txH)] [(false,.B)] x=Vd x:=by kernel_rfl
def Ybu:=eS Tryz.func172 (by kernel_rfl) Yf1
theorem Yfs x:fX [.see Zow,.see Ybu,.see Fg] [] (.sq none .d (.sq (some [.kt 1]) (.sq none .d (.bl (.lp [.kt 1,.lt 3 (.I .i64)] .d))) (.sq (some [.kt
 1]) (.sq none .d (.bl (.lp [.kt 1,.lt 4 (.I .i64)] .d))) .d))) Tryz.f100 [(true,F2)] [(false,.B)] x=Ry x:=by kernel_rfl
def Ybn:=eS Tryz.func100 (by kernel_rfl) Yfs
end
end Go.Vs
