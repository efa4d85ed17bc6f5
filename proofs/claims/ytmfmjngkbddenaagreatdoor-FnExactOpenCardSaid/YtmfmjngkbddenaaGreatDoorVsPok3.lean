import Derived.Test.YtmfmjngkbddenaaGreatDoorProg
import Derived.Test.YtmfmjngkbddenaaGreatDoorVsPok2
set_option linter.all false
namespace Go.Vs
open Go.Proofs
set_option maxRecDepth 100000
noncomputable section
theorem Ymi x:fX [.see Ez] [] .d Tryz.f260 [(false,.I .i64),(false,.I .i64)] [(false,.I .i64),(false,.B)] x=Zcq x:=by kernel_rfl
def Yhh:=eS Tryz.func260 (by kernel_rfl) Ymi
theorem Yl8 x:fX [.see Ez,.see Yhh] [] .d Tryz.f250 [(false,.L .Y),(false,.I .i64)] [(false,.I .i64),(false,.I .i64),(false,.B)] x=Zcl x
 := by kernel_rfl
def Yg9:=eS Tryz.func250 (by kernel_rfl) Yl8
theorem Ynl x:fX [] [] .d Tryz.f241 [(false,.I .i64)] [(false,.I .i64)] x=Zqt x:=by kernel_rfl
def Yh4:=eS Tryz.func241 (by kernel_rfl) Ynl
theorem Ynk x:fX [] [(4,.el (.I .i64))] .d Tryz.f242 [(false,.I .i64)] [(false,.I .i64)] x=Zqs x:=by kernel_rfl
def Yh3:=eS Tryz.func242 (by kernel_rfl) Ynk
theorem Ynm x:fX [] [(4,.el (.I .i64))] .d Tryz.f243 [(false,.I .i64)] [(false,.I .i64)] x=Zqu x:=by kernel_rfl
def Yh5:=eS Tryz.func243 (by kernel_rfl) Ynm
theorem Yl3 x:fX [.see Ez,.see Yh4,.see Yh3,.see Yh5] [] (.sq none .d (.sq none .d (.sq none .d (.sq (some [.lt 6 (.I .i64)]) .d .d))))
 Tryz.f235 [(false,.I .i64),(false,.I .i64)] [(false,.I .i64),(false,.B)] x=Rh x:=by kernel_rfl
def Yg7:=eS Tryz.func235 (by kernel_rfl) Yl3
theorem Yno x:fX [.see Yhc,.see Yg9,.see Yg7] [] .d Tryz.f238 [(false,.I .i64),(false,.L .Y),(false,.I .i64)] [(false,.I .i64),(false,.I
 .i64),(false,.B)] x=Zcu x:=by kernel_rfl
def Yh6:=eS Tryz.func238 (by kernel_rfl) Yno
theorem Yl6 x:fX [.see Ztq,.see Yh6,.see Zth] [(11,.el .Y)] (.sq none .d (.sq none .d (.sq none .d (.sq (some [.ot 6 .Y]) (.sq none .d (.bl (.lp [.kt
 0,.kt 1,.ot 6 .Y,.lt 7 (.I .i64)] .d))) .d)))) Tryz.f229 [(false,.I .i64),(false,.L .Y)] [(false,.S),(false,.B)] x=Zck x:=by kernel_rfl
def Yg8:=eS Tryz.func229 (by kernel_rfl) Yl6
theorem Yl5 x:fX [.see Ztd,.see Yg8] [] .d Tryz.f214 [(true,txC)] [(false,.S),(false,.B)] x=Iz x:=by kernel_rfl
def Zte:=eS Tryz.func214 (by kernel_rfl) Yl5
theorem Ymt x:fX [.see Zte] [] .d Tryz.f216 [(true,txC),(true,txC)] [(false,.B)] x=Bx x:=by kernel_rfl
def Yhn:=eS Tryz.func216 (by kernel_rfl) Ymt
theorem Yms x:fX [.see Ztg,.see Ez,.see Zk9,.see Ztr,.see Zk8,.see Zte,.see Ztd,.see Yhn] [] .d Tryz.f171
 [(true,txT)] [(false,.B)] x=Nf x:=by kernel_rfl
def Zk4:=eS Tryz.func171 (by kernel_rfl) Yms
theorem Yni x:fX [.see Ez] [] .d Tryz.f184 [(false,.I .i64)] [(false,.B)] x=Ni x:=by kernel_rfl
def Zk6:=eS Tryz.func184 (by kernel_rfl) Yni
theorem Ynb x:fX [.see Ez,.see Zk6] [] .d Tryz.f172 [(true,txH)] [(false,.B)] x=Xt x:=by kernel_rfl
def Yhx:=eS Tryz.func172 (by kernel_rfl) Ynb
theorem Ymx x:fX [.see Zk4,.see Yhx,.see Ez] [] (.sq none .d (.sq (some [.kt 1]) (.sq none .d (.bl (.lp [.kt 1,.lt 3 (.I .i64)] .d))) (.sq (some [.kt
 1]) (.sq none .d (.bl (.lp [.kt 1,.lt 4 (.I .i64)] .d))) .d))) Tryz.f100 [(true,Fn)] [(false,.B)] x=Ng x:=by kernel_rfl
def Ztl:=eS Tryz.func100 (by kernel_rfl) Ymx
end
end Go.Vs
