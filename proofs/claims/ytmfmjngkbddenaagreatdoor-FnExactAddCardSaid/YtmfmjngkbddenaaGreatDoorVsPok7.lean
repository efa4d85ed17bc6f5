import Derived.Test.YtmfmjngkbddenaaGreatDoorProg
import Derived.Test.YtmfmjngkbddenaaGreatDoorVsPok6
set_option linter.all false
namespace Go.Vs
open Go.Proofs
set_option maxRecDepth 100000
noncomputable section
theorem Yg1 x:fX [] [] .d Tryz.f256 [(false,.I .i64)] [(false,.I .i64)] x=Zob x:=by kernel_rfl
def Ycd:=eS Tryz.func256 (by kernel_rfl) Yg1
theorem Yg8 x:fX [] [] .d Tryz.f257 [(false,.I .i64)] [(false,.I .i64)] x=Zod x:=by kernel_rfl
def Yci:=eS Tryz.func257 (by kernel_rfl) Yg8
theorem Yf1 x:fX [.see H9,.see Ycf,.see Ycd,.see Yci] [] (.sq none .d (.sq none .d (.sq none .d (.sq none .d (.sq (some [.lt 6 (.I
 .i64)]) .d .d))))) Tryz.f246 [(false,.I .i64),(false,.I .i64)] [(false,.I .i64),(false,.B)] x=P3 x:=by kernel_rfl
def Ybz:=eS Tryz.func246 (by kernel_rfl) Yf1
theorem Yg7 x:fX [.see Yb2,.see Yb1,.see Ybz] [] .d Tryz.f236 [(false,.I .i64),(false,.L .Y),(false,.I .i64)] [(false,.I .i64),(false,.I
 .i64),(false,.B)] x=Zx x:=by kernel_rfl
def Ych:=eS Tryz.func236 (by kernel_rfl) Yg7
theorem Ygm x:fX [.see H9] [] .d Tryz.f247 [(false,.I .i64)] [(false,.B)] x=Zfz x:=by kernel_rfl
def Yca:=eS Tryz.func247 (by kernel_rfl) Ygm
theorem Ykl x:fG [] [(23,.el .Y),(24,.el .Y),(48,.el .Y),(49,.el .Y),(76,.el .Y),(77,.el .Y),(9,.el .Y),(10,.el .Y)] (.sq none .d (.sq none
 .d (.bl (.sq none .d (.cd .d (.sq (some [.kt 0,.kt 1,.kt 5,.lt 25 .B]) .d .d)))))) Tryz.f258 [⟨false,false,.L .Y,[.ow],none⟩,⟨false,false,.I .i32,[.rd],none⟩]
 [(false,.L .Y)] x=Zga x:=by kernel_rfl
def Yey:=eG Tryz.func258 (by kernel_rfl) Ykl
theorem Ykj x:fG [.gen Yey] [(11,.el .Y),(12,.el .Y)] .d Tryz.f248 [⟨false,false,.L .Y,[.ow],none⟩,⟨false,false,.I .i32,[.rd],
 none⟩] [(false,.L .Y)] x=Zf9 x:=by kernel_rfl
def Yew:=eG Tryz.func248 (by kernel_rfl) Ykj
theorem Ygf x:fX [.see Om,.see Yca,.gen Yew] [(7,.sb)] .d Tryz.f237 [(false,.L .Y),(false,.I .i64)] [(false,.L .Y)] x=Zs x
 := by kernel_rfl
def Yb7:=eS Tryz.func237 (by kernel_rfl) Ygf
theorem Yf4 x:fX [.see Zqm,.see Ych,.see Yb7] [(14,.el .Y)] (.sq none .d (.sq none .d (.sq none .d (.sq (some [.ot 6 .Y]) (.sq none .d (.bl (.lp
 [.kt 0,.kt 1,.ot 6 .Y,.lt 7 (.I .i64)] .d))) .d)))) Tryz.f227 [(false,.I .i64),(false,.L .Y)] [(false,.S),(false,.B)] x=Zp x:=by kernel_rfl
def Yb0:=eS Tryz.func227 (by kernel_rfl) Yf4
theorem Yf3 x:fX [.see Zp8,.see Yb0] [] .d Tryz.f209 [(true,txC)] [(false,.S),(false,.B)] x=P4 x:=by kernel_rfl
def Zp9:=eS Tryz.func209 (by kernel_rfl) Yf3
theorem Ygl x:fX [.see Zp9] [] .d Tryz.f212 [(true,txC),(true,txC)] [(false,.B)] x=Zfy x:=by kernel_rfl
def Yb9:=eS Tryz.func212 (by kernel_rfl) Ygl
theorem Ygk x:fX [.see Zqb,.see H9,.see Zp9,.see Zqn,.see Zp8,.see Yb9] [] (.sq none .d (.sq none .d (.sq none .d (.sq
 none .d (.sq none .d (.sq (some [.kt 1,.kt 6,.lt 7 .B]) .d (.sq none .d (.sq (some [.kt 1,.kt 7,.lt 8 .B]) .d .d)))))))) Tryz.f170 [(true,txT)] [(false,.B)] x=L5 x
 := by kernel_rfl
def Zia:=eS Tryz.func170 (by kernel_rfl) Ygk
theorem Ygz x:fX [.see H9] [] .d Tryz.f129 [(false,.I .i64)] [(false,.B)] x=L7 x:=by kernel_rfl
def Zid:=eS Tryz.func129 (by kernel_rfl) Ygz
theorem Ygi x:fX [.see Ycg,.see Zia,.see Zqb,.see H9,.see Zid] [] (.sq none .d (.sq none .d (.sq none .d (.sq (some [.kt 1,.lt 5
 .B]) .d .d)))) Tryz.f112 [(true,Cd)] [(false,.B)] x=Sc x:=by kernel_rfl
def Zqe:=eS Tryz.func112 (by kernel_rfl) Ygi
end
end Go.Vs
