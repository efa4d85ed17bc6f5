import Derived.Test.YtmfmjngkbddenaaGreatDoorProg
import Derived.Test.YtmfmjngkbddenaaGreatDoorVsPok6
set_option linter.all false
namespace Go.Vs
open Go.Proofs
set_option maxRecDepth 100000
noncomputable section
theorem Ykh x:fX [] [] .d Tryz.f256 [(false,.I .i64)] [(false,.I .i64)] x=Zqp x:=by kernel_rfl
def Yf0:=eS Tryz.func256 (by kernel_rfl) Ykh
theorem Yku x:fX [] [] .d Tryz.f257 [(false,.I .i64)] [(false,.I .i64)] x=Zqr x:=by kernel_rfl
def Yf7:=eS Tryz.func257 (by kernel_rfl) Yku
theorem Yja x:fX [.see G1,.see Yf2,.see Yf0,.see Yf7] [] (.sq none .d (.sq none .d (.sq none .d (.sq none .d (.sq (some [.lt 6 (.I
 .i64)]) .d .d))))) Tryz.f246 [(false,.I .i64),(false,.I .i64)] [(false,.I .i64),(false,.B)] x=Q9 x:=by kernel_rfl
def Yfd:=eS Tryz.func246 (by kernel_rfl) Yja
theorem Ykt x:fX [.see Yfj,.see Yff,.see Yfd] [] .d Tryz.f236 [(false,.I .i64),(false,.L .Y),(false,.I .i64)] [(false,.I .i64),(false,.I
 .i64),(false,.B)] x=Zbv x:=by kernel_rfl
def Yf6:=eS Tryz.func236 (by kernel_rfl) Ykt
theorem Yj2 x:fX [.see G1] [] .d Tryz.f247 [(false,.I .i64)] [(false,.B)] x=Zif x:=by kernel_rfl
def Yfv:=eS Tryz.func247 (by kernel_rfl) Yj2
theorem Yny x:fG [] [(23,.el .Y),(24,.el .Y),(48,.el .Y),(49,.el .Y),(76,.el .Y),(77,.el .Y),(9,.el .Y),(10,.el .Y)] (.sq none .d (.sq none
 .d (.bl (.sq none .d (.cd .d (.sq (some [.kt 0,.kt 1,.kt 5,.lt 25 .B]) .d .d)))))) Tryz.f258 [⟨false,false,.L .Y,[.ow],none⟩,⟨false,false,.I .i32,[.rd],none⟩]
 [(false,.L .Y)] x=Zip x:=by kernel_rfl
def Yic:=eG Tryz.func258 (by kernel_rfl) Yny
theorem Ynw x:fG [.gen Yic] [(11,.el .Y),(12,.el .Y)] .d Tryz.f248 [⟨false,false,.L .Y,[.ow],none⟩,⟨false,false,.I .i32,[.rd],
 none⟩] [(false,.L .Y)] x=Zio x:=by kernel_rfl
def Yia:=eG Tryz.func248 (by kernel_rfl) Ynw
theorem Yjt x:fX [.see Nz,.see Yfv,.gen Yia] [(7,.sb)] .d Tryz.f237 [(false,.L .Y),(false,.I .i64)] [(false,.L .Y)] x=Zbq x
 := by kernel_rfl
def Yfr:=eS Tryz.func237 (by kernel_rfl) Yjt
theorem Yjd x:fX [.see Zs4,.see Yf6,.see Yfr] [(14,.el .Y)] (.sq none .d (.sq none .d (.sq none .d (.sq (some [.ot 6 .Y]) (.sq none .d (.bl (.lp
 [.kt 0,.kt 1,.ot 6 .Y,.lt 7 (.I .i64)] .d))) .d)))) Tryz.f227 [(false,.I .i64),(false,.L .Y)] [(false,.S),(false,.B)] x=Zbm x:=by kernel_rfl
def Yfe:=eS Tryz.func227 (by kernel_rfl) Yjd
theorem Yjc x:fX [.see Zsu,.see Yfe] [] .d Tryz.f209 [(true,txC)] [(false,.S),(false,.B)] x=Ra x:=by kernel_rfl
def Zsv:=eS Tryz.func209 (by kernel_rfl) Yjc
theorem Yj1 x:fX [.see Zsv] [] .d Tryz.f212 [(true,txC),(true,txC)] [(false,.B)] x=Zie x:=by kernel_rfl
def Yfu:=eS Tryz.func212 (by kernel_rfl) Yj1
theorem Yj0 x:fX [.see Zsx,.see G1,.see Zsv,.see Zs5,.see Zsu,.see Yfu] [] (.sq none .d (.sq none .d (.sq none .d (.sq
 none .d (.sq none .d (.sq (some [.kt 1,.kt 6,.lt 7 .B]) .d (.sq none .d (.sq (some [.kt 1,.kt 7,.lt 8 .B]) .d .d)))))))) Tryz.f170 [(true,txT)] [(false,.B)] x=K3 x
 := by kernel_rfl
def Zeq:=eS Tryz.func170 (by kernel_rfl) Yj0
theorem Ykf x:fX [.see G1] [] .d Tryz.f129 [(false,.I .i64)] [(false,.B)] x=M9 x:=by kernel_rfl
def Zkt:=eS Tryz.func129 (by kernel_rfl) Ykf
theorem Yjx x:fX [.see Yf3,.see Zeq,.see Zsx,.see G1,.see Zkt] [] (.sq none .d (.sq none .d (.sq none .d (.sq (some [.kt 1,.lt 5
 .B]) .d .d)))) Tryz.f112 [(true,Dn)] [(false,.B)] x=Pc x:=by kernel_rfl
def Zkq:=eS Tryz.func112 (by kernel_rfl) Yjx
end
end Go.Vs
