import Derived.Test.YtmfmjngkbddenaaGreatDoorProg
import Derived.Test.YtmfmjngkbddenaaGreatDoorVsPtk7
set_option linter.all false
namespace Go.Vs
open Go.Proofs
set_option maxRecDepth 100000
noncomputable section
theorem Yld x:fX [] [] .d Tryz.f255 [(false,.I .i64)] [(false,.I .i64)] x=Zrd x:=by kernel_rfl
def Ygz:=eS Tryz.func255 (by kernel_rfl) Yld
theorem Ylb x:fX [] [] .d Tryz.f256 [(false,.I .i64)] [(false,.I .i64)] x=Zrc x:=by kernel_rfl
def Ygx:=eS Tryz.func256 (by kernel_rfl) Ylb
theorem Ylo x:fX [] [] .d Tryz.f257 [(false,.I .i64)] [(false,.I .i64)] x=Zre x:=by kernel_rfl
def Yg4:=eS Tryz.func257 (by kernel_rfl) Ylo
theorem Yj3 x:fX [.see Gt,.see Ygz,.see Ygx,.see Yg4] [] (.sq none .d (.sq none .d (.sq none .d (.sq none .d (.sq (some [.lt 6 (.I
 .i64)]) .d .d))))) Tryz.f246 [(false,.I .i64),(false,.I .i64)] [(false,.I .i64),(false,.B)] x=Rp x:=by kernel_rfl
def Ygf:=eS Tryz.func246 (by kernel_rfl) Yj3
theorem Yln x:fX [.see Ygl,.see Ygh,.see Ygf] [] .d Tryz.f236 [(false,.I .i64),(false,.L .Y),(false,.I .i64)] [(false,.I .i64),(false,.I
 .i64),(false,.B)] x=Zcp x:=by kernel_rfl
def Yg3:=eS Tryz.func236 (by kernel_rfl) Yln
theorem Ykw x:fX [.see Gt] [] .d Tryz.f247 [(false,.I .i64)] [(false,.B)] x=Ziw x:=by kernel_rfl
def Ygu:=eS Tryz.func247 (by kernel_rfl) Ykw
theorem Yn6 x:fG [] [(23,.el .Y),(24,.el .Y),(48,.el .Y),(49,.el .Y),(76,.el .Y),(77,.el .Y),(9,.el .Y),(10,.el .Y)] (.sq none .d (.sq none
 .d (.bl (.sq none .d (.cd .d (.sq (some [.kt 0,.kt 1,.kt 5,.lt 25 .B]) .d .d)))))) Tryz.f258 [⟨false,false,.L .Y,[.ow],none⟩,⟨false,false,.I .i32,[.rd],none⟩]
 [(false,.L .Y)] x=Zi3 x:=by kernel_rfl
def Yir:=eG Tryz.func258 (by kernel_rfl) Yn6
theorem Yn4 x:fG [.gen Yir] [(11,.el .Y),(12,.el .Y)] .d Tryz.f248 [⟨false,false,.L .Y,[.ow],none⟩,⟨false,false,.I .i32,[.rd],
 none⟩] [(false,.L .Y)] x=Zi2 x:=by kernel_rfl
def Yip:=eG Tryz.func248 (by kernel_rfl) Yn4
theorem Ykn x:fX [.see Mt,.see Ygu,.gen Yip] [(7,.sb)] .d Tryz.f237 [(false,.L .Y),(false,.I .i64)] [(false,.L .Y)] x=Zck x
 := by kernel_rfl
def Ygr:=eS Tryz.func237 (by kernel_rfl) Ykn
theorem Yj6 x:fX [.see Ztx,.see Yg3,.see Ygr] [(14,.el .Y)] (.sq none .d (.sq none .d (.sq none .d (.sq (some [.ot 6 .Y]) (.sq none .d (.bl (.lp
 [.kt 0,.kt 1,.ot 6 .Y,.lt 7 (.I .i64)] .d))) .d)))) Tryz.f227 [(false,.I .i64),(false,.L .Y)] [(false,.S),(false,.B)] x=Zcg x:=by kernel_rfl
def Ygg:=eS Tryz.func227 (by kernel_rfl) Yj6
theorem Yj5 x:fX [.see Ztj,.see Ygg] [] .d Tryz.f209 [(true,txC)] [(false,.S),(false,.B)] x=Rq x:=by kernel_rfl
def Ztk:=eS Tryz.func209 (by kernel_rfl) Yj5
theorem Ykv x:fX [.see Ztk] [] .d Tryz.f212 [(true,txC),(true,txC)] [(false,.B)] x=Ziv x:=by kernel_rfl
def Ygt:=eS Tryz.func212 (by kernel_rfl) Ykv
theorem Yku x:fX [.see Ztn,.see Gt,.see Ztk,.see Zty,.see Ztj,.see Ygt] [] (.sq none .d (.sq none .d (.sq none .d (.sq
 none .d (.sq none .d (.sq (some [.kt 1,.kt 6,.lt 7 .B]) .d (.sq none .d (.sq (some [.kt 1,.kt 7,.lt 8 .B]) .d .d)))))))) Tryz.f170 [(true,txU)] [(false,.B)] x=Ln x
 := by kernel_rfl
def Ze5:=eS Tryz.func170 (by kernel_rfl) Yku
theorem Yk9 x:fX [.see Gt] [] .d Tryz.f129 [(false,.I .i64)] [(false,.B)] x=Nt x:=by kernel_rfl
def Zlb:=eS Tryz.func129 (by kernel_rfl) Yk9
end
end Go.Vs
