import Derived.Test.YtmfmjngkbddenaaGreatDoorVsPtk7
set_option linter.all false
namespace Go.Vs
open Go.Proofs
set_option maxRecDepth 100000
noncomputable section
theorem Ylv x:fX [] [] .d Tryz.f255 [(false,.I .i64)] [(false,.I .i64)] x=Zrw x:=by kernel_rfl
def Yhf:=eS Tryz.func255 (by kernel_rfl) Ylv
theorem Ylt x:fX [] [] .d Tryz.f256 [(false,.I .i64)] [(false,.I .i64)] x=Zrv x:=by kernel_rfl
def Yhd:=eS Tryz.func256 (by kernel_rfl) Ylt
theorem Yl6 x:fX [] [] .d Tryz.f257 [(false,.I .i64)] [(false,.I .i64)] x=Zrx x:=by kernel_rfl
def Yhk:=eS Tryz.func257 (by kernel_rfl) Yl6
theorem Ykl x:fX [.see Gv,.see Yhf,.see Yhd,.see Yhk] [] (.sq none .d (.sq none .d (.sq none .d (.sq none .d (.sq (some [.lt 6 (.I
 .i64)]) .d .d))))) Tryz.f246 [(false,.I .i64),(false,.I .i64)] [(false,.I .i64),(false,.B)] x=Rv x:=by kernel_rfl
def Ygu:=eS Tryz.func246 (by kernel_rfl) Ykl
theorem Yl5 x:fX [.see Yg0,.see Ygw,.see Ygu] [] .d Tryz.f236 [(false,.I .i64),(false,.L .Y),(false,.I .i64)] [(false,.I .i64),(false,.I
 .i64),(false,.B)] x=Zcy x:=by kernel_rfl
def Yhj:=eS Tryz.func236 (by kernel_rfl) Yl5
theorem Yle x:fX [.see Gv] [] .d Tryz.f247 [(false,.I .i64)] [(false,.B)] x=Zi7 x:=by kernel_rfl
def Yha:=eS Tryz.func247 (by kernel_rfl) Yle
theorem Yop x:fG [] [(23,.el .Y),(24,.el .Y),(48,.el .Y),(49,.el .Y),(76,.el .Y),(77,.el .Y),(9,.el .Y),(10,.el .Y)] (.sq none .d (.sq none
 .d (.bl (.sq none .d (.cd .d (.sq (some [.kt 0,.kt 1,.kt 5,.lt 25 .B]) .d .d)))))) Tryz.f258 [⟨false,false,.L .Y,[.ow],none⟩,⟨false,false,.I .i32,[.rd],none⟩]
 [(false,.L .Y)] x=Zje x:=by kernel_rfl
def Yi8:=eG Tryz.func258 (by kernel_rfl) Yop
theorem Yon x:fG [.gen Yi8] [(11,.el .Y),(12,.el .Y)] .d Tryz.f248 [⟨false,false,.L .Y,[.ow],none⟩,⟨false,false,.I .i32,[.rd],
 none⟩] [(false,.L .Y)] x=Zjd x:=by kernel_rfl
def Yi6:=eG Tryz.func248 (by kernel_rfl) Yon
theorem Yk5 x:fX [.see Mv,.see Yha,.gen Yi6] [(7,.sb)] .d Tryz.f237 [(false,.L .Y),(false,.I .i64)] [(false,.L .Y)] x=Zct x
 := by kernel_rfl
def Yg6:=eS Tryz.func237 (by kernel_rfl) Yk5
theorem Yko x:fX [.see Zuf,.see Yhj,.see Yg6] [(14,.el .Y)] (.sq none .d (.sq none .d (.sq none .d (.sq (some [.ot 6 .Y]) (.sq none .d (.bl (.lp
 [.kt 0,.kt 1,.ot 6 .Y,.lt 7 (.I .i64)] .d))) .d)))) Tryz.f227 [(false,.I .i64),(false,.L .Y)] [(false,.S),(false,.B)] x=Zcp x:=by kernel_rfl
def Ygv:=eS Tryz.func227 (by kernel_rfl) Yko
theorem Ykn x:fX [.see Zt1,.see Ygv] [] .d Tryz.f209 [(true,txC)] [(false,.S),(false,.B)] x=Rw x:=by kernel_rfl
def Zt2:=eS Tryz.func209 (by kernel_rfl) Ykn
theorem Yld x:fX [.see Zt2] [] .d Tryz.f212 [(true,txC),(true,txC)] [(false,.B)] x=Zi6 x:=by kernel_rfl
def Yg9:=eS Tryz.func212 (by kernel_rfl) Yld
theorem Ylc x:fX [.see Zt6,.see Gv,.see Zt2,.see Zug,.see Zt1,.see Yg9] [] (.sq none .d (.sq none .d (.sq none .d (.sq
 none .d (.sq none .d (.sq (some [.kt 1,.kt 6,.lt 7 .B]) .d (.sq none .d (.sq (some [.kt 1,.kt 7,.lt 8 .B]) .d .d)))))))) Tryz.f170 [(true,txU)] [(false,.B)] x=Ln x
 := by kernel_rfl
def Zff:=eS Tryz.func170 (by kernel_rfl) Ylc
theorem Ylr x:fX [.see Gv] [] .d Tryz.f129 [(false,.I .i64)] [(false,.B)] x=Nv x:=by kernel_rfl
def Zlo:=eS Tryz.func129 (by kernel_rfl) Ylr
end
end Go.Vs
