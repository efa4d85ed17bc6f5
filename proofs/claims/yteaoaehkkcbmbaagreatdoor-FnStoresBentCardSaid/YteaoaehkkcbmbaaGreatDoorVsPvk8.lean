import Derived.Test.YteaoaehkkcbmbaaGreatDoorVsPvk7
set_option linter.all false
namespace Go.Vs
open Go.Proofs
set_option maxRecDepth 100000
noncomputable section
def Zdm x:fX [] [] .d Tryz.f189 [(false,.I .i64)] [(false,.I .i64)] x=mJ x:=by kernel_rfl
def zK:=eS Tryz.func189 (by kernel_rfl) Zdm
def Zdk x:fX [] [] .d Tryz.f190 [(false,.I .i64)] [(false,.I .i64)] x=mI x:=by kernel_rfl
def zJ:=eS Tryz.func190 (by kernel_rfl) Zdk
def Zdx x:fX [] [] .d Tryz.f191 [(false,.I .i64)] [(false,.I .i64)] x=mK x:=by kernel_rfl
def zP:=eS Tryz.func191 (by kernel_rfl) Zdx
def Zcb x:fX [.see H7,.see zK,.see zJ,.see zP] [] (.sq none .d (.sq none .d (.sq none .d (.sq none .d (.sq (some [.lt 6 (.I
 .i64)]) .d .d))))) Tryz.f180 [(false,.I .i64),(false,.I .i64)] [(false,.I .i64),(false,.B)] x=P0 x:=by kernel_rfl
def yq:=eS Tryz.func180 (by kernel_rfl) Zcb
def Zdw x:fX [.see yy,.see yu,.see yq] [] .d Tryz.f170 [(false,.I .i64),(false,.L .Y),(false,.I .i64)] [(false,.I .i64),(false,.I
 .i64),(false,.B)] x=X5 x:=by kernel_rfl
def zO:=eS Tryz.func170 (by kernel_rfl) Zdw
def Zc5 x:fX [.see H7] [] .d Tryz.f181 [(false,.I .i64)] [(false,.B)] x=dO x:=by kernel_rfl
def zG:=eS Tryz.func181 (by kernel_rfl) Zc5
def Zhh x:fG [] [(23,.el .Y),(24,.el .Y),(48,.el .Y),(49,.el .Y),(76,.el .Y),(77,.el .Y),(9,.el .Y),(10,.el .Y)] (.sq none .d (.sq none
 .d (.bl (.sq none .d (.cd .d (.sq (some [.kt 0,.kt 1,.kt 5,.lt 25 .B]) .d .d)))))) Tryz.f192 [⟨false,false,.L .Y,[.ow],none⟩,⟨false,false,.I .i32,[.rd],none⟩]
 [(false,.L .Y)] x=dV x:=by kernel_rfl
def Za3:=eG Tryz.func192 (by kernel_rfl) Zhh
def Zhf x:fG [.gen Za3] [(11,.el .Y),(12,.el .Y)] .d Tryz.f182 [⟨false,false,.L .Y,[.ow],none⟩,⟨false,false,.I .i32,[.rd],
 none⟩] [(false,.L .Y)] x=dU x:=by kernel_rfl
def Za1:=eG Tryz.func182 (by kernel_rfl) Zhf
def Zcw x:fX [.see Nb,.see zG,.gen Za1] [(7,.sb)] .d Tryz.f171 [(false,.L .Y),(false,.I .i64)] [(false,.L .Y)] x=Xz x
 := by kernel_rfl
def zE:=eS Tryz.func171 (by kernel_rfl) Zcw
def Zce x:fX [.see pF,.see zO,.see zE] [(14,.el .Y)] (.sq none .d (.sq none .d (.sq none .d (.sq (some [.ot 6 .Y]) (.sq none .d (.bl (.lp
 [.kt 0,.kt 1,.ot 6 .Y,.lt 7 (.I .i64)] .d))) .d)))) Tryz.f161 [(false,.I .i64),(false,.L .Y)] [(false,.S),(false,.B)] x=Xt x:=by kernel_rfl
def yr:=eS Tryz.func161 (by kernel_rfl) Zce
def Zcd x:fX [.see oj,.see yr] [] .d Tryz.f143 [(true,BH)] [(false,.S),(false,.B)] x=P1 x:=by kernel_rfl
def ol:=eS Tryz.func143 (by kernel_rfl) Zcd
def Zc4 x:fX [.see ol] [] .d Tryz.f146 [(true,BH),(true,BH)] [(false,.B)] x=dN x:=by kernel_rfl
def zF:=eS Tryz.func146 (by kernel_rfl) Zc4
def Zc3 x:fX [.see oq,.see H7,.see ol,.see pH,.see oj,.see zF] [] (.sq none .d (.sq none .d (.sq none .d (.sq
 none .d (.sq none .d (.sq (some [.kt 1,.kt 6,.lt 7 .B]) .d (.sq none .d (.sq (some [.kt 1,.kt 7,.lt 8 .B]) .d .d)))))))) Tryz.f108 [(true,Bs)] [(false,.B)] x=KB x
 := by kernel_rfl
def ZG:=eS Tryz.func108 (by kernel_rfl) Zc3
def Zdi x:fX [.see H7] [] .d Tryz.f80 [(false,.I .i64)] [(false,.B)] x=My x:=by kernel_rfl
def fz:=eS Tryz.func80 (by kernel_rfl) Zdi
end
end Go.Vs
