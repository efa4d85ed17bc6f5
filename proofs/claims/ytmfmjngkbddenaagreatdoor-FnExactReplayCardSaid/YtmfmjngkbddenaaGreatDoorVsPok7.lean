import Derived.Test.YtmfmjngkbddenaaGreatDoorProg
import Derived.Test.YtmfmjngkbddenaaGreatDoorVsPok6
set_option linter.all false
namespace Go.Vs
open Go.Proofs
set_option maxRecDepth 100000
noncomputable section
theorem Ydt x:fX [] [] .d Tryz.f256 [(false,.I .i64)] [(false,.I .i64)] x=Zl8 x:=by kernel_rfl
def Zz5:=eS Tryz.func256 (by kernel_rfl) Ydt
theorem Yd5 x:fX [] [] .d Tryz.f257 [(false,.I .i64)] [(false,.I .i64)] x=Zma x:=by kernel_rfl
def Yad:=eS Tryz.func257 (by kernel_rfl) Yd5
theorem Yc2 x:fX [.see Ih,.see Zz6,.see Zz5,.see Yad] [] (.sq none .d (.sq none .d (.sq none .d (.sq none .d (.sq (some [.lt 6 (.I
 .i64)]) .d .d))))) Tryz.f246 [(false,.I .i64),(false,.I .i64)] [(false,.I .i64),(false,.B)] x=Ph x:=by kernel_rfl
def Zzo:=eS Tryz.func246 (by kernel_rfl) Yc2
theorem Yd4 x:fX [.see Zzt,.see Zzr,.see Zzo] [] .d Tryz.f236 [(false,.I .i64),(false,.L .Y),(false,.I .i64)] [(false,.I .i64),(false,.I
 .i64),(false,.B)] x=Zc x:=by kernel_rfl
def Yac:=eS Tryz.func236 (by kernel_rfl) Yd4
theorem Ydk x:fX [.see Ih] [] .d Tryz.f247 [(false,.I .i64)] [(false,.B)] x=Zew x:=by kernel_rfl
def Zz0:=eS Tryz.func247 (by kernel_rfl) Ydk
theorem Ygm x:fG [] [(23,.el .Y),(24,.el .Y),(48,.el .Y),(49,.el .Y),(76,.el .Y),(77,.el .Y),(9,.el .Y),(10,.el .Y)] (.sq none .d (.sq none
 .d (.bl (.sq none .d (.cd .d (.sq (some [.kt 0,.kt 1,.kt 5,.lt 25 .B]) .d .d)))))) Tryz.f258 [⟨false,false,.L .Y,[.ow],none⟩,⟨false,false,.I .i32,[.rd],none⟩]
 [(false,.L .Y)] x=Ze5 x:=by kernel_rfl
def Yb8:=eG Tryz.func258 (by kernel_rfl) Ygm
theorem Ygk x:fG [.gen Yb8] [(11,.el .Y),(12,.el .Y)] .d Tryz.f248 [⟨false,false,.L .Y,[.ow],none⟩,⟨false,false,.I .i32,[.rd],
 none⟩] [(false,.L .Y)] x=Ze4 x:=by kernel_rfl
def Yb6:=eG Tryz.func248 (by kernel_rfl) Ygk
theorem Yde x:fX [.see Zgz,.see Zz0,.gen Yb6] [(7,.sb)] .d Tryz.f237 [(false,.L .Y),(false,.I .i64)] [(false,.L .Y)] x=Y7 x
 := by kernel_rfl
def Zzw:=eS Tryz.func237 (by kernel_rfl) Yde
theorem Yc5 x:fX [.see Zoj,.see Yac,.see Zzw] [(14,.el .Y)] (.sq none .d (.sq none .d (.sq none .d (.sq (some [.ot 6 .Y]) (.sq none .d (.bl (.lp
 [.kt 0,.kt 1,.ot 6 .Y,.lt 7 (.I .i64)] .d))) .d)))) Tryz.f227 [(false,.I .i64),(false,.L .Y)] [(false,.S),(false,.B)] x=Y3 x:=by kernel_rfl
def Zzp:=eS Tryz.func227 (by kernel_rfl) Yc5
theorem Yc4 x:fX [.see Zod,.see Zzp] [] .d Tryz.f209 [(true,txC)] [(false,.S),(false,.B)] x=Pj x:=by kernel_rfl
def Zoe:=eS Tryz.func209 (by kernel_rfl) Yc4
theorem Ydj x:fX [.see Zoe] [] .d Tryz.f212 [(true,txC),(true,txC)] [(false,.B)] x=Zev x:=by kernel_rfl
def Zzz:=eS Tryz.func212 (by kernel_rfl) Ydj
theorem Ydi x:fX [.see Zog,.see Ih,.see Zoe,.see Zol,.see Zod,.see Zzz] [] (.sq none .d (.sq none .d (.sq none .d (.sq
 none .d (.sq none .d (.sq (some [.kt 1,.kt 6,.lt 7 .B]) .d (.sq none .d (.sq (some [.kt 1,.kt 7,.lt 8 .B]) .d .d)))))))) Tryz.f170 [(true,txT)] [(false,.B)] x=L0 x
 := by kernel_rfl
def Zgy:=eS Tryz.func170 (by kernel_rfl) Ydi
theorem Ydr x:fX [.see Ih] [] .d Tryz.f129 [(false,.I .i64)] [(false,.B)] x=U3 x:=by kernel_rfl
def Zok:=eS Tryz.func129 (by kernel_rfl) Ydr
theorem Ydg x:fX [.see Zz7,.see Zgy,.see Zog,.see Ih,.see Zok] [] (.sq none .d (.sq none .d (.sq none .d (.sq (some [.kt 1,.lt 5
 .B]) .d .d)))) Tryz.f112 [(true,Lx)] [(false,.B)] x=Rn x:=by kernel_rfl
def Zoh:=eS Tryz.func112 (by kernel_rfl) Ydg
end
end Go.Vs
