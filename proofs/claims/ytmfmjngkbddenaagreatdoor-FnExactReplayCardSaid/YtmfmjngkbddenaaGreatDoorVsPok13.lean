import Derived.Test.YtmfmjngkbddenaaGreatDoorProg
import Derived.Test.YtmfmjngkbddenaaGreatDoorVsPok12
set_option linter.all false
namespace Go.Vs
open Go.Proofs
set_option maxRecDepth 100000
noncomputable section
theorem Ydf x:fX [.see Zzq,.see Ih,.see Zgz] [(40,.sb),(47,.sb)] (.sq none .d (.sq none .d (.sq (some [.kt 1,.kt 2]) (.sq none .d (.bl (.lp
 [.kt 1,.kt 2,.lt 5 (.I .i64)] .d))) .d))) Tryz.f71 [(true,txP),(false,.I .i64)] [(false,.L .Y)] x=Y8 x:=by kernel_rfl
def Zzx:=eS Tryz.func71 (by kernel_rfl) Ydf
theorem Ydb x:fX [] [] .d Tryz.f190 [(false,.L .Y),(false,.I .i64)] [(false,.I .i64),(false,.I .i64),(false,.B)] x=Uy x:=by kernel_rfl
def Zof:=eS Tryz.func190 (by kernel_rfl) Ydb
theorem Yd2 x:fG [.see Zof] [] .d Tryz.f144 [⟨true,false,txG,[.rx,.rd,.rd],(some txB)⟩] [(false,.I .i64)] x=Nf x:=by kernel_rfl
def Zom:=eG Tryz.func144 (by kernel_rfl) Yd2
theorem Yd0 x:fG [.gen Zom,.see Zz1] [] .d Tryz.f145 [⟨true,false,txG,[.rx,.rd,.rd],(some txB)⟩] [(false,.B)] x=Zb x:=by kernel_rfl
def Yaa:=eG Tryz.func145 (by kernel_rfl) Yd0
theorem Ydy x:fG [] [] .d Tryz.f157 [⟨true,false,txG,[.rx,.rd,.rd],(some txB)⟩] [(false,.I .i64)] x=F3 x:=by kernel_rfl
def Zg0:=eG Tryz.func157 (by kernel_rfl) Ydy
theorem Yda x:fX [.see Zof] [] .d Tryz.f200 [(false,.L .Y),(false,.I .i64)] [(false,.S),(false,.I .i64),(false,.B)] x=Y6 x:=by kernel_rfl
def Zzu:=eS Tryz.func200 (by kernel_rfl) Yda
theorem Yd1 x:fG [.see Zzu] [] .d Tryz.f159 [⟨true,false,txG,[.rx,.rd,.rd],(some txB)⟩] [(false,.S)] x=J3 x:=by kernel_rfl
def Zg1:=eG Tryz.func159 (by kernel_rfl) Yd1
theorem Ydx x:fG [.gen Zg0,.gen Zg1] [] .d Tryz.f199 [⟨true,false,txG,[.rx,.rd,.rd],(some txB)⟩] [(true,txC)] x=H7 x:=by
 kernel_rfl
def Zz8:=eG Tryz.func199 (by kernel_rfl) Ydx
theorem Ydz x:fG [.gen Zg1,.gen Zg0,.gen Zz8,.see Zgy] [] (.sq none .d (.sq none .d (.sq none .d (.sq none .d (.sq none .d (.sq
 none .d (.sq (some [.bx 0 [.K,.L (.I .i64),.L .B],.kt 2,.bx 3 [.K,.L (.I .i64),.O .Y,.K,.K,.K,.K],.kt 4]) .d (.sq (some [.bx 0 [.K,.L (.I .i64),.L .B],.kt 2,.bx 3
 [.K,.K,.K,.L (.I .i64),.O .Y,.K,.K],.kt 4]) .d .d)))))))) Tryz.f158 [⟨true,false,txG,[.rx,.rd,.rd],(some txB)⟩] [(true,txT)] x=Pn x:=by kernel_rfl
def Zz9:=eG Tryz.func158 (by kernel_rfl) Ydz
theorem Yc8 x:fX [.gen Zom,.gen Zg0,.gen Zz9,.gen Zg1,.gen Yaa,.see Zoh] [] (.sq none .d (.sq none .d (.sq none
 .d (.sq none .d (.sq none .d (.sq none .d (.sq (some [.kt 4,.kt 6,.bx 7 [.K,.L .S,.L (.I .i64),.O .Y,.L (.I .i64),.O .Y,.L (.I .i64),.L .B,.L .S,.L (.I .i64),.K,.K,
 .K],.kt 8,.kt 9,.bx 12 [.K,.L (.I .i64),.L .B]]) .d .d))))))) Tryz.f90 [(false,.L .Y)] [(false,.I .i64),(false,.I .i64),(true,Lx),(false,.B)] x=Ux x :=
 by kernel_rfl
def Zzs:=eS Tryz.func90 (by kernel_rfl) Yc8
theorem Ydh x:fX [.see Ih,.see Yab,.see Zzx,.see Zzs,.see Zzn] [] (.sq none .d (.sq none .d (.sq none .d (.sq (some [.bx 4 [.O
 txT,.L (.I .i64),.O txH],.bx 6 [.O txT,.L (.I .i64),.O txH]]) (.sq none .d (.bl (.lp [.kt 1,.kt 2,.bx 4 [.O txT,.L (.I .i64),.O txH],.bx 6 [.O txT,.L (.I .i64),.O
 txH],.lt 7 (.I .i64)] .d))) .d)))) Tryz.f32 [(true,txP),(false,.I .i64)] [(true,F2),(false,.I .i64)] x=U0 x:=by kernel_rfl
def Zzy:=eS Tryz.func32 (by kernel_rfl) Ydh
end
end Go.Vs
