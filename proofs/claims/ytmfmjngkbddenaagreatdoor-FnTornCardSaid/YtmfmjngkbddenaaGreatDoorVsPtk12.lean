import Derived.Test.YtmfmjngkbddenaaGreatDoorVsPtk11
set_option linter.all false
namespace Go.Vs
open Go.Proofs
set_option maxRecDepth 100000
noncomputable section
theorem Yl0 x:fG [.gen Zlq,.gen Zlp,.gen Yhh,.see Zff] [] (.sq none .d (.sq none .d (.sq none .d (.sq none .d (.sq none .d (.sq
 none .d (.sq (some [.bx 0 [.K,.L (.I .i64),.L .B],.kt 2,.bx 3 [.K,.L (.I .i64),.O .Y,.K,.K,.K,.K],.kt 4]) .d (.sq (some [.bx 0 [.K,.L (.I .i64),.L .B],.kt 2,.bx 3
 [.K,.K,.K,.L (.I .i64),.O .Y,.K,.K],.kt 4]) .d .d)))))))) Tryz.f158 [⟨true,false,txG,[.rx,.rd,.rd],(some txB)⟩] [(true,txU)] x=R1 x:=by kernel_rfl
def Yhi:=eG Tryz.func158 (by kernel_rfl) Yl0
theorem Yku x:fX [.gen Zlr,.gen Zlp,.gen Yhi,.gen Zlq,.gen Zuh,.see Zlk] [] (.sq none .d (.sq none .d (.sq none
 .d (.sq none .d (.sq none .d (.sq none .d (.sq (some [.kt 4,.kt 6,.bx 7 [.K,.L .S,.L (.I .i64),.O .Y,.L (.I .i64),.O .Y,.L (.I .i64),.L .B,.L .S,.L (.I .i64),.K,.K,
 .K],.kt 8,.kt 9,.bx 12 [.K,.L (.I .i64),.L .B]]) .d .d))))))) Tryz.f90 [(false,.L .Y)] [(false,.I .i64),(false,.I .i64),(true,Db),(false,.B)] x=X5 x :=
 by kernel_rfl
def Ygz:=eS Tryz.func90 (by kernel_rfl) Yku
theorem Ylb x:fX [.see Gv,.see Zls,.see Zt9,.see Ygz,.see Zli] [] (.sq none .d (.sq none .d (.sq none .d (.sq (some [.bx 4 [.O
 txU,.L (.I .i64),.O txI],.bx 6 [.O txU,.L (.I .i64),.O txI]]) (.sq none .d (.bl (.lp [.kt 1,.kt 2,.bx 4 [.O txU,.L (.I .i64),.O txI],.bx 6 [.O txU,.L (.I .i64),.O
 txI],.lt 7 (.I .i64)] .d))) .d)))) Tryz.f32 [(true,txQ),(false,.I .i64)] [(true,Hb),(false,.I .i64)] x=Yb x:=by kernel_rfl
def Yg8:=eS Tryz.func32 (by kernel_rfl) Ylb
theorem Yk1 x:fX [.see Zt9,.see Ygy,.see Yg8,.see Zr,.see Zll,.see Zt5] [] (.sq none .d (.sq none .d (.sq (some [.kt 2,.bx
 4 [.O (.L .Y),.O txC,.L (.I .i64),.L .B,.O txU,.L (.I .i64),.O txI,.L (.I .i64),.L (.I .i64)]]) (.sq none .d (.bl (.lp [.kt 1,.kt 2,.bx 4 [.O (.L .Y),.O txC,.L (.I
 .i64),.L .B,.O txU,.L (.I .i64),.O txI,.L (.I .i64),.L (.I .i64)],.lt 12 (.I .i64)] (.sq none .d (.sq none .d (.sq (some [.kt 1,.kt 2,.bx 4 [.O (.L .Y),.O txC,.L (.I
 .i64),.L .B,.O txU,.L (.I .i64),.O txI,.L (.I .i64),.L (.I .i64)],.kt 12]) .d .d)))))) .d))) Tryz.f23 [(true,txQ)] [(true,Je),(false,.B)] x=X9 x:=by
 kernel_rfl
def Yg3:=eS Tryz.func23 (by kernel_rfl) Yk1
section
set_option maxHeartbeats 1000000
set_option maxRecDepth 4000
end
end
end Go.Vs
