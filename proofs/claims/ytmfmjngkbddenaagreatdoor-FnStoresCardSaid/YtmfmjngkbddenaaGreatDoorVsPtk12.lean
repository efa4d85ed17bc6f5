import Derived.Test.YtmfmjngkbddenaaGreatDoorProg
import Derived.Test.YtmfmjngkbddenaaGreatDoorVsPtk11
set_option linter.all false
namespace Go.Vs
open Go.Proofs
set_option maxRecDepth 100000
noncomputable section
theorem Yli x:fG [.gen Zld,.gen Zlc,.gen Yg1,.see Ze5] [] (.sq none .d (.sq none .d (.sq none .d (.sq none .d (.sq none .d (.sq
 none .d (.sq (some [.bx 0 [.K,.L (.I .i64),.L .B],.kt 2,.bx 3 [.K,.L (.I .i64),.O .Y,.K,.K,.K,.K],.kt 4]) .d (.sq (some [.bx 0 [.K,.L (.I .i64),.L .B],.kt 2,.bx 3
 [.K,.K,.K,.L (.I .i64),.O .Y,.K,.K],.kt 4]) .d .d)))))))) Tryz.f158 [⟨true,false,txG,[.rx,.rd,.rd],(some txB)⟩] [(true,txU)] x=Rs x:=by kernel_rfl
def Yg2:=eG Tryz.func158 (by kernel_rfl) Yli
theorem Ykc x:fX [.gen Zle,.gen Zlc,.gen Yg2,.gen Zld,.gen Ztz,.see Zk8] [] (.sq none .d (.sq none .d (.sq none
 .d (.sq none .d (.sq none .d (.sq none .d (.sq (some [.kt 4,.kt 6,.bx 7 [.K,.L .S,.L (.I .i64),.O .Y,.L (.I .i64),.O .Y,.L (.I .i64),.L .B,.L .S,.L (.I .i64),.K,.K,
 .K],.kt 8,.kt 9,.bx 12 [.K,.L (.I .i64),.L .B]]) .d .d))))))) Tryz.f90 [(false,.L .Y)] [(false,.I .i64),(false,.I .i64),(true,C9),(false,.B)] x=Xq x :=
 by kernel_rfl
def Ygk:=eS Tryz.func90 (by kernel_rfl) Ykc
theorem Ykt x:fX [.see Gt,.see Zlf,.see Ztq,.see Ygk,.see Zk5] [] (.sq none .d (.sq none .d (.sq none .d (.sq (some [.bx 4 [.O
 txU,.L (.I .i64),.O txI],.bx 6 [.O txU,.L (.I .i64),.O txI]]) (.sq none .d (.bl (.lp [.kt 1,.kt 2,.bx 4 [.O txU,.L (.I .i64),.O txI],.bx 6 [.O txU,.L (.I .i64),.O
 txI],.lt 7 (.I .i64)] .d))) .d)))) Tryz.f32 [(true,txQ),(false,.I .i64)] [(true,G8),(false,.I .i64)] x=Ui x:=by kernel_rfl
def Ztr:=eS Tryz.func32 (by kernel_rfl) Ykt
theorem Ykj x:fX [.see Ztq,.see Ygj,.see Ztr,.see Zg,.see Ze6,.see Zk6] [] (.sq none .d (.sq none .d (.sq (some [.kt 2,.bx
 4 [.O (.L .Y),.O txC,.L (.I .i64),.L .B,.O txU,.L (.I .i64),.O txI,.L (.I .i64),.L (.I .i64)]]) (.sq none .d (.bl (.lp [.kt 1,.kt 2,.bx 4 [.O (.L .Y),.O txC,.L (.I
 .i64),.L .B,.O txU,.L (.I .i64),.O txI,.L (.I .i64),.L (.I .i64)],.lt 12 (.I .i64)] (.sq none .d (.sq none .d (.sq (some [.kt 1,.kt 2,.bx 4 [.O (.L .Y),.O txC,.L (.I
 .i64),.L .B,.O txU,.L (.I .i64),.O txI,.L (.I .i64),.L (.I .i64)],.kt 12]) .d .d)))))) .d))) Tryz.f23 [(true,txQ)] [(true,Jc),(false,.B)] x=Xu x:=by
 kernel_rfl
def Ygo:=eS Tryz.func23 (by kernel_rfl) Ykj
section
set_option maxHeartbeats 1000000
set_option maxRecDepth 4000
end
end
end Go.Vs
