import Derived.Test.YtmfmjngkbddenaaGreatDoorProg
import Derived.Test.YtmfmjngkbddenaaGreatDoorVsPtk3
set_option linter.all false
namespace Go.Vs
open Go.Proofs
set_option maxRecDepth 100000
noncomputable section
theorem Yms x:fX [.see Fn] [] .d Tryz.f261 [(false,.I .i64)] [(false,.I .i64),(false,.I .i64),(false,.B)] x=Ziz x:=by kernel_rfl
def Yhu:=eS Tryz.func261 (by kernel_rfl) Yms
theorem Yme x:fX [.see Fn,.see Yhu] [(10,.el .Y),(12,.el .Y),(18,.el .Y),(19,.el .Y),(34,.el .Y),(35,.el .Y)] .d Tryz.f251 [(false,.L .Y),
 (false,.I .i64)] [(false,.L .Y),(false,.B)] x=X8 x:=by kernel_rfl
def Yhn:=eS Tryz.func251 (by kernel_rfl) Yme
theorem Ymq x:fX [.see Zlg] [] (.sq none .d (.sq (some []) (.sq none .d (.bl (.lp [.kt 0,.kt 1,.lt 6 (.I .i64)] .d))) .d)) Tryz.f252 [(false,.I .i64),
 (false,.I .i64)] [(false,.I .i64),(false,.B)] x=Zcz x:=by kernel_rfl
def Yht:=eS Tryz.func252 (by kernel_rfl) Ymq
theorem Ynt x:fX [.see Ze7,.see Zll,.see Yhn,.see Yht] [(33,.el .Y),(35,.el .Y),(36,.el .Y),(38,.el .Y),(41,.el .Y),(42,.el
 .Y)] .d Tryz.f240 [(false,.I .i64),(false,.L .Y),(false,.I .i64)] [(false,.L .Y),(false,.B)] x=Yl x:=by kernel_rfl
def Yij:=eS Tryz.func240 (by kernel_rfl) Ynt
theorem Yl6 x:fX [.see Yhv,.see Zln,.see Yij] [(12,.el .Y),(44,.el .Y)] (.sq none .d (.sq none .d (.sq none .d (.sq none .d (.sq (some [.ot 6 .Y])
 (.sq none .d (.bl (.lp [.kt 0,.ot 6 .Y,.kt 7,.lt 9 (.I .i64)] .d))) .d))))) Tryz.f231 [(false,.I .i64),(false,.S)] [(false,.L .Y),(false,.B)] x=Zcu x:=by
 kernel_rfl
def Yhh:=eS Tryz.func231 (by kernel_rfl) Yl6
theorem Yl0 x:fX [.see Yhh] [] .d Tryz.f223 [(false,.I .i64),(false,.S)] [(true,txC),(false,.B)] x=Uo x:=by kernel_rfl
def Zt0:=eS Tryz.func223 (by kernel_rfl) Yl0
theorem Ymn x:fX [.see Zt0,.see Fn,.see Zli] [] (.sq none .d (.sq none .d (.sq none .d (.sq none .d (.sq (some [.kt 1,.bx 8 [.L .S,.L (.I .i64),.O
 .Y,.L (.I .i64),.O .Y,.L (.I .i64),.L .B],.kt 10,.kt 12,.kt 13]) (.sq none .d (.bl (.sq (some [.kt 1,.kt 8,.kt 10,.kt 12,.kt 13,.kt 43,.lt 44 .B]) .d (.cd .d (.sq
 (some [.kt 1,.kt 8,.kt 10,.kt 12,.kt 13,.kt 43,.lt 53 .B]) .d .d))))) .d))))) Tryz.f195 [(false,.I .i64),(false,.S),(false,.I .i64),(false,.S)] [(true,txU),(false,
 .I .i64)] x=Ur x:=by kernel_rfl
def Yhr:=eS Tryz.func195 (by kernel_rfl) Ymn
theorem Ymw x:fX [.see Zlh,.see Zt0,.see Zud] [] .d Tryz.f226 [(true,txC),(false,.I .i64)] [(true,txC),(false,.B)] x=Yd x:=by
 kernel_rfl
def Yhx:=eS Tryz.func226 (by kernel_rfl) Ymw
theorem Yl8 x:fX [.see Zj,.see Zh,.see Ze8,.see Yhx] [] .d Tryz.f197 [(true,txU)] [(true,txU)] x=X6 x:=by kernel_rfl
def Yhj:=eS Tryz.func197 (by kernel_rfl) Yl8
theorem Yly x:fX [.see Zj,.see Zh,.see Ze8,.see Zlo] [] .d Tryz.f198 [(true,txU)] [(true,txU)] x=X5 x:=by kernel_rfl
def Yhd:=eS Tryz.func198 (by kernel_rfl) Yly
theorem Yny x:fG [.gen Yie,.gen Zuc,.gen Oc,.gen Yil,.see Yhr,.gen Zi,.see Yhj,.see Yhd] [(18,.el .Y),
 (43,.el (.I .i64))] (.sq none .d (.sq none .d (.sq none .d (.sq none .d (.sq none .d (.sq (some [.kt 0,.kt 2,.bx 7 [.L .S,.L (.I .i64),.O .Y,.L (.I .i64),.O .Y,.L (.I
 .i64),.L .B]]) .d .d)))))) Tryz.f153 [⟨true,false,txH,[.rx,.rd,.rd],(some txE)⟩] [(true,txU)] x=Zdb x:=by kernel_rfl
def Yim:=eG Tryz.func153 (by kernel_rfl) Yny
theorem Yni x:fG [.gen Oc] [] .d Tryz.f80 [⟨true,false,txH,[.rx,.rd,.rd],(some txE)⟩,⟨false,false,.I .i64,[.rd],none⟩] [(false,.B)] x=Yk x
 := by kernel_rfl
def Yia:=eG Tryz.func80 (by kernel_rfl) Yni
theorem Ym1 x:fG [.gen Oc,.gen Yim,.gen Zuc,.gen Yia,.gen Zi] [(37,.el (.I .i64))] (.sq none .d (.sq none .d (.sq (some [.bx 0
 [.K,.L (.I .i64),.L (.I .i64)],.kt 2,.bx 3 [.K,.L .S,.L (.I .i64),.O .Y,.L (.I .i64),.O .Y,.L (.I .i64),.L .B,.L .S,.L (.I .i64),.K,.K,.K]]) .d (.sq (some [.bx 0
 [.K,.L (.I .i64),.L (.I .i64)],.kt 2,.bx 3 [.K,.K,.K,.K,.K,.K,.K,.K,.K,.K,.L (.I .i64),.L (.I .i64),.L (.I .i64)]]) .d .d)))) Tryz.f82 [⟨true,false,txH,[.rx,
 .rd,.rd],(some txE)⟩] [(true,C9)] x=Uv x:=by kernel_rfl
def Zt9:=eG Tryz.func82 (by kernel_rfl) Ym1
theorem Ym4 x:fX [.see Zj] [(7,.el txI),(10,.el txI),(27,.el txU),(28,.el txU)] (.sq none .d (.sq none .d (.sq (some [.kt 2,.bx 3 [.O txU,.K,.K]]) (.sq
 none .d (.bl (.lp [.kt 1,.kt 2,.bx 3 [.O txU,.K,.K],.lt 4 (.I .i64)] .d))) .d))) Tryz.f121 [(true,G8)] [(true,G8)] x=Ye x:=by kernel_rfl
def Yh2:=eS Tryz.func121 (by kernel_rfl) Ym4
end
end Go.Vs
