import Derived.Test.YteaoaehkkcbmbaaGreatDoorVsPvk0
set_option linter.all false
namespace Go.Vs
open Go.Proofs
set_option maxRecDepth 100000
noncomputable section
def Zed x:fX [.see g7] [] .d Tryz.f149 [(true,BH)] [(false,.B)] x=M0 x:=by kernel_rfl
def pK:=eS Tryz.func149 (by kernel_rfl) Zed
def Zgr x:fX [.see Fi] [] .d Tryz.f193 [(false,.Y)] [(false,.I .i64)] x=XW x:=by kernel_rfl
def Zam:=eS Tryz.func193 (by kernel_rfl) Zgr
def Zff x:fX [.see Fi] [] .d Tryz.f167 [(false,.I .i64)] [(false,.B)] x=PB x:=by kernel_rfl
def gO:=eS Tryz.func167 (by kernel_rfl) Zff
def Ze4 x:fX [.see gO] [(6,.el .Y),(8,.el .Y),(20,.el .Y),(21,.el .Y),(34,.el .Y),(35,.el .Y),(53,.el .Y),(54,.el .Y),(74,.el .Y),(75,.el
 .Y)] .d Tryz.f155 [(false,.L .Y),(false,.I .i64)] [(false,.L .Y)] x=M2 x:=by kernel_rfl
def ZJ:=eS Tryz.func155 (by kernel_rfl) Ze4
def Zet x:fX [.see Fi,.see Zam,.see gO,.see ZJ] [(71,.el .Y)] (.sq none .d (.sq none .d (.sq none .d (.sq none .d (.sq none .d (.sq
 (some [.kt 0,.kt 1,.kt 7,.lt 8 (.I .i64)]) .d (.sq (some [.kt 0,.kt 1,.kt 7,.lt 8 (.I .i64)]) (.sq none .d (.bl (.lp [.kt 0,.kt 1,.kt 7,.lt 8 (.I .i64),.lt 9 (.I .i64)]
 .d))) .d))))))) Tryz.f183 [(false,.L .Y),(false,.I .i64)] [(false,.I .i64),(false,.I .i64),(false,.B)] x=Ug x:=by kernel_rfl
def pO:=eS Tryz.func183 (by kernel_rfl) Zet
def Ze0 x:fX [.see Fi] [] .d Tryz.f194 [(false,.I .i64),(false,.I .i64)] [(false,.I .i64),(false,.B)] x=XK x:=by kernel_rfl
def zl:=eS Tryz.func194 (by kernel_rfl) Ze0
def Zeo x:fX [.see Fi,.see zl] [] .d Tryz.f184 [(false,.L .Y),(false,.I .i64)] [(false,.I .i64),(false,.I .i64),(false,.B)] x=XH x
 := by kernel_rfl
def zd:=eS Tryz.func184 (by kernel_rfl) Zeo
def Zgw x:fX [] [] .d Tryz.f175 [(false,.I .i64)] [(false,.I .i64)] x=mM x:=by kernel_rfl
def Zar:=eS Tryz.func175 (by kernel_rfl) Zgw
def Zgv x:fX [] [(4,.el (.I .i64))] .d Tryz.f176 [(false,.I .i64)] [(false,.I .i64)] x=mL x:=by kernel_rfl
def Zaq:=eS Tryz.func176 (by kernel_rfl) Zgv
def Zgx x:fX [] [(4,.el (.I .i64))] .d Tryz.f177 [(false,.I .i64)] [(false,.I .i64)] x=mN x:=by kernel_rfl
def Zas:=eS Tryz.func177 (by kernel_rfl) Zgx
def Zeb x:fX [.see Fi,.see Zar,.see Zaq,.see Zas] [] (.sq none .d (.sq none .d (.sq none .d (.sq (some [.lt 6 (.I .i64)]) .d .d))))
 Tryz.f169 [(false,.I .i64),(false,.I .i64)] [(false,.I .i64),(false,.B)] x=KD x:=by kernel_rfl
def gF:=eS Tryz.func169 (by kernel_rfl) Zeb
def Zg0 x:fX [.see pO,.see zd,.see gF] [] .d Tryz.f172 [(false,.I .i64),(false,.L .Y),(false,.I .i64)] [(false,.I .i64),(false,.I
 .i64),(false,.B)] x=Yb x:=by kernel_rfl
def Zau:=eS Tryz.func172 (by kernel_rfl) Zg0
def Zef x:fX [.see g7,.see Zau,.see ZJ] [(11,.el .Y)] (.sq none .d (.sq none .d (.sq none .d (.sq (some [.ot 6 .Y]) (.sq none .d (.bl (.lp [.kt
 0,.kt 1,.ot 6 .Y,.lt 7 (.I .i64)] .d))) .d)))) Tryz.f163 [(false,.I .i64),(false,.L .Y)] [(false,.S),(false,.B)] x=X8 x:=by kernel_rfl
def z5:=eS Tryz.func163 (by kernel_rfl) Zef
def Zee x:fX [.see pK,.see z5] [] .d Tryz.f148 [(true,BH)] [(false,.S),(false,.B)] x=I6 x:=by kernel_rfl
def gH:=eS Tryz.func148 (by kernel_rfl) Zee
end
end Go.Vs
