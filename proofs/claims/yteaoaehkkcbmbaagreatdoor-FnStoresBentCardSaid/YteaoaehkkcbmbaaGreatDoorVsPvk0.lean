import Derived.Test.YteaoaehkkcbmbaaGreatDoorProg
import Derived.Test.YteaoaehkkcbmbaaGreatDoorVsPv
set_option linter.all false
namespace Go.Vs
open Go.Proofs
set_option maxRecDepth 100000
noncomputable section
def ar:Tryz.prog.follows .mixedOrders=true:=by kernel_rfl
abbrev pg:Program:=Tryz.prog
abbrev lh:Ty:=.L (.L .Y)
abbrev I5:Ty:=.P (.I .i64) .B
abbrev BH:Ty:=.P (.I .i64) (.L .Y)
abbrev we:Ty:=.P (.I .i64) (.H .Y)
abbrev ED:Ty:=.P (.I .i64) (.I .i64)
abbrev wg:Ty:=.L BH
abbrev Lt:Ty:=.P (.L .Y) I5
abbrev Fe:Ty:=.P (.L .Y) ED
abbrev Ca:Ty:=.P (.I .i64) ED
abbrev Xe:Ty:=.L Ca
abbrev txK:Ty:=.P BH I5
abbrev txL:Ty:=.P we I5
abbrev wh:Ty:=.P wg I5
abbrev txN:Ty:=.P (.I .i64) Ca
abbrev txO:Ty:=.P (.I .i64) Xe
abbrev wi:Ty:=.P .S txN
abbrev DR:Ty:=.P lh wh
abbrev txR:Ty:=.P .B wi
abbrev txS:Ty:=.P BH txK
abbrev txT:Ty:=.P we txL
abbrev Bs:Ty:=.P .S txS
abbrev Pt:Ty:=.P .S txT
abbrev txW:Ty:=.P (.I .i64) txR
abbrev Xf:Ty:=.L Bs
abbrev ll:Ty:=.L Pt
abbrev txZ:Ty:=.P (.I .i64) txW
abbrev Zo1:Ty:=.P (.I .i64) txZ
abbrev Zo2:Ty:=.P .S Zo1
abbrev li:Ty:=.P (.I .i64) Zo2
abbrev Zo3:Ty:=.P Bs wi
abbrev GM:Ty:=.P Xf txO
abbrev DC:Ty:=.P (.I .i64) Zo3
abbrev lj:Ty:=.L DC
abbrev Zo4:Ty:=.P GM ED
abbrev Fd:Ty:=.P DR Zo4
abbrev fX (Φ:List (Fx pg)) (H:List (Nat×Hn)) (b:An) (fn:Func) (a c:List (Bool×Ty)) (x:Tp (a.map (·.2))):=gy Φ H (K0 pg fn) b (LN pg fn) a c x
abbrev fG (Φ:List (Fx pg)) (H:List (Nat×Hn)) (b:An) (fn:Func) (a:List GArg) (c:List (Bool×Ty)) (x:Tp (DH a)):=gx Φ H (K0 pg fn) b (LN pg fn) a c x
abbrev fC (Φ:List (Fx pg)) (H:List (Nat×Hn)) (a:An) (fn:Func) (x:List UInt8):=qP Φ H (K0 pg fn) a (LN pg fn) x
abbrev fH (Φ:List (Fx pg)) (H:List (Nat×Hn)) (b:An) (fn:Func) (n:Nat) (c:FuncId) (a:List GArg) (d:List (Bool×Ty)) (x:Tp (DH a)):=qQ Φ H (K0 pg fn) b (LN pg fn) n c a d x
def eS{Φ:List (Fx pg)}{H:List (Nat×Hn)}{c:An}{fn:Func}{f:FuncId}{a b:List (Bool×Ty)}{F:Tp (a.map (·.2))->Option (Tp (b.map (·.2)))}(d:pg.funcs[f]?= some fn)(e:Mf pg fn a.length (QB a)=true)(h:∀x,fX Φ H c fn a b x=F x):SEnt pg:=⟨f,a,b,F,Zl5 ar d e h⟩
def eG{Φ:List (Fx pg)}{H:List (Nat×Hn)}{c:An}{fn:Func}{f:FuncId}{a:List GArg}{b:List (Bool×Ty)}{F:Tp (DH a)->Option (Tp (GB a b))}(d:pg.funcs[f]?= some fn)(e:Mf pg fn a.length (GA a)=true)(h:∀x,fG Φ H c fn a b x=F x):GEnt pg:=⟨f,a,b,F,Zl0 ar d e h⟩
def eC{Φ:List (Fx pg)}{H:List (Nat×Hn)}{a:An}{fn:Func}{f:FuncId}{F:List UInt8->Option Int}(b:pg.funcs[f]?= some fn)(c:Mf pg fn 1 (GA Sn)=true)(h:∀x,fC Φ H a fn x=F x):CEnt pg:=⟨f,F,Zj6 ar b c h⟩
def eH{Φ:List (Fx pg)}{H:List (Nat×Hn)}{d:An}{fn:Func}{f c:FuncId}{n:Nat}{a:List GArg}{b:List (Bool×Ty)}{F:Tp (DH a)->Option (Tp (GB a b))}(e:pg.funcs[f]?= some fn)(g:Mf pg fn (n+1) (GA a&&Nat.ble n a.length)=true)(h:∀x,fH Φ H d fn n c a b x=F x):HEnt pg:=⟨f,c,n,a,b,F,Zl1 ar e g h⟩
def Zd2 x:fX [] [] .d Tryz.f4 [(false,.L .Y)] [(false,.B)] x=R2 x:=by kernel_rfl
def zT:=eS Tryz.func4 (by kernel_rfl) Zd2
def Zgl x:fC [] [] (.sq none .d (.sq none .d (.sq (some [.kt 0,.lt 3 (.I .i64)]) (.sq none .d (.bl (.lp [.kt 0,.lt 3 (.I .i64),.lt 4 (.I .i64)] .d))) .d))) Tryz.f24
 x=Oa x:=by kernel_rfl
def Vu:=eC Tryz.func24 (by kernel_rfl) Zgl
def Zgi x:fX [] [] .d Tryz.f52 [(false,.I .i64),(false,.I .i64),(false,.I .i64)] [(false,.B)] x=BU x:=by kernel_rfl
def Fi:=eS Tryz.func52 (by kernel_rfl) Zgi
def Zeg x:fX [.see Fi] [(17,.el .Y),(18,.el (.L .Y)),(19,.el (.L .Y))] (.sq none .d (.sq none .d (.sq none .d (.sq (some [.kt 2,.bx 3 [.O (.L .Y),.K,.K,
 .K]]) (.sq none .d (.bl (.lp [.kt 0,.kt 2,.bx 3 [.O (.L .Y),.K,.K,.K],.lt 4 (.I .i64)] .d))) .d)))) Tryz.f65 [(false,.I .i64)] [(true,DR)] x=Ua x:=by
 kernel_rfl
def pL:=eS Tryz.func65 (by kernel_rfl) Zeg
def Zg5 x:fX [] [(5,.el .Y),(8,.el .Y)] .d Tryz.f158 [(true,BH)] [(true,BH)] x=M5 x:=by kernel_rfl
def p6:=eS Tryz.func158 (by kernel_rfl) Zg5
def Zg8 x:fX [.see p6] [] .d Tryz.f126 [(true,Bs)] [(true,Bs)] x=Kc x:=by kernel_rfl
def Vv:=eS Tryz.func126 (by kernel_rfl) Zg8
def Ze8 x:fX [.see Vv] [(9,.el DC),(25,.el DC),(26,.el DC),(54,.el DC),(55,.el DC)] (.sq none .d (.sq none .d (.sq (some [.kt 1,.ot 3
 DC]) (.sq none .d (.bl (.lp [.kt 1,.ot 3 DC,.lt 4 (.I .i64)] .d))) (.sq (some [.ot 3 DC]) (.sq none .d (.bl (.lp [.kt 1,.ot 3 DC,.lt 5 (.I .i64)] .d))) .d))))
 Tryz.f111 [(true,GM)] [(false,lj)] x=Uk x:=by kernel_rfl
def zo:=eS Tryz.func111 (by kernel_rfl) Ze8
def Zga x:fX [] [] .d Tryz.f49 [(false,.I .i64),(false,.I .i64)] [(false,.I .i64)] x=L2 x:=by kernel_rfl
def ZN:=eS Tryz.func49 (by kernel_rfl) Zga
def Zhb x:fX [] [] .d Tryz.f147 [(true,BH)] [(false,.B)] x=Ob x:=by kernel_rfl
def p9:=eS Tryz.func147 (by kernel_rfl) Zhb
def Zfy x:fX [.see p9] [] .d Tryz.f139 [(true,Bs)] [(false,.B)] x=XP x:=by kernel_rfl
def Zad:=eS Tryz.func139 (by kernel_rfl) Zfy
def Zey x:fX [.see Fi] [] (.sq none .d (.sq (some [.kt 0]) (.sq none .d (.bl (.lp [.kt 0,.lt 3 (.I .i64)] .d))) .d)) Tryz.f140 [(false,.S)] [(false,.B)] x =
 P8 x:=by kernel_rfl
def gK:=eS Tryz.func140 (by kernel_rfl) Zey
def Zhc x:fX [] [] .d Tryz.f135 [(true,Bs)] [(false,.B)] x=Ea x:=by kernel_rfl
def ZP:=eS Tryz.func135 (by kernel_rfl) Zhc
def Zha x:fX [] [] .d Tryz.f137 [(true,Bs)] [(false,.B)] x=Df x:=by kernel_rfl
def Vx:=eS Tryz.func137 (by kernel_rfl) Zha
def Zgz x:fX [.see Fi] [] .d Tryz.f164 [(false,.I .i64)] [(false,.B)] x=PG x:=by kernel_rfl
def g7:=eS Tryz.func164 (by kernel_rfl) Zgz
end
end Go.Vs
