import Derived.Test.YtmfmjngkbddenaaGreatDoorProg
import Derived.Test.YtmfmjngkbddenaaGreatDoorVsPt
set_option linter.all false
namespace Go.Vs
open Go.Proofs
set_option maxRecDepth 100000
noncomputable section
theorem Zgg:Tryz.prog.follows .mixedOrders=true:=by kernel_rfl
abbrev pg:Program:=Tryz.prog
abbrev txA:Ty:=.L (.L .Y)
abbrev txB:Ty:=.P (.I .i64) .B
abbrev txC:Ty:=.P (.I .i64) (.L .Y)
abbrev txD:Ty:=.P (.I .i64) (.H .Y)
abbrev txE:Ty:=.P (.I .i64) (.I .i64)
abbrev txF:Ty:=.L txC
abbrev txG:Ty:=.P (.L .Y) txB
abbrev txH:Ty:=.P (.L .Y) txE
abbrev txI:Ty:=.P (.I .i64) txE
abbrev txJ:Ty:=.L txI
abbrev txK:Ty:=.P txC txB
abbrev txL:Ty:=.P txD txB
abbrev txM:Ty:=.P txF txB
abbrev txN:Ty:=.P (.I .i64) txI
abbrev txO:Ty:=.P (.I .i64) txJ
abbrev txP:Ty:=.P .S txN
abbrev txQ:Ty:=.P txA txM
abbrev txR:Ty:=.P .B txP
abbrev txS:Ty:=.P txC txK
abbrev txT:Ty:=.P txD txL
abbrev txU:Ty:=.P .S txS
abbrev txV:Ty:=.P .S txT
abbrev txW:Ty:=.P (.I .i64) txR
abbrev txX:Ty:=.L txU
abbrev txY:Ty:=.L txV
abbrev txZ:Ty:=.P (.I .i64) txW
abbrev Ywk:Ty:=.P (.I .i64) txZ
abbrev Ywl:Ty:=.P .S Ywk
abbrev Zqt:Ty:=.P (.I .i64) Ywl
abbrev Ywm:Ty:=.P txU txP
abbrev G8:Ty:=.P txX txO
abbrev C9:Ty:=.P (.I .i64) Ywm
abbrev Zqu:Ty:=.L C9
abbrev Ywn:Ty:=.P G8 txE
abbrev Jc:Ty:=.P txQ Ywn
abbrev fX (Φ:List (Fx pg)) (H:List (Nat×Hn)) (an:An) (fn:Func) (args rs:List (Bool×Ty)) (x:Tp (args.map (·.2))):=fnX Φ H (sOf pg fn) an (iOf pg fn) args rs x
abbrev fG (Φ:List (Fx pg)) (H:List (Nat×Hn)) (an:An) (fn:Func) (ga:List GArg) (rs:List (Bool×Ty)) (x:Tp (Cy ga)):=fnG Φ H (sOf pg fn) an (iOf pg fn) ga rs x
abbrev fC (Φ:List (Fx pg)) (H:List (Nat×Hn)) (an:An) (fn:Func) (x:List UInt8):=fnC Φ H (sOf pg fn) an (iOf pg fn) x
abbrev fH (Φ:List (Fx pg)) (H:List (Nat×Hn)) (an:An) (fn:Func) (n:Nat) (gi:FuncId) (ga:List GArg) (rs:List (Bool×Ty)) (x:Tp (Cy ga)):=fnH Φ H (sOf pg fn) an (iOf pg fn) n gi ga rs x
def eS {Φ:List (Fx pg)}{H:List (Nat×Hn)}{an:An}{fn:Func}{f:FuncId}{args rs:List (Bool×Ty)}{F:Tp (args.map (·.2))->Option (Tp (rs.map (·.2)))}(hf:pg.funcs[f]? = some fn) (hk:okF pg fn args.length (S9 args)=true) (h:∀x,fX Φ H an fn args rs x=F x):SEnt pg:=⟨f,args,rs,F,Yta Zgg hf hk h⟩
def eG {Φ:List (Fx pg)}{H:List (Nat×Hn)}{an:An}{fn:Func}{f:FuncId}{ga:List GArg}{rs:List (Bool×Ty)}{F:Tp (Cy ga)->Option (Tp (Fo ga rs))}(hf:pg.funcs[f]? = some fn) (hk:okF pg fn ga.length (okG ga)=true) (h:∀x,fG Φ H an fn ga rs x=F x):GEnt pg:=⟨f,ga,rs,F,Ys5 Zgg hf hk h⟩
def eC {Φ:List (Fx pg)}{H:List (Nat×Hn)}{an:An}{fn:Func}{f:FuncId}{F:List UInt8->Option Int}(hf:pg.funcs[f]? = some fn) (hk:okF pg fn 1 (okG Vc)=true) (h:∀x,fC Φ H an fn x=F x):CEnt pg:=⟨f,F,Yq1 Zgg hf hk h⟩
def eH {Φ:List (Fx pg)}{H:List (Nat×Hn)}{an:An}{fn:Func}{f gi:FuncId}{n:Nat}{ga:List GArg}{rs:List (Bool×Ty)}{F:Tp (Cy ga)->Option (Tp (Fo ga rs))}(hf:pg.funcs[f]? = some fn) (hk:okF pg fn (n+1) (okG ga&&Nat.ble n ga.length)=true) (h:∀x,fH Φ H an fn n gi ga rs x=F x):HEnt pg:=⟨f,gi,n,ga,rs,F,Ys6 Zgg hf hk h⟩
theorem Ylt x:fX [] [] .d Tryz.f26 [(false,.L .Y)] [(false,.B)] x=Un x:=by kernel_rfl
def Yg8:=eS Tryz.func26 (by kernel_rfl) Ylt
theorem Ynh x:fC [] [] (.sq none .d (.sq none .d (.sq (some [.kt 0,.lt 3 (.I .i64)]) (.sq none .d (.bl (.lp [.kt 0,.lt 3 (.I .i64),.lt 4 (.I .i64)] .d))) .d))) Tryz.f77
 x=Zc4 x:=by kernel_rfl
def Yh9:=eC Tryz.func77 (by kernel_rfl) Ynh
theorem Yne x:fX [] [] .d Tryz.f91 [(false,.I .i64),(false,.I .i64),(false,.I .i64)] [(false,.B)] x=B6 x:=by kernel_rfl
def Fn:=eS Tryz.func91 (by kernel_rfl) Yne
theorem Yl4 x:fX [.see Fn] [(17,.el .Y),(18,.el (.L .Y)),(19,.el (.L .Y))] (.sq none .d (.sq none .d (.sq none .d (.sq (some [.kt 2,.bx 3 [.O (.L .Y),.K,.K,
 .K]]) (.sq none .d (.bl (.lp [.kt 0,.kt 2,.bx 3 [.O (.L .Y),.K,.K,.K],.lt 4 (.I .i64)] .d))) .d)))) Tryz.f104 [(false,.I .i64)] [(true,txQ)] x=Zcs x:=by
 kernel_rfl
def Yhf:=eS Tryz.func104 (by kernel_rfl) Yl4
theorem Ynw x:fX [] [(5,.el .Y),(8,.el .Y)] .d Tryz.f217 [(true,txC)] [(true,txC)] x=Ny x:=by kernel_rfl
def Zud:=eS Tryz.func217 (by kernel_rfl) Ynw
theorem Ynx x:fX [.see Zud] [] .d Tryz.f182 [(true,txU)] [(true,txU)] x=J3 x:=by kernel_rfl
def Zj:=eS Tryz.func182 (by kernel_rfl) Ynx
theorem Yml x:fX [.see Zj] [(9,.el C9),(25,.el C9),(26,.el C9),(54,.el C9),(55,.el C9)] (.sq none .d (.sq none .d (.sq (some [.kt 1,.ot 3
 C9]) (.sq none .d (.bl (.lp [.kt 1,.ot 3 C9,.lt 4 (.I .i64)] .d))) (.sq (some [.ot 3 C9]) (.sq none .d (.bl (.lp [.kt 1,.ot 3 C9,.lt 5 (.I .i64)] .d))) .d))))
 Tryz.f173 [(true,G8)] [(false,Zqu)] x=Ya x:=by kernel_rfl
def Yhp:=eS Tryz.func173 (by kernel_rfl) Yml
theorem Ym9 x:fX [] [] .d Tryz.f88 [(false,.I .i64),(false,.I .i64)] [(false,.I .i64)] x=Uw x:=by kernel_rfl
def Zua:=eS Tryz.func88 (by kernel_rfl) Ym9
theorem Yn0 x:fX [] [] .d Tryz.f213 [(true,txC)] [(false,.B)] x=P1 x:=by kernel_rfl
def Zue:=eS Tryz.func213 (by kernel_rfl) Yn0
theorem Ym2 x:fX [.see Zue] [] .d Tryz.f205 [(true,txU)] [(false,.B)] x=Zc2 x:=by kernel_rfl
def Yh0:=eS Tryz.func205 (by kernel_rfl) Ym2
theorem Ymc x:fX [.see Fn] [] (.sq none .d (.sq (some [.kt 0]) (.sq none .d (.bl (.lp [.kt 0,.lt 3 (.I .i64)] .d))) .d)) Tryz.f206 [(false,.S)] [(false,.B)] x =
 Rt x:=by kernel_rfl
def Zli:=eS Tryz.func206 (by kernel_rfl) Ymc
theorem Yn1 x:fX [] [] .d Tryz.f201 [(true,txU)] [(false,.B)] x=Dh x:=by kernel_rfl
def Zlo:=eS Tryz.func201 (by kernel_rfl) Yn1
theorem Ynz x:fX [] [] .d Tryz.f203 [(true,txU)] [(false,.B)] x=Cn x:=by kernel_rfl
def Ze8:=eS Tryz.func203 (by kernel_rfl) Ynz
theorem Ynr x:fX [.see Fn] [] .d Tryz.f230 [(false,.I .i64)] [(false,.B)] x=Rx x:=by kernel_rfl
def Zln:=eS Tryz.func230 (by kernel_rfl) Ynr
end
end Go.Vs
