import Derived.Test.YtmfmjngkbddenaaGreatDoorProg
import Derived.Test.YtmfmjngkbddenaaGreatDoorVsPt
set_option linter.all false
namespace Go.Vs
open Go.Proofs
set_option maxRecDepth 100000
noncomputable section
theorem Zgp:Tryz.prog.follows .mixedOrders=true:=by kernel_rfl
abbrev pg:Program:=Tryz.prog
abbrev txA:Ty:=.L (.L .Y)
abbrev txB:Ty:=.P (.I .i64) .B
abbrev txC:Ty:=.P (.I .i64) (.L .Y)
abbrev txD:Ty:=.P (.I .i64) (.H .Y)
abbrev txE:Ty:=.P (.I .i64) (.I .i64)
abbrev txF:Ty:=.L txC
abbrev txG:Ty:=.P (.L .Y) txB
abbrev txH:Ty:=.P (.L .Y) txE
abbrev txI:Ty:=.P (.I .i64) txE
abbrev txJ:Ty:=.L txI
abbrev txK:Ty:=.P txC txB
abbrev txL:Ty:=.P txD txB
abbrev txM:Ty:=.P txF txB
abbrev txN:Ty:=.P (.I .i64) txI
abbrev txO:Ty:=.P (.I .i64) txJ
abbrev txP:Ty:=.P .S txN
abbrev txQ:Ty:=.P txA txM
abbrev txR:Ty:=.P .B txP
abbrev txS:Ty:=.P txC txK
abbrev txT:Ty:=.P txD txL
abbrev txU:Ty:=.P .S txS
abbrev txV:Ty:=.P .S txT
abbrev txW:Ty:=.P (.I .i64) txR
abbrev txX:Ty:=.L txU
abbrev txY:Ty:=.L txV
abbrev txZ:Ty:=.P (.I .i64) txW
abbrev Yw1:Ty:=.P (.I .i64) txZ
abbrev Yw2:Ty:=.P .S Yw1
abbrev Zrc:Ty:=.P (.I .i64) Yw2
abbrev Yw3:Ty:=.P txU txP
abbrev Hb:Ty:=.P txX txO
abbrev Db:Ty:=.P (.I .i64) Yw3
abbrev Zrd:Ty:=.L Db
abbrev Yw4:Ty:=.P Hb txE
abbrev Je:Ty:=.P txQ Yw4
abbrev fX (Φ:List (Fx pg)) (H:List (Nat×Hn)) (an:An) (fn:Func) (args rs:List (Bool×Ty)) (x:Tp (args.map (·.2))):=fnX Φ H (sOf pg fn) an (iOf pg fn) args rs x
abbrev fG (Φ:List (Fx pg)) (H:List (Nat×Hn)) (an:An) (fn:Func) (ga:List GArg) (rs:List (Bool×Ty)) (x:Tp (C3 ga)):=fnG Φ H (sOf pg fn) an (iOf pg fn) ga rs x
abbrev fC (Φ:List (Fx pg)) (H:List (Nat×Hn)) (an:An) (fn:Func) (x:List UInt8):=fnC Φ H (sOf pg fn) an (iOf pg fn) x
abbrev fH (Φ:List (Fx pg)) (H:List (Nat×Hn)) (an:An) (fn:Func) (n:Nat) (gi:FuncId) (ga:List GArg) (rs:List (Bool×Ty)) (x:Tp (C3 ga)):=fnH Φ H (sOf pg fn) an (iOf pg fn) n gi ga rs x
def eS {Φ:List (Fx pg)}{H:List (Nat×Hn)}{an:An}{fn:Func}{f:FuncId}{args rs:List (Bool×Ty)}{F:Tp (args.map (·.2))->Option (Tp (rs.map (·.2)))}(hf:pg.funcs[f]? = some fn) (hk:okF pg fn args.length (Tl args)=true) (h:∀x,fX Φ H an fn args rs x=F x):SEnt pg:=⟨f,args,rs,F,Ytr Zgp hf hk h⟩
def eG {Φ:List (Fx pg)}{H:List (Nat×Hn)}{an:An}{fn:Func}{f:FuncId}{ga:List GArg}{rs:List (Bool×Ty)}{F:Tp (C3 ga)->Option (Tp (Fo ga rs))}(hf:pg.funcs[f]? = some fn) (hk:okF pg fn ga.length (okG ga)=true) (h:∀x,fG Φ H an fn ga rs x=F x):GEnt pg:=⟨f,ga,rs,F,Ytm Zgp hf hk h⟩
def eC {Φ:List (Fx pg)}{H:List (Nat×Hn)}{an:An}{fn:Func}{f:FuncId}{F:List UInt8->Option Int}(hf:pg.funcs[f]? = some fn) (hk:okF pg fn 1 (okG Vl)=true) (h:∀x,fC Φ H an fn x=F x):CEnt pg:=⟨f,F,Yrj Zgp hf hk h⟩
def eH {Φ:List (Fx pg)}{H:List (Nat×Hn)}{an:An}{fn:Func}{f gi:FuncId}{n:Nat}{ga:List GArg}{rs:List (Bool×Ty)}{F:Tp (C3 ga)->Option (Tp (Fo ga rs))}(hf:pg.funcs[f]? = some fn) (hk:okF pg fn (n+1) (okG ga&&Nat.ble n ga.length)=true) (h:∀x,fH Φ H an fn n gi ga rs x=F x):HEnt pg:=⟨f,gi,n,ga,rs,F,Ytn Zgp hf hk h⟩
theorem Ymc x:fX [] [] .d Tryz.f26 [(false,.L .Y)] [(false,.B)] x=Uw x:=by kernel_rfl
def Yhp:=eS Tryz.func26 (by kernel_rfl) Ymc
theorem Yn0 x:fC [] [] (.sq none .d (.sq none .d (.sq (some [.kt 0,.lt 3 (.I .i64)]) (.sq none .d (.bl (.lp [.kt 0,.lt 3 (.I .i64),.lt 4 (.I .i64)] .d))) .d))) Tryz.f77
 x=Zdd x:=by kernel_rfl
def Yiq:=eC Tryz.func77 (by kernel_rfl) Yn0
theorem Ynx x:fX [] [] .d Tryz.f91 [(false,.I .i64),(false,.I .i64),(false,.I .i64)] [(false,.B)] x=B8 x:=by kernel_rfl
def Fn:=eS Tryz.func91 (by kernel_rfl) Ynx
theorem Ymn x:fX [.see Fn] [(17,.el .Y),(18,.el (.L .Y)),(19,.el (.L .Y))] (.sq none .d (.sq none .d (.sq none .d (.sq (some [.kt 2,.bx 3 [.O (.L .Y),.K,.K,
 .K]]) (.sq none .d (.bl (.lp [.kt 0,.kt 2,.bx 3 [.O (.L .Y),.K,.K,.K],.lt 4 (.I .i64)] .d))) .d)))) Tryz.f104 [(false,.I .i64)] [(true,txQ)] x=Zc1 x:=by
 kernel_rfl
def Yhw:=eS Tryz.func104 (by kernel_rfl) Ymn
theorem Yof x:fX [] [(5,.el .Y),(8,.el .Y)] .d Tryz.f217 [(true,txC)] [(true,txC)] x=N0 x:=by kernel_rfl
def Zuv:=eS Tryz.func217 (by kernel_rfl) Yof
theorem Yog x:fX [.see Zuv] [] .d Tryz.f182 [(true,txU)] [(true,txU)] x=J5 x:=by kernel_rfl
def Zu:=eS Tryz.func182 (by kernel_rfl) Yog
theorem Ym4 x:fX [.see Zu] [(9,.el Db),(25,.el Db),(26,.el Db),(54,.el Db),(55,.el Db)] (.sq none .d (.sq none .d (.sq (some [.kt 1,.ot 3
 Db]) (.sq none .d (.bl (.lp [.kt 1,.ot 3 Db,.lt 4 (.I .i64)] .d))) (.sq (some [.ot 3 Db]) (.sq none .d (.bl (.lp [.kt 1,.ot 3 Db,.lt 5 (.I .i64)] .d))) .d))))
 Tryz.f173 [(true,Hb)] [(false,Zrd)] x=Ym x:=by kernel_rfl
def Yh6:=eS Tryz.func173 (by kernel_rfl) Ym4
theorem Yns x:fX [] [] .d Tryz.f88 [(false,.I .i64),(false,.I .i64)] [(false,.I .i64)] x=U6 x:=by kernel_rfl
def Zus:=eS Tryz.func88 (by kernel_rfl) Yns
theorem Yoj x:fX [] [] .d Tryz.f213 [(true,txC)] [(false,.B)] x=P3 x:=by kernel_rfl
def Zuw:=eS Tryz.func213 (by kernel_rfl) Yoj
theorem Ynl x:fX [.see Zuw] [] .d Tryz.f205 [(true,txU)] [(false,.B)] x=Zdb x:=by kernel_rfl
def Yih:=eS Tryz.func205 (by kernel_rfl) Ynl
theorem Ymv x:fX [.see Fn] [] (.sq none .d (.sq (some [.kt 0]) (.sq none .d (.bl (.lp [.kt 0,.lt 3 (.I .i64)] .d))) .d)) Tryz.f206 [(false,.S)] [(false,.B)] x =
 R4 x:=by kernel_rfl
def Zlv:=eS Tryz.func206 (by kernel_rfl) Ymv
theorem Yok x:fX [] [] .d Tryz.f201 [(true,txU)] [(false,.B)] x=Dl x:=by kernel_rfl
def Zl1:=eS Tryz.func201 (by kernel_rfl) Yok
theorem Yoi x:fX [] [] .d Tryz.f203 [(true,txU)] [(false,.B)] x=Cr x:=by kernel_rfl
def Zfh:=eS Tryz.func203 (by kernel_rfl) Yoi
theorem Yoa x:fX [.see Fn] [] .d Tryz.f230 [(false,.I .i64)] [(false,.B)] x=R8 x:=by kernel_rfl
def Zl0:=eS Tryz.func230 (by kernel_rfl) Yoa
end
end Go.Vs
