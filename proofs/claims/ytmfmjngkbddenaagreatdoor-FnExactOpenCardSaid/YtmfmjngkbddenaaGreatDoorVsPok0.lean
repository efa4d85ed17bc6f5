import Derived.Test.YtmfmjngkbddenaaGreatDoorProg
import Derived.Test.YtmfmjngkbddenaaGreatDoorVsPo
set_option linter.all false
namespace Go.Vs
open Go.Proofs
set_option maxRecDepth 100000
noncomputable section
theorem Zf3:Tryz.prog.follows .mixedOrders=true:=by kernel_rfl
abbrev pg:Program:=Tryz.prog
abbrev txA:Ty:=.L (.L .Y)
abbrev txB:Ty:=.P (.I .i64) .B
abbrev txC:Ty:=.P (.I .i64) (.L .Y)
abbrev txD:Ty:=.P (.I .i64) (.H .Y)
abbrev txE:Ty:=.P (.I .i64) (.I .i64)
abbrev txF:Ty:=.L txC
abbrev txG:Ty:=.P (.L .Y) txB
abbrev txH:Ty:=.P (.I .i64) txE
abbrev txI:Ty:=.L txH
abbrev txJ:Ty:=.P txC txB
abbrev txK:Ty:=.P txD txB
abbrev txL:Ty:=.P txF txB
abbrev txM:Ty:=.P (.I .i64) txH
abbrev txN:Ty:=.P (.I .i64) txI
abbrev txO:Ty:=.P .S txM
abbrev txP:Ty:=.P txA txL
abbrev txQ:Ty:=.P .B txO
abbrev txR:Ty:=.P txC txJ
abbrev txS:Ty:=.P txD txK
abbrev txT:Ty:=.P .S txR
abbrev txU:Ty:=.P .S txS
abbrev txV:Ty:=.P (.I .i64) txQ
abbrev txW:Ty:=.L txT
abbrev txX:Ty:=.L txU
abbrev txY:Ty:=.P (.I .i64) txV
abbrev txZ:Ty:=.P (.I .i64) txY
abbrev Yuy:Ty:=.P .S txZ
abbrev Zp9:Ty:=.P (.I .i64) Yuy
abbrev Yuz:Ty:=.P txT txO
abbrev Fn:Ty:=.P txW txN
abbrev Dn:Ty:=.P (.I .i64) Yuz
abbrev Zqa:Ty:=.L Dn
abbrev Yu0:Ty:=.P Fn txE
abbrev Gt:Ty:=.P txP Yu0
abbrev fX (Φ:List (Fx pg)) (H:List (Nat×Hn)) (an:An) (fn:Func) (args rs:List (Bool×Ty)) (x:Tp (args.map (·.2))):=fnX Φ H (sOf pg fn) an (iOf pg fn) args rs x
abbrev fG (Φ:List (Fx pg)) (H:List (Nat×Hn)) (an:An) (fn:Func) (ga:List GArg) (rs:List (Bool×Ty)) (x:Tp (C1 ga)):=fnG Φ H (sOf pg fn) an (iOf pg fn) ga rs x
abbrev fC (Φ:List (Fx pg)) (H:List (Nat×Hn)) (an:An) (fn:Func) (x:List UInt8):=fnC Φ H (sOf pg fn) an (iOf pg fn) x
abbrev fH (Φ:List (Fx pg)) (H:List (Nat×Hn)) (an:An) (fn:Func) (n:Nat) (gi:FuncId) (ga:List GArg) (rs:List (Bool×Ty)) (x:Tp (C1 ga)):=fnH Φ H (sOf pg fn) an (iOf pg fn) n gi ga rs x
def eS {Φ:List (Fx pg)}{H:List (Nat×Hn)}{an:An}{fn:Func}{f:FuncId}{args rs:List (Bool×Ty)}{F:Tp (args.map (·.2))->Option (Tp (rs.map (·.2)))}(hf:pg.funcs[f]? = some fn) (hk:okF pg fn args.length (Sr args)=true) (h:∀x,fX Φ H an fn args rs x=F x):SEnt pg:=⟨f,args,rs,F,Yr8 Zf3 hf hk h⟩
def eG {Φ:List (Fx pg)}{H:List (Nat×Hn)}{an:An}{fn:Func}{f:FuncId}{ga:List GArg}{rs:List (Bool×Ty)}{F:Tp (C1 ga)->Option (Tp (Fj ga rs))}(hf:pg.funcs[f]? = some fn) (hk:okF pg fn ga.length (okG ga)=true) (h:∀x,fG Φ H an fn ga rs x=F x):GEnt pg:=⟨f,ga,rs,F,Yr3 Zf3 hf hk h⟩
def eC {Φ:List (Fx pg)}{H:List (Nat×Hn)}{an:An}{fn:Func}{f:FuncId}{F:List UInt8->Option Int}(hf:pg.funcs[f]? = some fn) (hk:okF pg fn 1 (okG Uy)=true) (h:∀x,fC Φ H an fn x=F x):CEnt pg:=⟨f,F,Yp9 Zf3 hf hk h⟩
def eH {Φ:List (Fx pg)}{H:List (Nat×Hn)}{an:An}{fn:Func}{f gi:FuncId}{n:Nat}{ga:List GArg}{rs:List (Bool×Ty)}{F:Tp (C1 ga)->Option (Tp (Fj ga rs))}(hf:pg.funcs[f]? = some fn) (hk:okF pg fn (n+1) (okG ga&&Nat.ble n ga.length)=true) (h:∀x,fH Φ H an fn n gi ga rs x=F x):HEnt pg:=⟨f,gi,n,ga,rs,F,Yr4 Zf3 hf hk h⟩
theorem Yls x:fX [] [] .d Tryz.f138 [(false,.L .Y),(false,.I .i64)] [(false,.I .i64)] x=Xm x:=by kernel_rfl
def Ztb:=eS Tryz.func138 (by kernel_rfl) Yls
theorem Ylt x:fX [.see Ztb] [] (.sq none .d (.sq none .d (.sq none .d (.sq (some [.lt 1 (.I .i64)]) (.sq none .d (.bl (.lp [.kt 0,.lt 1 (.I .i64),.lt 5 (.I
 .i64)] .d))) .d)))) Tryz.f63 [(false,txA),(false,.I .i64)] [(false,.I .i64)] x=Zij x:=by kernel_rfl
def Ygy:=eS Tryz.func63 (by kernel_rfl) Ylt
theorem Ylv x:fX [.see Ztb] [] .d Tryz.f139 [(true,txC),(false,.I .i64)] [(false,.I .i64)] x=Zcf x:=by kernel_rfl
def Yg0:=eS Tryz.func139 (by kernel_rfl) Ylv
theorem Ylw x:fX [.see Yg0] [] (.sq none .d (.sq none .d (.sq none .d (.sq (some [.lt 1 (.I .i64)]) (.sq none .d (.bl (.lp [.kt 0,.lt 1 (.I .i64),.lt 5 (.I .i64)]
 .d))) .d)))) Tryz.f64 [(false,txF),(false,.I .i64)] [(false,.I .i64)] x=Zik x:=by kernel_rfl
def Yg1:=eS Tryz.func64 (by kernel_rfl) Ylw
theorem Ylu x:fX [.see Ygy,.see Yg1] [] .d Tryz.f20 [(true,txP),(false,.I .i64)] [(false,.I .i64)] x=Zce x:=by kernel_rfl
def Ygz:=eS Tryz.func20 (by kernel_rfl) Ylu
theorem Ylx x:fX [] [(7,.el .Y)] (.sq none .d (.sq none .d (.sq (some [.sr 3 .Y]) (.sq none .d (.bl (.lp [.kt 0,.sr 3 .Y,.lt 4 (.I .i64)] .d))) .d))) Tryz.f142
 [(false,.L .Y)] [(false,.L .Y)] x=T6 x:=by kernel_rfl
def Ztc:=eS Tryz.func142 (by kernel_rfl) Ylx
theorem Yly x:fX [.see Ztc] [(7,.el (.L .Y))] (.sq none .d (.sq none .d (.sq (some [.sr 3 (.L .Y)]) (.sq none .d (.bl (.lp [.kt 0,.sr 3 (.L .Y),.lt 4 (.I
 .i64)] .d))) .d))) Tryz.f68 [(false,txA)] [(false,txA)] x=Zcg x:=by kernel_rfl
def Yg2:=eS Tryz.func68 (by kernel_rfl) Yly
end
end Go.Vs
