import Derived.Test.YtmfmjngkbddenaaGreatDoorProg
import Derived.Test.YtmfmjngkbddenaaGreatDoorVsPo
set_option linter.all false
namespace Go.Vs
open Go.Proofs
set_option maxRecDepth 100000
noncomputable section
theorem Zd2:Tryz.prog.follows .mixedOrders=true:=by kernel_rfl
abbrev pg:Program:=Tryz.prog
abbrev txA:Ty:=.L (.L .Y)
abbrev txB:Ty:=.P (.I .i64) .B
abbrev txC:Ty:=.P (.I .i64) (.L .Y)
abbrev txD:Ty:=.P (.I .i64) (.H .Y)
abbrev txE:Ty:=.P (.I .i64) (.I .i64)
abbrev txF:Ty:=.L txC
abbrev txH:Ty:=.P (.I .i64) txE
abbrev txI:Ty:=.L txH
abbrev txJ:Ty:=.P txC txB
abbrev txK:Ty:=.P txD txB
abbrev txL:Ty:=.P txF txB
abbrev txM:Ty:=.P (.I .i64) txH
abbrev txN:Ty:=.P (.I .i64) txI
abbrev txO:Ty:=.P .S txM
abbrev txP:Ty:=.P txA txL
abbrev txQ:Ty:=.P .B txO
abbrev txR:Ty:=.P txC txJ
abbrev txS:Ty:=.P txD txK
abbrev txT:Ty:=.P .S txR
abbrev txU:Ty:=.P .S txS
abbrev txV:Ty:=.P (.I .i64) txQ
abbrev txW:Ty:=.L txT
abbrev txX:Ty:=.L txU
abbrev txY:Ty:=.P (.I .i64) txV
abbrev txZ:Ty:=.P (.I .i64) txY
abbrev Yq8:Ty:=.P .S txZ
abbrev Znu:Ty:=.P (.I .i64) Yq8
abbrev Yq9:Ty:=.P txT txO
abbrev E3:Ty:=.P txW txN
abbrev Cd:Ty:=.P (.I .i64) Yq9
abbrev Znv:Ty:=.L Cd
abbrev Yra:Ty:=.P E3 txE
abbrev Ef:Ty:=.P txP Yra
abbrev fX (Φ:List (Fx pg)) (H:List (Nat×Hn)) (an:An) (fn:Func) (args rs:List (Bool×Ty)) (x:Tp (args.map (·.2))):=fnX Φ H (sOf pg fn) an (iOf pg fn) args rs x
abbrev fG (Φ:List (Fx pg)) (H:List (Nat×Hn)) (an:An) (fn:Func) (ga:List GArg) (rs:List (Bool×Ty)) (x:Tp (Co ga)):=fnG Φ H (sOf pg fn) an (iOf pg fn) ga rs x
abbrev fC (Φ:List (Fx pg)) (H:List (Nat×Hn)) (an:An) (fn:Func) (x:List UInt8):=fnC Φ H (sOf pg fn) an (iOf pg fn) x
abbrev fH (Φ:List (Fx pg)) (H:List (Nat×Hn)) (an:An) (fn:Func) (n:Nat) (gi:FuncId) (ga:List GArg) (rs:List (Bool×Ty)) (x:Tp (Co ga)):=fnH Φ H (sOf pg fn) an (iOf pg fn) n gi ga rs x
def eS {Φ:List (Fx pg)}{H:List (Nat×Hn)}{an:An}{fn:Func}{f:FuncId}{args rs:List (Bool×Ty)}{F:Tp (args.map (·.2))->Option (Tp (rs.map (·.2)))}(hf:pg.funcs[f]? = some fn) (hk:okF pg fn args.length (Rg args)=true) (h:∀x,fX Φ H an fn args rs x=F x):SEnt pg:=⟨f,args,rs,F,Yoe Zd2 hf hk h⟩
def eG {Φ:List (Fx pg)}{H:List (Nat×Hn)}{an:An}{fn:Func}{f:FuncId}{ga:List GArg}{rs:List (Bool×Ty)}{F:Tp (Co ga)->Option (Tp (E4 ga rs))}(hf:pg.funcs[f]? = some fn) (hk:okF pg fn ga.length (okG ga)=true) (h:∀x,fG Φ H an fn ga rs x=F x):GEnt pg:=⟨f,ga,rs,F,Yn9 Zd2 hf hk h⟩
def eC {Φ:List (Fx pg)}{H:List (Nat×Hn)}{an:An}{fn:Func}{f:FuncId}{F:List UInt8->Option Int}(hf:pg.funcs[f]? = some fn) (hk:okF pg fn 1 (okG Te)=true) (h:∀x,fC Φ H an fn x=F x):CEnt pg:=⟨f,F,Ymq Zd2 hf hk h⟩
def eH {Φ:List (Fx pg)}{H:List (Nat×Hn)}{an:An}{fn:Func}{f gi:FuncId}{n:Nat}{ga:List GArg}{rs:List (Bool×Ty)}{F:Tp (Co ga)->Option (Tp (E4 ga rs))}(hf:pg.funcs[f]? = some fn) (hk:okF pg fn (n+1) (okG ga&&Nat.ble n ga.length)=true) (h:∀x,fH Φ H an fn n gi ga rs x=F x):HEnt pg:=⟨f,gi,n,ga,rs,F,Yoa Zd2 hf hk h⟩
theorem Yia x:fX [] [] .d Tryz.f138 [(false,.L .Y),(false,.I .i64)] [(false,.I .i64)] x=Sh x:=by kernel_rfl
def Zig:=eS Tryz.func138 (by kernel_rfl) Yia
theorem Yib x:fX [.see Zig] [] (.sq none .d (.sq none .d (.sq none .d (.sq (some [.lt 1 (.I .i64)]) (.sq none .d (.bl (.lp [.kt 0,.lt 1 (.I .i64),.lt 5 (.I
 .i64)] .d))) .d)))) Tryz.f63 [(false,txA),(false,.I .i64)] [(false,.I .i64)] x=Zf2 x:=by kernel_rfl
def Yde:=eS Tryz.func63 (by kernel_rfl) Yib
theorem Yik x:fX [.see Zig] [] .d Tryz.f139 [(true,txC),(false,.I .i64)] [(false,.I .i64)] x=Zao x:=by kernel_rfl
def Ydm:=eS Tryz.func139 (by kernel_rfl) Yik
theorem Yil x:fX [.see Ydm] [] (.sq none .d (.sq none .d (.sq none .d (.sq (some [.lt 1 (.I .i64)]) (.sq none .d (.bl (.lp [.kt 0,.lt 1 (.I .i64),.lt 5 (.I .i64)]
 .d))) .d)))) Tryz.f64 [(false,txF),(false,.I .i64)] [(false,.I .i64)] x=Zf4 x:=by kernel_rfl
def Ydn:=eS Tryz.func64 (by kernel_rfl) Yil
theorem Yid x:fX [.see Yde,.see Ydn] [] .d Tryz.f20 [(true,txP),(false,.I .i64)] [(false,.I .i64)] x=Zaj x:=by kernel_rfl
def Ydg:=eS Tryz.func20 (by kernel_rfl) Yid
theorem Yic x:fX [.see Zig] [] .d Tryz.f120 [(true,txC),(false,.I .i64)] [(false,.I .i64)] x=Zai x:=by kernel_rfl
def Ydf:=eS Tryz.func120 (by kernel_rfl) Yic
theorem Yig x:fX [.see Ydf] [] .d Tryz.f50 [(true,txT),(false,.I .i64)] [(false,.I .i64)] x=Si x:=by kernel_rfl
def Zqr:=eS Tryz.func50 (by kernel_rfl) Yig
theorem Yih x:fX [.see Zqr] [] (.sq none .d (.sq none .d (.sq none .d (.sq (some [.lt 1 (.I .i64)]) (.sq none .d (.bl (.lp [.kt 0,.lt 1 (.I .i64),.lt 5 (.I .i64)]
 .d))) .d)))) Tryz.f118 [(false,txW),(false,.I .i64)] [(false,.I .i64)] x=Zal x:=by kernel_rfl
def Ydj:=eS Tryz.func118 (by kernel_rfl) Yih
theorem Yie x:fX [] [] .d Tryz.f119 [(false,txI),(false,.I .i64)] [(false,.I .i64)] x=Zf3 x:=by kernel_rfl
def Ydh:=eS Tryz.func119 (by kernel_rfl) Yie
theorem Yij x:fX [.see Ydj,.see Ydh] [] .d Tryz.f49 [(true,E3),(false,.I .i64)] [(false,.I .i64)] x=Zan x:=by kernel_rfl
def Ydl:=eS Tryz.func49 (by kernel_rfl) Yij
theorem Yii x:fX [.see Ydg,.see Ydl] [] .d Tryz.f9 [(true,Ef),(false,.I .i64)] [(false,.I .i64)] x=Zam x:=by kernel_rfl
def Ydk:=eS Tryz.func9 (by kernel_rfl) Yii
theorem Yif x:fX [.see Zqr] [] .d Tryz.f10 [(true,Cd),(false,.I .i64)] [(false,.I .i64)] x=Zak x:=by kernel_rfl
def Ydi:=eS Tryz.func10 (by kernel_rfl) Yif
theorem Yim x:fX [] [(7,.el .Y)] (.sq none .d (.sq none .d (.sq (some [.sr 3 .Y]) (.sq none .d (.bl (.lp [.kt 0,.sr 3 .Y,.lt 4 (.I .i64)] .d))) .d))) Tryz.f142
 [(false,.L .Y)] [(false,.L .Y)] x=Qa x:=by kernel_rfl
def Zih:=eS Tryz.func142 (by kernel_rfl) Yim
theorem Yin x:fX [.see Zih] [(7,.el (.L .Y))] (.sq none .d (.sq none .d (.sq (some [.sr 3 (.L .Y)]) (.sq none .d (.bl (.lp [.kt 0,.sr 3 (.L .Y),.lt 4 (.I
 .i64)] .d))) .d))) Tryz.f68 [(false,txA)] [(false,txA)] x=Zap x:=by kernel_rfl
def Ydo:=eS Tryz.func68 (by kernel_rfl) Yin
end
end Go.Vs
