import Derived.Test.YtmpopjdcbabchaaGreatDoorProg
import Derived.Test.YtmpopjdcbabchaaGreatDoorVsPu
set_option linter.all false
namespace Go.Vs
open Go.Proofs
set_option maxRecDepth 100000
noncomputable section
theorem mixed_Pu:Tryz.prog.follows .mixedOrders=true:=by kernel_rfl
abbrev pg:Program:=Tryz.prog
abbrev txA:Ty:=.P (.I .i64) .B
abbrev txB:Ty:=.P (.I .i64) (.L .Y)
abbrev txC:Ty:=.P (.I .i64) (.H .Y)
abbrev txD:Ty:=.P (.I .i64) (.I .i64)
abbrev txE:Ty:=.P (.L .Y) txD
abbrev txF:Ty:=.P (.I .i64) txD
abbrev txG:Ty:=.L txF
abbrev txH:Ty:=.P txB txA
abbrev txI:Ty:=.P txC txA
abbrev txJ:Ty:=.P (.I .i64) txF
abbrev txK:Ty:=.P (.I .i64) txG
abbrev txL:Ty:=.P .S txJ
abbrev txM:Ty:=.P .B txL
abbrev txN:Ty:=.P txB txH
abbrev txO:Ty:=.P txC txI
abbrev txP:Ty:=.P .S txN
abbrev txQ:Ty:=.P .S txO
abbrev txR:Ty:=.P (.I .i64) txM
abbrev txS:Ty:=.L txP
abbrev txT:Ty:=.L txQ
abbrev txU:Ty:=.P (.I .i64) txR
abbrev txV:Ty:=.P (.I .i64) txU
abbrev txW:Ty:=.P .S txV
abbrev txX:Ty:=.P (.I .i64) txW
abbrev txY:Ty:=.P txP txL
abbrev txZ:Ty:=.P txS txK
abbrev txAa:Ty:=.P (.I .i64) txY
abbrev fX (Φ:List (Fx pg)) (H:List (Nat×Hn)) (an:An) (fn:Func) (args rs:List (Bool×Ty)) (x:Tp (args.map (·.2))):=fnX Φ H (sOf pg fn) an (iOf pg fn) args rs x
abbrev fG (Φ:List (Fx pg)) (H:List (Nat×Hn)) (an:An) (fn:Func) (ga:List GArg) (rs:List (Bool×Ty)) (x:Tp (argTys ga)):=fnG Φ H (sOf pg fn) an (iOf pg fn) ga rs x
abbrev fC (Φ:List (Fx pg)) (H:List (Nat×Hn)) (an:An) (fn:Func) (x:List UInt8):=fnC Φ H (sOf pg fn) an (iOf pg fn) x
abbrev fH (Φ:List (Fx pg)) (H:List (Nat×Hn)) (an:An) (fn:Func) (n:Nat) (gi:FuncId) (ga:List GArg) (rs:List (Bool×Ty)) (x:Tp (argTys ga)):=fnH Φ H (sOf pg fn) an (iOf pg fn) n gi ga rs x
def eS {Φ:List (Fx pg)}{H:List (Nat×Hn)}{an:An}{fn:Func}{f:FuncId}{args rs:List (Bool×Ty)}{F:Tp (args.map (·.2))->Option (Tp (rs.map (·.2)))}(hf:pg.funcs[f]? = some fn) (hk:okF pg fn args.length (okArgs args)=true) (h:∀x,fX Φ H an fn args rs x=F x):SEnt pg:=⟨f,args,rs,F,runs_see mixed_Pu hf hk h⟩
def eG {Φ:List (Fx pg)}{H:List (Nat×Hn)}{an:An}{fn:Func}{f:FuncId}{ga:List GArg}{rs:List (Bool×Ty)}{F:Tp (argTys ga)->Option (Tp (outTys ga rs))}(hf:pg.funcs[f]? = some fn) (hk:okF pg fn ga.length (okG ga)=true) (h:∀x,fG Φ H an fn ga rs x=F x):GEnt pg:=⟨f,ga,rs,F,runs_gen mixed_Pu hf hk h⟩
def eC {Φ:List (Fx pg)}{H:List (Nat×Hn)}{an:An}{fn:Func}{f:FuncId}{F:List UInt8->Option Int}(hf:pg.funcs[f]? = some fn) (hk:okF pg fn 1 (okG curA)=true) (h:∀x,fC Φ H an fn x=F x):CEnt pg:=⟨f,F,makes_cur mixed_Pu hf hk h⟩
def eH {Φ:List (Fx pg)}{H:List (Nat×Hn)}{an:An}{fn:Func}{f gi:FuncId}{n:Nat}{ga:List GArg}{rs:List (Bool×Ty)}{F:Tp (argTys ga)->Option (Tp (outTys ga rs))}(hf:pg.funcs[f]? = some fn) (hk:okF pg fn (n+1) (okG ga&&Nat.ble n ga.length)=true) (h:∀x,fH Φ H an fn n gi ga rs x=F x):HEnt pg:=⟨f,gi,n,ga,rs,F,runs_hof mixed_Pu hf hk h⟩
theorem h_l_big x:fX [] [] .d Tryz.f7 [(false,.L .Y)] [(false,.B)] x=Zbl x:=by kernel_rfl
def e_l_big:=eS Tryz.func7 (by kernel_rfl) h_l_big
theorem h_s_l1New x:fC [] [] (.sq none .d (.sq none .d (.sq (some [.kt 0,.lt 3 (.I .i64)]) (.sq none .d (.bl (.lp [.kt 0,.lt 3 (.I .i64),.lt 4 (.I .i64)] .d))) .d))) Tryz.f39
 x=Zo x:=by kernel_rfl
def e_s_l1New:=eC Tryz.func39 (by kernel_rfl) h_s_l1New
theorem h_s_l1Byte x:fG [] [] (.sq none .d (.sq none .d (.sq none .d (.sq (some [.bx 0 [.K,.L (.I .i64),.K],.lt 3 (.I .i64)]) .d .d)))) Tryz.f107 [⟨true,false,txE,[.rx,
 .rd,.rd],(some txD)⟩] [(false,.I .i64)] x=Zz x:=by kernel_rfl
def e_s_l1Byte:=eG Tryz.func107 (by kernel_rfl) h_s_l1Byte
theorem h_s_l1Below x:fG [.gen e_s_l1Byte] [] .d Tryz.f78 [⟨true,false,txE,[.rx,.rd,.rd],(some txD)⟩,⟨false,false,.I .i64,[.rd],none⟩] [(false,.I .i64)] x =
 Zc x:=by kernel_rfl
def e_s_l1Below:=eG Tryz.func78 (by kernel_rfl) h_s_l1Below
theorem h_s_l3Cs x:fG [.gen e_s_l1Below] [] .d Tryz.f117 [⟨true,false,txE,[.rx,.rd,.rd],(some txD)⟩] [(false,.I .i64)] x=Zcy x:=by kernel_rfl
def e_s_l3Cs:=eG Tryz.func117 (by kernel_rfl) h_s_l3Cs
theorem h_s_l1Str x:fG [.gen e_s_l1Below] [] .d Tryz.f106 [⟨true,false,txE,[.rx,.rd,.rd],(some txD)⟩,⟨false,false,.L .S,[.rd],none⟩] [(false,.S)] x=Zbt x :=
 by kernel_rfl
def e_s_l1Str:=eG Tryz.func106 (by kernel_rfl) h_s_l1Str
theorem h_s_l1Name x:fG [.gen e_s_l1Str] [(4,.el .S)] .d Tryz.f77 [⟨true,false,txE,[.rx,.rd,.rd],(some txD)⟩] [(false,.S)] x=Zbm x:=by kernel_rfl
def e_s_l1Name:=eG Tryz.func77 (by kernel_rfl) h_s_l1Name
theorem h_s_l1Int x:fG [.gen e_s_l1Below] [] .d Tryz.f86 [⟨true,false,txE,[.rx,.rd,.rd],(some txD)⟩,⟨false,false,.L (.I .i64),[.rd],none⟩] [(false,.I .i64)] x =
 Zf x:=by kernel_rfl
def e_s_l1Int:=eG Tryz.func86 (by kernel_rfl) h_s_l1Int
theorem h_s_l2Sign x:fG [.gen e_s_l1Int] [(4,.el (.I .i64))] .d Tryz.f143 [⟨true,false,txE,[.rx,.rd,.rd],(some txD)⟩] [(false,.I .i64)] x=Zcz x:=by kernel_rfl
def e_s_l2Sign:=eG Tryz.func143 (by kernel_rfl) h_s_l2Sign
theorem h_s_l1In x:fX [] [] .d Tryz.f84 [(false,.I .i64),(false,.I .i64),(false,.I .i64)] [(false,.B)] x=Zb x:=by kernel_rfl
def e_s_l1In:=eS Tryz.func84 (by kernel_rfl) h_s_l1In
theorem h_s_l3Nine x:fX [] [] .d Tryz.f155 [(false,.I .i64)] [(false,.I .i64)] x=Zgc x:=by kernel_rfl
def e_s_l3Nine:=eS Tryz.func155 (by kernel_rfl) h_s_l3Nine
theorem h_s_l3Koi x:fX [] [(4,.el (.I .i64))] .d Tryz.f156 [(false,.I .i64)] [(false,.I .i64)] x=Zgd x:=by kernel_rfl
def e_s_l3Koi:=eS Tryz.func156 (by kernel_rfl) h_s_l3Koi
theorem h_s_l3Win x:fX [] [(4,.el (.I .i64))] .d Tryz.f157 [(false,.I .i64)] [(false,.I .i64)] x=Zge x:=by kernel_rfl
def e_s_l3Win:=eS Tryz.func157 (by kernel_rfl) h_s_l3Win
theorem h_s_ByteSign x:fX [.see e_s_l1In,.see e_s_l3Nine,.see e_s_l3Koi,.see e_s_l3Win] [] (.sq none .d (.sq none .d (.sq none .d (.sq (some [.lt 6 (.I .i64)]) .d .d))))
 Tryz.f144 [(false,.I .i64),(false,.I .i64)] [(false,.I .i64),(false,.B)] x=Zl x:=by kernel_rfl
def e_s_ByteSign:=eS Tryz.func144 (by kernel_rfl) h_s_ByteSign
end
end Go.Vs
