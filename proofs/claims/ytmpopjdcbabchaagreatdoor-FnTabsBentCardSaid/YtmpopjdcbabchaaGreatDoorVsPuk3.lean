import Derived.Test.YtmpopjdcbabchaaGreatDoorProg
import Derived.Test.YtmpopjdcbabchaaGreatDoorVsPuk2
set_option linter.all false
namespace Go.Vs
open Go.Proofs
set_option maxRecDepth 100000
noncomputable section
theorem h_s_RowOk x:fX [.see e_s_NameOk,.see e_s_l1In,.see e_s_l9Old,.see e_s_l9None,.see e_s_l9New,.see e_s_CellText,.see e_s_CellOk,.see e_s_SameText] [] .d Tryz.f82
 [(true,txP)] [(false,.B)] x=Zm x:=by kernel_rfl
def e_s_RowOk:=eS Tryz.func82 (by kernel_rfl) h_s_RowOk
theorem h_s_Turn x:fX [.see e_s_CellText,.see e_s_CellOf,.see e_s_l8Copy] [] .d Tryz.f134 [(true,txB),(false,.I .i64)] [(true,txB),(false,.B)] x=Zbz x:=by
 kernel_rfl
def e_s_Turn:=eS Tryz.func134 (by kernel_rfl) h_s_Turn
theorem h_s_FillRow x:fX [.see e_s_l9Copy,.see e_s_RowOk,.see e_s_l9New,.see e_s_Turn] [] .d Tryz.f120 [(true,txP)] [(true,txP)] x=Zca x:=by kernel_rfl
def e_s_FillRow:=eS Tryz.func120 (by kernel_rfl) h_s_FillRow
theorem h_s_BackRow x:fX [.see e_s_l9Copy,.see e_s_RowOk,.see e_s_l9New,.see e_s_l9Old] [] .d Tryz.f121 [(true,txP)] [(true,txP)] x=Zcb x:=by kernel_rfl
def e_s_BackRow:=eS Tryz.func121 (by kernel_rfl) h_s_BackRow
theorem h_s_l9Draw x:fG [.gen e_s_l3Cs,.gen e_s_l1Name,.gen e_s_l1Below,.gen e_s_l5Text,.see e_s_RowOf,.gen e_s_l1Int,.see e_s_FillRow,.see e_s_BackRow] [(18,.el .Y),
 (43,.el (.I .i64))] (.sq none .d (.sq none .d (.sq none .d (.sq none .d (.sq none .d (.sq (some [.kt 0,.kt 2,.bx 7 [.L .S,.L (.I .i64),.O .Y,.L (.I .i64),.O .Y,.L (.I
 .i64),.L .B]]) .d .d)))))) Tryz.f85 [⟨true,false,txE,[.rx,.rd,.rd],(some txD)⟩] [(true,txP)] x=Zcc x:=by kernel_rfl
def e_s_l9Draw:=eG Tryz.func85 (by kernel_rfl) h_s_l9Draw
theorem h_s_l1Once x:fG [.gen e_s_l1Below] [] .d Tryz.f79 [⟨true,false,txE,[.rx,.rd,.rd],(some txD)⟩,⟨false,false,.I .i64,[.rd],none⟩] [(false,.B)] x=Zbo x
 := by kernel_rfl
def e_s_l1Once:=eG Tryz.func79 (by kernel_rfl) h_s_l1Once
theorem h_s_l11Draw x:fG [.gen e_s_l1Below,.gen e_s_l9Draw,.gen e_s_l1Name,.gen e_s_l1Once,.gen e_s_l1Int] [(37,.el (.I .i64))] (.sq none .d (.sq none .d (.sq (some [.bx 0
 [.K,.L (.I .i64),.L (.I .i64)],.kt 2,.bx 3 [.K,.L .S,.L (.I .i64),.O .Y,.L (.I .i64),.O .Y,.L (.I .i64),.L .B,.L .S,.L (.I .i64),.K,.K,.K]]) .d (.sq (some [.bx 0
 [.K,.L (.I .i64),.L (.I .i64)],.kt 2,.bx 3 [.K,.K,.K,.K,.K,.K,.K,.K,.K,.K,.L (.I .i64),.L (.I .i64),.L (.I .i64)]]) .d .d)))) Tryz.f41 [⟨true,false,txE,[.rx,
 .rd,.rd],(some txD)⟩] [(true,txAa)] x=Zbf x:=by kernel_rfl
def e_s_l11Draw:=eG Tryz.func41 (by kernel_rfl) h_s_l11Draw
theorem h_s_l12Copy x:fX [.see e_s_l9Copy] [(7,.el txF),(10,.el txF),(27,.el txP),(28,.el txP)] (.sq none .d (.sq none .d (.sq (some [.kt 2,.bx 3 [.O txP,.K,.K]]) (.sq
 none .d (.bl (.lp [.kt 1,.kt 2,.bx 3 [.O txP,.K,.K],.lt 4 (.I .i64)] .d))) .d))) Tryz.f47 [(true,txZ)] [(true,txZ)] x=Zbp x:=by kernel_rfl
def e_s_l12Copy:=eS Tryz.func47 (by kernel_rfl) h_s_l12Copy
theorem h_s_l1Word x:fX [.see e_s_l1In] [] .d Tryz.f116 [(false,.I .i64)] [(false,.B)] x=Zcd x:=by kernel_rfl
def e_s_l1Word:=eS Tryz.func116 (by kernel_rfl) h_s_l1Word
theorem h_s_l12Mark x:fX [.see e_s_l1In,.see e_s_l1Word] [] .d Tryz.f83 [(true,txF)] [(false,.B)] x=Zce x:=by kernel_rfl
def e_s_l12Mark:=eS Tryz.func83 (by kernel_rfl) h_s_l12Mark
theorem h_s_TabOk x:fX [.see e_s_RowOk,.see e_s_l12Mark,.see e_s_l1In] [] (.sq none .d (.sq (some [.kt 1]) (.sq none .d (.bl (.lp [.kt 1,.lt 3 (.I .i64)] .d))) (.sq (some [.kt
 1]) (.sq none .d (.bl (.lp [.kt 1,.lt 4 (.I .i64)] .d))) .d))) Tryz.f37 [(true,txZ)] [(false,.B)] x=Zbg x:=by kernel_rfl
def e_s_TabOk:=eS Tryz.func37 (by kernel_rfl) h_s_TabOk
theorem h_s_l11NoRow x:fX [.see e_s_l9None] [] .d Tryz.f87 [(true,txP)] [(false,.B)] x=Zdl x:=by kernel_rfl
def e_s_l11NoRow:=eS Tryz.func87 (by kernel_rfl) h_s_l11NoRow
theorem h_s_l11Who x:fX [.see e_s_l1In,.see e_s_l1Word] [] .d Tryz.f89 [(true,txAa)] [(false,.B)] x=Zfj x:=by kernel_rfl
def e_s_l11Who:=eS Tryz.func89 (by kernel_rfl) h_s_l11Who
theorem h_s_RecOk x:fX [.see e_s_l11NoRow,.see e_s_RowOk,.see e_s_NameOk,.see e_s_l1In,.see e_s_l11Who] [] (.sq none .d (.sq none .d (.sq none .d (.sq none .d (.sq (some [.kt
 1,.lt 3 .B,.lt 4 .B,.lt 5 .B]) .d .d))))) Tryz.f48 [(true,txAa)] [(false,.B)] x=Zdm x:=by kernel_rfl
def e_s_RecOk:=eS Tryz.func48 (by kernel_rfl) h_s_RecOk
end
end Go.Vs
