import Derived.Test.YtmpopjdcbabchaaGreatDoorProg
import Derived.Test.YtmpopjdcbabchaaGreatDoorVsPuk1
set_option linter.all false
namespace Go.Vs
open Go.Proofs
set_option maxRecDepth 100000
noncomputable section
theorem h_s_NameOk x:fX [.see e_s_l1In] [] (.sq none .d (.sq (some [.kt 0]) (.sq none .d (.bl (.lp [.kt 0,.lt 3 (.I .i64)] .d))) .d)) Tryz.f88 [(false,.S)] [(false,.B)] x =
 Zbe x:=by kernel_rfl
def e_s_NameOk:=eS Tryz.func88 (by kernel_rfl) h_s_NameOk
theorem h_s_RowOf x:fX [.see e_s_CellOf,.see e_s_l1In,.see e_s_NameOk] [] (.sq none .d (.sq none .d (.sq none .d (.sq none .d (.sq (some [.kt 1,.bx 8 [.L .S,.L (.I .i64),.O
 .Y,.L (.I .i64),.O .Y,.L (.I .i64),.L .B],.kt 10,.kt 12,.kt 13]) (.sq none .d (.bl (.sq (some [.kt 1,.kt 8,.kt 10,.kt 12,.kt 13,.kt 43,.lt 44 .B]) .d (.cd .d (.sq
 (some [.kt 1,.kt 8,.kt 10,.kt 12,.kt 13,.kt 43,.lt 53 .B]) .d .d))))) .d))))) Tryz.f118 [(false,.I .i64),(false,.S),(false,.I .i64),(false,.S)] [(true,txP),(false,
 .I .i64)] x=Zbn x:=by kernel_rfl
def e_s_RowOf:=eS Tryz.func118 (by kernel_rfl) h_s_RowOf
theorem h_s_l8Copy x:fX [] [(5,.el .Y),(8,.el .Y)] .d Tryz.f109 [(true,txB)] [(true,txB)] x=Zr x:=by kernel_rfl
def e_s_l8Copy:=eS Tryz.func109 (by kernel_rfl) h_s_l8Copy
theorem h_s_l9Copy x:fX [.see e_s_l8Copy] [] .d Tryz.f81 [(true,txP)] [(true,txP)] x=Zh x:=by kernel_rfl
def e_s_l9Copy:=eS Tryz.func81 (by kernel_rfl) h_s_l9Copy
theorem h_s_l9Old x:fX [] [] .d Tryz.f110 [(true,txP)] [(false,.B)] x=Ze x:=by kernel_rfl
def e_s_l9Old:=eS Tryz.func110 (by kernel_rfl) h_s_l9Old
theorem h_s_l9None x:fX [] [] .d Tryz.f111 [(true,txB)] [(false,.B)] x=Zu x:=by kernel_rfl
def e_s_l9None:=eS Tryz.func111 (by kernel_rfl) h_s_l9None
theorem h_s_l9New x:fX [] [] .d Tryz.f112 [(true,txP)] [(false,.B)] x=Zd x:=by kernel_rfl
def e_s_l9New:=eS Tryz.func112 (by kernel_rfl) h_s_l9New
theorem h_s_CellOk x:fX [.see e_s_l5Cs] [] .d Tryz.f114 [(true,txB)] [(false,.B)] x=Zs x:=by kernel_rfl
def e_s_CellOk:=eS Tryz.func114 (by kernel_rfl) h_s_CellOk
theorem h_s_PairSign x:fX [.see e_s_l1In] [] .d Tryz.f165 [(false,.I .i64),(false,.I .i64)] [(false,.I .i64),(false,.B)] x=Zdf x:=by kernel_rfl
def e_s_PairSign:=eS Tryz.func165 (by kernel_rfl) h_s_PairSign
theorem h_s_EucSign x:fX [.see e_s_l1In,.see e_s_PairSign] [] .d Tryz.f152 [(false,.L .Y),(false,.I .i64)] [(false,.I .i64),(false,.I .i64),(false,.B)] x=Zdg x
 := by kernel_rfl
def e_s_EucSign:=eS Tryz.func152 (by kernel_rfl) h_s_EucSign
theorem h_s_l5Get x:fX [.see e_s_GetSign,.see e_s_EucSign,.see e_s_ByteSign] [] .d Tryz.f140 [(false,.I .i64),(false,.L .Y),(false,.I .i64)] [(false,.I .i64),(false,.I
 .i64),(false,.B)] x=Zdh x:=by kernel_rfl
def e_s_l5Get:=eS Tryz.func140 (by kernel_rfl) h_s_l5Get
theorem h_s_Decode x:fX [.see e_s_l5Cs,.see e_s_l5Get,.see e_s_PutSign] [(11,.el .Y)] (.sq none .d (.sq none .d (.sq none .d (.sq (some [.ot 6 .Y]) (.sq none .d (.bl (.lp [.kt
 0,.kt 1,.ot 6 .Y,.lt 7 (.I .i64)] .d))) .d)))) Tryz.f129 [(false,.I .i64),(false,.L .Y)] [(false,.S),(false,.B)] x=Zdi x:=by kernel_rfl
def e_s_Decode:=eS Tryz.func129 (by kernel_rfl) h_s_Decode
theorem h_s_CellText x:fX [.see e_s_CellOk,.see e_s_Decode] [] .d Tryz.f113 [(true,txB)] [(false,.S),(false,.B)] x=Zi x:=by kernel_rfl
def e_s_CellText:=eS Tryz.func113 (by kernel_rfl) h_s_CellText
theorem h_s_SameText x:fX [.see e_s_CellText] [] .d Tryz.f115 [(true,txB),(true,txB)] [(false,.B)] x=Za x:=by kernel_rfl
def e_s_SameText:=eS Tryz.func115 (by kernel_rfl) h_s_SameText
end
end Go.Vs
