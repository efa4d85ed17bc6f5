import Derived.Test.YtmpopjdcbabchaaGreatDoorProg
import Derived.Test.YtmpopjdcbabchaaGreatDoorVsPuk0
set_option linter.all false
namespace Go.Vs
open Go.Proofs
set_option maxRecDepth 100000
noncomputable section
theorem h_s_l5Sign x:fG [.gen e_s_l2Sign,.gen e_s_l1Int,.see e_s_ByteSign] [(14,.el (.I .i64)),(19,.el (.I .i64))] .d Tryz.f133 [⟨true,false,txE,[.rx,.rd,.rd],(some
 txD)⟩,⟨false,false,.I .i64,[.rd],none⟩] [(false,.I .i64)] x=Zda x:=by kernel_rfl
def e_s_l5Sign:=eG Tryz.func133 (by kernel_rfl) h_s_l5Sign
theorem h_s_SignOk x:fX [.see e_s_l1In] [] .d Tryz.f142 [(false,.I .i64)] [(false,.B)] x=Zba x:=by kernel_rfl
def e_s_SignOk:=eS Tryz.func142 (by kernel_rfl) h_s_SignOk
theorem h_s_PutSign x:fX [.see e_s_SignOk] [(6,.el .Y),(8,.el .Y),(20,.el .Y),(21,.el .Y),(34,.el .Y),(35,.el .Y),(53,.el .Y),(54,.el .Y),(74,.el .Y),(75,.el
 .Y)] .d Tryz.f132 [(false,.L .Y),(false,.I .i64)] [(false,.L .Y)] x=Zp x:=by kernel_rfl
def e_s_PutSign:=eS Tryz.func132 (by kernel_rfl) h_s_PutSign
theorem h_s_l5Text x:fG [.gen e_s_l1Below,.gen e_s_l5Sign,.see e_s_PutSign] [(9,.el .Y)] (.sq none .d (.sq none .d (.sq (some [.bx 0 [.K,.L (.I .i64),.L (.I .i64)],.ot 7
 .Y]) (.sq none .d (.bl (.lp [.bx 0 [.K,.L (.I .i64),.L (.I .i64)],.kt 1,.ot 7 .Y,.lt 8 (.I .i64)] .d))) .d))) Tryz.f119 [⟨true,false,txE,[.rx,.rd,.rd],(some txD)⟩,
 ⟨false,false,.I .i64,[.rd],none⟩,⟨false,false,.I .i64,[.rd],none⟩] [(false,.S)] x=Zbb x:=by kernel_rfl
def e_s_l5Text:=eG Tryz.func119 (by kernel_rfl) h_s_l5Text
theorem h_s_l2Len x:fX [.see e_s_l1In] [] .d Tryz.f164 [(false,.Y)] [(false,.I .i64)] x=Zdc x:=by kernel_rfl
def e_s_l2Len:=eS Tryz.func164 (by kernel_rfl) h_s_l2Len
theorem h_s_GetSign x:fX [.see e_s_l1In,.see e_s_l2Len,.see e_s_SignOk,.see e_s_PutSign] [(71,.el .Y)] (.sq none .d (.sq none .d (.sq none .d (.sq none .d (.sq none .d (.sq
 (some [.kt 0,.kt 1,.kt 7,.lt 8 (.I .i64)]) .d (.sq (some [.kt 0,.kt 1,.kt 7,.lt 8 (.I .i64)]) (.sq none .d (.bl (.lp [.kt 0,.kt 1,.kt 7,.lt 8 (.I .i64),.lt 9 (.I .i64)]
 .d))) .d))))))) Tryz.f151 [(false,.L .Y),(false,.I .i64)] [(false,.I .i64),(false,.I .i64),(false,.B)] x=Zbu x:=by kernel_rfl
def e_s_GetSign:=eS Tryz.func151 (by kernel_rfl) h_s_GetSign
theorem h_s_Signs x:fX [.see e_s_GetSign] [(10,.el (.I .i64)),(26,.el (.I .i64)),(29,.el (.I .i64)),(30,.el (.I .i64))] (.sq none .d (.sq none .d (.sq none .d (.sq (some
 [.ot 4 (.I .i64)]) (.sq none .d (.bl (.lp [.ot 4 (.I .i64),.kt 5,.lt 6 (.I .i64)] .d))) .d)))) Tryz.f153 [(false,.S)] [(false,.L (.I .i64)),(false,.B)] x=Zdd x :=
 by kernel_rfl
def e_s_Signs:=eS Tryz.func153 (by kernel_rfl) h_s_Signs
theorem h_s_l5Cs x:fX [.see e_s_l1In] [] .d Tryz.f130 [(false,.I .i64)] [(false,.B)] x=Zbc x:=by kernel_rfl
def e_s_l5Cs:=eS Tryz.func130 (by kernel_rfl) h_s_l5Cs
theorem h_s_SignPair x:fX [.see e_s_l1In] [] .d Tryz.f169 [(false,.I .i64)] [(false,.I .i64),(false,.I .i64),(false,.B)] x=Zfg x:=by kernel_rfl
def e_s_SignPair:=eS Tryz.func169 (by kernel_rfl) h_s_SignPair
theorem h_s_PutEuc x:fX [.see e_s_l1In,.see e_s_SignPair] [(10,.el .Y),(12,.el .Y),(18,.el .Y),(19,.el .Y),(34,.el .Y),(35,.el .Y)] .d Tryz.f166 [(false,.L .Y),
 (false,.I .i64)] [(false,.L .Y),(false,.B)] x=Zbv x:=by kernel_rfl
def e_s_PutEuc:=eS Tryz.func166 (by kernel_rfl) h_s_PutEuc
theorem h_s_SignByte x:fX [.see e_s_ByteSign] [] (.sq none .d (.sq (some []) (.sq none .d (.bl (.lp [.kt 0,.kt 1,.lt 6 (.I .i64)] .d))) .d)) Tryz.f167 [(false,.I .i64),
 (false,.I .i64)] [(false,.I .i64),(false,.B)] x=Zde x:=by kernel_rfl
def e_s_SignByte:=eS Tryz.func167 (by kernel_rfl) h_s_SignByte
theorem h_s_l5Put x:fX [.see e_s_PutSign,.see e_s_SignOk,.see e_s_PutEuc,.see e_s_SignByte] [(33,.el .Y),(35,.el .Y),(36,.el .Y),(38,.el .Y),(41,.el .Y),(42,.el
 .Y)] .d Tryz.f154 [(false,.I .i64),(false,.L .Y),(false,.I .i64)] [(false,.L .Y),(false,.B)] x=Zbw x:=by kernel_rfl
def e_s_l5Put:=eS Tryz.func154 (by kernel_rfl) h_s_l5Put
theorem h_s_Encode x:fX [.see e_s_Signs,.see e_s_l5Cs,.see e_s_l5Put] [(12,.el .Y),(44,.el .Y)] (.sq none .d (.sq none .d (.sq none .d (.sq none .d (.sq (some [.ot 6 .Y])
 (.sq none .d (.bl (.lp [.kt 0,.ot 6 .Y,.kt 7,.lt 9 (.I .i64)] .d))) .d))))) Tryz.f141 [(false,.I .i64),(false,.S)] [(false,.L .Y),(false,.B)] x=Zbx x:=by
 kernel_rfl
def e_s_Encode:=eS Tryz.func141 (by kernel_rfl) h_s_Encode
theorem h_s_CellOf x:fX [.see e_s_Encode] [] .d Tryz.f131 [(false,.I .i64),(false,.S)] [(true,txB),(false,.B)] x=Zbd x:=by kernel_rfl
def e_s_CellOf:=eS Tryz.func131 (by kernel_rfl) h_s_CellOf
end
end Go.Vs
