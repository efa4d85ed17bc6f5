import Derived.Test.YtmpopjdcbabchaaGreatDoorProg
import Derived.Test.YtmpopjdcbabchaaGreatDoorVsPuk3
set_option linter.all false
namespace Go.Vs
open Go.Proofs
set_option maxRecDepth 100000
noncomputable section
theorem h_s_l12Row x:fG [.see e_s_l9Copy] [(8,.el txP),(30,.el txP),(31,.el txP),(45,.el txP),(46,.el txP),(52,.el txP),(53,.el txP)] (.sq none .d (.sq none .d (.sq
 none .d (.sq (some [.kt 3,.ot 5 txP,.lt 6 .B]) (.sq none .d (.bl (.lp [.sr 0 txQ,.kt 3,.ot 5 txP,.lt 6 .B,.lt 7 (.I .i64)] (.sq none .d (.sq (some [.sr 0 txQ,.kt 3,.ot 5
 txP,.lt 6 .B,.kt 7]) (.bl (.sq (some [.kt 0,.kt 3,.ot 5 txP,.lt 6 .B,.kt 7]) .d .d)) .d))))) (.sq (some [.ot 5 txP]) .d .d))))) Tryz.f49 [⟨false,false,txT,[.ow],none⟩,
 ⟨false,true,txP,[.rd,.rd,.rd,.rd,.rd,.rd,.rd],none⟩] [(false,txS)] x=Zcf x:=by kernel_rfl
def e_s_l12Row:=eG Tryz.func49 (by kernel_rfl) h_s_l12Row
theorem h_s_RowAt x:fX [] [] (.sq none .d (.sq none (.sq none .d (.bl (.lp [.kt 1,.kt 2,.lt 5 (.I .i64)] .d))) .d)) Tryz.f38 [(true,txZ),(false,.S)] [(false,.I .i64)] x =
 Zbq x:=by kernel_rfl
def e_s_RowAt:=eS Tryz.func38 (by kernel_rfl) h_s_RowAt
theorem h_s_l12Put x:fX [] [(8,.el txF),(29,.el txF),(30,.el txF),(44,.el txF),(45,.el txF),(50,.el txF),(51,.el txF)] (.sq none .d (.sq none .d (.sq none .d (.sq
 (some [.kt 3,.ot 5 txF,.lt 6 .B]) (.sq none .d (.bl (.lp [.kt 0,.kt 3,.ot 5 txF,.lt 6 .B,.lt 7 (.I .i64)] (.sq none .d (.sq (some [.kt 0,.kt 3,.ot 5 txF,.lt 6 .B,.kt
 7]) (.bl (.sq (some [.kt 0,.kt 3,.ot 5 txF,.lt 6 .B,.kt 7]) .d .d)) .d))))) (.sq (some [.ot 5 txF]) .d .d))))) Tryz.f50 [(false,txG),(true,txF)] [(false,txG)] x =
 Zcg x:=by kernel_rfl
def e_s_l12Put:=eS Tryz.func50 (by kernel_rfl) h_s_l12Put
theorem h_s_Apply x:fX [.see e_s_l12Copy,.see e_s_TabOk,.see e_s_RecOk,.gen e_s_l12Row,.see e_s_RowAt,.see e_s_l12Put] [(37,.el txP),(42,.el txP),(48,.el txP)] (.sq
 none .d (.sq none .d (.sq none .d (.sq (some [.kt 2,.kt 3,.kt 4,.bx 6 [.O txP,.L (.I .i64),.K]]) .d (.sq (some [.kt 2,.kt 4,.bx 6 [.K,.K,.O txF]]) .d .d))))) Tryz.f10
 [(true,txZ),(true,txAa)] [(true,txZ),(false,.B)] x=Zbr x:=by kernel_rfl
def e_s_Apply:=eS Tryz.func10 (by kernel_rfl) h_s_Apply
theorem h_s_l12Draw x:fG [.gen e_s_l1Below,.gen e_s_l11Draw,.see e_s_Apply] [] (.sq none .d (.sq none .d (.sq (some [.bx 0 [.K,.L (.I .i64),.L (.I .i64)],.kt 4,.bx 5 [.O
 txP,.L (.I .i64),.O txF]]) (.sq none .d (.bl (.lp [.bx 0 [.K,.L (.I .i64),.L (.I .i64)],.kt 4,.bx 5 [.O txP,.L (.I .i64),.O txF],.lt 6 (.I .i64)] .d))) .d))) Tryz.f40
 [⟨true,false,txE,[.rx,.rd,.rd],(some txD)⟩,⟨false,false,.I .i64,[.rd],none⟩] [(true,txZ)] x=Zdp x:=by kernel_rfl
def e_s_l12Draw:=eG Tryz.func40 (by kernel_rfl) h_s_l12Draw
theorem h_i_joined x:fX [] [(6,.el .Y),(15,.el .Y)] (.sq none .d (.sq none .d (.sq (some [.ot 3 .Y]) (.sq none .d (.bl (.lp [.ot 3 .Y,.kt 7,.kt 8,.lt 9 (.I .i64)] .d)))
 .d))) Tryz.f124 [(false,.L (.L .Y))] [(false,.L .Y)] x=Zci x:=by kernel_rfl
def e_i_joined:=eS Tryz.func124 (by kernel_rfl) h_i_joined
theorem h_i_copyCell x:fX [.see e_i_joined] [(7,.sb)] .d Tryz.f94 [(true,txB)] [(true,txB)] x=Zcj x:=by kernel_rfl
def e_i_copyCell:=eS Tryz.func94 (by kernel_rfl) h_i_copyCell
theorem h_i_copyRow x:fX [.see e_i_copyCell] [] .d Tryz.f57 [(true,txP)] [(true,txP)] x=Zk x:=by kernel_rfl
def e_i_copyRow:=eS Tryz.func57 (by kernel_rfl) h_i_copyRow
theorem h_i_copyTab x:fX [.see e_i_copyRow] [(8,.el txF),(11,.el txF),(24,.el txP),(25,.el txP)] (.sq none .d (.sq none .d (.sq (some [.kt 2,.bx 3 [.O txP,.K,.K]]) (.sq
 none .d (.bl (.lp [.kt 2,.bx 3 [.O txP,.K,.K],.kt 14,.kt 15,.lt 16 (.I .i64)] .d))) .d))) Tryz.f42 [(true,txZ)] [(true,txZ)] x=Zck x:=by kernel_rfl
def e_i_copyTab:=eS Tryz.func42 (by kernel_rfl) h_i_copyTab
theorem h_i_sameCell x:fX [] [] .d Tryz.f91 [(true,txB),(true,txB)] [(false,.B)] x=Zj x:=by kernel_rfl
def e_i_sameCell:=eS Tryz.func91 (by kernel_rfl) h_i_sameCell
theorem b_i_sameRow:bodied Tryz.prog 58=true:=by kernel_rfl
theorem h_i_sameRow x:fX [.see e_i_sameCell] [] .d Tryz.f58 [(true,txP),(true,txP)] [(false,.B)] x=Zv x:=by kernel_rfl
def e_i_sameRow:=eS Tryz.func58 (by kernel_rfl) h_i_sameRow
theorem h_i_within x:fX [] [] .d Tryz.f52 [(false,.I .i64),(false,.I .i64),(false,.I .i64)] [(false,.B)] x=Zg x:=by kernel_rfl
def e_i_within:=eS Tryz.func52 (by kernel_rfl) h_i_within
theorem h_i_NameOk x:fX [.see e_i_within] [] (.sq none .d (.sq (some [.kt 0]) (.sq none .d (.bl (.lp [.kt 0,.lt 3 (.I .i64)] .d))) .d)) Tryz.f59 [(false,.S)] [(false,.B)] x =
 Zcl x:=by kernel_rfl
def e_i_NameOk:=eS Tryz.func59 (by kernel_rfl) h_i_NameOk
end
end Go.Vs
