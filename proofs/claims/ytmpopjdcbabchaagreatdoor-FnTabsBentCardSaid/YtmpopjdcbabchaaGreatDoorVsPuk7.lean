import Derived.Test.YtmpopjdcbabchaaGreatDoorProg
import Derived.Test.YtmpopjdcbabchaaGreatDoorVsPuk6
set_option linter.all false
namespace Go.Vs
open Go.Proofs
set_option maxRecDepth 100000
noncomputable section
theorem h_i_Apply x:fX [.see e_i_copyTab,.see e_i_RecOk,.see e_i_TabOk,.gen e_i_withRow,.hof e_slices_DeleteFunc_i_Apply_1,.see e_i_withMark] [] (.sq none .d (.sq none .d
 (.sq none .d (.sq (some [.kt 2,.bx 3 [.L (.I .i64),.L .S,.L (.I .i64),.K,.L (.I .i64),.K,.L (.I .i64),.L .B,.L .S,.L (.I .i64),.L (.I .i64),.L (.I .i64),.L (.I
 .i64)],.kt 4,.bx 6 [.O txP,.L (.I .i64),.K]]) .d (.sq (some [.kt 2,.kt 4,.bx 6 [.K,.K,.O txF]]) .d .d))))) Tryz.f9 [(true,txZ),(true,txAa)] [(true,txZ),(false,.B)]
 x=Zec x:=by kernel_rfl
def e_i_Apply:=eS Tryz.func9 (by kernel_rfl) h_i_Apply
theorem h_l_sameCell x:fX [] [] .d Tryz.f56 [(true,txB),(true,txB)] [(false,.B)] x=Zw x:=by kernel_rfl
def e_l_sameCell:=eS Tryz.func56 (by kernel_rfl) h_l_sameCell
theorem h_l_sameRow x:fX [.see e_l_sameCell] [] .d Tryz.f14 [(true,txP),(true,txP)] [(false,.B)] x=Zx x:=by kernel_rfl
def e_l_sameRow:=eS Tryz.func14 (by kernel_rfl) h_l_sameRow
theorem h_l_sameTab x:fX [.see e_l_sameRow] [] (.sq none .d (.sq none .d (.sq (some [.kt 2,.kt 3]) (.sq none .d (.bl (.lp [.kt 2,.kt 3,.lt 5 (.I .i64)] .d))) (.sq none (.sq
 none .d (.bl (.lp [.kt 2,.kt 3,.lt 6 (.I .i64)] .d))) .d)))) Tryz.f12 [(true,txZ),(true,txZ)] [(false,.B)] x=Zct x:=by kernel_rfl
def e_l_sameTab:=eS Tryz.func12 (by kernel_rfl) h_l_sameTab
theorem b_i_RowAt_1:bodied Tryz.prog 55=true:=by kernel_rfl
theorem h_i_RowAt_1 x:fG [] [] .d Tryz.f55 [⟨false,true,txP,[.rd,.rd,.rd,.rd,.rd,.rd,.rd],none⟩,⟨true,false,.S,[.rd],(some .S)⟩] [(false,.B)] x=Zfu x :=
 by kernel_rfl
def e_i_RowAt_1:=eG Tryz.func55 (by kernel_rfl) h_i_RowAt_1
theorem h_slices_IndexFunc_i_RowAt_1 x:fH [.fv e_i_RowAt_1 b_i_RowAt_1] [] (.sq none .d (.sq none (.sq none .d (.bl (.lp [.kt 0,.bx 1 [.L .S],.kt 7,.lt 8 (.I .i64)] .d))) .d))
 Tryz.f54 1 55 [⟨false,false,txS,[.rd],none⟩,⟨true,false,.S,[.rd],(some .S)⟩] [(false,.I .i64)] x=Zeg x:=by kernel_rfl
def e_slices_IndexFunc_i_RowAt_1:=eH Tryz.func54 (by kernel_rfl) h_slices_IndexFunc_i_RowAt_1
theorem h_i_RowAt x:fX [.hof e_slices_IndexFunc_i_RowAt_1] [] .d Tryz.f13 [(true,txZ),(false,.S)] [(false,.I .i64)] x=Zeh x:=by kernel_rfl
def e_i_RowAt:=eS Tryz.func13 (by kernel_rfl) h_i_RowAt
theorem h_i_MarkAt x:fX [] [] (.sq none .d (.sq (some [.bx 4 [.L (.I .i64),.L (.I .i64),.L (.I .i64)]]) (.sq none .d (.bl (.lp [.kt 1,.bx 4 [.L (.I .i64),.L (.I .i64),.L (.I
 .i64)],.kt 9,.kt 10,.lt 11 (.I .i64)] .d))) .d)) Tryz.f15 [(true,txZ),(false,.I .i64)] [(true,txF),(false,.B)] x=Zei x:=by kernel_rfl
def e_i_MarkAt:=eS Tryz.func15 (by kernel_rfl) h_i_MarkAt
theorem h_i_RecsOf x:fX [.see e_i_copyRow] [(11,.el txAa),(23,.el txAa),(24,.el txAa),(41,.el txAa),(42,.el txAa)] (.sq none .d (.sq none .d (.sq (some [.kt 1,.ot 3
 txAa]) (.sq none .d (.bl (.lp [.kt 1,.ot 3 txAa,.kt 13,.kt 14,.lt 15 (.I .i64)] .d))) (.sq (some [.ot 3 txAa]) (.sq none .d (.bl (.lp [.ot 3 txAa,.kt 27,.kt 28,.lt 29 (.I
 .i64)] .d))) .d)))) Tryz.f16 [(true,txZ)] [(false,.L txAa)] x=Zej x:=by kernel_rfl
def e_i_RecsOf:=eS Tryz.func16 (by kernel_rfl) h_i_RecsOf
theorem h_slices_EqualFunc_i_sameRow x:fH [.fs e_i_sameRow b_i_sameRow] [] (.sq none .d (.sq none .d (.sq none (.sq none .d (.bl (.lp [.kt 1,.kt 2,.kt 15,.kt 16,.lt 17 (.I
 .i64)] .d))) .d))) Tryz.f60 2 58 [⟨false,false,txS,[.rd],none⟩,⟨false,false,txS,[.rd],none⟩] [(false,.B)] x=Zel x:=by kernel_rfl
def e_slices_EqualFunc_i_sameRow:=eH Tryz.func60 (by kernel_rfl) h_slices_EqualFunc_i_sameRow
theorem h_slices_Equal x:fX [] [] (.sq none .d (.sq none .d (.sq none (.sq none .d (.bl (.lp [.kt 0,.kt 1,.kt 12,.lt 13 (.I .i64)] .d))) .d))) Tryz.f61 [(false,txG),(false,
 txG)] [(false,.B)] x=Zen x:=by kernel_rfl
def e_slices_Equal:=eS Tryz.func61 (by kernel_rfl) h_slices_Equal
theorem h_i_SameTab x:fX [.hof e_slices_EqualFunc_i_sameRow,.see e_slices_Equal] [] .d Tryz.f18 [(true,txZ),(true,txZ)] [(false,.B)] x=Zeo x:=by kernel_rfl
def e_i_SameTab:=eS Tryz.func18 (by kernel_rfl) h_i_SameTab
end
end Go.Vs
