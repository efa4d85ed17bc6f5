import Derived.Test.YtmpopjdcbabchaaGreatDoorProg
import Derived.Test.YtmpopjdcbabchaaGreatDoorVsPuk5
set_option linter.all false
namespace Go.Vs
open Go.Proofs
set_option maxRecDepth 100000
noncomputable section
theorem h_utf8_AppendRune x:fG [.gen e_utf8_appendRuneNonASCII] [(11,.el .Y),(12,.el .Y)] .d Tryz.f149 [⟨false,false,.L .Y,[.ow],none⟩,⟨false,false,.I .i32,[.rd],
 none⟩] [(false,.L .Y)] x=Zfp x:=by kernel_rfl
def e_utf8_AppendRune:=eG Tryz.func149 (by kernel_rfl) h_utf8_AppendRune
theorem h_i_PutSign x:fX [.see e_i_joined,.see e_i_SignOk,.gen e_utf8_AppendRune] [(7,.sb)] .d Tryz.f136 [(false,.L .Y),(false,.I .i64)] [(false,.L .Y)] x=Zdv x
 := by kernel_rfl
def e_i_PutSign:=eS Tryz.func136 (by kernel_rfl) h_i_PutSign
theorem h_i_Decode x:fX [.see e_i_isSet,.see e_i_signIn,.see e_i_PutSign] [(14,.el .Y)] (.sq none .d (.sq none .d (.sq none .d (.sq (some [.ot 6 .Y]) (.sq none .d (.bl (.lp
 [.kt 0,.kt 1,.ot 6 .Y,.lt 7 (.I .i64)] .d))) .d)))) Tryz.f122 [(false,.I .i64),(false,.L .Y)] [(false,.S),(false,.B)] x=Zdw x:=by kernel_rfl
def e_i_Decode:=eS Tryz.func122 (by kernel_rfl) h_i_Decode
theorem h_i_CellText x:fX [.see e_i_CellOk,.see e_i_Decode] [] .d Tryz.f90 [(true,txB)] [(false,.S),(false,.B)] x=Zbi x:=by kernel_rfl
def e_i_CellText:=eS Tryz.func90 (by kernel_rfl) h_i_CellText
theorem h_i_SameText x:fX [.see e_i_CellText] [] .d Tryz.f93 [(true,txB),(true,txB)] [(false,.B)] x=Zfr x:=by kernel_rfl
def e_i_SameText:=eS Tryz.func93 (by kernel_rfl) h_i_SameText
theorem h_i_RowOk x:fX [.see e_i_NameOk,.see e_i_within,.see e_i_CellText,.see e_i_sameCell,.see e_i_CellOk,.see e_i_SameText] [] (.sq none .d (.sq none .d (.sq none .d (.sq
 none .d (.sq none .d (.sq (some [.kt 1,.kt 6,.lt 7 .B]) .d (.sq none .d (.sq (some [.kt 1,.kt 7,.lt 8 .B]) .d .d)))))))) Tryz.f51 [(true,txP)] [(false,.B)] x=Zbj x
 := by kernel_rfl
def e_i_RowOk:=eS Tryz.func51 (by kernel_rfl) h_i_RowOk
theorem h_i_isWord x:fX [.see e_i_within] [] .d Tryz.f53 [(false,.I .i64)] [(false,.B)] x=Zco x:=by kernel_rfl
def e_i_isWord:=eS Tryz.func53 (by kernel_rfl) h_i_isWord
theorem h_i_RecOk x:fX [.see e_i_sameRow,.see e_i_RowOk,.see e_i_NameOk,.see e_i_within,.see e_i_isWord] [] (.sq none .d (.sq none .d (.sq none .d (.sq (some [.kt 1,.lt 5
 .B]) .d .d)))) Tryz.f17 [(true,txAa)] [(false,.B)] x=Zdx x:=by kernel_rfl
def e_i_RecOk:=eS Tryz.func17 (by kernel_rfl) h_i_RecOk
theorem h_i_TabOk x:fX [.see e_i_RowOk,.see e_i_within,.see e_i_isWord] [] (.sq none .d (.sq (some [.kt 1]) (.sq none .d (.bl (.lp [.kt 1,.kt 8,.kt 9,.lt 10 (.I .i64)] .d)))
 (.sq (some [.kt 1]) (.sq none .d (.bl (.lp [.kt 1,.kt 36,.kt 37,.lt 38 (.I .i64)] .d))) .d))) Tryz.f11 [(true,txZ)] [(false,.B)] x=Zbk x:=by kernel_rfl
def e_i_TabOk:=eS Tryz.func11 (by kernel_rfl) h_i_TabOk
theorem h_i_withRow x:fG [.see e_i_copyRow] [(9,.el txP),(28,.el txP),(29,.el txP),(37,.el txP),(38,.el txP),(45,.el txP),(46,.el txP)] (.sq none .d (.sq none .d
 (.sq none .d (.sq (some [.kt 3,.ot 5 txP,.lt 6 .B]) (.sq none .d (.bl (.lp [.kt 3,.ot 5 txP,.lt 6 .B,.sr 10 txQ,.kt 11,.lt 12 (.I .i64)] (.sq none .d (.sq none .d (.sq
 (some [.kt 3,.ot 5 txP,.lt 6 .B,.sr 10 txQ,.kt 11,.kt 12]) (.bl (.sq none .d (.sq (some [.kt 3,.ot 5 txP,.lt 6 .B,.kt 8,.kt 10,.kt 11,.kt 12]) .d .d))) .d)))))) (.sq
 (some [.ot 5 txP]) .d .d))))) Tryz.f43 [⟨false,false,txT,[.ow],none⟩,⟨false,true,txP,[.rd,.rd,.rd,.rd,.rd,.rd,.rd],none⟩] [(false,txS)] x=Zcp x:=by
 kernel_rfl
def e_i_withRow:=eG Tryz.func43 (by kernel_rfl) h_i_withRow
theorem b_i_Apply_1:bodied Tryz.prog 45=true:=by kernel_rfl
theorem h_i_Apply_1 x:fG [] [] .d Tryz.f45 [⟨false,true,txP,[.rd,.rd,.rd,.rd,.rd,.rd,.rd],none⟩,⟨true,false,txAa,[.rd,.rd,.rd,.rx,.rd,.rx,.rd,.rd,.rd,.rd,
 .rd,.rd,.rd],(some txX)⟩] [(false,.B)] x=Zcq x:=by kernel_rfl
def e_i_Apply_1:=eG Tryz.func45 (by kernel_rfl) h_i_Apply_1
theorem h_slices_IndexFunc_i_Apply_1 x:fH [.fv e_i_Apply_1 b_i_Apply_1] [] (.sq none .d (.sq none (.sq none .d (.bl (.lp [.kt 0,.bx 1 [.L (.I .i64),.L .S,.L (.I .i64),.K,.L
 (.I .i64),.K,.L (.I .i64),.L .B,.L .S,.L (.I .i64),.L (.I .i64),.L (.I .i64),.L (.I .i64)],.kt 7,.lt 8 (.I .i64)] .d))) .d)) Tryz.f54 1 45 [⟨false,false,txS,[.rd],
 none⟩,⟨true,false,txAa,[.rd,.rd,.rd,.rx,.rd,.rx,.rd,.rd,.rd,.rd,.rd,.rd,.rd],(some txX)⟩] [(false,.I .i64)] x=Zeb x:=by kernel_rfl
def e_slices_IndexFunc_i_Apply_1:=eH Tryz.func54 (by kernel_rfl) h_slices_IndexFunc_i_Apply_1
theorem h_slices_DeleteFunc_i_Apply_1 x:fH [.hof e_slices_IndexFunc_i_Apply_1,.fv e_i_Apply_1 b_i_Apply_1] [] (.sq none .d (.sq none .d (.sq none .d (.sq (some [.sr 0 txQ,.bx 1
 [.L (.I .i64),.L .S,.L (.I .i64),.K,.L (.I .i64),.K,.L (.I .i64),.L .B,.L .S,.L (.I .i64),.L (.I .i64),.L (.I .i64),.L (.I .i64)],.lt 5 (.I .i64)]) (.sq none .d (.bl
 (.lp [.sr 0 txQ,.bx 1 [.L (.I .i64),.L .S,.L (.I .i64),.K,.L (.I .i64),.K,.L (.I .i64),.L .B,.L .S,.L (.I .i64),.L (.I .i64),.L (.I .i64),.L (.I .i64)],.lt 5 (.I
 .i64),.lt 6 (.I .i64)] (.sq none .d (.sq (some [.sr 0 txQ,.bx 1 [.L (.I .i64),.L .S,.L (.I .i64),.K,.L (.I .i64),.K,.L (.I .i64),.L .B,.L .S,.L (.I .i64),.L (.I
 .i64),.L (.I .i64),.L (.I .i64)],.lt 5 (.I .i64),.kt 6]) .d .d))))) .d)))) Tryz.f44 1 45 [⟨false,false,txT,[.ow],none⟩,⟨true,false,txAa,[.rd,.rd,.rd,.rx,.rd,.rx,
 .rd,.rd,.rd,.rd,.rd,.rd,.rd],(some txX)⟩] [(false,txS)] x=Zcs x:=by kernel_rfl
def e_slices_DeleteFunc_i_Apply_1:=eH Tryz.func44 (by kernel_rfl) h_slices_DeleteFunc_i_Apply_1
theorem h_i_withMark x:fX [] [(9,.el txF),(27,.el txF),(28,.el txF),(36,.el txF),(37,.el txF),(43,.el txF),(44,.el txF)] (.sq none .d (.sq none .d (.sq none .d (.sq
 (some [.kt 3,.ot 5 txF,.lt 6 .B]) (.sq none .d (.bl (.lp [.kt 3,.ot 5 txF,.lt 6 .B,.kt 10,.kt 11,.lt 12 (.I .i64)] (.sq none .d (.sq none .d (.sq (some [.kt 3,.ot 5 txF,
 .lt 6 .B,.kt 10,.kt 11,.kt 12]) (.bl (.sq none .d (.sq (some [.kt 3,.ot 5 txF,.lt 6 .B,.kt 8,.kt 10,.kt 11,.kt 12]) .d .d))) .d)))))) (.sq (some [.ot 5 txF]) .d .d)))))
 Tryz.f46 [(false,txG),(true,txF)] [(false,txG)] x=Zbs x:=by kernel_rfl
def e_i_withMark:=eS Tryz.func46 (by kernel_rfl) h_i_withMark
end
end Go.Vs
