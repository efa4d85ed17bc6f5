import Derived.Test.YtmpopjdcbabchaaGreatDoorProg
import Derived.Test.YtmpopjdcbabchaaGreatDoorVsPuk4
set_option linter.all false
namespace Go.Vs
open Go.Proofs
set_option maxRecDepth 100000
noncomputable section
theorem h_i_isSet x:fX [.see e_i_within] [] .d Tryz.f123 [(false,.I .i64)] [(false,.B)] x=Zdq x:=by kernel_rfl
def e_i_isSet:=eS Tryz.func123 (by kernel_rfl) h_i_isSet
theorem h_i_CellOk x:fX [.see e_i_isSet] [] .d Tryz.f92 [(true,txB)] [(false,.B)] x=Zcm x:=by kernel_rfl
def e_i_CellOk:=eS Tryz.func92 (by kernel_rfl) h_i_CellOk
theorem h_utf8_decodeRuneSlow x:fX [] [] .d Tryz.f168 [(false,.L .Y)] [(false,.I .i32),(false,.I .i64)] x=Zt x:=by kernel_rfl
def e_utf8_decodeRuneSlow:=eS Tryz.func168 (by kernel_rfl) h_utf8_decodeRuneSlow
theorem h_utf8_DecodeRune x:fX [.see e_utf8_decodeRuneSlow] [] (.sq none .d (.sq (some [.kt 0]) (.sq none .d (.bl (.lp [.kt 0,.kt 6,.kt 7,.lt 8 (.I .i64)] .d))) .d)) Tryz.f158
 [(false,.L .Y)] [(false,.I .i32),(false,.I .i64)] x=Zdr x:=by kernel_rfl
def e_utf8_DecodeRune:=eS Tryz.func158 (by kernel_rfl) h_utf8_DecodeRune
theorem h_i_GetSign x:fX [.see e_utf8_DecodeRune] [] .d Tryz.f145 [(false,.L .Y),(false,.I .i64)] [(false,.I .i64),(false,.I .i64),(false,.B)] x=Zds x:=by
 kernel_rfl
def e_i_GetSign:=eS Tryz.func145 (by kernel_rfl) h_i_GetSign
theorem h_i_PairSign x:fX [.see e_i_within] [] .d Tryz.f159 [(false,.I .i64),(false,.I .i64)] [(false,.I .i64),(false,.B)] x=Zfm x:=by kernel_rfl
def e_i_PairSign:=eS Tryz.func159 (by kernel_rfl) h_i_PairSign
theorem h_i_EucSign x:fX [.see e_i_PairSign] [] .d Tryz.f146 [(false,.L .Y),(false,.I .i64)] [(false,.I .i64),(false,.I .i64),(false,.B)] x=Zdt x:=by
 kernel_rfl
def e_i_EucSign:=eS Tryz.func146 (by kernel_rfl) h_i_EucSign
theorem h_i_nineSign x:fX [] [] .d Tryz.f160 [(false,.I .i64)] [(false,.I .i64)] x=Zgg x:=by kernel_rfl
def e_i_nineSign:=eS Tryz.func160 (by kernel_rfl) h_i_nineSign
theorem h_i_koiSign x:fX [] [] .d Tryz.f161 [(false,.I .i64)] [(false,.I .i64)] x=Zgh x:=by kernel_rfl
def e_i_koiSign:=eS Tryz.func161 (by kernel_rfl) h_i_koiSign
theorem h_i_winSign x:fX [] [] .d Tryz.f162 [(false,.I .i64)] [(false,.I .i64)] x=Zgi x:=by kernel_rfl
def e_i_winSign:=eS Tryz.func162 (by kernel_rfl) h_i_winSign
theorem h_i_ByteSign x:fX [.see e_i_within,.see e_i_nineSign,.see e_i_koiSign,.see e_i_winSign] [] (.sq none .d (.sq none .d (.sq none .d (.sq none .d (.sq (some [.lt 6 (.I
 .i64)]) .d .d))))) Tryz.f147 [(false,.I .i64),(false,.I .i64)] [(false,.I .i64),(false,.B)] x=Zbh x:=by kernel_rfl
def e_i_ByteSign:=eS Tryz.func147 (by kernel_rfl) h_i_ByteSign
theorem h_i_signIn x:fX [.see e_i_GetSign,.see e_i_EucSign,.see e_i_ByteSign] [] .d Tryz.f135 [(false,.I .i64),(false,.L .Y),(false,.I .i64)] [(false,.I .i64),(false,.I
 .i64),(false,.B)] x=Zdu x:=by kernel_rfl
def e_i_signIn:=eS Tryz.func135 (by kernel_rfl) h_i_signIn
theorem h_i_SignOk x:fX [.see e_i_within] [] .d Tryz.f148 [(false,.I .i64)] [(false,.B)] x=Zfn x:=by kernel_rfl
def e_i_SignOk:=eS Tryz.func148 (by kernel_rfl) h_i_SignOk
theorem h_utf8_appendRuneNonASCII x:fG [] [(23,.el .Y),(24,.el .Y),(48,.el .Y),(49,.el .Y),(76,.el .Y),(77,.el .Y),(9,.el .Y),(10,.el .Y)] (.sq none .d (.sq none
 .d (.bl (.sq none .d (.cd .d (.sq (some [.kt 0,.kt 1,.kt 5,.lt 25 .B]) .d .d)))))) Tryz.f163 [⟨false,false,.L .Y,[.ow],none⟩,⟨false,false,.I .i32,[.rd],none⟩]
 [(false,.L .Y)] x=Zfo x:=by kernel_rfl
def e_utf8_appendRuneNonASCII:=eG Tryz.func163 (by kernel_rfl) h_utf8_appendRuneNonASCII
end
end Go.Vs
