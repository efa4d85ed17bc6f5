import Derived.Test.YtgleokjlebkdcaaDoorProg
import Derived.Test.YtgleokjlebkdcaaDoorVsPek1
set_option linter.all false
namespace Go.Vs
open Go.Proofs
set_option maxRecDepth 100000
noncomputable def a_i_within:An:=.d
theorem h_i_within (x:Int × Int × Int):fnX (P:=Tryd.prog) [] [] (sOf Tryd.prog Tryd.f52) a_i_within (iOf Tryd.prog Tryd.f52) [(false,.I .i64),(false,.I .i64),(false,.I
 .i64)] [(false,.B)] x = F_i_within x:=by kernel_rfl
noncomputable def e_i_within:SEnt Tryd.prog:=⟨52,[(false,.I .i64),(false,.I .i64),(false,.I .i64)],[(false,.B)],F_i_within,runs_see mixed_Pe Tryd.func52 (by
 kernel_rfl) h_i_within⟩
noncomputable def a_i_isSet:An:=.d
theorem h_i_isSet (x:Int):fnX (P:=Tryd.prog) [.see e_i_within] [] (sOf Tryd.prog Tryd.f37) a_i_isSet (iOf Tryd.prog Tryd.f37) [(false,.I .i64)] [(false,.B)] x = F_i_isSet x
 := by kernel_rfl
noncomputable def e_i_isSet:SEnt Tryd.prog:=⟨37,[(false,.I .i64)],[(false,.B)],F_i_isSet,runs_see mixed_Pe Tryd.func37 (by kernel_rfl) h_i_isSet⟩
noncomputable def a_i_CellOk:An:=.d
theorem h_i_CellOk (x:Int × List UInt8):fnX (P:=Tryd.prog) [.see e_i_isSet] [] (sOf Tryd.prog Tryd.f11) a_i_CellOk (iOf Tryd.prog Tryd.f11) [(true,.P (.I .i64) (.L .Y))]
 [(false,.B)] x = F_i_CellOk x:=by kernel_rfl
noncomputable def e_i_CellOk:SEnt Tryd.prog:=⟨11,[(true,.P (.I .i64) (.L .Y))],[(false,.B)],F_i_CellOk,runs_see mixed_Pe Tryd.func11 (by kernel_rfl) h_i_CellOk⟩
noncomputable def a_utf8_decodeRuneSlow:An:=.d
theorem h_utf8_decodeRuneSlow (x:List UInt8):fnX (P:=Tryd.prog) [] [] (sOf Tryd.prog Tryd.f112) a_utf8_decodeRuneSlow (iOf Tryd.prog Tryd.f112) [(false,.L .Y)] [(false,.I
 .i32),(false,.I .i64)] x = F_utf8_decodeRuneSlow x:=by kernel_rfl
noncomputable def e_utf8_decodeRuneSlow:SEnt Tryd.prog:=⟨112,[(false,.L .Y)],[(false,.I .i32),(false,.I .i64)],F_utf8_decodeRuneSlow,runs_see mixed_Pe Tryd.func112 (by
 kernel_rfl) h_utf8_decodeRuneSlow⟩
noncomputable def a_utf8_DecodeRune:An:=(.sq none .d (.sq (some [.kt 0]) (.sq none .d (.bl (.lp [.kt 0,.kt 6,.kt 7,.lt 8 (.I .i64)] .d))) .d))
theorem h_utf8_DecodeRune (x:List UInt8):fnX (P:=Tryd.prog) [.see e_utf8_decodeRuneSlow] [] (sOf Tryd.prog Tryd.f97) a_utf8_DecodeRune (iOf Tryd.prog Tryd.f97) [(false,.L
 .Y)] [(false,.I .i32),(false,.I .i64)] x = F_utf8_DecodeRune x:=by kernel_rfl
noncomputable def e_utf8_DecodeRune:SEnt Tryd.prog:=⟨97,[(false,.L .Y)],[(false,.I .i32),(false,.I .i64)],F_utf8_DecodeRune,runs_see mixed_Pe Tryd.func97 (by
 kernel_rfl) h_utf8_DecodeRune⟩
noncomputable def a_i_GetSign:An:=.d
theorem h_i_GetSign (x:(List UInt8) × Int):fnX (P:=Tryd.prog) [.see e_utf8_DecodeRune] [] (sOf Tryd.prog Tryd.f78) a_i_GetSign (iOf Tryd.prog Tryd.f78) [(false,.L .Y),
 (false,.I .i64)] [(false,.I .i64),(false,.I .i64),(false,.B)] x = F_i_GetSign x:=by kernel_rfl
noncomputable def e_i_GetSign:SEnt Tryd.prog:=⟨78,[(false,.L .Y),(false,.I .i64)],[(false,.I .i64),(false,.I .i64),(false,.B)],F_i_GetSign,runs_see mixed_Pe
 Tryd.func78 (by kernel_rfl) h_i_GetSign⟩
noncomputable def a_i_PairSign:An:=.d
theorem h_i_PairSign (x:Int × Int):fnX (P:=Tryd.prog) [.see e_i_within] [] (sOf Tryd.prog Tryd.f98) a_i_PairSign (iOf Tryd.prog Tryd.f98) [(false,.I .i64),(false,.I .i64)]
 [(false,.I .i64),(false,.B)] x = F_i_PairSign x:=by kernel_rfl
noncomputable def e_i_PairSign:SEnt Tryd.prog:=⟨98,[(false,.I .i64),(false,.I .i64)],[(false,.I .i64),(false,.B)],F_i_PairSign,runs_see mixed_Pe Tryd.func98 (by
 kernel_rfl) h_i_PairSign⟩
noncomputable def a_i_EucSign:An:=.d
theorem h_i_EucSign (x:(List UInt8) × Int):fnX (P:=Tryd.prog) [.see e_i_PairSign] [] (sOf Tryd.prog Tryd.f79) a_i_EucSign (iOf Tryd.prog Tryd.f79) [(false,.L .Y),(false,.I
 .i64)] [(false,.I .i64),(false,.I .i64),(false,.B)] x = F_i_EucSign x:=by kernel_rfl
noncomputable def e_i_EucSign:SEnt Tryd.prog:=⟨79,[(false,.L .Y),(false,.I .i64)],[(false,.I .i64),(false,.I .i64),(false,.B)],F_i_EucSign,runs_see mixed_Pe
 Tryd.func79 (by kernel_rfl) h_i_EucSign⟩
noncomputable def a_i_nineSign:An:=.d
theorem h_i_nineSign (x:Int):fnX (P:=Tryd.prog) [] [] (sOf Tryd.prog Tryd.f99) a_i_nineSign (iOf Tryd.prog Tryd.f99) [(false,.I .i64)] [(false,.I .i64)] x = F_i_nineSign x
 := by kernel_rfl
noncomputable def e_i_nineSign:SEnt Tryd.prog:=⟨99,[(false,.I .i64)],[(false,.I .i64)],F_i_nineSign,runs_see mixed_Pe Tryd.func99 (by kernel_rfl) h_i_nineSign⟩
noncomputable def a_i_koiSign:An:=.d
theorem h_i_koiSign (x:Int):fnX (P:=Tryd.prog) [] [] (sOf Tryd.prog Tryd.f100) a_i_koiSign (iOf Tryd.prog Tryd.f100) [(false,.I .i64)] [(false,.I .i64)] x = F_i_koiSign x
 := by kernel_rfl
noncomputable def e_i_koiSign:SEnt Tryd.prog:=⟨100,[(false,.I .i64)],[(false,.I .i64)],F_i_koiSign,runs_see mixed_Pe Tryd.func100 (by kernel_rfl) h_i_koiSign⟩
end Go.Vs
