import Derived.Test.YtggfmlobpmndoaaGreatDoorProg
import Derived.Test.YtggfmlobpmndoaaGreatDoorVsPgk3
set_option linter.all false
namespace Go.Vs
open Go.Proofs
set_option maxRecDepth 100000
noncomputable def a_i_joined:An:=(.sq none .d (.sq none .d (.sq (some [.ot 3 .Y]) (.sq none .d (.bl (.lp [.ot 3 .Y,.kt 7,.kt 8,.lt 9 (.I .i64)] .d))) .d)))
theorem h_i_joined (x:List (List UInt8)):fnX (P:=Tryz.prog) [] [(6,.el .Y),(15,.el .Y)] (sOf Tryz.prog Tryz.f82) a_i_joined (iOf Tryz.prog Tryz.f82) [(false,.L (.L .Y))]
 [(false,.L .Y)] x=F_i_joined x:=by kernel_rfl
noncomputable def e_i_joined:SEnt Tryz.prog:=⟨82,[(false,.L (.L .Y))],[(false,.L .Y)],F_i_joined,runs_see mixed_Pg Tryz.func82 (by kernel_rfl) h_i_joined⟩
noncomputable def a_i_within:An:=.d
theorem h_i_within (x:Int×Int×Int):fnX (P:=Tryz.prog) [] [] (sOf Tryz.prog Tryz.f92) a_i_within (iOf Tryz.prog Tryz.f92) [(false,.I .i64),(false,.I .i64),(false,.I
 .i64)] [(false,.B)] x=F_i_within x:=by kernel_rfl
noncomputable def e_i_within:SEnt Tryz.prog:=⟨92,[(false,.I .i64),(false,.I .i64),(false,.I .i64)],[(false,.B)],F_i_within,runs_see mixed_Pg Tryz.func92 (by
 kernel_rfl) h_i_within⟩
noncomputable def a_i_NameOk:An:=(.sq none .d (.sq (some [.kt 0]) (.sq none .d (.bl (.lp [.kt 0,.lt 3 (.I .i64)] .d))) .d))
theorem h_i_NameOk (x:List UInt8):fnX (P:=Tryz.prog) [.see e_i_within] [] (sOf Tryz.prog Tryz.f91) a_i_NameOk (iOf Tryz.prog Tryz.f91) [(false,.S)] [(false,.B)] x =
 F_i_NameOk x:=by kernel_rfl
noncomputable def e_i_NameOk:SEnt Tryz.prog:=⟨91,[(false,.S)],[(false,.B)],F_i_NameOk,runs_see mixed_Pg Tryz.func91 (by kernel_rfl) h_i_NameOk⟩
noncomputable def a_i_isSet:An:=.d
theorem h_i_isSet (x:Int):fnX (P:=Tryz.prog) [.see e_i_within] [] (sOf Tryz.prog Tryz.f179) a_i_isSet (iOf Tryz.prog Tryz.f179) [(false,.I .i64)] [(false,.B)] x=F_i_isSet
 x:=by kernel_rfl
noncomputable def e_i_isSet:SEnt Tryz.prog:=⟨179,[(false,.I .i64)],[(false,.B)],F_i_isSet,runs_see mixed_Pg Tryz.func179 (by kernel_rfl) h_i_isSet⟩
noncomputable def a_i_CellOk:An:=.d
theorem h_i_CellOk (x:Int×List UInt8):fnX (P:=Tryz.prog) [.see e_i_isSet] [] (sOf Tryz.prog Tryz.f95) a_i_CellOk (iOf Tryz.prog Tryz.f95) [(true,.P (.I .i64) (.L .Y))]
 [(false,.B)] x=F_i_CellOk x:=by kernel_rfl
noncomputable def e_i_CellOk:SEnt Tryz.prog:=⟨95,[(true,.P (.I .i64) (.L .Y))],[(false,.B)],F_i_CellOk,runs_see mixed_Pg Tryz.func95 (by kernel_rfl) h_i_CellOk⟩
noncomputable def a_utf8_decodeRuneSlow:An:=.d
theorem h_utf8_decodeRuneSlow (x:List UInt8):fnX (P:=Tryz.prog) [] [] (sOf Tryz.prog Tryz.f263) a_utf8_decodeRuneSlow (iOf Tryz.prog Tryz.f263) [(false,.L .Y)] [(false,.I
 .i32),(false,.I .i64)] x=F_utf8_decodeRuneSlow x:=by kernel_rfl
noncomputable def e_utf8_decodeRuneSlow:SEnt Tryz.prog:=⟨263,[(false,.L .Y)],[(false,.I .i32),(false,.I .i64)],F_utf8_decodeRuneSlow,runs_see mixed_Pg Tryz.func263 (by
 kernel_rfl) h_utf8_decodeRuneSlow⟩
noncomputable def a_utf8_DecodeRune:An:=(.sq none .d (.sq (some [.kt 0]) (.sq none .d (.bl (.lp [.kt 0,.kt 6,.kt 7,.lt 8 (.I .i64)] .d))) .d))
theorem h_utf8_DecodeRune (x:List UInt8):fnX (P:=Tryz.prog) [.see e_utf8_decodeRuneSlow] [] (sOf Tryz.prog Tryz.f250) a_utf8_DecodeRune (iOf Tryz.prog Tryz.f250) [(false,.L
 .Y)] [(false,.I .i32),(false,.I .i64)] x=F_utf8_DecodeRune x:=by kernel_rfl
noncomputable def e_utf8_DecodeRune:SEnt Tryz.prog:=⟨250,[(false,.L .Y)],[(false,.I .i32),(false,.I .i64)],F_utf8_DecodeRune,runs_see mixed_Pg Tryz.func250 (by
 kernel_rfl) h_utf8_DecodeRune⟩
noncomputable def a_i_GetSign:An:=.d
theorem h_i_GetSign (x:(List UInt8)×Int):fnX (P:=Tryz.prog) [.see e_utf8_DecodeRune] [] (sOf Tryz.prog Tryz.f236) a_i_GetSign (iOf Tryz.prog Tryz.f236) [(false,.L .Y),
 (false,.I .i64)] [(false,.I .i64),(false,.I .i64),(false,.B)] x=F_i_GetSign x:=by kernel_rfl
noncomputable def e_i_GetSign:SEnt Tryz.prog:=⟨236,[(false,.L .Y),(false,.I .i64)],[(false,.I .i64),(false,.I .i64),(false,.B)],F_i_GetSign,runs_see mixed_Pg
 Tryz.func236 (by kernel_rfl) h_i_GetSign⟩
noncomputable def a_i_PairSign:An:=.d
theorem h_i_PairSign (x:Int×Int):fnX (P:=Tryz.prog) [.see e_i_within] [] (sOf Tryz.prog Tryz.f251) a_i_PairSign (iOf Tryz.prog Tryz.f251) [(false,.I .i64),(false,.I
 .i64)] [(false,.I .i64),(false,.B)] x=F_i_PairSign x:=by kernel_rfl
noncomputable def e_i_PairSign:SEnt Tryz.prog:=⟨251,[(false,.I .i64),(false,.I .i64)],[(false,.I .i64),(false,.B)],F_i_PairSign,runs_see mixed_Pg Tryz.func251 (by
 kernel_rfl) h_i_PairSign⟩
noncomputable def a_i_EucSign:An:=.d
theorem h_i_EucSign (x:(List UInt8)×Int):fnX (P:=Tryz.prog) [.see e_i_PairSign] [] (sOf Tryz.prog Tryz.f237) a_i_EucSign (iOf Tryz.prog Tryz.f237) [(false,.L .Y),(false,
 .I .i64)] [(false,.I .i64),(false,.I .i64),(false,.B)] x=F_i_EucSign x:=by kernel_rfl
noncomputable def e_i_EucSign:SEnt Tryz.prog:=⟨237,[(false,.L .Y),(false,.I .i64)],[(false,.I .i64),(false,.I .i64),(false,.B)],F_i_EucSign,runs_see mixed_Pg
 Tryz.func237 (by kernel_rfl) h_i_EucSign⟩
noncomputable def a_i_nineSign:An:=.d
theorem h_i_nineSign (x:Int):fnX (P:=Tryz.prog) [] [] (sOf Tryz.prog Tryz.f252) a_i_nineSign (iOf Tryz.prog Tryz.f252) [(false,.I .i64)] [(false,.I .i64)] x=F_i_nineSign
 x:=by kernel_rfl
noncomputable def e_i_nineSign:SEnt Tryz.prog:=⟨252,[(false,.I .i64)],[(false,.I .i64)],F_i_nineSign,runs_see mixed_Pg Tryz.func252 (by kernel_rfl) h_i_nineSign⟩
noncomputable def a_i_koiSign:An:=.d
theorem h_i_koiSign (x:Int):fnX (P:=Tryz.prog) [] [] (sOf Tryz.prog Tryz.f253) a_i_koiSign (iOf Tryz.prog Tryz.f253) [(false,.I .i64)] [(false,.I .i64)] x=F_i_koiSign x
 := by kernel_rfl
noncomputable def e_i_koiSign:SEnt Tryz.prog:=⟨253,[(false,.I .i64)],[(false,.I .i64)],F_i_koiSign,runs_see mixed_Pg Tryz.func253 (by kernel_rfl) h_i_koiSign⟩
noncomputable def a_i_winSign:An:=.d
theorem h_i_winSign (x:Int):fnX (P:=Tryz.prog) [] [] (sOf Tryz.prog Tryz.f254) a_i_winSign (iOf Tryz.prog Tryz.f254) [(false,.I .i64)] [(false,.I .i64)] x=F_i_winSign x
 := by kernel_rfl
noncomputable def e_i_winSign:SEnt Tryz.prog:=⟨254,[(false,.I .i64)],[(false,.I .i64)],F_i_winSign,runs_see mixed_Pg Tryz.func254 (by kernel_rfl) h_i_winSign⟩
noncomputable def a_i_ByteSign:An:=(.sq none .d (.sq none .d (.sq none .d (.sq none .d (.sq (some [.lt 6 (.I .i64)]) .d .d)))))
theorem h_i_ByteSign (x:Int×Int):fnX (P:=Tryz.prog) [.see e_i_within,.see e_i_nineSign,.see e_i_koiSign,.see e_i_winSign] [] (sOf Tryz.prog Tryz.f238) a_i_ByteSign (iOf
 Tryz.prog Tryz.f238) [(false,.I .i64),(false,.I .i64)] [(false,.I .i64),(false,.B)] x=F_i_ByteSign x:=by kernel_rfl
noncomputable def e_i_ByteSign:SEnt Tryz.prog:=⟨238,[(false,.I .i64),(false,.I .i64)],[(false,.I .i64),(false,.B)],F_i_ByteSign,runs_see mixed_Pg Tryz.func238 (by
 kernel_rfl) h_i_ByteSign⟩
end Go.Vs
