import Derived.Test.YtmpopjdcbabchaaGreatDoorProg
import Derived.Test.YtmpopjdcbabchaaGreatDoorVsPmk3
set_option linter.all false
namespace Go.Vs
open Go.Proofs
set_option maxRecDepth 100000
noncomputable def a_i_within:An:=.d
theorem h_i_within (x:Int×Int×Int):fnX (P:=Tryz.prog) [] [] (sOf Tryz.prog Tryz.f52) a_i_within (iOf Tryz.prog Tryz.f52) [(false,.I .i64),(false,.I .i64),(false,.I
 .i64)] [(false,.B)] x=Zj x:=by kernel_rfl
noncomputable def e_i_within:SEnt Tryz.prog:=⟨52,[(false,.I .i64),(false,.I .i64),(false,.I .i64)],[(false,.B)],Zj,runs_see mixed_Pm Tryz.func52 (by
 kernel_rfl) h_i_within⟩
noncomputable def a_i_NameOk:An:=(.sq none .d (.sq (some [.kt 0]) (.sq none .d (.bl (.lp [.kt 0,.lt 3 (.I .i64)] .d))) .d))
theorem h_i_NameOk (x:List UInt8):fnX (P:=Tryz.prog) [.see e_i_within] [] (sOf Tryz.prog Tryz.f59) a_i_NameOk (iOf Tryz.prog Tryz.f59) [(false,.S)] [(false,.B)] x =
 Zcf x:=by kernel_rfl
noncomputable def e_i_NameOk:SEnt Tryz.prog:=⟨59,[(false,.S)],[(false,.B)],Zcf,runs_see mixed_Pm Tryz.func59 (by kernel_rfl) h_i_NameOk⟩
noncomputable def a_i_isSet:An:=.d
theorem h_i_isSet (x:Int):fnX (P:=Tryz.prog) [.see e_i_within] [] (sOf Tryz.prog Tryz.f123) a_i_isSet (iOf Tryz.prog Tryz.f123) [(false,.I .i64)] [(false,.B)] x=Zdc
 x:=by kernel_rfl
noncomputable def e_i_isSet:SEnt Tryz.prog:=⟨123,[(false,.I .i64)],[(false,.B)],Zdc,runs_see mixed_Pm Tryz.func123 (by kernel_rfl) h_i_isSet⟩
noncomputable def a_i_CellOk:An:=.d
theorem h_i_CellOk (x:Int×List UInt8):fnX (P:=Tryz.prog) [.see e_i_isSet] [] (sOf Tryz.prog Tryz.f92) a_i_CellOk (iOf Tryz.prog Tryz.f92) [(true,.P (.I .i64) (.L .Y))]
 [(false,.B)] x=Zcg x:=by kernel_rfl
noncomputable def e_i_CellOk:SEnt Tryz.prog:=⟨92,[(true,.P (.I .i64) (.L .Y))],[(false,.B)],Zcg,runs_see mixed_Pm Tryz.func92 (by kernel_rfl) h_i_CellOk⟩
noncomputable def a_utf8_decodeRuneSlow:An:=.d
theorem h_utf8_decodeRuneSlow (x:List UInt8):fnX (P:=Tryz.prog) [] [] (sOf Tryz.prog Tryz.f168) a_utf8_decodeRuneSlow (iOf Tryz.prog Tryz.f168) [(false,.L .Y)] [(false,.I
 .i32),(false,.I .i64)] x=Zt x:=by kernel_rfl
noncomputable def e_utf8_decodeRuneSlow:SEnt Tryz.prog:=⟨168,[(false,.L .Y)],[(false,.I .i32),(false,.I .i64)],Zt,runs_see mixed_Pm Tryz.func168 (by
 kernel_rfl) h_utf8_decodeRuneSlow⟩
noncomputable def a_utf8_DecodeRune:An:=(.sq none .d (.sq (some [.kt 0]) (.sq none .d (.bl (.lp [.kt 0,.kt 6,.kt 7,.lt 8 (.I .i64)] .d))) .d))
theorem h_utf8_DecodeRune (x:List UInt8):fnX (P:=Tryz.prog) [.see e_utf8_decodeRuneSlow] [] (sOf Tryz.prog Tryz.f158) a_utf8_DecodeRune (iOf Tryz.prog Tryz.f158) [(false,.L
 .Y)] [(false,.I .i32),(false,.I .i64)] x=Zde x:=by kernel_rfl
noncomputable def e_utf8_DecodeRune:SEnt Tryz.prog:=⟨158,[(false,.L .Y)],[(false,.I .i32),(false,.I .i64)],Zde,runs_see mixed_Pm Tryz.func158 (by
 kernel_rfl) h_utf8_DecodeRune⟩
noncomputable def a_i_GetSign:An:=.d
theorem h_i_GetSign (x:(List UInt8)×Int):fnX (P:=Tryz.prog) [.see e_utf8_DecodeRune] [] (sOf Tryz.prog Tryz.f145) a_i_GetSign (iOf Tryz.prog Tryz.f145) [(false,.L .Y),
 (false,.I .i64)] [(false,.I .i64),(false,.I .i64),(false,.B)] x=Zdf x:=by kernel_rfl
noncomputable def e_i_GetSign:SEnt Tryz.prog:=⟨145,[(false,.L .Y),(false,.I .i64)],[(false,.I .i64),(false,.I .i64),(false,.B)],Zdf,runs_see mixed_Pm
 Tryz.func145 (by kernel_rfl) h_i_GetSign⟩
noncomputable def a_i_PairSign:An:=.d
theorem h_i_PairSign (x:Int×Int):fnX (P:=Tryz.prog) [.see e_i_within] [] (sOf Tryz.prog Tryz.f159) a_i_PairSign (iOf Tryz.prog Tryz.f159) [(false,.I .i64),(false,.I
 .i64)] [(false,.I .i64),(false,.B)] x=Zec x:=by kernel_rfl
noncomputable def e_i_PairSign:SEnt Tryz.prog:=⟨159,[(false,.I .i64),(false,.I .i64)],[(false,.I .i64),(false,.B)],Zec,runs_see mixed_Pm Tryz.func159 (by
 kernel_rfl) h_i_PairSign⟩
noncomputable def a_i_EucSign:An:=.d
theorem h_i_EucSign (x:(List UInt8)×Int):fnX (P:=Tryz.prog) [.see e_i_PairSign] [] (sOf Tryz.prog Tryz.f146) a_i_EucSign (iOf Tryz.prog Tryz.f146) [(false,.L .Y),(false,
 .I .i64)] [(false,.I .i64),(false,.I .i64),(false,.B)] x=Zdg x:=by kernel_rfl
noncomputable def e_i_EucSign:SEnt Tryz.prog:=⟨146,[(false,.L .Y),(false,.I .i64)],[(false,.I .i64),(false,.I .i64),(false,.B)],Zdg,runs_see mixed_Pm
 Tryz.func146 (by kernel_rfl) h_i_EucSign⟩
noncomputable def a_i_nineSign:An:=.d
theorem h_i_nineSign (x:Int):fnX (P:=Tryz.prog) [] [] (sOf Tryz.prog Tryz.f160) a_i_nineSign (iOf Tryz.prog Tryz.f160) [(false,.I .i64)] [(false,.I .i64)] x=Zev
 x:=by kernel_rfl
noncomputable def e_i_nineSign:SEnt Tryz.prog:=⟨160,[(false,.I .i64)],[(false,.I .i64)],Zev,runs_see mixed_Pm Tryz.func160 (by kernel_rfl) h_i_nineSign⟩
noncomputable def a_i_koiSign:An:=.d
theorem h_i_koiSign (x:Int):fnX (P:=Tryz.prog) [] [] (sOf Tryz.prog Tryz.f161) a_i_koiSign (iOf Tryz.prog Tryz.f161) [(false,.I .i64)] [(false,.I .i64)] x=Zew x
 := by kernel_rfl
noncomputable def e_i_koiSign:SEnt Tryz.prog:=⟨161,[(false,.I .i64)],[(false,.I .i64)],Zew,runs_see mixed_Pm Tryz.func161 (by kernel_rfl) h_i_koiSign⟩
noncomputable def a_i_winSign:An:=.d
theorem h_i_winSign (x:Int):fnX (P:=Tryz.prog) [] [] (sOf Tryz.prog Tryz.f162) a_i_winSign (iOf Tryz.prog Tryz.f162) [(false,.I .i64)] [(false,.I .i64)] x=Zex x
 := by kernel_rfl
noncomputable def e_i_winSign:SEnt Tryz.prog:=⟨162,[(false,.I .i64)],[(false,.I .i64)],Zex,runs_see mixed_Pm Tryz.func162 (by kernel_rfl) h_i_winSign⟩
noncomputable def a_i_ByteSign:An:=(.sq none .d (.sq none .d (.sq none .d (.sq none .d (.sq (some [.lt 6 (.I .i64)]) .d .d)))))
theorem h_i_ByteSign (x:Int×Int):fnX (P:=Tryz.prog) [.see e_i_within,.see e_i_nineSign,.see e_i_koiSign,.see e_i_winSign] [] (sOf Tryz.prog Tryz.f147) a_i_ByteSign (iOf
 Tryz.prog Tryz.f147) [(false,.I .i64),(false,.I .i64)] [(false,.I .i64),(false,.B)] x=Zbd x:=by kernel_rfl
noncomputable def e_i_ByteSign:SEnt Tryz.prog:=⟨147,[(false,.I .i64),(false,.I .i64)],[(false,.I .i64),(false,.B)],Zbd,runs_see mixed_Pm Tryz.func147 (by
 kernel_rfl) h_i_ByteSign⟩
noncomputable def a_i_signIn:An:=.d
theorem h_i_signIn (x:Int×(List UInt8)×Int):fnX (P:=Tryz.prog) [.see e_i_GetSign,.see e_i_EucSign,.see e_i_ByteSign] [] (sOf Tryz.prog Tryz.f135) a_i_signIn (iOf
 Tryz.prog Tryz.f135) [(false,.I .i64),(false,.L .Y),(false,.I .i64)] [(false,.I .i64),(false,.I .i64),(false,.B)] x=Zdh x:=by kernel_rfl
noncomputable def e_i_signIn:SEnt Tryz.prog:=⟨135,[(false,.I .i64),(false,.L .Y),(false,.I .i64)],[(false,.I .i64),(false,.I .i64),(false,.B)],Zdh,runs_see
 mixed_Pm Tryz.func135 (by kernel_rfl) h_i_signIn⟩
end Go.Vs
