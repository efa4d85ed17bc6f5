import Derived.Test.YtbbdcgglfmhhpaaGreatDoorProg
import Derived.Test.YtbbdcgglfmhhpaaGreatDoorVsPlk5
set_option linter.all false
namespace Go.Vs
open Go.Proofs
set_option maxRecDepth 100000
noncomputable def a_utf8_decodeRuneSlow:An:=.d
theorem h_utf8_decodeRuneSlow (x:List UInt8):fnX (P:=Tryz.prog) [] [] (sOf Tryz.prog Tryz.f154) a_utf8_decodeRuneSlow (iOf Tryz.prog Tryz.f154) [(false,.L .Y)] [(false,.I
 .i32),(false,.I .i64)] x=Zz x:=by kernel_rfl
noncomputable def e_utf8_decodeRuneSlow:SEnt Tryz.prog:=⟨154,[(false,.L .Y)],[(false,.I .i32),(false,.I .i64)],Zz,runs_see mixed_Pl Tryz.func154 (by
 kernel_rfl) h_utf8_decodeRuneSlow⟩
noncomputable def a_utf8_DecodeRune:An:=(.sq none .d (.sq (some [.kt 0]) (.sq none .d (.bl (.lp [.kt 0,.kt 6,.kt 7,.lt 8 (.I .i64)] .d))) .d))
theorem h_utf8_DecodeRune (x:List UInt8):fnX (P:=Tryz.prog) [.see e_utf8_decodeRuneSlow] [] (sOf Tryz.prog Tryz.f148) a_utf8_DecodeRune (iOf Tryz.prog Tryz.f148) [(false,.L
 .Y)] [(false,.I .i32),(false,.I .i64)] x=Zeu x:=by kernel_rfl
noncomputable def e_utf8_DecodeRune:SEnt Tryz.prog:=⟨148,[(false,.L .Y)],[(false,.I .i32),(false,.I .i64)],Zeu,runs_see mixed_Pl Tryz.func148 (by
 kernel_rfl) h_utf8_DecodeRune⟩
noncomputable def a_i_GetSign:An:=.d
theorem h_i_GetSign (x:(List UInt8)×Int):fnX (P:=Tryz.prog) [.see e_utf8_DecodeRune] [] (sOf Tryz.prog Tryz.f138) a_i_GetSign (iOf Tryz.prog Tryz.f138) [(false,.L .Y),
 (false,.I .i64)] [(false,.I .i64),(false,.I .i64),(false,.B)] x=Zev x:=by kernel_rfl
noncomputable def e_i_GetSign:SEnt Tryz.prog:=⟨138,[(false,.L .Y),(false,.I .i64)],[(false,.I .i64),(false,.I .i64),(false,.B)],Zev,runs_see mixed_Pl
 Tryz.func138 (by kernel_rfl) h_i_GetSign⟩
noncomputable def a_i_PairSign:An:=.d
theorem h_i_PairSign (x:Int×Int):fnX (P:=Tryz.prog) [.see e_i_within] [] (sOf Tryz.prog Tryz.f149) a_i_PairSign (iOf Tryz.prog Tryz.f149) [(false,.I .i64),(false,.I
 .i64)] [(false,.I .i64),(false,.B)] x=Zgc x:=by kernel_rfl
noncomputable def e_i_PairSign:SEnt Tryz.prog:=⟨149,[(false,.I .i64),(false,.I .i64)],[(false,.I .i64),(false,.B)],Zgc,runs_see mixed_Pl Tryz.func149 (by
 kernel_rfl) h_i_PairSign⟩
noncomputable def a_i_EucSign:An:=.d
theorem h_i_EucSign (x:(List UInt8)×Int):fnX (P:=Tryz.prog) [.see e_i_PairSign] [] (sOf Tryz.prog Tryz.f139) a_i_EucSign (iOf Tryz.prog Tryz.f139) [(false,.L .Y),(false,
 .I .i64)] [(false,.I .i64),(false,.I .i64),(false,.B)] x=Zew x:=by kernel_rfl
noncomputable def e_i_EucSign:SEnt Tryz.prog:=⟨139,[(false,.L .Y),(false,.I .i64)],[(false,.I .i64),(false,.I .i64),(false,.B)],Zew,runs_see mixed_Pl
 Tryz.func139 (by kernel_rfl) h_i_EucSign⟩
noncomputable def a_i_nineSign:An:=.d
theorem h_i_nineSign (x:Int):fnX (P:=Tryz.prog) [] [] (sOf Tryz.prog Tryz.f150) a_i_nineSign (iOf Tryz.prog Tryz.f150) [(false,.I .i64)] [(false,.I .i64)] x=Zgz
 x:=by kernel_rfl
noncomputable def e_i_nineSign:SEnt Tryz.prog:=⟨150,[(false,.I .i64)],[(false,.I .i64)],Zgz,runs_see mixed_Pl Tryz.func150 (by kernel_rfl) h_i_nineSign⟩
noncomputable def a_i_koiSign:An:=.d
theorem h_i_koiSign (x:Int):fnX (P:=Tryz.prog) [] [] (sOf Tryz.prog Tryz.f151) a_i_koiSign (iOf Tryz.prog Tryz.f151) [(false,.I .i64)] [(false,.I .i64)] x=Zha x
 := by kernel_rfl
noncomputable def e_i_koiSign:SEnt Tryz.prog:=⟨151,[(false,.I .i64)],[(false,.I .i64)],Zha,runs_see mixed_Pl Tryz.func151 (by kernel_rfl) h_i_koiSign⟩
noncomputable def a_i_winSign:An:=.d
theorem h_i_winSign (x:Int):fnX (P:=Tryz.prog) [] [] (sOf Tryz.prog Tryz.f152) a_i_winSign (iOf Tryz.prog Tryz.f152) [(false,.I .i64)] [(false,.I .i64)] x=Zhb x
 := by kernel_rfl
noncomputable def e_i_winSign:SEnt Tryz.prog:=⟨152,[(false,.I .i64)],[(false,.I .i64)],Zhb,runs_see mixed_Pl Tryz.func152 (by kernel_rfl) h_i_winSign⟩
noncomputable def a_i_ByteSign:An:=(.sq none .d (.sq none .d (.sq none .d (.sq none .d (.sq (some [.lt 6 (.I .i64)]) .d .d)))))
theorem h_i_ByteSign (x:Int×Int):fnX (P:=Tryz.prog) [.see e_i_within,.see e_i_nineSign,.see e_i_koiSign,.see e_i_winSign] [] (sOf Tryz.prog Tryz.f140) a_i_ByteSign (iOf
 Tryz.prog Tryz.f140) [(false,.I .i64),(false,.I .i64)] [(false,.I .i64),(false,.B)] x=Zbk x:=by kernel_rfl
noncomputable def e_i_ByteSign:SEnt Tryz.prog:=⟨140,[(false,.I .i64),(false,.I .i64)],[(false,.I .i64),(false,.B)],Zbk,runs_see mixed_Pl Tryz.func140 (by
 kernel_rfl) h_i_ByteSign⟩
noncomputable def a_i_signIn:An:=.d
theorem h_i_signIn (x:Int×(List UInt8)×Int):fnX (P:=Tryz.prog) [.see e_i_GetSign,.see e_i_EucSign,.see e_i_ByteSign] [] (sOf Tryz.prog Tryz.f132) a_i_signIn (iOf
 Tryz.prog Tryz.f132) [(false,.I .i64),(false,.L .Y),(false,.I .i64)] [(false,.I .i64),(false,.I .i64),(false,.B)] x=Zex x:=by kernel_rfl
noncomputable def e_i_signIn:SEnt Tryz.prog:=⟨132,[(false,.I .i64),(false,.L .Y),(false,.I .i64)],[(false,.I .i64),(false,.I .i64),(false,.B)],Zex,runs_see
 mixed_Pl Tryz.func132 (by kernel_rfl) h_i_signIn⟩
noncomputable def a_i_SignOk:An:=.d
theorem h_i_SignOk (x:Int):fnX (P:=Tryz.prog) [.see e_i_within] [] (sOf Tryz.prog Tryz.f141) a_i_SignOk (iOf Tryz.prog Tryz.f141) [(false,.I .i64)] [(false,.B)] x =
 Zgd x:=by kernel_rfl
noncomputable def e_i_SignOk:SEnt Tryz.prog:=⟨141,[(false,.I .i64)],[(false,.B)],Zgd,runs_see mixed_Pl Tryz.func141 (by kernel_rfl) h_i_SignOk⟩
noncomputable def a_utf8_appendRuneNonASCII:An:=(.sq none .d (.sq none .d (.bl (.sq none .d (.cd .d (.sq (some [.kt 0,.kt 1,.kt 5,.lt 25 .B]) .d .d))))))
theorem h_utf8_appendRuneNonASCII (x:(List UInt8)×Int):fnG (P:=Tryz.prog) [] [(23,.el .Y),(24,.el .Y),(48,.el .Y),(49,.el .Y),(76,.el .Y),(77,.el .Y),(9,.el
 .Y),(10,.el .Y)] (sOf Tryz.prog Tryz.f153) a_utf8_appendRuneNonASCII (iOf Tryz.prog Tryz.f153) [⟨false,false,.L .Y,[.ow],none⟩,⟨false,false,.I .i32,[.rd],none⟩]
 [(false,.L .Y)] x=Zge x:=by kernel_rfl
noncomputable def e_utf8_appendRuneNonASCII:GEnt Tryz.prog:=⟨153,[⟨false,false,.L .Y,[.ow],none⟩,⟨false,false,.I .i32,[.rd],none⟩],[(false,.L .Y)],
 Zge,runs_gen mixed_Pl Tryz.func153 (by kernel_rfl) h_utf8_appendRuneNonASCII⟩
noncomputable def a_utf8_AppendRune:An:=.d
theorem h_utf8_AppendRune (x:(List UInt8)×Int):fnG (P:=Tryz.prog) [.gen e_utf8_appendRuneNonASCII] [(11,.el .Y),(12,.el .Y)] (sOf Tryz.prog Tryz.f142) a_utf8_AppendRune
 (iOf Tryz.prog Tryz.f142) [⟨false,false,.L .Y,[.ow],none⟩,⟨false,false,.I .i32,[.rd],none⟩] [(false,.L .Y)] x=Zgf x:=by kernel_rfl
noncomputable def e_utf8_AppendRune:GEnt Tryz.prog:=⟨142,[⟨false,false,.L .Y,[.ow],none⟩,⟨false,false,.I .i32,[.rd],none⟩],[(false,.L .Y)],Zgf,
 runs_gen mixed_Pl Tryz.func142 (by kernel_rfl) h_utf8_AppendRune⟩
noncomputable def a_i_PutSign:An:=.d
theorem h_i_PutSign (x:(List UInt8)×Int):fnX (P:=Tryz.prog) [.see e_i_joined,.see e_i_SignOk,.gen e_utf8_AppendRune] [(7,.sb)] (sOf Tryz.prog Tryz.f133) a_i_PutSign (iOf
 Tryz.prog Tryz.f133) [(false,.L .Y),(false,.I .i64)] [(false,.L .Y)] x=Zey x:=by kernel_rfl
noncomputable def e_i_PutSign:SEnt Tryz.prog:=⟨133,[(false,.L .Y),(false,.I .i64)],[(false,.L .Y)],Zey,runs_see mixed_Pl Tryz.func133 (by kernel_rfl)
 h_i_PutSign⟩
end Go.Vs
