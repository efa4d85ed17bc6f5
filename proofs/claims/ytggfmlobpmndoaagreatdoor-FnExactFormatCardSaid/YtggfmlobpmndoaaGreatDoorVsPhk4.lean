import Derived.Test.YtggfmlobpmndoaaGreatDoorProg
import Derived.Test.YtggfmlobpmndoaaGreatDoorVsPhk3
set_option linter.all false
namespace Go.Vs
open Go.Proofs
set_option maxRecDepth 100000
noncomputable def a_utf8_decodeRuneSlow:An:=.d
theorem h_utf8_decodeRuneSlow (x:List UInt8):fnX (P:=Tryz.prog) [] [] (sOf Tryz.prog Tryz.f263) a_utf8_decodeRuneSlow (iOf Tryz.prog Tryz.f263) [(false,.L .Y)] [(false,.I
 .i32),(false,.I .i64)] x=F_utf8_decodeRuneSlow x:=by kernel_rfl
noncomputable def e_utf8_decodeRuneSlow:SEnt Tryz.prog:=⟨263,[(false,.L .Y)],[(false,.I .i32),(false,.I .i64)],F_utf8_decodeRuneSlow,runs_see mixed_Ph Tryz.func263 (by
 kernel_rfl) h_utf8_decodeRuneSlow⟩
noncomputable def a_utf8_DecodeRune:An:=(.sq none .d (.sq (some [.kt 0]) (.sq none .d (.bl (.lp [.kt 0,.kt 6,.kt 7,.lt 8 (.I .i64)] .d))) .d))
theorem h_utf8_DecodeRune (x:List UInt8):fnX (P:=Tryz.prog) [.see e_utf8_decodeRuneSlow] [] (sOf Tryz.prog Tryz.f250) a_utf8_DecodeRune (iOf Tryz.prog Tryz.f250) [(false,.L
 .Y)] [(false,.I .i32),(false,.I .i64)] x=F_utf8_DecodeRune x:=by kernel_rfl
noncomputable def e_utf8_DecodeRune:SEnt Tryz.prog:=⟨250,[(false,.L .Y)],[(false,.I .i32),(false,.I .i64)],F_utf8_DecodeRune,runs_see mixed_Ph Tryz.func250 (by
 kernel_rfl) h_utf8_DecodeRune⟩
noncomputable def a_i_GetSign:An:=.d
theorem h_i_GetSign (x:(List UInt8)×Int):fnX (P:=Tryz.prog) [.see e_utf8_DecodeRune] [] (sOf Tryz.prog Tryz.f236) a_i_GetSign (iOf Tryz.prog Tryz.f236) [(false,.L .Y),
 (false,.I .i64)] [(false,.I .i64),(false,.I .i64),(false,.B)] x=F_i_GetSign x:=by kernel_rfl
noncomputable def e_i_GetSign:SEnt Tryz.prog:=⟨236,[(false,.L .Y),(false,.I .i64)],[(false,.I .i64),(false,.I .i64),(false,.B)],F_i_GetSign,runs_see mixed_Ph
 Tryz.func236 (by kernel_rfl) h_i_GetSign⟩
noncomputable def a_i_PairSign:An:=.d
theorem h_i_PairSign (x:Int×Int):fnX (P:=Tryz.prog) [.see e_i_within] [] (sOf Tryz.prog Tryz.f251) a_i_PairSign (iOf Tryz.prog Tryz.f251) [(false,.I .i64),(false,.I
 .i64)] [(false,.I .i64),(false,.B)] x=F_i_PairSign x:=by kernel_rfl
noncomputable def e_i_PairSign:SEnt Tryz.prog:=⟨251,[(false,.I .i64),(false,.I .i64)],[(false,.I .i64),(false,.B)],F_i_PairSign,runs_see mixed_Ph Tryz.func251 (by
 kernel_rfl) h_i_PairSign⟩
noncomputable def a_i_EucSign:An:=.d
theorem h_i_EucSign (x:(List UInt8)×Int):fnX (P:=Tryz.prog) [.see e_i_PairSign] [] (sOf Tryz.prog Tryz.f237) a_i_EucSign (iOf Tryz.prog Tryz.f237) [(false,.L .Y),(false,
 .I .i64)] [(false,.I .i64),(false,.I .i64),(false,.B)] x=F_i_EucSign x:=by kernel_rfl
noncomputable def e_i_EucSign:SEnt Tryz.prog:=⟨237,[(false,.L .Y),(false,.I .i64)],[(false,.I .i64),(false,.I .i64),(false,.B)],F_i_EucSign,runs_see mixed_Ph
 Tryz.func237 (by kernel_rfl) h_i_EucSign⟩
noncomputable def a_i_nineSign:An:=.d
theorem h_i_nineSign (x:Int):fnX (P:=Tryz.prog) [] [] (sOf Tryz.prog Tryz.f252) a_i_nineSign (iOf Tryz.prog Tryz.f252) [(false,.I .i64)] [(false,.I .i64)] x=F_i_nineSign
 x:=by kernel_rfl
noncomputable def e_i_nineSign:SEnt Tryz.prog:=⟨252,[(false,.I .i64)],[(false,.I .i64)],F_i_nineSign,runs_see mixed_Ph Tryz.func252 (by kernel_rfl) h_i_nineSign⟩
noncomputable def a_i_koiSign:An:=.d
theorem h_i_koiSign (x:Int):fnX (P:=Tryz.prog) [] [] (sOf Tryz.prog Tryz.f253) a_i_koiSign (iOf Tryz.prog Tryz.f253) [(false,.I .i64)] [(false,.I .i64)] x=F_i_koiSign x
 := by kernel_rfl
noncomputable def e_i_koiSign:SEnt Tryz.prog:=⟨253,[(false,.I .i64)],[(false,.I .i64)],F_i_koiSign,runs_see mixed_Ph Tryz.func253 (by kernel_rfl) h_i_koiSign⟩
noncomputable def a_i_winSign:An:=.d
theorem h_i_winSign (x:Int):fnX (P:=Tryz.prog) [] [] (sOf Tryz.prog Tryz.f254) a_i_winSign (iOf Tryz.prog Tryz.f254) [(false,.I .i64)] [(false,.I .i64)] x=F_i_winSign x
 := by kernel_rfl
noncomputable def e_i_winSign:SEnt Tryz.prog:=⟨254,[(false,.I .i64)],[(false,.I .i64)],F_i_winSign,runs_see mixed_Ph Tryz.func254 (by kernel_rfl) h_i_winSign⟩
noncomputable def a_i_ByteSign:An:=(.sq none .d (.sq none .d (.sq none .d (.sq none .d (.sq (some [.lt 6 (.I .i64)]) .d .d)))))
theorem h_i_ByteSign (x:Int×Int):fnX (P:=Tryz.prog) [.see e_i_within,.see e_i_nineSign,.see e_i_koiSign,.see e_i_winSign] [] (sOf Tryz.prog Tryz.f238) a_i_ByteSign (iOf
 Tryz.prog Tryz.f238) [(false,.I .i64),(false,.I .i64)] [(false,.I .i64),(false,.B)] x=F_i_ByteSign x:=by kernel_rfl
noncomputable def e_i_ByteSign:SEnt Tryz.prog:=⟨238,[(false,.I .i64),(false,.I .i64)],[(false,.I .i64),(false,.B)],F_i_ByteSign,runs_see mixed_Ph Tryz.func238 (by
 kernel_rfl) h_i_ByteSign⟩
noncomputable def a_i_signIn:An:=.d
theorem h_i_signIn (x:Int×(List UInt8)×Int):fnX (P:=Tryz.prog) [.see e_i_GetSign,.see e_i_EucSign,.see e_i_ByteSign] [] (sOf Tryz.prog Tryz.f220) a_i_signIn (iOf
 Tryz.prog Tryz.f220) [(false,.I .i64),(false,.L .Y),(false,.I .i64)] [(false,.I .i64),(false,.I .i64),(false,.B)] x=F_i_signIn x:=by kernel_rfl
noncomputable def e_i_signIn:SEnt Tryz.prog:=⟨220,[(false,.I .i64),(false,.L .Y),(false,.I .i64)],[(false,.I .i64),(false,.I .i64),(false,.B)],F_i_signIn,runs_see
 mixed_Ph Tryz.func220 (by kernel_rfl) h_i_signIn⟩
noncomputable def a_i_SignOk:An:=.d
theorem h_i_SignOk (x:Int):fnX (P:=Tryz.prog) [.see e_i_within] [] (sOf Tryz.prog Tryz.f239) a_i_SignOk (iOf Tryz.prog Tryz.f239) [(false,.I .i64)] [(false,.B)] x =
 F_i_SignOk x:=by kernel_rfl
noncomputable def e_i_SignOk:SEnt Tryz.prog:=⟨239,[(false,.I .i64)],[(false,.B)],F_i_SignOk,runs_see mixed_Ph Tryz.func239 (by kernel_rfl) h_i_SignOk⟩
noncomputable def a_utf8_appendRuneNonASCII:An:=(.sq none .d (.sq none .d (.bl (.sq none .d (.cd .d (.sq (some [.kt 0,.kt 1,.kt 5,.lt 25 .B]) .d .d))))))
theorem h_utf8_appendRuneNonASCII (x:(List UInt8)×Int):fnG (P:=Tryz.prog) [] [(23,.el .Y),(24,.el .Y),(48,.el .Y),(49,.el .Y),(76,.el .Y),(77,.el .Y),(9,.el
 .Y),(10,.el .Y)] (sOf Tryz.prog Tryz.f255) a_utf8_appendRuneNonASCII (iOf Tryz.prog Tryz.f255) [⟨false,false,.L .Y,[.ow],none⟩,⟨false,false,.I .i32,[.rd],none⟩]
 [(false,.L .Y)] x=F_utf8_appendRuneNonASCII x:=by kernel_rfl
noncomputable def e_utf8_appendRuneNonASCII:GEnt Tryz.prog:=⟨255,[⟨false,false,.L .Y,[.ow],none⟩,⟨false,false,.I .i32,[.rd],none⟩],[(false,.L .Y)],
 F_utf8_appendRuneNonASCII,runs_gen mixed_Ph Tryz.func255 (by kernel_rfl) h_utf8_appendRuneNonASCII⟩
noncomputable def a_utf8_AppendRune:An:=.d
theorem h_utf8_AppendRune (x:(List UInt8)×Int):fnG (P:=Tryz.prog) [.gen e_utf8_appendRuneNonASCII] [(11,.el .Y),(12,.el .Y)] (sOf Tryz.prog Tryz.f240) a_utf8_AppendRune
 (iOf Tryz.prog Tryz.f240) [⟨false,false,.L .Y,[.ow],none⟩,⟨false,false,.I .i32,[.rd],none⟩] [(false,.L .Y)] x=F_utf8_AppendRune x:=by kernel_rfl
noncomputable def e_utf8_AppendRune:GEnt Tryz.prog:=⟨240,[⟨false,false,.L .Y,[.ow],none⟩,⟨false,false,.I .i32,[.rd],none⟩],[(false,.L .Y)],F_utf8_AppendRune,
 runs_gen mixed_Ph Tryz.func240 (by kernel_rfl) h_utf8_AppendRune⟩
noncomputable def a_i_PutSign:An:=.d
theorem h_i_PutSign (x:(List UInt8)×Int):fnX (P:=Tryz.prog) [.see e_i_joined,.see e_i_SignOk,.gen e_utf8_AppendRune] [(7,.sb)] (sOf Tryz.prog Tryz.f221) a_i_PutSign (iOf
 Tryz.prog Tryz.f221) [(false,.L .Y),(false,.I .i64)] [(false,.L .Y)] x=F_i_PutSign x:=by kernel_rfl
noncomputable def e_i_PutSign:SEnt Tryz.prog:=⟨221,[(false,.L .Y),(false,.I .i64)],[(false,.L .Y)],F_i_PutSign,runs_see mixed_Ph Tryz.func221 (by kernel_rfl)
 h_i_PutSign⟩
end Go.Vs
