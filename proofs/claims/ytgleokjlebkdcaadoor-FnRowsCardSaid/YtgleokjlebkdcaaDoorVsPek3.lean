import Derived.Test.YtgleokjlebkdcaaDoorProg
import Derived.Test.YtgleokjlebkdcaaDoorVsPek2
set_option linter.all false
namespace Go.Vs
open Go.Proofs
set_option maxRecDepth 100000
noncomputable def a_i_winSign:An:=.d
theorem h_i_winSign (x:Int):fnX (P:=Tryd.prog) [] [] (sOf Tryd.prog Tryd.f101) a_i_winSign (iOf Tryd.prog Tryd.f101) [(false,.I .i64)] [(false,.I .i64)] x = F_i_winSign x
 := by kernel_rfl
noncomputable def e_i_winSign:SEnt Tryd.prog:=⟨101,[(false,.I .i64)],[(false,.I .i64)],F_i_winSign,runs_see mixed_Pe Tryd.func101 (by kernel_rfl) h_i_winSign⟩
noncomputable def a_i_ByteSign:An:=(.sq none .d (.sq none .d (.sq none .d (.sq none .d (.sq (some [.lt 6 (.I .i64)]) .d .d)))))
theorem h_i_ByteSign (x:Int × Int):fnX (P:=Tryd.prog) [.see e_i_within,.see e_i_nineSign,.see e_i_koiSign,.see e_i_winSign] [] (sOf Tryd.prog Tryd.f80) a_i_ByteSign (iOf
 Tryd.prog Tryd.f80) [(false,.I .i64),(false,.I .i64)] [(false,.I .i64),(false,.B)] x = F_i_ByteSign x:=by kernel_rfl
noncomputable def e_i_ByteSign:SEnt Tryd.prog:=⟨80,[(false,.I .i64),(false,.I .i64)],[(false,.I .i64),(false,.B)],F_i_ByteSign,runs_see mixed_Pe Tryd.func80 (by
 kernel_rfl) h_i_ByteSign⟩
noncomputable def a_i_signIn:An:=.d
theorem h_i_signIn (x:Int × (List UInt8) × Int):fnX (P:=Tryd.prog) [.see e_i_GetSign,.see e_i_EucSign,.see e_i_ByteSign] [] (sOf Tryd.prog Tryd.f61) a_i_signIn (iOf
 Tryd.prog Tryd.f61) [(false,.I .i64),(false,.L .Y),(false,.I .i64)] [(false,.I .i64),(false,.I .i64),(false,.B)] x = F_i_signIn x:=by kernel_rfl
noncomputable def e_i_signIn:SEnt Tryd.prog:=⟨61,[(false,.I .i64),(false,.L .Y),(false,.I .i64)],[(false,.I .i64),(false,.I .i64),(false,.B)],F_i_signIn,runs_see
 mixed_Pe Tryd.func61 (by kernel_rfl) h_i_signIn⟩
noncomputable def a_i_joined:An:=(.sq none .d (.sq none .d (.sq (some [.ot 3 .Y]) (.sq none .d (.bl (.lp [.ot 3 .Y,.kt 7,.kt 8,.lt 9 (.I .i64)] .d))) .d)))
theorem h_i_joined (x:List (List UInt8)):fnX (P:=Tryd.prog) [] [(6,.el .Y),(15,.el .Y)] (sOf Tryd.prog Tryd.f65) a_i_joined (iOf Tryd.prog Tryd.f65) [(false,.L (.L .Y))]
 [(false,.L .Y)] x = F_i_joined x:=by kernel_rfl
noncomputable def e_i_joined:SEnt Tryd.prog:=⟨65,[(false,.L (.L .Y))],[(false,.L .Y)],F_i_joined,runs_see mixed_Pe Tryd.func65 (by kernel_rfl) h_i_joined⟩
noncomputable def a_i_SignOk:An:=.d
theorem h_i_SignOk (x:Int):fnX (P:=Tryd.prog) [.see e_i_within] [] (sOf Tryd.prog Tryd.f81) a_i_SignOk (iOf Tryd.prog Tryd.f81) [(false,.I .i64)] [(false,.B)] x =
 F_i_SignOk x:=by kernel_rfl
noncomputable def e_i_SignOk:SEnt Tryd.prog:=⟨81,[(false,.I .i64)],[(false,.B)],F_i_SignOk,runs_see mixed_Pe Tryd.func81 (by kernel_rfl) h_i_SignOk⟩
noncomputable def a_utf8_appendRuneNonASCII:An:=(.sq none .d (.sq none .d (.bl (.sq none .d (.cd .d (.sq (some [.kt 0,.kt 1,.kt 5,.lt 25 .B]) .d .d))))))
theorem h_utf8_appendRuneNonASCII (x:(List UInt8) × Int):fnG (P:=Tryd.prog) [] [(23,.el .Y),(24,.el .Y),(48,.el .Y),(49,.el .Y),(76,.el .Y),(77,.el .Y),(9,.el
 .Y),(10,.el .Y)] (sOf Tryd.prog Tryd.f102) a_utf8_appendRuneNonASCII (iOf Tryd.prog Tryd.f102) [⟨false,false,.L .Y,[.ow],none⟩,⟨false,false,.I .i32,[.rd],none⟩]
 [(false,.L .Y)] x = F_utf8_appendRuneNonASCII x:=by kernel_rfl
noncomputable def e_utf8_appendRuneNonASCII:GEnt Tryd.prog:=⟨102,[⟨false,false,.L .Y,[.ow],none⟩,⟨false,false,.I .i32,[.rd],none⟩],[(false,.L .Y)],
 F_utf8_appendRuneNonASCII,runs_gen mixed_Pe Tryd.func102 (by kernel_rfl) h_utf8_appendRuneNonASCII⟩
noncomputable def a_utf8_AppendRune:An:=.d
theorem h_utf8_AppendRune (x:(List UInt8) × Int):fnG (P:=Tryd.prog) [.gen e_utf8_appendRuneNonASCII] [(11,.el .Y),(12,.el .Y)] (sOf Tryd.prog Tryd.f82) a_utf8_AppendRune
 (iOf Tryd.prog Tryd.f82) [⟨false,false,.L .Y,[.ow],none⟩,⟨false,false,.I .i32,[.rd],none⟩] [(false,.L .Y)] x = F_utf8_AppendRune x:=by kernel_rfl
noncomputable def e_utf8_AppendRune:GEnt Tryd.prog:=⟨82,[⟨false,false,.L .Y,[.ow],none⟩,⟨false,false,.I .i32,[.rd],none⟩],[(false,.L .Y)],F_utf8_AppendRune,
 runs_gen mixed_Pe Tryd.func82 (by kernel_rfl) h_utf8_AppendRune⟩
noncomputable def a_i_PutSign:An:=.d
theorem h_i_PutSign (x:(List UInt8) × Int):fnX (P:=Tryd.prog) [.see e_i_joined,.see e_i_SignOk,.gen e_utf8_AppendRune] [(7,.sb)] (sOf Tryd.prog Tryd.f62) a_i_PutSign (iOf
 Tryd.prog Tryd.f62) [(false,.L .Y),(false,.I .i64)] [(false,.L .Y)] x = F_i_PutSign x:=by kernel_rfl
noncomputable def e_i_PutSign:SEnt Tryd.prog:=⟨62,[(false,.L .Y),(false,.I .i64)],[(false,.L .Y)],F_i_PutSign,runs_see mixed_Pe Tryd.func62 (by kernel_rfl) h_i_PutSign⟩
noncomputable def a_i_Decode:An:=(.sq none .d (.sq none .d (.sq none .d (.sq (some [.ot 6 .Y]) (.sq none .d (.bl (.lp [.kt 0,.kt 1,.ot 6 .Y,.lt 7 (.I .i64)] .d))) .d))))
theorem h_i_Decode (x:Int × List UInt8):fnX (P:=Tryd.prog) [.see e_i_isSet,.see e_i_signIn,.see e_i_PutSign] [(14,.el .Y)] (sOf Tryd.prog Tryd.f35) a_i_Decode (iOf
 Tryd.prog Tryd.f35) [(false,.I .i64),(false,.L .Y)] [(false,.S),(false,.B)] x = F_i_Decode x:=by kernel_rfl
noncomputable def e_i_Decode:SEnt Tryd.prog:=⟨35,[(false,.I .i64),(false,.L .Y)],[(false,.S),(false,.B)],F_i_Decode,runs_see mixed_Pe Tryd.func35 (by kernel_rfl)
 h_i_Decode⟩
noncomputable def a_i_CellText:An:=.d
theorem h_i_CellText (x:Int × List UInt8):fnX (P:=Tryd.prog) [.see e_i_CellOk,.see e_i_Decode] [] (sOf Tryd.prog Tryd.f9) a_i_CellText (iOf Tryd.prog Tryd.f9) [(true,.P (.I
 .i64) (.L .Y))] [(false,.S),(false,.B)] x = F_i_CellText x:=by kernel_rfl
noncomputable def e_i_CellText:SEnt Tryd.prog:=⟨9,[(true,.P (.I .i64) (.L .Y))],[(false,.S),(false,.B)],F_i_CellText,runs_see mixed_Pe Tryd.func9 (by kernel_rfl)
 h_i_CellText⟩
noncomputable def a_s_CellOk:An:=.d
theorem h_s_CellOk (x:Int × List UInt8):fnX (P:=Tryd.prog) [.see e_s_l5Cs] [] (sOf Tryd.prog Tryd.f12) a_s_CellOk (iOf Tryd.prog Tryd.f12) [(true,.P (.I .i64) (.L .Y))]
 [(false,.B)] x = F_s_CellOk x:=by kernel_rfl
noncomputable def e_s_CellOk:SEnt Tryd.prog:=⟨12,[(true,.P (.I .i64) (.L .Y))],[(false,.B)],F_s_CellOk,runs_see mixed_Pe Tryd.func12 (by kernel_rfl) h_s_CellOk⟩
noncomputable def a_s_PairSign:An:=.d
theorem h_s_PairSign (x:Int × Int):fnX (P:=Tryd.prog) [.see e_s_l1In] [] (sOf Tryd.prog Tryd.f104) a_s_PairSign (iOf Tryd.prog Tryd.f104) [(false,.I .i64),(false,.I .i64)]
 [(false,.I .i64),(false,.B)] x = F_s_PairSign x:=by kernel_rfl
noncomputable def e_s_PairSign:SEnt Tryd.prog:=⟨104,[(false,.I .i64),(false,.I .i64)],[(false,.I .i64),(false,.B)],F_s_PairSign,runs_see mixed_Pe Tryd.func104 (by
 kernel_rfl) h_s_PairSign⟩
noncomputable def a_s_EucSign:An:=.d
theorem h_s_EucSign (x:(List UInt8) × Int):fnX (P:=Tryd.prog) [.see e_s_l1In,.see e_s_PairSign] [] (sOf Tryd.prog Tryd.f84) a_s_EucSign (iOf Tryd.prog Tryd.f84) [(false,.L
 .Y),(false,.I .i64)] [(false,.I .i64),(false,.I .i64),(false,.B)] x = F_s_EucSign x:=by kernel_rfl
noncomputable def e_s_EucSign:SEnt Tryd.prog:=⟨84,[(false,.L .Y),(false,.I .i64)],[(false,.I .i64),(false,.I .i64),(false,.B)],F_s_EucSign,runs_see mixed_Pe
 Tryd.func84 (by kernel_rfl) h_s_EucSign⟩
noncomputable def a_s_l5Get:An:=.d
theorem h_s_l5Get (x:Int × (List UInt8) × Int):fnX (P:=Tryd.prog) [.see e_s_GetSign,.see e_s_EucSign,.see e_s_ByteSign] [] (sOf Tryd.prog Tryd.f63) a_s_l5Get (iOf Tryd.prog
 Tryd.f63) [(false,.I .i64),(false,.L .Y),(false,.I .i64)] [(false,.I .i64),(false,.I .i64),(false,.B)] x = F_s_l5Get x:=by kernel_rfl
noncomputable def e_s_l5Get:SEnt Tryd.prog:=⟨63,[(false,.I .i64),(false,.L .Y),(false,.I .i64)],[(false,.I .i64),(false,.I .i64),(false,.B)],F_s_l5Get,runs_see
 mixed_Pe Tryd.func63 (by kernel_rfl) h_s_l5Get⟩
end Go.Vs
