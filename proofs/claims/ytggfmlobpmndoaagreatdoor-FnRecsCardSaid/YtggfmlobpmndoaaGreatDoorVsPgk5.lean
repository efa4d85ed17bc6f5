import Derived.Test.YtggfmlobpmndoaaGreatDoorProg
import Derived.Test.YtggfmlobpmndoaaGreatDoorVsPgk4
set_option linter.all false
namespace Go.Vs
open Go.Proofs
set_option maxRecDepth 100000
noncomputable def a_i_signIn:An:=.d
theorem h_i_signIn (x:Int×(List UInt8)×Int):fnX (P:=Tryz.prog) [.see e_i_GetSign,.see e_i_EucSign,.see e_i_ByteSign] [] (sOf Tryz.prog Tryz.f220) a_i_signIn (iOf
 Tryz.prog Tryz.f220) [(false,.I .i64),(false,.L .Y),(false,.I .i64)] [(false,.I .i64),(false,.I .i64),(false,.B)] x=F_i_signIn x:=by kernel_rfl
noncomputable def e_i_signIn:SEnt Tryz.prog:=⟨220,[(false,.I .i64),(false,.L .Y),(false,.I .i64)],[(false,.I .i64),(false,.I .i64),(false,.B)],F_i_signIn,runs_see
 mixed_Pg Tryz.func220 (by kernel_rfl) h_i_signIn⟩
noncomputable def a_i_SignOk:An:=.d
theorem h_i_SignOk (x:Int):fnX (P:=Tryz.prog) [.see e_i_within] [] (sOf Tryz.prog Tryz.f239) a_i_SignOk (iOf Tryz.prog Tryz.f239) [(false,.I .i64)] [(false,.B)] x =
 F_i_SignOk x:=by kernel_rfl
noncomputable def e_i_SignOk:SEnt Tryz.prog:=⟨239,[(false,.I .i64)],[(false,.B)],F_i_SignOk,runs_see mixed_Pg Tryz.func239 (by kernel_rfl) h_i_SignOk⟩
noncomputable def a_utf8_appendRuneNonASCII:An:=(.sq none .d (.sq none .d (.bl (.sq none .d (.cd .d (.sq (some [.kt 0,.kt 1,.kt 5,.lt 25 .B]) .d .d))))))
theorem h_utf8_appendRuneNonASCII (x:(List UInt8)×Int):fnG (P:=Tryz.prog) [] [(23,.el .Y),(24,.el .Y),(48,.el .Y),(49,.el .Y),(76,.el .Y),(77,.el .Y),(9,.el
 .Y),(10,.el .Y)] (sOf Tryz.prog Tryz.f255) a_utf8_appendRuneNonASCII (iOf Tryz.prog Tryz.f255) [⟨false,false,.L .Y,[.ow],none⟩,⟨false,false,.I .i32,[.rd],none⟩]
 [(false,.L .Y)] x=F_utf8_appendRuneNonASCII x:=by kernel_rfl
noncomputable def e_utf8_appendRuneNonASCII:GEnt Tryz.prog:=⟨255,[⟨false,false,.L .Y,[.ow],none⟩,⟨false,false,.I .i32,[.rd],none⟩],[(false,.L .Y)],
 F_utf8_appendRuneNonASCII,runs_gen mixed_Pg Tryz.func255 (by kernel_rfl) h_utf8_appendRuneNonASCII⟩
noncomputable def a_utf8_AppendRune:An:=.d
theorem h_utf8_AppendRune (x:(List UInt8)×Int):fnG (P:=Tryz.prog) [.gen e_utf8_appendRuneNonASCII] [(11,.el .Y),(12,.el .Y)] (sOf Tryz.prog Tryz.f240) a_utf8_AppendRune
 (iOf Tryz.prog Tryz.f240) [⟨false,false,.L .Y,[.ow],none⟩,⟨false,false,.I .i32,[.rd],none⟩] [(false,.L .Y)] x=F_utf8_AppendRune x:=by kernel_rfl
noncomputable def e_utf8_AppendRune:GEnt Tryz.prog:=⟨240,[⟨false,false,.L .Y,[.ow],none⟩,⟨false,false,.I .i32,[.rd],none⟩],[(false,.L .Y)],F_utf8_AppendRune,
 runs_gen mixed_Pg Tryz.func240 (by kernel_rfl) h_utf8_AppendRune⟩
noncomputable def a_i_PutSign:An:=.d
theorem h_i_PutSign (x:(List UInt8)×Int):fnX (P:=Tryz.prog) [.see e_i_joined,.see e_i_SignOk,.gen e_utf8_AppendRune] [(7,.sb)] (sOf Tryz.prog Tryz.f221) a_i_PutSign (iOf
 Tryz.prog Tryz.f221) [(false,.L .Y),(false,.I .i64)] [(false,.L .Y)] x=F_i_PutSign x:=by kernel_rfl
noncomputable def e_i_PutSign:SEnt Tryz.prog:=⟨221,[(false,.L .Y),(false,.I .i64)],[(false,.L .Y)],F_i_PutSign,runs_see mixed_Pg Tryz.func221 (by kernel_rfl)
 h_i_PutSign⟩
noncomputable def a_i_Decode:An:=(.sq none .d (.sq none .d (.sq none .d (.sq (some [.ot 6 .Y]) (.sq none .d (.bl (.lp [.kt 0,.kt 1,.ot 6 .Y,.lt 7 (.I .i64)] .d))) .d))))
theorem h_i_Decode (x:Int×List UInt8):fnX (P:=Tryz.prog) [.see e_i_isSet,.see e_i_signIn,.see e_i_PutSign] [(14,.el .Y)] (sOf Tryz.prog Tryz.f178) a_i_Decode (iOf
 Tryz.prog Tryz.f178) [(false,.I .i64),(false,.L .Y)] [(false,.S),(false,.B)] x=F_i_Decode x:=by kernel_rfl
noncomputable def e_i_Decode:SEnt Tryz.prog:=⟨178,[(false,.I .i64),(false,.L .Y)],[(false,.S),(false,.B)],F_i_Decode,runs_see mixed_Pg Tryz.func178 (by kernel_rfl)
 h_i_Decode⟩
noncomputable def a_i_CellText:An:=.d
theorem h_i_CellText (x:Int×List UInt8):fnX (P:=Tryz.prog) [.see e_i_CellOk,.see e_i_Decode] [] (sOf Tryz.prog Tryz.f93) a_i_CellText (iOf Tryz.prog Tryz.f93) [(true,.P
 (.I .i64) (.L .Y))] [(false,.S),(false,.B)] x=F_i_CellText x:=by kernel_rfl
noncomputable def e_i_CellText:SEnt Tryz.prog:=⟨93,[(true,.P (.I .i64) (.L .Y))],[(false,.S),(false,.B)],F_i_CellText,runs_see mixed_Pg Tryz.func93 (by kernel_rfl)
 h_i_CellText⟩
noncomputable def a_i_sameCell:An:=.d
theorem h_i_sameCell (x:(Int×List UInt8)×Int×List UInt8):fnX (P:=Tryz.prog) [] [] (sOf Tryz.prog Tryz.f94) a_i_sameCell (iOf Tryz.prog Tryz.f94) [(true,.P (.I .i64)
 (.L .Y)),(true,.P (.I .i64) (.L .Y))] [(false,.B)] x=F_i_sameCell x:=by kernel_rfl
noncomputable def e_i_sameCell:SEnt Tryz.prog:=⟨94,[(true,.P (.I .i64) (.L .Y)),(true,.P (.I .i64) (.L .Y))],[(false,.B)],F_i_sameCell,runs_see mixed_Pg Tryz.func94 (by
 kernel_rfl) h_i_sameCell⟩
noncomputable def a_i_SameText:An:=.d
theorem h_i_SameText (x:(Int×List UInt8)×Int×List UInt8):fnX (P:=Tryz.prog) [.see e_i_CellText] [] (sOf Tryz.prog Tryz.f96) a_i_SameText (iOf Tryz.prog Tryz.f96)
 [(true,.P (.I .i64) (.L .Y)),(true,.P (.I .i64) (.L .Y))] [(false,.B)] x=F_i_SameText x:=by kernel_rfl
noncomputable def e_i_SameText:SEnt Tryz.prog:=⟨96,[(true,.P (.I .i64) (.L .Y)),(true,.P (.I .i64) (.L .Y))],[(false,.B)],F_i_SameText,runs_see mixed_Pg Tryz.func96 (by
 kernel_rfl) h_i_SameText⟩
noncomputable def a_i_RowOk:An:=(.sq none .d (.sq none .d (.sq none .d (.sq none .d (.sq none .d (.sq (some [.kt 1,.kt 6,.lt 7 .B]) .d (.sq none .d (.sq (some [.kt 1,.kt 7,
 .lt 8 .B]) .d .d))))))))
theorem h_i_RowOk (x:(List UInt8)×(Int×List UInt8)×(Int×List UInt8)×Int×Bool):fnX (P:=Tryz.prog) [.see e_i_NameOk,.see e_i_within,.see e_i_CellText,.see
 e_i_sameCell,.see e_i_CellOk,.see e_i_SameText] [] (sOf Tryz.prog Tryz.f17) a_i_RowOk (iOf Tryz.prog Tryz.f17) [(true,.P .S (.P (.P (.I .i64) (.L .Y)) (.P (.P (.I .i64) (.L
 .Y)) (.P (.I .i64) .B))))] [(false,.B)] x=F_i_RowOk x:=by kernel_rfl
noncomputable def e_i_RowOk:SEnt Tryz.prog:=⟨17,[(true,.P .S (.P (.P (.I .i64) (.L .Y)) (.P (.P (.I .i64) (.L .Y)) (.P (.I .i64) .B))))],[(false,.B)],F_i_RowOk,runs_see
 mixed_Pg Tryz.func17 (by kernel_rfl) h_i_RowOk⟩
noncomputable def a_i_PutW:An:=.d
theorem h_i_PutW (x:(List UInt8)×Int):fnX (P:=Tryz.prog) [.see e_i_joined] [(13,.el .Y),(14,.sb)] (sOf Tryz.prog Tryz.f148) a_i_PutW (iOf Tryz.prog Tryz.f148) [(false,
 .L .Y),(false,.I .i64)] [(false,.L .Y)] x=F_i_PutW x:=by kernel_rfl
noncomputable def e_i_PutW:SEnt Tryz.prog:=⟨148,[(false,.L .Y),(false,.I .i64)],[(false,.L .Y)],F_i_PutW,runs_see mixed_Pg Tryz.func148 (by kernel_rfl) h_i_PutW⟩
noncomputable def a_i_PutText:An:=.d
theorem h_i_PutText (x:(List UInt8)×List UInt8):fnX (P:=Tryz.prog) [.see e_i_joined,.see e_i_PutW] [(9,.sb),(17,.sb)] (sOf Tryz.prog Tryz.f83) a_i_PutText (iOf
 Tryz.prog Tryz.f83) [(false,.L .Y),(false,.S)] [(false,.L .Y)] x=F_i_PutText x:=by kernel_rfl
noncomputable def e_i_PutText:SEnt Tryz.prog:=⟨83,[(false,.L .Y),(false,.S)],[(false,.L .Y)],F_i_PutText,runs_see mixed_Pg Tryz.func83 (by kernel_rfl) h_i_PutText⟩
noncomputable def a_i_flag:An:=.d
theorem h_i_flag (x:Bool):fnX (P:=Tryz.prog) [] [] (sOf Tryz.prog Tryz.f84) a_i_flag (iOf Tryz.prog Tryz.f84) [(false,.B)] [(false,.Y)] x=F_i_flag x:=by kernel_rfl
noncomputable def e_i_flag:SEnt Tryz.prog:=⟨84,[(false,.B)],[(false,.Y)],F_i_flag,runs_see mixed_Pg Tryz.func84 (by kernel_rfl) h_i_flag⟩
noncomputable def a_i_PutRow:An:=(.sq none .d (.sq none .d (.sq none .d (.sq none .d (.sq (some [.kt 3,.ot 5 .Y]) .d (.sq (some [.ot 5 .Y]) .d .d))))))
theorem h_i_PutRow (x:(List UInt8)×(List UInt8)×(Int×List UInt8)×(Int×List UInt8)×Int×Bool):fnX (P:=Tryz.prog) [.see e_i_joined,.see e_i_RowOk,.see
 e_i_PutText,.see e_i_flag] [(7,.sb),(23,.el .Y),(24,.el .Y),(33,.el .Y),(34,.el .Y),(48,.el .Y),(49,.el .Y)] (sOf Tryz.prog Tryz.f13) a_i_PutRow (iOf Tryz.prog
 Tryz.f13) [(false,.L .Y),(true,.P .S (.P (.P (.I .i64) (.L .Y)) (.P (.P (.I .i64) (.L .Y)) (.P (.I .i64) .B))))] [(false,.L .Y)] x=F_i_PutRow x:=by kernel_rfl
noncomputable def e_i_PutRow:SEnt Tryz.prog:=⟨13,[(false,.L .Y),(true,.P .S (.P (.P (.I .i64) (.L .Y)) (.P (.P (.I .i64) (.L .Y)) (.P (.I .i64) .B))))],[(false,.L .Y)],
 F_i_PutRow,runs_see mixed_Pg Tryz.func13 (by kernel_rfl) h_i_PutRow⟩
end Go.Vs
