import Derived.Test.YtggfmlobpmndoaaGreatDoorProg
import Derived.Test.YtggfmlobpmndoaaGreatDoorVsPhk4
set_option linter.all false
namespace Go.Vs
open Go.Proofs
set_option maxRecDepth 100000
noncomputable def a_i_Decode:An:=(.sq none .d (.sq none .d (.sq none .d (.sq (some [.ot 6 .Y]) (.sq none .d (.bl (.lp [.kt 0,.kt 1,.ot 6 .Y,.lt 7 (.I .i64)] .d))) .d))))
theorem h_i_Decode (x:Int×List UInt8):fnX (P:=Tryz.prog) [.see e_i_isSet,.see e_i_signIn,.see e_i_PutSign] [(14,.el .Y)] (sOf Tryz.prog Tryz.f178) a_i_Decode (iOf
 Tryz.prog Tryz.f178) [(false,.I .i64),(false,.L .Y)] [(false,.S),(false,.B)] x=F_i_Decode x:=by kernel_rfl
noncomputable def e_i_Decode:SEnt Tryz.prog:=⟨178,[(false,.I .i64),(false,.L .Y)],[(false,.S),(false,.B)],F_i_Decode,runs_see mixed_Ph Tryz.func178 (by kernel_rfl)
 h_i_Decode⟩
noncomputable def a_i_CellText:An:=.d
theorem h_i_CellText (x:Int×List UInt8):fnX (P:=Tryz.prog) [.see e_i_CellOk,.see e_i_Decode] [] (sOf Tryz.prog Tryz.f93) a_i_CellText (iOf Tryz.prog Tryz.f93) [(true,.P
 (.I .i64) (.L .Y))] [(false,.S),(false,.B)] x=F_i_CellText x:=by kernel_rfl
noncomputable def e_i_CellText:SEnt Tryz.prog:=⟨93,[(true,.P (.I .i64) (.L .Y))],[(false,.S),(false,.B)],F_i_CellText,runs_see mixed_Ph Tryz.func93 (by kernel_rfl)
 h_i_CellText⟩
noncomputable def a_i_SameText:An:=.d
theorem h_i_SameText (x:(Int×List UInt8)×Int×List UInt8):fnX (P:=Tryz.prog) [.see e_i_CellText] [] (sOf Tryz.prog Tryz.f96) a_i_SameText (iOf Tryz.prog Tryz.f96)
 [(true,.P (.I .i64) (.L .Y)),(true,.P (.I .i64) (.L .Y))] [(false,.B)] x=F_i_SameText x:=by kernel_rfl
noncomputable def e_i_SameText:SEnt Tryz.prog:=⟨96,[(true,.P (.I .i64) (.L .Y)),(true,.P (.I .i64) (.L .Y))],[(false,.B)],F_i_SameText,runs_see mixed_Ph Tryz.func96 (by
 kernel_rfl) h_i_SameText⟩
noncomputable def a_i_RowOk:An:=(.sq none .d (.sq none .d (.sq none .d (.sq none .d (.sq none .d (.sq (some [.kt 1,.kt 6,.lt 7 .B]) .d (.sq none .d (.sq (some [.kt 1,.kt 7,
 .lt 8 .B]) .d .d))))))))
theorem h_i_RowOk (x:(List UInt8)×(Int×List UInt8)×(Int×List UInt8)×Int×Bool):fnX (P:=Tryz.prog) [.see e_i_NameOk,.see e_i_within,.see e_i_CellText,.see
 e_i_sameCell,.see e_i_CellOk,.see e_i_SameText] [] (sOf Tryz.prog Tryz.f17) a_i_RowOk (iOf Tryz.prog Tryz.f17) [(true,.P .S (.P (.P (.I .i64) (.L .Y)) (.P (.P (.I .i64) (.L
 .Y)) (.P (.I .i64) .B))))] [(false,.B)] x=F_i_RowOk x:=by kernel_rfl
noncomputable def e_i_RowOk:SEnt Tryz.prog:=⟨17,[(true,.P .S (.P (.P (.I .i64) (.L .Y)) (.P (.P (.I .i64) (.L .Y)) (.P (.I .i64) .B))))],[(false,.B)],F_i_RowOk,runs_see
 mixed_Ph Tryz.func17 (by kernel_rfl) h_i_RowOk⟩
noncomputable def a_i_isWord:An:=.d
theorem h_i_isWord (x:Int):fnX (P:=Tryz.prog) [.see e_i_within] [] (sOf Tryz.prog Tryz.f119) a_i_isWord (iOf Tryz.prog Tryz.f119) [(false,.I .i64)] [(false,.B)] x =
 F_i_isWord x:=by kernel_rfl
noncomputable def e_i_isWord:SEnt Tryz.prog:=⟨119,[(false,.I .i64)],[(false,.B)],F_i_isWord,runs_see mixed_Ph Tryz.func119 (by kernel_rfl) h_i_isWord⟩
noncomputable def a_i_RecOk:An:=(.sq none .d (.sq none .d (.sq none .d (.sq (some [.kt 1,.lt 5 .B]) .d .d))))
theorem h_i_RecOk (x:Int×((List UInt8)×(Int×List UInt8)×(Int×List UInt8)×Int×Bool)×(List UInt8)×Int×Int×Int×Int):fnX (P:=Tryz.prog) [.see e_i_sameRow,
 .see e_i_RowOk,.see e_i_NameOk,.see e_i_within,.see e_i_isWord] [] (sOf Tryz.prog Tryz.f43) a_i_RecOk (iOf Tryz.prog Tryz.f43) [(true,.P (.I .i64) (.P (.P .S (.P (.P (.I
 .i64) (.L .Y)) (.P (.P (.I .i64) (.L .Y)) (.P (.I .i64) .B)))) (.P .S (.P (.I .i64) (.P (.I .i64) (.P (.I .i64) (.I .i64)))))))] [(false,.B)] x=F_i_RecOk x:=by kernel_rfl
noncomputable def e_i_RecOk:SEnt Tryz.prog:=⟨43,[(true,.P (.I .i64) (.P (.P .S (.P (.P (.I .i64) (.L .Y)) (.P (.P (.I .i64) (.L .Y)) (.P (.I .i64) .B)))) (.P .S (.P (.I .i64)
 (.P (.I .i64) (.P (.I .i64) (.I .i64)))))))],[(false,.B)],F_i_RecOk,runs_see mixed_Ph Tryz.func43 (by kernel_rfl) h_i_RecOk⟩
noncomputable def a_i_PutW:An:=.d
theorem h_i_PutW (x:(List UInt8)×Int):fnX (P:=Tryz.prog) [.see e_i_joined] [(13,.el .Y),(14,.sb)] (sOf Tryz.prog Tryz.f148) a_i_PutW (iOf Tryz.prog Tryz.f148) [(false,
 .L .Y),(false,.I .i64)] [(false,.L .Y)] x=F_i_PutW x:=by kernel_rfl
noncomputable def e_i_PutW:SEnt Tryz.prog:=⟨148,[(false,.L .Y),(false,.I .i64)],[(false,.L .Y)],F_i_PutW,runs_see mixed_Ph Tryz.func148 (by kernel_rfl) h_i_PutW⟩
noncomputable def a_i_PutText:An:=.d
theorem h_i_PutText (x:(List UInt8)×List UInt8):fnX (P:=Tryz.prog) [.see e_i_joined,.see e_i_PutW] [(9,.sb),(17,.sb)] (sOf Tryz.prog Tryz.f83) a_i_PutText (iOf
 Tryz.prog Tryz.f83) [(false,.L .Y),(false,.S)] [(false,.L .Y)] x=F_i_PutText x:=by kernel_rfl
noncomputable def e_i_PutText:SEnt Tryz.prog:=⟨83,[(false,.L .Y),(false,.S)],[(false,.L .Y)],F_i_PutText,runs_see mixed_Ph Tryz.func83 (by kernel_rfl) h_i_PutText⟩
noncomputable def a_i_flag:An:=.d
theorem h_i_flag (x:Bool):fnX (P:=Tryz.prog) [] [] (sOf Tryz.prog Tryz.f84) a_i_flag (iOf Tryz.prog Tryz.f84) [(false,.B)] [(false,.Y)] x=F_i_flag x:=by kernel_rfl
noncomputable def e_i_flag:SEnt Tryz.prog:=⟨84,[(false,.B)],[(false,.Y)],F_i_flag,runs_see mixed_Ph Tryz.func84 (by kernel_rfl) h_i_flag⟩
noncomputable def a_i_PutRow:An:=(.sq none .d (.sq none .d (.sq none .d (.sq none .d (.sq (some [.kt 3,.ot 5 .Y]) .d (.sq (some [.ot 5 .Y]) .d .d))))))
theorem h_i_PutRow (x:(List UInt8)×(List UInt8)×(Int×List UInt8)×(Int×List UInt8)×Int×Bool):fnX (P:=Tryz.prog) [.see e_i_joined,.see e_i_RowOk,.see
 e_i_PutText,.see e_i_flag] [(7,.sb),(23,.el .Y),(24,.el .Y),(33,.el .Y),(34,.el .Y),(48,.el .Y),(49,.el .Y)] (sOf Tryz.prog Tryz.f13) a_i_PutRow (iOf Tryz.prog
 Tryz.f13) [(false,.L .Y),(true,.P .S (.P (.P (.I .i64) (.L .Y)) (.P (.P (.I .i64) (.L .Y)) (.P (.I .i64) .B))))] [(false,.L .Y)] x=F_i_PutRow x:=by kernel_rfl
noncomputable def e_i_PutRow:SEnt Tryz.prog:=⟨13,[(false,.L .Y),(true,.P .S (.P (.P (.I .i64) (.L .Y)) (.P (.P (.I .i64) (.L .Y)) (.P (.I .i64) .B))))],[(false,.L .Y)],
 F_i_PutRow,runs_see mixed_Ph Tryz.func13 (by kernel_rfl) h_i_PutRow⟩
noncomputable def a_i_Sum:An:=(.sq none .d (.sq none .d (.sq (some [.lt 3 (.I .i64)]) (.sq none .d (.bl (.lp [.lt 3 (.I .i64),.kt 6,.kt 7,.lt 8 (.I .i64)] (.sq none .d (.sq
 none .d (.sq (some [.lt 3 (.I .i64),.kt 6,.kt 7,.kt 8]) (.bl (.sq none .d (.sq none .d (.sq none .d (.bl (.lp [.lt 3 (.I .i64),.kt 6,.kt 7,.kt 8,.lt 17 (.I .i64)] (.sq
 none .d (.sq none .d (.sq (some [.lt 3 (.I .i64),.kt 6,.kt 7,.kt 8,.kt 17]) .d .d))))))))) .d)))))) .d)))
theorem h_i_Sum (x:List UInt8):fnX (P:=Tryz.prog) [] [] (sOf Tryz.prog Tryz.f149) a_i_Sum (iOf Tryz.prog Tryz.f149) [(false,.L .Y)] [(false,.I .i64)] x=F_i_Sum x:=by
 kernel_rfl
noncomputable def e_i_Sum:SEnt Tryz.prog:=⟨149,[(false,.L .Y)],[(false,.I .i64)],F_i_Sum,runs_see mixed_Ph Tryz.func149 (by kernel_rfl) h_i_Sum⟩
noncomputable def a_i_PutRec:An:=(.sq none .d (.sq none .d (.sq none .d (.sq (some [.kt 5,.ot 7 .Y]) .d .d))))
theorem h_i_PutRec (x:Int×Int×Int×((List UInt8)×(Int×List UInt8)×(Int×List UInt8)×Int×Bool)×(List UInt8)×Int×Int×Int×Int):fnX (P:=Tryz.prog) [.see
 e_i_RecOk,.see e_i_isWord,.see e_i_PutW,.see e_i_PutRow,.see e_i_PutText,.see e_i_Sum] [(28,.el .Y),(29,.el .Y),(50,.el .Y),(51,.el .Y),(59,.el .Y),(60,.el .Y)]
 (sOf Tryz.prog Tryz.f60) a_i_PutRec (iOf Tryz.prog Tryz.f60) [(false,.I .i64),(false,.I .i64),(true,.P (.I .i64) (.P (.P .S (.P (.P (.I .i64) (.L .Y)) (.P (.P (.I .i64) (.L
 .Y)) (.P (.I .i64) .B)))) (.P .S (.P (.I .i64) (.P (.I .i64) (.P (.I .i64) (.I .i64)))))))] [(false,.L .Y)] x=F_i_PutRec x:=by kernel_rfl
noncomputable def e_i_PutRec:SEnt Tryz.prog:=⟨60,[(false,.I .i64),(false,.I .i64),(true,.P (.I .i64) (.P (.P .S (.P (.P (.I .i64) (.L .Y)) (.P (.P (.I .i64) (.L .Y)) (.P
 (.I .i64) .B)))) (.P .S (.P (.I .i64) (.P (.I .i64) (.P (.I .i64) (.I .i64)))))))],[(false,.L .Y)],F_i_PutRec,runs_see mixed_Ph Tryz.func60 (by kernel_rfl) h_i_PutRec⟩
noncomputable def a_i_copyDev:An:=(.sq none .d (.sq none .d (.sq (some [.kt 1,.kt 2,.bx 3 [.O (.L .Y),.K,.K,.K]]) (.sq none .d (.bl (.lp [.kt 1,.kt 2,.bx 3 [.O (.L .Y),
 .K,.K,.K],.kt 14,.kt 15,.lt 16 (.I .i64)] .d))) (.sq (some [.kt 2,.bx 3 [.K,.O (.P (.I .i64) (.L .Y)),.K,.K]]) (.sq none .d (.bl (.lp [.kt 2,.bx 3 [.K,.O (.P (.I .i64)
 (.L .Y)),.K,.K],.kt 30,.kt 31,.lt 32 (.I .i64)] .d))) .d))))
theorem h_i_copyDev (x:(List (List UInt8))×(List (Int×List UInt8))×Int×Bool):fnX (P:=Tryz.prog) [.see e_i_joined] [(23,.sb),(25,.el (.L .Y)),(26,.el (.L .Y)),
 (42,.sb),(45,.el (.P (.I .i64) (.L .Y))),(46,.el (.P (.I .i64) (.L .Y)))] (sOf Tryz.prog Tryz.f229) a_i_copyDev (iOf Tryz.prog Tryz.f229) [(true,.P (.L (.L .Y)) (.P (.L (.P
 (.I .i64) (.L .Y))) (.P (.I .i64) .B)))] [(true,.P (.L (.L .Y)) (.P (.L (.P (.I .i64) (.L .Y))) (.P (.I .i64) .B)))] x=F_i_copyDev x:=by kernel_rfl
noncomputable def e_i_copyDev:SEnt Tryz.prog:=⟨229,[(true,.P (.L (.L .Y)) (.P (.L (.P (.I .i64) (.L .Y))) (.P (.I .i64) .B)))],[(true,.P (.L (.L .Y)) (.P (.L (.P (.I .i64)
 (.L .Y))) (.P (.I .i64) .B)))],F_i_copyDev,runs_see mixed_Ph Tryz.func229 (by kernel_rfl) h_i_copyDev⟩
noncomputable def a_i_DevOk:An:=(.sq none .d (.sq none .d (.sq (some [.kt 1]) (.sq none .d (.bl (.lp [.kt 1,.kt 25,.kt 26,.lt 27 (.I .i64)] .d))) (.sq none (.sq none .d (.bl
 (.lp [.kt 1,.kt 36,.kt 37,.lt 38 (.I .i64)] .d))) .d))))
theorem h_i_DevOk (x:(List (List UInt8))×(List (Int×List UInt8))×Int×Bool):fnX (P:=Tryz.prog) [.see e_i_within] [] (sOf Tryz.prog Tryz.f230) a_i_DevOk (iOf Tryz.prog
 Tryz.f230) [(true,.P (.L (.L .Y)) (.P (.L (.P (.I .i64) (.L .Y))) (.P (.I .i64) .B)))] [(false,.B)] x=F_i_DevOk x:=by kernel_rfl
noncomputable def e_i_DevOk:SEnt Tryz.prog:=⟨230,[(true,.P (.L (.L .Y)) (.P (.L (.P (.I .i64) (.L .Y))) (.P (.I .i64) .B)))],[(false,.B)],F_i_DevOk,runs_see mixed_Ph
 Tryz.func230 (by kernel_rfl) h_i_DevOk⟩
end Go.Vs
