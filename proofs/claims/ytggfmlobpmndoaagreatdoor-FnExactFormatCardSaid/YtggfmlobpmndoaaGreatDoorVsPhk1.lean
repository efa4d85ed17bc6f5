import Derived.Test.YtggfmlobpmndoaaGreatDoorProg
import Derived.Test.YtggfmlobpmndoaaGreatDoorVsPhk0
set_option linter.all false
namespace Go.Vs
open Go.Proofs
set_option maxRecDepth 100000
noncomputable def a_s_SignOk:An:=.d
theorem h_s_SignOk (x:Int):fnX (P:=Tryz.prog) [.see e_s_l1In] [] (sOf Tryz.prog Tryz.f233) a_s_SignOk (iOf Tryz.prog Tryz.f233) [(false,.I .i64)] [(false,.B)] x =
 F_s_SignOk x:=by kernel_rfl
noncomputable def e_s_SignOk:SEnt Tryz.prog:=⟨233,[(false,.I .i64)],[(false,.B)],F_s_SignOk,runs_see mixed_Ph Tryz.func233 (by kernel_rfl) h_s_SignOk⟩
noncomputable def a_s_PutSign:An:=.d
theorem h_s_PutSign (x:(List UInt8)×Int):fnX (P:=Tryz.prog) [.see e_s_SignOk] [(6,.el .Y),(8,.el .Y),(20,.el .Y),(21,.el .Y),(34,.el .Y),(35,.el .Y),(53,.el
 .Y),(54,.el .Y),(74,.el .Y),(75,.el .Y)] (sOf Tryz.prog Tryz.f218) a_s_PutSign (iOf Tryz.prog Tryz.f218) [(false,.L .Y),(false,.I .i64)] [(false,.L .Y)] x=F_s_PutSign
 x:=by kernel_rfl
noncomputable def e_s_PutSign:SEnt Tryz.prog:=⟨218,[(false,.L .Y),(false,.I .i64)],[(false,.L .Y)],F_s_PutSign,runs_see mixed_Ph Tryz.func218 (by kernel_rfl)
 h_s_PutSign⟩
noncomputable def a_s_GetSign:An:=(.sq none .d (.sq none .d (.sq none .d (.sq none .d (.sq none .d (.sq (some [.kt 0,.kt 1,.kt 7,.lt 8 (.I .i64)]) .d (.sq (some [.kt 0,.kt
 1,.kt 7,.lt 8 (.I .i64)]) (.sq none .d (.bl (.lp [.kt 0,.kt 1,.kt 7,.lt 8 (.I .i64),.lt 9 (.I .i64)] .d))) .d)))))))
theorem h_s_GetSign (x:(List UInt8)×Int):fnX (P:=Tryz.prog) [.see e_s_l1In,.see e_s_l2Len,.see e_s_SignOk,.see e_s_PutSign] [(71,.el .Y)] (sOf Tryz.prog Tryz.f243)
 a_s_GetSign (iOf Tryz.prog Tryz.f243) [(false,.L .Y),(false,.I .i64)] [(false,.I .i64),(false,.I .i64),(false,.B)] x=F_s_GetSign x:=by kernel_rfl
noncomputable def e_s_GetSign:SEnt Tryz.prog:=⟨243,[(false,.L .Y),(false,.I .i64)],[(false,.I .i64),(false,.I .i64),(false,.B)],F_s_GetSign,runs_see mixed_Ph
 Tryz.func243 (by kernel_rfl) h_s_GetSign⟩
noncomputable def a_s_PairSign:An:=.d
theorem h_s_PairSign (x:Int×Int):fnX (P:=Tryz.prog) [.see e_s_l1In] [] (sOf Tryz.prog Tryz.f260) a_s_PairSign (iOf Tryz.prog Tryz.f260) [(false,.I .i64),(false,.I .i64)]
 [(false,.I .i64),(false,.B)] x=F_s_PairSign x:=by kernel_rfl
noncomputable def e_s_PairSign:SEnt Tryz.prog:=⟨260,[(false,.I .i64),(false,.I .i64)],[(false,.I .i64),(false,.B)],F_s_PairSign,runs_see mixed_Ph Tryz.func260 (by
 kernel_rfl) h_s_PairSign⟩
noncomputable def a_s_EucSign:An:=.d
theorem h_s_EucSign (x:(List UInt8)×Int):fnX (P:=Tryz.prog) [.see e_s_l1In,.see e_s_PairSign] [] (sOf Tryz.prog Tryz.f244) a_s_EucSign (iOf Tryz.prog Tryz.f244) [(false,
 .L .Y),(false,.I .i64)] [(false,.I .i64),(false,.I .i64),(false,.B)] x=F_s_EucSign x:=by kernel_rfl
noncomputable def e_s_EucSign:SEnt Tryz.prog:=⟨244,[(false,.L .Y),(false,.I .i64)],[(false,.I .i64),(false,.I .i64),(false,.B)],F_s_EucSign,runs_see mixed_Ph
 Tryz.func244 (by kernel_rfl) h_s_EucSign⟩
noncomputable def a_s_l3Nine:An:=.d
theorem h_s_l3Nine (x:Int):fnX (P:=Tryz.prog) [] [] (sOf Tryz.prog Tryz.f247) a_s_l3Nine (iOf Tryz.prog Tryz.f247) [(false,.I .i64)] [(false,.I .i64)] x=F_s_l3Nine x :=
 by kernel_rfl
noncomputable def e_s_l3Nine:SEnt Tryz.prog:=⟨247,[(false,.I .i64)],[(false,.I .i64)],F_s_l3Nine,runs_see mixed_Ph Tryz.func247 (by kernel_rfl) h_s_l3Nine⟩
noncomputable def a_s_l3Koi:An:=.d
theorem h_s_l3Koi (x:Int):fnX (P:=Tryz.prog) [] [(4,.el (.I .i64))] (sOf Tryz.prog Tryz.f248) a_s_l3Koi (iOf Tryz.prog Tryz.f248) [(false,.I .i64)] [(false,.I .i64)] x =
 F_s_l3Koi x:=by kernel_rfl
noncomputable def e_s_l3Koi:SEnt Tryz.prog:=⟨248,[(false,.I .i64)],[(false,.I .i64)],F_s_l3Koi,runs_see mixed_Ph Tryz.func248 (by kernel_rfl) h_s_l3Koi⟩
noncomputable def a_s_l3Win:An:=.d
theorem h_s_l3Win (x:Int):fnX (P:=Tryz.prog) [] [(4,.el (.I .i64))] (sOf Tryz.prog Tryz.f249) a_s_l3Win (iOf Tryz.prog Tryz.f249) [(false,.I .i64)] [(false,.I .i64)] x =
 F_s_l3Win x:=by kernel_rfl
noncomputable def e_s_l3Win:SEnt Tryz.prog:=⟨249,[(false,.I .i64)],[(false,.I .i64)],F_s_l3Win,runs_see mixed_Ph Tryz.func249 (by kernel_rfl) h_s_l3Win⟩
noncomputable def a_s_ByteSign:An:=(.sq none .d (.sq none .d (.sq none .d (.sq (some [.lt 6 (.I .i64)]) .d .d))))
theorem h_s_ByteSign (x:Int×Int):fnX (P:=Tryz.prog) [.see e_s_l1In,.see e_s_l3Nine,.see e_s_l3Koi,.see e_s_l3Win] [] (sOf Tryz.prog Tryz.f235) a_s_ByteSign (iOf
 Tryz.prog Tryz.f235) [(false,.I .i64),(false,.I .i64)] [(false,.I .i64),(false,.B)] x=F_s_ByteSign x:=by kernel_rfl
noncomputable def e_s_ByteSign:SEnt Tryz.prog:=⟨235,[(false,.I .i64),(false,.I .i64)],[(false,.I .i64),(false,.B)],F_s_ByteSign,runs_see mixed_Ph Tryz.func235 (by
 kernel_rfl) h_s_ByteSign⟩
noncomputable def a_s_l5Get:An:=.d
theorem h_s_l5Get (x:Int×(List UInt8)×Int):fnX (P:=Tryz.prog) [.see e_s_GetSign,.see e_s_EucSign,.see e_s_ByteSign] [] (sOf Tryz.prog Tryz.f223) a_s_l5Get (iOf
 Tryz.prog Tryz.f223) [(false,.I .i64),(false,.L .Y),(false,.I .i64)] [(false,.I .i64),(false,.I .i64),(false,.B)] x=F_s_l5Get x:=by kernel_rfl
noncomputable def e_s_l5Get:SEnt Tryz.prog:=⟨223,[(false,.I .i64),(false,.L .Y),(false,.I .i64)],[(false,.I .i64),(false,.I .i64),(false,.B)],F_s_l5Get,runs_see
 mixed_Ph Tryz.func223 (by kernel_rfl) h_s_l5Get⟩
noncomputable def a_s_Decode:An:=(.sq none .d (.sq none .d (.sq none .d (.sq (some [.ot 6 .Y]) (.sq none .d (.bl (.lp [.kt 0,.kt 1,.ot 6 .Y,.lt 7 (.I .i64)] .d))) .d))))
theorem h_s_Decode (x:Int×List UInt8):fnX (P:=Tryz.prog) [.see e_s_l5Cs,.see e_s_l5Get,.see e_s_PutSign] [(11,.el .Y)] (sOf Tryz.prog Tryz.f182) a_s_Decode (iOf
 Tryz.prog Tryz.f182) [(false,.I .i64),(false,.L .Y)] [(false,.S),(false,.B)] x=F_s_Decode x:=by kernel_rfl
noncomputable def e_s_Decode:SEnt Tryz.prog:=⟨182,[(false,.I .i64),(false,.L .Y)],[(false,.S),(false,.B)],F_s_Decode,runs_see mixed_Ph Tryz.func182 (by kernel_rfl)
 h_s_Decode⟩
noncomputable def a_s_CellText:An:=.d
theorem h_s_CellText (x:Int×List UInt8):fnX (P:=Tryz.prog) [.see e_s_CellOk,.see e_s_Decode] [] (sOf Tryz.prog Tryz.f100) a_s_CellText (iOf Tryz.prog Tryz.f100) [(true,.P
 (.I .i64) (.L .Y))] [(false,.S),(false,.B)] x=F_s_CellText x:=by kernel_rfl
noncomputable def e_s_CellText:SEnt Tryz.prog:=⟨100,[(true,.P (.I .i64) (.L .Y))],[(false,.S),(false,.B)],F_s_CellText,runs_see mixed_Ph Tryz.func100 (by kernel_rfl)
 h_s_CellText⟩
noncomputable def a_s_SameText:An:=.d
theorem h_s_SameText (x:(Int×List UInt8)×Int×List UInt8):fnX (P:=Tryz.prog) [.see e_s_CellText] [] (sOf Tryz.prog Tryz.f108) a_s_SameText (iOf Tryz.prog Tryz.f108)
 [(true,.P (.I .i64) (.L .Y)),(true,.P (.I .i64) (.L .Y))] [(false,.B)] x=F_s_SameText x:=by kernel_rfl
noncomputable def e_s_SameText:SEnt Tryz.prog:=⟨108,[(true,.P (.I .i64) (.L .Y)),(true,.P (.I .i64) (.L .Y))],[(false,.B)],F_s_SameText,runs_see mixed_Ph Tryz.func108
 (by kernel_rfl) h_s_SameText⟩
noncomputable def a_s_RowOk:An:=.d
theorem h_s_RowOk (x:(List UInt8)×(Int×List UInt8)×(Int×List UInt8)×Int×Bool):fnX (P:=Tryz.prog) [.see e_s_NameOk,.see e_s_l1In,.see e_s_l9Old,.see e_s_l9None,
 .see e_s_l9New,.see e_s_CellText,.see e_s_CellOk,.see e_s_SameText] [] (sOf Tryz.prog Tryz.f33) a_s_RowOk (iOf Tryz.prog Tryz.f33) [(true,.P .S (.P (.P (.I .i64) (.L .Y)) (.P
 (.P (.I .i64) (.L .Y)) (.P (.I .i64) .B))))] [(false,.B)] x=F_s_RowOk x:=by kernel_rfl
noncomputable def e_s_RowOk:SEnt Tryz.prog:=⟨33,[(true,.P .S (.P (.P (.I .i64) (.L .Y)) (.P (.P (.I .i64) (.L .Y)) (.P (.I .i64) .B))))],[(false,.B)],F_s_RowOk,runs_see
 mixed_Ph Tryz.func33 (by kernel_rfl) h_s_RowOk⟩
end Go.Vs
