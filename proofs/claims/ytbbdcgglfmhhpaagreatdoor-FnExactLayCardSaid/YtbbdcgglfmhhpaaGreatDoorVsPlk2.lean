import Derived.Test.YtbbdcgglfmhhpaaGreatDoorProg
import Derived.Test.YtbbdcgglfmhhpaaGreatDoorVsPlk1
set_option linter.all false
namespace Go.Vs
open Go.Proofs
set_option maxRecDepth 100000
noncomputable def a_s_l1In:An:=.d
theorem h_s_l1In (x:Int×Int×Int):fnX (P:=Tryz.prog) [] [] (sOf Tryz.prog Tryz.f36) a_s_l1In (iOf Tryz.prog Tryz.f36) [(false,.I .i64),(false,.I .i64),(false,.I
 .i64)] [(false,.B)] x=Zb x:=by kernel_rfl
noncomputable def e_s_l1In:SEnt Tryz.prog:=⟨36,[(false,.I .i64),(false,.I .i64),(false,.I .i64)],[(false,.B)],Zb,runs_see mixed_Pl Tryz.func36 (by kernel_rfl)
 h_s_l1In⟩
noncomputable def a_s_DevOk:An:=(.sq none .d (.sq (some [.kt 1]) (.sq none .d (.bl (.lp [.kt 1,.lt 3 (.I .i64)] .d))) (.sq (some [.kt 1]) (.sq none .d (.bl (.lp [.kt 1,.lt 4
 (.I .i64)] .d))) .d)))
theorem h_s_DevOk (x:(List (List UInt8))×(List (Int×List UInt8))×Int×Bool):fnX (P:=Tryz.prog) [.see e_s_l1In] [] (sOf Tryz.prog Tryz.f34) a_s_DevOk (iOf Tryz.prog
 Tryz.f34) [(true,.P (.L (.L .Y)) (.P (.L (.P (.I .i64) (.L .Y))) (.P (.I .i64) .B)))] [(false,.B)] x=Zcp x:=by kernel_rfl
noncomputable def e_s_DevOk:SEnt Tryz.prog:=⟨34,[(true,.P (.L (.L .Y)) (.P (.L (.P (.I .i64) (.L .Y))) (.P (.I .i64) .B)))],[(false,.B)],Zcp,runs_see mixed_Pl
 Tryz.func34 (by kernel_rfl) h_s_DevOk⟩
noncomputable def a_s_NameOk:An:=(.sq none .d (.sq (some [.kt 0]) (.sq none .d (.bl (.lp [.kt 0,.lt 3 (.I .i64)] .d))) .d))
theorem h_s_NameOk (x:List UInt8):fnX (P:=Tryz.prog) [.see e_s_l1In] [] (sOf Tryz.prog Tryz.f106) a_s_NameOk (iOf Tryz.prog Tryz.f106) [(false,.S)] [(false,.B)] x =
 Zbw x:=by kernel_rfl
noncomputable def e_s_NameOk:SEnt Tryz.prog:=⟨106,[(false,.S)],[(false,.B)],Zbw,runs_see mixed_Pl Tryz.func106 (by kernel_rfl) h_s_NameOk⟩
noncomputable def a_s_l9Old:An:=.d
theorem h_s_l9Old (x:(List UInt8)×(Int×List UInt8)×(Int×List UInt8)×Int×Bool):fnX (P:=Tryz.prog) [] [] (sOf Tryz.prog Tryz.f107) a_s_l9Old (iOf Tryz.prog
 Tryz.f107) [(true,.P .S (.P (.P (.I .i64) (.L .Y)) (.P (.P (.I .i64) (.L .Y)) (.P (.I .i64) .B))))] [(false,.B)] x=Ze x:=by kernel_rfl
noncomputable def e_s_l9Old:SEnt Tryz.prog:=⟨107,[(true,.P .S (.P (.P (.I .i64) (.L .Y)) (.P (.P (.I .i64) (.L .Y)) (.P (.I .i64) .B))))],[(false,.B)],Ze,runs_see
 mixed_Pl Tryz.func107 (by kernel_rfl) h_s_l9Old⟩
noncomputable def a_s_l9None:An:=.d
theorem h_s_l9None (x:Int×List UInt8):fnX (P:=Tryz.prog) [] [] (sOf Tryz.prog Tryz.f108) a_s_l9None (iOf Tryz.prog Tryz.f108) [(true,.P (.I .i64) (.L .Y))] [(false,.B)] x
 = Zbd x:=by kernel_rfl
noncomputable def e_s_l9None:SEnt Tryz.prog:=⟨108,[(true,.P (.I .i64) (.L .Y))],[(false,.B)],Zbd,runs_see mixed_Pl Tryz.func108 (by kernel_rfl) h_s_l9None⟩
noncomputable def a_s_l9New:An:=.d
theorem h_s_l9New (x:(List UInt8)×(Int×List UInt8)×(Int×List UInt8)×Int×Bool):fnX (P:=Tryz.prog) [] [] (sOf Tryz.prog Tryz.f109) a_s_l9New (iOf Tryz.prog
 Tryz.f109) [(true,.P .S (.P (.P (.I .i64) (.L .Y)) (.P (.P (.I .i64) (.L .Y)) (.P (.I .i64) .B))))] [(false,.B)] x=Zc x:=by kernel_rfl
noncomputable def e_s_l9New:SEnt Tryz.prog:=⟨109,[(true,.P .S (.P (.P (.I .i64) (.L .Y)) (.P (.P (.I .i64) (.L .Y)) (.P (.I .i64) .B))))],[(false,.B)],Zc,runs_see
 mixed_Pl Tryz.func109 (by kernel_rfl) h_s_l9New⟩
noncomputable def a_s_l5Cs:An:=.d
theorem h_s_l5Cs (x:Int):fnX (P:=Tryz.prog) [.see e_s_l1In] [] (sOf Tryz.prog Tryz.f127) a_s_l5Cs (iOf Tryz.prog Tryz.f127) [(false,.I .i64)] [(false,.B)] x=Zcq x :=
 by kernel_rfl
noncomputable def e_s_l5Cs:SEnt Tryz.prog:=⟨127,[(false,.I .i64)],[(false,.B)],Zcq,runs_see mixed_Pl Tryz.func127 (by kernel_rfl) h_s_l5Cs⟩
noncomputable def a_s_CellOk:An:=.d
theorem h_s_CellOk (x:Int×List UInt8):fnX (P:=Tryz.prog) [.see e_s_l5Cs] [] (sOf Tryz.prog Tryz.f111) a_s_CellOk (iOf Tryz.prog Tryz.f111) [(true,.P (.I .i64) (.L .Y))]
 [(false,.B)] x=Zu x:=by kernel_rfl
noncomputable def e_s_CellOk:SEnt Tryz.prog:=⟨111,[(true,.P (.I .i64) (.L .Y))],[(false,.B)],Zu,runs_see mixed_Pl Tryz.func111 (by kernel_rfl) h_s_CellOk⟩
noncomputable def a_s_l2Len:An:=.d
theorem h_s_l2Len (x:UInt8):fnX (P:=Tryz.prog) [.see e_s_l1In] [] (sOf Tryz.prog Tryz.f143) a_s_l2Len (iOf Tryz.prog Tryz.f143) [(false,.Y)] [(false,.I .i64)] x=Zej
 x:=by kernel_rfl
noncomputable def e_s_l2Len:SEnt Tryz.prog:=⟨143,[(false,.Y)],[(false,.I .i64)],Zej,runs_see mixed_Pl Tryz.func143 (by kernel_rfl) h_s_l2Len⟩
noncomputable def a_s_SignOk:An:=.d
theorem h_s_SignOk (x:Int):fnX (P:=Tryz.prog) [.see e_s_l1In] [] (sOf Tryz.prog Tryz.f137) a_s_SignOk (iOf Tryz.prog Tryz.f137) [(false,.I .i64)] [(false,.B)] x =
 Zbx x:=by kernel_rfl
noncomputable def e_s_SignOk:SEnt Tryz.prog:=⟨137,[(false,.I .i64)],[(false,.B)],Zbx,runs_see mixed_Pl Tryz.func137 (by kernel_rfl) h_s_SignOk⟩
noncomputable def a_s_PutSign:An:=.d
theorem h_s_PutSign (x:(List UInt8)×Int):fnX (P:=Tryz.prog) [.see e_s_SignOk] [(6,.el .Y),(8,.el .Y),(20,.el .Y),(21,.el .Y),(34,.el .Y),(35,.el .Y),(53,.el
 .Y),(54,.el .Y),(74,.el .Y),(75,.el .Y)] (sOf Tryz.prog Tryz.f131) a_s_PutSign (iOf Tryz.prog Tryz.f131) [(false,.L .Y),(false,.I .i64)] [(false,.L .Y)] x=Zby
 x:=by kernel_rfl
noncomputable def e_s_PutSign:SEnt Tryz.prog:=⟨131,[(false,.L .Y),(false,.I .i64)],[(false,.L .Y)],Zby,runs_see mixed_Pl Tryz.func131 (by kernel_rfl)
 h_s_PutSign⟩
noncomputable def a_s_GetSign:An:=(.sq none .d (.sq none .d (.sq none .d (.sq none .d (.sq none .d (.sq (some [.kt 0,.kt 1,.kt 7,.lt 8 (.I .i64)]) .d (.sq (some [.kt 0,.kt
 1,.kt 7,.lt 8 (.I .i64)]) (.sq none .d (.bl (.lp [.kt 0,.kt 1,.kt 7,.lt 8 (.I .i64),.lt 9 (.I .i64)] .d))) .d)))))))
theorem h_s_GetSign (x:(List UInt8)×Int):fnX (P:=Tryz.prog) [.see e_s_l1In,.see e_s_l2Len,.see e_s_SignOk,.see e_s_PutSign] [(71,.el .Y)] (sOf Tryz.prog Tryz.f134)
 a_s_GetSign (iOf Tryz.prog Tryz.f134) [(false,.L .Y),(false,.I .i64)] [(false,.I .i64),(false,.I .i64),(false,.B)] x=Zek x:=by kernel_rfl
noncomputable def e_s_GetSign:SEnt Tryz.prog:=⟨134,[(false,.L .Y),(false,.I .i64)],[(false,.I .i64),(false,.I .i64),(false,.B)],Zek,runs_see mixed_Pl
 Tryz.func134 (by kernel_rfl) h_s_GetSign⟩
noncomputable def a_s_PairSign:An:=.d
theorem h_s_PairSign (x:Int×Int):fnX (P:=Tryz.prog) [.see e_s_l1In] [] (sOf Tryz.prog Tryz.f144) a_s_PairSign (iOf Tryz.prog Tryz.f144) [(false,.I .i64),(false,.I .i64)]
 [(false,.I .i64),(false,.B)] x=Zel x:=by kernel_rfl
noncomputable def e_s_PairSign:SEnt Tryz.prog:=⟨144,[(false,.I .i64),(false,.I .i64)],[(false,.I .i64),(false,.B)],Zel,runs_see mixed_Pl Tryz.func144 (by
 kernel_rfl) h_s_PairSign⟩
noncomputable def a_s_EucSign:An:=.d
theorem h_s_EucSign (x:(List UInt8)×Int):fnX (P:=Tryz.prog) [.see e_s_l1In,.see e_s_PairSign] [] (sOf Tryz.prog Tryz.f135) a_s_EucSign (iOf Tryz.prog Tryz.f135) [(false,
 .L .Y),(false,.I .i64)] [(false,.I .i64),(false,.I .i64),(false,.B)] x=Zem x:=by kernel_rfl
noncomputable def e_s_EucSign:SEnt Tryz.prog:=⟨135,[(false,.L .Y),(false,.I .i64)],[(false,.I .i64),(false,.I .i64),(false,.B)],Zem,runs_see mixed_Pl
 Tryz.func135 (by kernel_rfl) h_s_EucSign⟩
end Go.Vs
