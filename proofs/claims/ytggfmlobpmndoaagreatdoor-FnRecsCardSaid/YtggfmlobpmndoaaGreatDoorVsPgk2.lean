import Derived.Test.YtggfmlobpmndoaaGreatDoorProg
import Derived.Test.YtggfmlobpmndoaaGreatDoorVsPgk1
set_option linter.all false
namespace Go.Vs
open Go.Proofs
set_option maxRecDepth 100000
noncomputable def a_s_CellOf:An:=.d
theorem h_s_CellOf (x:Int×List UInt8):fnX (P:=Tryz.prog) [.see e_s_Encode] [] (sOf Tryz.prog Tryz.f184) a_s_CellOf (iOf Tryz.prog Tryz.f184) [(false,.I .i64),(false,.S)]
 [(true,.P (.I .i64) (.L .Y)),(false,.B)] x=F_s_CellOf x:=by kernel_rfl
noncomputable def e_s_CellOf:SEnt Tryz.prog:=⟨184,[(false,.I .i64),(false,.S)],[(true,.P (.I .i64) (.L .Y)),(false,.B)],F_s_CellOf,runs_see mixed_Pg Tryz.func184 (by
 kernel_rfl) h_s_CellOf⟩
noncomputable def a_s_NameOk:An:=(.sq none .d (.sq (some [.kt 0]) (.sq none .d (.bl (.lp [.kt 0,.lt 3 (.I .i64)] .d))) .d))
theorem h_s_NameOk (x:List UInt8):fnX (P:=Tryz.prog) [.see e_s_l1In] [] (sOf Tryz.prog Tryz.f104) a_s_NameOk (iOf Tryz.prog Tryz.f104) [(false,.S)] [(false,.B)] x =
 F_s_NameOk x:=by kernel_rfl
noncomputable def e_s_NameOk:SEnt Tryz.prog:=⟨104,[(false,.S)],[(false,.B)],F_s_NameOk,runs_see mixed_Pg Tryz.func104 (by kernel_rfl) h_s_NameOk⟩
noncomputable def a_s_RowOf:An:=(.sq none .d (.sq none .d (.sq none .d (.sq none .d (.sq (some [.kt 1,.bx 8 [.L .S,.L (.I .i64),.O .Y,.L (.I .i64),.O .Y,.L (.I .i64),.L
 .B],.kt 10,.kt 12,.kt 13]) (.sq none .d (.bl (.sq (some [.kt 1,.kt 8,.kt 10,.kt 12,.kt 13,.kt 43,.lt 44 .B]) .d (.cd .d (.sq (some [.kt 1,.kt 8,.kt 10,.kt 12,.kt 13,
 .kt 43,.lt 53 .B]) .d .d))))) .d)))))
theorem h_s_RowOf (x:Int×(List UInt8)×Int×List UInt8):fnX (P:=Tryz.prog) [.see e_s_CellOf,.see e_s_l1In,.see e_s_NameOk] [] (sOf Tryz.prog Tryz.f174) a_s_RowOf (iOf
 Tryz.prog Tryz.f174) [(false,.I .i64),(false,.S),(false,.I .i64),(false,.S)] [(true,.P .S (.P (.P (.I .i64) (.L .Y)) (.P (.P (.I .i64) (.L .Y)) (.P (.I .i64) .B)))),
 (false,.I .i64)] x=F_s_RowOf x:=by kernel_rfl
noncomputable def e_s_RowOf:SEnt Tryz.prog:=⟨174,[(false,.I .i64),(false,.S),(false,.I .i64),(false,.S)],[(true,.P .S (.P (.P (.I .i64) (.L .Y)) (.P (.P (.I .i64) (.L
 .Y)) (.P (.I .i64) .B)))),(false,.I .i64)],F_s_RowOf,runs_see mixed_Pg Tryz.func174 (by kernel_rfl) h_s_RowOf⟩
noncomputable def a_s_l8Copy:An:=.d
theorem h_s_l8Copy (x:Int×List UInt8):fnX (P:=Tryz.prog) [] [(5,.el .Y),(8,.el .Y)] (sOf Tryz.prog Tryz.f183) a_s_l8Copy (iOf Tryz.prog Tryz.f183) [(true,.P (.I .i64)
 (.L .Y))] [(true,.P (.I .i64) (.L .Y))] x=F_s_l8Copy x:=by kernel_rfl
noncomputable def e_s_l8Copy:SEnt Tryz.prog:=⟨183,[(true,.P (.I .i64) (.L .Y))],[(true,.P (.I .i64) (.L .Y))],F_s_l8Copy,runs_see mixed_Pg Tryz.func183 (by kernel_rfl)
 h_s_l8Copy⟩
noncomputable def a_s_l9Copy:An:=.d
theorem h_s_l9Copy (x:(List UInt8)×(Int×List UInt8)×(Int×List UInt8)×Int×Bool):fnX (P:=Tryz.prog) [.see e_s_l8Copy] [] (sOf Tryz.prog Tryz.f101) a_s_l9Copy (iOf
 Tryz.prog Tryz.f101) [(true,.P .S (.P (.P (.I .i64) (.L .Y)) (.P (.P (.I .i64) (.L .Y)) (.P (.I .i64) .B))))] [(true,.P .S (.P (.P (.I .i64) (.L .Y)) (.P (.P (.I .i64) (.L .Y))
 (.P (.I .i64) .B))))] x=F_s_l9Copy x:=by kernel_rfl
noncomputable def e_s_l9Copy:SEnt Tryz.prog:=⟨101,[(true,.P .S (.P (.P (.I .i64) (.L .Y)) (.P (.P (.I .i64) (.L .Y)) (.P (.I .i64) .B))))],[(true,.P .S (.P (.P (.I .i64)
 (.L .Y)) (.P (.P (.I .i64) (.L .Y)) (.P (.I .i64) .B))))],F_s_l9Copy,runs_see mixed_Pg Tryz.func101 (by kernel_rfl) h_s_l9Copy⟩
noncomputable def a_s_l9Old:An:=.d
theorem h_s_l9Old (x:(List UInt8)×(Int×List UInt8)×(Int×List UInt8)×Int×Bool):fnX (P:=Tryz.prog) [] [] (sOf Tryz.prog Tryz.f103) a_s_l9Old (iOf Tryz.prog
 Tryz.f103) [(true,.P .S (.P (.P (.I .i64) (.L .Y)) (.P (.P (.I .i64) (.L .Y)) (.P (.I .i64) .B))))] [(false,.B)] x=F_s_l9Old x:=by kernel_rfl
noncomputable def e_s_l9Old:SEnt Tryz.prog:=⟨103,[(true,.P .S (.P (.P (.I .i64) (.L .Y)) (.P (.P (.I .i64) (.L .Y)) (.P (.I .i64) .B))))],[(false,.B)],F_s_l9Old,runs_see
 mixed_Pg Tryz.func103 (by kernel_rfl) h_s_l9Old⟩
noncomputable def a_s_l9None:An:=.d
theorem h_s_l9None (x:Int×List UInt8):fnX (P:=Tryz.prog) [] [] (sOf Tryz.prog Tryz.f106) a_s_l9None (iOf Tryz.prog Tryz.f106) [(true,.P (.I .i64) (.L .Y))] [(false,.B)] x
 = F_s_l9None x:=by kernel_rfl
noncomputable def e_s_l9None:SEnt Tryz.prog:=⟨106,[(true,.P (.I .i64) (.L .Y))],[(false,.B)],F_s_l9None,runs_see mixed_Pg Tryz.func106 (by kernel_rfl) h_s_l9None⟩
noncomputable def a_s_l9New:An:=.d
theorem h_s_l9New (x:(List UInt8)×(Int×List UInt8)×(Int×List UInt8)×Int×Bool):fnX (P:=Tryz.prog) [] [] (sOf Tryz.prog Tryz.f99) a_s_l9New (iOf Tryz.prog Tryz.f99)
 [(true,.P .S (.P (.P (.I .i64) (.L .Y)) (.P (.P (.I .i64) (.L .Y)) (.P (.I .i64) .B))))] [(false,.B)] x=F_s_l9New x:=by kernel_rfl
noncomputable def e_s_l9New:SEnt Tryz.prog:=⟨99,[(true,.P .S (.P (.P (.I .i64) (.L .Y)) (.P (.P (.I .i64) (.L .Y)) (.P (.I .i64) .B))))],[(false,.B)],F_s_l9New,runs_see
 mixed_Pg Tryz.func99 (by kernel_rfl) h_s_l9New⟩
noncomputable def a_s_CellOk:An:=.d
theorem h_s_CellOk (x:Int×List UInt8):fnX (P:=Tryz.prog) [.see e_s_l5Cs] [] (sOf Tryz.prog Tryz.f107) a_s_CellOk (iOf Tryz.prog Tryz.f107) [(true,.P (.I .i64) (.L .Y))]
 [(false,.B)] x=F_s_CellOk x:=by kernel_rfl
noncomputable def e_s_CellOk:SEnt Tryz.prog:=⟨107,[(true,.P (.I .i64) (.L .Y))],[(false,.B)],F_s_CellOk,runs_see mixed_Pg Tryz.func107 (by kernel_rfl) h_s_CellOk⟩
noncomputable def a_s_PairSign:An:=.d
theorem h_s_PairSign (x:Int×Int):fnX (P:=Tryz.prog) [.see e_s_l1In] [] (sOf Tryz.prog Tryz.f260) a_s_PairSign (iOf Tryz.prog Tryz.f260) [(false,.I .i64),(false,.I .i64)]
 [(false,.I .i64),(false,.B)] x=F_s_PairSign x:=by kernel_rfl
noncomputable def e_s_PairSign:SEnt Tryz.prog:=⟨260,[(false,.I .i64),(false,.I .i64)],[(false,.I .i64),(false,.B)],F_s_PairSign,runs_see mixed_Pg Tryz.func260 (by
 kernel_rfl) h_s_PairSign⟩
noncomputable def a_s_EucSign:An:=.d
theorem h_s_EucSign (x:(List UInt8)×Int):fnX (P:=Tryz.prog) [.see e_s_l1In,.see e_s_PairSign] [] (sOf Tryz.prog Tryz.f244) a_s_EucSign (iOf Tryz.prog Tryz.f244) [(false,
 .L .Y),(false,.I .i64)] [(false,.I .i64),(false,.I .i64),(false,.B)] x=F_s_EucSign x:=by kernel_rfl
noncomputable def e_s_EucSign:SEnt Tryz.prog:=⟨244,[(false,.L .Y),(false,.I .i64)],[(false,.I .i64),(false,.I .i64),(false,.B)],F_s_EucSign,runs_see mixed_Pg
 Tryz.func244 (by kernel_rfl) h_s_EucSign⟩
noncomputable def a_s_l5Get:An:=.d
theorem h_s_l5Get (x:Int×(List UInt8)×Int):fnX (P:=Tryz.prog) [.see e_s_GetSign,.see e_s_EucSign,.see e_s_ByteSign] [] (sOf Tryz.prog Tryz.f223) a_s_l5Get (iOf
 Tryz.prog Tryz.f223) [(false,.I .i64),(false,.L .Y),(false,.I .i64)] [(false,.I .i64),(false,.I .i64),(false,.B)] x=F_s_l5Get x:=by kernel_rfl
noncomputable def e_s_l5Get:SEnt Tryz.prog:=⟨223,[(false,.I .i64),(false,.L .Y),(false,.I .i64)],[(false,.I .i64),(false,.I .i64),(false,.B)],F_s_l5Get,runs_see
 mixed_Pg Tryz.func223 (by kernel_rfl) h_s_l5Get⟩
noncomputable def a_s_Decode:An:=(.sq none .d (.sq none .d (.sq none .d (.sq (some [.ot 6 .Y]) (.sq none .d (.bl (.lp [.kt 0,.kt 1,.ot 6 .Y,.lt 7 (.I .i64)] .d))) .d))))
theorem h_s_Decode (x:Int×List UInt8):fnX (P:=Tryz.prog) [.see e_s_l5Cs,.see e_s_l5Get,.see e_s_PutSign] [(11,.el .Y)] (sOf Tryz.prog Tryz.f182) a_s_Decode (iOf
 Tryz.prog Tryz.f182) [(false,.I .i64),(false,.L .Y)] [(false,.S),(false,.B)] x=F_s_Decode x:=by kernel_rfl
noncomputable def e_s_Decode:SEnt Tryz.prog:=⟨182,[(false,.I .i64),(false,.L .Y)],[(false,.S),(false,.B)],F_s_Decode,runs_see mixed_Pg Tryz.func182 (by kernel_rfl)
 h_s_Decode⟩
noncomputable def a_s_CellText:An:=.d
theorem h_s_CellText (x:Int×List UInt8):fnX (P:=Tryz.prog) [.see e_s_CellOk,.see e_s_Decode] [] (sOf Tryz.prog Tryz.f100) a_s_CellText (iOf Tryz.prog Tryz.f100) [(true,.P
 (.I .i64) (.L .Y))] [(false,.S),(false,.B)] x=F_s_CellText x:=by kernel_rfl
noncomputable def e_s_CellText:SEnt Tryz.prog:=⟨100,[(true,.P (.I .i64) (.L .Y))],[(false,.S),(false,.B)],F_s_CellText,runs_see mixed_Pg Tryz.func100 (by kernel_rfl)
 h_s_CellText⟩
end Go.Vs
