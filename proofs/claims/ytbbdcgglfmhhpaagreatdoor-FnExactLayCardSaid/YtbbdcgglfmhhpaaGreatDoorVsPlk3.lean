import Derived.Test.YtbbdcgglfmhhpaaGreatDoorProg
import Derived.Test.YtbbdcgglfmhhpaaGreatDoorVsPlk2
set_option linter.all false
namespace Go.Vs
open Go.Proofs
set_option maxRecDepth 100000
noncomputable def a_s_l3Nine:An:=.d
theorem h_s_l3Nine (x:Int):fnX (P:=Tryz.prog) [] [] (sOf Tryz.prog Tryz.f145) a_s_l3Nine (iOf Tryz.prog Tryz.f145) [(false,.I .i64)] [(false,.I .i64)] x=Zgr x :=
 by kernel_rfl
noncomputable def e_s_l3Nine:SEnt Tryz.prog:=⟨145,[(false,.I .i64)],[(false,.I .i64)],Zgr,runs_see mixed_Pl Tryz.func145 (by kernel_rfl) h_s_l3Nine⟩
noncomputable def a_s_l3Koi:An:=.d
theorem h_s_l3Koi (x:Int):fnX (P:=Tryz.prog) [] [(4,.el (.I .i64))] (sOf Tryz.prog Tryz.f146) a_s_l3Koi (iOf Tryz.prog Tryz.f146) [(false,.I .i64)] [(false,.I .i64)] x =
 Zgs x:=by kernel_rfl
noncomputable def e_s_l3Koi:SEnt Tryz.prog:=⟨146,[(false,.I .i64)],[(false,.I .i64)],Zgs,runs_see mixed_Pl Tryz.func146 (by kernel_rfl) h_s_l3Koi⟩
noncomputable def a_s_l3Win:An:=.d
theorem h_s_l3Win (x:Int):fnX (P:=Tryz.prog) [] [(4,.el (.I .i64))] (sOf Tryz.prog Tryz.f147) a_s_l3Win (iOf Tryz.prog Tryz.f147) [(false,.I .i64)] [(false,.I .i64)] x =
 Zgt x:=by kernel_rfl
noncomputable def e_s_l3Win:SEnt Tryz.prog:=⟨147,[(false,.I .i64)],[(false,.I .i64)],Zgt,runs_see mixed_Pl Tryz.func147 (by kernel_rfl) h_s_l3Win⟩
noncomputable def a_s_ByteSign:An:=(.sq none .d (.sq none .d (.sq none .d (.sq (some [.lt 6 (.I .i64)]) .d .d))))
theorem h_s_ByteSign (x:Int×Int):fnX (P:=Tryz.prog) [.see e_s_l1In,.see e_s_l3Nine,.see e_s_l3Koi,.see e_s_l3Win] [] (sOf Tryz.prog Tryz.f136) a_s_ByteSign (iOf
 Tryz.prog Tryz.f136) [(false,.I .i64),(false,.I .i64)] [(false,.I .i64),(false,.B)] x=Zbj x:=by kernel_rfl
noncomputable def e_s_ByteSign:SEnt Tryz.prog:=⟨136,[(false,.I .i64),(false,.I .i64)],[(false,.I .i64),(false,.B)],Zbj,runs_see mixed_Pl Tryz.func136 (by
 kernel_rfl) h_s_ByteSign⟩
noncomputable def a_s_l5Get:An:=.d
theorem h_s_l5Get (x:Int×(List UInt8)×Int):fnX (P:=Tryz.prog) [.see e_s_GetSign,.see e_s_EucSign,.see e_s_ByteSign] [] (sOf Tryz.prog Tryz.f130) a_s_l5Get (iOf
 Tryz.prog Tryz.f130) [(false,.I .i64),(false,.L .Y),(false,.I .i64)] [(false,.I .i64),(false,.I .i64),(false,.B)] x=Zen x:=by kernel_rfl
noncomputable def e_s_l5Get:SEnt Tryz.prog:=⟨130,[(false,.I .i64),(false,.L .Y),(false,.I .i64)],[(false,.I .i64),(false,.I .i64),(false,.B)],Zen,runs_see
 mixed_Pl Tryz.func130 (by kernel_rfl) h_s_l5Get⟩
noncomputable def a_s_Decode:An:=(.sq none .d (.sq none .d (.sq none .d (.sq (some [.ot 6 .Y]) (.sq none .d (.bl (.lp [.kt 0,.kt 1,.ot 6 .Y,.lt 7 (.I .i64)] .d))) .d))))
theorem h_s_Decode (x:Int×List UInt8):fnX (P:=Tryz.prog) [.see e_s_l5Cs,.see e_s_l5Get,.see e_s_PutSign] [(11,.el .Y)] (sOf Tryz.prog Tryz.f126) a_s_Decode (iOf
 Tryz.prog Tryz.f126) [(false,.I .i64),(false,.L .Y)] [(false,.S),(false,.B)] x=Zeo x:=by kernel_rfl
noncomputable def e_s_Decode:SEnt Tryz.prog:=⟨126,[(false,.I .i64),(false,.L .Y)],[(false,.S),(false,.B)],Zeo,runs_see mixed_Pl Tryz.func126 (by kernel_rfl)
 h_s_Decode⟩
noncomputable def a_s_CellText:An:=.d
theorem h_s_CellText (x:Int×List UInt8):fnX (P:=Tryz.prog) [.see e_s_CellOk,.see e_s_Decode] [] (sOf Tryz.prog Tryz.f110) a_s_CellText (iOf Tryz.prog Tryz.f110) [(true,.P
 (.I .i64) (.L .Y))] [(false,.S),(false,.B)] x=Zj x:=by kernel_rfl
noncomputable def e_s_CellText:SEnt Tryz.prog:=⟨110,[(true,.P (.I .i64) (.L .Y))],[(false,.S),(false,.B)],Zj,runs_see mixed_Pl Tryz.func110 (by kernel_rfl)
 h_s_CellText⟩
noncomputable def a_s_SameText:An:=.d
theorem h_s_SameText (x:(Int×List UInt8)×Int×List UInt8):fnX (P:=Tryz.prog) [.see e_s_CellText] [] (sOf Tryz.prog Tryz.f112) a_s_SameText (iOf Tryz.prog Tryz.f112)
 [(true,.P (.I .i64) (.L .Y)),(true,.P (.I .i64) (.L .Y))] [(false,.B)] x=Za x:=by kernel_rfl
noncomputable def e_s_SameText:SEnt Tryz.prog:=⟨112,[(true,.P (.I .i64) (.L .Y)),(true,.P (.I .i64) (.L .Y))],[(false,.B)],Za,runs_see mixed_Pl Tryz.func112
 (by kernel_rfl) h_s_SameText⟩
noncomputable def a_s_RowOk:An:=.d
theorem h_s_RowOk (x:(List UInt8)×(Int×List UInt8)×(Int×List UInt8)×Int×Bool):fnX (P:=Tryz.prog) [.see e_s_NameOk,.see e_s_l1In,.see e_s_l9Old,.see e_s_l9None,
 .see e_s_l9New,.see e_s_CellText,.see e_s_CellOk,.see e_s_SameText] [] (sOf Tryz.prog Tryz.f74) a_s_RowOk (iOf Tryz.prog Tryz.f74) [(true,.P .S (.P (.P (.I .i64) (.L .Y)) (.P
 (.P (.I .i64) (.L .Y)) (.P (.I .i64) .B))))] [(false,.B)] x=Zv x:=by kernel_rfl
noncomputable def e_s_RowOk:SEnt Tryz.prog:=⟨74,[(true,.P .S (.P (.P (.I .i64) (.L .Y)) (.P (.P (.I .i64) (.L .Y)) (.P (.I .i64) .B))))],[(false,.B)],Zv,runs_see
 mixed_Pl Tryz.func74 (by kernel_rfl) h_s_RowOk⟩
noncomputable def a_s_l1Word:An:=.d
theorem h_s_l1Word (x:Int):fnX (P:=Tryz.prog) [.see e_s_l1In] [] (sOf Tryz.prog Tryz.f78) a_s_l1Word (iOf Tryz.prog Tryz.f78) [(false,.I .i64)] [(false,.B)] x=Zw
 x:=by kernel_rfl
noncomputable def e_s_l1Word:SEnt Tryz.prog:=⟨78,[(false,.I .i64)],[(false,.B)],Zw,runs_see mixed_Pl Tryz.func78 (by kernel_rfl) h_s_l1Word⟩
noncomputable def a_s_l12Mark:An:=.d
theorem h_s_l12Mark (x:Int×Int×Int):fnX (P:=Tryz.prog) [.see e_s_l1In,.see e_s_l1Word] [] (sOf Tryz.prog Tryz.f75) a_s_l12Mark (iOf Tryz.prog Tryz.f75) [(true,.P (.I
 .i64) (.P (.I .i64) (.I .i64)))] [(false,.B)] x=Zcr x:=by kernel_rfl
noncomputable def e_s_l12Mark:SEnt Tryz.prog:=⟨75,[(true,.P (.I .i64) (.P (.I .i64) (.I .i64)))],[(false,.B)],Zcr,runs_see mixed_Pl Tryz.func75 (by kernel_rfl)
 h_s_l12Mark⟩
noncomputable def a_s_TabOk:An:=(.sq none .d (.sq (some [.kt 1]) (.sq none .d (.bl (.lp [.kt 1,.lt 3 (.I .i64)] .d))) (.sq (some [.kt 1]) (.sq none .d (.bl (.lp [.kt 1,.lt 4
 (.I .i64)] .d))) .d)))
theorem h_s_TabOk (x:(List ((List UInt8)×(Int×List UInt8)×(Int×List UInt8)×Int×Bool))×Int×List (Int×Int×Int)):fnX (P:=Tryz.prog) [.see e_s_RowOk,.see
 e_s_l12Mark,.see e_s_l1In] [] (sOf Tryz.prog Tryz.f35) a_s_TabOk (iOf Tryz.prog Tryz.f35) [(true,.P (.L (.P .S (.P (.P (.I .i64) (.L .Y)) (.P (.P (.I .i64) (.L .Y)) (.P (.I
 .i64) .B))))) (.P (.I .i64) (.L (.P (.I .i64) (.P (.I .i64) (.I .i64))))))] [(false,.B)] x=Zbz x:=by kernel_rfl
noncomputable def e_s_TabOk:SEnt Tryz.prog:=⟨35,[(true,.P (.L (.P .S (.P (.P (.I .i64) (.L .Y)) (.P (.P (.I .i64) (.L .Y)) (.P (.I .i64) .B))))) (.P (.I .i64) (.L (.P (.I
 .i64) (.P (.I .i64) (.I .i64))))))],[(false,.B)],Zbz,runs_see mixed_Pl Tryz.func35 (by kernel_rfl) h_s_TabOk⟩
noncomputable def a_s_StoreOk:An:=.d
theorem h_s_StoreOk (x:((List (List UInt8))×(List (Int×List UInt8))×Int×Bool)×((List ((List UInt8)×(Int×List UInt8)×(Int×List UInt8)×Int×Bool))×Int×List
 (Int×Int×Int))×Int×Int):fnX (P:=Tryz.prog) [.see e_s_DevOk,.see e_s_TabOk,.see e_s_l1In] [] (sOf Tryz.prog Tryz.f14) a_s_StoreOk (iOf Tryz.prog Tryz.f14) [(true,.P
 (.P (.L (.L .Y)) (.P (.L (.P (.I .i64) (.L .Y))) (.P (.I .i64) .B))) (.P (.P (.L (.P .S (.P (.P (.I .i64) (.L .Y)) (.P (.P (.I .i64) (.L .Y)) (.P (.I .i64) .B))))) (.P (.I .i64)
 (.L (.P (.I .i64) (.P (.I .i64) (.I .i64)))))) (.P (.I .i64) (.I .i64))))] [(false,.B)] x=Zcs x:=by kernel_rfl
noncomputable def e_s_StoreOk:SEnt Tryz.prog:=⟨14,[(true,.P (.P (.L (.L .Y)) (.P (.L (.P (.I .i64) (.L .Y))) (.P (.I .i64) .B))) (.P (.P (.L (.P .S (.P (.P (.I .i64) (.L .Y))
 (.P (.P (.I .i64) (.L .Y)) (.P (.I .i64) .B))))) (.P (.I .i64) (.L (.P (.I .i64) (.P (.I .i64) (.I .i64)))))) (.P (.I .i64) (.I .i64))))],[(false,.B)],Zcs,runs_see
 mixed_Pl Tryz.func14 (by kernel_rfl) h_s_StoreOk⟩
noncomputable def a_s_RecsOf:An:=(.sq none .d (.sq none .d (.sq (some [.kt 1,.ot 3 (.P (.I .i64) (.P (.P .S (.P (.P (.I .i64) (.L .Y)) (.P (.P (.I .i64) (.L .Y)) (.P (.I .i64)
 .B)))) (.P .S (.P (.I .i64) (.P (.I .i64) (.P (.I .i64) (.I .i64)))))))]) (.sq none .d (.bl (.lp [.kt 1,.ot 3 (.P (.I .i64) (.P (.P .S (.P (.P (.I .i64) (.L .Y)) (.P (.P (.I
 .i64) (.L .Y)) (.P (.I .i64) .B)))) (.P .S (.P (.I .i64) (.P (.I .i64) (.P (.I .i64) (.I .i64))))))),.lt 4 (.I .i64)] .d))) (.sq (some [.ot 3 (.P (.I .i64) (.P (.P .S (.P (.P
 (.I .i64) (.L .Y)) (.P (.P (.I .i64) (.L .Y)) (.P (.I .i64) .B)))) (.P .S (.P (.I .i64) (.P (.I .i64) (.P (.I .i64) (.I .i64)))))))]) (.sq none .d (.bl (.lp [.kt 1,.ot 3 (.P (.I
 .i64) (.P (.P .S (.P (.P (.I .i64) (.L .Y)) (.P (.P (.I .i64) (.L .Y)) (.P (.I .i64) .B)))) (.P .S (.P (.I .i64) (.P (.I .i64) (.P (.I .i64) (.I .i64))))))),.lt 5 (.I .i64)]
 .d))) .d))))
theorem h_s_RecsOf (x:(List ((List UInt8)×(Int×List UInt8)×(Int×List UInt8)×Int×Bool))×Int×List (Int×Int×Int)):fnX (P:=Tryz.prog) [.see e_s_l9Copy] [(9,
 .el (.P (.I .i64) (.P (.P .S (.P (.P (.I .i64) (.L .Y)) (.P (.P (.I .i64) (.L .Y)) (.P (.I .i64) .B)))) (.P .S (.P (.I .i64) (.P (.I .i64) (.P (.I .i64) (.I .i64)))))))),(25,
 .el (.P (.I .i64) (.P (.P .S (.P (.P (.I .i64) (.L .Y)) (.P (.P (.I .i64) (.L .Y)) (.P (.I .i64) .B)))) (.P .S (.P (.I .i64) (.P (.I .i64) (.P (.I .i64) (.I .i64)))))))),(26,
 .el (.P (.I .i64) (.P (.P .S (.P (.P (.I .i64) (.L .Y)) (.P (.P (.I .i64) (.L .Y)) (.P (.I .i64) .B)))) (.P .S (.P (.I .i64) (.P (.I .i64) (.P (.I .i64) (.I .i64)))))))),(54,
 .el (.P (.I .i64) (.P (.P .S (.P (.P (.I .i64) (.L .Y)) (.P (.P (.I .i64) (.L .Y)) (.P (.I .i64) .B)))) (.P .S (.P (.I .i64) (.P (.I .i64) (.P (.I .i64) (.I .i64)))))))),(55,
 .el (.P (.I .i64) (.P (.P .S (.P (.P (.I .i64) (.L .Y)) (.P (.P (.I .i64) (.L .Y)) (.P (.I .i64) .B)))) (.P .S (.P (.I .i64) (.P (.I .i64) (.P (.I .i64) (.I .i64))))))))] (sOf
 Tryz.prog Tryz.f37) a_s_RecsOf (iOf Tryz.prog Tryz.f37) [(true,.P (.L (.P .S (.P (.P (.I .i64) (.L .Y)) (.P (.P (.I .i64) (.L .Y)) (.P (.I .i64) .B))))) (.P (.I .i64) (.L (.P
 (.I .i64) (.P (.I .i64) (.I .i64))))))] [(false,.L (.P (.I .i64) (.P (.P .S (.P (.P (.I .i64) (.L .Y)) (.P (.P (.I .i64) (.L .Y)) (.P (.I .i64) .B)))) (.P .S (.P (.I .i64) (.P
 (.I .i64) (.P (.I .i64) (.I .i64))))))))] x=Zca x:=by kernel_rfl
noncomputable def e_s_RecsOf:SEnt Tryz.prog:=⟨37,[(true,.P (.L (.P .S (.P (.P (.I .i64) (.L .Y)) (.P (.P (.I .i64) (.L .Y)) (.P (.I .i64) .B))))) (.P (.I .i64) (.L (.P (.I
 .i64) (.P (.I .i64) (.I .i64))))))],[(false,.L (.P (.I .i64) (.P (.P .S (.P (.P (.I .i64) (.L .Y)) (.P (.P (.I .i64) (.L .Y)) (.P (.I .i64) .B)))) (.P .S (.P (.I .i64) (.P (.I
 .i64) (.P (.I .i64) (.I .i64))))))))],Zca,runs_see mixed_Pl Tryz.func37 (by kernel_rfl) h_s_RecsOf⟩
end Go.Vs
