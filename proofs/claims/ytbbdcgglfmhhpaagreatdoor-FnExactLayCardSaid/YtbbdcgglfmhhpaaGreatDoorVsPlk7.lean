import Derived.Test.YtbbdcgglfmhhpaaGreatDoorProg
import Derived.Test.YtbbdcgglfmhhpaaGreatDoorVsPlk6
set_option linter.all false
namespace Go.Vs
open Go.Proofs
set_option maxRecDepth 100000
noncomputable def a_i_Decode:An:=(.sq none .d (.sq none .d (.sq none .d (.sq (some [.ot 6 .Y]) (.sq none .d (.bl (.lp [.kt 0,.kt 1,.ot 6 .Y,.lt 7 (.I .i64)] .d))) .d))))
theorem h_i_Decode (x:Int×List UInt8):fnX (P:=Tryz.prog) [.see e_i_isSet,.see e_i_signIn,.see e_i_PutSign] [(14,.el .Y)] (sOf Tryz.prog Tryz.f128) a_i_Decode (iOf
 Tryz.prog Tryz.f128) [(false,.I .i64),(false,.L .Y)] [(false,.S),(false,.B)] x=Zez x:=by kernel_rfl
noncomputable def e_i_Decode:SEnt Tryz.prog:=⟨128,[(false,.I .i64),(false,.L .Y)],[(false,.S),(false,.B)],Zez,runs_see mixed_Pl Tryz.func128 (by kernel_rfl)
 h_i_Decode⟩
noncomputable def a_i_CellText:An:=.d
theorem h_i_CellText (x:Int×List UInt8):fnX (P:=Tryz.prog) [.see e_i_CellOk,.see e_i_Decode] [] (sOf Tryz.prog Tryz.f119) a_i_CellText (iOf Tryz.prog Tryz.f119) [(true,.P
 (.I .i64) (.L .Y))] [(false,.S),(false,.B)] x=Zbl x:=by kernel_rfl
noncomputable def e_i_CellText:SEnt Tryz.prog:=⟨119,[(true,.P (.I .i64) (.L .Y))],[(false,.S),(false,.B)],Zbl,runs_see mixed_Pl Tryz.func119 (by kernel_rfl)
 h_i_CellText⟩
noncomputable def a_i_sameCell:An:=.d
theorem h_i_sameCell (x:(Int×List UInt8)×Int×List UInt8):fnX (P:=Tryz.prog) [] [] (sOf Tryz.prog Tryz.f120) a_i_sameCell (iOf Tryz.prog Tryz.f120) [(true,.P (.I .i64)
 (.L .Y)),(true,.P (.I .i64) (.L .Y))] [(false,.B)] x=Zm x:=by kernel_rfl
noncomputable def e_i_sameCell:SEnt Tryz.prog:=⟨120,[(true,.P (.I .i64) (.L .Y)),(true,.P (.I .i64) (.L .Y))],[(false,.B)],Zm,runs_see mixed_Pl Tryz.func120
 (by kernel_rfl) h_i_sameCell⟩
noncomputable def a_i_SameText:An:=.d
theorem h_i_SameText (x:(Int×List UInt8)×Int×List UInt8):fnX (P:=Tryz.prog) [.see e_i_CellText] [] (sOf Tryz.prog Tryz.f122) a_i_SameText (iOf Tryz.prog Tryz.f122)
 [(true,.P (.I .i64) (.L .Y)),(true,.P (.I .i64) (.L .Y))] [(false,.B)] x=Zgg x:=by kernel_rfl
noncomputable def e_i_SameText:SEnt Tryz.prog:=⟨122,[(true,.P (.I .i64) (.L .Y)),(true,.P (.I .i64) (.L .Y))],[(false,.B)],Zgg,runs_see mixed_Pl Tryz.func122
 (by kernel_rfl) h_i_SameText⟩
noncomputable def a_i_RowOk:An:=(.sq none .d (.sq none .d (.sq none .d (.sq none .d (.sq none .d (.sq (some [.kt 1,.kt 6,.lt 7 .B]) .d (.sq none .d (.sq (some [.kt 1,.kt 7,
 .lt 8 .B]) .d .d))))))))
theorem h_i_RowOk (x:(List UInt8)×(Int×List UInt8)×(Int×List UInt8)×Int×Bool):fnX (P:=Tryz.prog) [.see e_i_NameOk,.see e_i_within,.see e_i_CellText,.see
 e_i_sameCell,.see e_i_CellOk,.see e_i_SameText] [] (sOf Tryz.prog Tryz.f88) a_i_RowOk (iOf Tryz.prog Tryz.f88) [(true,.P .S (.P (.P (.I .i64) (.L .Y)) (.P (.P (.I .i64) (.L
 .Y)) (.P (.I .i64) .B))))] [(false,.B)] x=Zba x:=by kernel_rfl
noncomputable def e_i_RowOk:SEnt Tryz.prog:=⟨88,[(true,.P .S (.P (.P (.I .i64) (.L .Y)) (.P (.P (.I .i64) (.L .Y)) (.P (.I .i64) .B))))],[(false,.B)],Zba,runs_see
 mixed_Pl Tryz.func88 (by kernel_rfl) h_i_RowOk⟩
noncomputable def a_i_isWord:An:=.d
theorem h_i_isWord (x:Int):fnX (P:=Tryz.prog) [.see e_i_within] [] (sOf Tryz.prog Tryz.f89) a_i_isWord (iOf Tryz.prog Tryz.f89) [(false,.I .i64)] [(false,.B)] x =
 Zbb x:=by kernel_rfl
noncomputable def e_i_isWord:SEnt Tryz.prog:=⟨89,[(false,.I .i64)],[(false,.B)],Zbb,runs_see mixed_Pl Tryz.func89 (by kernel_rfl) h_i_isWord⟩
noncomputable def a_i_TabOk:An:=(.sq none .d (.sq (some [.kt 1]) (.sq none .d (.bl (.lp [.kt 1,.kt 8,.kt 9,.lt 10 (.I .i64)] .d))) (.sq (some [.kt 1]) (.sq none .d (.bl (.lp
 [.kt 1,.kt 36,.kt 37,.lt 38 (.I .i64)] .d))) .d)))
theorem h_i_TabOk (x:(List ((List UInt8)×(Int×List UInt8)×(Int×List UInt8)×Int×Bool))×Int×List (Int×Int×Int)):fnX (P:=Tryz.prog) [.see e_i_RowOk,.see
 e_i_within,.see e_i_isWord] [] (sOf Tryz.prog Tryz.f50) a_i_TabOk (iOf Tryz.prog Tryz.f50) [(true,.P (.L (.P .S (.P (.P (.I .i64) (.L .Y)) (.P (.P (.I .i64) (.L .Y)) (.P (.I
 .i64) .B))))) (.P (.I .i64) (.L (.P (.I .i64) (.P (.I .i64) (.I .i64))))))] [(false,.B)] x=Zcf x:=by kernel_rfl
noncomputable def e_i_TabOk:SEnt Tryz.prog:=⟨50,[(true,.P (.L (.P .S (.P (.P (.I .i64) (.L .Y)) (.P (.P (.I .i64) (.L .Y)) (.P (.I .i64) .B))))) (.P (.I .i64) (.L (.P (.I
 .i64) (.P (.I .i64) (.I .i64))))))],[(false,.B)],Zcf,runs_see mixed_Pl Tryz.func50 (by kernel_rfl) h_i_TabOk⟩
noncomputable def a_i_StoreOk:An:=.d
theorem h_i_StoreOk (x:((List (List UInt8))×(List (Int×List UInt8))×Int×Bool)×((List ((List UInt8)×(Int×List UInt8)×(Int×List UInt8)×Int×Bool))×Int×List
 (Int×Int×Int))×Int×Int):fnX (P:=Tryz.prog) [.see e_i_DevOk,.see e_i_TabOk,.see e_i_within] [] (sOf Tryz.prog Tryz.f19) a_i_StoreOk (iOf Tryz.prog Tryz.f19) [(true,
 .P (.P (.L (.L .Y)) (.P (.L (.P (.I .i64) (.L .Y))) (.P (.I .i64) .B))) (.P (.P (.L (.P .S (.P (.P (.I .i64) (.L .Y)) (.P (.P (.I .i64) (.L .Y)) (.P (.I .i64) .B))))) (.P (.I
 .i64) (.L (.P (.I .i64) (.P (.I .i64) (.I .i64)))))) (.P (.I .i64) (.I .i64))))] [(false,.B)] x=Zdb x:=by kernel_rfl
noncomputable def e_i_StoreOk:SEnt Tryz.prog:=⟨19,[(true,.P (.P (.L (.L .Y)) (.P (.L (.P (.I .i64) (.L .Y))) (.P (.I .i64) .B))) (.P (.P (.L (.P .S (.P (.P (.I .i64) (.L .Y))
 (.P (.P (.I .i64) (.L .Y)) (.P (.I .i64) .B))))) (.P (.I .i64) (.L (.P (.I .i64) (.P (.I .i64) (.I .i64)))))) (.P (.I .i64) (.I .i64))))],[(false,.B)],Zdb,runs_see
 mixed_Pl Tryz.func19 (by kernel_rfl) h_i_StoreOk⟩
noncomputable def a_i_RecsOf:An:=(.sq none .d (.sq none .d (.sq (some [.kt 1,.ot 3 (.P (.I .i64) (.P (.P .S (.P (.P (.I .i64) (.L .Y)) (.P (.P (.I .i64) (.L .Y)) (.P (.I .i64)
 .B)))) (.P .S (.P (.I .i64) (.P (.I .i64) (.P (.I .i64) (.I .i64)))))))]) (.sq none .d (.bl (.lp [.kt 1,.ot 3 (.P (.I .i64) (.P (.P .S (.P (.P (.I .i64) (.L .Y)) (.P (.P (.I
 .i64) (.L .Y)) (.P (.I .i64) .B)))) (.P .S (.P (.I .i64) (.P (.I .i64) (.P (.I .i64) (.I .i64))))))),.kt 13,.kt 14,.lt 15 (.I .i64)] .d))) (.sq (some [.ot 3 (.P (.I .i64) (.P
 (.P .S (.P (.P (.I .i64) (.L .Y)) (.P (.P (.I .i64) (.L .Y)) (.P (.I .i64) .B)))) (.P .S (.P (.I .i64) (.P (.I .i64) (.P (.I .i64) (.I .i64)))))))]) (.sq none .d (.bl (.lp [.ot 3
 (.P (.I .i64) (.P (.P .S (.P (.P (.I .i64) (.L .Y)) (.P (.P (.I .i64) (.L .Y)) (.P (.I .i64) .B)))) (.P .S (.P (.I .i64) (.P (.I .i64) (.P (.I .i64) (.I .i64))))))),.kt 27,.kt
 28,.lt 29 (.I .i64)] .d))) .d))))
theorem h_i_RecsOf (x:(List ((List UInt8)×(Int×List UInt8)×(Int×List UInt8)×Int×Bool))×Int×List (Int×Int×Int)):fnX (P:=Tryz.prog) [.see e_i_copyRow] [(11,
 .el (.P (.I .i64) (.P (.P .S (.P (.P (.I .i64) (.L .Y)) (.P (.P (.I .i64) (.L .Y)) (.P (.I .i64) .B)))) (.P .S (.P (.I .i64) (.P (.I .i64) (.P (.I .i64) (.I .i64)))))))),(23,
 .el (.P (.I .i64) (.P (.P .S (.P (.P (.I .i64) (.L .Y)) (.P (.P (.I .i64) (.L .Y)) (.P (.I .i64) .B)))) (.P .S (.P (.I .i64) (.P (.I .i64) (.P (.I .i64) (.I .i64)))))))),(24,
 .el (.P (.I .i64) (.P (.P .S (.P (.P (.I .i64) (.L .Y)) (.P (.P (.I .i64) (.L .Y)) (.P (.I .i64) .B)))) (.P .S (.P (.I .i64) (.P (.I .i64) (.P (.I .i64) (.I .i64)))))))),(41,
 .el (.P (.I .i64) (.P (.P .S (.P (.P (.I .i64) (.L .Y)) (.P (.P (.I .i64) (.L .Y)) (.P (.I .i64) .B)))) (.P .S (.P (.I .i64) (.P (.I .i64) (.P (.I .i64) (.I .i64)))))))),(42,
 .el (.P (.I .i64) (.P (.P .S (.P (.P (.I .i64) (.L .Y)) (.P (.P (.I .i64) (.L .Y)) (.P (.I .i64) .B)))) (.P .S (.P (.I .i64) (.P (.I .i64) (.P (.I .i64) (.I .i64))))))))] (sOf
 Tryz.prog Tryz.f20) a_i_RecsOf (iOf Tryz.prog Tryz.f20) [(true,.P (.L (.P .S (.P (.P (.I .i64) (.L .Y)) (.P (.P (.I .i64) (.L .Y)) (.P (.I .i64) .B))))) (.P (.I .i64) (.L (.P
 (.I .i64) (.P (.I .i64) (.I .i64))))))] [(false,.L (.P (.I .i64) (.P (.P .S (.P (.P (.I .i64) (.L .Y)) (.P (.P (.I .i64) (.L .Y)) (.P (.I .i64) .B)))) (.P .S (.P (.I .i64) (.P
 (.I .i64) (.P (.I .i64) (.I .i64))))))))] x=Zdc x:=by kernel_rfl
noncomputable def e_i_RecsOf:SEnt Tryz.prog:=⟨20,[(true,.P (.L (.P .S (.P (.P (.I .i64) (.L .Y)) (.P (.P (.I .i64) (.L .Y)) (.P (.I .i64) .B))))) (.P (.I .i64) (.L (.P (.I
 .i64) (.P (.I .i64) (.I .i64))))))],[(false,.L (.P (.I .i64) (.P (.P .S (.P (.P (.I .i64) (.L .Y)) (.P (.P (.I .i64) (.L .Y)) (.P (.I .i64) .B)))) (.P .S (.P (.I .i64) (.P (.I
 .i64) (.P (.I .i64) (.I .i64))))))))],Zdc,runs_see mixed_Pl Tryz.func20 (by kernel_rfl) h_i_RecsOf⟩
noncomputable def a_i_sectorOf:An:=.d
theorem h_i_sectorOf (x:Int×Int):fnX (P:=Tryz.prog) [] [] (sOf Tryz.prog Tryz.f54) a_i_sectorOf (iOf Tryz.prog Tryz.f54) [(false,.I .i64),(false,.I .i64)] [(false,.I
 .i64)] x=Zbm x:=by kernel_rfl
noncomputable def e_i_sectorOf:SEnt Tryz.prog:=⟨54,[(false,.I .i64),(false,.I .i64)],[(false,.I .i64)],Zbm,runs_see mixed_Pl Tryz.func54 (by kernel_rfl)
 h_i_sectorOf⟩
noncomputable def a_i_sameRow:An:=.d
theorem h_i_sameRow (x:((List UInt8)×(Int×List UInt8)×(Int×List UInt8)×Int×Bool)×(List UInt8)×(Int×List UInt8)×(Int×List UInt8)×Int×Bool):fnX (P :=
 Tryz.prog) [.see e_i_sameCell] [] (sOf Tryz.prog Tryz.f123) a_i_sameRow (iOf Tryz.prog Tryz.f123) [(true,.P .S (.P (.P (.I .i64) (.L .Y)) (.P (.P (.I .i64) (.L .Y)) (.P (.I
 .i64) .B)))),(true,.P .S (.P (.P (.I .i64) (.L .Y)) (.P (.P (.I .i64) (.L .Y)) (.P (.I .i64) .B))))] [(false,.B)] x=Zfa x:=by kernel_rfl
noncomputable def e_i_sameRow:SEnt Tryz.prog:=⟨123,[(true,.P .S (.P (.P (.I .i64) (.L .Y)) (.P (.P (.I .i64) (.L .Y)) (.P (.I .i64) .B)))),(true,.P .S (.P (.P (.I .i64) (.L
 .Y)) (.P (.P (.I .i64) (.L .Y)) (.P (.I .i64) .B))))],[(false,.B)],Zfa,runs_see mixed_Pl Tryz.func123 (by kernel_rfl) h_i_sameRow⟩
noncomputable def a_i_RecOk:An:=(.sq none .d (.sq none .d (.sq none .d (.sq (some [.kt 1,.lt 5 .B]) .d .d))))
theorem h_i_RecOk (x:Int×((List UInt8)×(Int×List UInt8)×(Int×List UInt8)×Int×Bool)×(List UInt8)×Int×Int×Int×Int):fnX (P:=Tryz.prog) [.see e_i_sameRow,
 .see e_i_RowOk,.see e_i_NameOk,.see e_i_within,.see e_i_isWord] [] (sOf Tryz.prog Tryz.f92) a_i_RecOk (iOf Tryz.prog Tryz.f92) [(true,.P (.I .i64) (.P (.P .S (.P (.P (.I
 .i64) (.L .Y)) (.P (.P (.I .i64) (.L .Y)) (.P (.I .i64) .B)))) (.P .S (.P (.I .i64) (.P (.I .i64) (.P (.I .i64) (.I .i64)))))))] [(false,.B)] x=Zdd x:=by kernel_rfl
noncomputable def e_i_RecOk:SEnt Tryz.prog:=⟨92,[(true,.P (.I .i64) (.P (.P .S (.P (.P (.I .i64) (.L .Y)) (.P (.P (.I .i64) (.L .Y)) (.P (.I .i64) .B)))) (.P .S (.P (.I .i64)
 (.P (.I .i64) (.P (.I .i64) (.I .i64)))))))],[(false,.B)],Zdd,runs_see mixed_Pl Tryz.func92 (by kernel_rfl) h_i_RecOk⟩
noncomputable def a_i_PutW:An:=.d
theorem h_i_PutW (x:(List UInt8)×Int):fnX (P:=Tryz.prog) [.see e_i_joined] [(13,.el .Y),(14,.sb)] (sOf Tryz.prog Tryz.f93) a_i_PutW (iOf Tryz.prog Tryz.f93) [(false,.L
 .Y),(false,.I .i64)] [(false,.L .Y)] x=Zg x:=by kernel_rfl
noncomputable def e_i_PutW:SEnt Tryz.prog:=⟨93,[(false,.L .Y),(false,.I .i64)],[(false,.L .Y)],Zg,runs_see mixed_Pl Tryz.func93 (by kernel_rfl) h_i_PutW⟩
noncomputable def a_i_PutText:An:=.d
theorem h_i_PutText (x:(List UInt8)×List UInt8):fnX (P:=Tryz.prog) [.see e_i_joined,.see e_i_PutW] [(9,.sb),(17,.sb)] (sOf Tryz.prog Tryz.f95) a_i_PutText (iOf
 Tryz.prog Tryz.f95) [(false,.L .Y),(false,.S)] [(false,.L .Y)] x=Zn x:=by kernel_rfl
noncomputable def e_i_PutText:SEnt Tryz.prog:=⟨95,[(false,.L .Y),(false,.S)],[(false,.L .Y)],Zn,runs_see mixed_Pl Tryz.func95 (by kernel_rfl) h_i_PutText⟩
end Go.Vs
