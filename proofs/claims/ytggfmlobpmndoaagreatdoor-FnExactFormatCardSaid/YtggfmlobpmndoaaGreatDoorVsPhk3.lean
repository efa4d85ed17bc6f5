import Derived.Test.YtggfmlobpmndoaaGreatDoorProg
import Derived.Test.YtggfmlobpmndoaaGreatDoorVsPhk2
set_option linter.all false
namespace Go.Vs
open Go.Proofs
set_option maxRecDepth 100000
noncomputable def a_s_l13Lay:An:=(.sq none .d (.sq (some [.bx 0 [.K,.O (.P (.I .i64) (.L .Y)),.L (.I .i64),.L .B,.K,.K,.K,.K,.K],.kt 1,.kt 4]) (.sq none .d (.bl (.lp
 [.bx 0 [.K,.O (.P (.I .i64) (.L .Y)),.L (.I .i64),.L .B,.K,.K,.K,.K,.K],.kt 1,.kt 4,.lt 5 (.I .i64)] .d))) .d))
theorem h_s_l13Lay (x:(((List (List UInt8))×(List (Int×List UInt8))×Int×Bool)×((List ((List UInt8)×(Int×List UInt8)×(Int×List UInt8)×Int×Bool))×Int×List
 (Int×Int×Int))×Int×Int)×Int):fnG (P:=Tryz.prog) [.see e_s_RecsOf,.see e_s_l13At,.see e_s_PutRec,.gen e_s_l10Write,.gen e_s_l10Flush,.see e_s_HeadOf] [] (sOf
 Tryz.prog Tryz.f140) a_s_l13Lay (iOf Tryz.prog Tryz.f140) [⟨true,false,.P (.P (.L (.L .Y)) (.P (.L (.P (.I .i64) (.L .Y))) (.P (.I .i64) .B))) (.P (.P (.L (.P .S (.P (.P (.I
 .i64) (.L .Y)) (.P (.P (.I .i64) (.L .Y)) (.P (.I .i64) .B))))) (.P (.I .i64) (.L (.P (.I .i64) (.P (.I .i64) (.I .i64)))))) (.P (.I .i64) (.I .i64))),[.ow,.ow,.rd,.rd,.rx,
 .rd,.rx,.rd,.rd],(some (.P (.L (.L .Y)) (.P (.L (.P (.I .i64) (.L .Y))) (.P (.I .i64) (.P .B (.P (.I .i64) (.P (.I .i64) (.I .i64))))))))⟩,⟨false,false,.I .i64,[.rd],
 none⟩] [] x=F_s_l13Lay x:=by kernel_rfl
noncomputable def e_s_l13Lay:GEnt Tryz.prog:=⟨140,[⟨true,false,.P (.P (.L (.L .Y)) (.P (.L (.P (.I .i64) (.L .Y))) (.P (.I .i64) .B))) (.P (.P (.L (.P .S (.P (.P (.I .i64)
 (.L .Y)) (.P (.P (.I .i64) (.L .Y)) (.P (.I .i64) .B))))) (.P (.I .i64) (.L (.P (.I .i64) (.P (.I .i64) (.I .i64)))))) (.P (.I .i64) (.I .i64))),[.ow,.ow,.rd,.rd,.rx,.rd,
 .rx,.rd,.rd],(some (.P (.L (.L .Y)) (.P (.L (.P (.I .i64) (.L .Y))) (.P (.I .i64) (.P .B (.P (.I .i64) (.P (.I .i64) (.I .i64))))))))⟩,⟨false,false,.I .i64,[.rd],none⟩],
 [],F_s_l13Lay,runs_gen mixed_Ph Tryz.func140 (by kernel_rfl) h_s_l13Lay⟩
noncomputable def a_s_Format:An:=.d
theorem h_s_Format (x:Unit):fnX (P:=Tryz.prog) [.see e_s_DevNew,.gen e_s_l13Lay] [] (sOf Tryz.prog Tryz.f54) a_s_Format (iOf Tryz.prog Tryz.f54) [] [(true,.P (.P (.L (.L
 .Y)) (.P (.L (.P (.I .i64) (.L .Y))) (.P (.I .i64) .B))) (.P (.P (.L (.P .S (.P (.P (.I .i64) (.L .Y)) (.P (.P (.I .i64) (.L .Y)) (.P (.I .i64) .B))))) (.P (.I .i64) (.L (.P (.I
 .i64) (.P (.I .i64) (.I .i64)))))) (.P (.I .i64) (.I .i64))))] x=F_s_Format x:=by kernel_rfl
noncomputable def e_s_Format:SEnt Tryz.prog:=⟨54,[],[(true,.P (.P (.L (.L .Y)) (.P (.L (.P (.I .i64) (.L .Y))) (.P (.I .i64) .B))) (.P (.P (.L (.P .S (.P (.P (.I .i64) (.L
 .Y)) (.P (.P (.I .i64) (.L .Y)) (.P (.I .i64) .B))))) (.P (.I .i64) (.L (.P (.I .i64) (.P (.I .i64) (.I .i64)))))) (.P (.I .i64) (.I .i64))))],F_s_Format,runs_see mixed_Ph
 Tryz.func54 (by kernel_rfl) h_s_Format⟩
noncomputable def a_i_joined:An:=(.sq none .d (.sq none .d (.sq (some [.ot 3 .Y]) (.sq none .d (.bl (.lp [.ot 3 .Y,.kt 7,.kt 8,.lt 9 (.I .i64)] .d))) .d)))
theorem h_i_joined (x:List (List UInt8)):fnX (P:=Tryz.prog) [] [(6,.el .Y),(15,.el .Y)] (sOf Tryz.prog Tryz.f82) a_i_joined (iOf Tryz.prog Tryz.f82) [(false,.L (.L .Y))]
 [(false,.L .Y)] x=F_i_joined x:=by kernel_rfl
noncomputable def e_i_joined:SEnt Tryz.prog:=⟨82,[(false,.L (.L .Y))],[(false,.L .Y)],F_i_joined,runs_see mixed_Ph Tryz.func82 (by kernel_rfl) h_i_joined⟩
noncomputable def a_i_copyCell:An:=.d
theorem h_i_copyCell (x:Int×List UInt8):fnX (P:=Tryz.prog) [.see e_i_joined] [(7,.sb)] (sOf Tryz.prog Tryz.f180) a_i_copyCell (iOf Tryz.prog Tryz.f180) [(true,.P (.I
 .i64) (.L .Y))] [(true,.P (.I .i64) (.L .Y))] x=F_i_copyCell x:=by kernel_rfl
noncomputable def e_i_copyCell:SEnt Tryz.prog:=⟨180,[(true,.P (.I .i64) (.L .Y))],[(true,.P (.I .i64) (.L .Y))],F_i_copyCell,runs_see mixed_Ph Tryz.func180 (by
 kernel_rfl) h_i_copyCell⟩
noncomputable def a_i_copyRow:An:=.d
theorem h_i_copyRow (x:(List UInt8)×(Int×List UInt8)×(Int×List UInt8)×Int×Bool):fnX (P:=Tryz.prog) [.see e_i_copyCell] [] (sOf Tryz.prog Tryz.f97) a_i_copyRow
 (iOf Tryz.prog Tryz.f97) [(true,.P .S (.P (.P (.I .i64) (.L .Y)) (.P (.P (.I .i64) (.L .Y)) (.P (.I .i64) .B))))] [(true,.P .S (.P (.P (.I .i64) (.L .Y)) (.P (.P (.I .i64) (.L
 .Y)) (.P (.I .i64) .B))))] x=F_i_copyRow x:=by kernel_rfl
noncomputable def e_i_copyRow:SEnt Tryz.prog:=⟨97,[(true,.P .S (.P (.P (.I .i64) (.L .Y)) (.P (.P (.I .i64) (.L .Y)) (.P (.I .i64) .B))))],[(true,.P .S (.P (.P (.I .i64)
 (.L .Y)) (.P (.P (.I .i64) (.L .Y)) (.P (.I .i64) .B))))],F_i_copyRow,runs_see mixed_Ph Tryz.func97 (by kernel_rfl) h_i_copyRow⟩
noncomputable def a_i_RecsOf:An:=(.sq none .d (.sq none .d (.sq (some [.kt 1,.ot 3 (.P (.I .i64) (.P (.P .S (.P (.P (.I .i64) (.L .Y)) (.P (.P (.I .i64) (.L .Y)) (.P (.I .i64)
 .B)))) (.P .S (.P (.I .i64) (.P (.I .i64) (.P (.I .i64) (.I .i64)))))))]) (.sq none .d (.bl (.lp [.kt 1,.ot 3 (.P (.I .i64) (.P (.P .S (.P (.P (.I .i64) (.L .Y)) (.P (.P (.I
 .i64) (.L .Y)) (.P (.I .i64) .B)))) (.P .S (.P (.I .i64) (.P (.I .i64) (.P (.I .i64) (.I .i64))))))),.kt 13,.kt 14,.lt 15 (.I .i64)] .d))) (.sq (some [.ot 3 (.P (.I .i64) (.P
 (.P .S (.P (.P (.I .i64) (.L .Y)) (.P (.P (.I .i64) (.L .Y)) (.P (.I .i64) .B)))) (.P .S (.P (.I .i64) (.P (.I .i64) (.P (.I .i64) (.I .i64)))))))]) (.sq none .d (.bl (.lp [.ot 3
 (.P (.I .i64) (.P (.P .S (.P (.P (.I .i64) (.L .Y)) (.P (.P (.I .i64) (.L .Y)) (.P (.I .i64) .B)))) (.P .S (.P (.I .i64) (.P (.I .i64) (.P (.I .i64) (.I .i64))))))),.kt 27,.kt
 28,.lt 29 (.I .i64)] .d))) .d))))
theorem h_i_RecsOf (x:(List ((List UInt8)×(Int×List UInt8)×(Int×List UInt8)×Int×Bool))×Int×List (Int×Int×Int)):fnX (P:=Tryz.prog) [.see e_i_copyRow] [(11,
 .el (.P (.I .i64) (.P (.P .S (.P (.P (.I .i64) (.L .Y)) (.P (.P (.I .i64) (.L .Y)) (.P (.I .i64) .B)))) (.P .S (.P (.I .i64) (.P (.I .i64) (.P (.I .i64) (.I .i64)))))))),(23,
 .el (.P (.I .i64) (.P (.P .S (.P (.P (.I .i64) (.L .Y)) (.P (.P (.I .i64) (.L .Y)) (.P (.I .i64) .B)))) (.P .S (.P (.I .i64) (.P (.I .i64) (.P (.I .i64) (.I .i64)))))))),(24,
 .el (.P (.I .i64) (.P (.P .S (.P (.P (.I .i64) (.L .Y)) (.P (.P (.I .i64) (.L .Y)) (.P (.I .i64) .B)))) (.P .S (.P (.I .i64) (.P (.I .i64) (.P (.I .i64) (.I .i64)))))))),(41,
 .el (.P (.I .i64) (.P (.P .S (.P (.P (.I .i64) (.L .Y)) (.P (.P (.I .i64) (.L .Y)) (.P (.I .i64) .B)))) (.P .S (.P (.I .i64) (.P (.I .i64) (.P (.I .i64) (.I .i64)))))))),(42,
 .el (.P (.I .i64) (.P (.P .S (.P (.P (.I .i64) (.L .Y)) (.P (.P (.I .i64) (.L .Y)) (.P (.I .i64) .B)))) (.P .S (.P (.I .i64) (.P (.I .i64) (.P (.I .i64) (.I .i64))))))))] (sOf
 Tryz.prog Tryz.f42) a_i_RecsOf (iOf Tryz.prog Tryz.f42) [(true,.P (.L (.P .S (.P (.P (.I .i64) (.L .Y)) (.P (.P (.I .i64) (.L .Y)) (.P (.I .i64) .B))))) (.P (.I .i64) (.L (.P
 (.I .i64) (.P (.I .i64) (.I .i64))))))] [(false,.L (.P (.I .i64) (.P (.P .S (.P (.P (.I .i64) (.L .Y)) (.P (.P (.I .i64) (.L .Y)) (.P (.I .i64) .B)))) (.P .S (.P (.I .i64) (.P
 (.I .i64) (.P (.I .i64) (.I .i64))))))))] x=F_i_RecsOf x:=by kernel_rfl
noncomputable def e_i_RecsOf:SEnt Tryz.prog:=⟨42,[(true,.P (.L (.P .S (.P (.P (.I .i64) (.L .Y)) (.P (.P (.I .i64) (.L .Y)) (.P (.I .i64) .B))))) (.P (.I .i64) (.L (.P (.I
 .i64) (.P (.I .i64) (.I .i64))))))],[(false,.L (.P (.I .i64) (.P (.P .S (.P (.P (.I .i64) (.L .Y)) (.P (.P (.I .i64) (.L .Y)) (.P (.I .i64) .B)))) (.P .S (.P (.I .i64) (.P (.I
 .i64) (.P (.I .i64) (.I .i64))))))))],F_i_RecsOf,runs_see mixed_Ph Tryz.func42 (by kernel_rfl) h_i_RecsOf⟩
noncomputable def a_i_within:An:=.d
theorem h_i_within (x:Int×Int×Int):fnX (P:=Tryz.prog) [] [] (sOf Tryz.prog Tryz.f92) a_i_within (iOf Tryz.prog Tryz.f92) [(false,.I .i64),(false,.I .i64),(false,.I
 .i64)] [(false,.B)] x=F_i_within x:=by kernel_rfl
noncomputable def e_i_within:SEnt Tryz.prog:=⟨92,[(false,.I .i64),(false,.I .i64),(false,.I .i64)],[(false,.B)],F_i_within,runs_see mixed_Ph Tryz.func92 (by
 kernel_rfl) h_i_within⟩
noncomputable def a_i_DevNew:An:=.d
theorem h_i_DevNew (x:Int):fnX (P:=Tryz.prog) [.see e_i_within] [(8,.el (.L .Y))] (sOf Tryz.prog Tryz.f142) a_i_DevNew (iOf Tryz.prog Tryz.f142) [(false,.I .i64)] [(true,
 .P (.L (.L .Y)) (.P (.L (.P (.I .i64) (.L .Y))) (.P (.I .i64) .B)))] x=F_i_DevNew x:=by kernel_rfl
noncomputable def e_i_DevNew:SEnt Tryz.prog:=⟨142,[(false,.I .i64)],[(true,.P (.L (.L .Y)) (.P (.L (.P (.I .i64) (.L .Y))) (.P (.I .i64) .B)))],F_i_DevNew,runs_see
 mixed_Ph Tryz.func142 (by kernel_rfl) h_i_DevNew⟩
noncomputable def a_i_sectorOf:An:=.d
theorem h_i_sectorOf (x:Int×Int):fnX (P:=Tryz.prog) [] [] (sOf Tryz.prog Tryz.f200) a_i_sectorOf (iOf Tryz.prog Tryz.f200) [(false,.I .i64),(false,.I .i64)] [(false,.I
 .i64)] x=F_i_sectorOf x:=by kernel_rfl
noncomputable def e_i_sectorOf:SEnt Tryz.prog:=⟨200,[(false,.I .i64),(false,.I .i64)],[(false,.I .i64)],F_i_sectorOf,runs_see mixed_Ph Tryz.func200 (by kernel_rfl)
 h_i_sectorOf⟩
noncomputable def a_i_sameCell:An:=.d
theorem h_i_sameCell (x:(Int×List UInt8)×Int×List UInt8):fnX (P:=Tryz.prog) [] [] (sOf Tryz.prog Tryz.f94) a_i_sameCell (iOf Tryz.prog Tryz.f94) [(true,.P (.I .i64)
 (.L .Y)),(true,.P (.I .i64) (.L .Y))] [(false,.B)] x=F_i_sameCell x:=by kernel_rfl
noncomputable def e_i_sameCell:SEnt Tryz.prog:=⟨94,[(true,.P (.I .i64) (.L .Y)),(true,.P (.I .i64) (.L .Y))],[(false,.B)],F_i_sameCell,runs_see mixed_Ph Tryz.func94 (by
 kernel_rfl) h_i_sameCell⟩
noncomputable def a_i_sameRow:An:=.d
theorem h_i_sameRow (x:((List UInt8)×(Int×List UInt8)×(Int×List UInt8)×Int×Bool)×(List UInt8)×(Int×List UInt8)×(Int×List UInt8)×Int×Bool):fnX (P :=
 Tryz.prog) [.see e_i_sameCell] [] (sOf Tryz.prog Tryz.f122) a_i_sameRow (iOf Tryz.prog Tryz.f122) [(true,.P .S (.P (.P (.I .i64) (.L .Y)) (.P (.P (.I .i64) (.L .Y)) (.P (.I
 .i64) .B)))),(true,.P .S (.P (.P (.I .i64) (.L .Y)) (.P (.P (.I .i64) (.L .Y)) (.P (.I .i64) .B))))] [(false,.B)] x=F_i_sameRow x:=by kernel_rfl
noncomputable def e_i_sameRow:SEnt Tryz.prog:=⟨122,[(true,.P .S (.P (.P (.I .i64) (.L .Y)) (.P (.P (.I .i64) (.L .Y)) (.P (.I .i64) .B)))),(true,.P .S (.P (.P (.I .i64) (.L
 .Y)) (.P (.P (.I .i64) (.L .Y)) (.P (.I .i64) .B))))],[(false,.B)],F_i_sameRow,runs_see mixed_Ph Tryz.func122 (by kernel_rfl) h_i_sameRow⟩
noncomputable def a_i_NameOk:An:=(.sq none .d (.sq (some [.kt 0]) (.sq none .d (.bl (.lp [.kt 0,.lt 3 (.I .i64)] .d))) .d))
theorem h_i_NameOk (x:List UInt8):fnX (P:=Tryz.prog) [.see e_i_within] [] (sOf Tryz.prog Tryz.f91) a_i_NameOk (iOf Tryz.prog Tryz.f91) [(false,.S)] [(false,.B)] x =
 F_i_NameOk x:=by kernel_rfl
noncomputable def e_i_NameOk:SEnt Tryz.prog:=⟨91,[(false,.S)],[(false,.B)],F_i_NameOk,runs_see mixed_Ph Tryz.func91 (by kernel_rfl) h_i_NameOk⟩
noncomputable def a_i_isSet:An:=.d
theorem h_i_isSet (x:Int):fnX (P:=Tryz.prog) [.see e_i_within] [] (sOf Tryz.prog Tryz.f179) a_i_isSet (iOf Tryz.prog Tryz.f179) [(false,.I .i64)] [(false,.B)] x=F_i_isSet
 x:=by kernel_rfl
noncomputable def e_i_isSet:SEnt Tryz.prog:=⟨179,[(false,.I .i64)],[(false,.B)],F_i_isSet,runs_see mixed_Ph Tryz.func179 (by kernel_rfl) h_i_isSet⟩
noncomputable def a_i_CellOk:An:=.d
theorem h_i_CellOk (x:Int×List UInt8):fnX (P:=Tryz.prog) [.see e_i_isSet] [] (sOf Tryz.prog Tryz.f95) a_i_CellOk (iOf Tryz.prog Tryz.f95) [(true,.P (.I .i64) (.L .Y))]
 [(false,.B)] x=F_i_CellOk x:=by kernel_rfl
noncomputable def e_i_CellOk:SEnt Tryz.prog:=⟨95,[(true,.P (.I .i64) (.L .Y))],[(false,.B)],F_i_CellOk,runs_see mixed_Ph Tryz.func95 (by kernel_rfl) h_i_CellOk⟩
end Go.Vs
