import Derived.Test.YtggfmlobpmndoaaGreatDoorProg
import Derived.Test.YtggfmlobpmndoaaGreatDoorVsPhk5
set_option linter.all false
namespace Go.Vs
open Go.Proofs
set_option maxRecDepth 100000
noncomputable def a_i_burn:An:=(.sq none .d (.sq none .d (.sq (some [.bx 1 [.K,.K,.L (.I .i64),.K],.kt 2]) .d .d)))
theorem h_i_burn (x:(List (List UInt8))×(List (Int×List UInt8))×Int×Bool):fnG (P:=Tryz.prog) [] [] (sOf Tryz.prog Tryz.f231) a_i_burn (iOf Tryz.prog Tryz.f231)
 [⟨false,true,.P (.L (.L .Y)) (.P (.L (.P (.I .i64) (.L .Y))) (.P (.I .i64) .B)),[.ow,.ow,.rd,.rd],none⟩] [(true,.P (.L (.L .Y)) (.P (.L (.P (.I .i64) (.L .Y))) (.P (.I
 .i64) .B))),(false,.B)] x=F_i_burn x:=by kernel_rfl
noncomputable def e_i_burn:GEnt Tryz.prog:=⟨231,[⟨false,true,.P (.L (.L .Y)) (.P (.L (.P (.I .i64) (.L .Y))) (.P (.I .i64) .B)),[.ow,.ow,.rd,.rd],none⟩],[(true,.P (.L
 (.L .Y)) (.P (.L (.P (.I .i64) (.L .Y))) (.P (.I .i64) .B))),(false,.B)],F_i_burn,runs_gen mixed_Ph Tryz.func231 (by kernel_rfl) h_i_burn⟩
noncomputable def a_i_WriteSec:An:=(.sq none .d (.sq none .d (.sq none .d (.sq none .d (.sq (some [.kt 6,.bx 7 [.K,.O (.P (.I .i64) (.L .Y)),.K,.K]]) .d .d)))))
theorem h_i_WriteSec (x:((List (List UInt8))×(List (Int×List UInt8))×Int×Bool)×Int×List UInt8):fnX (P:=Tryz.prog) [.see e_i_copyDev,.see e_i_DevOk,.see
 e_i_within,.gen e_i_burn,.see e_i_joined] [(49,.sb),(52,.el (.P (.I .i64) (.L .Y))),(53,.el (.P (.I .i64) (.L .Y)))] (sOf Tryz.prog Tryz.f199) a_i_WriteSec (iOf Tryz.prog
 Tryz.f199) [(true,.P (.L (.L .Y)) (.P (.L (.P (.I .i64) (.L .Y))) (.P (.I .i64) .B))),(false,.I .i64),(false,.L .Y)] [(true,.P (.L (.L .Y)) (.P (.L (.P (.I .i64) (.L .Y)))
 (.P (.I .i64) .B)))] x=F_i_WriteSec x:=by kernel_rfl
noncomputable def e_i_WriteSec:SEnt Tryz.prog:=⟨199,[(true,.P (.L (.L .Y)) (.P (.L (.P (.I .i64) (.L .Y))) (.P (.I .i64) .B))),(false,.I .i64),(false,.L .Y)],[(true,.P
 (.L (.L .Y)) (.P (.L (.P (.I .i64) (.L .Y))) (.P (.I .i64) .B)))],F_i_WriteSec,runs_see mixed_Ph Tryz.func199 (by kernel_rfl) h_i_WriteSec⟩
noncomputable def a_i_FlushDev:An:=(.sq none .d (.sq none .d (.sq none .d (.sq none .d (.sq none .d (.sq (some [.kt 2,.bx 3 [.O (.L .Y),.K,.K,.K]]) (.sq none .d (.bl (.lp
 [.kt 2,.bx 3 [.O (.L .Y),.K,.K,.K],.kt 26,.kt 27,.lt 28 (.I .i64)] .d))) .d))))))
theorem h_i_FlushDev (x:(List (List UInt8))×(List (Int×List UInt8))×Int×Bool):fnX (P:=Tryz.prog) [.see e_i_copyDev,.see e_i_DevOk,.gen e_i_burn,.see e_i_joined]
 [(38,.sb)] (sOf Tryz.prog Tryz.f201) a_i_FlushDev (iOf Tryz.prog Tryz.f201) [(true,.P (.L (.L .Y)) (.P (.L (.P (.I .i64) (.L .Y))) (.P (.I .i64) .B)))] [(true,.P (.L (.L .Y))
 (.P (.L (.P (.I .i64) (.L .Y))) (.P (.I .i64) .B)))] x=F_i_FlushDev x:=by kernel_rfl
noncomputable def e_i_FlushDev:SEnt Tryz.prog:=⟨201,[(true,.P (.L (.L .Y)) (.P (.L (.P (.I .i64) (.L .Y))) (.P (.I .i64) .B)))],[(true,.P (.L (.L .Y)) (.P (.L (.P (.I .i64)
 (.L .Y))) (.P (.I .i64) .B)))],F_i_FlushDev,runs_see mixed_Ph Tryz.func201 (by kernel_rfl) h_i_FlushDev⟩
noncomputable def a_i_HeadOf:An:=.d
theorem h_i_HeadOf (x:Int×Int):fnX (P:=Tryz.prog) [.see e_i_within,.see e_i_PutW,.see e_i_Sum] [] (sOf Tryz.prog Tryz.f202) a_i_HeadOf (iOf Tryz.prog Tryz.f202) [(false,
 .I .i64),(false,.I .i64)] [(false,.L .Y)] x=F_i_HeadOf x:=by kernel_rfl
noncomputable def e_i_HeadOf:SEnt Tryz.prog:=⟨202,[(false,.I .i64),(false,.I .i64)],[(false,.L .Y)],F_i_HeadOf,runs_see mixed_Ph Tryz.func202 (by kernel_rfl)
 h_i_HeadOf⟩
noncomputable def a_i_laid:An:=(.sq none .d (.sq (some [.kt 1,.kt 2,.bx 3 [.O (.L .Y),.O (.P (.I .i64) (.L .Y)),.L (.I .i64),.L .B],.kt 6]) (.sq none .d (.bl (.lp [.kt 1,
 .kt 2,.bx 3 [.O (.L .Y),.O (.P (.I .i64) (.L .Y)),.L (.I .i64),.L .B],.kt 6,.kt 9,.kt 10,.lt 11 (.I .i64)] .d))) .d))
theorem h_i_laid (x:((List (List UInt8))×(List (Int×List UInt8))×Int×Bool)×Int×List (Int×((List UInt8)×(Int×List UInt8)×(Int×List UInt8)×Int×Bool) ×
 (List UInt8)×Int×Int×Int×Int)):fnG (P:=Tryz.prog) [.see e_i_sectorOf,.see e_i_PutRec,.see e_i_WriteSec,.see e_i_FlushDev,.see e_i_HeadOf] [] (sOf Tryz.prog
 Tryz.f141) a_i_laid (iOf Tryz.prog Tryz.f141) [⟨false,true,.P (.L (.L .Y)) (.P (.L (.P (.I .i64) (.L .Y))) (.P (.I .i64) .B)),[.ow,.ow,.rd,.rd],none⟩,⟨false,false,.I
 .i64,[.rd],none⟩,⟨false,false,.L (.P (.I .i64) (.P (.P .S (.P (.P (.I .i64) (.L .Y)) (.P (.P (.I .i64) (.L .Y)) (.P (.I .i64) .B)))) (.P .S (.P (.I .i64) (.P (.I .i64) (.P
 (.I .i64) (.I .i64))))))),[.rd],none⟩] [(true,.P (.L (.L .Y)) (.P (.L (.P (.I .i64) (.L .Y))) (.P (.I .i64) .B)))] x=F_i_laid x:=by kernel_rfl
noncomputable def e_i_laid:GEnt Tryz.prog:=⟨141,[⟨false,true,.P (.L (.L .Y)) (.P (.L (.P (.I .i64) (.L .Y))) (.P (.I .i64) .B)),[.ow,.ow,.rd,.rd],none⟩,⟨false,false,
 .I .i64,[.rd],none⟩,⟨false,false,.L (.P (.I .i64) (.P (.P .S (.P (.P (.I .i64) (.L .Y)) (.P (.P (.I .i64) (.L .Y)) (.P (.I .i64) .B)))) (.P .S (.P (.I .i64) (.P (.I .i64)
 (.P (.I .i64) (.I .i64))))))),[.rd],none⟩],[(true,.P (.L (.L .Y)) (.P (.L (.P (.I .i64) (.L .Y))) (.P (.I .i64) .B)))],F_i_laid,runs_gen mixed_Ph Tryz.func141 (by
 kernel_rfl) h_i_laid⟩
noncomputable def a_i_Format:An:=.d
theorem h_i_Format (x:Unit):fnX (P:=Tryz.prog) [.see e_i_RecsOf,.see e_i_DevNew,.gen e_i_laid] [] (sOf Tryz.prog Tryz.f55) a_i_Format (iOf Tryz.prog Tryz.f55) [] [(true,.P
 (.P (.L (.L .Y)) (.P (.L (.P (.I .i64) (.L .Y))) (.P (.I .i64) .B))) (.P (.P (.L (.P .S (.P (.P (.I .i64) (.L .Y)) (.P (.P (.I .i64) (.L .Y)) (.P (.I .i64) .B))))) (.P (.I .i64)
 (.L (.P (.I .i64) (.P (.I .i64) (.I .i64)))))) (.P (.I .i64) (.I .i64))))] x=F_i_Format x:=by kernel_rfl
noncomputable def e_i_Format:SEnt Tryz.prog:=⟨55,[],[(true,.P (.P (.L (.L .Y)) (.P (.L (.P (.I .i64) (.L .Y))) (.P (.I .i64) .B))) (.P (.P (.L (.P .S (.P (.P (.I .i64) (.L
 .Y)) (.P (.P (.I .i64) (.L .Y)) (.P (.I .i64) .B))))) (.P (.I .i64) (.L (.P (.I .i64) (.P (.I .i64) (.I .i64)))))) (.P (.I .i64) (.I .i64))))],F_i_Format,runs_see mixed_Ph
 Tryz.func55 (by kernel_rfl) h_i_Format⟩
noncomputable def a_l_eqByteS:An:=(.sq none .d (.sq none .d (.sq none (.sq none .d (.bl (.lp [.kt 0,.kt 1,.lt 5 (.I .i64)] .d))) .d)))
theorem h_l_eqByteS (x:(List UInt8)×List UInt8):fnX (P:=Tryz.prog) [] [] (sOf Tryz.prog Tryz.f227) a_l_eqByteS (iOf Tryz.prog Tryz.f227) [(false,.L .Y),(false,.L .Y)]
 [(false,.B)] x=F_l_eqByteS x:=by kernel_rfl
noncomputable def e_l_eqByteS:SEnt Tryz.prog:=⟨227,[(false,.L .Y),(false,.L .Y)],[(false,.B)],F_l_eqByteS,runs_see mixed_Ph Tryz.func227 (by kernel_rfl) h_l_eqByteS⟩
noncomputable def a_l_eqByteSS:An:=(.sq none .d (.sq none .d (.sq none (.sq none .d (.bl (.lp [.kt 0,.kt 1,.lt 5 (.I .i64)] .d))) .d)))
theorem h_l_eqByteSS (x:(List (List UInt8))×List (List UInt8)):fnX (P:=Tryz.prog) [.see e_l_eqByteS] [] (sOf Tryz.prog Tryz.f203) a_l_eqByteSS (iOf Tryz.prog Tryz.f203)
 [(false,.L (.L .Y)),(false,.L (.L .Y))] [(false,.B)] x=F_l_eqByteSS x:=by kernel_rfl
noncomputable def e_l_eqByteSS:SEnt Tryz.prog:=⟨203,[(false,.L (.L .Y)),(false,.L (.L .Y))],[(false,.B)],F_l_eqByteSS,runs_see mixed_Ph Tryz.func203 (by kernel_rfl)
 h_l_eqByteSS⟩
noncomputable def a_l_eqWr:An:=.d
theorem h_l_eqWr (x:(Int×List UInt8)×Int×List UInt8):fnX (P:=Tryz.prog) [.see e_l_eqByteS] [] (sOf Tryz.prog Tryz.f232) a_l_eqWr (iOf Tryz.prog Tryz.f232) [(true,.P
 (.I .i64) (.L .Y)),(true,.P (.I .i64) (.L .Y))] [(false,.B)] x=F_l_eqWr x:=by kernel_rfl
noncomputable def e_l_eqWr:SEnt Tryz.prog:=⟨232,[(true,.P (.I .i64) (.L .Y)),(true,.P (.I .i64) (.L .Y))],[(false,.B)],F_l_eqWr,runs_see mixed_Ph Tryz.func232 (by
 kernel_rfl) h_l_eqWr⟩
noncomputable def a_l_eqWrS:An:=(.sq none .d (.sq none .d (.sq none (.sq none .d (.bl (.lp [.kt 0,.kt 1,.lt 5 (.I .i64)] .d))) .d)))
theorem h_l_eqWrS (x:(List (Int×List UInt8))×List (Int×List UInt8)):fnX (P:=Tryz.prog) [.see e_l_eqWr] [] (sOf Tryz.prog Tryz.f204) a_l_eqWrS (iOf Tryz.prog Tryz.f204)
 [(false,.L (.P (.I .i64) (.L .Y))),(false,.L (.P (.I .i64) (.L .Y)))] [(false,.B)] x=F_l_eqWrS x:=by kernel_rfl
noncomputable def e_l_eqWrS:SEnt Tryz.prog:=⟨204,[(false,.L (.P (.I .i64) (.L .Y))),(false,.L (.P (.I .i64) (.L .Y)))],[(false,.B)],F_l_eqWrS,runs_see mixed_Ph
 Tryz.func204 (by kernel_rfl) h_l_eqWrS⟩
noncomputable def a_l_eqDev:An:=.d
theorem h_l_eqDev (x:((List (List UInt8))×(List (Int×List UInt8))×Int×Bool)×(List (List UInt8))×(List (Int×List UInt8))×Int×Bool):fnX (P:=Tryz.prog) [.see
 e_l_eqByteSS,.see e_l_eqWrS] [] (sOf Tryz.prog Tryz.f143) a_l_eqDev (iOf Tryz.prog Tryz.f143) [(true,.P (.L (.L .Y)) (.P (.L (.P (.I .i64) (.L .Y))) (.P (.I .i64) .B))),(true,
 .P (.L (.L .Y)) (.P (.L (.P (.I .i64) (.L .Y))) (.P (.I .i64) .B)))] [(false,.B)] x=F_l_eqDev x:=by kernel_rfl
noncomputable def e_l_eqDev:SEnt Tryz.prog:=⟨143,[(true,.P (.L (.L .Y)) (.P (.L (.P (.I .i64) (.L .Y))) (.P (.I .i64) .B))),(true,.P (.L (.L .Y)) (.P (.L (.P (.I .i64) (.L
 .Y))) (.P (.I .i64) .B)))],[(false,.B)],F_l_eqDev,runs_see mixed_Ph Tryz.func143 (by kernel_rfl) h_l_eqDev⟩
noncomputable def a_l_eqCell:An:=.d
theorem h_l_eqCell (x:(Int×List UInt8)×Int×List UInt8):fnX (P:=Tryz.prog) [.see e_l_eqByteS] [] (sOf Tryz.prog Tryz.f190) a_l_eqCell (iOf Tryz.prog Tryz.f190) [(true,
 .P (.I .i64) (.L .Y)),(true,.P (.I .i64) (.L .Y))] [(false,.B)] x=F_l_eqCell x:=by kernel_rfl
noncomputable def e_l_eqCell:SEnt Tryz.prog:=⟨190,[(true,.P (.I .i64) (.L .Y)),(true,.P (.I .i64) (.L .Y))],[(false,.B)],F_l_eqCell,runs_see mixed_Ph Tryz.func190 (by
 kernel_rfl) h_l_eqCell⟩
noncomputable def a_l_eqRow:An:=.d
theorem h_l_eqRow (x:((List UInt8)×(Int×List UInt8)×(Int×List UInt8)×Int×Bool)×(List UInt8)×(Int×List UInt8)×(Int×List UInt8)×Int×Bool):fnX (P :=
 Tryz.prog) [.see e_l_eqCell] [] (sOf Tryz.prog Tryz.f133) a_l_eqRow (iOf Tryz.prog Tryz.f133) [(true,.P .S (.P (.P (.I .i64) (.L .Y)) (.P (.P (.I .i64) (.L .Y)) (.P (.I .i64)
 .B)))),(true,.P .S (.P (.P (.I .i64) (.L .Y)) (.P (.P (.I .i64) (.L .Y)) (.P (.I .i64) .B))))] [(false,.B)] x=F_l_eqRow x:=by kernel_rfl
noncomputable def e_l_eqRow:SEnt Tryz.prog:=⟨133,[(true,.P .S (.P (.P (.I .i64) (.L .Y)) (.P (.P (.I .i64) (.L .Y)) (.P (.I .i64) .B)))),(true,.P .S (.P (.P (.I .i64) (.L
 .Y)) (.P (.P (.I .i64) (.L .Y)) (.P (.I .i64) .B))))],[(false,.B)],F_l_eqRow,runs_see mixed_Ph Tryz.func133 (by kernel_rfl) h_l_eqRow⟩
noncomputable def a_l_eqRowS:An:=(.sq none .d (.sq none .d (.sq none (.sq none .d (.bl (.lp [.kt 0,.kt 1,.lt 5 (.I .i64)] .d))) .d)))
theorem h_l_eqRowS (x:(List ((List UInt8)×(Int×List UInt8)×(Int×List UInt8)×Int×Bool))×List ((List UInt8)×(Int×List UInt8)×(Int×List UInt8)×Int×Bool)) :
 fnX (P:=Tryz.prog) [.see e_l_eqRow] [] (sOf Tryz.prog Tryz.f131) a_l_eqRowS (iOf Tryz.prog Tryz.f131) [(false,.L (.P .S (.P (.P (.I .i64) (.L .Y)) (.P (.P (.I .i64) (.L .Y))
 (.P (.I .i64) .B))))),(false,.L (.P .S (.P (.P (.I .i64) (.L .Y)) (.P (.P (.I .i64) (.L .Y)) (.P (.I .i64) .B)))))] [(false,.B)] x=F_l_eqRowS x:=by kernel_rfl
noncomputable def e_l_eqRowS:SEnt Tryz.prog:=⟨131,[(false,.L (.P .S (.P (.P (.I .i64) (.L .Y)) (.P (.P (.I .i64) (.L .Y)) (.P (.I .i64) .B))))),(false,.L (.P .S (.P (.P (.I
 .i64) (.L .Y)) (.P (.P (.I .i64) (.L .Y)) (.P (.I .i64) .B)))))],[(false,.B)],F_l_eqRowS,runs_see mixed_Ph Tryz.func131 (by kernel_rfl) h_l_eqRowS⟩
end Go.Vs
