import Derived.Test.YtbbdcgglfmhhpaaGreatDoorProg
import Derived.Test.YtbbdcgglfmhhpaaGreatDoorVsPlk7
set_option linter.all false
namespace Go.Vs
open Go.Proofs
set_option maxRecDepth 100000
noncomputable def a_i_flag:An:=.d
theorem h_i_flag (x:Bool):fnX (P:=Tryz.prog) [] [] (sOf Tryz.prog Tryz.f124) a_i_flag (iOf Tryz.prog Tryz.f124) [(false,.B)] [(false,.Y)] x=Zgj x:=by kernel_rfl
noncomputable def e_i_flag:SEnt Tryz.prog:=⟨124,[(false,.B)],[(false,.Y)],Zgj,runs_see mixed_Pl Tryz.func124 (by kernel_rfl) h_i_flag⟩
noncomputable def a_i_PutRow:An:=(.sq none .d (.sq none .d (.sq none .d (.sq none .d (.sq (some [.kt 3,.ot 5 .Y]) .d (.sq (some [.ot 5 .Y]) .d .d))))))
theorem h_i_PutRow (x:(List UInt8)×(List UInt8)×(Int×List UInt8)×(Int×List UInt8)×Int×Bool):fnX (P:=Tryz.prog) [.see e_i_joined,.see e_i_RowOk,.see
 e_i_PutText,.see e_i_flag] [(7,.sb),(23,.el .Y),(24,.el .Y),(33,.el .Y),(34,.el .Y),(48,.el .Y),(49,.el .Y)] (sOf Tryz.prog Tryz.f94) a_i_PutRow (iOf Tryz.prog
 Tryz.f94) [(false,.L .Y),(true,.P .S (.P (.P (.I .i64) (.L .Y)) (.P (.P (.I .i64) (.L .Y)) (.P (.I .i64) .B))))] [(false,.L .Y)] x=Zbn x:=by kernel_rfl
noncomputable def e_i_PutRow:SEnt Tryz.prog:=⟨94,[(false,.L .Y),(true,.P .S (.P (.P (.I .i64) (.L .Y)) (.P (.P (.I .i64) (.L .Y)) (.P (.I .i64) .B))))],[(false,.L .Y)],
 Zbn,runs_see mixed_Pl Tryz.func94 (by kernel_rfl) h_i_PutRow⟩
noncomputable def a_i_Sum:An:=(.sq none .d (.sq none .d (.sq (some [.lt 3 (.I .i64)]) (.sq none .d (.bl (.lp [.lt 3 (.I .i64),.kt 6,.kt 7,.lt 8 (.I .i64)] (.sq none .d (.sq
 none .d (.sq (some [.lt 3 (.I .i64),.kt 6,.kt 7,.kt 8]) (.bl (.sq none .d (.sq none .d (.sq none .d (.bl (.lp [.lt 3 (.I .i64),.kt 6,.kt 7,.kt 8,.lt 17 (.I .i64)] (.sq
 none .d (.sq none .d (.sq (some [.lt 3 (.I .i64),.kt 6,.kt 7,.kt 8,.kt 17]) .d .d))))))))) .d)))))) .d)))
theorem h_i_Sum (x:List UInt8):fnX (P:=Tryz.prog) [] [] (sOf Tryz.prog Tryz.f96) a_i_Sum (iOf Tryz.prog Tryz.f96) [(false,.L .Y)] [(false,.I .i64)] x=Zbo x:=by
 kernel_rfl
noncomputable def e_i_Sum:SEnt Tryz.prog:=⟨96,[(false,.L .Y)],[(false,.I .i64)],Zbo,runs_see mixed_Pl Tryz.func96 (by kernel_rfl) h_i_Sum⟩
noncomputable def a_i_PutRec:An:=(.sq none .d (.sq none .d (.sq none .d (.sq (some [.kt 5,.ot 7 .Y]) .d .d))))
theorem h_i_PutRec (x:Int×Int×Int×((List UInt8)×(Int×List UInt8)×(Int×List UInt8)×Int×Bool)×(List UInt8)×Int×Int×Int×Int):fnX (P:=Tryz.prog) [.see
 e_i_RecOk,.see e_i_isWord,.see e_i_PutW,.see e_i_PutRow,.see e_i_PutText,.see e_i_Sum] [(28,.el .Y),(29,.el .Y),(50,.el .Y),(51,.el .Y),(59,.el .Y),(60,.el .Y)]
 (sOf Tryz.prog Tryz.f55) a_i_PutRec (iOf Tryz.prog Tryz.f55) [(false,.I .i64),(false,.I .i64),(true,.P (.I .i64) (.P (.P .S (.P (.P (.I .i64) (.L .Y)) (.P (.P (.I .i64) (.L
 .Y)) (.P (.I .i64) .B)))) (.P .S (.P (.I .i64) (.P (.I .i64) (.P (.I .i64) (.I .i64)))))))] [(false,.L .Y)] x=Zbp x:=by kernel_rfl
noncomputable def e_i_PutRec:SEnt Tryz.prog:=⟨55,[(false,.I .i64),(false,.I .i64),(true,.P (.I .i64) (.P (.P .S (.P (.P (.I .i64) (.L .Y)) (.P (.P (.I .i64) (.L .Y)) (.P
 (.I .i64) .B)))) (.P .S (.P (.I .i64) (.P (.I .i64) (.P (.I .i64) (.I .i64)))))))],[(false,.L .Y)],Zbp,runs_see mixed_Pl Tryz.func55 (by kernel_rfl) h_i_PutRec⟩
noncomputable def a_i_burn:An:=(.sq none .d (.sq none .d (.sq (some [.bx 1 [.K,.K,.L (.I .i64),.K],.kt 2]) .d .d)))
theorem h_i_burn (x:(List (List UInt8))×(List (Int×List UInt8))×Int×Bool):fnG (P:=Tryz.prog) [] [] (sOf Tryz.prog Tryz.f91) a_i_burn (iOf Tryz.prog Tryz.f91) [⟨false,
 true,.P (.L (.L .Y)) (.P (.L (.P (.I .i64) (.L .Y))) (.P (.I .i64) .B)),[.ow,.ow,.rd,.rd],none⟩] [(true,.P (.L (.L .Y)) (.P (.L (.P (.I .i64) (.L .Y))) (.P (.I .i64)
 .B))),(false,.B)] x=Zde x:=by kernel_rfl
noncomputable def e_i_burn:GEnt Tryz.prog:=⟨91,[⟨false,true,.P (.L (.L .Y)) (.P (.L (.P (.I .i64) (.L .Y))) (.P (.I .i64) .B)),[.ow,.ow,.rd,.rd],none⟩],[(true,.P (.L
 (.L .Y)) (.P (.L (.P (.I .i64) (.L .Y))) (.P (.I .i64) .B))),(false,.B)],Zde,runs_gen mixed_Pl Tryz.func91 (by kernel_rfl) h_i_burn⟩
noncomputable def a_i_WriteSec:An:=(.sq none .d (.sq none .d (.sq none .d (.sq none .d (.sq (some [.kt 6,.bx 7 [.K,.O (.P (.I .i64) (.L .Y)),.K,.K]]) .d .d)))))
theorem h_i_WriteSec (x:((List (List UInt8))×(List (Int×List UInt8))×Int×Bool)×Int×List UInt8):fnX (P:=Tryz.prog) [.see e_i_copyDev,.see e_i_DevOk,.see
 e_i_within,.gen e_i_burn,.see e_i_joined] [(49,.sb),(52,.el (.P (.I .i64) (.L .Y))),(53,.el (.P (.I .i64) (.L .Y)))] (sOf Tryz.prog Tryz.f53) a_i_WriteSec (iOf Tryz.prog
 Tryz.f53) [(true,.P (.L (.L .Y)) (.P (.L (.P (.I .i64) (.L .Y))) (.P (.I .i64) .B))),(false,.I .i64),(false,.L .Y)] [(true,.P (.L (.L .Y)) (.P (.L (.P (.I .i64) (.L .Y)))
 (.P (.I .i64) .B)))] x=Zi x:=by kernel_rfl
noncomputable def e_i_WriteSec:SEnt Tryz.prog:=⟨53,[(true,.P (.L (.L .Y)) (.P (.L (.P (.I .i64) (.L .Y))) (.P (.I .i64) .B))),(false,.I .i64),(false,.L .Y)],[(true,.P
 (.L (.L .Y)) (.P (.L (.P (.I .i64) (.L .Y))) (.P (.I .i64) .B)))],Zi,runs_see mixed_Pl Tryz.func53 (by kernel_rfl) h_i_WriteSec⟩
noncomputable def a_i_FlushDev:An:=(.sq none .d (.sq none .d (.sq none .d (.sq none .d (.sq none .d (.sq (some [.kt 2,.bx 3 [.O (.L .Y),.K,.K,.K]]) (.sq none .d (.bl (.lp
 [.kt 2,.bx 3 [.O (.L .Y),.K,.K,.K],.kt 26,.kt 27,.lt 28 (.I .i64)] .d))) .d))))))
theorem h_i_FlushDev (x:(List (List UInt8))×(List (Int×List UInt8))×Int×Bool):fnX (P:=Tryz.prog) [.see e_i_copyDev,.see e_i_DevOk,.gen e_i_burn,.see e_i_joined]
 [(38,.sb)] (sOf Tryz.prog Tryz.f56) a_i_FlushDev (iOf Tryz.prog Tryz.f56) [(true,.P (.L (.L .Y)) (.P (.L (.P (.I .i64) (.L .Y))) (.P (.I .i64) .B)))] [(true,.P (.L (.L .Y))
 (.P (.L (.P (.I .i64) (.L .Y))) (.P (.I .i64) .B)))] x=Zk x:=by kernel_rfl
noncomputable def e_i_FlushDev:SEnt Tryz.prog:=⟨56,[(true,.P (.L (.L .Y)) (.P (.L (.P (.I .i64) (.L .Y))) (.P (.I .i64) .B)))],[(true,.P (.L (.L .Y)) (.P (.L (.P (.I .i64)
 (.L .Y))) (.P (.I .i64) .B)))],Zk,runs_see mixed_Pl Tryz.func56 (by kernel_rfl) h_i_FlushDev⟩
noncomputable def a_i_HeadOf:An:=.d
theorem h_i_HeadOf (x:Int×Int):fnX (P:=Tryz.prog) [.see e_i_within,.see e_i_PutW,.see e_i_Sum] [] (sOf Tryz.prog Tryz.f57) a_i_HeadOf (iOf Tryz.prog Tryz.f57) [(false,.I
 .i64),(false,.I .i64)] [(false,.L .Y)] x=Zbq x:=by kernel_rfl
noncomputable def e_i_HeadOf:SEnt Tryz.prog:=⟨57,[(false,.I .i64),(false,.I .i64)],[(false,.L .Y)],Zbq,runs_see mixed_Pl Tryz.func57 (by kernel_rfl) h_i_HeadOf⟩
noncomputable def a_i_laid:An:=(.sq none .d (.sq none (.sq none .d (.bl (.pl .d [.kt 1,.kt 2,.bx 3 [.O (.L .Y),.O (.P (.I .i64) (.L .Y)),.L (.I .i64),.L .B],.kt 6,.kt 9,
 .kt 10,.lt 11 (.I .i64)] .d))) .d))
theorem h_i_laid (x:((List (List UInt8))×(List (Int×List UInt8))×Int×Bool)×Int×List (Int×((List UInt8)×(Int×List UInt8)×(Int×List UInt8)×Int×Bool) ×
 (List UInt8)×Int×Int×Int×Int)):fnX (P:=Tryz.prog) [.see e_i_sectorOf,.see e_i_PutRec,.see e_i_WriteSec,.see e_i_FlushDev,.see e_i_HeadOf] [] (sOf Tryz.prog
 Tryz.f21) a_i_laid (iOf Tryz.prog Tryz.f21) [(true,.P (.L (.L .Y)) (.P (.L (.P (.I .i64) (.L .Y))) (.P (.I .i64) .B))),(false,.I .i64),(false,.L (.P (.I .i64) (.P (.P .S (.P
 (.P (.I .i64) (.L .Y)) (.P (.P (.I .i64) (.L .Y)) (.P (.I .i64) .B)))) (.P .S (.P (.I .i64) (.P (.I .i64) (.P (.I .i64) (.I .i64))))))))] [(true,.P (.L (.L .Y)) (.P (.L (.P (.I
 .i64) (.L .Y))) (.P (.I .i64) .B)))] x=Zdf x:=by kernel_rfl
noncomputable def e_i_laid:SEnt Tryz.prog:=⟨21,[(true,.P (.L (.L .Y)) (.P (.L (.P (.I .i64) (.L .Y))) (.P (.I .i64) .B))),(false,.I .i64),(false,.L (.P (.I .i64) (.P (.P
 .S (.P (.P (.I .i64) (.L .Y)) (.P (.P (.I .i64) (.L .Y)) (.P (.I .i64) .B)))) (.P .S (.P (.I .i64) (.P (.I .i64) (.P (.I .i64) (.I .i64))))))))],[(true,.P (.L (.L .Y)) (.P (.L
 (.P (.I .i64) (.L .Y))) (.P (.I .i64) .B)))],Zdf,runs_see mixed_Pl Tryz.func21 (by kernel_rfl) h_i_laid⟩
noncomputable def a_i_Lay:An:=(.sq none .d (.sq none .d (.sq none .d (.sq none .d (.sq none .d (.sq (some [.kt 2,.bx 3 [.K,.K,.K,.K,.K,.K,.K,.L (.I .i64),.L (.I
 .i64)]]) .d .d))))))
theorem h_i_Lay (x:((List (List UInt8))×(List (Int×List UInt8))×Int×Bool)×((List ((List UInt8)×(Int×List UInt8)×(Int×List UInt8)×Int×Bool))×Int×List
 (Int×Int×Int))×Int×Int):fnX (P:=Tryz.prog) [.see e_i_copyStore,.see e_i_StoreOk,.see e_i_RecsOf,.see e_i_laid] [] (sOf Tryz.prog Tryz.f7) a_i_Lay (iOf Tryz.prog
 Tryz.f7) [(true,.P (.P (.L (.L .Y)) (.P (.L (.P (.I .i64) (.L .Y))) (.P (.I .i64) .B))) (.P (.P (.L (.P .S (.P (.P (.I .i64) (.L .Y)) (.P (.P (.I .i64) (.L .Y)) (.P (.I .i64)
 .B))))) (.P (.I .i64) (.L (.P (.I .i64) (.P (.I .i64) (.I .i64)))))) (.P (.I .i64) (.I .i64))))] [(true,.P (.P (.L (.L .Y)) (.P (.L (.P (.I .i64) (.L .Y))) (.P (.I .i64) .B)))
 (.P (.P (.L (.P .S (.P (.P (.I .i64) (.L .Y)) (.P (.P (.I .i64) (.L .Y)) (.P (.I .i64) .B))))) (.P (.I .i64) (.L (.P (.I .i64) (.P (.I .i64) (.I .i64)))))) (.P (.I .i64) (.I
 .i64))))] x=Zbr x:=by kernel_rfl
noncomputable def e_i_Lay:SEnt Tryz.prog:=⟨7,[(true,.P (.P (.L (.L .Y)) (.P (.L (.P (.I .i64) (.L .Y))) (.P (.I .i64) .B))) (.P (.P (.L (.P .S (.P (.P (.I .i64) (.L .Y)) (.P
 (.P (.I .i64) (.L .Y)) (.P (.I .i64) .B))))) (.P (.I .i64) (.L (.P (.I .i64) (.P (.I .i64) (.I .i64)))))) (.P (.I .i64) (.I .i64))))],[(true,.P (.P (.L (.L .Y)) (.P (.L (.P (.I
 .i64) (.L .Y))) (.P (.I .i64) .B))) (.P (.P (.L (.P .S (.P (.P (.I .i64) (.L .Y)) (.P (.P (.I .i64) (.L .Y)) (.P (.I .i64) .B))))) (.P (.I .i64) (.L (.P (.I .i64) (.P (.I .i64)
 (.I .i64)))))) (.P (.I .i64) (.I .i64))))],Zbr,runs_see mixed_Pl Tryz.func7 (by kernel_rfl) h_i_Lay⟩
noncomputable def a_l_eqByteS:An:=(.sq none .d (.sq none .d (.sq none (.sq none .d (.bl (.lp [.kt 0,.kt 1,.lt 5 (.I .i64)] .d))) .d)))
theorem h_l_eqByteS (x:(List UInt8)×List UInt8):fnX (P:=Tryz.prog) [] [] (sOf Tryz.prog Tryz.f97) a_l_eqByteS (iOf Tryz.prog Tryz.f97) [(false,.L .Y),(false,.L .Y)]
 [(false,.B)] x=Zbs x:=by kernel_rfl
noncomputable def e_l_eqByteS:SEnt Tryz.prog:=⟨97,[(false,.L .Y),(false,.L .Y)],[(false,.B)],Zbs,runs_see mixed_Pl Tryz.func97 (by kernel_rfl) h_l_eqByteS⟩
noncomputable def a_l_eqByteSS:An:=(.sq none .d (.sq none .d (.sq none (.sq none .d (.bl (.lp [.kt 0,.kt 1,.lt 5 (.I .i64)] .d))) .d)))
theorem h_l_eqByteSS (x:(List (List UInt8))×List (List UInt8)):fnX (P:=Tryz.prog) [.see e_l_eqByteS] [] (sOf Tryz.prog Tryz.f58) a_l_eqByteSS (iOf Tryz.prog Tryz.f58)
 [(false,.L (.L .Y)),(false,.L (.L .Y))] [(false,.B)] x=Zfb x:=by kernel_rfl
noncomputable def e_l_eqByteSS:SEnt Tryz.prog:=⟨58,[(false,.L (.L .Y)),(false,.L (.L .Y))],[(false,.B)],Zfb,runs_see mixed_Pl Tryz.func58 (by kernel_rfl)
 h_l_eqByteSS⟩
noncomputable def a_l_eqWr:An:=.d
theorem h_l_eqWr (x:(Int×List UInt8)×Int×List UInt8):fnX (P:=Tryz.prog) [.see e_l_eqByteS] [] (sOf Tryz.prog Tryz.f98) a_l_eqWr (iOf Tryz.prog Tryz.f98) [(true,.P (.I
 .i64) (.L .Y)),(true,.P (.I .i64) (.L .Y))] [(false,.B)] x=Zfc x:=by kernel_rfl
noncomputable def e_l_eqWr:SEnt Tryz.prog:=⟨98,[(true,.P (.I .i64) (.L .Y)),(true,.P (.I .i64) (.L .Y))],[(false,.B)],Zfc,runs_see mixed_Pl Tryz.func98 (by
 kernel_rfl) h_l_eqWr⟩
noncomputable def a_l_eqWrS:An:=(.sq none .d (.sq none .d (.sq none (.sq none .d (.bl (.lp [.kt 0,.kt 1,.lt 5 (.I .i64)] .d))) .d)))
theorem h_l_eqWrS (x:(List (Int×List UInt8))×List (Int×List UInt8)):fnX (P:=Tryz.prog) [.see e_l_eqWr] [] (sOf Tryz.prog Tryz.f59) a_l_eqWrS (iOf Tryz.prog Tryz.f59)
 [(false,.L (.P (.I .i64) (.L .Y))),(false,.L (.P (.I .i64) (.L .Y)))] [(false,.B)] x=Zfd x:=by kernel_rfl
noncomputable def e_l_eqWrS:SEnt Tryz.prog:=⟨59,[(false,.L (.P (.I .i64) (.L .Y))),(false,.L (.P (.I .i64) (.L .Y)))],[(false,.B)],Zfd,runs_see mixed_Pl
 Tryz.func59 (by kernel_rfl) h_l_eqWrS⟩
end Go.Vs
