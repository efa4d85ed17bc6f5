import Derived.Test.YtbbdcgglfmhhpaaGreatDoorProg
import Derived.Test.YtbbdcgglfmhhpaaGreatDoorVsPlk4
set_option linter.all false
namespace Go.Vs
open Go.Proofs
set_option maxRecDepth 100000
noncomputable def a_s_HeadOf:An:=.d
theorem h_s_HeadOf (x:Int×Int):fnX (P:=Tryz.prog) [.see e_s_l1In,.see e_s_PutW,.see e_s_Sum] [(14,.el .Y),(15,.el .Y)] (sOf Tryz.prog Tryz.f42) a_s_HeadOf (iOf
 Tryz.prog Tryz.f42) [(false,.I .i64),(false,.I .i64)] [(false,.L .Y)] x=Zcv x:=by kernel_rfl
noncomputable def e_s_HeadOf:SEnt Tryz.prog:=⟨42,[(false,.I .i64),(false,.I .i64)],[(false,.L .Y)],Zcv,runs_see mixed_Pl Tryz.func42 (by kernel_rfl) h_s_HeadOf⟩
noncomputable def a_s_l13Lay:An:=(.sq none .d (.sq (some [.bx 0 [.K,.O (.P (.I .i64) (.L .Y)),.L (.I .i64),.L .B,.K,.K,.K,.K,.K],.kt 1,.kt 4]) (.sq none .d (.bl (.lp
 [.bx 0 [.K,.O (.P (.I .i64) (.L .Y)),.L (.I .i64),.L .B,.K,.K,.K,.K,.K],.kt 1,.kt 4,.lt 5 (.I .i64)] .d))) .d))
theorem h_s_l13Lay (x:(((List (List UInt8))×(List (Int×List UInt8))×Int×Bool)×((List ((List UInt8)×(Int×List UInt8)×(Int×List UInt8)×Int×Bool))×Int×List
 (Int×Int×Int))×Int×Int)×Int):fnG (P:=Tryz.prog) [.see e_s_RecsOf,.see e_s_l13At,.see e_s_PutRec,.gen e_s_l10Write,.gen e_s_l10Flush,.see e_s_HeadOf] [] (sOf
 Tryz.prog Tryz.f15) a_s_l13Lay (iOf Tryz.prog Tryz.f15) [⟨true,false,.P (.P (.L (.L .Y)) (.P (.L (.P (.I .i64) (.L .Y))) (.P (.I .i64) .B))) (.P (.P (.L (.P .S (.P (.P (.I
 .i64) (.L .Y)) (.P (.P (.I .i64) (.L .Y)) (.P (.I .i64) .B))))) (.P (.I .i64) (.L (.P (.I .i64) (.P (.I .i64) (.I .i64)))))) (.P (.I .i64) (.I .i64))),[.ow,.ow,.rd,.rd,.rx,
 .rd,.rx,.rd,.rd],(some (.P (.L (.L .Y)) (.P (.L (.P (.I .i64) (.L .Y))) (.P (.I .i64) (.P .B (.P (.I .i64) (.P (.I .i64) (.I .i64))))))))⟩,⟨false,false,.I .i64,[.rd],
 none⟩] [] x=Zcd x:=by kernel_rfl
noncomputable def e_s_l13Lay:GEnt Tryz.prog:=⟨15,[⟨true,false,.P (.P (.L (.L .Y)) (.P (.L (.P (.I .i64) (.L .Y))) (.P (.I .i64) .B))) (.P (.P (.L (.P .S (.P (.P (.I .i64)
 (.L .Y)) (.P (.P (.I .i64) (.L .Y)) (.P (.I .i64) .B))))) (.P (.I .i64) (.L (.P (.I .i64) (.P (.I .i64) (.I .i64)))))) (.P (.I .i64) (.I .i64))),[.ow,.ow,.rd,.rd,.rx,.rd,
 .rx,.rd,.rd],(some (.P (.L (.L .Y)) (.P (.L (.P (.I .i64) (.L .Y))) (.P (.I .i64) (.P .B (.P (.I .i64) (.P (.I .i64) (.I .i64))))))))⟩,⟨false,false,.I .i64,[.rd],none⟩],
 [],Zcd,runs_gen mixed_Pl Tryz.func15 (by kernel_rfl) h_s_l13Lay⟩
noncomputable def a_s_Lay:An:=(.sq none .d (.sq none .d (.sq (some [.kt 2,.bx 3 [.O (.L .Y),.O (.P (.I .i64) (.L .Y)),.L (.I .i64),.L .B,.K,.L (.I .i64),.K,.L (.I
 .i64),.L (.I .i64)]]) .d .d)))
theorem h_s_Lay (x:((List (List UInt8))×(List (Int×List UInt8))×Int×Bool)×((List ((List UInt8)×(Int×List UInt8)×(Int×List UInt8)×Int×Bool))×Int×List
 (Int×Int×Int))×Int×Int):fnX (P:=Tryz.prog) [.see e_s_l13Copy,.see e_s_StoreOk,.gen e_s_l13Lay] [] (sOf Tryz.prog Tryz.f5) a_s_Lay (iOf Tryz.prog Tryz.f5) [(true,.P
 (.P (.L (.L .Y)) (.P (.L (.P (.I .i64) (.L .Y))) (.P (.I .i64) .B))) (.P (.P (.L (.P .S (.P (.P (.I .i64) (.L .Y)) (.P (.P (.I .i64) (.L .Y)) (.P (.I .i64) .B))))) (.P (.I .i64)
 (.L (.P (.I .i64) (.P (.I .i64) (.I .i64)))))) (.P (.I .i64) (.I .i64))))] [(true,.P (.P (.L (.L .Y)) (.P (.L (.P (.I .i64) (.L .Y))) (.P (.I .i64) .B))) (.P (.P (.L (.P .S (.P
 (.P (.I .i64) (.L .Y)) (.P (.P (.I .i64) (.L .Y)) (.P (.I .i64) .B))))) (.P (.I .i64) (.L (.P (.I .i64) (.P (.I .i64) (.I .i64)))))) (.P (.I .i64) (.I .i64))))] x=Zcw x :=
 by kernel_rfl
noncomputable def e_s_Lay:SEnt Tryz.prog:=⟨5,[(true,.P (.P (.L (.L .Y)) (.P (.L (.P (.I .i64) (.L .Y))) (.P (.I .i64) .B))) (.P (.P (.L (.P .S (.P (.P (.I .i64) (.L .Y)) (.P
 (.P (.I .i64) (.L .Y)) (.P (.I .i64) .B))))) (.P (.I .i64) (.L (.P (.I .i64) (.P (.I .i64) (.I .i64)))))) (.P (.I .i64) (.I .i64))))],[(true,.P (.P (.L (.L .Y)) (.P (.L (.P (.I
 .i64) (.L .Y))) (.P (.I .i64) .B))) (.P (.P (.L (.P .S (.P (.P (.I .i64) (.L .Y)) (.P (.P (.I .i64) (.L .Y)) (.P (.I .i64) .B))))) (.P (.I .i64) (.L (.P (.I .i64) (.P (.I .i64)
 (.I .i64)))))) (.P (.I .i64) (.I .i64))))],Zcw,runs_see mixed_Pl Tryz.func5 (by kernel_rfl) h_s_Lay⟩
noncomputable def a_i_joined:An:=(.sq none .d (.sq none .d (.sq (some [.ot 3 .Y]) (.sq none .d (.bl (.lp [.ot 3 .Y,.kt 7,.kt 8,.lt 9 (.I .i64)] .d))) .d)))
theorem h_i_joined (x:List (List UInt8)):fnX (P:=Tryz.prog) [] [(6,.el .Y),(15,.el .Y)] (sOf Tryz.prog Tryz.f87) a_i_joined (iOf Tryz.prog Tryz.f87) [(false,.L (.L .Y))]
 [(false,.L .Y)] x=Zh x:=by kernel_rfl
noncomputable def e_i_joined:SEnt Tryz.prog:=⟨87,[(false,.L (.L .Y))],[(false,.L .Y)],Zh,runs_see mixed_Pl Tryz.func87 (by kernel_rfl) h_i_joined⟩
noncomputable def a_i_copyDev:An:=(.sq none .d (.sq none .d (.sq (some [.kt 1,.kt 2,.bx 3 [.O (.L .Y),.K,.K,.K]]) (.sq none .d (.bl (.lp [.kt 1,.kt 2,.bx 3 [.O (.L .Y),
 .K,.K,.K],.kt 14,.kt 15,.lt 16 (.I .i64)] .d))) (.sq (some [.kt 2,.bx 3 [.K,.O (.P (.I .i64) (.L .Y)),.K,.K]]) (.sq none .d (.bl (.lp [.kt 2,.bx 3 [.K,.O (.P (.I .i64)
 (.L .Y)),.K,.K],.kt 30,.kt 31,.lt 32 (.I .i64)] .d))) .d))))
theorem h_i_copyDev (x:(List (List UInt8))×(List (Int×List UInt8))×Int×Bool):fnX (P:=Tryz.prog) [.see e_i_joined] [(23,.sb),(25,.el (.L .Y)),(26,.el (.L .Y)),
 (42,.sb),(45,.el (.P (.I .i64) (.L .Y))),(46,.el (.P (.I .i64) (.L .Y)))] (sOf Tryz.prog Tryz.f47) a_i_copyDev (iOf Tryz.prog Tryz.f47) [(true,.P (.L (.L .Y)) (.P (.L (.P
 (.I .i64) (.L .Y))) (.P (.I .i64) .B)))] [(true,.P (.L (.L .Y)) (.P (.L (.P (.I .i64) (.L .Y))) (.P (.I .i64) .B)))] x=Zx x:=by kernel_rfl
noncomputable def e_i_copyDev:SEnt Tryz.prog:=⟨47,[(true,.P (.L (.L .Y)) (.P (.L (.P (.I .i64) (.L .Y))) (.P (.I .i64) .B)))],[(true,.P (.L (.L .Y)) (.P (.L (.P (.I .i64)
 (.L .Y))) (.P (.I .i64) .B)))],Zx,runs_see mixed_Pl Tryz.func47 (by kernel_rfl) h_i_copyDev⟩
noncomputable def a_i_copyCell:An:=.d
theorem h_i_copyCell (x:Int×List UInt8):fnX (P:=Tryz.prog) [.see e_i_joined] [(7,.sb)] (sOf Tryz.prog Tryz.f90) a_i_copyCell (iOf Tryz.prog Tryz.f90) [(true,.P (.I .i64)
 (.L .Y))] [(true,.P (.I .i64) (.L .Y))] x=Zcx x:=by kernel_rfl
noncomputable def e_i_copyCell:SEnt Tryz.prog:=⟨90,[(true,.P (.I .i64) (.L .Y))],[(true,.P (.I .i64) (.L .Y))],Zcx,runs_see mixed_Pl Tryz.func90 (by kernel_rfl)
 h_i_copyCell⟩
noncomputable def a_i_copyRow:An:=.d
theorem h_i_copyRow (x:(List UInt8)×(Int×List UInt8)×(Int×List UInt8)×Int×Bool):fnX (P:=Tryz.prog) [.see e_i_copyCell] [] (sOf Tryz.prog Tryz.f52) a_i_copyRow
 (iOf Tryz.prog Tryz.f52) [(true,.P .S (.P (.P (.I .i64) (.L .Y)) (.P (.P (.I .i64) (.L .Y)) (.P (.I .i64) .B))))] [(true,.P .S (.P (.P (.I .i64) (.L .Y)) (.P (.P (.I .i64) (.L
 .Y)) (.P (.I .i64) .B))))] x=Zt x:=by kernel_rfl
noncomputable def e_i_copyRow:SEnt Tryz.prog:=⟨52,[(true,.P .S (.P (.P (.I .i64) (.L .Y)) (.P (.P (.I .i64) (.L .Y)) (.P (.I .i64) .B))))],[(true,.P .S (.P (.P (.I .i64)
 (.L .Y)) (.P (.P (.I .i64) (.L .Y)) (.P (.I .i64) .B))))],Zt,runs_see mixed_Pl Tryz.func52 (by kernel_rfl) h_i_copyRow⟩
noncomputable def a_i_copyTab:An:=(.sq none .d (.sq none .d (.sq (some [.kt 2,.bx 3 [.O (.P .S (.P (.P (.I .i64) (.L .Y)) (.P (.P (.I .i64) (.L .Y)) (.P (.I .i64) .B)))),.K,
 .K]]) (.sq none .d (.bl (.lp [.kt 2,.bx 3 [.O (.P .S (.P (.P (.I .i64) (.L .Y)) (.P (.P (.I .i64) (.L .Y)) (.P (.I .i64) .B)))),.K,.K],.kt 14,.kt 15,.lt 16 (.I .i64)] .d)))
 .d)))
theorem h_i_copyTab (x:(List ((List UInt8)×(Int×List UInt8)×(Int×List UInt8)×Int×Bool))×Int×List (Int×Int×Int)):fnX (P:=Tryz.prog) [.see e_i_copyRow] [(8,
 .el (.P (.I .i64) (.P (.I .i64) (.I .i64)))),(11,.el (.P (.I .i64) (.P (.I .i64) (.I .i64)))),(24,.el (.P .S (.P (.P (.I .i64) (.L .Y)) (.P (.P (.I .i64) (.L .Y)) (.P (.I
 .i64) .B))))),(25,.el (.P .S (.P (.P (.I .i64) (.L .Y)) (.P (.P (.I .i64) (.L .Y)) (.P (.I .i64) .B)))))] (sOf Tryz.prog Tryz.f48) a_i_copyTab (iOf Tryz.prog Tryz.f48) [(true,
 .P (.L (.P .S (.P (.P (.I .i64) (.L .Y)) (.P (.P (.I .i64) (.L .Y)) (.P (.I .i64) .B))))) (.P (.I .i64) (.L (.P (.I .i64) (.P (.I .i64) (.I .i64))))))] [(true,.P (.L (.P .S (.P
 (.P (.I .i64) (.L .Y)) (.P (.P (.I .i64) (.L .Y)) (.P (.I .i64) .B))))) (.P (.I .i64) (.L (.P (.I .i64) (.P (.I .i64) (.I .i64))))))] x=Zcy x:=by kernel_rfl
noncomputable def e_i_copyTab:SEnt Tryz.prog:=⟨48,[(true,.P (.L (.P .S (.P (.P (.I .i64) (.L .Y)) (.P (.P (.I .i64) (.L .Y)) (.P (.I .i64) .B))))) (.P (.I .i64) (.L (.P (.I
 .i64) (.P (.I .i64) (.I .i64))))))],[(true,.P (.L (.P .S (.P (.P (.I .i64) (.L .Y)) (.P (.P (.I .i64) (.L .Y)) (.P (.I .i64) .B))))) (.P (.I .i64) (.L (.P (.I .i64) (.P (.I
 .i64) (.I .i64))))))],Zcy,runs_see mixed_Pl Tryz.func48 (by kernel_rfl) h_i_copyTab⟩
noncomputable def a_i_copyStore:An:=.d
theorem h_i_copyStore (x:((List (List UInt8))×(List (Int×List UInt8))×Int×Bool)×((List ((List UInt8)×(Int×List UInt8)×(Int×List UInt8)×Int×Bool))×Int ×
 List (Int×Int×Int))×Int×Int):fnX (P:=Tryz.prog) [.see e_i_copyDev,.see e_i_copyTab] [] (sOf Tryz.prog Tryz.f18) a_i_copyStore (iOf Tryz.prog Tryz.f18) [(true,.P (.P
 (.L (.L .Y)) (.P (.L (.P (.I .i64) (.L .Y))) (.P (.I .i64) .B))) (.P (.P (.L (.P .S (.P (.P (.I .i64) (.L .Y)) (.P (.P (.I .i64) (.L .Y)) (.P (.I .i64) .B))))) (.P (.I .i64) (.L
 (.P (.I .i64) (.P (.I .i64) (.I .i64)))))) (.P (.I .i64) (.I .i64))))] [(true,.P (.P (.L (.L .Y)) (.P (.L (.P (.I .i64) (.L .Y))) (.P (.I .i64) .B))) (.P (.P (.L (.P .S (.P (.P
 (.I .i64) (.L .Y)) (.P (.P (.I .i64) (.L .Y)) (.P (.I .i64) .B))))) (.P (.I .i64) (.L (.P (.I .i64) (.P (.I .i64) (.I .i64)))))) (.P (.I .i64) (.I .i64))))] x=Zer x
 := by kernel_rfl
noncomputable def e_i_copyStore:SEnt Tryz.prog:=⟨18,[(true,.P (.P (.L (.L .Y)) (.P (.L (.P (.I .i64) (.L .Y))) (.P (.I .i64) .B))) (.P (.P (.L (.P .S (.P (.P (.I .i64) (.L
 .Y)) (.P (.P (.I .i64) (.L .Y)) (.P (.I .i64) .B))))) (.P (.I .i64) (.L (.P (.I .i64) (.P (.I .i64) (.I .i64)))))) (.P (.I .i64) (.I .i64))))],[(true,.P (.P (.L (.L .Y)) (.P
 (.L (.P (.I .i64) (.L .Y))) (.P (.I .i64) .B))) (.P (.P (.L (.P .S (.P (.P (.I .i64) (.L .Y)) (.P (.P (.I .i64) (.L .Y)) (.P (.I .i64) .B))))) (.P (.I .i64) (.L (.P (.I .i64) (.P
 (.I .i64) (.I .i64)))))) (.P (.I .i64) (.I .i64))))],Zer,runs_see mixed_Pl Tryz.func18 (by kernel_rfl) h_i_copyStore⟩
noncomputable def a_i_within:An:=.d
theorem h_i_within (x:Int×Int×Int):fnX (P:=Tryz.prog) [] [] (sOf Tryz.prog Tryz.f51) a_i_within (iOf Tryz.prog Tryz.f51) [(false,.I .i64),(false,.I .i64),(false,.I
 .i64)] [(false,.B)] x=Zd x:=by kernel_rfl
noncomputable def e_i_within:SEnt Tryz.prog:=⟨51,[(false,.I .i64),(false,.I .i64),(false,.I .i64)],[(false,.B)],Zd,runs_see mixed_Pl Tryz.func51 (by
 kernel_rfl) h_i_within⟩
noncomputable def a_i_DevOk:An:=(.sq none .d (.sq none .d (.sq (some [.kt 1]) (.sq none .d (.bl (.lp [.kt 1,.kt 25,.kt 26,.lt 27 (.I .i64)] .d))) (.sq none (.sq none .d (.bl
 (.lp [.kt 1,.kt 36,.kt 37,.lt 38 (.I .i64)] .d))) .d))))
theorem h_i_DevOk (x:(List (List UInt8))×(List (Int×List UInt8))×Int×Bool):fnX (P:=Tryz.prog) [.see e_i_within] [] (sOf Tryz.prog Tryz.f49) a_i_DevOk (iOf Tryz.prog
 Tryz.f49) [(true,.P (.L (.L .Y)) (.P (.L (.P (.I .i64) (.L .Y))) (.P (.I .i64) .B)))] [(false,.B)] x=Zy x:=by kernel_rfl
noncomputable def e_i_DevOk:SEnt Tryz.prog:=⟨49,[(true,.P (.L (.L .Y)) (.P (.L (.P (.I .i64) (.L .Y))) (.P (.I .i64) .B)))],[(false,.B)],Zy,runs_see mixed_Pl
 Tryz.func49 (by kernel_rfl) h_i_DevOk⟩
noncomputable def a_i_NameOk:An:=(.sq none .d (.sq (some [.kt 0]) (.sq none .d (.bl (.lp [.kt 0,.lt 3 (.I .i64)] .d))) .d))
theorem h_i_NameOk (x:List UInt8):fnX (P:=Tryz.prog) [.see e_i_within] [] (sOf Tryz.prog Tryz.f118) a_i_NameOk (iOf Tryz.prog Tryz.f118) [(false,.S)] [(false,.B)] x =
 Zcz x:=by kernel_rfl
noncomputable def e_i_NameOk:SEnt Tryz.prog:=⟨118,[(false,.S)],[(false,.B)],Zcz,runs_see mixed_Pl Tryz.func118 (by kernel_rfl) h_i_NameOk⟩
noncomputable def a_i_isSet:An:=.d
theorem h_i_isSet (x:Int):fnX (P:=Tryz.prog) [.see e_i_within] [] (sOf Tryz.prog Tryz.f129) a_i_isSet (iOf Tryz.prog Tryz.f129) [(false,.I .i64)] [(false,.B)] x=Zes
 x:=by kernel_rfl
noncomputable def e_i_isSet:SEnt Tryz.prog:=⟨129,[(false,.I .i64)],[(false,.B)],Zes,runs_see mixed_Pl Tryz.func129 (by kernel_rfl) h_i_isSet⟩
noncomputable def a_i_CellOk:An:=.d
theorem h_i_CellOk (x:Int×List UInt8):fnX (P:=Tryz.prog) [.see e_i_isSet] [] (sOf Tryz.prog Tryz.f121) a_i_CellOk (iOf Tryz.prog Tryz.f121) [(true,.P (.I .i64) (.L .Y))]
 [(false,.B)] x=Zda x:=by kernel_rfl
noncomputable def e_i_CellOk:SEnt Tryz.prog:=⟨121,[(true,.P (.I .i64) (.L .Y))],[(false,.B)],Zda,runs_see mixed_Pl Tryz.func121 (by kernel_rfl) h_i_CellOk⟩
end Go.Vs
