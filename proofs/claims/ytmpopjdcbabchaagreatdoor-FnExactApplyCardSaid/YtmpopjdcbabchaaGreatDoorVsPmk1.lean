import Derived.Test.YtmpopjdcbabchaaGreatDoorProg
import Derived.Test.YtmpopjdcbabchaaGreatDoorVsPmk0
set_option linter.all false
namespace Go.Vs
open Go.Proofs
set_option maxRecDepth 100000
noncomputable def a_l_toRec:An:=.d
theorem h_l_toRec (x:Int×((List UInt8)×(Int×List UInt8)×(Int×List UInt8)×Int×Bool)×(List UInt8)×Int×Int×Int×Int):fnX (P:=Tryz.prog) [.see e_l_toRow]
 [] (sOf Tryz.prog Tryz.f22) a_l_toRec (iOf Tryz.prog Tryz.f22) [(true,.P (.I .i64) (.P (.P .S (.P (.P (.I .i64) (.L .Y)) (.P (.P (.I .i64) (.L .Y)) (.P (.I .i64) .B)))) (.P .S
 (.P (.I .i64) (.P (.I .i64) (.P (.I .i64) (.I .i64)))))))] [(true,.P (.I .i64) (.P (.P .S (.P (.P (.I .i64) (.L .Y)) (.P (.P (.I .i64) (.L .Y)) (.P (.I .i64) .B)))) (.P .S (.P
 (.I .i64) (.P (.I .i64) (.P (.I .i64) (.I .i64)))))))] x=Zb x:=by kernel_rfl
noncomputable def e_l_toRec:SEnt Tryz.prog:=⟨22,[(true,.P (.I .i64) (.P (.P .S (.P (.P (.I .i64) (.L .Y)) (.P (.P (.I .i64) (.L .Y)) (.P (.I .i64) .B)))) (.P .S (.P (.I .i64)
 (.P (.I .i64) (.P (.I .i64) (.I .i64)))))))],[(true,.P (.I .i64) (.P (.P .S (.P (.P (.I .i64) (.L .Y)) (.P (.P (.I .i64) (.L .Y)) (.P (.I .i64) .B)))) (.P .S (.P (.I .i64) (.P
 (.I .i64) (.P (.I .i64) (.I .i64)))))))],Zb,runs_see mixed_Pm Tryz.func22 (by kernel_rfl) h_l_toRec⟩
noncomputable def a_s_l8Copy:An:=.d
theorem h_s_l8Copy (x:Int×List UInt8):fnX (P:=Tryz.prog) [] [(5,.el .Y),(8,.el .Y)] (sOf Tryz.prog Tryz.f109) a_s_l8Copy (iOf Tryz.prog Tryz.f109) [(true,.P (.I .i64)
 (.L .Y))] [(true,.P (.I .i64) (.L .Y))] x=Zby x:=by kernel_rfl
noncomputable def e_s_l8Copy:SEnt Tryz.prog:=⟨109,[(true,.P (.I .i64) (.L .Y))],[(true,.P (.I .i64) (.L .Y))],Zby,runs_see mixed_Pm Tryz.func109 (by kernel_rfl)
 h_s_l8Copy⟩
noncomputable def a_s_l9Copy:An:=.d
theorem h_s_l9Copy (x:(List UInt8)×(Int×List UInt8)×(Int×List UInt8)×Int×Bool):fnX (P:=Tryz.prog) [.see e_s_l8Copy] [] (sOf Tryz.prog Tryz.f81) a_s_l9Copy (iOf
 Tryz.prog Tryz.f81) [(true,.P .S (.P (.P (.I .i64) (.L .Y)) (.P (.P (.I .i64) (.L .Y)) (.P (.I .i64) .B))))] [(true,.P .S (.P (.P (.I .i64) (.L .Y)) (.P (.P (.I .i64) (.L .Y))
 (.P (.I .i64) .B))))] x=Zl x:=by kernel_rfl
noncomputable def e_s_l9Copy:SEnt Tryz.prog:=⟨81,[(true,.P .S (.P (.P (.I .i64) (.L .Y)) (.P (.P (.I .i64) (.L .Y)) (.P (.I .i64) .B))))],[(true,.P .S (.P (.P (.I .i64) (.L
 .Y)) (.P (.P (.I .i64) (.L .Y)) (.P (.I .i64) .B))))],Zl,runs_see mixed_Pm Tryz.func81 (by kernel_rfl) h_s_l9Copy⟩
noncomputable def a_s_l12Copy:An:=(.sq none .d (.sq none .d (.sq (some [.kt 2,.bx 3 [.O (.P .S (.P (.P (.I .i64) (.L .Y)) (.P (.P (.I .i64) (.L .Y)) (.P (.I .i64) .B)))),.K,
 .K]]) (.sq none .d (.bl (.lp [.kt 1,.kt 2,.bx 3 [.O (.P .S (.P (.P (.I .i64) (.L .Y)) (.P (.P (.I .i64) (.L .Y)) (.P (.I .i64) .B)))),.K,.K],.lt 4 (.I .i64)] .d))) .d)))
theorem h_s_l12Copy (x:(List ((List UInt8)×(Int×List UInt8)×(Int×List UInt8)×Int×Bool))×Int×List (Int×Int×Int)):fnX (P:=Tryz.prog) [.see e_s_l9Copy] [(7,
 .el (.P (.I .i64) (.P (.I .i64) (.I .i64)))),(10,.el (.P (.I .i64) (.P (.I .i64) (.I .i64)))),(27,.el (.P .S (.P (.P (.I .i64) (.L .Y)) (.P (.P (.I .i64) (.L .Y)) (.P (.I
 .i64) .B))))),(28,.el (.P .S (.P (.P (.I .i64) (.L .Y)) (.P (.P (.I .i64) (.L .Y)) (.P (.I .i64) .B)))))] (sOf Tryz.prog Tryz.f47) a_s_l12Copy (iOf Tryz.prog Tryz.f47) [(true,
 .P (.L (.P .S (.P (.P (.I .i64) (.L .Y)) (.P (.P (.I .i64) (.L .Y)) (.P (.I .i64) .B))))) (.P (.I .i64) (.L (.P (.I .i64) (.P (.I .i64) (.I .i64))))))] [(true,.P (.L (.P .S (.P
 (.P (.I .i64) (.L .Y)) (.P (.P (.I .i64) (.L .Y)) (.P (.I .i64) .B))))) (.P (.I .i64) (.L (.P (.I .i64) (.P (.I .i64) (.I .i64))))))] x=Zz x:=by kernel_rfl
noncomputable def e_s_l12Copy:SEnt Tryz.prog:=⟨47,[(true,.P (.L (.P .S (.P (.P (.I .i64) (.L .Y)) (.P (.P (.I .i64) (.L .Y)) (.P (.I .i64) .B))))) (.P (.I .i64) (.L (.P (.I
 .i64) (.P (.I .i64) (.I .i64))))))],[(true,.P (.L (.P .S (.P (.P (.I .i64) (.L .Y)) (.P (.P (.I .i64) (.L .Y)) (.P (.I .i64) .B))))) (.P (.I .i64) (.L (.P (.I .i64) (.P (.I
 .i64) (.I .i64))))))],Zz,runs_see mixed_Pm Tryz.func47 (by kernel_rfl) h_s_l12Copy⟩
noncomputable def a_s_l1In:An:=.d
theorem h_s_l1In (x:Int×Int×Int):fnX (P:=Tryz.prog) [] [] (sOf Tryz.prog Tryz.f84) a_s_l1In (iOf Tryz.prog Tryz.f84) [(false,.I .i64),(false,.I .i64),(false,.I
 .i64)] [(false,.B)] x=Zg x:=by kernel_rfl
noncomputable def e_s_l1In:SEnt Tryz.prog:=⟨84,[(false,.I .i64),(false,.I .i64),(false,.I .i64)],[(false,.B)],Zg,runs_see mixed_Pm Tryz.func84 (by kernel_rfl)
 h_s_l1In⟩
noncomputable def a_s_NameOk:An:=(.sq none .d (.sq (some [.kt 0]) (.sq none .d (.bl (.lp [.kt 0,.lt 3 (.I .i64)] .d))) .d))
theorem h_s_NameOk (x:List UInt8):fnX (P:=Tryz.prog) [.see e_s_l1In] [] (sOf Tryz.prog Tryz.f88) a_s_NameOk (iOf Tryz.prog Tryz.f88) [(false,.S)] [(false,.B)] x =
 Zbl x:=by kernel_rfl
noncomputable def e_s_NameOk:SEnt Tryz.prog:=⟨88,[(false,.S)],[(false,.B)],Zbl,runs_see mixed_Pm Tryz.func88 (by kernel_rfl) h_s_NameOk⟩
noncomputable def a_s_l9Old:An:=.d
theorem h_s_l9Old (x:(List UInt8)×(Int×List UInt8)×(Int×List UInt8)×Int×Bool):fnX (P:=Tryz.prog) [] [] (sOf Tryz.prog Tryz.f110) a_s_l9Old (iOf Tryz.prog
 Tryz.f110) [(true,.P .S (.P (.P (.I .i64) (.L .Y)) (.P (.P (.I .i64) (.L .Y)) (.P (.I .i64) .B))))] [(false,.B)] x=Zi x:=by kernel_rfl
noncomputable def e_s_l9Old:SEnt Tryz.prog:=⟨110,[(true,.P .S (.P (.P (.I .i64) (.L .Y)) (.P (.P (.I .i64) (.L .Y)) (.P (.I .i64) .B))))],[(false,.B)],Zi,runs_see
 mixed_Pm Tryz.func110 (by kernel_rfl) h_s_l9Old⟩
noncomputable def a_s_l9None:An:=.d
theorem h_s_l9None (x:Int×List UInt8):fnX (P:=Tryz.prog) [] [] (sOf Tryz.prog Tryz.f111) a_s_l9None (iOf Tryz.prog Tryz.f111) [(true,.P (.I .i64) (.L .Y))] [(false,.B)] x
 = Zu x:=by kernel_rfl
noncomputable def e_s_l9None:SEnt Tryz.prog:=⟨111,[(true,.P (.I .i64) (.L .Y))],[(false,.B)],Zu,runs_see mixed_Pm Tryz.func111 (by kernel_rfl) h_s_l9None⟩
noncomputable def a_s_l9New:An:=.d
theorem h_s_l9New (x:(List UInt8)×(Int×List UInt8)×(Int×List UInt8)×Int×Bool):fnX (P:=Tryz.prog) [] [] (sOf Tryz.prog Tryz.f112) a_s_l9New (iOf Tryz.prog
 Tryz.f112) [(true,.P .S (.P (.P (.I .i64) (.L .Y)) (.P (.P (.I .i64) (.L .Y)) (.P (.I .i64) .B))))] [(false,.B)] x=Zh x:=by kernel_rfl
noncomputable def e_s_l9New:SEnt Tryz.prog:=⟨112,[(true,.P .S (.P (.P (.I .i64) (.L .Y)) (.P (.P (.I .i64) (.L .Y)) (.P (.I .i64) .B))))],[(false,.B)],Zh,runs_see
 mixed_Pm Tryz.func112 (by kernel_rfl) h_s_l9New⟩
noncomputable def a_s_l5Cs:An:=.d
theorem h_s_l5Cs (x:Int):fnX (P:=Tryz.prog) [.see e_s_l1In] [] (sOf Tryz.prog Tryz.f130) a_s_l5Cs (iOf Tryz.prog Tryz.f130) [(false,.I .i64)] [(false,.B)] x=Zbz x :=
 by kernel_rfl
noncomputable def e_s_l5Cs:SEnt Tryz.prog:=⟨130,[(false,.I .i64)],[(false,.B)],Zbz,runs_see mixed_Pm Tryz.func130 (by kernel_rfl) h_s_l5Cs⟩
noncomputable def a_s_CellOk:An:=.d
theorem h_s_CellOk (x:Int×List UInt8):fnX (P:=Tryz.prog) [.see e_s_l5Cs] [] (sOf Tryz.prog Tryz.f114) a_s_CellOk (iOf Tryz.prog Tryz.f114) [(true,.P (.I .i64) (.L .Y))]
 [(false,.B)] x=Zs x:=by kernel_rfl
noncomputable def e_s_CellOk:SEnt Tryz.prog:=⟨114,[(true,.P (.I .i64) (.L .Y))],[(false,.B)],Zs,runs_see mixed_Pm Tryz.func114 (by kernel_rfl) h_s_CellOk⟩
noncomputable def a_s_l2Len:An:=.d
theorem h_s_l2Len (x:UInt8):fnX (P:=Tryz.prog) [.see e_s_l1In] [] (sOf Tryz.prog Tryz.f164) a_s_l2Len (iOf Tryz.prog Tryz.f164) [(false,.Y)] [(false,.I .i64)] x=Zct
 x:=by kernel_rfl
noncomputable def e_s_l2Len:SEnt Tryz.prog:=⟨164,[(false,.Y)],[(false,.I .i64)],Zct,runs_see mixed_Pm Tryz.func164 (by kernel_rfl) h_s_l2Len⟩
noncomputable def a_s_SignOk:An:=.d
theorem h_s_SignOk (x:Int):fnX (P:=Tryz.prog) [.see e_s_l1In] [] (sOf Tryz.prog Tryz.f142) a_s_SignOk (iOf Tryz.prog Tryz.f142) [(false,.I .i64)] [(false,.B)] x =
 Zbm x:=by kernel_rfl
noncomputable def e_s_SignOk:SEnt Tryz.prog:=⟨142,[(false,.I .i64)],[(false,.B)],Zbm,runs_see mixed_Pm Tryz.func142 (by kernel_rfl) h_s_SignOk⟩
noncomputable def a_s_PutSign:An:=.d
theorem h_s_PutSign (x:(List UInt8)×Int):fnX (P:=Tryz.prog) [.see e_s_SignOk] [(6,.el .Y),(8,.el .Y),(20,.el .Y),(21,.el .Y),(34,.el .Y),(35,.el .Y),(53,.el
 .Y),(54,.el .Y),(74,.el .Y),(75,.el .Y)] (sOf Tryz.prog Tryz.f132) a_s_PutSign (iOf Tryz.prog Tryz.f132) [(false,.L .Y),(false,.I .i64)] [(false,.L .Y)] x=Zbn
 x:=by kernel_rfl
noncomputable def e_s_PutSign:SEnt Tryz.prog:=⟨132,[(false,.L .Y),(false,.I .i64)],[(false,.L .Y)],Zbn,runs_see mixed_Pm Tryz.func132 (by kernel_rfl)
 h_s_PutSign⟩
end Go.Vs
