import Derived.Test.YtggfmlobpmndoaaGreatDoorProg
import Derived.Test.YtggfmlobpmndoaaGreatDoorVsPh
set_option linter.all false
namespace Go.Vs
open Go.Proofs
set_option maxRecDepth 100000
theorem mixed_Ph:Tryz.prog.follows .mixedOrders=true:=by kernel_rfl
noncomputable def a_s_l1In:An:=.d
theorem h_s_l1In (x:Int×Int×Int):fnX (P:=Tryz.prog) [] [] (sOf Tryz.prog Tryz.f105) a_s_l1In (iOf Tryz.prog Tryz.f105) [(false,.I .i64),(false,.I .i64),(false,.I
 .i64)] [(false,.B)] x=F_s_l1In x:=by kernel_rfl
noncomputable def e_s_l1In:SEnt Tryz.prog:=⟨105,[(false,.I .i64),(false,.I .i64),(false,.I .i64)],[(false,.B)],F_s_l1In,runs_see mixed_Ph Tryz.func105 (by kernel_rfl)
 h_s_l1In⟩
noncomputable def a_s_DevNew:An:=(.sq none .d (.sq none .d (.sq none .d (.sq (some [.kt 2,.bx 3 [.O (.L .Y),.K,.K,.K]]) (.sq none .d (.bl (.lp [.kt 0,.kt 2,.bx 3 [.O (.L
 .Y),.K,.K,.K],.lt 4 (.I .i64)] .d))) .d))))
theorem h_s_DevNew (x:Int):fnX (P:=Tryz.prog) [.see e_s_l1In] [(17,.el .Y),(18,.el (.L .Y)),(19,.el (.L .Y))] (sOf Tryz.prog Tryz.f139) a_s_DevNew (iOf Tryz.prog
 Tryz.f139) [(false,.I .i64)] [(true,.P (.L (.L .Y)) (.P (.L (.P (.I .i64) (.L .Y))) (.P (.I .i64) .B)))] x=F_s_DevNew x:=by kernel_rfl
noncomputable def e_s_DevNew:SEnt Tryz.prog:=⟨139,[(false,.I .i64)],[(true,.P (.L (.L .Y)) (.P (.L (.P (.I .i64) (.L .Y))) (.P (.I .i64) .B)))],F_s_DevNew,runs_see
 mixed_Ph Tryz.func139 (by kernel_rfl) h_s_DevNew⟩
noncomputable def a_s_l8Copy:An:=.d
theorem h_s_l8Copy (x:Int×List UInt8):fnX (P:=Tryz.prog) [] [(5,.el .Y),(8,.el .Y)] (sOf Tryz.prog Tryz.f183) a_s_l8Copy (iOf Tryz.prog Tryz.f183) [(true,.P (.I .i64)
 (.L .Y))] [(true,.P (.I .i64) (.L .Y))] x=F_s_l8Copy x:=by kernel_rfl
noncomputable def e_s_l8Copy:SEnt Tryz.prog:=⟨183,[(true,.P (.I .i64) (.L .Y))],[(true,.P (.I .i64) (.L .Y))],F_s_l8Copy,runs_see mixed_Ph Tryz.func183 (by kernel_rfl)
 h_s_l8Copy⟩
noncomputable def a_s_l9Copy:An:=.d
theorem h_s_l9Copy (x:(List UInt8)×(Int×List UInt8)×(Int×List UInt8)×Int×Bool):fnX (P:=Tryz.prog) [.see e_s_l8Copy] [] (sOf Tryz.prog Tryz.f101) a_s_l9Copy (iOf
 Tryz.prog Tryz.f101) [(true,.P .S (.P (.P (.I .i64) (.L .Y)) (.P (.P (.I .i64) (.L .Y)) (.P (.I .i64) .B))))] [(true,.P .S (.P (.P (.I .i64) (.L .Y)) (.P (.P (.I .i64) (.L .Y))
 (.P (.I .i64) .B))))] x=F_s_l9Copy x:=by kernel_rfl
noncomputable def e_s_l9Copy:SEnt Tryz.prog:=⟨101,[(true,.P .S (.P (.P (.I .i64) (.L .Y)) (.P (.P (.I .i64) (.L .Y)) (.P (.I .i64) .B))))],[(true,.P .S (.P (.P (.I .i64)
 (.L .Y)) (.P (.P (.I .i64) (.L .Y)) (.P (.I .i64) .B))))],F_s_l9Copy,runs_see mixed_Ph Tryz.func101 (by kernel_rfl) h_s_l9Copy⟩
noncomputable def a_s_RecsOf:An:=(.sq none .d (.sq none .d (.sq (some [.kt 1,.ot 3 (.P (.I .i64) (.P (.P .S (.P (.P (.I .i64) (.L .Y)) (.P (.P (.I .i64) (.L .Y)) (.P (.I .i64)
 .B)))) (.P .S (.P (.I .i64) (.P (.I .i64) (.P (.I .i64) (.I .i64)))))))]) (.sq none .d (.bl (.lp [.kt 1,.ot 3 (.P (.I .i64) (.P (.P .S (.P (.P (.I .i64) (.L .Y)) (.P (.P (.I
 .i64) (.L .Y)) (.P (.I .i64) .B)))) (.P .S (.P (.I .i64) (.P (.I .i64) (.P (.I .i64) (.I .i64))))))),.lt 4 (.I .i64)] .d))) (.sq (some [.ot 3 (.P (.I .i64) (.P (.P .S (.P (.P
 (.I .i64) (.L .Y)) (.P (.P (.I .i64) (.L .Y)) (.P (.I .i64) .B)))) (.P .S (.P (.I .i64) (.P (.I .i64) (.P (.I .i64) (.I .i64)))))))]) (.sq none .d (.bl (.lp [.kt 1,.ot 3 (.P (.I
 .i64) (.P (.P .S (.P (.P (.I .i64) (.L .Y)) (.P (.P (.I .i64) (.L .Y)) (.P (.I .i64) .B)))) (.P .S (.P (.I .i64) (.P (.I .i64) (.P (.I .i64) (.I .i64))))))),.lt 5 (.I .i64)]
 .d))) .d))))
theorem h_s_RecsOf (x:(List ((List UInt8)×(Int×List UInt8)×(Int×List UInt8)×Int×Bool))×Int×List (Int×Int×Int)):fnX (P:=Tryz.prog) [.see e_s_l9Copy] [(9,
 .el (.P (.I .i64) (.P (.P .S (.P (.P (.I .i64) (.L .Y)) (.P (.P (.I .i64) (.L .Y)) (.P (.I .i64) .B)))) (.P .S (.P (.I .i64) (.P (.I .i64) (.P (.I .i64) (.I .i64)))))))),(25,
 .el (.P (.I .i64) (.P (.P .S (.P (.P (.I .i64) (.L .Y)) (.P (.P (.I .i64) (.L .Y)) (.P (.I .i64) .B)))) (.P .S (.P (.I .i64) (.P (.I .i64) (.P (.I .i64) (.I .i64)))))))),(26,
 .el (.P (.I .i64) (.P (.P .S (.P (.P (.I .i64) (.L .Y)) (.P (.P (.I .i64) (.L .Y)) (.P (.I .i64) .B)))) (.P .S (.P (.I .i64) (.P (.I .i64) (.P (.I .i64) (.I .i64)))))))),(54,
 .el (.P (.I .i64) (.P (.P .S (.P (.P (.I .i64) (.L .Y)) (.P (.P (.I .i64) (.L .Y)) (.P (.I .i64) .B)))) (.P .S (.P (.I .i64) (.P (.I .i64) (.P (.I .i64) (.I .i64)))))))),(55,
 .el (.P (.I .i64) (.P (.P .S (.P (.P (.I .i64) (.L .Y)) (.P (.P (.I .i64) (.L .Y)) (.P (.I .i64) .B)))) (.P .S (.P (.I .i64) (.P (.I .i64) (.P (.I .i64) (.I .i64))))))))] (sOf
 Tryz.prog Tryz.f75) a_s_RecsOf (iOf Tryz.prog Tryz.f75) [(true,.P (.L (.P .S (.P (.P (.I .i64) (.L .Y)) (.P (.P (.I .i64) (.L .Y)) (.P (.I .i64) .B))))) (.P (.I .i64) (.L (.P
 (.I .i64) (.P (.I .i64) (.I .i64))))))] [(false,.L (.P (.I .i64) (.P (.P .S (.P (.P (.I .i64) (.L .Y)) (.P (.P (.I .i64) (.L .Y)) (.P (.I .i64) .B)))) (.P .S (.P (.I .i64) (.P
 (.I .i64) (.P (.I .i64) (.I .i64))))))))] x=F_s_RecsOf x:=by kernel_rfl
noncomputable def e_s_RecsOf:SEnt Tryz.prog:=⟨75,[(true,.P (.L (.P .S (.P (.P (.I .i64) (.L .Y)) (.P (.P (.I .i64) (.L .Y)) (.P (.I .i64) .B))))) (.P (.I .i64) (.L (.P (.I
 .i64) (.P (.I .i64) (.I .i64))))))],[(false,.L (.P (.I .i64) (.P (.P .S (.P (.P (.I .i64) (.L .Y)) (.P (.P (.I .i64) (.L .Y)) (.P (.I .i64) .B)))) (.P .S (.P (.I .i64) (.P (.I
 .i64) (.P (.I .i64) (.I .i64))))))))],F_s_RecsOf,runs_see mixed_Ph Tryz.func75 (by kernel_rfl) h_s_RecsOf⟩
noncomputable def a_s_l13At:An:=.d
theorem h_s_l13At (x:Int×Int):fnX (P:=Tryz.prog) [] [] (sOf Tryz.prog Tryz.f196) a_s_l13At (iOf Tryz.prog Tryz.f196) [(false,.I .i64),(false,.I .i64)] [(false,.I .i64)]
 x=F_s_l13At x:=by kernel_rfl
noncomputable def e_s_l13At:SEnt Tryz.prog:=⟨196,[(false,.I .i64),(false,.I .i64)],[(false,.I .i64)],F_s_l13At,runs_see mixed_Ph Tryz.func196 (by kernel_rfl) h_s_l13At⟩
noncomputable def a_s_l9None:An:=.d
theorem h_s_l9None (x:Int×List UInt8):fnX (P:=Tryz.prog) [] [] (sOf Tryz.prog Tryz.f106) a_s_l9None (iOf Tryz.prog Tryz.f106) [(true,.P (.I .i64) (.L .Y))] [(false,.B)] x
 = F_s_l9None x:=by kernel_rfl
noncomputable def e_s_l9None:SEnt Tryz.prog:=⟨106,[(true,.P (.I .i64) (.L .Y))],[(false,.B)],F_s_l9None,runs_see mixed_Ph Tryz.func106 (by kernel_rfl) h_s_l9None⟩
noncomputable def a_s_l11NoRow:An:=.d
theorem h_s_l11NoRow (x:(List UInt8)×(Int×List UInt8)×(Int×List UInt8)×Int×Bool):fnX (P:=Tryz.prog) [.see e_s_l9None] [] (sOf Tryz.prog Tryz.f162) a_s_l11NoRow
 (iOf Tryz.prog Tryz.f162) [(true,.P .S (.P (.P (.I .i64) (.L .Y)) (.P (.P (.I .i64) (.L .Y)) (.P (.I .i64) .B))))] [(false,.B)] x=F_s_l11NoRow x:=by kernel_rfl
noncomputable def e_s_l11NoRow:SEnt Tryz.prog:=⟨162,[(true,.P .S (.P (.P (.I .i64) (.L .Y)) (.P (.P (.I .i64) (.L .Y)) (.P (.I .i64) .B))))],[(false,.B)],F_s_l11NoRow,
 runs_see mixed_Ph Tryz.func162 (by kernel_rfl) h_s_l11NoRow⟩
noncomputable def a_s_NameOk:An:=(.sq none .d (.sq (some [.kt 0]) (.sq none .d (.bl (.lp [.kt 0,.lt 3 (.I .i64)] .d))) .d))
theorem h_s_NameOk (x:List UInt8):fnX (P:=Tryz.prog) [.see e_s_l1In] [] (sOf Tryz.prog Tryz.f104) a_s_NameOk (iOf Tryz.prog Tryz.f104) [(false,.S)] [(false,.B)] x =
 F_s_NameOk x:=by kernel_rfl
noncomputable def e_s_NameOk:SEnt Tryz.prog:=⟨104,[(false,.S)],[(false,.B)],F_s_NameOk,runs_see mixed_Ph Tryz.func104 (by kernel_rfl) h_s_NameOk⟩
noncomputable def a_s_l9Old:An:=.d
theorem h_s_l9Old (x:(List UInt8)×(Int×List UInt8)×(Int×List UInt8)×Int×Bool):fnX (P:=Tryz.prog) [] [] (sOf Tryz.prog Tryz.f103) a_s_l9Old (iOf Tryz.prog
 Tryz.f103) [(true,.P .S (.P (.P (.I .i64) (.L .Y)) (.P (.P (.I .i64) (.L .Y)) (.P (.I .i64) .B))))] [(false,.B)] x=F_s_l9Old x:=by kernel_rfl
noncomputable def e_s_l9Old:SEnt Tryz.prog:=⟨103,[(true,.P .S (.P (.P (.I .i64) (.L .Y)) (.P (.P (.I .i64) (.L .Y)) (.P (.I .i64) .B))))],[(false,.B)],F_s_l9Old,runs_see
 mixed_Ph Tryz.func103 (by kernel_rfl) h_s_l9Old⟩
noncomputable def a_s_l9New:An:=.d
theorem h_s_l9New (x:(List UInt8)×(Int×List UInt8)×(Int×List UInt8)×Int×Bool):fnX (P:=Tryz.prog) [] [] (sOf Tryz.prog Tryz.f99) a_s_l9New (iOf Tryz.prog Tryz.f99)
 [(true,.P .S (.P (.P (.I .i64) (.L .Y)) (.P (.P (.I .i64) (.L .Y)) (.P (.I .i64) .B))))] [(false,.B)] x=F_s_l9New x:=by kernel_rfl
noncomputable def e_s_l9New:SEnt Tryz.prog:=⟨99,[(true,.P .S (.P (.P (.I .i64) (.L .Y)) (.P (.P (.I .i64) (.L .Y)) (.P (.I .i64) .B))))],[(false,.B)],F_s_l9New,runs_see
 mixed_Ph Tryz.func99 (by kernel_rfl) h_s_l9New⟩
noncomputable def a_s_l5Cs:An:=.d
theorem h_s_l5Cs (x:Int):fnX (P:=Tryz.prog) [.see e_s_l1In] [] (sOf Tryz.prog Tryz.f185) a_s_l5Cs (iOf Tryz.prog Tryz.f185) [(false,.I .i64)] [(false,.B)] x=F_s_l5Cs x :=
 by kernel_rfl
noncomputable def e_s_l5Cs:SEnt Tryz.prog:=⟨185,[(false,.I .i64)],[(false,.B)],F_s_l5Cs,runs_see mixed_Ph Tryz.func185 (by kernel_rfl) h_s_l5Cs⟩
noncomputable def a_s_CellOk:An:=.d
theorem h_s_CellOk (x:Int×List UInt8):fnX (P:=Tryz.prog) [.see e_s_l5Cs] [] (sOf Tryz.prog Tryz.f107) a_s_CellOk (iOf Tryz.prog Tryz.f107) [(true,.P (.I .i64) (.L .Y))]
 [(false,.B)] x=F_s_CellOk x:=by kernel_rfl
noncomputable def e_s_CellOk:SEnt Tryz.prog:=⟨107,[(true,.P (.I .i64) (.L .Y))],[(false,.B)],F_s_CellOk,runs_see mixed_Ph Tryz.func107 (by kernel_rfl) h_s_CellOk⟩
noncomputable def a_s_l2Len:An:=.d
theorem h_s_l2Len (x:UInt8):fnX (P:=Tryz.prog) [.see e_s_l1In] [] (sOf Tryz.prog Tryz.f259) a_s_l2Len (iOf Tryz.prog Tryz.f259) [(false,.Y)] [(false,.I .i64)] x=F_s_l2Len
 x:=by kernel_rfl
noncomputable def e_s_l2Len:SEnt Tryz.prog:=⟨259,[(false,.Y)],[(false,.I .i64)],F_s_l2Len,runs_see mixed_Ph Tryz.func259 (by kernel_rfl) h_s_l2Len⟩
end Go.Vs
