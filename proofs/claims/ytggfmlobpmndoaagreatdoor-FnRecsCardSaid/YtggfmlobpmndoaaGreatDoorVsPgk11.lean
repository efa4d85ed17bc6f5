import Derived.Test.YtggfmlobpmndoaaGreatDoorProg
import Derived.Test.YtggfmlobpmndoaaGreatDoorVsPgk10
set_option linter.all false
namespace Go.Vs
open Go.Proofs
set_option maxRecDepth 100000
noncomputable def a_s_GetRec:An:=(.sq none .d (.sq none .d (.sq none .d (.sq none .d (.sq none .d (.sq none .d (.sq none .d (.sq (some [.kt 0,.kt 4,.kt 6,.kt 7,.kt 8,.kt
 9,.bx 10 [.K,.L .S,.L (.I .i64),.O .Y,.L (.I .i64),.O .Y,.L (.I .i64),.L .B,.L .S,.L (.I .i64),.K,.K,.K],.bx 24 [.K,.L (.I .i64),.L .B]]) .d .d))))))))
theorem h_s_GetRec (x:List UInt8):fnX (P:=Tryz.prog) [.gen e_s_l11Word,.gen e_s_l11Byte,.gen e_s_l11GetRow,.gen e_s_l11Text,.see e_s_GetW,.see e_s_Sum,.see e_s_RecOk]
 [] (sOf Tryz.prog Tryz.f63) a_s_GetRec (iOf Tryz.prog Tryz.f63) [(false,.L .Y)] [(false,.I .i64),(false,.I .i64),(true,.P (.I .i64) (.P (.P .S (.P (.P (.I .i64) (.L .Y))
 (.P (.P (.I .i64) (.L .Y)) (.P (.I .i64) .B)))) (.P .S (.P (.I .i64) (.P (.I .i64) (.P (.I .i64) (.I .i64))))))),(false,.B)] x=F_s_GetRec x:=by kernel_rfl
noncomputable def e_s_GetRec:SEnt Tryz.prog:=⟨63,[(false,.L .Y)],[(false,.I .i64),(false,.I .i64),(true,.P (.I .i64) (.P (.P .S (.P (.P (.I .i64) (.L .Y)) (.P (.P (.I
 .i64) (.L .Y)) (.P (.I .i64) .B)))) (.P .S (.P (.I .i64) (.P (.I .i64) (.P (.I .i64) (.I .i64))))))),(false,.B)],F_s_GetRec,runs_see mixed_Pg Tryz.func63 (by kernel_rfl)
 h_s_GetRec⟩
noncomputable def a_s_DrawRecOk:An:=.d
theorem h_s_DrawRecOk (x:List UInt8):fnX (P:=Tryz.prog) [.cur e_s_l1New,.gen e_s_l11Any] [] (sOf Tryz.prog Tryz.f64) a_s_DrawRecOk (iOf Tryz.prog Tryz.f64) [(false,.L .Y)]
 [(true,.P (.I .i64) (.P (.P .S (.P (.P (.I .i64) (.L .Y)) (.P (.P (.I .i64) (.L .Y)) (.P (.I .i64) .B)))) (.P .S (.P (.I .i64) (.P (.I .i64) (.P (.I .i64) (.I .i64)))))))] x =
 F_s_DrawRecOk x:=by kernel_rfl
noncomputable def e_s_DrawRecOk:SEnt Tryz.prog:=⟨64,[(false,.L .Y)],[(true,.P (.I .i64) (.P (.P .S (.P (.P (.I .i64) (.L .Y)) (.P (.P (.I .i64) (.L .Y)) (.P (.I .i64)
 .B)))) (.P .S (.P (.I .i64) (.P (.I .i64) (.P (.I .i64) (.I .i64)))))))],F_s_DrawRecOk,runs_see mixed_Pg Tryz.func64 (by kernel_rfl) h_s_DrawRecOk⟩
noncomputable def a_l_sameRec:An:=.d
theorem h_l_sameRec (x:(Int×((List UInt8)×(Int×List UInt8)×(Int×List UInt8)×Int×Bool)×(List UInt8)×Int×Int×Int×Int)×Int×((List UInt8)×(Int×List
 UInt8)×(Int×List UInt8)×Int×Bool)×(List UInt8)×Int×Int×Int×Int):fnX (P:=Tryz.prog) [.see e_l_sameRow] [] (sOf Tryz.prog Tryz.f66) a_l_sameRec (iOf Tryz.prog
 Tryz.f66) [(true,.P (.I .i64) (.P (.P .S (.P (.P (.I .i64) (.L .Y)) (.P (.P (.I .i64) (.L .Y)) (.P (.I .i64) .B)))) (.P .S (.P (.I .i64) (.P (.I .i64) (.P (.I .i64) (.I
 .i64))))))),(true,.P (.I .i64) (.P (.P .S (.P (.P (.I .i64) (.L .Y)) (.P (.P (.I .i64) (.L .Y)) (.P (.I .i64) .B)))) (.P .S (.P (.I .i64) (.P (.I .i64) (.P (.I .i64) (.I
 .i64)))))))] [(false,.B)] x=F_l_sameRec x:=by kernel_rfl
noncomputable def e_l_sameRec:SEnt Tryz.prog:=⟨66,[(true,.P (.I .i64) (.P (.P .S (.P (.P (.I .i64) (.L .Y)) (.P (.P (.I .i64) (.L .Y)) (.P (.I .i64) .B)))) (.P .S (.P (.I
 .i64) (.P (.I .i64) (.P (.I .i64) (.I .i64))))))),(true,.P (.I .i64) (.P (.P .S (.P (.P (.I .i64) (.L .Y)) (.P (.P (.I .i64) (.L .Y)) (.P (.I .i64) .B)))) (.P .S (.P (.I .i64)
 (.P (.I .i64) (.P (.I .i64) (.I .i64)))))))],[(false,.B)],F_l_sameRec,runs_see mixed_Pg Tryz.func66 (by kernel_rfl) h_l_sameRec⟩
noncomputable def a_l_at:An:=.d
theorem h_l_at (x:(List UInt8)×Int):fnX (P:=Tryz.prog) [] [] (sOf Tryz.prog Tryz.f67) a_l_at (iOf Tryz.prog Tryz.f67) [(false,.L .Y),(false,.I .i64)] [(false,.I .i64)]
 x=F_l_at x:=by kernel_rfl
noncomputable def e_l_at:SEnt Tryz.prog:=⟨67,[(false,.L .Y),(false,.I .i64)],[(false,.I .i64)],F_l_at,runs_see mixed_Pg Tryz.func67 (by kernel_rfl) h_l_at⟩
noncomputable def a_l_FnRecs:An:=.d
theorem h_l_FnRecs (x:List UInt8):fnX (P:=Tryz.prog) [.see e_l_big,.see e_s_DrawPutRec,.see e_i_PutRec,.see e_s_DrawGetRec,.see e_i_GetRec,.see e_s_GetRec,.see
 e_s_DrawRecOk,.see e_i_RecOk,.see e_s_RecOk,.see e_l_sameRec,.see e_l_at] [] (sOf Tryz.prog Tryz.f9) a_l_FnRecs (iOf Tryz.prog Tryz.f9) [(false,.L .Y)] [(false,.B)] x =
 F_l_FnRecs x:=by kernel_rfl
noncomputable def e_l_FnRecs:SEnt Tryz.prog:=⟨9,[(false,.L .Y)],[(false,.B)],F_l_FnRecs,runs_see mixed_Pg Tryz.func9 (by kernel_rfl) h_l_FnRecs⟩
end Go.Vs
