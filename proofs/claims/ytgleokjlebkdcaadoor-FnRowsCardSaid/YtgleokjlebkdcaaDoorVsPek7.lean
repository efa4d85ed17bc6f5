import Derived.Test.YtgleokjlebkdcaaDoorProg
import Derived.Test.YtgleokjlebkdcaaDoorVsPek6
set_option linter.all false
namespace Go.Vs
open Go.Proofs
set_option maxRecDepth 100000
noncomputable def a_s_l9None:An:=.d
theorem h_s_l9None (x:Int × List UInt8):fnX (P:=Tryd.prog) [] [] (sOf Tryd.prog Tryd.f111) a_s_l9None (iOf Tryd.prog Tryd.f111) [(true,.P (.I .i64) (.L .Y))] [(false,.B)] x
 = F_s_l9None x:=by kernel_rfl
noncomputable def e_s_l9None:SEnt Tryd.prog:=⟨111,[(true,.P (.I .i64) (.L .Y))],[(false,.B)],F_s_l9None,runs_see mixed_Pe Tryd.func111 (by kernel_rfl) h_s_l9None⟩
noncomputable def a_s_l9New:An:=.d
theorem h_s_l9New (x:(List UInt8) × (Int × List UInt8) × (Int × List UInt8) × Int × Bool):fnX (P:=Tryd.prog) [] [] (sOf Tryd.prog Tryd.f95) a_s_l9New (iOf Tryd.prog Tryd.f95)
 [(true,.P .S (.P (.P (.I .i64) (.L .Y)) (.P (.P (.I .i64) (.L .Y)) (.P (.I .i64) .B))))] [(false,.B)] x = F_s_l9New x:=by kernel_rfl
noncomputable def e_s_l9New:SEnt Tryd.prog:=⟨95,[(true,.P .S (.P (.P (.I .i64) (.L .Y)) (.P (.P (.I .i64) (.L .Y)) (.P (.I .i64) .B))))],[(false,.B)],F_s_l9New,runs_see
 mixed_Pe Tryd.func95 (by kernel_rfl) h_s_l9New⟩
noncomputable def a_s_RowOk:An:=.d
theorem h_s_RowOk (x:(List UInt8) × (Int × List UInt8) × (Int × List UInt8) × Int × Bool):fnX (P:=Tryd.prog) [.see e_s_NameOk,.see e_s_l1In,.see e_s_l9Old,.see e_s_l9None,
 .see e_s_l9New,.see e_s_CellText,.see e_s_CellOk,.see e_s_SameText] [] (sOf Tryd.prog Tryd.f94) a_s_RowOk (iOf Tryd.prog Tryd.f94) [(true,.P .S (.P (.P (.I .i64) (.L .Y)) (.P
 (.P (.I .i64) (.L .Y)) (.P (.I .i64) .B))))] [(false,.B)] x = F_s_RowOk x:=by kernel_rfl
noncomputable def e_s_RowOk:SEnt Tryd.prog:=⟨94,[(true,.P .S (.P (.P (.I .i64) (.L .Y)) (.P (.P (.I .i64) (.L .Y)) (.P (.I .i64) .B))))],[(false,.B)],F_s_RowOk,runs_see
 mixed_Pe Tryd.func94 (by kernel_rfl) h_s_RowOk⟩
noncomputable def a_s_FillRow:An:=.d
theorem h_s_FillRow (x:(List UInt8) × (Int × List UInt8) × (Int × List UInt8) × Int × Bool):fnX (P:=Tryd.prog) [.see e_s_l9Copy,.see e_s_RowOk,.see e_s_l9New,.see
 e_s_Turn] [] (sOf Tryd.prog Tryd.f76) a_s_FillRow (iOf Tryd.prog Tryd.f76) [(true,.P .S (.P (.P (.I .i64) (.L .Y)) (.P (.P (.I .i64) (.L .Y)) (.P (.I .i64) .B))))] [(true,.P .S
 (.P (.P (.I .i64) (.L .Y)) (.P (.P (.I .i64) (.L .Y)) (.P (.I .i64) .B))))] x = F_s_FillRow x:=by kernel_rfl
noncomputable def e_s_FillRow:SEnt Tryd.prog:=⟨76,[(true,.P .S (.P (.P (.I .i64) (.L .Y)) (.P (.P (.I .i64) (.L .Y)) (.P (.I .i64) .B))))],[(true,.P .S (.P (.P (.I .i64)
 (.L .Y)) (.P (.P (.I .i64) (.L .Y)) (.P (.I .i64) .B))))],F_s_FillRow,runs_see mixed_Pe Tryd.func76 (by kernel_rfl) h_s_FillRow⟩
noncomputable def a_s_BackRow:An:=.d
theorem h_s_BackRow (x:(List UInt8) × (Int × List UInt8) × (Int × List UInt8) × Int × Bool):fnX (P:=Tryd.prog) [.see e_s_l9Copy,.see e_s_RowOk,.see e_s_l9New,.see
 e_s_l9Old] [] (sOf Tryd.prog Tryd.f77) a_s_BackRow (iOf Tryd.prog Tryd.f77) [(true,.P .S (.P (.P (.I .i64) (.L .Y)) (.P (.P (.I .i64) (.L .Y)) (.P (.I .i64) .B))))] [(true,.P
 .S (.P (.P (.I .i64) (.L .Y)) (.P (.P (.I .i64) (.L .Y)) (.P (.I .i64) .B))))] x = F_s_BackRow x:=by kernel_rfl
noncomputable def e_s_BackRow:SEnt Tryd.prog:=⟨77,[(true,.P .S (.P (.P (.I .i64) (.L .Y)) (.P (.P (.I .i64) (.L .Y)) (.P (.I .i64) .B))))],[(true,.P .S (.P (.P (.I .i64)
 (.L .Y)) (.P (.P (.I .i64) (.L .Y)) (.P (.I .i64) .B))))],F_s_BackRow,runs_see mixed_Pe Tryd.func77 (by kernel_rfl) h_s_BackRow⟩
noncomputable def a_s_l9Draw:An:=(.sq none .d (.sq none .d (.sq none .d (.sq none .d (.sq none .d (.sq (some [.kt 0,.kt 2,.bx 7 [.L .S,.L (.I .i64),.O .Y,.L (.I .i64),.O
 .Y,.L (.I .i64),.L .B]]) .d .d))))))
theorem h_s_l9Draw (x:(List UInt8) × Int × Int):fnG (P:=Tryd.prog) [.gen e_s_l3Cs,.gen e_s_l1Name,.gen e_s_l1Below,.gen e_s_l5Text,.see e_s_RowOf,.gen e_s_l1Int,.see
 e_s_FillRow,.see e_s_BackRow] [(18,.el .Y),(43,.el (.I .i64))] (sOf Tryd.prog Tryd.f57) a_s_l9Draw (iOf Tryd.prog Tryd.f57) [⟨true,false,.P (.L .Y) (.P (.I .i64) (.I
 .i64)),[.rx,.rd,.rd],(some (.P (.I .i64) (.I .i64)))⟩] [(true,.P .S (.P (.P (.I .i64) (.L .Y)) (.P (.P (.I .i64) (.L .Y)) (.P (.I .i64) .B))))] x = F_s_l9Draw x:=by
 kernel_rfl
noncomputable def e_s_l9Draw:GEnt Tryd.prog:=⟨57,[⟨true,false,.P (.L .Y) (.P (.I .i64) (.I .i64)),[.rx,.rd,.rd],(some (.P (.I .i64) (.I .i64)))⟩],[(true,.P .S (.P (.P
 (.I .i64) (.L .Y)) (.P (.P (.I .i64) (.L .Y)) (.P (.I .i64) .B))))],F_s_l9Draw,runs_gen mixed_Pe Tryd.func57 (by kernel_rfl) h_s_l9Draw⟩
noncomputable def a_s_DrawRow:An:=.d
theorem h_s_DrawRow (x:List UInt8):fnX (P:=Tryd.prog) [.cur e_s_l1New,.gen e_s_l9Draw] [] (sOf Tryd.prog Tryd.f29) a_s_DrawRow (iOf Tryd.prog Tryd.f29) [(false,.L .Y)]
 [(true,.P .S (.P (.P (.I .i64) (.L .Y)) (.P (.P (.I .i64) (.L .Y)) (.P (.I .i64) .B))))] x = F_s_DrawRow x:=by kernel_rfl
noncomputable def e_s_DrawRow:SEnt Tryd.prog:=⟨29,[(false,.L .Y)],[(true,.P .S (.P (.P (.I .i64) (.L .Y)) (.P (.P (.I .i64) (.L .Y)) (.P (.I .i64) .B))))],F_s_DrawRow,
 runs_see mixed_Pe Tryd.func29 (by kernel_rfl) h_s_DrawRow⟩
noncomputable def a_i_copyRow:An:=.d
theorem h_i_copyRow (x:(List UInt8) × (Int × List UInt8) × (Int × List UInt8) × Int × Bool):fnX (P:=Tryd.prog) [.see e_i_copyCell] [] (sOf Tryd.prog Tryd.f58) a_i_copyRow
 (iOf Tryd.prog Tryd.f58) [(true,.P .S (.P (.P (.I .i64) (.L .Y)) (.P (.P (.I .i64) (.L .Y)) (.P (.I .i64) .B))))] [(true,.P .S (.P (.P (.I .i64) (.L .Y)) (.P (.P (.I .i64) (.L
 .Y)) (.P (.I .i64) .B))))] x = F_i_copyRow x:=by kernel_rfl
noncomputable def e_i_copyRow:SEnt Tryd.prog:=⟨58,[(true,.P .S (.P (.P (.I .i64) (.L .Y)) (.P (.P (.I .i64) (.L .Y)) (.P (.I .i64) .B))))],[(true,.P .S (.P (.P (.I .i64)
 (.L .Y)) (.P (.P (.I .i64) (.L .Y)) (.P (.I .i64) .B))))],F_i_copyRow,runs_see mixed_Pe Tryd.func58 (by kernel_rfl) h_i_copyRow⟩
noncomputable def a_i_FillRow:An:=.d
theorem h_i_FillRow (x:(List UInt8) × (Int × List UInt8) × (Int × List UInt8) × Int × Bool):fnX (P:=Tryd.prog) [.see e_i_copyRow,.see e_i_RowOk,.see e_i_Turn] [] (sOf
 Tryd.prog Tryd.f30) a_i_FillRow (iOf Tryd.prog Tryd.f30) [(true,.P .S (.P (.P (.I .i64) (.L .Y)) (.P (.P (.I .i64) (.L .Y)) (.P (.I .i64) .B))))] [(true,.P .S (.P (.P (.I .i64)
 (.L .Y)) (.P (.P (.I .i64) (.L .Y)) (.P (.I .i64) .B))))] x = F_i_FillRow x:=by kernel_rfl
noncomputable def e_i_FillRow:SEnt Tryd.prog:=⟨30,[(true,.P .S (.P (.P (.I .i64) (.L .Y)) (.P (.P (.I .i64) (.L .Y)) (.P (.I .i64) .B))))],[(true,.P .S (.P (.P (.I .i64)
 (.L .Y)) (.P (.P (.I .i64) (.L .Y)) (.P (.I .i64) .B))))],F_i_FillRow,runs_see mixed_Pe Tryd.func30 (by kernel_rfl) h_i_FillRow⟩
noncomputable def a_i_CutRow:An:=(.sq none .d (.sq none .d (.sq (some [.kt 2,.bx 3 [.K,.L (.I .i64),.O .Y,.K,.K,.L (.I .i64),.L .B]]) .d .d)))
theorem h_i_CutRow (x:(List UInt8) × (Int × List UInt8) × (Int × List UInt8) × Int × Bool):fnX (P:=Tryd.prog) [.see e_i_copyRow,.see e_i_RowOk] [] (sOf Tryd.prog Tryd.f31)
 a_i_CutRow (iOf Tryd.prog Tryd.f31) [(true,.P .S (.P (.P (.I .i64) (.L .Y)) (.P (.P (.I .i64) (.L .Y)) (.P (.I .i64) .B))))] [(true,.P .S (.P (.P (.I .i64) (.L .Y)) (.P (.P (.I
 .i64) (.L .Y)) (.P (.I .i64) .B))))] x = F_i_CutRow x:=by kernel_rfl
noncomputable def e_i_CutRow:SEnt Tryd.prog:=⟨31,[(true,.P .S (.P (.P (.I .i64) (.L .Y)) (.P (.P (.I .i64) (.L .Y)) (.P (.I .i64) .B))))],[(true,.P .S (.P (.P (.I .i64) (.L
 .Y)) (.P (.P (.I .i64) (.L .Y)) (.P (.I .i64) .B))))],F_i_CutRow,runs_see mixed_Pe Tryd.func31 (by kernel_rfl) h_i_CutRow⟩
noncomputable def a_i_BackRow:An:=(.sq none .d (.sq none .d (.sq (some [.kt 2,.bx 3 [.K,.K,.K,.L (.I .i64),.O .Y,.L (.I .i64),.L .B]]) .d .d)))
theorem h_i_BackRow (x:(List UInt8) × (Int × List UInt8) × (Int × List UInt8) × Int × Bool):fnX (P:=Tryd.prog) [.see e_i_copyRow,.see e_i_RowOk] [] (sOf Tryd.prog Tryd.f32)
 a_i_BackRow (iOf Tryd.prog Tryd.f32) [(true,.P .S (.P (.P (.I .i64) (.L .Y)) (.P (.P (.I .i64) (.L .Y)) (.P (.I .i64) .B))))] [(true,.P .S (.P (.P (.I .i64) (.L .Y)) (.P (.P
 (.I .i64) (.L .Y)) (.P (.I .i64) .B))))] x = F_i_BackRow x:=by kernel_rfl
noncomputable def e_i_BackRow:SEnt Tryd.prog:=⟨32,[(true,.P .S (.P (.P (.I .i64) (.L .Y)) (.P (.P (.I .i64) (.L .Y)) (.P (.I .i64) .B))))],[(true,.P .S (.P (.P (.I .i64)
 (.L .Y)) (.P (.P (.I .i64) (.L .Y)) (.P (.I .i64) .B))))],F_i_BackRow,runs_see mixed_Pe Tryd.func32 (by kernel_rfl) h_i_BackRow⟩
noncomputable def a_l_FnRows:An:=(.sq none .d (.sq none .d (.sq none .d (.sq none .d (.sq none .d (.sq none .d (.sq (some [.kt 0]) .d (.sq none .d (.sq none .d (.sq none .d
 (.sq (some [.kt 13,.kt 16]) (.sq none .d (.bl (.lp [.kt 13,.kt 14,.kt 15,.kt 16,.lt 17 (.I .i64)] .d))) .d)))))))))))
theorem h_l_FnRows (x:List UInt8):fnX (P:=Tryd.prog) [.see e_l_big,.see e_s_DrawRowOf,.see e_i_RowOf,.see e_s_RowOf,.see e_l_sameRow,.see e_i_RowText,.see e_i_RowOk,
 .see e_s_DrawRow,.see e_i_FillRow,.see e_i_CutRow,.see e_i_BackRow] [(98,.el (.P .S (.P (.P (.I .i64) (.L .Y)) (.P (.P (.I .i64) (.L .Y)) (.P (.I .i64) .B)))))] (sOf
 Tryd.prog Tryd.f5) a_l_FnRows (iOf Tryd.prog Tryd.f5) [(false,.L .Y)] [(false,.B)] x = F_l_FnRows x:=by kernel_rfl
noncomputable def e_l_FnRows:SEnt Tryd.prog:=⟨5,[(false,.L .Y)],[(false,.B)],F_l_FnRows,runs_see mixed_Pe Tryd.func5 (by kernel_rfl) h_l_FnRows⟩
end Go.Vs
