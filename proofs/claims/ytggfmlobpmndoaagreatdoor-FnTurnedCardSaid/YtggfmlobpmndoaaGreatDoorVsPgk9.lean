import Derived.Test.YtggfmlobpmndoaaGreatDoorProg
import Derived.Test.YtggfmlobpmndoaaGreatDoorVsPgk8
set_option linter.all false
namespace Go.Vs
open Go.Proofs
set_option maxRecDepth 100000
noncomputable def a_s_DrawBackRow:An:=.d
theorem h_s_DrawBackRow (x:List UInt8):fnX (P:=Tryz.prog) [.cur e_s_l1New,.gen e_s_l9Any] [] (sOf Tryz.prog Tryz.f25) a_s_DrawBackRow (iOf Tryz.prog Tryz.f25) [(false,.L
 .Y)] [(true,.P .S (.P (.P (.I .i64) (.L .Y)) (.P (.P (.I .i64) (.L .Y)) (.P (.I .i64) .B))))] x = F_s_DrawBackRow x:=by kernel_rfl
noncomputable def e_s_DrawBackRow:SEnt Tryz.prog:=⟨25,[(false,.L .Y)],[(true,.P .S (.P (.P (.I .i64) (.L .Y)) (.P (.P (.I .i64) (.L .Y)) (.P (.I .i64) .B))))],
 F_s_DrawBackRow,runs_see mixed_Pg Tryz.func25 (by kernel_rfl) h_s_DrawBackRow⟩
noncomputable def a_s_DrawRowOk:An:=.d
theorem h_s_DrawRowOk (x:List UInt8):fnX (P:=Tryz.prog) [.cur e_s_l1New,.gen e_s_l9Any] [] (sOf Tryz.prog Tryz.f26) a_s_DrawRowOk (iOf Tryz.prog Tryz.f26) [(false,.L .Y)]
 [(true,.P .S (.P (.P (.I .i64) (.L .Y)) (.P (.P (.I .i64) (.L .Y)) (.P (.I .i64) .B))))] x = F_s_DrawRowOk x:=by kernel_rfl
noncomputable def e_s_DrawRowOk:SEnt Tryz.prog:=⟨26,[(false,.L .Y)],[(true,.P .S (.P (.P (.I .i64) (.L .Y)) (.P (.P (.I .i64) (.L .Y)) (.P (.I .i64) .B))))],F_s_DrawRowOk,
 runs_see mixed_Pg Tryz.func26 (by kernel_rfl) h_s_DrawRowOk⟩
noncomputable def a_s_DrawRowText:An:=.d
theorem h_s_DrawRowText (x:List UInt8):fnX (P:=Tryz.prog) [.cur e_s_l1New,.gen e_s_l9Any] [] (sOf Tryz.prog Tryz.f27) a_s_DrawRowText (iOf Tryz.prog Tryz.f27) [(false,.L
 .Y)] [(true,.P .S (.P (.P (.I .i64) (.L .Y)) (.P (.P (.I .i64) (.L .Y)) (.P (.I .i64) .B))))] x = F_s_DrawRowText x:=by kernel_rfl
noncomputable def e_s_DrawRowText:SEnt Tryz.prog:=⟨27,[(false,.L .Y)],[(true,.P .S (.P (.P (.I .i64) (.L .Y)) (.P (.P (.I .i64) (.L .Y)) (.P (.I .i64) .B))))],
 F_s_DrawRowText,runs_see mixed_Pg Tryz.func27 (by kernel_rfl) h_s_DrawRowText⟩
noncomputable def a_i_RowText:An:=.d
theorem h_i_RowText (x:(List UInt8) × (Int × List UInt8) × (Int × List UInt8) × Int × Bool):fnX (P:=Tryz.prog) [.see e_i_CellText] [] (sOf Tryz.prog Tryz.f28) a_i_RowText
 (iOf Tryz.prog Tryz.f28) [(true,.P .S (.P (.P (.I .i64) (.L .Y)) (.P (.P (.I .i64) (.L .Y)) (.P (.I .i64) .B))))] [(false,.S),(false,.B)] x = F_i_RowText x:=by kernel_rfl
noncomputable def e_i_RowText:SEnt Tryz.prog:=⟨28,[(true,.P .S (.P (.P (.I .i64) (.L .Y)) (.P (.P (.I .i64) (.L .Y)) (.P (.I .i64) .B))))],[(false,.S),(false,.B)],
 F_i_RowText,runs_see mixed_Pg Tryz.func28 (by kernel_rfl) h_i_RowText⟩
noncomputable def a_s_RowText:An:=.d
theorem h_s_RowText (x:(List UInt8) × (Int × List UInt8) × (Int × List UInt8) × Int × Bool):fnX (P:=Tryz.prog) [.see e_s_l9New,.see e_s_CellText] [] (sOf Tryz.prog Tryz.f29)
 a_s_RowText (iOf Tryz.prog Tryz.f29) [(true,.P .S (.P (.P (.I .i64) (.L .Y)) (.P (.P (.I .i64) (.L .Y)) (.P (.I .i64) .B))))] [(false,.S),(false,.B)] x = F_s_RowText x:=by
 kernel_rfl
noncomputable def e_s_RowText:SEnt Tryz.prog:=⟨29,[(true,.P .S (.P (.P (.I .i64) (.L .Y)) (.P (.P (.I .i64) (.L .Y)) (.P (.I .i64) .B))))],[(false,.S),(false,.B)],
 F_s_RowText,runs_see mixed_Pg Tryz.func29 (by kernel_rfl) h_s_RowText⟩
noncomputable def a_s_CutRow:An:=.d
theorem h_s_CutRow (x:(List UInt8) × (Int × List UInt8) × (Int × List UInt8) × Int × Bool):fnX (P:=Tryz.prog) [.see e_s_l9Copy,.see e_s_RowOk,.see e_s_l9New] [] (sOf
 Tryz.prog Tryz.f31) a_s_CutRow (iOf Tryz.prog Tryz.f31) [(true,.P .S (.P (.P (.I .i64) (.L .Y)) (.P (.P (.I .i64) (.L .Y)) (.P (.I .i64) .B))))] [(true,.P .S (.P (.P (.I .i64)
 (.L .Y)) (.P (.P (.I .i64) (.L .Y)) (.P (.I .i64) .B))))] x = F_s_CutRow x:=by kernel_rfl
noncomputable def e_s_CutRow:SEnt Tryz.prog:=⟨31,[(true,.P .S (.P (.P (.I .i64) (.L .Y)) (.P (.P (.I .i64) (.L .Y)) (.P (.I .i64) .B))))],[(true,.P .S (.P (.P (.I .i64) (.L
 .Y)) (.P (.P (.I .i64) (.L .Y)) (.P (.I .i64) .B))))],F_s_CutRow,runs_see mixed_Pg Tryz.func31 (by kernel_rfl) h_s_CutRow⟩
noncomputable def a_l_FnTurned:An:=.d
theorem h_l_FnTurned (x:List UInt8):fnX (P:=Tryz.prog) [.see e_l_big,.see e_s_DrawRow,.see e_i_FillRow,.see e_i_CutRow,.see e_i_BackRow,.see e_s_DrawFillRow,.see
 e_s_DrawCutRow,.see e_s_DrawBackRow,.see e_s_DrawRowOk,.see e_s_DrawRowText,.see e_i_RowText,.see e_s_RowText,.see e_s_FillRow,.see e_l_sameRow,.see e_s_CutRow,.see
 e_s_BackRow,.see e_i_RowOk,.see e_s_RowOk,.see e_l_sameCell] [] (sOf Tryz.prog Tryz.f4) a_l_FnTurned (iOf Tryz.prog Tryz.f4) [(false,.L .Y)] [(false,.B)] x = F_l_FnTurned x
 := by kernel_rfl
noncomputable def e_l_FnTurned:SEnt Tryz.prog:=⟨4,[(false,.L .Y)],[(false,.B)],F_l_FnTurned,runs_see mixed_Pg Tryz.func4 (by kernel_rfl) h_l_FnTurned⟩
end Go.Vs
