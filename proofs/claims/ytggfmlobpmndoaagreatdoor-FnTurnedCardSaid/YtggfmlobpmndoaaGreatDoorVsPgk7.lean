import Derived.Test.YtggfmlobpmndoaaGreatDoorProg
import Derived.Test.YtggfmlobpmndoaaGreatDoorVsPgk6
set_option linter.all false
namespace Go.Vs
open Go.Proofs
set_option maxRecDepth 100000
noncomputable def a_l_sameCell:An:=.d
theorem h_l_sameCell (x:(Int × List UInt8) × Int × List UInt8):fnX (P:=Tryz.prog) [] [] (sOf Tryz.prog Tryz.f34) a_l_sameCell (iOf Tryz.prog Tryz.f34) [(true,.P (.I .i64)
 (.L .Y)),(true,.P (.I .i64) (.L .Y))] [(false,.B)] x = F_l_sameCell x:=by kernel_rfl
noncomputable def e_l_sameCell:SEnt Tryz.prog:=⟨34,[(true,.P (.I .i64) (.L .Y)),(true,.P (.I .i64) (.L .Y))],[(false,.B)],F_l_sameCell,runs_see mixed_Pg Tryz.func34 (by
 kernel_rfl) h_l_sameCell⟩
noncomputable def a_l_sameRow:An:=.d
theorem h_l_sameRow (x:((List UInt8) × (Int × List UInt8) × (Int × List UInt8) × Int × Bool) × (List UInt8) × (Int × List UInt8) × (Int × List UInt8) × Int × Bool):fnX (P :=
 Tryz.prog) [.see e_l_sameCell] [] (sOf Tryz.prog Tryz.f18) a_l_sameRow (iOf Tryz.prog Tryz.f18) [(true,.P .S (.P (.P (.I .i64) (.L .Y)) (.P (.P (.I .i64) (.L .Y)) (.P (.I .i64)
 .B)))),(true,.P .S (.P (.P (.I .i64) (.L .Y)) (.P (.P (.I .i64) (.L .Y)) (.P (.I .i64) .B))))] [(false,.B)] x = F_l_sameRow x:=by kernel_rfl
noncomputable def e_l_sameRow:SEnt Tryz.prog:=⟨18,[(true,.P .S (.P (.P (.I .i64) (.L .Y)) (.P (.P (.I .i64) (.L .Y)) (.P (.I .i64) .B)))),(true,.P .S (.P (.P (.I .i64) (.L
 .Y)) (.P (.P (.I .i64) (.L .Y)) (.P (.I .i64) .B))))],[(false,.B)],F_l_sameRow,runs_see mixed_Pg Tryz.func18 (by kernel_rfl) h_l_sameRow⟩
noncomputable def a_s_DrawRow:An:=.d
theorem h_s_DrawRow (x:List UInt8):fnX (P:=Tryz.prog) [.cur e_s_l1New,.gen e_s_l9Draw] [] (sOf Tryz.prog Tryz.f19) a_s_DrawRow (iOf Tryz.prog Tryz.f19) [(false,.L .Y)]
 [(true,.P .S (.P (.P (.I .i64) (.L .Y)) (.P (.P (.I .i64) (.L .Y)) (.P (.I .i64) .B))))] x = F_s_DrawRow x:=by kernel_rfl
noncomputable def e_s_DrawRow:SEnt Tryz.prog:=⟨19,[(false,.L .Y)],[(true,.P .S (.P (.P (.I .i64) (.L .Y)) (.P (.P (.I .i64) (.L .Y)) (.P (.I .i64) .B))))],F_s_DrawRow,
 runs_see mixed_Pg Tryz.func19 (by kernel_rfl) h_s_DrawRow⟩
noncomputable def a_i_copyCell:An:=.d
theorem h_i_copyCell (x:Int × List UInt8):fnX (P:=Tryz.prog) [.see e_i_joined] [(7,.sb)] (sOf Tryz.prog Tryz.f180) a_i_copyCell (iOf Tryz.prog Tryz.f180) [(true,.P (.I
 .i64) (.L .Y))] [(true,.P (.I .i64) (.L .Y))] x = F_i_copyCell x:=by kernel_rfl
noncomputable def e_i_copyCell:SEnt Tryz.prog:=⟨180,[(true,.P (.I .i64) (.L .Y))],[(true,.P (.I .i64) (.L .Y))],F_i_copyCell,runs_see mixed_Pg Tryz.func180 (by
 kernel_rfl) h_i_copyCell⟩
noncomputable def a_i_copyRow:An:=.d
theorem h_i_copyRow (x:(List UInt8) × (Int × List UInt8) × (Int × List UInt8) × Int × Bool):fnX (P:=Tryz.prog) [.see e_i_copyCell] [] (sOf Tryz.prog Tryz.f97) a_i_copyRow
 (iOf Tryz.prog Tryz.f97) [(true,.P .S (.P (.P (.I .i64) (.L .Y)) (.P (.P (.I .i64) (.L .Y)) (.P (.I .i64) .B))))] [(true,.P .S (.P (.P (.I .i64) (.L .Y)) (.P (.P (.I .i64) (.L
 .Y)) (.P (.I .i64) .B))))] x = F_i_copyRow x:=by kernel_rfl
noncomputable def e_i_copyRow:SEnt Tryz.prog:=⟨97,[(true,.P .S (.P (.P (.I .i64) (.L .Y)) (.P (.P (.I .i64) (.L .Y)) (.P (.I .i64) .B))))],[(true,.P .S (.P (.P (.I .i64)
 (.L .Y)) (.P (.P (.I .i64) (.L .Y)) (.P (.I .i64) .B))))],F_i_copyRow,runs_see mixed_Pg Tryz.func97 (by kernel_rfl) h_i_copyRow⟩
noncomputable def a_utf8_word:An:=.d
theorem h_utf8_word (x:List UInt8):fnX (P:=Tryz.prog) [] [] (sOf Tryz.prog Tryz.f264) a_utf8_word (iOf Tryz.prog Tryz.f264) [(false,.S)] [(false,.I .u64)] x = F_utf8_word x
 := by kernel_rfl
noncomputable def e_utf8_word:SEnt Tryz.prog:=⟨264,[(false,.S)],[(false,.I .u64)],F_utf8_word,runs_see mixed_Pg Tryz.func264 (by kernel_rfl) h_utf8_word⟩
end Go.Vs
