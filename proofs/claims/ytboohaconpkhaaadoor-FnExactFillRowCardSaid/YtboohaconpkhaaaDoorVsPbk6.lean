import Derived.Test.YtboohaconpkhaaaDoorProg
import Derived.Test.YtboohaconpkhaaaDoorVsPbk5
set_option linter.all false
namespace Go.Vs
open Go.Proofs
set_option maxRecDepth 100000
set_option linter.unusedVariables false
noncomputable def a_s_FillRow : An := .d
theorem h_s_FillRow (x : (List UInt8) × (Int × List UInt8) × (Int × List UInt8) × Int × Bool) : fnX (P := Tryd.prog) [.see e_s_l9Copy, .see e_s_RowOk, .see e_s_l9New, .see
 e_s_Turn] [] (sOf Tryd.prog Tryd.f48) a_s_FillRow (iOf Tryd.prog Tryd.f48) [(true, .P .S (.P (.P (.I .i64) (.L .Y)) (.P (.P (.I .i64) (.L .Y)) (.P (.I .i64) .B))))] [(true, .P .S
 (.P (.P (.I .i64) (.L .Y)) (.P (.P (.I .i64) (.L .Y)) (.P (.I .i64) .B))))] x = F_s_FillRow x := by kernel_rfl
noncomputable def e_s_FillRow : SEnt Tryd.prog := ⟨48, [(true, .P .S (.P (.P (.I .i64) (.L .Y)) (.P (.P (.I .i64) (.L .Y)) (.P (.I .i64) .B))))], [(true, .P .S (.P (.P (.I .i64)
 (.L .Y)) (.P (.P (.I .i64) (.L .Y)) (.P (.I .i64) .B))))], F_s_FillRow, runs_see mixed_Pb Tryd.func48 (by kernel_rfl) h_s_FillRow⟩
noncomputable def a_i_copyRow : An := .d
theorem h_i_copyRow (x : (List UInt8) × (Int × List UInt8) × (Int × List UInt8) × Int × Bool) : fnX (P := Tryd.prog) [.see e_i_copyCell] [] (sOf Tryd.prog Tryd.f94) a_i_copyRow
 (iOf Tryd.prog Tryd.f94) [(true, .P .S (.P (.P (.I .i64) (.L .Y)) (.P (.P (.I .i64) (.L .Y)) (.P (.I .i64) .B))))] [(true, .P .S (.P (.P (.I .i64) (.L .Y)) (.P (.P (.I .i64) (.L
 .Y)) (.P (.I .i64) .B))))] x = F_i_copyRow x := by kernel_rfl
noncomputable def e_i_copyRow : SEnt Tryd.prog := ⟨94, [(true, .P .S (.P (.P (.I .i64) (.L .Y)) (.P (.P (.I .i64) (.L .Y)) (.P (.I .i64) .B))))], [(true, .P .S (.P (.P (.I .i64)
 (.L .Y)) (.P (.P (.I .i64) (.L .Y)) (.P (.I .i64) .B))))], F_i_copyRow, runs_see mixed_Pb Tryd.func94 (by kernel_rfl) h_i_copyRow⟩
noncomputable def a_i_sameCell : An := .d
theorem h_i_sameCell (x : (Int × List UInt8) × Int × List UInt8) : fnX (P := Tryd.prog) [] [] (sOf Tryd.prog Tryd.f99) a_i_sameCell (iOf Tryd.prog Tryd.f99) [(true, .P (.I .i64)
 (.L .Y)), (true, .P (.I .i64) (.L .Y))] [(false, .B)] x = F_i_sameCell x := by kernel_rfl
noncomputable def e_i_sameCell : SEnt Tryd.prog := ⟨99, [(true, .P (.I .i64) (.L .Y)), (true, .P (.I .i64) (.L .Y))], [(false, .B)], F_i_sameCell, runs_see mixed_Pb Tryd.func99 (by
 kernel_rfl) h_i_sameCell⟩
noncomputable def a_i_SameText : An := .d
theorem h_i_SameText (x : (Int × List UInt8) × Int × List UInt8) : fnX (P := Tryd.prog) [.see e_i_CellText] [] (sOf Tryd.prog Tryd.f36) a_i_SameText (iOf Tryd.prog Tryd.f36)
 [(true, .P (.I .i64) (.L .Y)), (true, .P (.I .i64) (.L .Y))] [(false, .B)] x = F_i_SameText x := by kernel_rfl
noncomputable def e_i_SameText : SEnt Tryd.prog := ⟨36, [(true, .P (.I .i64) (.L .Y)), (true, .P (.I .i64) (.L .Y))], [(false, .B)], F_i_SameText, runs_see mixed_Pb Tryd.func36 (by
 kernel_rfl) h_i_SameText⟩
noncomputable def a_i_RowOk : An := (.sq none .d (.sq none .d (.sq none .d (.sq none .d (.sq none .d (.sq (some [.kt 1, .kt 6, .lt 7 .B]) .d (.sq none .d (.sq (some [.kt 1, .kt 7,
 .lt 8 .B]) .d .d))))))))
theorem h_i_RowOk (x : (List UInt8) × (Int × List UInt8) × (Int × List UInt8) × Int × Bool) : fnX (P := Tryd.prog) [.see e_i_NameOk, .see e_i_within, .see e_i_CellText, .see
 e_i_sameCell, .see e_i_CellOk, .see e_i_SameText] [] (sOf Tryd.prog Tryd.f54) a_i_RowOk (iOf Tryd.prog Tryd.f54) [(true, .P .S (.P (.P (.I .i64) (.L .Y)) (.P (.P (.I .i64) (.L
 .Y)) (.P (.I .i64) .B))))] [(false, .B)] x = F_i_RowOk x := by kernel_rfl
noncomputable def e_i_RowOk : SEnt Tryd.prog := ⟨54, [(true, .P .S (.P (.P (.I .i64) (.L .Y)) (.P (.P (.I .i64) (.L .Y)) (.P (.I .i64) .B))))], [(false, .B)], F_i_RowOk, runs_see
 mixed_Pb Tryd.func54 (by kernel_rfl) h_i_RowOk⟩
noncomputable def a_i_FillRow : An := .d
theorem h_i_FillRow (x : (List UInt8) × (Int × List UInt8) × (Int × List UInt8) × Int × Bool) : fnX (P := Tryd.prog) [.see e_i_copyRow, .see e_i_RowOk, .see e_i_Turn] [] (sOf
 Tryd.prog Tryd.f50) a_i_FillRow (iOf Tryd.prog Tryd.f50) [(true, .P .S (.P (.P (.I .i64) (.L .Y)) (.P (.P (.I .i64) (.L .Y)) (.P (.I .i64) .B))))] [(true, .P .S (.P (.P (.I .i64)
 (.L .Y)) (.P (.P (.I .i64) (.L .Y)) (.P (.I .i64) .B))))] x = F_i_FillRow x := by kernel_rfl
noncomputable def e_i_FillRow : SEnt Tryd.prog := ⟨50, [(true, .P .S (.P (.P (.I .i64) (.L .Y)) (.P (.P (.I .i64) (.L .Y)) (.P (.I .i64) .B))))], [(true, .P .S (.P (.P (.I .i64)
 (.L .Y)) (.P (.P (.I .i64) (.L .Y)) (.P (.I .i64) .B))))], F_i_FillRow, runs_see mixed_Pb Tryd.func50 (by kernel_rfl) h_i_FillRow⟩
noncomputable def a_l_FnExactFillRow : An := .d
theorem h_l_FnExactFillRow (x : (List UInt8) × (Int × List UInt8) × (Int × List UInt8) × Int × Bool) : fnX (P := Tryd.prog) [.see e_l_szRow, .see e_l_toRow, .see e_s_FillRow, .see
 e_i_FillRow, .see e_l_eqRow, .gen e_l_markRow, .see e_l_heldRow] [] (sOf Tryd.prog Tryd.f9) a_l_FnExactFillRow (iOf Tryd.prog Tryd.f9) [(true, .P .S (.P (.P (.I .i64) (.L .Y))
 (.P (.P (.I .i64) (.L .Y)) (.P (.I .i64) .B))))] [(false, .B)] x = F_l_FnExactFillRow x := by kernel_rfl
noncomputable def e_l_FnExactFillRow : SEnt Tryd.prog := ⟨9, [(true, .P .S (.P (.P (.I .i64) (.L .Y)) (.P (.P (.I .i64) (.L .Y)) (.P (.I .i64) .B))))], [(false, .B)],
 F_l_FnExactFillRow, runs_see mixed_Pb Tryd.func9 (by kernel_rfl) h_l_FnExactFillRow⟩
end Go.Vs
