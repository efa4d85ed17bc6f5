import Derived.Test.YtlndmcdpndcgjaaDoorProg
import Derived.Test.YtlndmcdpndcgjaaDoorVsPck2
set_option linter.all false
namespace Go.Vs
open Go.Proofs
set_option maxRecDepth 100000
set_option linter.unusedVariables false
noncomputable def a_l_eqByteS : An := (.sq none .d (.sq none .d (.sq none (.sq none .d (.bl (.lp [.kt 0, .kt 1, .lt 5 (.I .i64)] .d))) .d)))
theorem h_l_eqByteS (x : (List UInt8) × List UInt8) : fnX (P := Tryd.prog) [] [] (sOf Tryd.prog Tryd.f35) a_l_eqByteS (iOf Tryd.prog Tryd.f35) [(false, .L .Y), (false, .L .Y)]
  [(false, .B)] x = F_l_eqByteS x := by kernel_rfl
noncomputable def e_l_eqByteS : SEnt Tryd.prog := ⟨35, [(false, .L .Y), (false, .L .Y)], [(false, .B)], F_l_eqByteS, runs_see mixed_Pc Tryd.func35 (by kernel_rfl) h_l_eqByteS⟩
noncomputable def a_l_eqCell : An := .d
theorem h_l_eqCell (x : (Int × List UInt8) × Int × List UInt8) : fnX (P := Tryd.prog) [.see e_l_eqByteS] [] (sOf Tryd.prog Tryd.f18) a_l_eqCell (iOf Tryd.prog Tryd.f18) [(true, .P
  (.I .i64) (.L .Y)), (true, .P (.I .i64) (.L .Y))] [(false, .B)] x = F_l_eqCell x := by kernel_rfl
noncomputable def e_l_eqCell : SEnt Tryd.prog := ⟨18, [(true, .P (.I .i64) (.L .Y)), (true, .P (.I .i64) (.L .Y))], [(false, .B)], F_l_eqCell, runs_see mixed_Pc Tryd.func18 (by
  kernel_rfl) h_l_eqCell⟩
noncomputable def a_l_szRow : An := .d
theorem h_l_szRow (x : ((List UInt8) × (Int × List UInt8) × (Int × List UInt8) × Int × Bool) × Int) : fnX (P := Tryd.prog) [.see e_l_szCell] [] (sOf Tryd.prog Tryd.f19) a_l_szRow
  (iOf Tryd.prog Tryd.f19) [(true, .P .S (.P (.P (.I .i64) (.L .Y)) (.P (.P (.I .i64) (.L .Y)) (.P (.I .i64) .B)))), (false, .I .i64)] [(false, .I .i64)] x = F_l_szRow x := by
  kernel_rfl
noncomputable def e_l_szRow : SEnt Tryd.prog := ⟨19, [(true, .P .S (.P (.P (.I .i64) (.L .Y)) (.P (.P (.I .i64) (.L .Y)) (.P (.I .i64) .B)))), (false, .I .i64)], [(false, .I
  .i64)], F_l_szRow, runs_see mixed_Pc Tryd.func19 (by kernel_rfl) h_l_szRow⟩
noncomputable def a_l_toRow : An := .d
theorem h_l_toRow (x : (List UInt8) × (Int × List UInt8) × (Int × List UInt8) × Int × Bool) : fnX (P := Tryd.prog) [.see e_l_toCell] [] (sOf Tryd.prog Tryd.f21) a_l_toRow (iOf
  Tryd.prog Tryd.f21) [(true, .P .S (.P (.P (.I .i64) (.L .Y)) (.P (.P (.I .i64) (.L .Y)) (.P (.I .i64) .B))))] [(true, .P .S (.P (.P (.I .i64) (.L .Y)) (.P (.P (.I .i64) (.L .Y))
  (.P (.I .i64) .B))))] x = F_l_toRow x := by kernel_rfl
noncomputable def e_l_toRow : SEnt Tryd.prog := ⟨21, [(true, .P .S (.P (.P (.I .i64) (.L .Y)) (.P (.P (.I .i64) (.L .Y)) (.P (.I .i64) .B))))], [(true, .P .S (.P (.P (.I .i64) (.L
  .Y)) (.P (.P (.I .i64) (.L .Y)) (.P (.I .i64) .B))))], F_l_toRow, runs_see mixed_Pc Tryd.func21 (by kernel_rfl) h_l_toRow⟩
noncomputable def a_s_l9New : An := .d
theorem h_s_l9New (x : (List UInt8) × (Int × List UInt8) × (Int × List UInt8) × Int × Bool) : fnX (P := Tryd.prog) [] [] (sOf Tryd.prog Tryd.f62) a_s_l9New (iOf Tryd.prog Tryd.f62)
  [(true, .P .S (.P (.P (.I .i64) (.L .Y)) (.P (.P (.I .i64) (.L .Y)) (.P (.I .i64) .B))))] [(false, .B)] x = F_s_l9New x := by kernel_rfl
noncomputable def e_s_l9New : SEnt Tryd.prog := ⟨62, [(true, .P .S (.P (.P (.I .i64) (.L .Y)) (.P (.P (.I .i64) (.L .Y)) (.P (.I .i64) .B))))], [(false, .B)], F_s_l9New, runs_see
  mixed_Pc Tryd.func62 (by kernel_rfl) h_s_l9New⟩
noncomputable def a_s_RowText : An := .d
theorem h_s_RowText (x : (List UInt8) × (Int × List UInt8) × (Int × List UInt8) × Int × Bool) : fnX (P := Tryd.prog) [.see e_s_l9New, .see e_s_CellText] [] (sOf Tryd.prog Tryd.f20)
  a_s_RowText (iOf Tryd.prog Tryd.f20) [(true, .P .S (.P (.P (.I .i64) (.L .Y)) (.P (.P (.I .i64) (.L .Y)) (.P (.I .i64) .B))))] [(false, .S), (false, .B)] x = F_s_RowText x := by
  kernel_rfl
noncomputable def e_s_RowText : SEnt Tryd.prog := ⟨20, [(true, .P .S (.P (.P (.I .i64) (.L .Y)) (.P (.P (.I .i64) (.L .Y)) (.P (.I .i64) .B))))], [(false, .S), (false, .B)],
  F_s_RowText, runs_see mixed_Pc Tryd.func20 (by kernel_rfl) h_s_RowText⟩
noncomputable def a_i_RowText : An := .d
theorem h_i_RowText (x : (List UInt8) × (Int × List UInt8) × (Int × List UInt8) × Int × Bool) : fnX (P := Tryd.prog) [.see e_i_CellText] [] (sOf Tryd.prog Tryd.f22) a_i_RowText
  (iOf Tryd.prog Tryd.f22) [(true, .P .S (.P (.P (.I .i64) (.L .Y)) (.P (.P (.I .i64) (.L .Y)) (.P (.I .i64) .B))))] [(false, .S), (false, .B)] x = F_i_RowText x := by kernel_rfl
noncomputable def e_i_RowText : SEnt Tryd.prog := ⟨22, [(true, .P .S (.P (.P (.I .i64) (.L .Y)) (.P (.P (.I .i64) (.L .Y)) (.P (.I .i64) .B))))], [(false, .S), (false, .B)],
  F_i_RowText, runs_see mixed_Pc Tryd.func22 (by kernel_rfl) h_i_RowText⟩
noncomputable def a_l_eqRow : An := .d
theorem h_l_eqRow (x : ((List UInt8) × (Int × List UInt8) × (Int × List UInt8) × Int × Bool) × (List UInt8) × (Int × List UInt8) × (Int × List UInt8) × Int × Bool) : fnX (P :=
  Tryd.prog) [.see e_l_eqCell] [] (sOf Tryd.prog Tryd.f23) a_l_eqRow (iOf Tryd.prog Tryd.f23) [(true, .P .S (.P (.P (.I .i64) (.L .Y)) (.P (.P (.I .i64) (.L .Y)) (.P (.I .i64)
  .B)))), (true, .P .S (.P (.P (.I .i64) (.L .Y)) (.P (.P (.I .i64) (.L .Y)) (.P (.I .i64) .B))))] [(false, .B)] x = F_l_eqRow x := by kernel_rfl
noncomputable def e_l_eqRow : SEnt Tryd.prog := ⟨23, [(true, .P .S (.P (.P (.I .i64) (.L .Y)) (.P (.P (.I .i64) (.L .Y)) (.P (.I .i64) .B)))), (true, .P .S (.P (.P (.I .i64) (.L
  .Y)) (.P (.P (.I .i64) (.L .Y)) (.P (.I .i64) .B))))], [(false, .B)], F_l_eqRow, runs_see mixed_Pc Tryd.func23 (by kernel_rfl) h_l_eqRow⟩
noncomputable def a_l_FnExactRowText : An := .d
theorem h_l_FnExactRowText (x : (List UInt8) × (Int × List UInt8) × (Int × List UInt8) × Int × Bool) : fnX (P := Tryd.prog) [.see e_l_szRow, .see e_l_toRow, .see e_s_RowText, .see
  e_i_RowText, .see e_l_eqRow] [] (sOf Tryd.prog Tryd.f4) a_l_FnExactRowText (iOf Tryd.prog Tryd.f4) [(true, .P .S (.P (.P (.I .i64) (.L .Y)) (.P (.P (.I .i64) (.L .Y)) (.P (.I
  .i64) .B))))] [(false, .B)] x = F_l_FnExactRowText x := by kernel_rfl
noncomputable def e_l_FnExactRowText : SEnt Tryd.prog := ⟨4, [(true, .P .S (.P (.P (.I .i64) (.L .Y)) (.P (.P (.I .i64) (.L .Y)) (.P (.I .i64) .B))))], [(false, .B)],
  F_l_FnExactRowText, runs_see mixed_Pc Tryd.func4 (by kernel_rfl) h_l_FnExactRowText⟩
end Go.Vs
