import Derived.Test.YtlndmcdpndcgjaaDoorProg
import Derived.Test.YtlndmcdpndcgjaaDoorVsPck2
set_option linter.all false
namespace Go.Vs
open Go.Proofs
set_option maxRecDepth 100000
set_option linter.unusedVariables false
noncomputable def a_l_eqByteS : An := (.sq none .d (.sq none .d (.sq none (.sq none .d (.bl (.lp [.kt 0, .kt 1, .lt 5 (.I .i64)] .d))) .d)))
theorem h_l_eqByteS (x : (List UInt8) × List UInt8) : fnX (P := Tryd.prog) [] [] (sOf Tryd.prog Tryd.f35) a_l_eqByteS (iOf Tryd.prog Tryd.f35) [(false, .L .Y), (false, .L .Y)]
 [(false, .B)] x = F_l_eqByteS x := by kernel_rfl
noncomputable def e_l_eqByteS : SEnt Tryd.prog := ⟨35, [(false, .L .Y), (false, .L .Y)], [(false, .B)], F_l_eqByteS, runs_see mixed_Pc Tryd.func35 (by kernel_rfl) h_l_eqByteS⟩
noncomputable def a_l_eqCell : An := .d
theorem h_l_eqCell (x : (Int × List UInt8) × Int × List UInt8) : fnX (P := Tryd.prog) [.see e_l_eqByteS] [] (sOf Tryd.prog Tryd.f18) a_l_eqCell (iOf Tryd.prog Tryd.f18) [(true, .P
 (.I .i64) (.L .Y)), (true, .P (.I .i64) (.L .Y))] [(false, .B)] x = F_l_eqCell x := by kernel_rfl
noncomputable def e_l_eqCell : SEnt Tryd.prog := ⟨18, [(true, .P (.I .i64) (.L .Y)), (true, .P (.I .i64) (.L .Y))], [(false, .B)], F_l_eqCell, runs_see mixed_Pc Tryd.func18 (by
 kernel_rfl) h_l_eqCell⟩
noncomputable def a_l_szRow : An := .d
theorem h_l_szRow (x : ((List UInt8) × (Int × List UInt8) × (Int × List UInt8) × Int × Bool) × Int) : fnX (P := Tryd.prog) [.see e_l_szCell] [] (sOf Tryd.prog Tryd.f19) a_l_szRow
 (iOf Tryd.prog Tryd.f19) [(true, .P .S (.P (.P (.I .i64) (.L .Y)) (.P (.P (.I .i64) (.L .Y)) (.P (.I .i64) .B)))), (false, .I .i64)] [(false, .I .i64)] x = F_l_szRow x := by
 kernel_rfl
noncomputable def e_l_szRow : SEnt Tryd.prog := ⟨19, [(true, .P .S (.P (.P (.I .i64) (.L .Y)) (.P (.P (.I .i64) (.L .Y)) (.P (.I .i64) .B)))), (false, .I .i64)], [(false, .I
 .i64)], F_l_szRow, runs_see mixed_Pc Tryd.func19 (by kernel_rfl) h_l_szRow⟩
noncomputable def a_l_toRow : An := .d
theorem h_l_toRow (x : (List UInt8) × (Int × List UInt8) × (Int × List UInt8) × Int × Bool) : fnX (P := Tryd.prog) [.see e_l_toCell] [] (sOf Tryd.prog Tryd.f21) a_l_toRow (iOf
 Tryd.prog Tryd.f21) [(true, .P .S (.P (.P (.I .i64) (.L .Y)) (.P (.P (.I .i64) (.L .Y)) (.P (.I .i64) .B))))] [(true, .P .S (.P (.P (.I .i64) (.L .Y)) (.P (.P (.I .i64) (.L .Y))
 (.P (.I .i64) .B))))] x = F_l_toRow x := by kernel_rfl
noncomputable def e_l_toRow : SEnt Tryd.prog := ⟨21, [(true, .P .S (.P (.P (.I .i64) (.L .Y)) (.P (.P (.I .i64) (.L .Y)) (.P (.I .i64) .B))))], [(true, .P .S (.P (.P (.I .i64) (.L
 .Y)) (.P (.P (.I .i64) (.L .Y)) (.P (.I .i64) .B))))], F_l_toRow, runs_see mixed_Pc Tryd.func21 (by kernel_rfl) h_l_toRow⟩
noncomputable def a_s_l9New : An := .d
theorem h_s_l9New (x : (List UInt8) × (Int × List UInt8) × (Int × List UInt8) × Int × Bool) : fnX (P := Tryd.prog) [] [] (sOf Tryd.prog Tryd.f62) a_s_l9New (iOf Tryd.prog Tryd.f62)
 [(true, .P .S (.P (.P (.I .i64) (.L .Y)) (.P (.P (.I .i64) (.L .Y)) (.P (.I .i64) .B))))] [(false, .B)] x = F_s_l9New x := by kernel_rfl
noncomputable def e_s_l9New : SEnt Tryd.prog := ⟨62, [(true, .P .S (.P (.P (.I .i64) (.L .Y)) (.P (.P (.I .i64) (.L .Y)) (.P (.I .i64) .B))))], [(false, .B)], F_s_l9New, runs_see
 mixed_Pc Tryd.func62 (by kernel_rfl) h_s_l9New⟩
noncomputable def a_l_eqRow : An := .d
theorem h_l_eqRow (x : ((List UInt8) × (Int × List UInt8) × (Int × List UInt8) × Int × Bool) × (List UInt8) × (Int × List UInt8) × (Int × List UInt8) × Int × Bool) : fnX (P :=
 Tryd.prog) [.see e_l_eqCell] [] (sOf Tryd.prog Tryd.f23) a_l_eqRow (iOf Tryd.prog Tryd.f23) [(true, .P .S (.P (.P (.I .i64) (.L .Y)) (.P (.P (.I .i64) (.L .Y)) (.P (.I .i64)
 .B)))), (true, .P .S (.P (.P (.I .i64) (.L .Y)) (.P (.P (.I .i64) (.L .Y)) (.P (.I .i64) .B))))] [(false, .B)] x = F_l_eqRow x := by kernel_rfl
noncomputable def e_l_eqRow : SEnt Tryd.prog := ⟨23, [(true, .P .S (.P (.P (.I .i64) (.L .Y)) (.P (.P (.I .i64) (.L .Y)) (.P (.I .i64) .B)))), (true, .P .S (.P (.P (.I .i64) (.L
 .Y)) (.P (.P (.I .i64) (.L .Y)) (.P (.I .i64) .B))))], [(false, .B)], F_l_eqRow, runs_see mixed_Pc Tryd.func23 (by kernel_rfl) h_l_eqRow⟩
noncomputable def a_s_NameOk : An := (.sq none .d (.sq (some [.kt 0]) (.sq none .d (.bl (.lp [.kt 0, .lt 3 (.I .i64)] .d))) .d))
theorem h_s_NameOk (x : List UInt8) : fnX (P := Tryd.prog) [.see e_s_l1In] [] (sOf Tryd.prog Tryd.f63) a_s_NameOk (iOf Tryd.prog Tryd.f63) [(false, .S)] [(false, .B)] x =
 F_s_NameOk x := by kernel_rfl
noncomputable def e_s_NameOk : SEnt Tryd.prog := ⟨63, [(false, .S)], [(false, .B)], F_s_NameOk, runs_see mixed_Pc Tryd.func63 (by kernel_rfl) h_s_NameOk⟩
noncomputable def a_s_l9Old : An := .d
theorem h_s_l9Old (x : (List UInt8) × (Int × List UInt8) × (Int × List UInt8) × Int × Bool) : fnX (P := Tryd.prog) [] [] (sOf Tryd.prog Tryd.f65) a_s_l9Old (iOf Tryd.prog Tryd.f65)
 [(true, .P .S (.P (.P (.I .i64) (.L .Y)) (.P (.P (.I .i64) (.L .Y)) (.P (.I .i64) .B))))] [(false, .B)] x = F_s_l9Old x := by kernel_rfl
noncomputable def e_s_l9Old : SEnt Tryd.prog := ⟨65, [(true, .P .S (.P (.P (.I .i64) (.L .Y)) (.P (.P (.I .i64) (.L .Y)) (.P (.I .i64) .B))))], [(false, .B)], F_s_l9Old, runs_see
 mixed_Pc Tryd.func65 (by kernel_rfl) h_s_l9Old⟩
noncomputable def a_s_l9None : An := .d
theorem h_s_l9None (x : Int × List UInt8) : fnX (P := Tryd.prog) [] [] (sOf Tryd.prog Tryd.f66) a_s_l9None (iOf Tryd.prog Tryd.f66) [(true, .P (.I .i64) (.L .Y))] [(false, .B)] x =
 F_s_l9None x := by kernel_rfl
noncomputable def e_s_l9None : SEnt Tryd.prog := ⟨66, [(true, .P (.I .i64) (.L .Y))], [(false, .B)], F_s_l9None, runs_see mixed_Pc Tryd.func66 (by kernel_rfl) h_s_l9None⟩
noncomputable def a_s_RowOk : An := .d
theorem h_s_RowOk (x : (List UInt8) × (Int × List UInt8) × (Int × List UInt8) × Int × Bool) : fnX (P := Tryd.prog) [.see e_s_NameOk, .see e_s_l1In, .see e_s_l9Old, .see e_s_l9None,
 .see e_s_l9New, .see e_s_CellText, .see e_s_CellOk, .see e_s_SameText] [] (sOf Tryd.prog Tryd.f24) a_s_RowOk (iOf Tryd.prog Tryd.f24) [(true, .P .S (.P (.P (.I .i64) (.L .Y)) (.P
 (.P (.I .i64) (.L .Y)) (.P (.I .i64) .B))))] [(false, .B)] x = F_s_RowOk x := by kernel_rfl
noncomputable def e_s_RowOk : SEnt Tryd.prog := ⟨24, [(true, .P .S (.P (.P (.I .i64) (.L .Y)) (.P (.P (.I .i64) (.L .Y)) (.P (.I .i64) .B))))], [(false, .B)], F_s_RowOk, runs_see
 mixed_Pc Tryd.func24 (by kernel_rfl) h_s_RowOk⟩
end Go.Vs
