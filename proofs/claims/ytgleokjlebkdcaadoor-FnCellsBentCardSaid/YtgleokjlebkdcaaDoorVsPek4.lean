import Derived.Test.YtgleokjlebkdcaaDoorProg
import Derived.Test.YtgleokjlebkdcaaDoorVsPek3
set_option linter.all false
namespace Go.Vs
open Go.Proofs
set_option maxRecDepth 100000
set_option linter.unusedVariables false
noncomputable def a_s_Decode : An := (.sq none .d (.sq none .d (.sq none .d (.sq (some [.ot 6 .Y]) (.sq none .d (.bl (.lp [.kt 0, .kt 1, .ot 6 .Y, .lt 7 (.I .i64)] .d))) .d))))
theorem h_s_Decode (x : Int × List UInt8) : fnX (P := Tryd.prog) [.see e_s_l5Cs, .see e_s_l5Get, .see e_s_PutSign] [(11, .el .Y)] (sOf Tryd.prog Tryd.f36) a_s_Decode (iOf Tryd.prog
 Tryd.f36) [(false, .I .i64), (false, .L .Y)] [(false, .S), (false, .B)] x = F_s_Decode x := by kernel_rfl
noncomputable def e_s_Decode : SEnt Tryd.prog := ⟨36, [(false, .I .i64), (false, .L .Y)], [(false, .S), (false, .B)], F_s_Decode, runs_see mixed_Pe Tryd.func36 (by kernel_rfl)
 h_s_Decode⟩
noncomputable def a_s_CellText : An := .d
theorem h_s_CellText (x : Int × List UInt8) : fnX (P := Tryd.prog) [.see e_s_CellOk, .see e_s_Decode] [] (sOf Tryd.prog Tryd.f10) a_s_CellText (iOf Tryd.prog Tryd.f10) [(true, .P
 (.I .i64) (.L .Y))] [(false, .S), (false, .B)] x = F_s_CellText x := by kernel_rfl
noncomputable def e_s_CellText : SEnt Tryd.prog := ⟨10, [(true, .P (.I .i64) (.L .Y))], [(false, .S), (false, .B)], F_s_CellText, runs_see mixed_Pe Tryd.func10 (by kernel_rfl)
 h_s_CellText⟩
noncomputable def a_l_FnCellsBent : An := .d
theorem h_l_FnCellsBent (x : List UInt8) : fnX (P := Tryd.prog) [.see e_l_big, .see e_s_DrawCellOk, .see e_s_DrawCellText, .see e_i_CellText, .see e_s_CellText, .see e_i_CellOk,
 .see e_s_CellOk] [] (sOf Tryd.prog Tryd.f3) a_l_FnCellsBent (iOf Tryd.prog Tryd.f3) [(false, .L .Y)] [(false, .B)] x = F_l_FnCellsBent x := by kernel_rfl
noncomputable def e_l_FnCellsBent : SEnt Tryd.prog := ⟨3, [(false, .L .Y)], [(false, .B)], F_l_FnCellsBent, runs_see mixed_Pe Tryd.func3 (by kernel_rfl) h_l_FnCellsBent⟩
end Go.Vs
