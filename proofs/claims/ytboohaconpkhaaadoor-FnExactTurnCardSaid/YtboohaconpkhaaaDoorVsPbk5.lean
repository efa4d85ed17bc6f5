import Derived.Test.YtboohaconpkhaaaDoorProg
import Derived.Test.YtboohaconpkhaaaDoorVsPbk4
set_option linter.all false
namespace Go.Vs
open Go.Proofs
set_option maxRecDepth 100000
set_option linter.unusedVariables false
noncomputable def a_i_signIn : An := .d
theorem h_i_signIn (x : Int × (List UInt8) × Int) : fnX (P := Tryd.prog) [.see e_i_GetSign, .see e_i_EucSign, .see e_i_ByteSign] [] (sOf Tryd.prog Tryd.f107) a_i_signIn (iOf
 Tryd.prog Tryd.f107) [(false, .I .i64), (false, .L .Y), (false, .I .i64)] [(false, .I .i64), (false, .I .i64), (false, .B)] x = F_i_signIn x := by kernel_rfl
noncomputable def e_i_signIn : SEnt Tryd.prog := ⟨107, [(false, .I .i64), (false, .L .Y), (false, .I .i64)], [(false, .I .i64), (false, .I .i64), (false, .B)], F_i_signIn, runs_see
 mixed_Pb Tryd.func107 (by kernel_rfl) h_i_signIn⟩
noncomputable def a_i_Decode : An := (.sq none .d (.sq none .d (.sq none .d (.sq (some [.ot 6 .Y]) (.sq none .d (.bl (.lp [.kt 0, .kt 1, .ot 6 .Y, .lt 7 (.I .i64)] .d))) .d))))
theorem h_i_Decode (x : Int × List UInt8) : fnX (P := Tryd.prog) [.see e_i_isSet, .see e_i_signIn, .see e_i_PutSign] [(14, .el .Y)] (sOf Tryd.prog Tryd.f66) a_i_Decode (iOf
 Tryd.prog Tryd.f66) [(false, .I .i64), (false, .L .Y)] [(false, .S), (false, .B)] x = F_i_Decode x := by kernel_rfl
noncomputable def e_i_Decode : SEnt Tryd.prog := ⟨66, [(false, .I .i64), (false, .L .Y)], [(false, .S), (false, .B)], F_i_Decode, runs_see mixed_Pb Tryd.func66 (by kernel_rfl)
 h_i_Decode⟩
noncomputable def a_i_CellText : An := .d
theorem h_i_CellText (x : Int × List UInt8) : fnX (P := Tryd.prog) [.see e_i_CellOk, .see e_i_Decode] [] (sOf Tryd.prog Tryd.f24) a_i_CellText (iOf Tryd.prog Tryd.f24) [(true, .P
 (.I .i64) (.L .Y))] [(false, .S), (false, .B)] x = F_i_CellText x := by kernel_rfl
noncomputable def e_i_CellText : SEnt Tryd.prog := ⟨24, [(true, .P (.I .i64) (.L .Y))], [(false, .S), (false, .B)], F_i_CellText, runs_see mixed_Pb Tryd.func24 (by kernel_rfl)
 h_i_CellText⟩
noncomputable def a_i_copyCell : An := .d
theorem h_i_copyCell (x : Int × List UInt8) : fnX (P := Tryd.prog) [.see e_i_joined] [(7, .sb)] (sOf Tryd.prog Tryd.f73) a_i_copyCell (iOf Tryd.prog Tryd.f73) [(true, .P (.I .i64)
 (.L .Y))] [(true, .P (.I .i64) (.L .Y))] x = F_i_copyCell x := by kernel_rfl
noncomputable def e_i_copyCell : SEnt Tryd.prog := ⟨73, [(true, .P (.I .i64) (.L .Y))], [(true, .P (.I .i64) (.L .Y))], F_i_copyCell, runs_see mixed_Pb Tryd.func73 (by kernel_rfl)
 h_i_copyCell⟩
noncomputable def a_i_Turn : An := .d
theorem h_i_Turn (x : (Int × List UInt8) × Int) : fnX (P := Tryd.prog) [.see e_i_CellText, .see e_i_copyCell, .see e_i_CellOf] [] (sOf Tryd.prog Tryd.f31) a_i_Turn (iOf Tryd.prog
 Tryd.f31) [(true, .P (.I .i64) (.L .Y)), (false, .I .i64)] [(true, .P (.I .i64) (.L .Y)), (false, .B)] x = F_i_Turn x := by kernel_rfl
noncomputable def e_i_Turn : SEnt Tryd.prog := ⟨31, [(true, .P (.I .i64) (.L .Y)), (false, .I .i64)], [(true, .P (.I .i64) (.L .Y)), (false, .B)], F_i_Turn, runs_see mixed_Pb
 Tryd.func31 (by kernel_rfl) h_i_Turn⟩
noncomputable def a_l_FnExactTurn : An := .d
theorem h_l_FnExactTurn (x : (Int × List UInt8) × Int) : fnX (P := Tryd.prog) [.see e_l_szCell, .see e_l_toCell, .see e_s_Turn, .see e_i_Turn, .see e_l_eqCell, .gen e_l_markCell,
 .see e_l_heldCell] [] (sOf Tryd.prog Tryd.f6) a_l_FnExactTurn (iOf Tryd.prog Tryd.f6) [(true, .P (.I .i64) (.L .Y)), (false, .I .i64)] [(false, .B)] x = F_l_FnExactTurn x := by
 kernel_rfl
noncomputable def e_l_FnExactTurn : SEnt Tryd.prog := ⟨6, [(true, .P (.I .i64) (.L .Y)), (false, .I .i64)], [(false, .B)], F_l_FnExactTurn, runs_see mixed_Pb Tryd.func6 (by
 kernel_rfl) h_l_FnExactTurn⟩
end Go.Vs
