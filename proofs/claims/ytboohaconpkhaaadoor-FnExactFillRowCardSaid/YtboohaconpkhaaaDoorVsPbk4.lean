import Derived.Test.YtboohaconpkhaaaDoorProg
import Derived.Test.YtboohaconpkhaaaDoorVsPbk3
set_option linter.all false
namespace Go.Vs
open Go.Proofs
set_option maxRecDepth 100000
set_option linter.unusedVariables false
noncomputable def a_l_toCell : An := .d
theorem h_l_toCell (x : Int × List UInt8) : fnX (P := Tryd.prog) [.see e_l_toByteS] [] (sOf Tryd.prog Tryd.f30) a_l_toCell (iOf Tryd.prog Tryd.f30) [(true, .P (.I .i64) (.L .Y))]
 [(true, .P (.I .i64) (.L .Y))] x = F_l_toCell x := by kernel_rfl
noncomputable def e_l_toCell : SEnt Tryd.prog := ⟨30, [(true, .P (.I .i64) (.L .Y))], [(true, .P (.I .i64) (.L .Y))], F_l_toCell, runs_see mixed_Pb Tryd.func30 (by kernel_rfl)
 h_l_toCell⟩
noncomputable def a_s_CellOk : An := .d
theorem h_s_CellOk (x : Int × List UInt8) : fnX (P := Tryd.prog) [.see e_s_l5Cs] [] (sOf Tryd.prog Tryd.f27) a_s_CellOk (iOf Tryd.prog Tryd.f27) [(true, .P (.I .i64) (.L .Y))]
 [(false, .B)] x = F_s_CellOk x := by kernel_rfl
noncomputable def e_s_CellOk : SEnt Tryd.prog := ⟨27, [(true, .P (.I .i64) (.L .Y))], [(false, .B)], F_s_CellOk, runs_see mixed_Pb Tryd.func27 (by kernel_rfl) h_s_CellOk⟩
noncomputable def a_s_PairSign : An := .d
theorem h_s_PairSign (x : Int × Int) : fnX (P := Tryd.prog) [.see e_s_l1In] [] (sOf Tryd.prog Tryd.f152) a_s_PairSign (iOf Tryd.prog Tryd.f152) [(false, .I .i64), (false, .I .i64)]
 [(false, .I .i64), (false, .B)] x = F_s_PairSign x := by kernel_rfl
noncomputable def e_s_PairSign : SEnt Tryd.prog := ⟨152, [(false, .I .i64), (false, .I .i64)], [(false, .I .i64), (false, .B)], F_s_PairSign, runs_see mixed_Pb Tryd.func152 (by
 kernel_rfl) h_s_PairSign⟩
noncomputable def a_s_EucSign : An := .d
theorem h_s_EucSign (x : (List UInt8) × Int) : fnX (P := Tryd.prog) [.see e_s_l1In, .see e_s_PairSign] [] (sOf Tryd.prog Tryd.f139) a_s_EucSign (iOf Tryd.prog Tryd.f139) [(false,
 .L .Y), (false, .I .i64)] [(false, .I .i64), (false, .I .i64), (false, .B)] x = F_s_EucSign x := by kernel_rfl
noncomputable def e_s_EucSign : SEnt Tryd.prog := ⟨139, [(false, .L .Y), (false, .I .i64)], [(false, .I .i64), (false, .I .i64), (false, .B)], F_s_EucSign, runs_see mixed_Pb
 Tryd.func139 (by kernel_rfl) h_s_EucSign⟩
noncomputable def a_s_l5Get : An := .d
theorem h_s_l5Get (x : Int × (List UInt8) × Int) : fnX (P := Tryd.prog) [.see e_s_GetSign, .see e_s_EucSign, .see e_s_ByteSign] [] (sOf Tryd.prog Tryd.f109) a_s_l5Get (iOf
 Tryd.prog Tryd.f109) [(false, .I .i64), (false, .L .Y), (false, .I .i64)] [(false, .I .i64), (false, .I .i64), (false, .B)] x = F_s_l5Get x := by kernel_rfl
noncomputable def e_s_l5Get : SEnt Tryd.prog := ⟨109, [(false, .I .i64), (false, .L .Y), (false, .I .i64)], [(false, .I .i64), (false, .I .i64), (false, .B)], F_s_l5Get, runs_see
 mixed_Pb Tryd.func109 (by kernel_rfl) h_s_l5Get⟩
noncomputable def a_s_Decode : An := (.sq none .d (.sq none .d (.sq none .d (.sq (some [.ot 6 .Y]) (.sq none .d (.bl (.lp [.kt 0, .kt 1, .ot 6 .Y, .lt 7 (.I .i64)] .d))) .d))))
theorem h_s_Decode (x : Int × List UInt8) : fnX (P := Tryd.prog) [.see e_s_l5Cs, .see e_s_l5Get, .see e_s_PutSign] [(11, .el .Y)] (sOf Tryd.prog Tryd.f67) a_s_Decode (iOf Tryd.prog
 Tryd.f67) [(false, .I .i64), (false, .L .Y)] [(false, .S), (false, .B)] x = F_s_Decode x := by kernel_rfl
noncomputable def e_s_Decode : SEnt Tryd.prog := ⟨67, [(false, .I .i64), (false, .L .Y)], [(false, .S), (false, .B)], F_s_Decode, runs_see mixed_Pb Tryd.func67 (by kernel_rfl)
 h_s_Decode⟩
noncomputable def a_s_CellText : An := .d
theorem h_s_CellText (x : Int × List UInt8) : fnX (P := Tryd.prog) [.see e_s_CellOk, .see e_s_Decode] [] (sOf Tryd.prog Tryd.f25) a_s_CellText (iOf Tryd.prog Tryd.f25) [(true, .P
 (.I .i64) (.L .Y))] [(false, .S), (false, .B)] x = F_s_CellText x := by kernel_rfl
noncomputable def e_s_CellText : SEnt Tryd.prog := ⟨25, [(true, .P (.I .i64) (.L .Y))], [(false, .S), (false, .B)], F_s_CellText, runs_see mixed_Pb Tryd.func25 (by kernel_rfl)
 h_s_CellText⟩
noncomputable def a_s_l8Copy : An := .d
theorem h_s_l8Copy (x : Int × List UInt8) : fnX (P := Tryd.prog) [] [(5, .el .Y), (8, .el .Y)] (sOf Tryd.prog Tryd.f71) a_s_l8Copy (iOf Tryd.prog Tryd.f71) [(true, .P (.I .i64) (.L
 .Y))] [(true, .P (.I .i64) (.L .Y))] x = F_s_l8Copy x := by kernel_rfl
noncomputable def e_s_l8Copy : SEnt Tryd.prog := ⟨71, [(true, .P (.I .i64) (.L .Y))], [(true, .P (.I .i64) (.L .Y))], F_s_l8Copy, runs_see mixed_Pb Tryd.func71 (by kernel_rfl)
 h_s_l8Copy⟩
noncomputable def a_s_Turn : An := .d
theorem h_s_Turn (x : (Int × List UInt8) × Int) : fnX (P := Tryd.prog) [.see e_s_CellText, .see e_s_CellOf, .see e_s_l8Copy] [] (sOf Tryd.prog Tryd.f29) a_s_Turn (iOf Tryd.prog
 Tryd.f29) [(true, .P (.I .i64) (.L .Y)), (false, .I .i64)] [(true, .P (.I .i64) (.L .Y)), (false, .B)] x = F_s_Turn x := by kernel_rfl
noncomputable def e_s_Turn : SEnt Tryd.prog := ⟨29, [(true, .P (.I .i64) (.L .Y)), (false, .I .i64)], [(true, .P (.I .i64) (.L .Y)), (false, .B)], F_s_Turn, runs_see mixed_Pb
 Tryd.func29 (by kernel_rfl) h_s_Turn⟩
noncomputable def a_utf8_decodeRuneSlow : An := .d
theorem h_utf8_decodeRuneSlow (x : List UInt8) : fnX (P := Tryd.prog) [] [] (sOf Tryd.prog Tryd.f156) a_utf8_decodeRuneSlow (iOf Tryd.prog Tryd.f156) [(false, .L .Y)] [(false, .I
 .i32), (false, .I .i64)] x = F_utf8_decodeRuneSlow x := by kernel_rfl
noncomputable def e_utf8_decodeRuneSlow : SEnt Tryd.prog := ⟨156, [(false, .L .Y)], [(false, .I .i32), (false, .I .i64)], F_utf8_decodeRuneSlow, runs_see mixed_Pb Tryd.func156 (by
 kernel_rfl) h_utf8_decodeRuneSlow⟩
noncomputable def a_utf8_DecodeRune : An := (.sq none .d (.sq (some [.kt 0]) (.sq none .d (.bl (.lp [.kt 0, .kt 6, .kt 7, .lt 8 (.I .i64)] .d))) .d))
theorem h_utf8_DecodeRune (x : List UInt8) : fnX (P := Tryd.prog) [.see e_utf8_decodeRuneSlow] [] (sOf Tryd.prog Tryd.f146) a_utf8_DecodeRune (iOf Tryd.prog Tryd.f146) [(false, .L
 .Y)] [(false, .I .i32), (false, .I .i64)] x = F_utf8_DecodeRune x := by kernel_rfl
noncomputable def e_utf8_DecodeRune : SEnt Tryd.prog := ⟨146, [(false, .L .Y)], [(false, .I .i32), (false, .I .i64)], F_utf8_DecodeRune, runs_see mixed_Pb Tryd.func146 (by
 kernel_rfl) h_utf8_DecodeRune⟩
noncomputable def a_i_GetSign : An := .d
theorem h_i_GetSign (x : (List UInt8) × Int) : fnX (P := Tryd.prog) [.see e_utf8_DecodeRune] [] (sOf Tryd.prog Tryd.f134) a_i_GetSign (iOf Tryd.prog Tryd.f134) [(false, .L .Y),
 (false, .I .i64)] [(false, .I .i64), (false, .I .i64), (false, .B)] x = F_i_GetSign x := by kernel_rfl
noncomputable def e_i_GetSign : SEnt Tryd.prog := ⟨134, [(false, .L .Y), (false, .I .i64)], [(false, .I .i64), (false, .I .i64), (false, .B)], F_i_GetSign, runs_see mixed_Pb
 Tryd.func134 (by kernel_rfl) h_i_GetSign⟩
noncomputable def a_i_PairSign : An := .d
theorem h_i_PairSign (x : Int × Int) : fnX (P := Tryd.prog) [.see e_i_within] [] (sOf Tryd.prog Tryd.f147) a_i_PairSign (iOf Tryd.prog Tryd.f147) [(false, .I .i64), (false, .I
 .i64)] [(false, .I .i64), (false, .B)] x = F_i_PairSign x := by kernel_rfl
noncomputable def e_i_PairSign : SEnt Tryd.prog := ⟨147, [(false, .I .i64), (false, .I .i64)], [(false, .I .i64), (false, .B)], F_i_PairSign, runs_see mixed_Pb Tryd.func147 (by
 kernel_rfl) h_i_PairSign⟩
noncomputable def a_i_EucSign : An := .d
theorem h_i_EucSign (x : (List UInt8) × Int) : fnX (P := Tryd.prog) [.see e_i_PairSign] [] (sOf Tryd.prog Tryd.f135) a_i_EucSign (iOf Tryd.prog Tryd.f135) [(false, .L .Y), (false,
 .I .i64)] [(false, .I .i64), (false, .I .i64), (false, .B)] x = F_i_EucSign x := by kernel_rfl
noncomputable def e_i_EucSign : SEnt Tryd.prog := ⟨135, [(false, .L .Y), (false, .I .i64)], [(false, .I .i64), (false, .I .i64), (false, .B)], F_i_EucSign, runs_see mixed_Pb
 Tryd.func135 (by kernel_rfl) h_i_EucSign⟩
end Go.Vs
