import Derived.Test.YtboohaconpkhaaaDoorProg
import Derived.Test.YtboohaconpkhaaaDoorVsPbk4
set_option linter.all false
namespace Go.Vs
open Go.Proofs
set_option maxRecDepth 100000
set_option linter.unusedVariables false
noncomputable def a_i_signIn : An := .d
theorem h_i_signIn (x : Int × (List UInt8) × Int) : fnX (P := Tryd.prog) [.see e_i_GetSign, .see e_i_EucSign, .see e_i_ByteSign] [] (sOf Tryd.prog Tryd.f107) a_i_signIn (iOf
 Tryd.prog Tryd.f107) [(false, .I .i64), (false, .L .Y), (false, .I .i64)] [(false, .I .i64), (false, .I .i64), (false, .B)] x = F_i_signIn x := by kernel_rfl
noncomputable def e_i_signIn : SEnt Tryd.prog := ⟨107, [(false, .I .i64), (false, .L .Y), (false, .I .i64)], [(false, .I .i64), (false, .I .i64), (false, .B)], F_i_signIn, runs_see
 mixed_Pb Tryd.func107 (by kernel_rfl) h_i_signIn⟩
noncomputable def a_i_Decode : An := (.sq none .d (.sq none .d (.sq none .d (.sq (some [.ot 6 .Y]) (.sq none .d (.bl (.lp [.kt 0, .kt 1, .ot 6 .Y, .lt 7 (.I .i64)] .d))) .d))))
theorem h_i_Decode (x : Int × List UInt8) : fnX (P := Tryd.prog) [.see e_i_isSet, .see e_i_signIn, .see e_i_PutSign] [(14, .el .Y)] (sOf Tryd.prog Tryd.f66) a_i_Decode (iOf
 Tryd.prog Tryd.f66) [(false, .I .i64), (false, .L .Y)] [(false, .S), (false, .B)] x = F_i_Decode x := by kernel_rfl
noncomputable def e_i_Decode : SEnt Tryd.prog := ⟨66, [(false, .I .i64), (false, .L .Y)], [(false, .S), (false, .B)], F_i_Decode, runs_see mixed_Pb Tryd.func66 (by kernel_rfl)
 h_i_Decode⟩
noncomputable def a_i_CellText : An := .d
theorem h_i_CellText (x : Int × List UInt8) : fnX (P := Tryd.prog) [.see e_i_CellOk, .see e_i_Decode] [] (sOf Tryd.prog Tryd.f24) a_i_CellText (iOf Tryd.prog Tryd.f24) [(true, .P
 (.I .i64) (.L .Y))] [(false, .S), (false, .B)] x = F_i_CellText x := by kernel_rfl
noncomputable def e_i_CellText : SEnt Tryd.prog := ⟨24, [(true, .P (.I .i64) (.L .Y))], [(false, .S), (false, .B)], F_i_CellText, runs_see mixed_Pb Tryd.func24 (by kernel_rfl)
 h_i_CellText⟩
noncomputable def a_i_copyCell : An := .d
theorem h_i_copyCell (x : Int × List UInt8) : fnX (P := Tryd.prog) [.see e_i_joined] [(7, .sb)] (sOf Tryd.prog Tryd.f73) a_i_copyCell (iOf Tryd.prog Tryd.f73) [(true, .P (.I .i64)
 (.L .Y))] [(true, .P (.I .i64) (.L .Y))] x = F_i_copyCell x := by kernel_rfl
noncomputable def e_i_copyCell : SEnt Tryd.prog := ⟨73, [(true, .P (.I .i64) (.L .Y))], [(true, .P (.I .i64) (.L .Y))], F_i_copyCell, runs_see mixed_Pb Tryd.func73 (by kernel_rfl)
 h_i_copyCell⟩
noncomputable def a_i_Turn : An := .d
theorem h_i_Turn (x : (Int × List UInt8) × Int) : fnX (P := Tryd.prog) [.see e_i_CellText, .see e_i_copyCell, .see e_i_CellOf] [] (sOf Tryd.prog Tryd.f31) a_i_Turn (iOf Tryd.prog
 Tryd.f31) [(true, .P (.I .i64) (.L .Y)), (false, .I .i64)] [(true, .P (.I .i64) (.L .Y)), (false, .B)] x = F_i_Turn x := by kernel_rfl
noncomputable def e_i_Turn : SEnt Tryd.prog := ⟨31, [(true, .P (.I .i64) (.L .Y)), (false, .I .i64)], [(true, .P (.I .i64) (.L .Y)), (false, .B)], F_i_Turn, runs_see mixed_Pb
 Tryd.func31 (by kernel_rfl) h_i_Turn⟩
noncomputable def a_l_szRow : An := .d
theorem h_l_szRow (x : ((List UInt8) × (Int × List UInt8) × (Int × List UInt8) × Int × Bool) × Int) : fnX (P := Tryd.prog) [.see e_l_szCell] [] (sOf Tryd.prog Tryd.f47) a_l_szRow
 (iOf Tryd.prog Tryd.f47) [(true, .P .S (.P (.P (.I .i64) (.L .Y)) (.P (.P (.I .i64) (.L .Y)) (.P (.I .i64) .B)))), (false, .I .i64)] [(false, .I .i64)] x = F_l_szRow x := by
 kernel_rfl
noncomputable def e_l_szRow : SEnt Tryd.prog := ⟨47, [(true, .P .S (.P (.P (.I .i64) (.L .Y)) (.P (.P (.I .i64) (.L .Y)) (.P (.I .i64) .B)))), (false, .I .i64)], [(false, .I
 .i64)], F_l_szRow, runs_see mixed_Pb Tryd.func47 (by kernel_rfl) h_l_szRow⟩
noncomputable def a_l_toRow : An := .d
theorem h_l_toRow (x : (List UInt8) × (Int × List UInt8) × (Int × List UInt8) × Int × Bool) : fnX (P := Tryd.prog) [.see e_l_toCell] [] (sOf Tryd.prog Tryd.f49) a_l_toRow (iOf
 Tryd.prog Tryd.f49) [(true, .P .S (.P (.P (.I .i64) (.L .Y)) (.P (.P (.I .i64) (.L .Y)) (.P (.I .i64) .B))))] [(true, .P .S (.P (.P (.I .i64) (.L .Y)) (.P (.P (.I .i64) (.L .Y))
 (.P (.I .i64) .B))))] x = F_l_toRow x := by kernel_rfl
noncomputable def e_l_toRow : SEnt Tryd.prog := ⟨49, [(true, .P .S (.P (.P (.I .i64) (.L .Y)) (.P (.P (.I .i64) (.L .Y)) (.P (.I .i64) .B))))], [(true, .P .S (.P (.P (.I .i64) (.L
 .Y)) (.P (.P (.I .i64) (.L .Y)) (.P (.I .i64) .B))))], F_l_toRow, runs_see mixed_Pb Tryd.func49 (by kernel_rfl) h_l_toRow⟩
noncomputable def a_s_l9Copy : An := .d
theorem h_s_l9Copy (x : (List UInt8) × (Int × List UInt8) × (Int × List UInt8) × Int × Bool) : fnX (P := Tryd.prog) [.see e_s_l8Copy] [] (sOf Tryd.prog Tryd.f91) a_s_l9Copy (iOf
 Tryd.prog Tryd.f91) [(true, .P .S (.P (.P (.I .i64) (.L .Y)) (.P (.P (.I .i64) (.L .Y)) (.P (.I .i64) .B))))] [(true, .P .S (.P (.P (.I .i64) (.L .Y)) (.P (.P (.I .i64) (.L .Y))
 (.P (.I .i64) .B))))] x = F_s_l9Copy x := by kernel_rfl
noncomputable def e_s_l9Copy : SEnt Tryd.prog := ⟨91, [(true, .P .S (.P (.P (.I .i64) (.L .Y)) (.P (.P (.I .i64) (.L .Y)) (.P (.I .i64) .B))))], [(true, .P .S (.P (.P (.I .i64) (.L
 .Y)) (.P (.P (.I .i64) (.L .Y)) (.P (.I .i64) .B))))], F_s_l9Copy, runs_see mixed_Pb Tryd.func91 (by kernel_rfl) h_s_l9Copy⟩
noncomputable def a_s_l9Old : An := .d
theorem h_s_l9Old (x : (List UInt8) × (Int × List UInt8) × (Int × List UInt8) × Int × Bool) : fnX (P := Tryd.prog) [] [] (sOf Tryd.prog Tryd.f117) a_s_l9Old (iOf Tryd.prog
 Tryd.f117) [(true, .P .S (.P (.P (.I .i64) (.L .Y)) (.P (.P (.I .i64) (.L .Y)) (.P (.I .i64) .B))))] [(false, .B)] x = F_s_l9Old x := by kernel_rfl
noncomputable def e_s_l9Old : SEnt Tryd.prog := ⟨117, [(true, .P .S (.P (.P (.I .i64) (.L .Y)) (.P (.P (.I .i64) (.L .Y)) (.P (.I .i64) .B))))], [(false, .B)], F_s_l9Old, runs_see
 mixed_Pb Tryd.func117 (by kernel_rfl) h_s_l9Old⟩
noncomputable def a_s_l9None : An := .d
theorem h_s_l9None (x : Int × List UInt8) : fnX (P := Tryd.prog) [] [] (sOf Tryd.prog Tryd.f121) a_s_l9None (iOf Tryd.prog Tryd.f121) [(true, .P (.I .i64) (.L .Y))] [(false, .B)] x
 = F_s_l9None x := by kernel_rfl
noncomputable def e_s_l9None : SEnt Tryd.prog := ⟨121, [(true, .P (.I .i64) (.L .Y))], [(false, .B)], F_s_l9None, runs_see mixed_Pb Tryd.func121 (by kernel_rfl) h_s_l9None⟩
noncomputable def a_s_l9New : An := .d
theorem h_s_l9New (x : (List UInt8) × (Int × List UInt8) × (Int × List UInt8) × Int × Bool) : fnX (P := Tryd.prog) [] [] (sOf Tryd.prog Tryd.f93) a_s_l9New (iOf Tryd.prog Tryd.f93)
 [(true, .P .S (.P (.P (.I .i64) (.L .Y)) (.P (.P (.I .i64) (.L .Y)) (.P (.I .i64) .B))))] [(false, .B)] x = F_s_l9New x := by kernel_rfl
noncomputable def e_s_l9New : SEnt Tryd.prog := ⟨93, [(true, .P .S (.P (.P (.I .i64) (.L .Y)) (.P (.P (.I .i64) (.L .Y)) (.P (.I .i64) .B))))], [(false, .B)], F_s_l9New, runs_see
 mixed_Pb Tryd.func93 (by kernel_rfl) h_s_l9New⟩
noncomputable def a_s_SameText : An := .d
theorem h_s_SameText (x : (Int × List UInt8) × Int × List UInt8) : fnX (P := Tryd.prog) [.see e_s_CellText] [] (sOf Tryd.prog Tryd.f37) a_s_SameText (iOf Tryd.prog Tryd.f37)
 [(true, .P (.I .i64) (.L .Y)), (true, .P (.I .i64) (.L .Y))] [(false, .B)] x = F_s_SameText x := by kernel_rfl
noncomputable def e_s_SameText : SEnt Tryd.prog := ⟨37, [(true, .P (.I .i64) (.L .Y)), (true, .P (.I .i64) (.L .Y))], [(false, .B)], F_s_SameText, runs_see mixed_Pb Tryd.func37 (by
 kernel_rfl) h_s_SameText⟩
noncomputable def a_s_RowOk : An := .d
theorem h_s_RowOk (x : (List UInt8) × (Int × List UInt8) × (Int × List UInt8) × Int × Bool) : fnX (P := Tryd.prog) [.see e_s_NameOk, .see e_s_l1In, .see e_s_l9Old, .see e_s_l9None,
 .see e_s_l9New, .see e_s_CellText, .see e_s_CellOk, .see e_s_SameText] [] (sOf Tryd.prog Tryd.f92) a_s_RowOk (iOf Tryd.prog Tryd.f92) [(true, .P .S (.P (.P (.I .i64) (.L .Y)) (.P
 (.P (.I .i64) (.L .Y)) (.P (.I .i64) .B))))] [(false, .B)] x = F_s_RowOk x := by kernel_rfl
noncomputable def e_s_RowOk : SEnt Tryd.prog := ⟨92, [(true, .P .S (.P (.P (.I .i64) (.L .Y)) (.P (.P (.I .i64) (.L .Y)) (.P (.I .i64) .B))))], [(false, .B)], F_s_RowOk, runs_see
 mixed_Pb Tryd.func92 (by kernel_rfl) h_s_RowOk⟩
end Go.Vs
