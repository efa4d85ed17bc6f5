import Derived.Test.YtboohaconpkhaaaDoorProg
import Derived.Test.YtboohaconpkhaaaDoorVsPrk1
set_option linter.all false
namespace Go.Vs
open Go.Proofs
set_option maxRecDepth 100000
set_option linter.unusedVariables false
noncomputable def a_s_CellText : An := .d
theorem h_s_CellText (x : Int × List UInt8) : fnX (P := Tryd.prog) [.see e_s_CellOk, .see e_s_Decode] [] (sOf Tryd.prog Tryd.f25) a_s_CellText (iOf Tryd.prog Tryd.f25) [(true, .P
 (.I .i64) (.L .Y))] [(false, .S), (false, .B)] x = F_s_CellText x := by kernel_rfl
noncomputable def e_s_CellText : SEnt Tryd.prog := ⟨25, [(true, .P (.I .i64) (.L .Y))], [(false, .S), (false, .B)], F_s_CellText, runs_see mixed_Pr Tryd.func25 (by kernel_rfl)
 h_s_CellText⟩
noncomputable def a_s_SameText : An := .d
theorem h_s_SameText (x : (Int × List UInt8) × Int × List UInt8) : fnX (P := Tryd.prog) [.see e_s_CellText] [] (sOf Tryd.prog Tryd.f37) a_s_SameText (iOf Tryd.prog Tryd.f37)
 [(true, .P (.I .i64) (.L .Y)), (true, .P (.I .i64) (.L .Y))] [(false, .B)] x = F_s_SameText x := by kernel_rfl
noncomputable def e_s_SameText : SEnt Tryd.prog := ⟨37, [(true, .P (.I .i64) (.L .Y)), (true, .P (.I .i64) (.L .Y))], [(false, .B)], F_s_SameText, runs_see mixed_Pr Tryd.func37 (by
 kernel_rfl) h_s_SameText⟩
noncomputable def a_s_RowOk : An := .d
theorem h_s_RowOk (x : (List UInt8) × (Int × List UInt8) × (Int × List UInt8) × Int × Bool) : fnX (P := Tryd.prog) [.see e_s_NameOk, .see e_s_l1In, .see e_s_l9Old, .see e_s_l9None,
 .see e_s_l9New, .see e_s_CellText, .see e_s_CellOk, .see e_s_SameText] [] (sOf Tryd.prog Tryd.f92) a_s_RowOk (iOf Tryd.prog Tryd.f92) [(true, .P .S (.P (.P (.I .i64) (.L .Y)) (.P
 (.P (.I .i64) (.L .Y)) (.P (.I .i64) .B))))] [(false, .B)] x = F_s_RowOk x := by kernel_rfl
noncomputable def e_s_RowOk : SEnt Tryd.prog := ⟨92, [(true, .P .S (.P (.P (.I .i64) (.L .Y)) (.P (.P (.I .i64) (.L .Y)) (.P (.I .i64) .B))))], [(false, .B)], F_s_RowOk, runs_see
 mixed_Pr Tryd.func92 (by kernel_rfl) h_s_RowOk⟩
noncomputable def a_s_l1Word : An := .d
theorem h_s_l1Word (x : Int) : fnX (P := Tryd.prog) [.see e_s_l1In] [] (sOf Tryd.prog Tryd.f80) a_s_l1Word (iOf Tryd.prog Tryd.f80) [(false, .I .i64)] [(false, .B)] x = F_s_l1Word
 x := by kernel_rfl
noncomputable def e_s_l1Word : SEnt Tryd.prog := ⟨80, [(false, .I .i64)], [(false, .B)], F_s_l1Word, runs_see mixed_Pr Tryd.func80 (by kernel_rfl) h_s_l1Word⟩
noncomputable def a_s_l11Who : An := .d
theorem h_s_l11Who (x : Int × ((List UInt8) × (Int × List UInt8) × (Int × List UInt8) × Int × Bool) × (List UInt8) × Int × Int × Int × Int) : fnX (P := Tryd.prog) [.see e_s_l1In,
 .see e_s_l1Word] [] (sOf Tryd.prog Tryd.f115) a_s_l11Who (iOf Tryd.prog Tryd.f115) [(true, .P (.I .i64) (.P (.P .S (.P (.P (.I .i64) (.L .Y)) (.P (.P (.I .i64) (.L .Y)) (.P (.I
 .i64) .B)))) (.P .S (.P (.I .i64) (.P (.I .i64) (.P (.I .i64) (.I .i64)))))))] [(false, .B)] x = F_s_l11Who x := by kernel_rfl
noncomputable def e_s_l11Who : SEnt Tryd.prog := ⟨115, [(true, .P (.I .i64) (.P (.P .S (.P (.P (.I .i64) (.L .Y)) (.P (.P (.I .i64) (.L .Y)) (.P (.I .i64) .B)))) (.P .S (.P (.I
 .i64) (.P (.I .i64) (.P (.I .i64) (.I .i64)))))))], [(false, .B)], F_s_l11Who, runs_see mixed_Pr Tryd.func115 (by kernel_rfl) h_s_l11Who⟩
noncomputable def a_s_RecOk : An := (.sq none .d (.sq none .d (.sq none .d (.sq none .d (.sq (some [.kt 1, .lt 3 .B, .lt 4 .B, .lt 5 .B]) .d .d)))))
theorem h_s_RecOk (x : Int × ((List UInt8) × (Int × List UInt8) × (Int × List UInt8) × Int × Bool) × (List UInt8) × Int × Int × Int × Int) : fnX (P := Tryd.prog) [.see
 e_s_l11NoRow, .see e_s_RowOk, .see e_s_NameOk, .see e_s_l1In, .see e_s_l11Who] [] (sOf Tryd.prog Tryd.f79) a_s_RecOk (iOf Tryd.prog Tryd.f79) [(true, .P (.I .i64) (.P (.P .S (.P
 (.P (.I .i64) (.L .Y)) (.P (.P (.I .i64) (.L .Y)) (.P (.I .i64) .B)))) (.P .S (.P (.I .i64) (.P (.I .i64) (.P (.I .i64) (.I .i64)))))))] [(false, .B)] x = F_s_RecOk x := by
 kernel_rfl
noncomputable def e_s_RecOk : SEnt Tryd.prog := ⟨79, [(true, .P (.I .i64) (.P (.P .S (.P (.P (.I .i64) (.L .Y)) (.P (.P (.I .i64) (.L .Y)) (.P (.I .i64) .B)))) (.P .S (.P (.I .i64)
 (.P (.I .i64) (.P (.I .i64) (.I .i64)))))))], [(false, .B)], F_s_RecOk, runs_see mixed_Pr Tryd.func79 (by kernel_rfl) h_s_RecOk⟩
noncomputable def a_s_PutW : An := .d
theorem h_s_PutW (x : (List UInt8) × Int) : fnX (P := Tryd.prog) [] [(6, .el .Y), (8, .el .Y), (15, .el .Y), (16, .el .Y)] (sOf Tryd.prog Tryd.f81) a_s_PutW (iOf Tryd.prog
 Tryd.f81) [(false, .L .Y), (false, .I .i64)] [(false, .L .Y)] x = F_s_PutW x := by kernel_rfl
noncomputable def e_s_PutW : SEnt Tryd.prog := ⟨81, [(false, .L .Y), (false, .I .i64)], [(false, .L .Y)], F_s_PutW, runs_see mixed_Pr Tryd.func81 (by kernel_rfl) h_s_PutW⟩
noncomputable def a_s_PutText : An := .d
theorem h_s_PutText (x : (List UInt8) × List UInt8) : fnX (P := Tryd.prog) [.see e_s_PutW] [(8, .el .Y), (10, .el .Y), (16, .el .Y)] (sOf Tryd.prog Tryd.f83) a_s_PutText (iOf
 Tryd.prog Tryd.f83) [(false, .L .Y), (false, .S)] [(false, .L .Y)] x = F_s_PutText x := by kernel_rfl
noncomputable def e_s_PutText : SEnt Tryd.prog := ⟨83, [(false, .L .Y), (false, .S)], [(false, .L .Y)], F_s_PutText, runs_see mixed_Pr Tryd.func83 (by kernel_rfl) h_s_PutText⟩
noncomputable def a_s_l11Bit : An := .d
theorem h_s_l11Bit (x : Bool) : fnX (P := Tryd.prog) [] [] (sOf Tryd.prog Tryd.f116) a_s_l11Bit (iOf Tryd.prog Tryd.f116) [(false, .B)] [(false, .Y)] x = F_s_l11Bit x := by
 kernel_rfl
noncomputable def e_s_l11Bit : SEnt Tryd.prog := ⟨116, [(false, .B)], [(false, .Y)], F_s_l11Bit, runs_see mixed_Pr Tryd.func116 (by kernel_rfl) h_s_l11Bit⟩
noncomputable def a_s_l11Cell : An := .d
theorem h_s_l11Cell (x : (List UInt8) × Int × List UInt8) : fnG (P := Tryd.prog) [.see e_s_PutText] [(9, .el .Y), (10, .el .Y)] (sOf Tryd.prog Tryd.f118) a_s_l11Cell (iOf Tryd.prog
 Tryd.f118) [⟨false, false, .L .Y, [.ow], none⟩, ⟨false, true, .P (.I .i64) (.L .Y), [.rd, .rd], none⟩] [(false, .L .Y)] x = F_s_l11Cell x := by kernel_rfl
noncomputable def e_s_l11Cell : GEnt Tryd.prog := ⟨118, [⟨false, false, .L .Y, [.ow], none⟩, ⟨false, true, .P (.I .i64) (.L .Y), [.rd, .rd], none⟩], [(false, .L .Y)], F_s_l11Cell,
 runs_gen mixed_Pr Tryd.func118 (by kernel_rfl) h_s_l11Cell⟩
noncomputable def a_s_PutRow : An := (.sq none .d (.sq none .d (.sq none .d (.sq none .d (.sq (some [.kt 3, .ot 5 .Y]) .d (.sq (some [.ot 5 .Y]) .d .d))))))
theorem h_s_PutRow (x : (List UInt8) × (List UInt8) × (Int × List UInt8) × (Int × List UInt8) × Int × Bool) : fnX (P := Tryd.prog) [.see e_s_RowOk, .see e_s_PutText, .see
 e_s_l11Bit, .see e_s_l9Old, .gen e_s_l11Cell, .see e_s_l9New] [(6, .el .Y), (8, .el .Y), (23, .el .Y), (24, .el .Y)] (sOf Tryd.prog Tryd.f82) a_s_PutRow (iOf Tryd.prog Tryd.f82)
 [(false, .L .Y), (true, .P .S (.P (.P (.I .i64) (.L .Y)) (.P (.P (.I .i64) (.L .Y)) (.P (.I .i64) .B))))] [(false, .L .Y)] x = F_s_PutRow x := by kernel_rfl
noncomputable def e_s_PutRow : SEnt Tryd.prog := ⟨82, [(false, .L .Y), (true, .P .S (.P (.P (.I .i64) (.L .Y)) (.P (.P (.I .i64) (.L .Y)) (.P (.I .i64) .B))))], [(false, .L .Y)],
 F_s_PutRow, runs_see mixed_Pr Tryd.func82 (by kernel_rfl) h_s_PutRow⟩
noncomputable def a_s_Sum : An := (.sq none .d (.sq none .d (.sq (some [.lt 3 (.I .i64)]) (.sq none .d (.bl (.lp [.kt 0, .lt 3 (.I .i64), .lt 4 (.I .i64)] (.sq none .d (.sq (some
 [.kt 0, .lt 3 (.I .i64), .kt 4]) (.bl (.sq none .d (.sq none .d (.bl (.lp [.kt 0, .lt 3 (.I .i64), .kt 4, .lt 5 (.I .i64)] (.sq none .d (.sq (some [.kt 0, .lt 3 (.I .i64), .kt 4,
 .kt 5]) .d .d))))))) .d))))) .d)))
theorem h_s_Sum (x : List UInt8) : fnX (P := Tryd.prog) [] [] (sOf Tryd.prog Tryd.f84) a_s_Sum (iOf Tryd.prog Tryd.f84) [(false, .L .Y)] [(false, .I .i64)] x = F_s_Sum x := by
 kernel_rfl
noncomputable def e_s_Sum : SEnt Tryd.prog := ⟨84, [(false, .L .Y)], [(false, .I .i64)], F_s_Sum, runs_see mixed_Pr Tryd.func84 (by kernel_rfl) h_s_Sum⟩
noncomputable def a_s_PutRec : An := (.sq none .d (.sq none .d (.sq none .d (.sq (some [.kt 5, .ot 7 .Y]) .d .d))))
theorem h_s_PutRec (x : Int × Int × Int × ((List UInt8) × (Int × List UInt8) × (Int × List UInt8) × Int × Bool) × (List UInt8) × Int × Int × Int × Int) : fnX (P := Tryd.prog) [.see
 e_s_RecOk, .see e_s_l1Word, .see e_s_PutW, .see e_s_PutRow, .see e_s_PutText, .see e_s_Sum] [(21, .el .Y), (22, .el .Y), (30, .el .Y), (31, .el .Y), (52, .el .Y), (53, .el .Y),
 (61, .el .Y), (62, .el .Y)] (sOf Tryd.prog Tryd.f39) a_s_PutRec (iOf Tryd.prog Tryd.f39) [(false, .I .i64), (false, .I .i64), (true, .P (.I .i64) (.P (.P .S (.P (.P (.I .i64) (.L
 .Y)) (.P (.P (.I .i64) (.L .Y)) (.P (.I .i64) .B)))) (.P .S (.P (.I .i64) (.P (.I .i64) (.P (.I .i64) (.I .i64)))))))] [(false, .L .Y)] x = F_s_PutRec x := by kernel_rfl
noncomputable def e_s_PutRec : SEnt Tryd.prog := ⟨39, [(false, .I .i64), (false, .I .i64), (true, .P (.I .i64) (.P (.P .S (.P (.P (.I .i64) (.L .Y)) (.P (.P (.I .i64) (.L .Y)) (.P
 (.I .i64) .B)))) (.P .S (.P (.I .i64) (.P (.I .i64) (.P (.I .i64) (.I .i64)))))))], [(false, .L .Y)], F_s_PutRec, runs_see mixed_Pr Tryd.func39 (by kernel_rfl) h_s_PutRec⟩
noncomputable def a_i_sameCell : An := .d
theorem h_i_sameCell (x : (Int × List UInt8) × Int × List UInt8) : fnX (P := Tryd.prog) [] [] (sOf Tryd.prog Tryd.f99) a_i_sameCell (iOf Tryd.prog Tryd.f99) [(true, .P (.I .i64)
 (.L .Y)), (true, .P (.I .i64) (.L .Y))] [(false, .B)] x = F_i_sameCell x := by kernel_rfl
noncomputable def e_i_sameCell : SEnt Tryd.prog := ⟨99, [(true, .P (.I .i64) (.L .Y)), (true, .P (.I .i64) (.L .Y))], [(false, .B)], F_i_sameCell, runs_see mixed_Pr Tryd.func99 (by
 kernel_rfl) h_i_sameCell⟩
end Go.Vs
