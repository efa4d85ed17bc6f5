import Derived.Test.YtboohaconpkhaaaDoorProg
import Derived.Test.YtboohaconpkhaaaDoorVsPrk4
set_option linter.all false
namespace Go.Vs
open Go.Proofs
set_option maxRecDepth 100000
set_option linter.unusedVariables false
noncomputable def a_i_flag : An := .d
theorem h_i_flag (x : Bool) : fnX (P := Tryd.prog) [] [] (sOf Tryd.prog Tryd.f120) a_i_flag (iOf Tryd.prog Tryd.f120) [(false, .B)] [(false, .Y)] x = F_i_flag x := by kernel_rfl
noncomputable def e_i_flag : SEnt Tryd.prog := ⟨120, [(false, .B)], [(false, .Y)], F_i_flag, runs_see mixed_Pr Tryd.func120 (by kernel_rfl) h_i_flag⟩
noncomputable def a_i_PutRow : An := (.sq none .d (.sq none .d (.sq none .d (.sq none .d (.sq (some [.kt 3, .ot 5 .Y]) .d (.sq (some [.ot 5 .Y]) .d .d))))))
theorem h_i_PutRow (x : (List UInt8) × (List UInt8) × (Int × List UInt8) × (Int × List UInt8) × Int × Bool) : fnX (P := Tryd.prog) [.see e_i_joined, .see e_i_RowOk, .see
 e_i_PutText, .see e_i_flag] [(7, .sb), (23, .el .Y), (24, .el .Y), (33, .el .Y), (34, .el .Y), (48, .el .Y), (49, .el .Y)] (sOf Tryd.prog Tryd.f88) a_i_PutRow (iOf Tryd.prog
 Tryd.f88) [(false, .L .Y), (true, .P .S (.P (.P (.I .i64) (.L .Y)) (.P (.P (.I .i64) (.L .Y)) (.P (.I .i64) .B))))] [(false, .L .Y)] x = F_i_PutRow x := by kernel_rfl
noncomputable def e_i_PutRow : SEnt Tryd.prog := ⟨88, [(false, .L .Y), (true, .P .S (.P (.P (.I .i64) (.L .Y)) (.P (.P (.I .i64) (.L .Y)) (.P (.I .i64) .B))))], [(false, .L .Y)],
 F_i_PutRow, runs_see mixed_Pr Tryd.func88 (by kernel_rfl) h_i_PutRow⟩
noncomputable def a_i_Sum : An := (.sq none .d (.sq none .d (.sq (some [.lt 3 (.I .i64)]) (.sq none .d (.bl (.lp [.lt 3 (.I .i64), .kt 6, .kt 7, .lt 8 (.I .i64)] (.sq none .d (.sq
 none .d (.sq (some [.lt 3 (.I .i64), .kt 6, .kt 7, .kt 8]) (.bl (.sq none .d (.sq none .d (.sq none .d (.bl (.lp [.lt 3 (.I .i64), .kt 6, .kt 7, .kt 8, .lt 17 (.I .i64)] (.sq
 none .d (.sq none .d (.sq (some [.lt 3 (.I .i64), .kt 6, .kt 7, .kt 8, .kt 17]) .d .d))))))))) .d)))))) .d)))
theorem h_i_Sum (x : List UInt8) : fnX (P := Tryd.prog) [] [] (sOf Tryd.prog Tryd.f90) a_i_Sum (iOf Tryd.prog Tryd.f90) [(false, .L .Y)] [(false, .I .i64)] x = F_i_Sum x := by
 kernel_rfl
noncomputable def e_i_Sum : SEnt Tryd.prog := ⟨90, [(false, .L .Y)], [(false, .I .i64)], F_i_Sum, runs_see mixed_Pr Tryd.func90 (by kernel_rfl) h_i_Sum⟩
noncomputable def a_i_PutRec : An := (.sq none .d (.sq none .d (.sq none .d (.sq (some [.kt 5, .ot 7 .Y]) .d .d))))
theorem h_i_PutRec (x : Int × Int × Int × ((List UInt8) × (Int × List UInt8) × (Int × List UInt8) × Int × Bool) × (List UInt8) × Int × Int × Int × Int) : fnX (P := Tryd.prog) [.see
 e_i_RecOk, .see e_i_isWord, .see e_i_PutW, .see e_i_PutRow, .see e_i_PutText, .see e_i_Sum] [(28, .el .Y), (29, .el .Y), (50, .el .Y), (51, .el .Y), (59, .el .Y), (60, .el .Y)]
 (sOf Tryd.prog Tryd.f41) a_i_PutRec (iOf Tryd.prog Tryd.f41) [(false, .I .i64), (false, .I .i64), (true, .P (.I .i64) (.P (.P .S (.P (.P (.I .i64) (.L .Y)) (.P (.P (.I .i64) (.L
 .Y)) (.P (.I .i64) .B)))) (.P .S (.P (.I .i64) (.P (.I .i64) (.P (.I .i64) (.I .i64)))))))] [(false, .L .Y)] x = F_i_PutRec x := by kernel_rfl
noncomputable def e_i_PutRec : SEnt Tryd.prog := ⟨41, [(false, .I .i64), (false, .I .i64), (true, .P (.I .i64) (.P (.P .S (.P (.P (.I .i64) (.L .Y)) (.P (.P (.I .i64) (.L .Y)) (.P
 (.I .i64) .B)))) (.P .S (.P (.I .i64) (.P (.I .i64) (.P (.I .i64) (.I .i64)))))))], [(false, .L .Y)], F_i_PutRec, runs_see mixed_Pr Tryd.func41 (by kernel_rfl) h_i_PutRec⟩
noncomputable def a_l_eqByteS : An := (.sq none .d (.sq none .d (.sq none (.sq none .d (.bl (.lp [.kt 0, .kt 1, .lt 5 (.I .i64)] .d))) .d)))
theorem h_l_eqByteS (x : (List UInt8) × List UInt8) : fnX (P := Tryd.prog) [] [] (sOf Tryd.prog Tryd.f42) a_l_eqByteS (iOf Tryd.prog Tryd.f42) [(false, .L .Y), (false, .L .Y)]
 [(false, .B)] x = F_l_eqByteS x := by kernel_rfl
noncomputable def e_l_eqByteS : SEnt Tryd.prog := ⟨42, [(false, .L .Y), (false, .L .Y)], [(false, .B)], F_l_eqByteS, runs_see mixed_Pr Tryd.func42 (by kernel_rfl) h_l_eqByteS⟩
noncomputable def a_l_eqCell : An := .d
theorem h_l_eqCell (x : (Int × List UInt8) × Int × List UInt8) : fnX (P := Tryd.prog) [.see e_l_eqByteS] [] (sOf Tryd.prog Tryd.f13) a_l_eqCell (iOf Tryd.prog Tryd.f13) [(true, .P
 (.I .i64) (.L .Y)), (true, .P (.I .i64) (.L .Y))] [(false, .B)] x = F_l_eqCell x := by kernel_rfl
noncomputable def e_l_eqCell : SEnt Tryd.prog := ⟨13, [(true, .P (.I .i64) (.L .Y)), (true, .P (.I .i64) (.L .Y))], [(false, .B)], F_l_eqCell, runs_see mixed_Pr Tryd.func13 (by
 kernel_rfl) h_l_eqCell⟩
noncomputable def a_l_eqRow : An := .d
theorem h_l_eqRow (x : ((List UInt8) × (Int × List UInt8) × (Int × List UInt8) × Int × Bool) × (List UInt8) × (Int × List UInt8) × (Int × List UInt8) × Int × Bool) : fnX (P :=
 Tryd.prog) [.see e_l_eqCell] [] (sOf Tryd.prog Tryd.f18) a_l_eqRow (iOf Tryd.prog Tryd.f18) [(true, .P .S (.P (.P (.I .i64) (.L .Y)) (.P (.P (.I .i64) (.L .Y)) (.P (.I .i64)
 .B)))), (true, .P .S (.P (.P (.I .i64) (.L .Y)) (.P (.P (.I .i64) (.L .Y)) (.P (.I .i64) .B))))] [(false, .B)] x = F_l_eqRow x := by kernel_rfl
noncomputable def e_l_eqRow : SEnt Tryd.prog := ⟨18, [(true, .P .S (.P (.P (.I .i64) (.L .Y)) (.P (.P (.I .i64) (.L .Y)) (.P (.I .i64) .B)))), (true, .P .S (.P (.P (.I .i64) (.L
 .Y)) (.P (.P (.I .i64) (.L .Y)) (.P (.I .i64) .B))))], [(false, .B)], F_l_eqRow, runs_see mixed_Pr Tryd.func18 (by kernel_rfl) h_l_eqRow⟩
noncomputable def a_l_eqRec : An := .d
theorem h_l_eqRec (x : (Int × ((List UInt8) × (Int × List UInt8) × (Int × List UInt8) × Int × Bool) × (List UInt8) × Int × Int × Int × Int) × Int × ((List UInt8) × (Int × List
 UInt8) × (Int × List UInt8) × Int × Bool) × (List UInt8) × Int × Int × Int × Int) : fnX (P := Tryd.prog) [.see e_l_eqRow] [] (sOf Tryd.prog Tryd.f43) a_l_eqRec (iOf Tryd.prog
 Tryd.f43) [(true, .P (.I .i64) (.P (.P .S (.P (.P (.I .i64) (.L .Y)) (.P (.P (.I .i64) (.L .Y)) (.P (.I .i64) .B)))) (.P .S (.P (.I .i64) (.P (.I .i64) (.P (.I .i64) (.I
 .i64))))))), (true, .P (.I .i64) (.P (.P .S (.P (.P (.I .i64) (.L .Y)) (.P (.P (.I .i64) (.L .Y)) (.P (.I .i64) .B)))) (.P .S (.P (.I .i64) (.P (.I .i64) (.P (.I .i64) (.I
 .i64)))))))] [(false, .B)] x = F_l_eqRec x := by kernel_rfl
noncomputable def e_l_eqRec : SEnt Tryd.prog := ⟨43, [(true, .P (.I .i64) (.P (.P .S (.P (.P (.I .i64) (.L .Y)) (.P (.P (.I .i64) (.L .Y)) (.P (.I .i64) .B)))) (.P .S (.P (.I .i64)
 (.P (.I .i64) (.P (.I .i64) (.I .i64))))))), (true, .P (.I .i64) (.P (.P .S (.P (.P (.I .i64) (.L .Y)) (.P (.P (.I .i64) (.L .Y)) (.P (.I .i64) .B)))) (.P .S (.P (.I .i64) (.P
 (.I .i64) (.P (.I .i64) (.I .i64)))))))], [(false, .B)], F_l_eqRec, runs_see mixed_Pr Tryd.func43 (by kernel_rfl) h_l_eqRec⟩
noncomputable def a_l_markByteS : An := (.sq none .d (.sq (some [.sr 0 .Y, .lt 1 (.I .i64)]) (.sq none .d (.bl (.lp [.sr 0 .Y, .lt 1 (.I .i64), .lt 5 (.I .i64)] .d))) .d))
theorem h_l_markByteS (x : (List UInt8) × Int) : fnG (P := Tryd.prog) [] [] (sOf Tryd.prog Tryd.f45) a_l_markByteS (iOf Tryd.prog Tryd.f45) [⟨false, false, .L .Y, [.io], none⟩,
 ⟨false, false, .I .i64, [.rd], none⟩] [(false, .I .i64)] x = F_l_markByteS x := by kernel_rfl
noncomputable def e_l_markByteS : GEnt Tryd.prog := ⟨45, [⟨false, false, .L .Y, [.io], none⟩, ⟨false, false, .I .i64, [.rd], none⟩], [(false, .I .i64)], F_l_markByteS, runs_gen
 mixed_Pr Tryd.func45 (by kernel_rfl) h_l_markByteS⟩
noncomputable def a_l_markCell : An := .d
theorem h_l_markCell (x : (Int × List UInt8) × Int) : fnG (P := Tryd.prog) [.gen e_l_markByteS] [] (sOf Tryd.prog Tryd.f14) a_l_markCell (iOf Tryd.prog Tryd.f14) [⟨false, true, .P
 (.I .i64) (.L .Y), [.rd, .io], none⟩, ⟨false, false, .I .i64, [.rd], none⟩] [(false, .I .i64)] x = F_l_markCell x := by kernel_rfl
noncomputable def e_l_markCell : GEnt Tryd.prog := ⟨14, [⟨false, true, .P (.I .i64) (.L .Y), [.rd, .io], none⟩, ⟨false, false, .I .i64, [.rd], none⟩], [(false, .I .i64)],
 F_l_markCell, runs_gen mixed_Pr Tryd.func14 (by kernel_rfl) h_l_markCell⟩
noncomputable def a_l_markRow : An := .d
theorem h_l_markRow (x : ((List UInt8) × (Int × List UInt8) × (Int × List UInt8) × Int × Bool) × Int) : fnG (P := Tryd.prog) [.gen e_l_markCell] [] (sOf Tryd.prog Tryd.f19)
 a_l_markRow (iOf Tryd.prog Tryd.f19) [⟨false, true, .P .S (.P (.P (.I .i64) (.L .Y)) (.P (.P (.I .i64) (.L .Y)) (.P (.I .i64) .B))), [.rd, .rd, .io, .rd, .io, .rd, .rd], none⟩,
 ⟨false, false, .I .i64, [.rd], none⟩] [(false, .I .i64)] x = F_l_markRow x := by kernel_rfl
noncomputable def e_l_markRow : GEnt Tryd.prog := ⟨19, [⟨false, true, .P .S (.P (.P (.I .i64) (.L .Y)) (.P (.P (.I .i64) (.L .Y)) (.P (.I .i64) .B))), [.rd, .rd, .io, .rd, .io,
 .rd, .rd], none⟩, ⟨false, false, .I .i64, [.rd], none⟩], [(false, .I .i64)], F_l_markRow, runs_gen mixed_Pr Tryd.func19 (by kernel_rfl) h_l_markRow⟩
noncomputable def a_l_markRec : An := .d
theorem h_l_markRec (x : (Int × ((List UInt8) × (Int × List UInt8) × (Int × List UInt8) × Int × Bool) × (List UInt8) × Int × Int × Int × Int) × Int) : fnG (P := Tryd.prog) [.gen
 e_l_markRow] [] (sOf Tryd.prog Tryd.f44) a_l_markRec (iOf Tryd.prog Tryd.f44) [⟨false, true, .P (.I .i64) (.P (.P .S (.P (.P (.I .i64) (.L .Y)) (.P (.P (.I .i64) (.L .Y)) (.P (.I
 .i64) .B)))) (.P .S (.P (.I .i64) (.P (.I .i64) (.P (.I .i64) (.I .i64)))))), [.rd, .rd, .rd, .io, .rd, .io, .rd, .rd, .rd, .rd, .rd, .rd, .rd], none⟩, ⟨false, false, .I .i64,
 [.rd], none⟩] [(false, .I .i64)] x = F_l_markRec x := by kernel_rfl
noncomputable def e_l_markRec : GEnt Tryd.prog := ⟨44, [⟨false, true, .P (.I .i64) (.P (.P .S (.P (.P (.I .i64) (.L .Y)) (.P (.P (.I .i64) (.L .Y)) (.P (.I .i64) .B)))) (.P .S (.P
 (.I .i64) (.P (.I .i64) (.P (.I .i64) (.I .i64)))))), [.rd, .rd, .rd, .io, .rd, .io, .rd, .rd, .rd, .rd, .rd, .rd, .rd], none⟩, ⟨false, false, .I .i64, [.rd], none⟩], [(false, .I
 .i64)], F_l_markRec, runs_gen mixed_Pr Tryd.func44 (by kernel_rfl) h_l_markRec⟩
noncomputable def a_l_heldByteS : An := (.sq none .d (.sq (some [.lt 1 (.I .i64)]) (.sq none .d (.bl (.lp [.kt 0, .lt 1 (.I .i64), .lt 5 (.I .i64)] .d))) .d))
theorem h_l_heldByteS (x : (List UInt8) × Int) : fnX (P := Tryd.prog) [] [] (sOf Tryd.prog Tryd.f46) a_l_heldByteS (iOf Tryd.prog Tryd.f46) [(false, .L .Y), (false, .I .i64)]
 [(false, .I .i64)] x = F_l_heldByteS x := by kernel_rfl
noncomputable def e_l_heldByteS : SEnt Tryd.prog := ⟨46, [(false, .L .Y), (false, .I .i64)], [(false, .I .i64)], F_l_heldByteS, runs_see mixed_Pr Tryd.func46 (by kernel_rfl)
 h_l_heldByteS⟩
noncomputable def a_l_FnExactPutRec : An := .d
theorem h_l_FnExactPutRec (x : Int × Int × Int × ((List UInt8) × (Int × List UInt8) × (Int × List UInt8) × Int × Bool) × (List UInt8) × Int × Int × Int × Int) : fnX (P :=
 Tryd.prog) [.see e_l_szRec, .see e_l_toRec, .see e_s_PutRec, .see e_i_PutRec, .see e_l_eqByteS, .see e_l_eqRec, .gen e_l_markRec, .gen e_l_markByteS, .see e_l_heldByteS] [] (sOf
 Tryd.prog Tryd.f8) a_l_FnExactPutRec (iOf Tryd.prog Tryd.f8) [(false, .I .i64), (false, .I .i64), (true, .P (.I .i64) (.P (.P .S (.P (.P (.I .i64) (.L .Y)) (.P (.P (.I .i64) (.L
 .Y)) (.P (.I .i64) .B)))) (.P .S (.P (.I .i64) (.P (.I .i64) (.P (.I .i64) (.I .i64)))))))] [(false, .B)] x = F_l_FnExactPutRec x := by kernel_rfl
noncomputable def e_l_FnExactPutRec : SEnt Tryd.prog := ⟨8, [(false, .I .i64), (false, .I .i64), (true, .P (.I .i64) (.P (.P .S (.P (.P (.I .i64) (.L .Y)) (.P (.P (.I .i64) (.L
 .Y)) (.P (.I .i64) .B)))) (.P .S (.P (.I .i64) (.P (.I .i64) (.P (.I .i64) (.I .i64)))))))], [(false, .B)], F_l_FnExactPutRec, runs_see mixed_Pr Tryd.func8 (by kernel_rfl)
 h_l_FnExactPutRec⟩
end Go.Vs
