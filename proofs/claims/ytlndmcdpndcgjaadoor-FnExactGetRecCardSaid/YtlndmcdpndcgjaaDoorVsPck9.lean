import Derived.Test.YtlndmcdpndcgjaaDoorProg
import Derived.Test.YtlndmcdpndcgjaaDoorVsPck8
set_option linter.all false
namespace Go.Vs
open Go.Proofs
set_option maxRecDepth 100000
set_option linter.unusedVariables false
noncomputable def a_s_l11Word : An := .d
theorem h_s_l11Word (x : (List UInt8) × Int × Bool) : fnG (P := Tryd.prog) [.gen e_s_l11Byte] [] (sOf Tryd.prog Tryd.f95) a_s_l11Word (iOf Tryd.prog Tryd.f95) [⟨true, false, .P (.L
 .Y) (.P (.I .i64) .B), [.rx, .rd, .rd], (some (.P (.I .i64) .B))⟩] [(false, .I .i64)] x = F_s_l11Word x := by kernel_rfl
noncomputable def e_s_l11Word : GEnt Tryd.prog := ⟨95, [⟨true, false, .P (.L .Y) (.P (.I .i64) .B), [.rx, .rd, .rd], (some (.P (.I .i64) .B))⟩], [(false, .I .i64)], F_s_l11Word,
 runs_gen mixed_Pc Tryd.func95 (by kernel_rfl) h_s_l11Word⟩
noncomputable def a_s_Sum : An := (.sq none .d (.sq none .d (.sq (some [.lt 3 (.I .i64)]) (.sq none .d (.bl (.lp [.kt 0, .lt 3 (.I .i64), .lt 4 (.I .i64)] (.sq none .d (.sq (some
 [.kt 0, .lt 3 (.I .i64), .kt 4]) (.bl (.sq none .d (.sq none .d (.bl (.lp [.kt 0, .lt 3 (.I .i64), .kt 4, .lt 5 (.I .i64)] (.sq none .d (.sq (some [.kt 0, .lt 3 (.I .i64), .kt 4,
 .kt 5]) .d .d))))))) .d))))) .d)))
theorem h_s_Sum (x : List UInt8) : fnX (P := Tryd.prog) [] [] (sOf Tryd.prog Tryd.f99) a_s_Sum (iOf Tryd.prog Tryd.f99) [(false, .L .Y)] [(false, .I .i64)] x = F_s_Sum x := by
 kernel_rfl
noncomputable def e_s_Sum : SEnt Tryd.prog := ⟨99, [(false, .L .Y)], [(false, .I .i64)], F_s_Sum, runs_see mixed_Pc Tryd.func99 (by kernel_rfl) h_s_Sum⟩
noncomputable def a_s_GetRec : An := (.sq none .d (.sq none .d (.sq none .d (.sq none .d (.sq none .d (.sq none .d (.sq none .d (.sq (some [.kt 0, .kt 4, .kt 6, .kt 7, .kt 8, .kt
 9, .bx 10 [.K, .L .S, .L (.I .i64), .O .Y, .L (.I .i64), .O .Y, .L (.I .i64), .L .B, .L .S, .L (.I .i64), .K, .K, .K], .bx 24 [.K, .L (.I .i64), .L .B]]) .d .d))))))))
theorem h_s_GetRec (x : List UInt8) : fnX (P := Tryd.prog) [.gen e_s_l11Word, .gen e_s_l11Byte, .gen e_s_l11GetRow, .gen e_s_l11Text, .see e_s_GetW, .see e_s_Sum, .see e_s_RecOk]
 [] (sOf Tryd.prog Tryd.f50) a_s_GetRec (iOf Tryd.prog Tryd.f50) [(false, .L .Y)] [(false, .I .i64), (false, .I .i64), (true, .P (.I .i64) (.P (.P .S (.P (.P (.I .i64) (.L .Y))
 (.P (.P (.I .i64) (.L .Y)) (.P (.I .i64) .B)))) (.P .S (.P (.I .i64) (.P (.I .i64) (.P (.I .i64) (.I .i64))))))), (false, .B)] x = F_s_GetRec x := by kernel_rfl
noncomputable def e_s_GetRec : SEnt Tryd.prog := ⟨50, [(false, .L .Y)], [(false, .I .i64), (false, .I .i64), (true, .P (.I .i64) (.P (.P .S (.P (.P (.I .i64) (.L .Y)) (.P (.P (.I
 .i64) (.L .Y)) (.P (.I .i64) .B)))) (.P .S (.P (.I .i64) (.P (.I .i64) (.P (.I .i64) (.I .i64))))))), (false, .B)], F_s_GetRec, runs_see mixed_Pc Tryd.func50 (by kernel_rfl)
 h_s_GetRec⟩
noncomputable def a_i_scan_word : An := .d
theorem h_i_scan_word (x : (List UInt8) × Int × Bool) : fnG (P := Tryd.prog) [.see e_i_GetW] [] (sOf Tryd.prog Tryd.f100) a_i_scan_word (iOf Tryd.prog Tryd.f100) [⟨true, false, .P
 (.L .Y) (.P (.I .i64) .B), [.rx, .rd, .rd], (some (.P (.I .i64) .B))⟩] [(false, .I .i64)] x = F_i_scan_word x := by kernel_rfl
noncomputable def e_i_scan_word : GEnt Tryd.prog := ⟨100, [⟨true, false, .P (.L .Y) (.P (.I .i64) .B), [.rx, .rd, .rd], (some (.P (.I .i64) .B))⟩], [(false, .I .i64)],
 F_i_scan_word, runs_gen mixed_Pc Tryd.func100 (by kernel_rfl) h_i_scan_word⟩
noncomputable def a_i_Sum : An := (.sq none .d (.sq none .d (.sq (some [.lt 3 (.I .i64)]) (.sq none .d (.bl (.lp [.lt 3 (.I .i64), .kt 6, .kt 7, .lt 8 (.I .i64)] (.sq none .d (.sq
 none .d (.sq (some [.lt 3 (.I .i64), .kt 6, .kt 7, .kt 8]) (.bl (.sq none .d (.sq none .d (.sq none .d (.bl (.lp [.lt 3 (.I .i64), .kt 6, .kt 7, .kt 8, .lt 17 (.I .i64)] (.sq
 none .d (.sq none .d (.sq (some [.lt 3 (.I .i64), .kt 6, .kt 7, .kt 8, .kt 17]) .d .d))))))))) .d)))))) .d)))
theorem h_i_Sum (x : List UInt8) : fnX (P := Tryd.prog) [] [] (sOf Tryd.prog Tryd.f125) a_i_Sum (iOf Tryd.prog Tryd.f125) [(false, .L .Y)] [(false, .I .i64)] x = F_i_Sum x := by
 kernel_rfl
noncomputable def e_i_Sum : SEnt Tryd.prog := ⟨125, [(false, .L .Y)], [(false, .I .i64)], F_i_Sum, runs_see mixed_Pc Tryd.func125 (by kernel_rfl) h_i_Sum⟩
noncomputable def a_i_scan_sum : An := .d
theorem h_i_scan_sum (x : (List UInt8) × Int × Bool) : fnG (P := Tryd.prog) [.gen e_i_scan_word, .see e_i_Sum] [] (sOf Tryd.prog Tryd.f103) a_i_scan_sum (iOf Tryd.prog Tryd.f103)
 [⟨true, false, .P (.L .Y) (.P (.I .i64) .B), [.rx, .rd, .rd], (some (.P (.I .i64) .B))⟩] [(false, .B)] x = F_i_scan_sum x := by kernel_rfl
noncomputable def e_i_scan_sum : GEnt Tryd.prog := ⟨103, [⟨true, false, .P (.L .Y) (.P (.I .i64) .B), [.rx, .rd, .rd], (some (.P (.I .i64) .B))⟩], [(false, .B)], F_i_scan_sum,
 runs_gen mixed_Pc Tryd.func103 (by kernel_rfl) h_i_scan_sum⟩
noncomputable def a_i_GetRec : An := (.sq none .d (.sq none .d (.sq none .d (.sq none .d (.sq none .d (.sq none .d (.sq (some [.kt 4, .kt 6, .bx 7 [.K, .L .S, .L (.I .i64), .O .Y,
 .L (.I .i64), .O .Y, .L (.I .i64), .L .B, .L .S, .L (.I .i64), .K, .K, .K], .kt 8, .kt 9, .bx 12 [.K, .L (.I .i64), .L .B]]) .d .d)))))))
theorem h_i_GetRec (x : List UInt8) : fnX (P := Tryd.prog) [.gen e_i_scan_word, .gen e_i_scan_one, .gen e_i_scan_row, .gen e_i_scan_text, .gen e_i_scan_sum, .see e_i_RecOk] [] (sOf
 Tryd.prog Tryd.f51) a_i_GetRec (iOf Tryd.prog Tryd.f51) [(false, .L .Y)] [(false, .I .i64), (false, .I .i64), (true, .P (.I .i64) (.P (.P .S (.P (.P (.I .i64) (.L .Y)) (.P (.P
 (.I .i64) (.L .Y)) (.P (.I .i64) .B)))) (.P .S (.P (.I .i64) (.P (.I .i64) (.P (.I .i64) (.I .i64))))))), (false, .B)] x = F_i_GetRec x := by kernel_rfl
noncomputable def e_i_GetRec : SEnt Tryd.prog := ⟨51, [(false, .L .Y)], [(false, .I .i64), (false, .I .i64), (true, .P (.I .i64) (.P (.P .S (.P (.P (.I .i64) (.L .Y)) (.P (.P (.I
 .i64) (.L .Y)) (.P (.I .i64) .B)))) (.P .S (.P (.I .i64) (.P (.I .i64) (.P (.I .i64) (.I .i64))))))), (false, .B)], F_i_GetRec, runs_see mixed_Pc Tryd.func51 (by kernel_rfl)
 h_i_GetRec⟩
noncomputable def a_l_markRec : An := .d
theorem h_l_markRec (x : (Int × ((List UInt8) × (Int × List UInt8) × (Int × List UInt8) × Int × Bool) × (List UInt8) × Int × Int × Int × Int) × Int) : fnG (P := Tryd.prog) [.gen
 e_l_markRow] [] (sOf Tryd.prog Tryd.f52) a_l_markRec (iOf Tryd.prog Tryd.f52) [⟨false, true, .P (.I .i64) (.P (.P .S (.P (.P (.I .i64) (.L .Y)) (.P (.P (.I .i64) (.L .Y)) (.P (.I
 .i64) .B)))) (.P .S (.P (.I .i64) (.P (.I .i64) (.P (.I .i64) (.I .i64)))))), [.rd, .rd, .rd, .io, .rd, .io, .rd, .rd, .rd, .rd, .rd, .rd, .rd], none⟩, ⟨false, false, .I .i64,
 [.rd], none⟩] [(false, .I .i64)] x = F_l_markRec x := by kernel_rfl
noncomputable def e_l_markRec : GEnt Tryd.prog := ⟨52, [⟨false, true, .P (.I .i64) (.P (.P .S (.P (.P (.I .i64) (.L .Y)) (.P (.P (.I .i64) (.L .Y)) (.P (.I .i64) .B)))) (.P .S (.P
 (.I .i64) (.P (.I .i64) (.P (.I .i64) (.I .i64)))))), [.rd, .rd, .rd, .io, .rd, .io, .rd, .rd, .rd, .rd, .rd, .rd, .rd], none⟩, ⟨false, false, .I .i64, [.rd], none⟩], [(false, .I
 .i64)], F_l_markRec, runs_gen mixed_Pc Tryd.func52 (by kernel_rfl) h_l_markRec⟩
noncomputable def a_l_heldRec : An := .d
theorem h_l_heldRec (x : (Int × ((List UInt8) × (Int × List UInt8) × (Int × List UInt8) × Int × Bool) × (List UInt8) × Int × Int × Int × Int) × Int) : fnX (P := Tryd.prog) [.see
 e_l_heldRow] [] (sOf Tryd.prog Tryd.f53) a_l_heldRec (iOf Tryd.prog Tryd.f53) [(true, .P (.I .i64) (.P (.P .S (.P (.P (.I .i64) (.L .Y)) (.P (.P (.I .i64) (.L .Y)) (.P (.I .i64)
 .B)))) (.P .S (.P (.I .i64) (.P (.I .i64) (.P (.I .i64) (.I .i64))))))), (false, .I .i64)] [(false, .I .i64)] x = F_l_heldRec x := by kernel_rfl
noncomputable def e_l_heldRec : SEnt Tryd.prog := ⟨53, [(true, .P (.I .i64) (.P (.P .S (.P (.P (.I .i64) (.L .Y)) (.P (.P (.I .i64) (.L .Y)) (.P (.I .i64) .B)))) (.P .S (.P (.I
 .i64) (.P (.I .i64) (.P (.I .i64) (.I .i64))))))), (false, .I .i64)], [(false, .I .i64)], F_l_heldRec, runs_see mixed_Pc Tryd.func53 (by kernel_rfl) h_l_heldRec⟩
noncomputable def a_l_FnExactGetRec : An := .d
theorem h_l_FnExactGetRec (x : List UInt8) : fnX (P := Tryd.prog) [.see e_l_toByteS, .see e_s_GetRec, .see e_i_GetRec, .see e_l_eqRec, .see e_l_eqByteS, .gen e_l_markByteS, .gen
 e_l_markRec, .see e_l_heldRec] [] (sOf Tryd.prog Tryd.f12) a_l_FnExactGetRec (iOf Tryd.prog Tryd.f12) [(false, .L .Y)] [(false, .B)] x = F_l_FnExactGetRec x := by kernel_rfl
noncomputable def e_l_FnExactGetRec : SEnt Tryd.prog := ⟨12, [(false, .L .Y)], [(false, .B)], F_l_FnExactGetRec, runs_see mixed_Pc Tryd.func12 (by kernel_rfl) h_l_FnExactGetRec⟩
end Go.Vs
