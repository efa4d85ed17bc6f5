import Derived.Test.YtlndmcdpndcgjaaDoorProg
import Derived.Test.YtlndmcdpndcgjaaDoorVsPck6
set_option linter.all false
namespace Go.Vs
open Go.Proofs
set_option maxRecDepth 100000
set_option linter.unusedVariables false
noncomputable def a_s_GetText : An := .d
theorem h_s_GetText (x : (List UInt8) × Int) : fnX (P := Tryd.prog) [.see e_s_GetW] [] (sOf Tryd.prog Tryd.f122) a_s_GetText (iOf Tryd.prog Tryd.f122) [(false, .L .Y), (false, .I
 .i64)] [(false, .S), (false, .I .i64), (false, .B)] x = F_s_GetText x := by kernel_rfl
noncomputable def e_s_GetText : SEnt Tryd.prog := ⟨122, [(false, .L .Y), (false, .I .i64)], [(false, .S), (false, .I .i64), (false, .B)], F_s_GetText, runs_see mixed_Pc
 Tryd.func122 (by kernel_rfl) h_s_GetText⟩
noncomputable def a_s_l11Text : An := .d
theorem h_s_l11Text (x : (List UInt8) × Int × Bool) : fnG (P := Tryd.prog) [.see e_s_GetText] [] (sOf Tryd.prog Tryd.f97) a_s_l11Text (iOf Tryd.prog Tryd.f97) [⟨true, false, .P (.L
 .Y) (.P (.I .i64) .B), [.rx, .rd, .rd], (some (.P (.I .i64) .B))⟩] [(false, .S)] x = F_s_l11Text x := by kernel_rfl
noncomputable def e_s_l11Text : GEnt Tryd.prog := ⟨97, [⟨true, false, .P (.L .Y) (.P (.I .i64) .B), [.rx, .rd, .rd], (some (.P (.I .i64) .B))⟩], [(false, .S)], F_s_l11Text,
 runs_gen mixed_Pc Tryd.func97 (by kernel_rfl) h_s_l11Text⟩
noncomputable def a_s_l11Byte : An := .d
theorem h_s_l11Byte (x : (List UInt8) × Int × Bool) : fnG (P := Tryd.prog) [] [] (sOf Tryd.prog Tryd.f96) a_s_l11Byte (iOf Tryd.prog Tryd.f96) [⟨true, false, .P (.L .Y) (.P (.I
 .i64) .B), [.rx, .rd, .rd], (some (.P (.I .i64) .B))⟩] [(false, .I .i64)] x = F_s_l11Byte x := by kernel_rfl
noncomputable def e_s_l11Byte : GEnt Tryd.prog := ⟨96, [⟨true, false, .P (.L .Y) (.P (.I .i64) .B), [.rx, .rd, .rd], (some (.P (.I .i64) .B))⟩], [(false, .I .i64)], F_s_l11Byte,
 runs_gen mixed_Pc Tryd.func96 (by kernel_rfl) h_s_l11Byte⟩
noncomputable def a_s_l11GetCell : An := .d
theorem h_s_l11GetCell (x : (List UInt8) × Int × Bool) : fnG (P := Tryd.prog) [.gen e_s_l11Byte, .gen e_s_l11Text] [] (sOf Tryd.prog Tryd.f118) a_s_l11GetCell (iOf Tryd.prog
 Tryd.f118) [⟨true, false, .P (.L .Y) (.P (.I .i64) .B), [.rx, .rd, .rd], (some (.P (.I .i64) .B))⟩] [(true, .P (.I .i64) (.L .Y))] x = F_s_l11GetCell x := by kernel_rfl
noncomputable def e_s_l11GetCell : GEnt Tryd.prog := ⟨118, [⟨true, false, .P (.L .Y) (.P (.I .i64) .B), [.rx, .rd, .rd], (some (.P (.I .i64) .B))⟩], [(true, .P (.I .i64) (.L .Y))],
 F_s_l11GetCell, runs_gen mixed_Pc Tryd.func118 (by kernel_rfl) h_s_l11GetCell⟩
noncomputable def a_s_l11GetRow : An := (.sq none .d (.sq none .d (.sq none .d (.sq none .d (.sq none .d (.sq none .d (.sq (some [.bx 0 [.K, .L (.I .i64), .L .B], .kt 2, .bx 3 [.K,
 .L (.I .i64), .O .Y, .K, .K, .K, .K]]) .d (.sq (some [.bx 0 [.K, .L (.I .i64), .L .B], .kt 2, .bx 3 [.K, .K, .K, .L (.I .i64), .O .Y, .K, .K]]) .d .d))))))))
theorem h_s_l11GetRow (x : (List UInt8) × Int × Bool) : fnG (P := Tryd.prog) [.gen e_s_l11Text, .gen e_s_l11Byte, .see e_s_l9Old, .gen e_s_l11GetCell, .see e_s_l9New] [] (sOf
 Tryd.prog Tryd.f86) a_s_l11GetRow (iOf Tryd.prog Tryd.f86) [⟨true, false, .P (.L .Y) (.P (.I .i64) .B), [.rx, .rd, .rd], (some (.P (.I .i64) .B))⟩] [(true, .P .S (.P (.P (.I
 .i64) (.L .Y)) (.P (.P (.I .i64) (.L .Y)) (.P (.I .i64) .B))))] x = F_s_l11GetRow x := by kernel_rfl
noncomputable def e_s_l11GetRow : GEnt Tryd.prog := ⟨86, [⟨true, false, .P (.L .Y) (.P (.I .i64) .B), [.rx, .rd, .rd], (some (.P (.I .i64) .B))⟩], [(true, .P .S (.P (.P (.I .i64)
 (.L .Y)) (.P (.P (.I .i64) (.L .Y)) (.P (.I .i64) .B))))], F_s_l11GetRow, runs_gen mixed_Pc Tryd.func86 (by kernel_rfl) h_s_l11GetRow⟩
noncomputable def a_i_GetW : An := .d
theorem h_i_GetW (x : (List UInt8) × Int) : fnX (P := Tryd.prog) [] [] (sOf Tryd.prog Tryd.f123) a_i_GetW (iOf Tryd.prog Tryd.f123) [(false, .L .Y), (false, .I .i64)] [(false, .I
 .i64), (false, .I .i64), (false, .B)] x = F_i_GetW x := by kernel_rfl
noncomputable def e_i_GetW : SEnt Tryd.prog := ⟨123, [(false, .L .Y), (false, .I .i64)], [(false, .I .i64), (false, .I .i64), (false, .B)], F_i_GetW, runs_see mixed_Pc Tryd.func123
 (by kernel_rfl) h_i_GetW⟩
noncomputable def a_i_GetText : An := .d
theorem h_i_GetText (x : (List UInt8) × Int) : fnX (P := Tryd.prog) [.see e_i_GetW] [] (sOf Tryd.prog Tryd.f124) a_i_GetText (iOf Tryd.prog Tryd.f124) [(false, .L .Y), (false, .I
 .i64)] [(false, .S), (false, .I .i64), (false, .B)] x = F_i_GetText x := by kernel_rfl
noncomputable def e_i_GetText : SEnt Tryd.prog := ⟨124, [(false, .L .Y), (false, .I .i64)], [(false, .S), (false, .I .i64), (false, .B)], F_i_GetText, runs_see mixed_Pc
 Tryd.func124 (by kernel_rfl) h_i_GetText⟩
noncomputable def a_i_scan_text : An := .d
theorem h_i_scan_text (x : (List UInt8) × Int × Bool) : fnG (P := Tryd.prog) [.see e_i_GetText] [] (sOf Tryd.prog Tryd.f102) a_i_scan_text (iOf Tryd.prog Tryd.f102) [⟨true, false,
 .P (.L .Y) (.P (.I .i64) .B), [.rx, .rd, .rd], (some (.P (.I .i64) .B))⟩] [(false, .S)] x = F_i_scan_text x := by kernel_rfl
noncomputable def e_i_scan_text : GEnt Tryd.prog := ⟨102, [⟨true, false, .P (.L .Y) (.P (.I .i64) .B), [.rx, .rd, .rd], (some (.P (.I .i64) .B))⟩], [(false, .S)], F_i_scan_text,
 runs_gen mixed_Pc Tryd.func102 (by kernel_rfl) h_i_scan_text⟩
noncomputable def a_i_scan_one : An := .d
theorem h_i_scan_one (x : (List UInt8) × Int × Bool) : fnG (P := Tryd.prog) [] [] (sOf Tryd.prog Tryd.f101) a_i_scan_one (iOf Tryd.prog Tryd.f101) [⟨true, false, .P (.L .Y) (.P (.I
 .i64) .B), [.rx, .rd, .rd], (some (.P (.I .i64) .B))⟩] [(false, .I .i64)] x = F_i_scan_one x := by kernel_rfl
noncomputable def e_i_scan_one : GEnt Tryd.prog := ⟨101, [⟨true, false, .P (.L .Y) (.P (.I .i64) .B), [.rx, .rd, .rd], (some (.P (.I .i64) .B))⟩], [(false, .I .i64)], F_i_scan_one,
 runs_gen mixed_Pc Tryd.func101 (by kernel_rfl) h_i_scan_one⟩
noncomputable def a_i_scan_cell : An := .d
theorem h_i_scan_cell (x : (List UInt8) × Int × Bool) : fnG (P := Tryd.prog) [.gen e_i_scan_one, .gen e_i_scan_text] [] (sOf Tryd.prog Tryd.f119) a_i_scan_cell (iOf Tryd.prog
 Tryd.f119) [⟨true, false, .P (.L .Y) (.P (.I .i64) .B), [.rx, .rd, .rd], (some (.P (.I .i64) .B))⟩] [(true, .P (.I .i64) (.L .Y))] x = F_i_scan_cell x := by kernel_rfl
noncomputable def e_i_scan_cell : GEnt Tryd.prog := ⟨119, [⟨true, false, .P (.L .Y) (.P (.I .i64) .B), [.rx, .rd, .rd], (some (.P (.I .i64) .B))⟩], [(true, .P (.I .i64) (.L .Y))],
 F_i_scan_cell, runs_gen mixed_Pc Tryd.func119 (by kernel_rfl) h_i_scan_cell⟩
noncomputable def a_i_scan_row : An := (.sq none .d (.sq none .d (.sq none .d (.sq none .d (.sq none .d (.sq none .d (.sq (some [.bx 0 [.K, .L (.I .i64), .L .B], .kt 2, .bx 3 [.K,
 .L (.I .i64), .O .Y, .K, .K, .K, .K], .kt 4]) .d (.sq (some [.bx 0 [.K, .L (.I .i64), .L .B], .kt 2, .bx 3 [.K, .K, .K, .L (.I .i64), .O .Y, .K, .K], .kt 4]) .d .d))))))))
theorem h_i_scan_row (x : (List UInt8) × Int × Bool) : fnG (P := Tryd.prog) [.gen e_i_scan_text, .gen e_i_scan_one, .gen e_i_scan_cell, .see e_i_RowOk] [] (sOf Tryd.prog Tryd.f87)
 a_i_scan_row (iOf Tryd.prog Tryd.f87) [⟨true, false, .P (.L .Y) (.P (.I .i64) .B), [.rx, .rd, .rd], (some (.P (.I .i64) .B))⟩] [(true, .P .S (.P (.P (.I .i64) (.L .Y)) (.P (.P
 (.I .i64) (.L .Y)) (.P (.I .i64) .B))))] x = F_i_scan_row x := by kernel_rfl
noncomputable def e_i_scan_row : GEnt Tryd.prog := ⟨87, [⟨true, false, .P (.L .Y) (.P (.I .i64) .B), [.rx, .rd, .rd], (some (.P (.I .i64) .B))⟩], [(true, .P .S (.P (.P (.I .i64)
 (.L .Y)) (.P (.P (.I .i64) (.L .Y)) (.P (.I .i64) .B))))], F_i_scan_row, runs_gen mixed_Pc Tryd.func87 (by kernel_rfl) h_i_scan_row⟩
end Go.Vs
