import Derived.Test.YtgleokjlebkdcaaProg
import Derived.Test.YtgleokjlebkdcaaVsPdk0
set_option linter.all false
namespace Go.Vs
open Go.Proofs
set_option maxRecDepth 100000
set_option linter.unusedVariables false
noncomputable def a_s_HeadOf : An := .d
theorem h_s_HeadOf (x : Int × Int) : fnX (P := Try.prog) [.see e_s_l1In, .see e_s_PutW, .see e_s_Sum] [(14, .el .Y), (15, .el .Y)] (sOf Try.prog Try.f14) a_s_HeadOf (iOf Try.prog
 Try.f14) [(false, .I .i64), (false, .I .i64)] [(false, .L .Y)] x = F_s_HeadOf x := by kernel_rfl
noncomputable def e_s_HeadOf : SEnt Try.prog := ⟨14, [(false, .I .i64), (false, .I .i64)], [(false, .L .Y)], F_s_HeadOf, runs_see mixed_Pd Try.func14 (by kernel_rfl) h_s_HeadOf⟩
noncomputable def a_s_l1Bend : An := (.sq none .d (.sq none .d (.sq (some [.bx 0 [.K, .L (.I .i64), .L (.I .i64)], .sr 5 .Y]) .d .d)))
theorem h_s_l1Bend (x : ((List UInt8) × Int × Int) × List UInt8) : fnG (P := Try.prog) [.gen e_s_l1Below] [(6, .el .Y), (8, .el .Y)] (sOf Try.prog Try.f48) a_s_l1Bend (iOf Try.prog
 Try.f48) [⟨true, false, .P (.L .Y) (.P (.I .i64) (.I .i64)), [.rx, .rd, .rd], (some (.P (.I .i64) (.I .i64)))⟩, ⟨false, false, .L .Y, [.rd], none⟩] [(false, .L .Y)] x =
 F_s_l1Bend x := by kernel_rfl
noncomputable def e_s_l1Bend : GEnt Try.prog := ⟨48, [⟨true, false, .P (.L .Y) (.P (.I .i64) (.I .i64)), [.rx, .rd, .rd], (some (.P (.I .i64) (.I .i64)))⟩, ⟨false, false, .L .Y,
 [.rd], none⟩], [(false, .L .Y)], F_s_l1Bend, runs_gen mixed_Pd Try.func48 (by kernel_rfl) h_s_l1Bend⟩
noncomputable def a_s_l1Once : An := .d
theorem h_s_l1Once (x : ((List UInt8) × Int × Int) × Int) : fnG (P := Try.prog) [.gen e_s_l1Below] [] (sOf Try.prog Try.f50) a_s_l1Once (iOf Try.prog Try.f50) [⟨true, false, .P (.L
 .Y) (.P (.I .i64) (.I .i64)), [.rx, .rd, .rd], (some (.P (.I .i64) (.I .i64)))⟩, ⟨false, false, .I .i64, [.rd], none⟩] [(false, .B)] x = F_s_l1Once x := by kernel_rfl
noncomputable def e_s_l1Once : GEnt Try.prog := ⟨50, [⟨true, false, .P (.L .Y) (.P (.I .i64) (.I .i64)), [.rx, .rd, .rd], (some (.P (.I .i64) (.I .i64)))⟩, ⟨false, false, .I .i64,
 [.rd], none⟩], [(false, .B)], F_s_l1Once, runs_gen mixed_Pd Try.func50 (by kernel_rfl) h_s_l1Once⟩
noncomputable def a_s_DrawGetHead : An := .d
theorem h_s_DrawGetHead (x : List UInt8) : fnX (P := Try.prog) [.cur e_s_l1New, .gen e_s_l1Below, .see e_s_HeadOf, .gen e_s_l1Bend, .gen e_s_l1Once, .gen e_s_l1Int, .see e_s_Sum,
 .see e_s_PutW] [(29, .el (.I .i64))] (sOf Try.prog Try.f11) a_s_DrawGetHead (iOf Try.prog Try.f11) [(false, .L .Y)] [(false, .L .Y)] x = F_s_DrawGetHead x := by kernel_rfl
noncomputable def e_s_DrawGetHead : SEnt Try.prog := ⟨11, [(false, .L .Y)], [(false, .L .Y)], F_s_DrawGetHead, runs_see mixed_Pd Try.func11 (by kernel_rfl) h_s_DrawGetHead⟩
noncomputable def a_i_GetW : An := .d
theorem h_i_GetW (x : (List UInt8) × Int) : fnX (P := Try.prog) [] [] (sOf Try.prog Try.f79) a_i_GetW (iOf Try.prog Try.f79) [(false, .L .Y), (false, .I .i64)] [(false, .I .i64),
 (false, .I .i64), (false, .B)] x = F_i_GetW x := by kernel_rfl
noncomputable def e_i_GetW : SEnt Try.prog := ⟨79, [(false, .L .Y), (false, .I .i64)], [(false, .I .i64), (false, .I .i64), (false, .B)], F_i_GetW, runs_see mixed_Pd Try.func79 (by
 kernel_rfl) h_i_GetW⟩
noncomputable def a_i_scan_word : An := .d
theorem h_i_scan_word (x : (List UInt8) × Int × Bool) : fnG (P := Try.prog) [.see e_i_GetW] [] (sOf Try.prog Try.f53) a_i_scan_word (iOf Try.prog Try.f53) [⟨true, false, .P (.L .Y)
 (.P (.I .i64) .B), [.rx, .rd, .rd], (some (.P (.I .i64) .B))⟩] [(false, .I .i64)] x = F_i_scan_word x := by kernel_rfl
noncomputable def e_i_scan_word : GEnt Try.prog := ⟨53, [⟨true, false, .P (.L .Y) (.P (.I .i64) .B), [.rx, .rd, .rd], (some (.P (.I .i64) .B))⟩], [(false, .I .i64)], F_i_scan_word,
 runs_gen mixed_Pd Try.func53 (by kernel_rfl) h_i_scan_word⟩
noncomputable def a_i_scan_sum : An := .d
theorem h_i_scan_sum (x : (List UInt8) × Int × Bool) : fnG (P := Try.prog) [.gen e_i_scan_word, .see e_i_Sum] [] (sOf Try.prog Try.f54) a_i_scan_sum (iOf Try.prog Try.f54) [⟨true,
 false, .P (.L .Y) (.P (.I .i64) .B), [.rx, .rd, .rd], (some (.P (.I .i64) .B))⟩] [(false, .B)] x = F_i_scan_sum x := by kernel_rfl
noncomputable def e_i_scan_sum : GEnt Try.prog := ⟨54, [⟨true, false, .P (.L .Y) (.P (.I .i64) .B), [.rx, .rd, .rd], (some (.P (.I .i64) .B))⟩], [(false, .B)], F_i_scan_sum,
 runs_gen mixed_Pd Try.func54 (by kernel_rfl) h_i_scan_sum⟩
noncomputable def a_i_GetHead : An := .d
theorem h_i_GetHead (x : List UInt8) : fnX (P := Try.prog) [.gen e_i_scan_word, .gen e_i_scan_sum, .see e_i_within] [] (sOf Try.prog Try.f12) a_i_GetHead (iOf Try.prog Try.f12)
 [(false, .L .Y)] [(false, .I .i64), (false, .I .i64), (false, .B)] x = F_i_GetHead x := by kernel_rfl
noncomputable def e_i_GetHead : SEnt Try.prog := ⟨12, [(false, .L .Y)], [(false, .I .i64), (false, .I .i64), (false, .B)], F_i_GetHead, runs_see mixed_Pd Try.func12 (by kernel_rfl)
 h_i_GetHead⟩
noncomputable def a_s_GetW : An := .d
theorem h_s_GetW (x : (List UInt8) × Int) : fnX (P := Try.prog) [.see e_s_l1In] [] (sOf Try.prog Try.f55) a_s_GetW (iOf Try.prog Try.f55) [(false, .L .Y), (false, .I .i64)]
 [(false, .I .i64), (false, .I .i64), (false, .B)] x = F_s_GetW x := by kernel_rfl
noncomputable def e_s_GetW : SEnt Try.prog := ⟨55, [(false, .L .Y), (false, .I .i64)], [(false, .I .i64), (false, .I .i64), (false, .B)], F_s_GetW, runs_see mixed_Pd Try.func55 (by
 kernel_rfl) h_s_GetW⟩
noncomputable def a_s_GetHead : An := .d
theorem h_s_GetHead (x : List UInt8) : fnX (P := Try.prog) [.see e_s_GetW, .see e_s_Sum, .see e_s_l1In] [] (sOf Try.prog Try.f13) a_s_GetHead (iOf Try.prog Try.f13) [(false, .L
 .Y)] [(false, .I .i64), (false, .I .i64), (false, .B)] x = F_s_GetHead x := by kernel_rfl
noncomputable def e_s_GetHead : SEnt Try.prog := ⟨13, [(false, .L .Y)], [(false, .I .i64), (false, .I .i64), (false, .B)], F_s_GetHead, runs_see mixed_Pd Try.func13 (by kernel_rfl)
 h_s_GetHead⟩
noncomputable def a_l_at : An := .d
theorem h_l_at (x : (List UInt8) × Int) : fnX (P := Try.prog) [] [] (sOf Try.prog Try.f15) a_l_at (iOf Try.prog Try.f15) [(false, .L .Y), (false, .I .i64)] [(false, .I .i64)] x =
 F_l_at x := by kernel_rfl
noncomputable def e_l_at : SEnt Try.prog := ⟨15, [(false, .L .Y), (false, .I .i64)], [(false, .I .i64)], F_l_at, runs_see mixed_Pd Try.func15 (by kernel_rfl) h_l_at⟩
noncomputable def a_l_FnHeads : An := .d
theorem h_l_FnHeads (x : List UInt8) : fnX (P := Try.prog) [.see e_l_big, .see e_s_DrawHeadOf, .see e_i_HeadOf, .see e_s_DrawGetHead, .see e_i_GetHead, .see e_s_GetHead, .see
 e_s_HeadOf, .see e_l_at] [] (sOf Try.prog Try.f3) a_l_FnHeads (iOf Try.prog Try.f3) [(false, .L .Y)] [(false, .B)] x = F_l_FnHeads x := by kernel_rfl
noncomputable def e_l_FnHeads : SEnt Try.prog := ⟨3, [(false, .L .Y)], [(false, .B)], F_l_FnHeads, runs_see mixed_Pd Try.func3 (by kernel_rfl) h_l_FnHeads⟩
end Go.Vs
