import Derived.Test.YtgleokjlebkdcaaProg
import Derived.Test.YtgleokjlebkdcaaVsPfk0
set_option linter.all false
namespace Go.Vs
open Go.Proofs
set_option maxRecDepth 100000
set_option linter.unusedVariables false
noncomputable def a_i_joined : An := (.sq none .d (.sq none .d (.sq (some [.ot 3 .Y]) (.sq none .d (.bl (.lp [.ot 3 .Y, .kt 7, .kt 8, .lt 9 (.I .i64)] .d))) .d)))
theorem h_i_joined (x : List (List UInt8)) : fnX (P := Try.prog) [] [(6, .el .Y), (15, .el .Y)] (sOf Try.prog Try.f60) a_i_joined (iOf Try.prog Try.f60) [(false, .L (.L .Y))]
 [(false, .L .Y)] x = F_i_joined x := by kernel_rfl
noncomputable def e_i_joined : SEnt Try.prog := ⟨60, [(false, .L (.L .Y))], [(false, .L .Y)], F_i_joined, runs_see mixed_Pf Try.func60 (by kernel_rfl) h_i_joined⟩
noncomputable def a_i_copyDev : An := (.sq none .d (.sq none .d (.sq (some [.kt 1, .kt 2, .bx 3 [.O (.L .Y), .K, .K, .K]]) (.sq none .d (.bl (.lp [.kt 1, .kt 2, .bx 3 [.O (.L .Y),
 .K, .K, .K], .kt 14, .kt 15, .lt 16 (.I .i64)] .d))) (.sq (some [.kt 2, .bx 3 [.K, .O (.P (.I .i64) (.L .Y)), .K, .K]]) (.sq none .d (.bl (.lp [.kt 2, .bx 3 [.K, .O (.P (.I .i64)
 (.L .Y)), .K, .K], .kt 30, .kt 31, .lt 32 (.I .i64)] .d))) .d))))
theorem h_i_copyDev (x : (List (List UInt8)) × (List (Int × List UInt8)) × Int × Bool) : fnX (P := Try.prog) [.see e_i_joined] [(23, .sb), (25, .el (.L .Y)), (26, .el (.L .Y)),
 (42, .sb), (45, .el (.P (.I .i64) (.L .Y))), (46, .el (.P (.I .i64) (.L .Y)))] (sOf Try.prog Try.f58) a_i_copyDev (iOf Try.prog Try.f58) [(true, .P (.L (.L .Y)) (.P (.L (.P (.I
 .i64) (.L .Y))) (.P (.I .i64) .B)))] [(true, .P (.L (.L .Y)) (.P (.L (.P (.I .i64) (.L .Y))) (.P (.I .i64) .B)))] x = F_i_copyDev x := by kernel_rfl
noncomputable def e_i_copyDev : SEnt Try.prog := ⟨58, [(true, .P (.L (.L .Y)) (.P (.L (.P (.I .i64) (.L .Y))) (.P (.I .i64) .B)))], [(true, .P (.L (.L .Y)) (.P (.L (.P (.I .i64)
 (.L .Y))) (.P (.I .i64) .B)))], F_i_copyDev, runs_see mixed_Pf Try.func58 (by kernel_rfl) h_i_copyDev⟩
noncomputable def a_i_within : An := .d
theorem h_i_within (x : Int × Int × Int) : fnX (P := Try.prog) [] [] (sOf Try.prog Try.f45) a_i_within (iOf Try.prog Try.f45) [(false, .I .i64), (false, .I .i64), (false, .I .i64)]
 [(false, .B)] x = F_i_within x := by kernel_rfl
noncomputable def e_i_within : SEnt Try.prog := ⟨45, [(false, .I .i64), (false, .I .i64), (false, .I .i64)], [(false, .B)], F_i_within, runs_see mixed_Pf Try.func45 (by kernel_rfl)
 h_i_within⟩
noncomputable def a_i_DevOk : An := (.sq none .d (.sq none .d (.sq (some [.kt 1]) (.sq none .d (.bl (.lp [.kt 1, .kt 25, .kt 26, .lt 27 (.I .i64)] .d))) (.sq none (.sq none .d (.bl
 (.lp [.kt 1, .kt 36, .kt 37, .lt 38 (.I .i64)] .d))) .d))))
theorem h_i_DevOk (x : (List (List UInt8)) × (List (Int × List UInt8)) × Int × Bool) : fnX (P := Try.prog) [.see e_i_within] [] (sOf Try.prog Try.f21) a_i_DevOk (iOf Try.prog
 Try.f21) [(true, .P (.L (.L .Y)) (.P (.L (.P (.I .i64) (.L .Y))) (.P (.I .i64) .B)))] [(false, .B)] x = F_i_DevOk x := by kernel_rfl
noncomputable def e_i_DevOk : SEnt Try.prog := ⟨21, [(true, .P (.L (.L .Y)) (.P (.L (.P (.I .i64) (.L .Y))) (.P (.I .i64) .B)))], [(false, .B)], F_i_DevOk, runs_see mixed_Pf
 Try.func21 (by kernel_rfl) h_i_DevOk⟩
noncomputable def a_i_burn : An := (.sq none .d (.sq none .d (.sq (some [.bx 1 [.K, .K, .L (.I .i64), .K], .kt 2]) .d .d)))
theorem h_i_burn (x : (List (List UInt8)) × (List (Int × List UInt8)) × Int × Bool) : fnG (P := Try.prog) [] [] (sOf Try.prog Try.f59) a_i_burn (iOf Try.prog Try.f59) [⟨false,
 true, .P (.L (.L .Y)) (.P (.L (.P (.I .i64) (.L .Y))) (.P (.I .i64) .B)), [.ow, .ow, .rd, .rd], none⟩] [(true, .P (.L (.L .Y)) (.P (.L (.P (.I .i64) (.L .Y))) (.P (.I .i64)
 .B))), (false, .B)] x = F_i_burn x := by kernel_rfl
noncomputable def e_i_burn : GEnt Try.prog := ⟨59, [⟨false, true, .P (.L (.L .Y)) (.P (.L (.P (.I .i64) (.L .Y))) (.P (.I .i64) .B)), [.ow, .ow, .rd, .rd], none⟩], [(true, .P (.L
 (.L .Y)) (.P (.L (.P (.I .i64) (.L .Y))) (.P (.I .i64) .B))), (false, .B)], F_i_burn, runs_gen mixed_Pf Try.func59 (by kernel_rfl) h_i_burn⟩
noncomputable def a_i_WriteSec : An := (.sq none .d (.sq none .d (.sq none .d (.sq none .d (.sq (some [.kt 6, .bx 7 [.K, .O (.P (.I .i64) (.L .Y)), .K, .K]]) .d .d)))))
theorem h_i_WriteSec (x : ((List (List UInt8)) × (List (Int × List UInt8)) × Int × Bool) × Int × List UInt8) : fnX (P := Try.prog) [.see e_i_copyDev, .see e_i_DevOk, .see
 e_i_within, .gen e_i_burn, .see e_i_joined] [(49, .sb), (52, .el (.P (.I .i64) (.L .Y))), (53, .el (.P (.I .i64) (.L .Y)))] (sOf Try.prog Try.f17) a_i_WriteSec (iOf Try.prog
 Try.f17) [(true, .P (.L (.L .Y)) (.P (.L (.P (.I .i64) (.L .Y))) (.P (.I .i64) .B))), (false, .I .i64), (false, .L .Y)] [(true, .P (.L (.L .Y)) (.P (.L (.P (.I .i64) (.L .Y)))
 (.P (.I .i64) .B)))] x = F_i_WriteSec x := by kernel_rfl
noncomputable def e_i_WriteSec : SEnt Try.prog := ⟨17, [(true, .P (.L (.L .Y)) (.P (.L (.P (.I .i64) (.L .Y))) (.P (.I .i64) .B))), (false, .I .i64), (false, .L .Y)], [(true, .P
 (.L (.L .Y)) (.P (.L (.P (.I .i64) (.L .Y))) (.P (.I .i64) .B)))], F_i_WriteSec, runs_see mixed_Pf Try.func17 (by kernel_rfl) h_i_WriteSec⟩
noncomputable def a_i_FlushDev : An := (.sq none .d (.sq none .d (.sq none .d (.sq none .d (.sq none .d (.sq (some [.kt 2, .bx 3 [.O (.L .Y), .K, .K, .K]]) (.sq none .d (.bl (.lp
 [.kt 2, .bx 3 [.O (.L .Y), .K, .K, .K], .kt 26, .kt 27, .lt 28 (.I .i64)] .d))) .d))))))
theorem h_i_FlushDev (x : (List (List UInt8)) × (List (Int × List UInt8)) × Int × Bool) : fnX (P := Try.prog) [.see e_i_copyDev, .see e_i_DevOk, .gen e_i_burn, .see e_i_joined]
 [(38, .sb)] (sOf Try.prog Try.f18) a_i_FlushDev (iOf Try.prog Try.f18) [(true, .P (.L (.L .Y)) (.P (.L (.P (.I .i64) (.L .Y))) (.P (.I .i64) .B)))] [(true, .P (.L (.L .Y)) (.P
 (.L (.P (.I .i64) (.L .Y))) (.P (.I .i64) .B)))] x = F_i_FlushDev x := by kernel_rfl
noncomputable def e_i_FlushDev : SEnt Try.prog := ⟨18, [(true, .P (.L (.L .Y)) (.P (.L (.P (.I .i64) (.L .Y))) (.P (.I .i64) .B)))], [(true, .P (.L (.L .Y)) (.P (.L (.P (.I .i64)
 (.L .Y))) (.P (.I .i64) .B)))], F_i_FlushDev, runs_see mixed_Pf Try.func18 (by kernel_rfl) h_i_FlushDev⟩
noncomputable def a_i_FallDev : An := (.sq none .d (.sq none .d (.sq none .d (.sq (some [.lt 1 (.I .i64), .kt 4, .kt 5]) .d (.sq (some [.kt 4, .bx 5 [.O (.L .Y), .K, .K, .K]]) (.sq
 none .d (.bl (.lp [.kt 1, .kt 4, .bx 5 [.O (.L .Y), .K, .K, .K], .kt 18, .kt 19, .lt 20 (.I .i64)] (.sq none .d (.sq none .d (.sq (some [.kt 1, .kt 4, .bx 5 [.O (.L .Y), .K, .K,
 .K], .kt 18, .kt 19, .kt 20]) .d .d)))))) .d)))))
theorem h_i_FallDev (x : ((List (List UInt8)) × (List (Int × List UInt8)) × Int × Bool) × Int) : fnX (P := Try.prog) [.see e_i_copyDev, .see e_i_DevOk, .see e_i_within, .see
 e_i_joined] [(40, .sb)] (sOf Try.prog Try.f19) a_i_FallDev (iOf Try.prog Try.f19) [(true, .P (.L (.L .Y)) (.P (.L (.P (.I .i64) (.L .Y))) (.P (.I .i64) .B))), (false, .I .i64)]
 [(true, .P (.L (.L .Y)) (.P (.L (.P (.I .i64) (.L .Y))) (.P (.I .i64) .B)))] x = F_i_FallDev x := by kernel_rfl
noncomputable def e_i_FallDev : SEnt Try.prog := ⟨19, [(true, .P (.L (.L .Y)) (.P (.L (.P (.I .i64) (.L .Y))) (.P (.I .i64) .B))), (false, .I .i64)], [(true, .P (.L (.L .Y)) (.P
 (.L (.P (.I .i64) (.L .Y))) (.P (.I .i64) .B)))], F_i_FallDev, runs_see mixed_Pf Try.func19 (by kernel_rfl) h_i_FallDev⟩
noncomputable def a_i_ReadSec : An := (.sq none .d (.sq none .d (.sq (some [.kt 1, .kt 2]) (.sq none .d (.bl (.lp [.kt 1, .kt 2, .lt 5 (.I .i64)] .d))) .d)))
theorem h_i_ReadSec (x : ((List (List UInt8)) × (List (Int × List UInt8)) × Int × Bool) × Int) : fnX (P := Try.prog) [.see e_i_DevOk, .see e_i_within, .see e_i_joined] [(40, .sb),
 (47, .sb)] (sOf Try.prog Try.f20) a_i_ReadSec (iOf Try.prog Try.f20) [(true, .P (.L (.L .Y)) (.P (.L (.P (.I .i64) (.L .Y))) (.P (.I .i64) .B))), (false, .I .i64)] [(false, .L
 .Y)] x = F_i_ReadSec x := by kernel_rfl
noncomputable def e_i_ReadSec : SEnt Try.prog := ⟨20, [(true, .P (.L (.L .Y)) (.P (.L (.P (.I .i64) (.L .Y))) (.P (.I .i64) .B))), (false, .I .i64)], [(false, .L .Y)], F_i_ReadSec,
 runs_see mixed_Pf Try.func20 (by kernel_rfl) h_i_ReadSec⟩
noncomputable def a_l_FnDevs : An := (.sq none .d (.sq none .d (.sq none .d (.sq none .d (.sq none .d (.sq none .d (.sq none .d (.sq none .d (.sq (some [.kt 4, .kt 5, .kt 6, .kt 7,
 .kt 8]) (.sq none .d (.bl (.lp [.kt 3, .kt 4, .kt 5, .kt 6, .kt 7, .kt 8, .lt 9 (.I .i64)] (.sq none .d (.sq (some [.kt 3, .kt 4, .kt 5, .kt 6, .kt 7, .kt 8, .kt 9]) (.bl (.sq
 none .d (.sq none .d (.sq (some [.kt 3, .kt 4, .kt 5, .kt 6, .kt 7, .kt 8, .kt 9, .lt 10 .B]) (.sq none .d (.bl (.lp [.kt 3, .kt 4, .kt 5, .kt 6, .kt 7, .kt 8, .kt 9, .lt 10 .B,
 .lt 11 (.I .i64)] .d))) .d)))) .d))))) .d)))))))))
theorem h_l_FnDevs (x : List UInt8) : fnX (P := Try.prog) [.see e_l_big, .see e_s_DrawDev, .see e_l_at, .see e_i_WriteSec, .see e_i_FlushDev, .see e_i_FallDev, .see e_i_ReadSec,
 .see e_i_DevOk] [(28, .el .Y)] (sOf Try.prog Try.f4) a_l_FnDevs (iOf Try.prog Try.f4) [(false, .L .Y)] [(false, .B)] x = F_l_FnDevs x := by kernel_rfl
noncomputable def e_l_FnDevs : SEnt Try.prog := ⟨4, [(false, .L .Y)], [(false, .B)], F_l_FnDevs, runs_see mixed_Pf Try.func4 (by kernel_rfl) h_l_FnDevs⟩
end Go.Vs
