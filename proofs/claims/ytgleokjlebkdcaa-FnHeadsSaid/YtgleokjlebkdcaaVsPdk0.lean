import Derived.Test.YtgleokjlebkdcaaProg
import Derived.Test.YtgleokjlebkdcaaVsPd
set_option linter.all false
namespace Go.Vs
open Go.Proofs
set_option maxRecDepth 100000
set_option linter.unusedVariables false
theorem mixed_Pd : Try.prog.follows .mixedOrders = true := by kernel_rfl
noncomputable def a_l_big : An := .d
theorem h_l_big (x : List UInt8) : fnX (P := Try.prog) [] [] (sOf Try.prog Try.f8) a_l_big (iOf Try.prog Try.f8) [(false, .L .Y)] [(false, .B)] x = F_l_big x := by kernel_rfl
noncomputable def e_l_big : SEnt Try.prog := ⟨8, [(false, .L .Y)], [(false, .B)], F_l_big, runs_see mixed_Pd Try.func8 (by kernel_rfl) h_l_big⟩
noncomputable def a_s_l1New : An := (.sq none .d (.sq none .d (.sq (some [.kt 0, .lt 3 (.I .i64)]) (.sq none .d (.bl (.lp [.kt 0, .lt 3 (.I .i64), .lt 4 (.I .i64)] .d))) .d)))
theorem h_s_l1New (x : List UInt8) : fnC (P := Try.prog) [] [] (sOf Try.prog Try.f43) a_s_l1New (iOf Try.prog Try.f43) x = F_s_l1New x := by kernel_rfl
noncomputable def e_s_l1New : CEnt Try.prog := ⟨43, F_s_l1New, makes_cur mixed_Pd Try.func43 (by kernel_rfl) h_s_l1New⟩
noncomputable def a_s_l1Byte : An := (.sq none .d (.sq none .d (.sq none .d (.sq (some [.bx 0 [.K, .L (.I .i64), .K], .lt 3 (.I .i64)]) .d .d))))
theorem h_s_l1Byte (x : (List UInt8) × Int × Int) : fnG (P := Try.prog) [] [] (sOf Try.prog Try.f78) a_s_l1Byte (iOf Try.prog Try.f78) [⟨true, false, .P (.L .Y) (.P (.I .i64) (.I
 .i64)), [.rx, .rd, .rd], (some (.P (.I .i64) (.I .i64)))⟩] [(false, .I .i64)] x = F_s_l1Byte x := by kernel_rfl
noncomputable def e_s_l1Byte : GEnt Try.prog := ⟨78, [⟨true, false, .P (.L .Y) (.P (.I .i64) (.I .i64)), [.rx, .rd, .rd], (some (.P (.I .i64) (.I .i64)))⟩], [(false, .I .i64)],
 F_s_l1Byte, runs_gen mixed_Pd Try.func78 (by kernel_rfl) h_s_l1Byte⟩
noncomputable def a_s_l1Below : An := .d
theorem h_s_l1Below (x : ((List UInt8) × Int × Int) × Int) : fnG (P := Try.prog) [.gen e_s_l1Byte] [] (sOf Try.prog Try.f49) a_s_l1Below (iOf Try.prog Try.f49) [⟨true, false, .P
 (.L .Y) (.P (.I .i64) (.I .i64)), [.rx, .rd, .rd], (some (.P (.I .i64) (.I .i64)))⟩, ⟨false, false, .I .i64, [.rd], none⟩] [(false, .I .i64)] x = F_s_l1Below x := by kernel_rfl
noncomputable def e_s_l1Below : GEnt Try.prog := ⟨49, [⟨true, false, .P (.L .Y) (.P (.I .i64) (.I .i64)), [.rx, .rd, .rd], (some (.P (.I .i64) (.I .i64)))⟩, ⟨false, false, .I .i64,
 [.rd], none⟩], [(false, .I .i64)], F_s_l1Below, runs_gen mixed_Pd Try.func49 (by kernel_rfl) h_s_l1Below⟩
noncomputable def a_s_l1Int : An := .d
theorem h_s_l1Int (x : ((List UInt8) × Int × Int) × List Int) : fnG (P := Try.prog) [.gen e_s_l1Below] [] (sOf Try.prog Try.f44) a_s_l1Int (iOf Try.prog Try.f44) [⟨true, false, .P
 (.L .Y) (.P (.I .i64) (.I .i64)), [.rx, .rd, .rd], (some (.P (.I .i64) (.I .i64)))⟩, ⟨false, false, .L (.I .i64), [.rd], none⟩] [(false, .I .i64)] x = F_s_l1Int x := by
 kernel_rfl
noncomputable def e_s_l1Int : GEnt Try.prog := ⟨44, [⟨true, false, .P (.L .Y) (.P (.I .i64) (.I .i64)), [.rx, .rd, .rd], (some (.P (.I .i64) (.I .i64)))⟩, ⟨false, false, .L (.I
 .i64), [.rd], none⟩], [(false, .I .i64)], F_s_l1Int, runs_gen mixed_Pd Try.func44 (by kernel_rfl) h_s_l1Int⟩
noncomputable def a_s_DrawHeadOf : An := .d
theorem h_s_DrawHeadOf (x : List UInt8) : fnX (P := Try.prog) [.cur e_s_l1New, .gen e_s_l1Int] [(8, .el (.I .i64)), (11, .el (.I .i64))] (sOf Try.prog Try.f9) a_s_DrawHeadOf (iOf
 Try.prog Try.f9) [(false, .L .Y)] [(false, .I .i64), (false, .I .i64)] x = F_s_DrawHeadOf x := by kernel_rfl
noncomputable def e_s_DrawHeadOf : SEnt Try.prog := ⟨9, [(false, .L .Y)], [(false, .I .i64), (false, .I .i64)], F_s_DrawHeadOf, runs_see mixed_Pd Try.func9 (by kernel_rfl)
 h_s_DrawHeadOf⟩
noncomputable def a_i_within : An := .d
theorem h_i_within (x : Int × Int × Int) : fnX (P := Try.prog) [] [] (sOf Try.prog Try.f45) a_i_within (iOf Try.prog Try.f45) [(false, .I .i64), (false, .I .i64), (false, .I .i64)]
 [(false, .B)] x = F_i_within x := by kernel_rfl
noncomputable def e_i_within : SEnt Try.prog := ⟨45, [(false, .I .i64), (false, .I .i64), (false, .I .i64)], [(false, .B)], F_i_within, runs_see mixed_Pd Try.func45 (by kernel_rfl)
 h_i_within⟩
noncomputable def a_i_joined : An := (.sq none .d (.sq none .d (.sq (some [.ot 3 .Y]) (.sq none .d (.bl (.lp [.ot 3 .Y, .kt 7, .kt 8, .lt 9 (.I .i64)] .d))) .d)))
theorem h_i_joined (x : List (List UInt8)) : fnX (P := Try.prog) [] [(6, .el .Y), (15, .el .Y)] (sOf Try.prog Try.f60) a_i_joined (iOf Try.prog Try.f60) [(false, .L (.L .Y))]
 [(false, .L .Y)] x = F_i_joined x := by kernel_rfl
noncomputable def e_i_joined : SEnt Try.prog := ⟨60, [(false, .L (.L .Y))], [(false, .L .Y)], F_i_joined, runs_see mixed_Pd Try.func60 (by kernel_rfl) h_i_joined⟩
noncomputable def a_i_PutW : An := .d
theorem h_i_PutW (x : (List UInt8) × Int) : fnX (P := Try.prog) [.see e_i_joined] [(13, .el .Y), (14, .sb)] (sOf Try.prog Try.f46) a_i_PutW (iOf Try.prog Try.f46) [(false, .L .Y),
 (false, .I .i64)] [(false, .L .Y)] x = F_i_PutW x := by kernel_rfl
noncomputable def e_i_PutW : SEnt Try.prog := ⟨46, [(false, .L .Y), (false, .I .i64)], [(false, .L .Y)], F_i_PutW, runs_see mixed_Pd Try.func46 (by kernel_rfl) h_i_PutW⟩
noncomputable def a_i_Sum : An := (.sq none .d (.sq none .d (.sq (some [.lt 3 (.I .i64)]) (.sq none .d (.bl (.lp [.lt 3 (.I .i64), .kt 6, .kt 7, .lt 8 (.I .i64)] (.sq none .d (.sq
 none .d (.sq (some [.lt 3 (.I .i64), .kt 6, .kt 7, .kt 8]) (.bl (.sq none .d (.sq none .d (.sq none .d (.bl (.lp [.lt 3 (.I .i64), .kt 6, .kt 7, .kt 8, .lt 17 (.I .i64)] (.sq
 none .d (.sq none .d (.sq (some [.lt 3 (.I .i64), .kt 6, .kt 7, .kt 8, .kt 17]) .d .d))))))))) .d)))))) .d)))
theorem h_i_Sum (x : List UInt8) : fnX (P := Try.prog) [] [] (sOf Try.prog Try.f47) a_i_Sum (iOf Try.prog Try.f47) [(false, .L .Y)] [(false, .I .i64)] x = F_i_Sum x := by
 kernel_rfl
noncomputable def e_i_Sum : SEnt Try.prog := ⟨47, [(false, .L .Y)], [(false, .I .i64)], F_i_Sum, runs_see mixed_Pd Try.func47 (by kernel_rfl) h_i_Sum⟩
noncomputable def a_i_HeadOf : An := .d
theorem h_i_HeadOf (x : Int × Int) : fnX (P := Try.prog) [.see e_i_within, .see e_i_PutW, .see e_i_Sum] [] (sOf Try.prog Try.f10) a_i_HeadOf (iOf Try.prog Try.f10) [(false, .I
 .i64), (false, .I .i64)] [(false, .L .Y)] x = F_i_HeadOf x := by kernel_rfl
noncomputable def e_i_HeadOf : SEnt Try.prog := ⟨10, [(false, .I .i64), (false, .I .i64)], [(false, .L .Y)], F_i_HeadOf, runs_see mixed_Pd Try.func10 (by kernel_rfl) h_i_HeadOf⟩
noncomputable def a_s_l1In : An := .d
theorem h_s_l1In (x : Int × Int × Int) : fnX (P := Try.prog) [] [] (sOf Try.prog Try.f56) a_s_l1In (iOf Try.prog Try.f56) [(false, .I .i64), (false, .I .i64), (false, .I .i64)]
 [(false, .B)] x = F_s_l1In x := by kernel_rfl
noncomputable def e_s_l1In : SEnt Try.prog := ⟨56, [(false, .I .i64), (false, .I .i64), (false, .I .i64)], [(false, .B)], F_s_l1In, runs_see mixed_Pd Try.func56 (by kernel_rfl)
 h_s_l1In⟩
noncomputable def a_s_PutW : An := .d
theorem h_s_PutW (x : (List UInt8) × Int) : fnX (P := Try.prog) [] [(6, .el .Y), (8, .el .Y), (15, .el .Y), (16, .el .Y)] (sOf Try.prog Try.f51) a_s_PutW (iOf Try.prog Try.f51)
 [(false, .L .Y), (false, .I .i64)] [(false, .L .Y)] x = F_s_PutW x := by kernel_rfl
noncomputable def e_s_PutW : SEnt Try.prog := ⟨51, [(false, .L .Y), (false, .I .i64)], [(false, .L .Y)], F_s_PutW, runs_see mixed_Pd Try.func51 (by kernel_rfl) h_s_PutW⟩
noncomputable def a_s_Sum : An := (.sq none .d (.sq none .d (.sq (some [.lt 3 (.I .i64)]) (.sq none .d (.bl (.lp [.kt 0, .lt 3 (.I .i64), .lt 4 (.I .i64)] (.sq none .d (.sq (some
 [.kt 0, .lt 3 (.I .i64), .kt 4]) (.bl (.sq none .d (.sq none .d (.bl (.lp [.kt 0, .lt 3 (.I .i64), .kt 4, .lt 5 (.I .i64)] (.sq none .d (.sq (some [.kt 0, .lt 3 (.I .i64), .kt 4,
 .kt 5]) .d .d))))))) .d))))) .d)))
theorem h_s_Sum (x : List UInt8) : fnX (P := Try.prog) [] [] (sOf Try.prog Try.f52) a_s_Sum (iOf Try.prog Try.f52) [(false, .L .Y)] [(false, .I .i64)] x = F_s_Sum x := by
 kernel_rfl
noncomputable def e_s_Sum : SEnt Try.prog := ⟨52, [(false, .L .Y)], [(false, .I .i64)], F_s_Sum, runs_see mixed_Pd Try.func52 (by kernel_rfl) h_s_Sum⟩
end Go.Vs
