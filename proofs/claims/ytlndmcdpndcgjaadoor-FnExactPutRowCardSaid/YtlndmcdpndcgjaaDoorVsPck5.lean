import Derived.Test.YtlndmcdpndcgjaaDoorProg
import Derived.Test.YtlndmcdpndcgjaaDoorVsPck4
set_option linter.all false
namespace Go.Vs
open Go.Proofs
set_option maxRecDepth 100000
set_option linter.unusedVariables false
noncomputable def a_s_PutW : An := .d
theorem h_s_PutW (x : (List UInt8) × Int) : fnX (P := Tryd.prog) [] [(6, .el .Y), (8, .el .Y), (15, .el .Y), (16, .el .Y)] (sOf Tryd.prog Tryd.f115) a_s_PutW (iOf Tryd.prog
  Tryd.f115) [(false, .L .Y), (false, .I .i64)] [(false, .L .Y)] x = F_s_PutW x := by kernel_rfl
noncomputable def e_s_PutW : SEnt Tryd.prog := ⟨115, [(false, .L .Y), (false, .I .i64)], [(false, .L .Y)], F_s_PutW, runs_see mixed_Pc Tryd.func115 (by kernel_rfl) h_s_PutW⟩
noncomputable def a_s_PutText : An := .d
theorem h_s_PutText (x : (List UInt8) × List UInt8) : fnX (P := Tryd.prog) [.see e_s_PutW] [(8, .el .Y), (10, .el .Y), (16, .el .Y)] (sOf Tryd.prog Tryd.f76) a_s_PutText (iOf
  Tryd.prog Tryd.f76) [(false, .L .Y), (false, .S)] [(false, .L .Y)] x = F_s_PutText x := by kernel_rfl
noncomputable def e_s_PutText : SEnt Tryd.prog := ⟨76, [(false, .L .Y), (false, .S)], [(false, .L .Y)], F_s_PutText, runs_see mixed_Pc Tryd.func76 (by kernel_rfl) h_s_PutText⟩
noncomputable def a_s_l11Bit : An := .d
theorem h_s_l11Bit (x : Bool) : fnX (P := Tryd.prog) [] [] (sOf Tryd.prog Tryd.f77) a_s_l11Bit (iOf Tryd.prog Tryd.f77) [(false, .B)] [(false, .Y)] x = F_s_l11Bit x := by
  kernel_rfl
noncomputable def e_s_l11Bit : SEnt Tryd.prog := ⟨77, [(false, .B)], [(false, .Y)], F_s_l11Bit, runs_see mixed_Pc Tryd.func77 (by kernel_rfl) h_s_l11Bit⟩
noncomputable def a_s_l11Cell : An := .d
theorem h_s_l11Cell (x : (List UInt8) × Int × List UInt8) : fnG (P := Tryd.prog) [.see e_s_PutText] [(9, .el .Y), (10, .el .Y)] (sOf Tryd.prog Tryd.f78) a_s_l11Cell (iOf Tryd.prog
  Tryd.f78) [⟨false, false, .L .Y, [.ow], none⟩, ⟨false, true, .P (.I .i64) (.L .Y), [.rd, .rd], none⟩] [(false, .L .Y)] x = F_s_l11Cell x := by kernel_rfl
noncomputable def e_s_l11Cell : GEnt Tryd.prog := ⟨78, [⟨false, false, .L .Y, [.ow], none⟩, ⟨false, true, .P (.I .i64) (.L .Y), [.rd, .rd], none⟩], [(false, .L .Y)], F_s_l11Cell,
  runs_gen mixed_Pc Tryd.func78 (by kernel_rfl) h_s_l11Cell⟩
noncomputable def a_s_PutRow : An := (.sq none .d (.sq none .d (.sq none .d (.sq none .d (.sq (some [.kt 3, .ot 5 .Y]) .d (.sq (some [.ot 5 .Y]) .d .d))))))
theorem h_s_PutRow (x : (List UInt8) × (List UInt8) × (Int × List UInt8) × (Int × List UInt8) × Int × Bool) : fnX (P := Tryd.prog) [.see e_s_RowOk, .see e_s_PutText, .see
  e_s_l11Bit, .see e_s_l9Old, .gen e_s_l11Cell, .see e_s_l9New] [(6, .el .Y), (8, .el .Y), (23, .el .Y), (24, .el .Y)] (sOf Tryd.prog Tryd.f32) a_s_PutRow (iOf Tryd.prog Tryd.f32)
  [(false, .L .Y), (true, .P .S (.P (.P (.I .i64) (.L .Y)) (.P (.P (.I .i64) (.L .Y)) (.P (.I .i64) .B))))] [(false, .L .Y)] x = F_s_PutRow x := by kernel_rfl
noncomputable def e_s_PutRow : SEnt Tryd.prog := ⟨32, [(false, .L .Y), (true, .P .S (.P (.P (.I .i64) (.L .Y)) (.P (.P (.I .i64) (.L .Y)) (.P (.I .i64) .B))))], [(false, .L .Y)],
  F_s_PutRow, runs_see mixed_Pc Tryd.func32 (by kernel_rfl) h_s_PutRow⟩
noncomputable def a_i_PutW : An := .d
theorem h_i_PutW (x : (List UInt8) × Int) : fnX (P := Tryd.prog) [.see e_i_joined] [(13, .el .Y), (14, .sb)] (sOf Tryd.prog Tryd.f116) a_i_PutW (iOf Tryd.prog Tryd.f116) [(false,
  .L .Y), (false, .I .i64)] [(false, .L .Y)] x = F_i_PutW x := by kernel_rfl
noncomputable def e_i_PutW : SEnt Tryd.prog := ⟨116, [(false, .L .Y), (false, .I .i64)], [(false, .L .Y)], F_i_PutW, runs_see mixed_Pc Tryd.func116 (by kernel_rfl) h_i_PutW⟩
noncomputable def a_i_PutText : An := .d
theorem h_i_PutText (x : (List UInt8) × List UInt8) : fnX (P := Tryd.prog) [.see e_i_joined, .see e_i_PutW] [(9, .sb), (17, .sb)] (sOf Tryd.prog Tryd.f80) a_i_PutText (iOf
  Tryd.prog Tryd.f80) [(false, .L .Y), (false, .S)] [(false, .L .Y)] x = F_i_PutText x := by kernel_rfl
noncomputable def e_i_PutText : SEnt Tryd.prog := ⟨80, [(false, .L .Y), (false, .S)], [(false, .L .Y)], F_i_PutText, runs_see mixed_Pc Tryd.func80 (by kernel_rfl) h_i_PutText⟩
noncomputable def a_i_flag : An := .d
theorem h_i_flag (x : Bool) : fnX (P := Tryd.prog) [] [] (sOf Tryd.prog Tryd.f81) a_i_flag (iOf Tryd.prog Tryd.f81) [(false, .B)] [(false, .Y)] x = F_i_flag x := by kernel_rfl
noncomputable def e_i_flag : SEnt Tryd.prog := ⟨81, [(false, .B)], [(false, .Y)], F_i_flag, runs_see mixed_Pc Tryd.func81 (by kernel_rfl) h_i_flag⟩
end Go.Vs
