import Derived.Test.YtlndmcdpndcgjaaDoorProg
import Derived.Test.YtlndmcdpndcgjaaDoorVsPck5
set_option linter.all false
namespace Go.Vs
open Go.Proofs
set_option maxRecDepth 100000
set_option linter.unusedVariables false
noncomputable def a_i_PutRow : An := (.sq none .d (.sq none .d (.sq none .d (.sq none .d (.sq (some [.kt 3, .ot 5 .Y]) .d (.sq (some [.ot 5 .Y]) .d .d))))))
theorem h_i_PutRow (x : (List UInt8) × (List UInt8) × (Int × List UInt8) × (Int × List UInt8) × Int × Bool) : fnX (P := Tryd.prog) [.see e_i_joined, .see e_i_RowOk, .see
  e_i_PutText, .see e_i_flag] [(7, .sb), (23, .el .Y), (24, .el .Y), (33, .el .Y), (34, .el .Y), (48, .el .Y), (49, .el .Y)] (sOf Tryd.prog Tryd.f34) a_i_PutRow (iOf Tryd.prog
  Tryd.f34) [(false, .L .Y), (true, .P .S (.P (.P (.I .i64) (.L .Y)) (.P (.P (.I .i64) (.L .Y)) (.P (.I .i64) .B))))] [(false, .L .Y)] x = F_i_PutRow x := by kernel_rfl
noncomputable def e_i_PutRow : SEnt Tryd.prog := ⟨34, [(false, .L .Y), (true, .P .S (.P (.P (.I .i64) (.L .Y)) (.P (.P (.I .i64) (.L .Y)) (.P (.I .i64) .B))))], [(false, .L .Y)],
  F_i_PutRow, runs_see mixed_Pc Tryd.func34 (by kernel_rfl) h_i_PutRow⟩
noncomputable def a_l_FnExactPutRow : An := .d
theorem h_l_FnExactPutRow (x : (List UInt8) × (List UInt8) × (Int × List UInt8) × (Int × List UInt8) × Int × Bool) : fnX (P := Tryd.prog) [.see e_l_szRow, .see e_l_toByteS, .see
  e_l_toRow, .see e_s_PutRow, .see e_i_PutRow, .see e_l_eqByteS, .see e_l_eqRow, .gen e_l_markByteS, .gen e_l_markRow, .see e_l_heldByteS] [] (sOf Tryd.prog Tryd.f8)
  a_l_FnExactPutRow (iOf Tryd.prog Tryd.f8) [(false, .L .Y), (true, .P .S (.P (.P (.I .i64) (.L .Y)) (.P (.P (.I .i64) (.L .Y)) (.P (.I .i64) .B))))] [(false, .B)] x =
  F_l_FnExactPutRow x := by kernel_rfl
noncomputable def e_l_FnExactPutRow : SEnt Tryd.prog := ⟨8, [(false, .L .Y), (true, .P .S (.P (.P (.I .i64) (.L .Y)) (.P (.P (.I .i64) (.L .Y)) (.P (.I .i64) .B))))], [(false,
  .B)], F_l_FnExactPutRow, runs_see mixed_Pc Tryd.func8 (by kernel_rfl) h_l_FnExactPutRow⟩
end Go.Vs
