import Derived.Test.YtlndmcdpndcgjaaDoorProg
import Derived.Test.YtlndmcdpndcgjaaDoorVsPck4
set_option linter.all false
namespace Go.Vs
open Go.Proofs
set_option maxRecDepth 100000
set_option linter.unusedVariables false
noncomputable def a_l_heldCell : An := .d
theorem h_l_heldCell (x : (Int × List UInt8) × Int) : fnX (P := Tryd.prog) [.see e_l_heldByteS] [] (sOf Tryd.prog Tryd.f75) a_l_heldCell (iOf Tryd.prog Tryd.f75) [(true, .P (.I
  .i64) (.L .Y)), (false, .I .i64)] [(false, .I .i64)] x = F_l_heldCell x := by kernel_rfl
noncomputable def e_l_heldCell : SEnt Tryd.prog := ⟨75, [(true, .P (.I .i64) (.L .Y)), (false, .I .i64)], [(false, .I .i64)], F_l_heldCell, runs_see mixed_Pc Tryd.func75 (by
  kernel_rfl) h_l_heldCell⟩
noncomputable def a_l_heldRow : An := .d
theorem h_l_heldRow (x : ((List UInt8) × (Int × List UInt8) × (Int × List UInt8) × Int × Bool) × Int) : fnX (P := Tryd.prog) [.see e_l_heldCell] [] (sOf Tryd.prog Tryd.f29)
  a_l_heldRow (iOf Tryd.prog Tryd.f29) [(true, .P .S (.P (.P (.I .i64) (.L .Y)) (.P (.P (.I .i64) (.L .Y)) (.P (.I .i64) .B)))), (false, .I .i64)] [(false, .I .i64)] x =
  F_l_heldRow x := by kernel_rfl
noncomputable def e_l_heldRow : SEnt Tryd.prog := ⟨29, [(true, .P .S (.P (.P (.I .i64) (.L .Y)) (.P (.P (.I .i64) (.L .Y)) (.P (.I .i64) .B)))), (false, .I .i64)], [(false, .I
  .i64)], F_l_heldRow, runs_see mixed_Pc Tryd.func29 (by kernel_rfl) h_l_heldRow⟩
noncomputable def a_s_BackRow : An := .d
theorem h_s_BackRow (x : (List UInt8) × (Int × List UInt8) × (Int × List UInt8) × Int × Bool) : fnX (P := Tryd.prog) [.see e_s_l9Copy, .see e_s_RowOk, .see e_s_l9New, .see
  e_s_l9Old] [] (sOf Tryd.prog Tryd.f30) a_s_BackRow (iOf Tryd.prog Tryd.f30) [(true, .P .S (.P (.P (.I .i64) (.L .Y)) (.P (.P (.I .i64) (.L .Y)) (.P (.I .i64) .B))))] [(true, .P
  .S (.P (.P (.I .i64) (.L .Y)) (.P (.P (.I .i64) (.L .Y)) (.P (.I .i64) .B))))] x = F_s_BackRow x := by kernel_rfl
noncomputable def e_s_BackRow : SEnt Tryd.prog := ⟨30, [(true, .P .S (.P (.P (.I .i64) (.L .Y)) (.P (.P (.I .i64) (.L .Y)) (.P (.I .i64) .B))))], [(true, .P .S (.P (.P (.I .i64)
  (.L .Y)) (.P (.P (.I .i64) (.L .Y)) (.P (.I .i64) .B))))], F_s_BackRow, runs_see mixed_Pc Tryd.func30 (by kernel_rfl) h_s_BackRow⟩
noncomputable def a_i_BackRow : An := (.sq none .d (.sq none .d (.sq (some [.kt 2, .bx 3 [.K, .K, .K, .L (.I .i64), .O .Y, .L (.I .i64), .L .B]]) .d .d)))
theorem h_i_BackRow (x : (List UInt8) × (Int × List UInt8) × (Int × List UInt8) × Int × Bool) : fnX (P := Tryd.prog) [.see e_i_copyRow, .see e_i_RowOk] [] (sOf Tryd.prog Tryd.f31)
  a_i_BackRow (iOf Tryd.prog Tryd.f31) [(true, .P .S (.P (.P (.I .i64) (.L .Y)) (.P (.P (.I .i64) (.L .Y)) (.P (.I .i64) .B))))] [(true, .P .S (.P (.P (.I .i64) (.L .Y)) (.P (.P
  (.I .i64) (.L .Y)) (.P (.I .i64) .B))))] x = F_i_BackRow x := by kernel_rfl
noncomputable def e_i_BackRow : SEnt Tryd.prog := ⟨31, [(true, .P .S (.P (.P (.I .i64) (.L .Y)) (.P (.P (.I .i64) (.L .Y)) (.P (.I .i64) .B))))], [(true, .P .S (.P (.P (.I .i64)
  (.L .Y)) (.P (.P (.I .i64) (.L .Y)) (.P (.I .i64) .B))))], F_i_BackRow, runs_see mixed_Pc Tryd.func31 (by kernel_rfl) h_i_BackRow⟩
noncomputable def a_l_FnExactBackRow : An := .d
theorem h_l_FnExactBackRow (x : (List UInt8) × (Int × List UInt8) × (Int × List UInt8) × Int × Bool) : fnX (P := Tryd.prog) [.see e_l_szRow, .see e_l_toRow, .see e_s_BackRow, .see
  e_i_BackRow, .see e_l_eqRow, .gen e_l_markRow, .see e_l_heldRow] [] (sOf Tryd.prog Tryd.f7) a_l_FnExactBackRow (iOf Tryd.prog Tryd.f7) [(true, .P .S (.P (.P (.I .i64) (.L .Y))
  (.P (.P (.I .i64) (.L .Y)) (.P (.I .i64) .B))))] [(false, .B)] x = F_l_FnExactBackRow x := by kernel_rfl
noncomputable def e_l_FnExactBackRow : SEnt Tryd.prog := ⟨7, [(true, .P .S (.P (.P (.I .i64) (.L .Y)) (.P (.P (.I .i64) (.L .Y)) (.P (.I .i64) .B))))], [(false, .B)],
  F_l_FnExactBackRow, runs_see mixed_Pc Tryd.func7 (by kernel_rfl) h_l_FnExactBackRow⟩
end Go.Vs
