import Derived.Test.YtlndmcdpndcgjaaDoorProg
import Derived.Test.YtlndmcdpndcgjaaDoorVsPck3
set_option linter.all false
namespace Go.Vs
open Go.Proofs
set_option maxRecDepth 100000
set_option linter.unusedVariables false
noncomputable def a_i_NameOk : An := (.sq none .d (.sq (some [.kt 0]) (.sq none .d (.bl (.lp [.kt 0, .lt 3 (.I .i64)] .d))) .d))
theorem h_i_NameOk (x : List UInt8) : fnX (P := Tryd.prog) [.see e_i_within] [] (sOf Tryd.prog Tryd.f68) a_i_NameOk (iOf Tryd.prog Tryd.f68) [(false, .S)] [(false, .B)] x =
 F_i_NameOk x := by kernel_rfl
noncomputable def e_i_NameOk : SEnt Tryd.prog := ⟨68, [(false, .S)], [(false, .B)], F_i_NameOk, runs_see mixed_Pc Tryd.func68 (by kernel_rfl) h_i_NameOk⟩
noncomputable def a_i_sameCell : An := .d
theorem h_i_sameCell (x : (Int × List UInt8) × Int × List UInt8) : fnX (P := Tryd.prog) [] [] (sOf Tryd.prog Tryd.f70) a_i_sameCell (iOf Tryd.prog Tryd.f70) [(true, .P (.I .i64)
 (.L .Y)), (true, .P (.I .i64) (.L .Y))] [(false, .B)] x = F_i_sameCell x := by kernel_rfl
noncomputable def e_i_sameCell : SEnt Tryd.prog := ⟨70, [(true, .P (.I .i64) (.L .Y)), (true, .P (.I .i64) (.L .Y))], [(false, .B)], F_i_sameCell, runs_see mixed_Pc Tryd.func70 (by
 kernel_rfl) h_i_sameCell⟩
noncomputable def a_i_RowOk : An := (.sq none .d (.sq none .d (.sq none .d (.sq none .d (.sq none .d (.sq (some [.kt 1, .kt 6, .lt 7 .B]) .d (.sq none .d (.sq (some [.kt 1, .kt 7,
 .lt 8 .B]) .d .d))))))))
theorem h_i_RowOk (x : (List UInt8) × (Int × List UInt8) × (Int × List UInt8) × Int × Bool) : fnX (P := Tryd.prog) [.see e_i_NameOk, .see e_i_within, .see e_i_CellText, .see
 e_i_sameCell, .see e_i_CellOk, .see e_i_SameText] [] (sOf Tryd.prog Tryd.f25) a_i_RowOk (iOf Tryd.prog Tryd.f25) [(true, .P .S (.P (.P (.I .i64) (.L .Y)) (.P (.P (.I .i64) (.L
 .Y)) (.P (.I .i64) .B))))] [(false, .B)] x = F_i_RowOk x := by kernel_rfl
noncomputable def e_i_RowOk : SEnt Tryd.prog := ⟨25, [(true, .P .S (.P (.P (.I .i64) (.L .Y)) (.P (.P (.I .i64) (.L .Y)) (.P (.I .i64) .B))))], [(false, .B)], F_i_RowOk, runs_see
 mixed_Pc Tryd.func25 (by kernel_rfl) h_i_RowOk⟩
end Go.Vs
