import Derived.Test.YtlndmcdpndcgjaaDoorProg
import Derived.Test.YtlndmcdpndcgjaaDoorVsPck4
set_option linter.all false
namespace Go.Vs
open Go.Proofs
set_option maxRecDepth 100000
set_option linter.unusedVariables false
noncomputable def a_l_heldCell : An := .d
theorem h_l_heldCell (x : (Int × List UInt8) × Int) : fnX (P := Tryd.prog) [.see e_l_heldByteS] [] (sOf Tryd.prog Tryd.f75) a_l_heldCell (iOf Tryd.prog Tryd.f75) [(true, .P (.I
 .i64) (.L .Y)), (false, .I .i64)] [(false, .I .i64)] x = F_l_heldCell x := by kernel_rfl
noncomputable def e_l_heldCell : SEnt Tryd.prog := ⟨75, [(true, .P (.I .i64) (.L .Y)), (false, .I .i64)], [(false, .I .i64)], F_l_heldCell, runs_see mixed_Pc Tryd.func75 (by
 kernel_rfl) h_l_heldCell⟩
noncomputable def a_l_heldRow : An := .d
theorem h_l_heldRow (x : ((List UInt8) × (Int × List UInt8) × (Int × List UInt8) × Int × Bool) × Int) : fnX (P := Tryd.prog) [.see e_l_heldCell] [] (sOf Tryd.prog Tryd.f29)
 a_l_heldRow (iOf Tryd.prog Tryd.f29) [(true, .P .S (.P (.P (.I .i64) (.L .Y)) (.P (.P (.I .i64) (.L .Y)) (.P (.I .i64) .B)))), (false, .I .i64)] [(false, .I .i64)] x =
 F_l_heldRow x := by kernel_rfl
noncomputable def e_l_heldRow : SEnt Tryd.prog := ⟨29, [(true, .P .S (.P (.P (.I .i64) (.L .Y)) (.P (.P (.I .i64) (.L .Y)) (.P (.I .i64) .B)))), (false, .I .i64)], [(false, .I
 .i64)], F_l_heldRow, runs_see mixed_Pc Tryd.func29 (by kernel_rfl) h_l_heldRow⟩
end Go.Vs
