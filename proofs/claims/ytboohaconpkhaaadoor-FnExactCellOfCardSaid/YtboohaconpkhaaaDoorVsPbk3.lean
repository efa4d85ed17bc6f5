import Derived.Test.YtboohaconpkhaaaDoorProg
import Derived.Test.YtboohaconpkhaaaDoorVsPbk2
set_option linter.all false
namespace Go.Vs
open Go.Proofs
set_option maxRecDepth 100000
set_option linter.unusedVariables false
noncomputable def a_l_heldByteS : An := (.sq none .d (.sq (some [.lt 1 (.I .i64)]) (.sq none .d (.bl (.lp [.kt 0, .lt 1 (.I .i64), .lt 5 (.I .i64)] .d))) .d))
theorem h_l_heldByteS (x : (List UInt8) × Int) : fnX (P := Tryd.prog) [] [] (sOf Tryd.prog Tryd.f46) a_l_heldByteS (iOf Tryd.prog Tryd.f46) [(false, .L .Y), (false, .I .i64)]
 [(false, .I .i64)] x = F_l_heldByteS x := by kernel_rfl
noncomputable def e_l_heldByteS : SEnt Tryd.prog := ⟨46, [(false, .L .Y), (false, .I .i64)], [(false, .I .i64)], F_l_heldByteS, runs_see mixed_Pb Tryd.func46 (by kernel_rfl)
 h_l_heldByteS⟩
noncomputable def a_l_heldCell : An := .d
theorem h_l_heldCell (x : (Int × List UInt8) × Int) : fnX (P := Tryd.prog) [.see e_l_heldByteS] [] (sOf Tryd.prog Tryd.f15) a_l_heldCell (iOf Tryd.prog Tryd.f15) [(true, .P (.I
 .i64) (.L .Y)), (false, .I .i64)] [(false, .I .i64)] x = F_l_heldCell x := by kernel_rfl
noncomputable def e_l_heldCell : SEnt Tryd.prog := ⟨15, [(true, .P (.I .i64) (.L .Y)), (false, .I .i64)], [(false, .I .i64)], F_l_heldCell, runs_see mixed_Pb Tryd.func15 (by
 kernel_rfl) h_l_heldCell⟩
noncomputable def a_l_FnExactCellOf : An := .d
theorem h_l_FnExactCellOf (x : Int × List UInt8) : fnX (P := Tryd.prog) [.see e_s_CellOf, .see e_i_CellOf, .see e_l_eqCell, .gen e_l_markCell, .see e_l_heldCell] [] (sOf Tryd.prog
 Tryd.f3) a_l_FnExactCellOf (iOf Tryd.prog Tryd.f3) [(false, .I .i64), (false, .S)] [(false, .B)] x = F_l_FnExactCellOf x := by kernel_rfl
noncomputable def e_l_FnExactCellOf : SEnt Tryd.prog := ⟨3, [(false, .I .i64), (false, .S)], [(false, .B)], F_l_FnExactCellOf, runs_see mixed_Pb Tryd.func3 (by kernel_rfl)
 h_l_FnExactCellOf⟩
end Go.Vs
