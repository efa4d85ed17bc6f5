import Derived.Test.YtboohaconpkhaaaDoorProg
import Derived.Test.YtboohaconpkhaaaDoorVsPbk2
set_option linter.all false
namespace Go.Vs
open Go.Proofs
set_option maxRecDepth 100000
set_option linter.unusedVariables false
noncomputable def a_l_heldByteS : An := (.sq none .d (.sq (some [.lt 1 (.I .i64)]) (.sq none .d (.bl (.lp [.kt 0, .lt 1 (.I .i64), .lt 5 (.I .i64)] .d))) .d))
theorem h_l_heldByteS (x : (List UInt8) × Int) : fnX (P := Tryd.prog) [] [] (sOf Tryd.prog Tryd.f46) a_l_heldByteS (iOf Tryd.prog Tryd.f46) [(false, .L .Y), (false, .I .i64)]
 [(false, .I .i64)] x = F_l_heldByteS x := by kernel_rfl
noncomputable def e_l_heldByteS : SEnt Tryd.prog := ⟨46, [(false, .L .Y), (false, .I .i64)], [(false, .I .i64)], F_l_heldByteS, runs_see mixed_Pb Tryd.func46 (by kernel_rfl)
 h_l_heldByteS⟩
noncomputable def a_l_heldCell : An := .d
theorem h_l_heldCell (x : (Int × List UInt8) × Int) : fnX (P := Tryd.prog) [.see e_l_heldByteS] [] (sOf Tryd.prog Tryd.f15) a_l_heldCell (iOf Tryd.prog Tryd.f15) [(true, .P (.I
 .i64) (.L .Y)), (false, .I .i64)] [(false, .I .i64)] x = F_l_heldCell x := by kernel_rfl
noncomputable def e_l_heldCell : SEnt Tryd.prog := ⟨15, [(true, .P (.I .i64) (.L .Y)), (false, .I .i64)], [(false, .I .i64)], F_l_heldCell, runs_see mixed_Pb Tryd.func15 (by
 kernel_rfl) h_l_heldCell⟩
noncomputable def a_l_szByteS : An := .d
theorem h_l_szByteS (x : (List UInt8) × Int) : fnX (P := Tryd.prog) [] [] (sOf Tryd.prog Tryd.f70) a_l_szByteS (iOf Tryd.prog Tryd.f70) [(false, .L .Y), (false, .I .i64)] [(false,
 .I .i64)] x = F_l_szByteS x := by kernel_rfl
noncomputable def e_l_szByteS : SEnt Tryd.prog := ⟨70, [(false, .L .Y), (false, .I .i64)], [(false, .I .i64)], F_l_szByteS, runs_see mixed_Pb Tryd.func70 (by kernel_rfl)
 h_l_szByteS⟩
noncomputable def a_l_szCell : An := .d
theorem h_l_szCell (x : (Int × List UInt8) × Int) : fnX (P := Tryd.prog) [.see e_l_szByteS] [] (sOf Tryd.prog Tryd.f28) a_l_szCell (iOf Tryd.prog Tryd.f28) [(true, .P (.I .i64) (.L
 .Y)), (false, .I .i64)] [(false, .I .i64)] x = F_l_szCell x := by kernel_rfl
noncomputable def e_l_szCell : SEnt Tryd.prog := ⟨28, [(true, .P (.I .i64) (.L .Y)), (false, .I .i64)], [(false, .I .i64)], F_l_szCell, runs_see mixed_Pb Tryd.func28 (by
 kernel_rfl) h_l_szCell⟩
noncomputable def a_l_toByteS : An := (.sq none .d (.sq none .d (.sq (some [.sr 3 .Y]) (.sq none .d (.bl (.lp [.kt 0, .sr 3 .Y, .lt 4 (.I .i64)] .d))) .d)))
theorem h_l_toByteS (x : List UInt8) : fnX (P := Tryd.prog) [] [(7, .el .Y)] (sOf Tryd.prog Tryd.f72) a_l_toByteS (iOf Tryd.prog Tryd.f72) [(false, .L .Y)] [(false, .L .Y)] x =
 F_l_toByteS x := by kernel_rfl
noncomputable def e_l_toByteS : SEnt Tryd.prog := ⟨72, [(false, .L .Y)], [(false, .L .Y)], F_l_toByteS, runs_see mixed_Pb Tryd.func72 (by kernel_rfl) h_l_toByteS⟩
end Go.Vs
