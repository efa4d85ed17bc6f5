import Derived.Test.YtgleokjlebkdcaaProg
import Derived.Test.YtgleokjlebkdcaaVsPdk0
set_option linter.all false
namespace Go.Vs
open Go.Proofs
set_option maxRecDepth 100000
set_option linter.unusedVariables false
noncomputable def a_l_szByteS : An := .d
theorem h_l_szByteS (x : (List UInt8) × Int) : fnX (P := Try.prog) [] [] (sOf Try.prog Try.f91) a_l_szByteS (iOf Try.prog Try.f91) [(false, .L .Y), (false, .I .i64)] [(false, .I
 .i64)] x = F_l_szByteS x := by kernel_rfl
noncomputable def e_l_szByteS : SEnt Try.prog := ⟨91, [(false, .L .Y), (false, .I .i64)], [(false, .I .i64)], F_l_szByteS, runs_see mixed_Pd Try.func91 (by kernel_rfl) h_l_szByteS⟩
noncomputable def a_l_szCell : An := .d
theorem h_l_szCell (x : (Int × List UInt8) × Int) : fnX (P := Try.prog) [.see e_l_szByteS] [] (sOf Try.prog Try.f88) a_l_szCell (iOf Try.prog Try.f88) [(true, .P (.I .i64) (.L
 .Y)), (false, .I .i64)] [(false, .I .i64)] x = F_l_szCell x := by kernel_rfl
noncomputable def e_l_szCell : SEnt Try.prog := ⟨88, [(true, .P (.I .i64) (.L .Y)), (false, .I .i64)], [(false, .I .i64)], F_l_szCell, runs_see mixed_Pd Try.func88 (by kernel_rfl)
 h_l_szCell⟩
end Go.Vs
