import Derived.Test.YtgleokjlebkdcaaProg
import Derived.Test.YtgleokjlebkdcaaVsPdk3
set_option linter.all false
namespace Go.Vs
open Go.Proofs
set_option maxRecDepth 100000
set_option linter.unusedVariables false
noncomputable def a_slices_EqualFunc_i_sameRow : An := (.sq none .d (.sq none .d (.sq none (.sq none .d (.bl (.lp [.kt 1, .kt 2, .kt 15, .kt 16, .lt 17 (.I .i64)] .d))) .d)))
theorem h_slices_EqualFunc_i_sameRow (x : (List ((List UInt8) × (Int × List UInt8) × (Int × List UInt8) × Int × Bool)) × List ((List UInt8) × (Int × List UInt8) × (Int × List
 UInt8) × Int × Bool)) : fnH (P := Try.prog) [.fs e_i_sameRow b_i_sameRow] [] (sOf Try.prog Try.f70) a_slices_EqualFunc_i_sameRow (iOf Try.prog Try.f70) 2 71 [⟨false, false, .L
 (.P .S (.P (.P (.I .i64) (.L .Y)) (.P (.P (.I .i64) (.L .Y)) (.P (.I .i64) .B)))), [.rd], none⟩, ⟨false, false, .L (.P .S (.P (.P (.I .i64) (.L .Y)) (.P (.P (.I .i64) (.L .Y))
 (.P (.I .i64) .B)))), [.rd], none⟩] [(false, .B)] x = F_slices_EqualFunc_i_sameRow x := by kernel_rfl
noncomputable def e_slices_EqualFunc_i_sameRow : HEnt Try.prog := ⟨70, 71, 2, [⟨false, false, .L (.P .S (.P (.P (.I .i64) (.L .Y)) (.P (.P (.I .i64) (.L .Y)) (.P (.I .i64) .B)))),
 [.rd], none⟩, ⟨false, false, .L (.P .S (.P (.P (.I .i64) (.L .Y)) (.P (.P (.I .i64) (.L .Y)) (.P (.I .i64) .B)))), [.rd], none⟩], [(false, .B)], F_slices_EqualFunc_i_sameRow,
 runs_hof mixed_Pd Try.func70 (by kernel_rfl) h_slices_EqualFunc_i_sameRow⟩
noncomputable def a_slices_Equal : An := (.sq none .d (.sq none .d (.sq none (.sq none .d (.bl (.lp [.kt 0, .kt 1, .kt 12, .lt 13 (.I .i64)] .d))) .d)))
theorem h_slices_Equal (x : (List (Int × Int × Int)) × List (Int × Int × Int)) : fnX (P := Try.prog) [] [] (sOf Try.prog Try.f72) a_slices_Equal (iOf Try.prog Try.f72) [(false, .L
 (.P (.I .i64) (.P (.I .i64) (.I .i64)))), (false, .L (.P (.I .i64) (.P (.I .i64) (.I .i64))))] [(false, .B)] x = F_slices_Equal x := by kernel_rfl
noncomputable def e_slices_Equal : SEnt Try.prog := ⟨72, [(false, .L (.P (.I .i64) (.P (.I .i64) (.I .i64)))), (false, .L (.P (.I .i64) (.P (.I .i64) (.I .i64))))], [(false, .B)],
 F_slices_Equal, runs_see mixed_Pd Try.func72 (by kernel_rfl) h_slices_Equal⟩
noncomputable def a_i_SameTab : An := .d
theorem h_i_SameTab (x : ((List ((List UInt8) × (Int × List UInt8) × (Int × List UInt8) × Int × Bool)) × Int × List (Int × Int × Int)) × (List ((List UInt8) × (Int × List UInt8) ×
 (Int × List UInt8) × Int × Bool)) × Int × List (Int × Int × Int)) : fnX (P := Try.prog) [.hof e_slices_EqualFunc_i_sameRow, .see e_slices_Equal] [] (sOf Try.prog Try.f28)
 a_i_SameTab (iOf Try.prog Try.f28) [(true, .P (.L (.P .S (.P (.P (.I .i64) (.L .Y)) (.P (.P (.I .i64) (.L .Y)) (.P (.I .i64) .B))))) (.P (.I .i64) (.L (.P (.I .i64) (.P (.I .i64)
 (.I .i64)))))), (true, .P (.L (.P .S (.P (.P (.I .i64) (.L .Y)) (.P (.P (.I .i64) (.L .Y)) (.P (.I .i64) .B))))) (.P (.I .i64) (.L (.P (.I .i64) (.P (.I .i64) (.I .i64))))))]
 [(false, .B)] x = F_i_SameTab x := by kernel_rfl
noncomputable def e_i_SameTab : SEnt Try.prog := ⟨28, [(true, .P (.L (.P .S (.P (.P (.I .i64) (.L .Y)) (.P (.P (.I .i64) (.L .Y)) (.P (.I .i64) .B))))) (.P (.I .i64) (.L (.P (.I
 .i64) (.P (.I .i64) (.I .i64)))))), (true, .P (.L (.P .S (.P (.P (.I .i64) (.L .Y)) (.P (.P (.I .i64) (.L .Y)) (.P (.I .i64) .B))))) (.P (.I .i64) (.L (.P (.I .i64) (.P (.I .i64)
 (.I .i64))))))], [(false, .B)], F_i_SameTab, runs_see mixed_Pd Try.func28 (by kernel_rfl) h_i_SameTab⟩
noncomputable def a_l_FnExactSameTab : An := .d
theorem h_l_FnExactSameTab (x : ((List ((List UInt8) × (Int × List UInt8) × (Int × List UInt8) × Int × Bool)) × Int × List (Int × Int × Int)) × (List ((List UInt8) × (Int × List
 UInt8) × (Int × List UInt8) × Int × Bool)) × Int × List (Int × Int × Int)) : fnX (P := Try.prog) [.see e_l_szTab, .see e_l_toTab, .see e_s_SameTab, .see e_i_SameTab, .see
 e_l_eqTab] [] (sOf Try.prog Try.f6) a_l_FnExactSameTab (iOf Try.prog Try.f6) [(true, .P (.L (.P .S (.P (.P (.I .i64) (.L .Y)) (.P (.P (.I .i64) (.L .Y)) (.P (.I .i64) .B))))) (.P
 (.I .i64) (.L (.P (.I .i64) (.P (.I .i64) (.I .i64)))))), (true, .P (.L (.P .S (.P (.P (.I .i64) (.L .Y)) (.P (.P (.I .i64) (.L .Y)) (.P (.I .i64) .B))))) (.P (.I .i64) (.L (.P
 (.I .i64) (.P (.I .i64) (.I .i64))))))] [(false, .B)] x = F_l_FnExactSameTab x := by kernel_rfl
noncomputable def e_l_FnExactSameTab : SEnt Try.prog := ⟨6, [(true, .P (.L (.P .S (.P (.P (.I .i64) (.L .Y)) (.P (.P (.I .i64) (.L .Y)) (.P (.I .i64) .B))))) (.P (.I .i64) (.L (.P
 (.I .i64) (.P (.I .i64) (.I .i64)))))), (true, .P (.L (.P .S (.P (.P (.I .i64) (.L .Y)) (.P (.P (.I .i64) (.L .Y)) (.P (.I .i64) .B))))) (.P (.I .i64) (.L (.P (.I .i64) (.P (.I
 .i64) (.I .i64))))))], [(false, .B)], F_l_FnExactSameTab, runs_see mixed_Pd Try.func6 (by kernel_rfl) h_l_FnExactSameTab⟩
end Go.Vs
