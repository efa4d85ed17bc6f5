import Derived.Test.YtgleokjlebkdcaaProg
import Derived.Test.YtgleokjlebkdcaaVsPdk2
set_option linter.all false
namespace Go.Vs
open Go.Proofs
set_option maxRecDepth 100000
set_option linter.unusedVariables false
noncomputable def a_i_RowAt : An := .d
theorem h_i_RowAt (x : ((List ((List UInt8) × (Int × List UInt8) × (Int × List UInt8) × Int × Bool)) × Int × List (Int × Int × Int)) × List UInt8) : fnX (P := Try.prog) [.hof
 e_slices_IndexFunc_i_RowAt_1] [] (sOf Try.prog Try.f25) a_i_RowAt (iOf Try.prog Try.f25) [(true, .P (.L (.P .S (.P (.P (.I .i64) (.L .Y)) (.P (.P (.I .i64) (.L .Y)) (.P (.I .i64)
 .B))))) (.P (.I .i64) (.L (.P (.I .i64) (.P (.I .i64) (.I .i64)))))), (false, .S)] [(false, .I .i64)] x = F_i_RowAt x := by kernel_rfl
noncomputable def e_i_RowAt : SEnt Try.prog := ⟨25, [(true, .P (.L (.P .S (.P (.P (.I .i64) (.L .Y)) (.P (.P (.I .i64) (.L .Y)) (.P (.I .i64) .B))))) (.P (.I .i64) (.L (.P (.I
 .i64) (.P (.I .i64) (.I .i64)))))), (false, .S)], [(false, .I .i64)], F_i_RowAt, runs_see mixed_Pd Try.func25 (by kernel_rfl) h_i_RowAt⟩
noncomputable def a_l_eqByteS : An := (.sq none .d (.sq none .d (.sq none (.sq none .d (.bl (.lp [.kt 0, .kt 1, .lt 5 (.I .i64)] .d))) .d)))
theorem h_l_eqByteS (x : (List UInt8) × List UInt8) : fnX (P := Try.prog) [] [] (sOf Try.prog Try.f93) a_l_eqByteS (iOf Try.prog Try.f93) [(false, .L .Y), (false, .L .Y)] [(false,
 .B)] x = F_l_eqByteS x := by kernel_rfl
noncomputable def e_l_eqByteS : SEnt Try.prog := ⟨93, [(false, .L .Y), (false, .L .Y)], [(false, .B)], F_l_eqByteS, runs_see mixed_Pd Try.func93 (by kernel_rfl) h_l_eqByteS⟩
noncomputable def a_l_eqCell : An := .d
theorem h_l_eqCell (x : (Int × List UInt8) × Int × List UInt8) : fnX (P := Try.prog) [.see e_l_eqByteS] [] (sOf Try.prog Try.f90) a_l_eqCell (iOf Try.prog Try.f90) [(true, .P (.I
 .i64) (.L .Y)), (true, .P (.I .i64) (.L .Y))] [(false, .B)] x = F_l_eqCell x := by kernel_rfl
noncomputable def e_l_eqCell : SEnt Try.prog := ⟨90, [(true, .P (.I .i64) (.L .Y)), (true, .P (.I .i64) (.L .Y))], [(false, .B)], F_l_eqCell, runs_see mixed_Pd Try.func90 (by
 kernel_rfl) h_l_eqCell⟩
noncomputable def a_l_eqRow : An := .d
theorem h_l_eqRow (x : ((List UInt8) × (Int × List UInt8) × (Int × List UInt8) × Int × Bool) × (List UInt8) × (Int × List UInt8) × (Int × List UInt8) × Int × Bool) : fnX (P :=
 Try.prog) [.see e_l_eqCell] [] (sOf Try.prog Try.f83) a_l_eqRow (iOf Try.prog Try.f83) [(true, .P .S (.P (.P (.I .i64) (.L .Y)) (.P (.P (.I .i64) (.L .Y)) (.P (.I .i64) .B)))),
 (true, .P .S (.P (.P (.I .i64) (.L .Y)) (.P (.P (.I .i64) (.L .Y)) (.P (.I .i64) .B))))] [(false, .B)] x = F_l_eqRow x := by kernel_rfl
noncomputable def e_l_eqRow : SEnt Try.prog := ⟨83, [(true, .P .S (.P (.P (.I .i64) (.L .Y)) (.P (.P (.I .i64) (.L .Y)) (.P (.I .i64) .B)))), (true, .P .S (.P (.P (.I .i64) (.L
 .Y)) (.P (.P (.I .i64) (.L .Y)) (.P (.I .i64) .B))))], [(false, .B)], F_l_eqRow, runs_see mixed_Pd Try.func83 (by kernel_rfl) h_l_eqRow⟩
noncomputable def a_l_eqRowS : An := (.sq none .d (.sq none .d (.sq none (.sq none .d (.bl (.lp [.kt 0, .kt 1, .lt 5 (.I .i64)] .d))) .d)))
theorem h_l_eqRowS (x : (List ((List UInt8) × (Int × List UInt8) × (Int × List UInt8) × Int × Bool)) × List ((List UInt8) × (Int × List UInt8) × (Int × List UInt8) × Int × Bool)) :
 fnX (P := Try.prog) [.see e_l_eqRow] [] (sOf Try.prog Try.f67) a_l_eqRowS (iOf Try.prog Try.f67) [(false, .L (.P .S (.P (.P (.I .i64) (.L .Y)) (.P (.P (.I .i64) (.L .Y)) (.P (.I
 .i64) .B))))), (false, .L (.P .S (.P (.P (.I .i64) (.L .Y)) (.P (.P (.I .i64) (.L .Y)) (.P (.I .i64) .B)))))] [(false, .B)] x = F_l_eqRowS x := by kernel_rfl
noncomputable def e_l_eqRowS : SEnt Try.prog := ⟨67, [(false, .L (.P .S (.P (.P (.I .i64) (.L .Y)) (.P (.P (.I .i64) (.L .Y)) (.P (.I .i64) .B))))), (false, .L (.P .S (.P (.P (.I
 .i64) (.L .Y)) (.P (.P (.I .i64) (.L .Y)) (.P (.I .i64) .B)))))], [(false, .B)], F_l_eqRowS, runs_see mixed_Pd Try.func67 (by kernel_rfl) h_l_eqRowS⟩
noncomputable def a_l_eqMark : An := .d
theorem h_l_eqMark (x : (Int × Int × Int) × Int × Int × Int) : fnX (P := Try.prog) [] [] (sOf Try.prog Try.f84) a_l_eqMark (iOf Try.prog Try.f84) [(true, .P (.I .i64) (.P (.I .i64)
 (.I .i64))), (true, .P (.I .i64) (.P (.I .i64) (.I .i64)))] [(false, .B)] x = F_l_eqMark x := by kernel_rfl
noncomputable def e_l_eqMark : SEnt Try.prog := ⟨84, [(true, .P (.I .i64) (.P (.I .i64) (.I .i64))), (true, .P (.I .i64) (.P (.I .i64) (.I .i64)))], [(false, .B)], F_l_eqMark,
 runs_see mixed_Pd Try.func84 (by kernel_rfl) h_l_eqMark⟩
noncomputable def a_l_eqMarkS : An := (.sq none .d (.sq none .d (.sq none (.sq none .d (.bl (.lp [.kt 0, .kt 1, .lt 5 (.I .i64)] .d))) .d)))
theorem h_l_eqMarkS (x : (List (Int × Int × Int)) × List (Int × Int × Int)) : fnX (P := Try.prog) [.see e_l_eqMark] [] (sOf Try.prog Try.f68) a_l_eqMarkS (iOf Try.prog Try.f68)
 [(false, .L (.P (.I .i64) (.P (.I .i64) (.I .i64)))), (false, .L (.P (.I .i64) (.P (.I .i64) (.I .i64))))] [(false, .B)] x = F_l_eqMarkS x := by kernel_rfl
noncomputable def e_l_eqMarkS : SEnt Try.prog := ⟨68, [(false, .L (.P (.I .i64) (.P (.I .i64) (.I .i64)))), (false, .L (.P (.I .i64) (.P (.I .i64) (.I .i64))))], [(false, .B)],
 F_l_eqMarkS, runs_see mixed_Pd Try.func68 (by kernel_rfl) h_l_eqMarkS⟩
noncomputable def a_l_eqTab : An := .d
theorem h_l_eqTab (x : ((List ((List UInt8) × (Int × List UInt8) × (Int × List UInt8) × Int × Bool)) × Int × List (Int × Int × Int)) × (List ((List UInt8) × (Int × List UInt8) ×
 (Int × List UInt8) × Int × Bool)) × Int × List (Int × Int × Int)) : fnX (P := Try.prog) [.see e_l_eqRowS, .see e_l_eqMarkS] [] (sOf Try.prog Try.f26) a_l_eqTab (iOf Try.prog
 Try.f26) [(true, .P (.L (.P .S (.P (.P (.I .i64) (.L .Y)) (.P (.P (.I .i64) (.L .Y)) (.P (.I .i64) .B))))) (.P (.I .i64) (.L (.P (.I .i64) (.P (.I .i64) (.I .i64)))))), (true, .P
 (.L (.P .S (.P (.P (.I .i64) (.L .Y)) (.P (.P (.I .i64) (.L .Y)) (.P (.I .i64) .B))))) (.P (.I .i64) (.L (.P (.I .i64) (.P (.I .i64) (.I .i64))))))] [(false, .B)] x = F_l_eqTab x
 := by kernel_rfl
noncomputable def e_l_eqTab : SEnt Try.prog := ⟨26, [(true, .P (.L (.P .S (.P (.P (.I .i64) (.L .Y)) (.P (.P (.I .i64) (.L .Y)) (.P (.I .i64) .B))))) (.P (.I .i64) (.L (.P (.I
 .i64) (.P (.I .i64) (.I .i64)))))), (true, .P (.L (.P .S (.P (.P (.I .i64) (.L .Y)) (.P (.P (.I .i64) (.L .Y)) (.P (.I .i64) .B))))) (.P (.I .i64) (.L (.P (.I .i64) (.P (.I .i64)
 (.I .i64))))))], [(false, .B)], F_l_eqTab, runs_see mixed_Pd Try.func26 (by kernel_rfl) h_l_eqTab⟩
noncomputable def a_l_FnExactRowAt : An := .d
theorem h_l_FnExactRowAt (x : ((List ((List UInt8) × (Int × List UInt8) × (Int × List UInt8) × Int × Bool)) × Int × List (Int × Int × Int)) × List UInt8) : fnX (P := Try.prog)
 [.see e_l_szTab, .see e_l_toTab, .see e_s_RowAt, .see e_i_RowAt, .see e_l_eqTab] [] (sOf Try.prog Try.f5) a_l_FnExactRowAt (iOf Try.prog Try.f5) [(true, .P (.L (.P .S (.P (.P (.I
 .i64) (.L .Y)) (.P (.P (.I .i64) (.L .Y)) (.P (.I .i64) .B))))) (.P (.I .i64) (.L (.P (.I .i64) (.P (.I .i64) (.I .i64)))))), (false, .S)] [(false, .B)] x = F_l_FnExactRowAt x :=
 by kernel_rfl
noncomputable def e_l_FnExactRowAt : SEnt Try.prog := ⟨5, [(true, .P (.L (.P .S (.P (.P (.I .i64) (.L .Y)) (.P (.P (.I .i64) (.L .Y)) (.P (.I .i64) .B))))) (.P (.I .i64) (.L (.P
 (.I .i64) (.P (.I .i64) (.I .i64)))))), (false, .S)], [(false, .B)], F_l_FnExactRowAt, runs_see mixed_Pd Try.func5 (by kernel_rfl) h_l_FnExactRowAt⟩
end Go.Vs
