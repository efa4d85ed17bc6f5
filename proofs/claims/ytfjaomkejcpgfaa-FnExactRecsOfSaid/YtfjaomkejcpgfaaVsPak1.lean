import Derived.Test.YtfjaomkejcpgfaaProg
import Derived.Test.YtfjaomkejcpgfaaVsPak0
set_option linter.unusedVariables false
set_option linter.unusedSimpArgs false
namespace Go.Vs
open Go.Proofs
set_option maxRecDepth 100000
set_option linter.unusedVariables false
noncomputable def a_s_l9Copy : An := .d
theorem h_s_l9Copy (x : (List UInt8) × (Int × List UInt8) × (Int × List UInt8) × Int × Bool) : fnX (P := Try.prog) [.see e_s_l8Copy] [] (sOf Try.prog Try.f85) a_s_l9Copy (iOf
  Try.prog Try.f85) [(true, .P .S (.P (.P (.I .i64) (.L .Y)) (.P (.P (.I .i64) (.L .Y)) (.P (.I .i64) .B))))] [(true, .P .S (.P (.P (.I .i64) (.L .Y)) (.P (.P (.I .i64) (.L .Y))
  (.P (.I .i64) .B))))] x = F_s_l9Copy x := by kernel_rfl
noncomputable def e_s_l9Copy : SEnt Try.prog := ⟨85, [(true, .P .S (.P (.P (.I .i64) (.L .Y)) (.P (.P (.I .i64) (.L .Y)) (.P (.I .i64) .B))))], [(true, .P .S (.P (.P (.I .i64) (.L
  .Y)) (.P (.P (.I .i64) (.L .Y)) (.P (.I .i64) .B))))], F_s_l9Copy, runs_see mixed_Pa Try.func85 (by kernel_rfl) h_s_l9Copy⟩
noncomputable def a_s_RecsOf : An := (.sq none .d (.sq none .d (.sq (some [.kt 1, .ot 3 (.P (.I .i64) (.P (.P .S (.P (.P (.I .i64) (.L .Y)) (.P (.P (.I .i64) (.L .Y)) (.P (.I .i64)
  .B)))) (.P .S (.P (.I .i64) (.P (.I .i64) (.P (.I .i64) (.I .i64)))))))]) (.sq none .d (.bl (.lp [.kt 1, .ot 3 (.P (.I .i64) (.P (.P .S (.P (.P (.I .i64) (.L .Y)) (.P (.P (.I
  .i64) (.L .Y)) (.P (.I .i64) .B)))) (.P .S (.P (.I .i64) (.P (.I .i64) (.P (.I .i64) (.I .i64))))))), .lt 4 (.I .i64)] .d))) (.sq (some [.ot 3 (.P (.I .i64) (.P (.P .S (.P (.P
  (.I .i64) (.L .Y)) (.P (.P (.I .i64) (.L .Y)) (.P (.I .i64) .B)))) (.P .S (.P (.I .i64) (.P (.I .i64) (.P (.I .i64) (.I .i64)))))))]) (.sq none .d (.bl (.lp [.kt 1, .ot 3 (.P (.I
  .i64) (.P (.P .S (.P (.P (.I .i64) (.L .Y)) (.P (.P (.I .i64) (.L .Y)) (.P (.I .i64) .B)))) (.P .S (.P (.I .i64) (.P (.I .i64) (.P (.I .i64) (.I .i64))))))), .lt 5 (.I .i64)]
  .d))) .d))))
theorem h_s_RecsOf (x : (List ((List UInt8) × (Int × List UInt8) × (Int × List UInt8) × Int × Bool)) × Int × List (Int × Int × Int)) : fnX (P := Try.prog) [.see e_s_l9Copy] [(9,
  .el (.P (.I .i64) (.P (.P .S (.P (.P (.I .i64) (.L .Y)) (.P (.P (.I .i64) (.L .Y)) (.P (.I .i64) .B)))) (.P .S (.P (.I .i64) (.P (.I .i64) (.P (.I .i64) (.I .i64)))))))), (25,
  .el (.P (.I .i64) (.P (.P .S (.P (.P (.I .i64) (.L .Y)) (.P (.P (.I .i64) (.L .Y)) (.P (.I .i64) .B)))) (.P .S (.P (.I .i64) (.P (.I .i64) (.P (.I .i64) (.I .i64)))))))), (26,
  .el (.P (.I .i64) (.P (.P .S (.P (.P (.I .i64) (.L .Y)) (.P (.P (.I .i64) (.L .Y)) (.P (.I .i64) .B)))) (.P .S (.P (.I .i64) (.P (.I .i64) (.P (.I .i64) (.I .i64)))))))), (54,
  .el (.P (.I .i64) (.P (.P .S (.P (.P (.I .i64) (.L .Y)) (.P (.P (.I .i64) (.L .Y)) (.P (.I .i64) .B)))) (.P .S (.P (.I .i64) (.P (.I .i64) (.P (.I .i64) (.I .i64)))))))), (55,
  .el (.P (.I .i64) (.P (.P .S (.P (.P (.I .i64) (.L .Y)) (.P (.P (.I .i64) (.L .Y)) (.P (.I .i64) .B)))) (.P .S (.P (.I .i64) (.P (.I .i64) (.P (.I .i64) (.I .i64))))))))] (sOf
  Try.prog Try.f44) a_s_RecsOf (iOf Try.prog Try.f44) [(true, .P (.L (.P .S (.P (.P (.I .i64) (.L .Y)) (.P (.P (.I .i64) (.L .Y)) (.P (.I .i64) .B))))) (.P (.I .i64) (.L (.P (.I
  .i64) (.P (.I .i64) (.I .i64))))))] [(false, .L (.P (.I .i64) (.P (.P .S (.P (.P (.I .i64) (.L .Y)) (.P (.P (.I .i64) (.L .Y)) (.P (.I .i64) .B)))) (.P .S (.P (.I .i64) (.P (.I
  .i64) (.P (.I .i64) (.I .i64))))))))] x = F_s_RecsOf x := by kernel_rfl
noncomputable def e_s_RecsOf : SEnt Try.prog := ⟨44, [(true, .P (.L (.P .S (.P (.P (.I .i64) (.L .Y)) (.P (.P (.I .i64) (.L .Y)) (.P (.I .i64) .B))))) (.P (.I .i64) (.L (.P (.I
  .i64) (.P (.I .i64) (.I .i64))))))], [(false, .L (.P (.I .i64) (.P (.P .S (.P (.P (.I .i64) (.L .Y)) (.P (.P (.I .i64) (.L .Y)) (.P (.I .i64) .B)))) (.P .S (.P (.I .i64) (.P (.I
  .i64) (.P (.I .i64) (.I .i64))))))))], F_s_RecsOf, runs_see mixed_Pa Try.func44 (by kernel_rfl) h_s_RecsOf⟩
noncomputable def a_i_joined : An := (.sq none .d (.sq none .d (.sq (some [.ot 3 .Y]) (.sq none .d (.bl (.lp [.ot 3 .Y, .kt 7, .kt 8, .lt 9 (.I .i64)] .d))) .d)))
theorem h_i_joined (x : List (List UInt8)) : fnX (P := Try.prog) [] [(6, .el .Y), (15, .el .Y)] (sOf Try.prog Try.f67) a_i_joined (iOf Try.prog Try.f67) [(false, .L (.L .Y))]
  [(false, .L .Y)] x = F_i_joined x := by kernel_rfl
noncomputable def e_i_joined : SEnt Try.prog := ⟨67, [(false, .L (.L .Y))], [(false, .L .Y)], F_i_joined, runs_see mixed_Pa Try.func67 (by kernel_rfl) h_i_joined⟩
noncomputable def a_i_copyCell : An := .d
theorem h_i_copyCell (x : Int × List UInt8) : fnX (P := Try.prog) [.see e_i_joined] [(7, .sb)] (sOf Try.prog Try.f104) a_i_copyCell (iOf Try.prog Try.f104) [(true, .P (.I .i64) (.L
  .Y))] [(true, .P (.I .i64) (.L .Y))] x = F_i_copyCell x := by kernel_rfl
noncomputable def e_i_copyCell : SEnt Try.prog := ⟨104, [(true, .P (.I .i64) (.L .Y))], [(true, .P (.I .i64) (.L .Y))], F_i_copyCell, runs_see mixed_Pa Try.func104 (by kernel_rfl)
  h_i_copyCell⟩
noncomputable def a_i_copyRow : An := .d
theorem h_i_copyRow (x : (List UInt8) × (Int × List UInt8) × (Int × List UInt8) × Int × Bool) : fnX (P := Try.prog) [.see e_i_copyCell] [] (sOf Try.prog Try.f86) a_i_copyRow (iOf
  Try.prog Try.f86) [(true, .P .S (.P (.P (.I .i64) (.L .Y)) (.P (.P (.I .i64) (.L .Y)) (.P (.I .i64) .B))))] [(true, .P .S (.P (.P (.I .i64) (.L .Y)) (.P (.P (.I .i64) (.L .Y))
  (.P (.I .i64) .B))))] x = F_i_copyRow x := by kernel_rfl
noncomputable def e_i_copyRow : SEnt Try.prog := ⟨86, [(true, .P .S (.P (.P (.I .i64) (.L .Y)) (.P (.P (.I .i64) (.L .Y)) (.P (.I .i64) .B))))], [(true, .P .S (.P (.P (.I .i64) (.L
  .Y)) (.P (.P (.I .i64) (.L .Y)) (.P (.I .i64) .B))))], F_i_copyRow, runs_see mixed_Pa Try.func86 (by kernel_rfl) h_i_copyRow⟩
noncomputable def a_i_RecsOf : An := (.sq none .d (.sq none .d (.sq (some [.kt 1, .ot 3 (.P (.I .i64) (.P (.P .S (.P (.P (.I .i64) (.L .Y)) (.P (.P (.I .i64) (.L .Y)) (.P (.I .i64)
  .B)))) (.P .S (.P (.I .i64) (.P (.I .i64) (.P (.I .i64) (.I .i64)))))))]) (.sq none .d (.bl (.lp [.kt 1, .ot 3 (.P (.I .i64) (.P (.P .S (.P (.P (.I .i64) (.L .Y)) (.P (.P (.I
  .i64) (.L .Y)) (.P (.I .i64) .B)))) (.P .S (.P (.I .i64) (.P (.I .i64) (.P (.I .i64) (.I .i64))))))), .kt 13, .kt 14, .lt 15 (.I .i64)] .d))) (.sq (some [.ot 3 (.P (.I .i64) (.P
  (.P .S (.P (.P (.I .i64) (.L .Y)) (.P (.P (.I .i64) (.L .Y)) (.P (.I .i64) .B)))) (.P .S (.P (.I .i64) (.P (.I .i64) (.P (.I .i64) (.I .i64)))))))]) (.sq none .d (.bl (.lp [.ot 3
  (.P (.I .i64) (.P (.P .S (.P (.P (.I .i64) (.L .Y)) (.P (.P (.I .i64) (.L .Y)) (.P (.I .i64) .B)))) (.P .S (.P (.I .i64) (.P (.I .i64) (.P (.I .i64) (.I .i64))))))), .kt 27, .kt
  28, .lt 29 (.I .i64)] .d))) .d))))
theorem h_i_RecsOf (x : (List ((List UInt8) × (Int × List UInt8) × (Int × List UInt8) × Int × Bool)) × Int × List (Int × Int × Int)) : fnX (P := Try.prog) [.see e_i_copyRow] [(11,
  .el (.P (.I .i64) (.P (.P .S (.P (.P (.I .i64) (.L .Y)) (.P (.P (.I .i64) (.L .Y)) (.P (.I .i64) .B)))) (.P .S (.P (.I .i64) (.P (.I .i64) (.P (.I .i64) (.I .i64)))))))), (23,
  .el (.P (.I .i64) (.P (.P .S (.P (.P (.I .i64) (.L .Y)) (.P (.P (.I .i64) (.L .Y)) (.P (.I .i64) .B)))) (.P .S (.P (.I .i64) (.P (.I .i64) (.P (.I .i64) (.I .i64)))))))), (24,
  .el (.P (.I .i64) (.P (.P .S (.P (.P (.I .i64) (.L .Y)) (.P (.P (.I .i64) (.L .Y)) (.P (.I .i64) .B)))) (.P .S (.P (.I .i64) (.P (.I .i64) (.P (.I .i64) (.I .i64)))))))), (41,
  .el (.P (.I .i64) (.P (.P .S (.P (.P (.I .i64) (.L .Y)) (.P (.P (.I .i64) (.L .Y)) (.P (.I .i64) .B)))) (.P .S (.P (.I .i64) (.P (.I .i64) (.P (.I .i64) (.I .i64)))))))), (42,
  .el (.P (.I .i64) (.P (.P .S (.P (.P (.I .i64) (.L .Y)) (.P (.P (.I .i64) (.L .Y)) (.P (.I .i64) .B)))) (.P .S (.P (.I .i64) (.P (.I .i64) (.P (.I .i64) (.I .i64))))))))] (sOf
  Try.prog Try.f45) a_i_RecsOf (iOf Try.prog Try.f45) [(true, .P (.L (.P .S (.P (.P (.I .i64) (.L .Y)) (.P (.P (.I .i64) (.L .Y)) (.P (.I .i64) .B))))) (.P (.I .i64) (.L (.P (.I
  .i64) (.P (.I .i64) (.I .i64))))))] [(false, .L (.P (.I .i64) (.P (.P .S (.P (.P (.I .i64) (.L .Y)) (.P (.P (.I .i64) (.L .Y)) (.P (.I .i64) .B)))) (.P .S (.P (.I .i64) (.P (.I
  .i64) (.P (.I .i64) (.I .i64))))))))] x = F_i_RecsOf x := by kernel_rfl
noncomputable def e_i_RecsOf : SEnt Try.prog := ⟨45, [(true, .P (.L (.P .S (.P (.P (.I .i64) (.L .Y)) (.P (.P (.I .i64) (.L .Y)) (.P (.I .i64) .B))))) (.P (.I .i64) (.L (.P (.I
  .i64) (.P (.I .i64) (.I .i64))))))], [(false, .L (.P (.I .i64) (.P (.P .S (.P (.P (.I .i64) (.L .Y)) (.P (.P (.I .i64) (.L .Y)) (.P (.I .i64) .B)))) (.P .S (.P (.I .i64) (.P (.I
  .i64) (.P (.I .i64) (.I .i64))))))))], F_i_RecsOf, runs_see mixed_Pa Try.func45 (by kernel_rfl) h_i_RecsOf⟩
noncomputable def a_l_eqByteS : An := (.sq none .d (.sq none .d (.sq none (.sq none .d (.bl (.lp [.kt 0, .kt 1, .lt 5 (.I .i64)] .d))) .d)))
theorem h_l_eqByteS (x : (List UInt8) × List UInt8) : fnX (P := Try.prog) [] [] (sOf Try.prog Try.f110) a_l_eqByteS (iOf Try.prog Try.f110) [(false, .L .Y), (false, .L .Y)]
  [(false, .B)] x = F_l_eqByteS x := by kernel_rfl
noncomputable def e_l_eqByteS : SEnt Try.prog := ⟨110, [(false, .L .Y), (false, .L .Y)], [(false, .B)], F_l_eqByteS, runs_see mixed_Pa Try.func110 (by kernel_rfl) h_l_eqByteS⟩
noncomputable def a_l_eqCell : An := .d
theorem h_l_eqCell (x : (Int × List UInt8) × Int × List UInt8) : fnX (P := Try.prog) [.see e_l_eqByteS] [] (sOf Try.prog Try.f107) a_l_eqCell (iOf Try.prog Try.f107) [(true, .P (.I
  .i64) (.L .Y)), (true, .P (.I .i64) (.L .Y))] [(false, .B)] x = F_l_eqCell x := by kernel_rfl
noncomputable def e_l_eqCell : SEnt Try.prog := ⟨107, [(true, .P (.I .i64) (.L .Y)), (true, .P (.I .i64) (.L .Y))], [(false, .B)], F_l_eqCell, runs_see mixed_Pa Try.func107 (by
  kernel_rfl) h_l_eqCell⟩
noncomputable def a_l_eqRow : An := .d
theorem h_l_eqRow (x : ((List UInt8) × (Int × List UInt8) × (Int × List UInt8) × Int × Bool) × (List UInt8) × (Int × List UInt8) × (Int × List UInt8) × Int × Bool) : fnX (P :=
  Try.prog) [.see e_l_eqCell] [] (sOf Try.prog Try.f98) a_l_eqRow (iOf Try.prog Try.f98) [(true, .P .S (.P (.P (.I .i64) (.L .Y)) (.P (.P (.I .i64) (.L .Y)) (.P (.I .i64) .B)))),
  (true, .P .S (.P (.P (.I .i64) (.L .Y)) (.P (.P (.I .i64) (.L .Y)) (.P (.I .i64) .B))))] [(false, .B)] x = F_l_eqRow x := by kernel_rfl
noncomputable def e_l_eqRow : SEnt Try.prog := ⟨98, [(true, .P .S (.P (.P (.I .i64) (.L .Y)) (.P (.P (.I .i64) (.L .Y)) (.P (.I .i64) .B)))), (true, .P .S (.P (.P (.I .i64) (.L
  .Y)) (.P (.P (.I .i64) (.L .Y)) (.P (.I .i64) .B))))], [(false, .B)], F_l_eqRow, runs_see mixed_Pa Try.func98 (by kernel_rfl) h_l_eqRow⟩
noncomputable def a_l_eqRec : An := .d
theorem h_l_eqRec (x : (Int × ((List UInt8) × (Int × List UInt8) × (Int × List UInt8) × Int × Bool) × (List UInt8) × Int × Int × Int × Int) × Int × ((List UInt8) × (Int × List
  UInt8) × (Int × List UInt8) × Int × Bool) × (List UInt8) × Int × Int × Int × Int) : fnX (P := Try.prog) [.see e_l_eqRow] [] (sOf Try.prog Try.f87) a_l_eqRec (iOf Try.prog
  Try.f87) [(true, .P (.I .i64) (.P (.P .S (.P (.P (.I .i64) (.L .Y)) (.P (.P (.I .i64) (.L .Y)) (.P (.I .i64) .B)))) (.P .S (.P (.I .i64) (.P (.I .i64) (.P (.I .i64) (.I
  .i64))))))), (true, .P (.I .i64) (.P (.P .S (.P (.P (.I .i64) (.L .Y)) (.P (.P (.I .i64) (.L .Y)) (.P (.I .i64) .B)))) (.P .S (.P (.I .i64) (.P (.I .i64) (.P (.I .i64) (.I
  .i64)))))))] [(false, .B)] x = F_l_eqRec x := by kernel_rfl
noncomputable def e_l_eqRec : SEnt Try.prog := ⟨87, [(true, .P (.I .i64) (.P (.P .S (.P (.P (.I .i64) (.L .Y)) (.P (.P (.I .i64) (.L .Y)) (.P (.I .i64) .B)))) (.P .S (.P (.I .i64)
  (.P (.I .i64) (.P (.I .i64) (.I .i64))))))), (true, .P (.I .i64) (.P (.P .S (.P (.P (.I .i64) (.L .Y)) (.P (.P (.I .i64) (.L .Y)) (.P (.I .i64) .B)))) (.P .S (.P (.I .i64) (.P
  (.I .i64) (.P (.I .i64) (.I .i64)))))))], [(false, .B)], F_l_eqRec, runs_see mixed_Pa Try.func87 (by kernel_rfl) h_l_eqRec⟩
noncomputable def a_l_eqRecS : An := (.sq none .d (.sq none .d (.sq none (.sq none .d (.bl (.lp [.kt 0, .kt 1, .lt 5 (.I .i64)] .d))) .d)))
theorem h_l_eqRecS (x : (List (Int × ((List UInt8) × (Int × List UInt8) × (Int × List UInt8) × Int × Bool) × (List UInt8) × Int × Int × Int × Int)) × List (Int × ((List UInt8) ×
  (Int × List UInt8) × (Int × List UInt8) × Int × Bool) × (List UInt8) × Int × Int × Int × Int)) : fnX (P := Try.prog) [.see e_l_eqRec] [] (sOf Try.prog Try.f46) a_l_eqRecS (iOf
  Try.prog Try.f46) [(false, .L (.P (.I .i64) (.P (.P .S (.P (.P (.I .i64) (.L .Y)) (.P (.P (.I .i64) (.L .Y)) (.P (.I .i64) .B)))) (.P .S (.P (.I .i64) (.P (.I .i64) (.P (.I .i64)
  (.I .i64)))))))), (false, .L (.P (.I .i64) (.P (.P .S (.P (.P (.I .i64) (.L .Y)) (.P (.P (.I .i64) (.L .Y)) (.P (.I .i64) .B)))) (.P .S (.P (.I .i64) (.P (.I .i64) (.P (.I .i64)
  (.I .i64))))))))] [(false, .B)] x = F_l_eqRecS x := by kernel_rfl
noncomputable def e_l_eqRecS : SEnt Try.prog := ⟨46, [(false, .L (.P (.I .i64) (.P (.P .S (.P (.P (.I .i64) (.L .Y)) (.P (.P (.I .i64) (.L .Y)) (.P (.I .i64) .B)))) (.P .S (.P (.I
  .i64) (.P (.I .i64) (.P (.I .i64) (.I .i64)))))))), (false, .L (.P (.I .i64) (.P (.P .S (.P (.P (.I .i64) (.L .Y)) (.P (.P (.I .i64) (.L .Y)) (.P (.I .i64) .B)))) (.P .S (.P (.I
  .i64) (.P (.I .i64) (.P (.I .i64) (.I .i64))))))))], [(false, .B)], F_l_eqRecS, runs_see mixed_Pa Try.func46 (by kernel_rfl) h_l_eqRecS⟩
noncomputable def a_l_eqRowS : An := (.sq none .d (.sq none .d (.sq none (.sq none .d (.bl (.lp [.kt 0, .kt 1, .lt 5 (.I .i64)] .d))) .d)))
theorem h_l_eqRowS (x : (List ((List UInt8) × (Int × List UInt8) × (Int × List UInt8) × Int × Bool)) × List ((List UInt8) × (Int × List UInt8) × (Int × List UInt8) × Int × Bool)) :
  fnX (P := Try.prog) [.see e_l_eqRow] [] (sOf Try.prog Try.f74) a_l_eqRowS (iOf Try.prog Try.f74) [(false, .L (.P .S (.P (.P (.I .i64) (.L .Y)) (.P (.P (.I .i64) (.L .Y)) (.P (.I
  .i64) .B))))), (false, .L (.P .S (.P (.P (.I .i64) (.L .Y)) (.P (.P (.I .i64) (.L .Y)) (.P (.I .i64) .B)))))] [(false, .B)] x = F_l_eqRowS x := by kernel_rfl
noncomputable def e_l_eqRowS : SEnt Try.prog := ⟨74, [(false, .L (.P .S (.P (.P (.I .i64) (.L .Y)) (.P (.P (.I .i64) (.L .Y)) (.P (.I .i64) .B))))), (false, .L (.P .S (.P (.P (.I
  .i64) (.L .Y)) (.P (.P (.I .i64) (.L .Y)) (.P (.I .i64) .B)))))], [(false, .B)], F_l_eqRowS, runs_see mixed_Pa Try.func74 (by kernel_rfl) h_l_eqRowS⟩
noncomputable def a_l_eqMark : An := .d
theorem h_l_eqMark (x : (Int × Int × Int) × Int × Int × Int) : fnX (P := Try.prog) [] [] (sOf Try.prog Try.f99) a_l_eqMark (iOf Try.prog Try.f99) [(true, .P (.I .i64) (.P (.I .i64)
  (.I .i64))), (true, .P (.I .i64) (.P (.I .i64) (.I .i64)))] [(false, .B)] x = F_l_eqMark x := by kernel_rfl
noncomputable def e_l_eqMark : SEnt Try.prog := ⟨99, [(true, .P (.I .i64) (.P (.I .i64) (.I .i64))), (true, .P (.I .i64) (.P (.I .i64) (.I .i64)))], [(false, .B)], F_l_eqMark,
  runs_see mixed_Pa Try.func99 (by kernel_rfl) h_l_eqMark⟩
noncomputable def a_l_eqMarkS : An := (.sq none .d (.sq none .d (.sq none (.sq none .d (.bl (.lp [.kt 0, .kt 1, .lt 5 (.I .i64)] .d))) .d)))
theorem h_l_eqMarkS (x : (List (Int × Int × Int)) × List (Int × Int × Int)) : fnX (P := Try.prog) [.see e_l_eqMark] [] (sOf Try.prog Try.f75) a_l_eqMarkS (iOf Try.prog Try.f75)
  [(false, .L (.P (.I .i64) (.P (.I .i64) (.I .i64)))), (false, .L (.P (.I .i64) (.P (.I .i64) (.I .i64))))] [(false, .B)] x = F_l_eqMarkS x := by kernel_rfl
noncomputable def e_l_eqMarkS : SEnt Try.prog := ⟨75, [(false, .L (.P (.I .i64) (.P (.I .i64) (.I .i64)))), (false, .L (.P (.I .i64) (.P (.I .i64) (.I .i64))))], [(false, .B)],
  F_l_eqMarkS, runs_see mixed_Pa Try.func75 (by kernel_rfl) h_l_eqMarkS⟩
end Go.Vs
