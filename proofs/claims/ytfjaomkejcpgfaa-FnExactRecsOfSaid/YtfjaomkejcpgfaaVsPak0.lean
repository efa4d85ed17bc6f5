import Derived.Test.YtfjaomkejcpgfaaProg
import Derived.Test.YtfjaomkejcpgfaaVsPa
set_option linter.unusedVariables false
set_option linter.unusedSimpArgs false
namespace Go.Vs
open Go.Proofs
set_option maxRecDepth 100000
set_option linter.unusedVariables false
theorem mixed_Pa : Try.prog.follows .mixedOrders = true := by kernel_rfl
noncomputable def a_l_szByteS : An := .d
theorem h_l_szByteS (x : (List UInt8) × Int) : fnX (P := Try.prog) [] [] (sOf Try.prog Try.f108) a_l_szByteS (iOf Try.prog Try.f108) [(false, .L .Y), (false, .I .i64)] [(false, .I
  .i64)] x = F_l_szByteS x := by kernel_rfl
noncomputable def e_l_szByteS : SEnt Try.prog := ⟨108, [(false, .L .Y), (false, .I .i64)], [(false, .I .i64)], F_l_szByteS, runs_see mixed_Pa Try.func108 (by kernel_rfl)
  h_l_szByteS⟩
noncomputable def a_l_szCell : An := .d
theorem h_l_szCell (x : (Int × List UInt8) × Int) : fnX (P := Try.prog) [.see e_l_szByteS] [] (sOf Try.prog Try.f105) a_l_szCell (iOf Try.prog Try.f105) [(true, .P (.I .i64) (.L
  .Y)), (false, .I .i64)] [(false, .I .i64)] x = F_l_szCell x := by kernel_rfl
noncomputable def e_l_szCell : SEnt Try.prog := ⟨105, [(true, .P (.I .i64) (.L .Y)), (false, .I .i64)], [(false, .I .i64)], F_l_szCell, runs_see mixed_Pa Try.func105 (by
  kernel_rfl) h_l_szCell⟩
noncomputable def a_l_szRow : An := .d
theorem h_l_szRow (x : ((List UInt8) × (Int × List UInt8) × (Int × List UInt8) × Int × Bool) × Int) : fnX (P := Try.prog) [.see e_l_szCell] [] (sOf Try.prog Try.f95) a_l_szRow (iOf
  Try.prog Try.f95) [(true, .P .S (.P (.P (.I .i64) (.L .Y)) (.P (.P (.I .i64) (.L .Y)) (.P (.I .i64) .B)))), (false, .I .i64)] [(false, .I .i64)] x = F_l_szRow x := by kernel_rfl
noncomputable def e_l_szRow : SEnt Try.prog := ⟨95, [(true, .P .S (.P (.P (.I .i64) (.L .Y)) (.P (.P (.I .i64) (.L .Y)) (.P (.I .i64) .B)))), (false, .I .i64)], [(false, .I .i64)],
  F_l_szRow, runs_see mixed_Pa Try.func95 (by kernel_rfl) h_l_szRow⟩
noncomputable def a_l_szRowS : An := (.sq none .d (.sq none .d (.sq none .d (.sq (some [.lt 1 (.I .i64)]) (.sq none .d (.bl (.lp [.kt 0, .lt 1 (.I .i64), .lt 5 (.I .i64)] .d)))
  .d))))
theorem h_l_szRowS (x : (List ((List UInt8) × (Int × List UInt8) × (Int × List UInt8) × Int × Bool)) × Int) : fnX (P := Try.prog) [.see e_l_szRow] [] (sOf Try.prog Try.f68)
  a_l_szRowS (iOf Try.prog Try.f68) [(false, .L (.P .S (.P (.P (.I .i64) (.L .Y)) (.P (.P (.I .i64) (.L .Y)) (.P (.I .i64) .B))))), (false, .I .i64)] [(false, .I .i64)] x =
  F_l_szRowS x := by kernel_rfl
noncomputable def e_l_szRowS : SEnt Try.prog := ⟨68, [(false, .L (.P .S (.P (.P (.I .i64) (.L .Y)) (.P (.P (.I .i64) (.L .Y)) (.P (.I .i64) .B))))), (false, .I .i64)], [(false, .I
  .i64)], F_l_szRowS, runs_see mixed_Pa Try.func68 (by kernel_rfl) h_l_szRowS⟩
noncomputable def a_l_szMarkS : An := .d
theorem h_l_szMarkS (x : (List (Int × Int × Int)) × Int) : fnX (P := Try.prog) [] [] (sOf Try.prog Try.f69) a_l_szMarkS (iOf Try.prog Try.f69) [(false, .L (.P (.I .i64) (.P (.I
  .i64) (.I .i64)))), (false, .I .i64)] [(false, .I .i64)] x = F_l_szMarkS x := by kernel_rfl
noncomputable def e_l_szMarkS : SEnt Try.prog := ⟨69, [(false, .L (.P (.I .i64) (.P (.I .i64) (.I .i64)))), (false, .I .i64)], [(false, .I .i64)], F_l_szMarkS, runs_see mixed_Pa
  Try.func69 (by kernel_rfl) h_l_szMarkS⟩
noncomputable def a_l_szTab : An := .d
theorem h_l_szTab (x : ((List ((List UInt8) × (Int × List UInt8) × (Int × List UInt8) × Int × Bool)) × Int × List (Int × Int × Int)) × Int) : fnX (P := Try.prog) [.see e_l_szRowS,
  .see e_l_szMarkS] [] (sOf Try.prog Try.f23) a_l_szTab (iOf Try.prog Try.f23) [(true, .P (.L (.P .S (.P (.P (.I .i64) (.L .Y)) (.P (.P (.I .i64) (.L .Y)) (.P (.I .i64) .B))))) (.P
  (.I .i64) (.L (.P (.I .i64) (.P (.I .i64) (.I .i64)))))), (false, .I .i64)] [(false, .I .i64)] x = F_l_szTab x := by kernel_rfl
noncomputable def e_l_szTab : SEnt Try.prog := ⟨23, [(true, .P (.L (.P .S (.P (.P (.I .i64) (.L .Y)) (.P (.P (.I .i64) (.L .Y)) (.P (.I .i64) .B))))) (.P (.I .i64) (.L (.P (.I
  .i64) (.P (.I .i64) (.I .i64)))))), (false, .I .i64)], [(false, .I .i64)], F_l_szTab, runs_see mixed_Pa Try.func23 (by kernel_rfl) h_l_szTab⟩
noncomputable def a_l_toByteS : An := (.sq none .d (.sq none .d (.sq (some [.sr 3 .Y]) (.sq none .d (.bl (.lp [.kt 0, .sr 3 .Y, .lt 4 (.I .i64)] .d))) .d)))
theorem h_l_toByteS (x : List UInt8) : fnX (P := Try.prog) [] [(7, .el .Y)] (sOf Try.prog Try.f109) a_l_toByteS (iOf Try.prog Try.f109) [(false, .L .Y)] [(false, .L .Y)] x =
  F_l_toByteS x := by kernel_rfl
noncomputable def e_l_toByteS : SEnt Try.prog := ⟨109, [(false, .L .Y)], [(false, .L .Y)], F_l_toByteS, runs_see mixed_Pa Try.func109 (by kernel_rfl) h_l_toByteS⟩
noncomputable def a_l_toCell : An := .d
theorem h_l_toCell (x : Int × List UInt8) : fnX (P := Try.prog) [.see e_l_toByteS] [] (sOf Try.prog Try.f106) a_l_toCell (iOf Try.prog Try.f106) [(true, .P (.I .i64) (.L .Y))]
  [(true, .P (.I .i64) (.L .Y))] x = F_l_toCell x := by kernel_rfl
noncomputable def e_l_toCell : SEnt Try.prog := ⟨106, [(true, .P (.I .i64) (.L .Y))], [(true, .P (.I .i64) (.L .Y))], F_l_toCell, runs_see mixed_Pa Try.func106 (by kernel_rfl)
  h_l_toCell⟩
noncomputable def a_l_toRow : An := .d
theorem h_l_toRow (x : (List UInt8) × (Int × List UInt8) × (Int × List UInt8) × Int × Bool) : fnX (P := Try.prog) [.see e_l_toCell] [] (sOf Try.prog Try.f96) a_l_toRow (iOf
  Try.prog Try.f96) [(true, .P .S (.P (.P (.I .i64) (.L .Y)) (.P (.P (.I .i64) (.L .Y)) (.P (.I .i64) .B))))] [(true, .P .S (.P (.P (.I .i64) (.L .Y)) (.P (.P (.I .i64) (.L .Y))
  (.P (.I .i64) .B))))] x = F_l_toRow x := by kernel_rfl
noncomputable def e_l_toRow : SEnt Try.prog := ⟨96, [(true, .P .S (.P (.P (.I .i64) (.L .Y)) (.P (.P (.I .i64) (.L .Y)) (.P (.I .i64) .B))))], [(true, .P .S (.P (.P (.I .i64) (.L
  .Y)) (.P (.P (.I .i64) (.L .Y)) (.P (.I .i64) .B))))], F_l_toRow, runs_see mixed_Pa Try.func96 (by kernel_rfl) h_l_toRow⟩
noncomputable def a_l_toRowS : An := (.sq none .d (.sq none .d (.sq (some [.sr 3 (.P .S (.P (.P (.I .i64) (.L .Y)) (.P (.P (.I .i64) (.L .Y)) (.P (.I .i64) .B))))]) (.sq none .d
  (.bl (.lp [.kt 0, .sr 3 (.P .S (.P (.P (.I .i64) (.L .Y)) (.P (.P (.I .i64) (.L .Y)) (.P (.I .i64) .B)))), .lt 4 (.I .i64)] .d))) .d)))
theorem h_l_toRowS (x : List ((List UInt8) × (Int × List UInt8) × (Int × List UInt8) × Int × Bool)) : fnX (P := Try.prog) [.see e_l_toRow] [(7, .el (.P .S (.P (.P (.I .i64) (.L
  .Y)) (.P (.P (.I .i64) (.L .Y)) (.P (.I .i64) .B)))))] (sOf Try.prog Try.f70) a_l_toRowS (iOf Try.prog Try.f70) [(false, .L (.P .S (.P (.P (.I .i64) (.L .Y)) (.P (.P (.I .i64)
  (.L .Y)) (.P (.I .i64) .B)))))] [(false, .L (.P .S (.P (.P (.I .i64) (.L .Y)) (.P (.P (.I .i64) (.L .Y)) (.P (.I .i64) .B)))))] x = F_l_toRowS x := by kernel_rfl
noncomputable def e_l_toRowS : SEnt Try.prog := ⟨70, [(false, .L (.P .S (.P (.P (.I .i64) (.L .Y)) (.P (.P (.I .i64) (.L .Y)) (.P (.I .i64) .B)))))], [(false, .L (.P .S (.P (.P (.I
  .i64) (.L .Y)) (.P (.P (.I .i64) (.L .Y)) (.P (.I .i64) .B)))))], F_l_toRowS, runs_see mixed_Pa Try.func70 (by kernel_rfl) h_l_toRowS⟩
noncomputable def a_l_toMark : An := .d
theorem h_l_toMark (x : Int × Int × Int) : fnX (P := Try.prog) [] [] (sOf Try.prog Try.f97) a_l_toMark (iOf Try.prog Try.f97) [(true, .P (.I .i64) (.P (.I .i64) (.I .i64)))]
  [(true, .P (.I .i64) (.P (.I .i64) (.I .i64)))] x = F_l_toMark x := by kernel_rfl
noncomputable def e_l_toMark : SEnt Try.prog := ⟨97, [(true, .P (.I .i64) (.P (.I .i64) (.I .i64)))], [(true, .P (.I .i64) (.P (.I .i64) (.I .i64)))], F_l_toMark, runs_see mixed_Pa
  Try.func97 (by kernel_rfl) h_l_toMark⟩
noncomputable def a_l_toMarkS : An := (.sq none .d (.sq none .d (.sq (some [.sr 3 (.P (.I .i64) (.P (.I .i64) (.I .i64)))]) (.sq none .d (.bl (.lp [.kt 0, .sr 3 (.P (.I .i64) (.P
  (.I .i64) (.I .i64))), .lt 4 (.I .i64)] .d))) .d)))
theorem h_l_toMarkS (x : List (Int × Int × Int)) : fnX (P := Try.prog) [.see e_l_toMark] [(7, .el (.P (.I .i64) (.P (.I .i64) (.I .i64))))] (sOf Try.prog Try.f71) a_l_toMarkS (iOf
  Try.prog Try.f71) [(false, .L (.P (.I .i64) (.P (.I .i64) (.I .i64))))] [(false, .L (.P (.I .i64) (.P (.I .i64) (.I .i64))))] x = F_l_toMarkS x := by kernel_rfl
noncomputable def e_l_toMarkS : SEnt Try.prog := ⟨71, [(false, .L (.P (.I .i64) (.P (.I .i64) (.I .i64))))], [(false, .L (.P (.I .i64) (.P (.I .i64) (.I .i64))))], F_l_toMarkS,
  runs_see mixed_Pa Try.func71 (by kernel_rfl) h_l_toMarkS⟩
noncomputable def a_l_toTab : An := .d
theorem h_l_toTab (x : (List ((List UInt8) × (Int × List UInt8) × (Int × List UInt8) × Int × Bool)) × Int × List (Int × Int × Int)) : fnX (P := Try.prog) [.see e_l_toRowS, .see
  e_l_toMarkS] [] (sOf Try.prog Try.f25) a_l_toTab (iOf Try.prog Try.f25) [(true, .P (.L (.P .S (.P (.P (.I .i64) (.L .Y)) (.P (.P (.I .i64) (.L .Y)) (.P (.I .i64) .B))))) (.P (.I
  .i64) (.L (.P (.I .i64) (.P (.I .i64) (.I .i64))))))] [(true, .P (.L (.P .S (.P (.P (.I .i64) (.L .Y)) (.P (.P (.I .i64) (.L .Y)) (.P (.I .i64) .B))))) (.P (.I .i64) (.L (.P (.I
  .i64) (.P (.I .i64) (.I .i64))))))] x = F_l_toTab x := by kernel_rfl
noncomputable def e_l_toTab : SEnt Try.prog := ⟨25, [(true, .P (.L (.P .S (.P (.P (.I .i64) (.L .Y)) (.P (.P (.I .i64) (.L .Y)) (.P (.I .i64) .B))))) (.P (.I .i64) (.L (.P (.I
  .i64) (.P (.I .i64) (.I .i64))))))], [(true, .P (.L (.P .S (.P (.P (.I .i64) (.L .Y)) (.P (.P (.I .i64) (.L .Y)) (.P (.I .i64) .B))))) (.P (.I .i64) (.L (.P (.I .i64) (.P (.I
  .i64) (.I .i64))))))], F_l_toTab, runs_see mixed_Pa Try.func25 (by kernel_rfl) h_l_toTab⟩
noncomputable def a_s_l8Copy : An := .d
theorem h_s_l8Copy (x : Int × List UInt8) : fnX (P := Try.prog) [] [(5, .el .Y), (8, .el .Y)] (sOf Try.prog Try.f103) a_s_l8Copy (iOf Try.prog Try.f103) [(true, .P (.I .i64) (.L
  .Y))] [(true, .P (.I .i64) (.L .Y))] x = F_s_l8Copy x := by kernel_rfl
noncomputable def e_s_l8Copy : SEnt Try.prog := ⟨103, [(true, .P (.I .i64) (.L .Y))], [(true, .P (.I .i64) (.L .Y))], F_s_l8Copy, runs_see mixed_Pa Try.func103 (by kernel_rfl)
  h_s_l8Copy⟩
end Go.Vs
