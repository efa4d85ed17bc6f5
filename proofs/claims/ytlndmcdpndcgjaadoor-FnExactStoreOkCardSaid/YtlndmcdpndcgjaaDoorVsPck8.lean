import Derived.Test.YtlndmcdpndcgjaaDoorProg
import Derived.Test.YtlndmcdpndcgjaaDoorVsPck7
set_option linter.all false
namespace Go.Vs
open Go.Proofs
set_option maxRecDepth 100000
set_option linter.unusedVariables false
noncomputable def a_l_szRowS : An := (.sq none .d (.sq none .d (.sq none .d (.sq (some [.lt 1 (.I .i64)]) (.sq none .d (.bl (.lp [.kt 0, .lt 1 (.I .i64), .lt 5 (.I .i64)] .d)))
 .d))))
theorem h_l_szRowS (x : (List ((List UInt8) × (Int × List UInt8) × (Int × List UInt8) × Int × Bool)) × Int) : fnX (P := Tryd.prog) [.see e_l_szRow] [] (sOf Tryd.prog Tryd.f88)
 a_l_szRowS (iOf Tryd.prog Tryd.f88) [(false, .L (.P .S (.P (.P (.I .i64) (.L .Y)) (.P (.P (.I .i64) (.L .Y)) (.P (.I .i64) .B))))), (false, .I .i64)] [(false, .I .i64)] x =
 F_l_szRowS x := by kernel_rfl
noncomputable def e_l_szRowS : SEnt Tryd.prog := ⟨88, [(false, .L (.P .S (.P (.P (.I .i64) (.L .Y)) (.P (.P (.I .i64) (.L .Y)) (.P (.I .i64) .B))))), (false, .I .i64)], [(false, .I
 .i64)], F_l_szRowS, runs_see mixed_Pc Tryd.func88 (by kernel_rfl) h_l_szRowS⟩
noncomputable def a_l_szMarkS : An := .d
theorem h_l_szMarkS (x : (List (Int × Int × Int)) × Int) : fnX (P := Tryd.prog) [] [] (sOf Tryd.prog Tryd.f89) a_l_szMarkS (iOf Tryd.prog Tryd.f89) [(false, .L (.P (.I .i64) (.P
 (.I .i64) (.I .i64)))), (false, .I .i64)] [(false, .I .i64)] x = F_l_szMarkS x := by kernel_rfl
noncomputable def e_l_szMarkS : SEnt Tryd.prog := ⟨89, [(false, .L (.P (.I .i64) (.P (.I .i64) (.I .i64)))), (false, .I .i64)], [(false, .I .i64)], F_l_szMarkS, runs_see mixed_Pc
 Tryd.func89 (by kernel_rfl) h_l_szMarkS⟩
noncomputable def a_l_szTab : An := .d
theorem h_l_szTab (x : ((List ((List UInt8) × (Int × List UInt8) × (Int × List UInt8) × Int × Bool)) × Int × List (Int × Int × Int)) × Int) : fnX (P := Tryd.prog) [.see e_l_szRowS,
 .see e_l_szMarkS] [] (sOf Tryd.prog Tryd.f45) a_l_szTab (iOf Tryd.prog Tryd.f45) [(true, .P (.L (.P .S (.P (.P (.I .i64) (.L .Y)) (.P (.P (.I .i64) (.L .Y)) (.P (.I .i64) .B)))))
 (.P (.I .i64) (.L (.P (.I .i64) (.P (.I .i64) (.I .i64)))))), (false, .I .i64)] [(false, .I .i64)] x = F_l_szTab x := by kernel_rfl
noncomputable def e_l_szTab : SEnt Tryd.prog := ⟨45, [(true, .P (.L (.P .S (.P (.P (.I .i64) (.L .Y)) (.P (.P (.I .i64) (.L .Y)) (.P (.I .i64) .B))))) (.P (.I .i64) (.L (.P (.I
 .i64) (.P (.I .i64) (.I .i64)))))), (false, .I .i64)], [(false, .I .i64)], F_l_szTab, runs_see mixed_Pc Tryd.func45 (by kernel_rfl) h_l_szTab⟩
noncomputable def a_l_toRowS : An := (.sq none .d (.sq none .d (.sq (some [.sr 3 (.P .S (.P (.P (.I .i64) (.L .Y)) (.P (.P (.I .i64) (.L .Y)) (.P (.I .i64) .B))))]) (.sq none .d
 (.bl (.lp [.kt 0, .sr 3 (.P .S (.P (.P (.I .i64) (.L .Y)) (.P (.P (.I .i64) (.L .Y)) (.P (.I .i64) .B)))), .lt 4 (.I .i64)] .d))) .d)))
theorem h_l_toRowS (x : List ((List UInt8) × (Int × List UInt8) × (Int × List UInt8) × Int × Bool)) : fnX (P := Tryd.prog) [.see e_l_toRow] [(7, .el (.P .S (.P (.P (.I .i64) (.L
 .Y)) (.P (.P (.I .i64) (.L .Y)) (.P (.I .i64) .B)))))] (sOf Tryd.prog Tryd.f91) a_l_toRowS (iOf Tryd.prog Tryd.f91) [(false, .L (.P .S (.P (.P (.I .i64) (.L .Y)) (.P (.P (.I
 .i64) (.L .Y)) (.P (.I .i64) .B)))))] [(false, .L (.P .S (.P (.P (.I .i64) (.L .Y)) (.P (.P (.I .i64) (.L .Y)) (.P (.I .i64) .B)))))] x = F_l_toRowS x := by kernel_rfl
noncomputable def e_l_toRowS : SEnt Tryd.prog := ⟨91, [(false, .L (.P .S (.P (.P (.I .i64) (.L .Y)) (.P (.P (.I .i64) (.L .Y)) (.P (.I .i64) .B)))))], [(false, .L (.P .S (.P (.P
 (.I .i64) (.L .Y)) (.P (.P (.I .i64) (.L .Y)) (.P (.I .i64) .B)))))], F_l_toRowS, runs_see mixed_Pc Tryd.func91 (by kernel_rfl) h_l_toRowS⟩
noncomputable def a_l_toMark : An := .d
theorem h_l_toMark (x : Int × Int × Int) : fnX (P := Tryd.prog) [] [] (sOf Tryd.prog Tryd.f120) a_l_toMark (iOf Tryd.prog Tryd.f120) [(true, .P (.I .i64) (.P (.I .i64) (.I .i64)))]
 [(true, .P (.I .i64) (.P (.I .i64) (.I .i64)))] x = F_l_toMark x := by kernel_rfl
noncomputable def e_l_toMark : SEnt Tryd.prog := ⟨120, [(true, .P (.I .i64) (.P (.I .i64) (.I .i64)))], [(true, .P (.I .i64) (.P (.I .i64) (.I .i64)))], F_l_toMark, runs_see
 mixed_Pc Tryd.func120 (by kernel_rfl) h_l_toMark⟩
noncomputable def a_l_toMarkS : An := (.sq none .d (.sq none .d (.sq (some [.sr 3 (.P (.I .i64) (.P (.I .i64) (.I .i64)))]) (.sq none .d (.bl (.lp [.kt 0, .sr 3 (.P (.I .i64) (.P
 (.I .i64) (.I .i64))), .lt 4 (.I .i64)] .d))) .d)))
theorem h_l_toMarkS (x : List (Int × Int × Int)) : fnX (P := Tryd.prog) [.see e_l_toMark] [(7, .el (.P (.I .i64) (.P (.I .i64) (.I .i64))))] (sOf Tryd.prog Tryd.f92) a_l_toMarkS
 (iOf Tryd.prog Tryd.f92) [(false, .L (.P (.I .i64) (.P (.I .i64) (.I .i64))))] [(false, .L (.P (.I .i64) (.P (.I .i64) (.I .i64))))] x = F_l_toMarkS x := by kernel_rfl
noncomputable def e_l_toMarkS : SEnt Tryd.prog := ⟨92, [(false, .L (.P (.I .i64) (.P (.I .i64) (.I .i64))))], [(false, .L (.P (.I .i64) (.P (.I .i64) (.I .i64))))], F_l_toMarkS,
 runs_see mixed_Pc Tryd.func92 (by kernel_rfl) h_l_toMarkS⟩
noncomputable def a_l_toTab : An := .d
theorem h_l_toTab (x : (List ((List UInt8) × (Int × List UInt8) × (Int × List UInt8) × Int × Bool)) × Int × List (Int × Int × Int)) : fnX (P := Tryd.prog) [.see e_l_toRowS, .see
 e_l_toMarkS] [] (sOf Tryd.prog Tryd.f47) a_l_toTab (iOf Tryd.prog Tryd.f47) [(true, .P (.L (.P .S (.P (.P (.I .i64) (.L .Y)) (.P (.P (.I .i64) (.L .Y)) (.P (.I .i64) .B))))) (.P
 (.I .i64) (.L (.P (.I .i64) (.P (.I .i64) (.I .i64))))))] [(true, .P (.L (.P .S (.P (.P (.I .i64) (.L .Y)) (.P (.P (.I .i64) (.L .Y)) (.P (.I .i64) .B))))) (.P (.I .i64) (.L (.P
 (.I .i64) (.P (.I .i64) (.I .i64))))))] x = F_l_toTab x := by kernel_rfl
noncomputable def e_l_toTab : SEnt Tryd.prog := ⟨47, [(true, .P (.L (.P .S (.P (.P (.I .i64) (.L .Y)) (.P (.P (.I .i64) (.L .Y)) (.P (.I .i64) .B))))) (.P (.I .i64) (.L (.P (.I
 .i64) (.P (.I .i64) (.I .i64))))))], [(true, .P (.L (.P .S (.P (.P (.I .i64) (.L .Y)) (.P (.P (.I .i64) (.L .Y)) (.P (.I .i64) .B))))) (.P (.I .i64) (.L (.P (.I .i64) (.P (.I
 .i64) (.I .i64))))))], F_l_toTab, runs_see mixed_Pc Tryd.func47 (by kernel_rfl) h_l_toTab⟩
noncomputable def a_s_l12Mark : An := .d
theorem h_s_l12Mark (x : Int × Int × Int) : fnX (P := Tryd.prog) [.see e_s_l1In, .see e_s_l1Word] [] (sOf Tryd.prog Tryd.f90) a_s_l12Mark (iOf Tryd.prog Tryd.f90) [(true, .P (.I
 .i64) (.P (.I .i64) (.I .i64)))] [(false, .B)] x = F_s_l12Mark x := by kernel_rfl
noncomputable def e_s_l12Mark : SEnt Tryd.prog := ⟨90, [(true, .P (.I .i64) (.P (.I .i64) (.I .i64)))], [(false, .B)], F_s_l12Mark, runs_see mixed_Pc Tryd.func90 (by kernel_rfl)
 h_s_l12Mark⟩
noncomputable def a_s_TabOk : An := (.sq none .d (.sq (some [.kt 1]) (.sq none .d (.bl (.lp [.kt 1, .lt 3 (.I .i64)] .d))) (.sq (some [.kt 1]) (.sq none .d (.bl (.lp [.kt 1, .lt 4
 (.I .i64)] .d))) .d)))
theorem h_s_TabOk (x : (List ((List UInt8) × (Int × List UInt8) × (Int × List UInt8) × Int × Bool)) × Int × List (Int × Int × Int)) : fnX (P := Tryd.prog) [.see e_s_RowOk, .see
 e_s_l12Mark, .see e_s_l1In] [] (sOf Tryd.prog Tryd.f46) a_s_TabOk (iOf Tryd.prog Tryd.f46) [(true, .P (.L (.P .S (.P (.P (.I .i64) (.L .Y)) (.P (.P (.I .i64) (.L .Y)) (.P (.I
 .i64) .B))))) (.P (.I .i64) (.L (.P (.I .i64) (.P (.I .i64) (.I .i64))))))] [(false, .B)] x = F_s_TabOk x := by kernel_rfl
noncomputable def e_s_TabOk : SEnt Tryd.prog := ⟨46, [(true, .P (.L (.P .S (.P (.P (.I .i64) (.L .Y)) (.P (.P (.I .i64) (.L .Y)) (.P (.I .i64) .B))))) (.P (.I .i64) (.L (.P (.I
 .i64) (.P (.I .i64) (.I .i64))))))], [(false, .B)], F_s_TabOk, runs_see mixed_Pc Tryd.func46 (by kernel_rfl) h_s_TabOk⟩
noncomputable def a_i_TabOk : An := (.sq none .d (.sq (some [.kt 1]) (.sq none .d (.bl (.lp [.kt 1, .kt 8, .kt 9, .lt 10 (.I .i64)] .d))) (.sq (some [.kt 1]) (.sq none .d (.bl (.lp
 [.kt 1, .kt 36, .kt 37, .lt 38 (.I .i64)] .d))) .d)))
theorem h_i_TabOk (x : (List ((List UInt8) × (Int × List UInt8) × (Int × List UInt8) × Int × Bool)) × Int × List (Int × Int × Int)) : fnX (P := Tryd.prog) [.see e_i_RowOk, .see
 e_i_within, .see e_i_isWord] [] (sOf Tryd.prog Tryd.f48) a_i_TabOk (iOf Tryd.prog Tryd.f48) [(true, .P (.L (.P .S (.P (.P (.I .i64) (.L .Y)) (.P (.P (.I .i64) (.L .Y)) (.P (.I
 .i64) .B))))) (.P (.I .i64) (.L (.P (.I .i64) (.P (.I .i64) (.I .i64))))))] [(false, .B)] x = F_i_TabOk x := by kernel_rfl
noncomputable def e_i_TabOk : SEnt Tryd.prog := ⟨48, [(true, .P (.L (.P .S (.P (.P (.I .i64) (.L .Y)) (.P (.P (.I .i64) (.L .Y)) (.P (.I .i64) .B))))) (.P (.I .i64) (.L (.P (.I
 .i64) (.P (.I .i64) (.I .i64))))))], [(false, .B)], F_i_TabOk, runs_see mixed_Pc Tryd.func48 (by kernel_rfl) h_i_TabOk⟩
noncomputable def a_l_eqRowS : An := (.sq none .d (.sq none .d (.sq none (.sq none .d (.bl (.lp [.kt 0, .kt 1, .lt 5 (.I .i64)] .d))) .d)))
theorem h_l_eqRowS (x : (List ((List UInt8) × (Int × List UInt8) × (Int × List UInt8) × Int × Bool)) × List ((List UInt8) × (Int × List UInt8) × (Int × List UInt8) × Int × Bool)) :
 fnX (P := Tryd.prog) [.see e_l_eqRow] [] (sOf Tryd.prog Tryd.f93) a_l_eqRowS (iOf Tryd.prog Tryd.f93) [(false, .L (.P .S (.P (.P (.I .i64) (.L .Y)) (.P (.P (.I .i64) (.L .Y)) (.P
 (.I .i64) .B))))), (false, .L (.P .S (.P (.P (.I .i64) (.L .Y)) (.P (.P (.I .i64) (.L .Y)) (.P (.I .i64) .B)))))] [(false, .B)] x = F_l_eqRowS x := by kernel_rfl
noncomputable def e_l_eqRowS : SEnt Tryd.prog := ⟨93, [(false, .L (.P .S (.P (.P (.I .i64) (.L .Y)) (.P (.P (.I .i64) (.L .Y)) (.P (.I .i64) .B))))), (false, .L (.P .S (.P (.P (.I
 .i64) (.L .Y)) (.P (.P (.I .i64) (.L .Y)) (.P (.I .i64) .B)))))], [(false, .B)], F_l_eqRowS, runs_see mixed_Pc Tryd.func93 (by kernel_rfl) h_l_eqRowS⟩
noncomputable def a_l_eqMark : An := .d
theorem h_l_eqMark (x : (Int × Int × Int) × Int × Int × Int) : fnX (P := Tryd.prog) [] [] (sOf Tryd.prog Tryd.f121) a_l_eqMark (iOf Tryd.prog Tryd.f121) [(true, .P (.I .i64) (.P
 (.I .i64) (.I .i64))), (true, .P (.I .i64) (.P (.I .i64) (.I .i64)))] [(false, .B)] x = F_l_eqMark x := by kernel_rfl
noncomputable def e_l_eqMark : SEnt Tryd.prog := ⟨121, [(true, .P (.I .i64) (.P (.I .i64) (.I .i64))), (true, .P (.I .i64) (.P (.I .i64) (.I .i64)))], [(false, .B)], F_l_eqMark,
 runs_see mixed_Pc Tryd.func121 (by kernel_rfl) h_l_eqMark⟩
noncomputable def a_l_eqMarkS : An := (.sq none .d (.sq none .d (.sq none (.sq none .d (.bl (.lp [.kt 0, .kt 1, .lt 5 (.I .i64)] .d))) .d)))
theorem h_l_eqMarkS (x : (List (Int × Int × Int)) × List (Int × Int × Int)) : fnX (P := Tryd.prog) [.see e_l_eqMark] [] (sOf Tryd.prog Tryd.f94) a_l_eqMarkS (iOf Tryd.prog
 Tryd.f94) [(false, .L (.P (.I .i64) (.P (.I .i64) (.I .i64)))), (false, .L (.P (.I .i64) (.P (.I .i64) (.I .i64))))] [(false, .B)] x = F_l_eqMarkS x := by kernel_rfl
noncomputable def e_l_eqMarkS : SEnt Tryd.prog := ⟨94, [(false, .L (.P (.I .i64) (.P (.I .i64) (.I .i64)))), (false, .L (.P (.I .i64) (.P (.I .i64) (.I .i64))))], [(false, .B)],
 F_l_eqMarkS, runs_see mixed_Pc Tryd.func94 (by kernel_rfl) h_l_eqMarkS⟩
noncomputable def a_l_eqTab : An := .d
theorem h_l_eqTab (x : ((List ((List UInt8) × (Int × List UInt8) × (Int × List UInt8) × Int × Bool)) × Int × List (Int × Int × Int)) × (List ((List UInt8) × (Int × List UInt8) ×
 (Int × List UInt8) × Int × Bool)) × Int × List (Int × Int × Int)) : fnX (P := Tryd.prog) [.see e_l_eqRowS, .see e_l_eqMarkS] [] (sOf Tryd.prog Tryd.f49) a_l_eqTab (iOf Tryd.prog
 Tryd.f49) [(true, .P (.L (.P .S (.P (.P (.I .i64) (.L .Y)) (.P (.P (.I .i64) (.L .Y)) (.P (.I .i64) .B))))) (.P (.I .i64) (.L (.P (.I .i64) (.P (.I .i64) (.I .i64)))))), (true,
 .P (.L (.P .S (.P (.P (.I .i64) (.L .Y)) (.P (.P (.I .i64) (.L .Y)) (.P (.I .i64) .B))))) (.P (.I .i64) (.L (.P (.I .i64) (.P (.I .i64) (.I .i64))))))] [(false, .B)] x =
 F_l_eqTab x := by kernel_rfl
noncomputable def e_l_eqTab : SEnt Tryd.prog := ⟨49, [(true, .P (.L (.P .S (.P (.P (.I .i64) (.L .Y)) (.P (.P (.I .i64) (.L .Y)) (.P (.I .i64) .B))))) (.P (.I .i64) (.L (.P (.I
 .i64) (.P (.I .i64) (.I .i64)))))), (true, .P (.L (.P .S (.P (.P (.I .i64) (.L .Y)) (.P (.P (.I .i64) (.L .Y)) (.P (.I .i64) .B))))) (.P (.I .i64) (.L (.P (.I .i64) (.P (.I .i64)
 (.I .i64))))))], [(false, .B)], F_l_eqTab, runs_see mixed_Pc Tryd.func49 (by kernel_rfl) h_l_eqTab⟩
end Go.Vs
