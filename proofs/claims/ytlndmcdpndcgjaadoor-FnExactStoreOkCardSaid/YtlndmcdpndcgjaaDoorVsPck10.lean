import Derived.Test.YtlndmcdpndcgjaaDoorProg
import Derived.Test.YtlndmcdpndcgjaaDoorVsPck9
set_option linter.all false
namespace Go.Vs
open Go.Proofs
set_option maxRecDepth 100000
set_option linter.unusedVariables false
noncomputable def a_l_szDev : An := .d
theorem h_l_szDev (x : ((List (List UInt8)) × (List (Int × List UInt8)) × Int × Bool) × Int) : fnX (P := Tryd.prog) [.see e_l_szByteSS, .see e_l_szWrS] [] (sOf Tryd.prog Tryd.f104)
 a_l_szDev (iOf Tryd.prog Tryd.f104) [(true, .P (.L (.L .Y)) (.P (.L (.P (.I .i64) (.L .Y))) (.P (.I .i64) .B))), (false, .I .i64)] [(false, .I .i64)] x = F_l_szDev x := by
 kernel_rfl
noncomputable def e_l_szDev : SEnt Tryd.prog := ⟨104, [(true, .P (.L (.L .Y)) (.P (.L (.P (.I .i64) (.L .Y))) (.P (.I .i64) .B))), (false, .I .i64)], [(false, .I .i64)], F_l_szDev,
 runs_see mixed_Pc Tryd.func104 (by kernel_rfl) h_l_szDev⟩
noncomputable def a_l_szStore : An := .d
theorem h_l_szStore (x : (((List (List UInt8)) × (List (Int × List UInt8)) × Int × Bool) × ((List ((List UInt8) × (Int × List UInt8) × (Int × List UInt8) × Int × Bool)) × Int ×
 List (Int × Int × Int)) × Int × Int) × Int) : fnX (P := Tryd.prog) [.see e_l_szDev, .see e_l_szTab] [] (sOf Tryd.prog Tryd.f54) a_l_szStore (iOf Tryd.prog Tryd.f54) [(true, .P
 (.P (.L (.L .Y)) (.P (.L (.P (.I .i64) (.L .Y))) (.P (.I .i64) .B))) (.P (.P (.L (.P .S (.P (.P (.I .i64) (.L .Y)) (.P (.P (.I .i64) (.L .Y)) (.P (.I .i64) .B))))) (.P (.I .i64)
 (.L (.P (.I .i64) (.P (.I .i64) (.I .i64)))))) (.P (.I .i64) (.I .i64)))), (false, .I .i64)] [(false, .I .i64)] x = F_l_szStore x := by kernel_rfl
noncomputable def e_l_szStore : SEnt Tryd.prog := ⟨54, [(true, .P (.P (.L (.L .Y)) (.P (.L (.P (.I .i64) (.L .Y))) (.P (.I .i64) .B))) (.P (.P (.L (.P .S (.P (.P (.I .i64) (.L .Y))
 (.P (.P (.I .i64) (.L .Y)) (.P (.I .i64) .B))))) (.P (.I .i64) (.L (.P (.I .i64) (.P (.I .i64) (.I .i64)))))) (.P (.I .i64) (.I .i64)))), (false, .I .i64)], [(false, .I .i64)],
 F_l_szStore, runs_see mixed_Pc Tryd.func54 (by kernel_rfl) h_l_szStore⟩
noncomputable def a_l_toByteSS : An := (.sq none .d (.sq none .d (.sq (some [.sr 3 (.L .Y)]) (.sq none .d (.bl (.lp [.kt 0, .sr 3 (.L .Y), .lt 4 (.I .i64)] .d))) .d)))
theorem h_l_toByteSS (x : List (List UInt8)) : fnX (P := Tryd.prog) [.see e_l_toByteS] [(7, .el (.L .Y))] (sOf Tryd.prog Tryd.f128) a_l_toByteSS (iOf Tryd.prog Tryd.f128) [(false,
 .L (.L .Y))] [(false, .L (.L .Y))] x = F_l_toByteSS x := by kernel_rfl
noncomputable def e_l_toByteSS : SEnt Tryd.prog := ⟨128, [(false, .L (.L .Y))], [(false, .L (.L .Y))], F_l_toByteSS, runs_see mixed_Pc Tryd.func128 (by kernel_rfl) h_l_toByteSS⟩
noncomputable def a_l_toWr : An := .d
theorem h_l_toWr (x : Int × List UInt8) : fnX (P := Tryd.prog) [.see e_l_toByteS] [] (sOf Tryd.prog Tryd.f137) a_l_toWr (iOf Tryd.prog Tryd.f137) [(true, .P (.I .i64) (.L .Y))]
 [(true, .P (.I .i64) (.L .Y))] x = F_l_toWr x := by kernel_rfl
noncomputable def e_l_toWr : SEnt Tryd.prog := ⟨137, [(true, .P (.I .i64) (.L .Y))], [(true, .P (.I .i64) (.L .Y))], F_l_toWr, runs_see mixed_Pc Tryd.func137 (by kernel_rfl)
 h_l_toWr⟩
noncomputable def a_l_toWrS : An := (.sq none .d (.sq none .d (.sq (some [.sr 3 (.P (.I .i64) (.L .Y))]) (.sq none .d (.bl (.lp [.kt 0, .sr 3 (.P (.I .i64) (.L .Y)), .lt 4 (.I
 .i64)] .d))) .d)))
theorem h_l_toWrS (x : List (Int × List UInt8)) : fnX (P := Tryd.prog) [.see e_l_toWr] [(7, .el (.P (.I .i64) (.L .Y)))] (sOf Tryd.prog Tryd.f129) a_l_toWrS (iOf Tryd.prog
 Tryd.f129) [(false, .L (.P (.I .i64) (.L .Y)))] [(false, .L (.P (.I .i64) (.L .Y)))] x = F_l_toWrS x := by kernel_rfl
noncomputable def e_l_toWrS : SEnt Tryd.prog := ⟨129, [(false, .L (.P (.I .i64) (.L .Y)))], [(false, .L (.P (.I .i64) (.L .Y)))], F_l_toWrS, runs_see mixed_Pc Tryd.func129 (by
 kernel_rfl) h_l_toWrS⟩
noncomputable def a_l_toDev : An := .d
theorem h_l_toDev (x : (List (List UInt8)) × (List (Int × List UInt8)) × Int × Bool) : fnX (P := Tryd.prog) [.see e_l_toByteSS, .see e_l_toWrS] [] (sOf Tryd.prog Tryd.f106)
 a_l_toDev (iOf Tryd.prog Tryd.f106) [(true, .P (.L (.L .Y)) (.P (.L (.P (.I .i64) (.L .Y))) (.P (.I .i64) .B)))] [(true, .P (.L (.L .Y)) (.P (.L (.P (.I .i64) (.L .Y))) (.P (.I
 .i64) .B)))] x = F_l_toDev x := by kernel_rfl
noncomputable def e_l_toDev : SEnt Tryd.prog := ⟨106, [(true, .P (.L (.L .Y)) (.P (.L (.P (.I .i64) (.L .Y))) (.P (.I .i64) .B)))], [(true, .P (.L (.L .Y)) (.P (.L (.P (.I .i64)
 (.L .Y))) (.P (.I .i64) .B)))], F_l_toDev, runs_see mixed_Pc Tryd.func106 (by kernel_rfl) h_l_toDev⟩
noncomputable def a_l_toStore : An := .d
theorem h_l_toStore (x : ((List (List UInt8)) × (List (Int × List UInt8)) × Int × Bool) × ((List ((List UInt8) × (Int × List UInt8) × (Int × List UInt8) × Int × Bool)) × Int × List
 (Int × Int × Int)) × Int × Int) : fnX (P := Tryd.prog) [.see e_l_toDev, .see e_l_toTab] [] (sOf Tryd.prog Tryd.f56) a_l_toStore (iOf Tryd.prog Tryd.f56) [(true, .P (.P (.L (.L
 .Y)) (.P (.L (.P (.I .i64) (.L .Y))) (.P (.I .i64) .B))) (.P (.P (.L (.P .S (.P (.P (.I .i64) (.L .Y)) (.P (.P (.I .i64) (.L .Y)) (.P (.I .i64) .B))))) (.P (.I .i64) (.L (.P (.I
 .i64) (.P (.I .i64) (.I .i64)))))) (.P (.I .i64) (.I .i64))))] [(true, .P (.P (.L (.L .Y)) (.P (.L (.P (.I .i64) (.L .Y))) (.P (.I .i64) .B))) (.P (.P (.L (.P .S (.P (.P (.I
 .i64) (.L .Y)) (.P (.P (.I .i64) (.L .Y)) (.P (.I .i64) .B))))) (.P (.I .i64) (.L (.P (.I .i64) (.P (.I .i64) (.I .i64)))))) (.P (.I .i64) (.I .i64))))] x = F_l_toStore x := by
 kernel_rfl
noncomputable def e_l_toStore : SEnt Tryd.prog := ⟨56, [(true, .P (.P (.L (.L .Y)) (.P (.L (.P (.I .i64) (.L .Y))) (.P (.I .i64) .B))) (.P (.P (.L (.P .S (.P (.P (.I .i64) (.L .Y))
 (.P (.P (.I .i64) (.L .Y)) (.P (.I .i64) .B))))) (.P (.I .i64) (.L (.P (.I .i64) (.P (.I .i64) (.I .i64)))))) (.P (.I .i64) (.I .i64))))], [(true, .P (.P (.L (.L .Y)) (.P (.L (.P
 (.I .i64) (.L .Y))) (.P (.I .i64) .B))) (.P (.P (.L (.P .S (.P (.P (.I .i64) (.L .Y)) (.P (.P (.I .i64) (.L .Y)) (.P (.I .i64) .B))))) (.P (.I .i64) (.L (.P (.I .i64) (.P (.I
 .i64) (.I .i64)))))) (.P (.I .i64) (.I .i64))))], F_l_toStore, runs_see mixed_Pc Tryd.func56 (by kernel_rfl) h_l_toStore⟩
noncomputable def a_s_DevOk : An := (.sq none .d (.sq (some [.kt 1]) (.sq none .d (.bl (.lp [.kt 1, .lt 3 (.I .i64)] .d))) (.sq (some [.kt 1]) (.sq none .d (.bl (.lp [.kt 1, .lt 4
 (.I .i64)] .d))) .d)))
theorem h_s_DevOk (x : (List (List UInt8)) × (List (Int × List UInt8)) × Int × Bool) : fnX (P := Tryd.prog) [.see e_s_l1In] [] (sOf Tryd.prog Tryd.f105) a_s_DevOk (iOf Tryd.prog
 Tryd.f105) [(true, .P (.L (.L .Y)) (.P (.L (.P (.I .i64) (.L .Y))) (.P (.I .i64) .B)))] [(false, .B)] x = F_s_DevOk x := by kernel_rfl
noncomputable def e_s_DevOk : SEnt Tryd.prog := ⟨105, [(true, .P (.L (.L .Y)) (.P (.L (.P (.I .i64) (.L .Y))) (.P (.I .i64) .B)))], [(false, .B)], F_s_DevOk, runs_see mixed_Pc
 Tryd.func105 (by kernel_rfl) h_s_DevOk⟩
noncomputable def a_s_StoreOk : An := .d
theorem h_s_StoreOk (x : ((List (List UInt8)) × (List (Int × List UInt8)) × Int × Bool) × ((List ((List UInt8) × (Int × List UInt8) × (Int × List UInt8) × Int × Bool)) × Int × List
 (Int × Int × Int)) × Int × Int) : fnX (P := Tryd.prog) [.see e_s_DevOk, .see e_s_TabOk, .see e_s_l1In] [] (sOf Tryd.prog Tryd.f55) a_s_StoreOk (iOf Tryd.prog Tryd.f55) [(true, .P
 (.P (.L (.L .Y)) (.P (.L (.P (.I .i64) (.L .Y))) (.P (.I .i64) .B))) (.P (.P (.L (.P .S (.P (.P (.I .i64) (.L .Y)) (.P (.P (.I .i64) (.L .Y)) (.P (.I .i64) .B))))) (.P (.I .i64)
 (.L (.P (.I .i64) (.P (.I .i64) (.I .i64)))))) (.P (.I .i64) (.I .i64))))] [(false, .B)] x = F_s_StoreOk x := by kernel_rfl
noncomputable def e_s_StoreOk : SEnt Tryd.prog := ⟨55, [(true, .P (.P (.L (.L .Y)) (.P (.L (.P (.I .i64) (.L .Y))) (.P (.I .i64) .B))) (.P (.P (.L (.P .S (.P (.P (.I .i64) (.L .Y))
 (.P (.P (.I .i64) (.L .Y)) (.P (.I .i64) .B))))) (.P (.I .i64) (.L (.P (.I .i64) (.P (.I .i64) (.I .i64)))))) (.P (.I .i64) (.I .i64))))], [(false, .B)], F_s_StoreOk, runs_see
 mixed_Pc Tryd.func55 (by kernel_rfl) h_s_StoreOk⟩
noncomputable def a_i_DevOk : An := (.sq none .d (.sq none .d (.sq (some [.kt 1]) (.sq none .d (.bl (.lp [.kt 1, .kt 25, .kt 26, .lt 27 (.I .i64)] .d))) (.sq none (.sq none .d (.bl
 (.lp [.kt 1, .kt 36, .kt 37, .lt 38 (.I .i64)] .d))) .d))))
theorem h_i_DevOk (x : (List (List UInt8)) × (List (Int × List UInt8)) × Int × Bool) : fnX (P := Tryd.prog) [.see e_i_within] [] (sOf Tryd.prog Tryd.f107) a_i_DevOk (iOf Tryd.prog
 Tryd.f107) [(true, .P (.L (.L .Y)) (.P (.L (.P (.I .i64) (.L .Y))) (.P (.I .i64) .B)))] [(false, .B)] x = F_i_DevOk x := by kernel_rfl
noncomputable def e_i_DevOk : SEnt Tryd.prog := ⟨107, [(true, .P (.L (.L .Y)) (.P (.L (.P (.I .i64) (.L .Y))) (.P (.I .i64) .B)))], [(false, .B)], F_i_DevOk, runs_see mixed_Pc
 Tryd.func107 (by kernel_rfl) h_i_DevOk⟩
noncomputable def a_i_StoreOk : An := .d
theorem h_i_StoreOk (x : ((List (List UInt8)) × (List (Int × List UInt8)) × Int × Bool) × ((List ((List UInt8) × (Int × List UInt8) × (Int × List UInt8) × Int × Bool)) × Int × List
 (Int × Int × Int)) × Int × Int) : fnX (P := Tryd.prog) [.see e_i_DevOk, .see e_i_TabOk, .see e_i_within] [] (sOf Tryd.prog Tryd.f57) a_i_StoreOk (iOf Tryd.prog Tryd.f57) [(true,
 .P (.P (.L (.L .Y)) (.P (.L (.P (.I .i64) (.L .Y))) (.P (.I .i64) .B))) (.P (.P (.L (.P .S (.P (.P (.I .i64) (.L .Y)) (.P (.P (.I .i64) (.L .Y)) (.P (.I .i64) .B))))) (.P (.I
 .i64) (.L (.P (.I .i64) (.P (.I .i64) (.I .i64)))))) (.P (.I .i64) (.I .i64))))] [(false, .B)] x = F_i_StoreOk x := by kernel_rfl
noncomputable def e_i_StoreOk : SEnt Tryd.prog := ⟨57, [(true, .P (.P (.L (.L .Y)) (.P (.L (.P (.I .i64) (.L .Y))) (.P (.I .i64) .B))) (.P (.P (.L (.P .S (.P (.P (.I .i64) (.L .Y))
 (.P (.P (.I .i64) (.L .Y)) (.P (.I .i64) .B))))) (.P (.I .i64) (.L (.P (.I .i64) (.P (.I .i64) (.I .i64)))))) (.P (.I .i64) (.I .i64))))], [(false, .B)], F_i_StoreOk, runs_see
 mixed_Pc Tryd.func57 (by kernel_rfl) h_i_StoreOk⟩
noncomputable def a_l_eqByteSS : An := (.sq none .d (.sq none .d (.sq none (.sq none .d (.bl (.lp [.kt 0, .kt 1, .lt 5 (.I .i64)] .d))) .d)))
theorem h_l_eqByteSS (x : (List (List UInt8)) × List (List UInt8)) : fnX (P := Tryd.prog) [.see e_l_eqByteS] [] (sOf Tryd.prog Tryd.f130) a_l_eqByteSS (iOf Tryd.prog Tryd.f130)
 [(false, .L (.L .Y)), (false, .L (.L .Y))] [(false, .B)] x = F_l_eqByteSS x := by kernel_rfl
noncomputable def e_l_eqByteSS : SEnt Tryd.prog := ⟨130, [(false, .L (.L .Y)), (false, .L (.L .Y))], [(false, .B)], F_l_eqByteSS, runs_see mixed_Pc Tryd.func130 (by kernel_rfl)
 h_l_eqByteSS⟩
noncomputable def a_l_eqWr : An := .d
theorem h_l_eqWr (x : (Int × List UInt8) × Int × List UInt8) : fnX (P := Tryd.prog) [.see e_l_eqByteS] [] (sOf Tryd.prog Tryd.f138) a_l_eqWr (iOf Tryd.prog Tryd.f138) [(true, .P
 (.I .i64) (.L .Y)), (true, .P (.I .i64) (.L .Y))] [(false, .B)] x = F_l_eqWr x := by kernel_rfl
noncomputable def e_l_eqWr : SEnt Tryd.prog := ⟨138, [(true, .P (.I .i64) (.L .Y)), (true, .P (.I .i64) (.L .Y))], [(false, .B)], F_l_eqWr, runs_see mixed_Pc Tryd.func138 (by
 kernel_rfl) h_l_eqWr⟩
noncomputable def a_l_eqWrS : An := (.sq none .d (.sq none .d (.sq none (.sq none .d (.bl (.lp [.kt 0, .kt 1, .lt 5 (.I .i64)] .d))) .d)))
theorem h_l_eqWrS (x : (List (Int × List UInt8)) × List (Int × List UInt8)) : fnX (P := Tryd.prog) [.see e_l_eqWr] [] (sOf Tryd.prog Tryd.f131) a_l_eqWrS (iOf Tryd.prog Tryd.f131)
 [(false, .L (.P (.I .i64) (.L .Y))), (false, .L (.P (.I .i64) (.L .Y)))] [(false, .B)] x = F_l_eqWrS x := by kernel_rfl
noncomputable def e_l_eqWrS : SEnt Tryd.prog := ⟨131, [(false, .L (.P (.I .i64) (.L .Y))), (false, .L (.P (.I .i64) (.L .Y)))], [(false, .B)], F_l_eqWrS, runs_see mixed_Pc
 Tryd.func131 (by kernel_rfl) h_l_eqWrS⟩
end Go.Vs
