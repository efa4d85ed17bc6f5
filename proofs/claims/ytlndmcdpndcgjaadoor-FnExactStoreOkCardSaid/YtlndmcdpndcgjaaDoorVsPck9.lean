import Derived.Test.YtlndmcdpndcgjaaDoorProg
import Derived.Test.YtlndmcdpndcgjaaDoorVsPck8
set_option linter.all false
namespace Go.Vs
open Go.Proofs
set_option maxRecDepth 100000
set_option linter.unusedVariables false
noncomputable def a_l_szByteSS : An := (.sq none .d (.sq none .d (.sq none .d (.sq (some [.lt 1 (.I .i64)]) (.sq none .d (.bl (.lp [.kt 0, .lt 1 (.I .i64), .lt 5 (.I .i64)] .d)))
 .d))))
theorem h_l_szByteSS (x : (List (List UInt8)) × Int) : fnX (P := Tryd.prog) [.see e_l_szByteS] [] (sOf Tryd.prog Tryd.f126) a_l_szByteSS (iOf Tryd.prog Tryd.f126) [(false, .L (.L
 .Y)), (false, .I .i64)] [(false, .I .i64)] x = F_l_szByteSS x := by kernel_rfl
noncomputable def e_l_szByteSS : SEnt Tryd.prog := ⟨126, [(false, .L (.L .Y)), (false, .I .i64)], [(false, .I .i64)], F_l_szByteSS, runs_see mixed_Pc Tryd.func126 (by kernel_rfl)
 h_l_szByteSS⟩
noncomputable def a_l_szWr : An := .d
theorem h_l_szWr (x : (Int × List UInt8) × Int) : fnX (P := Tryd.prog) [.see e_l_szByteS] [] (sOf Tryd.prog Tryd.f136) a_l_szWr (iOf Tryd.prog Tryd.f136) [(true, .P (.I .i64) (.L
 .Y)), (false, .I .i64)] [(false, .I .i64)] x = F_l_szWr x := by kernel_rfl
noncomputable def e_l_szWr : SEnt Tryd.prog := ⟨136, [(true, .P (.I .i64) (.L .Y)), (false, .I .i64)], [(false, .I .i64)], F_l_szWr, runs_see mixed_Pc Tryd.func136 (by kernel_rfl)
 h_l_szWr⟩
noncomputable def a_l_szWrS : An := (.sq none .d (.sq none .d (.sq none .d (.sq (some [.lt 1 (.I .i64)]) (.sq none .d (.bl (.lp [.kt 0, .lt 1 (.I .i64), .lt 5 (.I .i64)] .d)))
 .d))))
theorem h_l_szWrS (x : (List (Int × List UInt8)) × Int) : fnX (P := Tryd.prog) [.see e_l_szWr] [] (sOf Tryd.prog Tryd.f127) a_l_szWrS (iOf Tryd.prog Tryd.f127) [(false, .L (.P (.I
 .i64) (.L .Y))), (false, .I .i64)] [(false, .I .i64)] x = F_l_szWrS x := by kernel_rfl
noncomputable def e_l_szWrS : SEnt Tryd.prog := ⟨127, [(false, .L (.P (.I .i64) (.L .Y))), (false, .I .i64)], [(false, .I .i64)], F_l_szWrS, runs_see mixed_Pc Tryd.func127 (by
 kernel_rfl) h_l_szWrS⟩
end Go.Vs
