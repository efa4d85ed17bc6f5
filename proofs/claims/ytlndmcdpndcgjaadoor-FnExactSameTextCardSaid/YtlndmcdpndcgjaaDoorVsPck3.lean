import Derived.Test.YtlndmcdpndcgjaaDoorProg
import Derived.Test.YtlndmcdpndcgjaaDoorVsPck2
set_option linter.all false
namespace Go.Vs
open Go.Proofs
set_option maxRecDepth 100000
set_option linter.unusedVariables false
noncomputable def a_l_eqByteS : An := (.sq none .d (.sq none .d (.sq none (.sq none .d (.bl (.lp [.kt 0, .kt 1, .lt 5 (.I .i64)] .d))) .d)))
theorem h_l_eqByteS (x : (List UInt8) × List UInt8) : fnX (P := Tryd.prog) [] [] (sOf Tryd.prog Tryd.f35) a_l_eqByteS (iOf Tryd.prog Tryd.f35) [(false, .L .Y), (false, .L .Y)]
  [(false, .B)] x = F_l_eqByteS x := by kernel_rfl
noncomputable def e_l_eqByteS : SEnt Tryd.prog := ⟨35, [(false, .L .Y), (false, .L .Y)], [(false, .B)], F_l_eqByteS, runs_see mixed_Pc Tryd.func35 (by kernel_rfl) h_l_eqByteS⟩
noncomputable def a_l_eqCell : An := .d
theorem h_l_eqCell (x : (Int × List UInt8) × Int × List UInt8) : fnX (P := Tryd.prog) [.see e_l_eqByteS] [] (sOf Tryd.prog Tryd.f18) a_l_eqCell (iOf Tryd.prog Tryd.f18) [(true, .P
  (.I .i64) (.L .Y)), (true, .P (.I .i64) (.L .Y))] [(false, .B)] x = F_l_eqCell x := by kernel_rfl
noncomputable def e_l_eqCell : SEnt Tryd.prog := ⟨18, [(true, .P (.I .i64) (.L .Y)), (true, .P (.I .i64) (.L .Y))], [(false, .B)], F_l_eqCell, runs_see mixed_Pc Tryd.func18 (by
  kernel_rfl) h_l_eqCell⟩
noncomputable def a_l_FnExactSameText : An := .d
theorem h_l_FnExactSameText (x : (Int × List UInt8) × Int × List UInt8) : fnX (P := Tryd.prog) [.see e_l_szCell, .see e_l_toCell, .see e_s_SameText, .see e_i_SameText, .see
  e_l_eqCell] [] (sOf Tryd.prog Tryd.f3) a_l_FnExactSameText (iOf Tryd.prog Tryd.f3) [(true, .P (.I .i64) (.L .Y)), (true, .P (.I .i64) (.L .Y))] [(false, .B)] x =
  F_l_FnExactSameText x := by kernel_rfl
noncomputable def e_l_FnExactSameText : SEnt Tryd.prog := ⟨3, [(true, .P (.I .i64) (.L .Y)), (true, .P (.I .i64) (.L .Y))], [(false, .B)], F_l_FnExactSameText, runs_see mixed_Pc
  Tryd.func3 (by kernel_rfl) h_l_FnExactSameText⟩
end Go.Vs
