import Derived.Test.YtlndmcdpndcgjaaDoorProg
import Derived.Test.YtlndmcdpndcgjaaDoorVsPck8
set_option linter.all false
namespace Go.Vs
open Go.Proofs
set_option maxRecDepth 100000
set_option linter.unusedVariables false
noncomputable def a_l_FnExactTabOk : An := .d
theorem h_l_FnExactTabOk (x : (List ((List UInt8) × (Int × List UInt8) × (Int × List UInt8) × Int × Bool)) × Int × List (Int × Int × Int)) : fnX (P := Tryd.prog) [.see e_l_szTab,
  .see e_l_toTab, .see e_s_TabOk, .see e_i_TabOk, .see e_l_eqTab] [] (sOf Tryd.prog Tryd.f11) a_l_FnExactTabOk (iOf Tryd.prog Tryd.f11) [(true, .P (.L (.P .S (.P (.P (.I .i64) (.L
  .Y)) (.P (.P (.I .i64) (.L .Y)) (.P (.I .i64) .B))))) (.P (.I .i64) (.L (.P (.I .i64) (.P (.I .i64) (.I .i64))))))] [(false, .B)] x = F_l_FnExactTabOk x := by kernel_rfl
noncomputable def e_l_FnExactTabOk : SEnt Tryd.prog := ⟨11, [(true, .P (.L (.P .S (.P (.P (.I .i64) (.L .Y)) (.P (.P (.I .i64) (.L .Y)) (.P (.I .i64) .B))))) (.P (.I .i64) (.L (.P
  (.I .i64) (.P (.I .i64) (.I .i64))))))], [(false, .B)], F_l_FnExactTabOk, runs_see mixed_Pc Tryd.func11 (by kernel_rfl) h_l_FnExactTabOk⟩
end Go.Vs
