import Derived.Test.YtlndmcdpndcgjaaDoorProg
import Derived.Test.YtlndmcdpndcgjaaDoorVsPck5
set_option linter.all false
namespace Go.Vs
open Go.Proofs
set_option maxRecDepth 100000
set_option linter.unusedVariables false
noncomputable def a_s_GetW : An := .d
theorem h_s_GetW (x : (List UInt8) × Int) : fnX (P := Tryd.prog) [.see e_s_l1In] [] (sOf Tryd.prog Tryd.f98) a_s_GetW (iOf Tryd.prog Tryd.f98) [(false, .L .Y), (false, .I .i64)]
  [(false, .I .i64), (false, .I .i64), (false, .B)] x = F_s_GetW x := by kernel_rfl
noncomputable def e_s_GetW : SEnt Tryd.prog := ⟨98, [(false, .L .Y), (false, .I .i64)], [(false, .I .i64), (false, .I .i64), (false, .B)], F_s_GetW, runs_see mixed_Pc Tryd.func98
  (by kernel_rfl) h_s_GetW⟩
end Go.Vs
