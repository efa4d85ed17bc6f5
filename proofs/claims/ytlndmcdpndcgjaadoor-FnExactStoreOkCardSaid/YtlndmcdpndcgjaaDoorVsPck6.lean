import Derived.Test.YtlndmcdpndcgjaaDoorProg
import Derived.Test.YtlndmcdpndcgjaaDoorVsPck5
set_option linter.all false
namespace Go.Vs
open Go.Proofs
set_option maxRecDepth 100000
set_option linter.unusedVariables false
noncomputable def a_s_l1Word : An := .d
theorem h_s_l1Word (x : Int) : fnX (P := Tryd.prog) [.see e_s_l1In] [] (sOf Tryd.prog Tryd.f117) a_s_l1Word (iOf Tryd.prog Tryd.f117) [(false, .I .i64)] [(false, .B)] x =
 F_s_l1Word x := by kernel_rfl
noncomputable def e_s_l1Word : SEnt Tryd.prog := ⟨117, [(false, .I .i64)], [(false, .B)], F_s_l1Word, runs_see mixed_Pc Tryd.func117 (by kernel_rfl) h_s_l1Word⟩
noncomputable def a_i_isWord : An := .d
theorem h_i_isWord (x : Int) : fnX (P := Tryd.prog) [.see e_i_within] [] (sOf Tryd.prog Tryd.f85) a_i_isWord (iOf Tryd.prog Tryd.f85) [(false, .I .i64)] [(false, .B)] x =
 F_i_isWord x := by kernel_rfl
noncomputable def e_i_isWord : SEnt Tryd.prog := ⟨85, [(false, .I .i64)], [(false, .B)], F_i_isWord, runs_see mixed_Pc Tryd.func85 (by kernel_rfl) h_i_isWord⟩
end Go.Vs
