import Derived.Test.YtlndmcdpndcgjaaDoorProg
import Derived.Test.YtlndmcdpndcgjaaDoorVsPck10
set_option linter.all false
namespace Go.Vs
open Go.Proofs
set_option maxRecDepth 100000
set_option linter.unusedVariables false
noncomputable def a_l_eqDev : An := .d
theorem h_l_eqDev (x : ((List (List UInt8)) × (List (Int × List UInt8)) × Int × Bool) × (List (List UInt8)) × (List (Int × List UInt8)) × Int × Bool) : fnX (P := Tryd.prog) [.see
 e_l_eqByteSS, .see e_l_eqWrS] [] (sOf Tryd.prog Tryd.f108) a_l_eqDev (iOf Tryd.prog Tryd.f108) [(true, .P (.L (.L .Y)) (.P (.L (.P (.I .i64) (.L .Y))) (.P (.I .i64) .B))), (true,
 .P (.L (.L .Y)) (.P (.L (.P (.I .i64) (.L .Y))) (.P (.I .i64) .B)))] [(false, .B)] x = F_l_eqDev x := by kernel_rfl
noncomputable def e_l_eqDev : SEnt Tryd.prog := ⟨108, [(true, .P (.L (.L .Y)) (.P (.L (.P (.I .i64) (.L .Y))) (.P (.I .i64) .B))), (true, .P (.L (.L .Y)) (.P (.L (.P (.I .i64) (.L
 .Y))) (.P (.I .i64) .B)))], [(false, .B)], F_l_eqDev, runs_see mixed_Pc Tryd.func108 (by kernel_rfl) h_l_eqDev⟩
noncomputable def a_l_eqStore : An := .d
theorem h_l_eqStore (x : (((List (List UInt8)) × (List (Int × List UInt8)) × Int × Bool) × ((List ((List UInt8) × (Int × List UInt8) × (Int × List UInt8) × Int × Bool)) × Int ×
 List (Int × Int × Int)) × Int × Int) × ((List (List UInt8)) × (List (Int × List UInt8)) × Int × Bool) × ((List ((List UInt8) × (Int × List UInt8) × (Int × List UInt8) × Int ×
 Bool)) × Int × List (Int × Int × Int)) × Int × Int) : fnX (P := Tryd.prog) [.see e_l_eqDev, .see e_l_eqTab] [] (sOf Tryd.prog Tryd.f58) a_l_eqStore (iOf Tryd.prog Tryd.f58)
 [(true, .P (.P (.L (.L .Y)) (.P (.L (.P (.I .i64) (.L .Y))) (.P (.I .i64) .B))) (.P (.P (.L (.P .S (.P (.P (.I .i64) (.L .Y)) (.P (.P (.I .i64) (.L .Y)) (.P (.I .i64) .B))))) (.P
 (.I .i64) (.L (.P (.I .i64) (.P (.I .i64) (.I .i64)))))) (.P (.I .i64) (.I .i64)))), (true, .P (.P (.L (.L .Y)) (.P (.L (.P (.I .i64) (.L .Y))) (.P (.I .i64) .B))) (.P (.P (.L
 (.P .S (.P (.P (.I .i64) (.L .Y)) (.P (.P (.I .i64) (.L .Y)) (.P (.I .i64) .B))))) (.P (.I .i64) (.L (.P (.I .i64) (.P (.I .i64) (.I .i64)))))) (.P (.I .i64) (.I .i64))))]
 [(false, .B)] x = F_l_eqStore x := by kernel_rfl
noncomputable def e_l_eqStore : SEnt Tryd.prog := ⟨58, [(true, .P (.P (.L (.L .Y)) (.P (.L (.P (.I .i64) (.L .Y))) (.P (.I .i64) .B))) (.P (.P (.L (.P .S (.P (.P (.I .i64) (.L .Y))
 (.P (.P (.I .i64) (.L .Y)) (.P (.I .i64) .B))))) (.P (.I .i64) (.L (.P (.I .i64) (.P (.I .i64) (.I .i64)))))) (.P (.I .i64) (.I .i64)))), (true, .P (.P (.L (.L .Y)) (.P (.L (.P
 (.I .i64) (.L .Y))) (.P (.I .i64) .B))) (.P (.P (.L (.P .S (.P (.P (.I .i64) (.L .Y)) (.P (.P (.I .i64) (.L .Y)) (.P (.I .i64) .B))))) (.P (.I .i64) (.L (.P (.I .i64) (.P (.I
 .i64) (.I .i64)))))) (.P (.I .i64) (.I .i64))))], [(false, .B)], F_l_eqStore, runs_see mixed_Pc Tryd.func58 (by kernel_rfl) h_l_eqStore⟩
noncomputable def a_l_FnExactStoreOk : An := .d
theorem h_l_FnExactStoreOk (x : ((List (List UInt8)) × (List (Int × List UInt8)) × Int × Bool) × ((List ((List UInt8) × (Int × List UInt8) × (Int × List UInt8) × Int × Bool)) × Int
 × List (Int × Int × Int)) × Int × Int) : fnX (P := Tryd.prog) [.see e_l_szStore, .see e_l_toStore, .see e_s_StoreOk, .see e_i_StoreOk, .see e_l_eqStore] [] (sOf Tryd.prog
 Tryd.f13) a_l_FnExactStoreOk (iOf Tryd.prog Tryd.f13) [(true, .P (.P (.L (.L .Y)) (.P (.L (.P (.I .i64) (.L .Y))) (.P (.I .i64) .B))) (.P (.P (.L (.P .S (.P (.P (.I .i64) (.L
 .Y)) (.P (.P (.I .i64) (.L .Y)) (.P (.I .i64) .B))))) (.P (.I .i64) (.L (.P (.I .i64) (.P (.I .i64) (.I .i64)))))) (.P (.I .i64) (.I .i64))))] [(false, .B)] x =
 F_l_FnExactStoreOk x := by kernel_rfl
noncomputable def e_l_FnExactStoreOk : SEnt Tryd.prog := ⟨13, [(true, .P (.P (.L (.L .Y)) (.P (.L (.P (.I .i64) (.L .Y))) (.P (.I .i64) .B))) (.P (.P (.L (.P .S (.P (.P (.I .i64)
 (.L .Y)) (.P (.P (.I .i64) (.L .Y)) (.P (.I .i64) .B))))) (.P (.I .i64) (.L (.P (.I .i64) (.P (.I .i64) (.I .i64)))))) (.P (.I .i64) (.I .i64))))], [(false, .B)],
 F_l_FnExactStoreOk, runs_see mixed_Pc Tryd.func13 (by kernel_rfl) h_l_FnExactStoreOk⟩
end Go.Vs
