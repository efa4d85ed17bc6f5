import Derived.Test.YtlndmcdpndcgjaaDoorProg
import Derived.Test.YtlndmcdpndcgjaaDoorVsPck5
set_option linter.all false
namespace Go.Vs
open Go.Proofs
set_option maxRecDepth 100000
set_option linter.unusedVariables false
noncomputable def a_s_l11NoRow : An := .d
theorem h_s_l11NoRow (x : (List UInt8) × (Int × List UInt8) × (Int × List UInt8) × Int × Bool) : fnX (P := Tryd.prog) [.see e_s_l9None] [] (sOf Tryd.prog Tryd.f82) a_s_l11NoRow
 (iOf Tryd.prog Tryd.f82) [(true, .P .S (.P (.P (.I .i64) (.L .Y)) (.P (.P (.I .i64) (.L .Y)) (.P (.I .i64) .B))))] [(false, .B)] x = F_s_l11NoRow x := by kernel_rfl
noncomputable def e_s_l11NoRow : SEnt Tryd.prog := ⟨82, [(true, .P .S (.P (.P (.I .i64) (.L .Y)) (.P (.P (.I .i64) (.L .Y)) (.P (.I .i64) .B))))], [(false, .B)], F_s_l11NoRow,
 runs_see mixed_Pc Tryd.func82 (by kernel_rfl) h_s_l11NoRow⟩
noncomputable def a_s_l1Word : An := .d
theorem h_s_l1Word (x : Int) : fnX (P := Tryd.prog) [.see e_s_l1In] [] (sOf Tryd.prog Tryd.f117) a_s_l1Word (iOf Tryd.prog Tryd.f117) [(false, .I .i64)] [(false, .B)] x =
 F_s_l1Word x := by kernel_rfl
noncomputable def e_s_l1Word : SEnt Tryd.prog := ⟨117, [(false, .I .i64)], [(false, .B)], F_s_l1Word, runs_see mixed_Pc Tryd.func117 (by kernel_rfl) h_s_l1Word⟩
noncomputable def a_s_l11Who : An := .d
theorem h_s_l11Who (x : Int × ((List UInt8) × (Int × List UInt8) × (Int × List UInt8) × Int × Bool) × (List UInt8) × Int × Int × Int × Int) : fnX (P := Tryd.prog) [.see e_s_l1In,
 .see e_s_l1Word] [] (sOf Tryd.prog Tryd.f83) a_s_l11Who (iOf Tryd.prog Tryd.f83) [(true, .P (.I .i64) (.P (.P .S (.P (.P (.I .i64) (.L .Y)) (.P (.P (.I .i64) (.L .Y)) (.P (.I
 .i64) .B)))) (.P .S (.P (.I .i64) (.P (.I .i64) (.P (.I .i64) (.I .i64)))))))] [(false, .B)] x = F_s_l11Who x := by kernel_rfl
noncomputable def e_s_l11Who : SEnt Tryd.prog := ⟨83, [(true, .P (.I .i64) (.P (.P .S (.P (.P (.I .i64) (.L .Y)) (.P (.P (.I .i64) (.L .Y)) (.P (.I .i64) .B)))) (.P .S (.P (.I
 .i64) (.P (.I .i64) (.P (.I .i64) (.I .i64)))))))], [(false, .B)], F_s_l11Who, runs_see mixed_Pc Tryd.func83 (by kernel_rfl) h_s_l11Who⟩
noncomputable def a_s_RecOk : An := (.sq none .d (.sq none .d (.sq none .d (.sq none .d (.sq (some [.kt 1, .lt 3 .B, .lt 4 .B, .lt 5 .B]) .d .d)))))
theorem h_s_RecOk (x : Int × ((List UInt8) × (Int × List UInt8) × (Int × List UInt8) × Int × Bool) × (List UInt8) × Int × Int × Int × Int) : fnX (P := Tryd.prog) [.see
 e_s_l11NoRow, .see e_s_RowOk, .see e_s_NameOk, .see e_s_l1In, .see e_s_l11Who] [] (sOf Tryd.prog Tryd.f39) a_s_RecOk (iOf Tryd.prog Tryd.f39) [(true, .P (.I .i64) (.P (.P .S (.P
 (.P (.I .i64) (.L .Y)) (.P (.P (.I .i64) (.L .Y)) (.P (.I .i64) .B)))) (.P .S (.P (.I .i64) (.P (.I .i64) (.P (.I .i64) (.I .i64)))))))] [(false, .B)] x = F_s_RecOk x := by
 kernel_rfl
noncomputable def e_s_RecOk : SEnt Tryd.prog := ⟨39, [(true, .P (.I .i64) (.P (.P .S (.P (.P (.I .i64) (.L .Y)) (.P (.P (.I .i64) (.L .Y)) (.P (.I .i64) .B)))) (.P .S (.P (.I .i64)
 (.P (.I .i64) (.P (.I .i64) (.I .i64)))))))], [(false, .B)], F_s_RecOk, runs_see mixed_Pc Tryd.func39 (by kernel_rfl) h_s_RecOk⟩
noncomputable def a_i_sameRow : An := .d
theorem h_i_sameRow (x : ((List UInt8) × (Int × List UInt8) × (Int × List UInt8) × Int × Bool) × (List UInt8) × (Int × List UInt8) × (Int × List UInt8) × Int × Bool) : fnX (P :=
 Tryd.prog) [.see e_i_sameCell] [] (sOf Tryd.prog Tryd.f84) a_i_sameRow (iOf Tryd.prog Tryd.f84) [(true, .P .S (.P (.P (.I .i64) (.L .Y)) (.P (.P (.I .i64) (.L .Y)) (.P (.I .i64)
 .B)))), (true, .P .S (.P (.P (.I .i64) (.L .Y)) (.P (.P (.I .i64) (.L .Y)) (.P (.I .i64) .B))))] [(false, .B)] x = F_i_sameRow x := by kernel_rfl
noncomputable def e_i_sameRow : SEnt Tryd.prog := ⟨84, [(true, .P .S (.P (.P (.I .i64) (.L .Y)) (.P (.P (.I .i64) (.L .Y)) (.P (.I .i64) .B)))), (true, .P .S (.P (.P (.I .i64) (.L
 .Y)) (.P (.P (.I .i64) (.L .Y)) (.P (.I .i64) .B))))], [(false, .B)], F_i_sameRow, runs_see mixed_Pc Tryd.func84 (by kernel_rfl) h_i_sameRow⟩
noncomputable def a_i_isWord : An := .d
theorem h_i_isWord (x : Int) : fnX (P := Tryd.prog) [.see e_i_within] [] (sOf Tryd.prog Tryd.f85) a_i_isWord (iOf Tryd.prog Tryd.f85) [(false, .I .i64)] [(false, .B)] x =
 F_i_isWord x := by kernel_rfl
noncomputable def e_i_isWord : SEnt Tryd.prog := ⟨85, [(false, .I .i64)], [(false, .B)], F_i_isWord, runs_see mixed_Pc Tryd.func85 (by kernel_rfl) h_i_isWord⟩
noncomputable def a_i_RecOk : An := (.sq none .d (.sq none .d (.sq none .d (.sq (some [.kt 1, .lt 5 .B]) .d .d))))
theorem h_i_RecOk (x : Int × ((List UInt8) × (Int × List UInt8) × (Int × List UInt8) × Int × Bool) × (List UInt8) × Int × Int × Int × Int) : fnX (P := Tryd.prog) [.see e_i_sameRow,
 .see e_i_RowOk, .see e_i_NameOk, .see e_i_within, .see e_i_isWord] [] (sOf Tryd.prog Tryd.f41) a_i_RecOk (iOf Tryd.prog Tryd.f41) [(true, .P (.I .i64) (.P (.P .S (.P (.P (.I
 .i64) (.L .Y)) (.P (.P (.I .i64) (.L .Y)) (.P (.I .i64) .B)))) (.P .S (.P (.I .i64) (.P (.I .i64) (.P (.I .i64) (.I .i64)))))))] [(false, .B)] x = F_i_RecOk x := by kernel_rfl
noncomputable def e_i_RecOk : SEnt Tryd.prog := ⟨41, [(true, .P (.I .i64) (.P (.P .S (.P (.P (.I .i64) (.L .Y)) (.P (.P (.I .i64) (.L .Y)) (.P (.I .i64) .B)))) (.P .S (.P (.I .i64)
 (.P (.I .i64) (.P (.I .i64) (.I .i64)))))))], [(false, .B)], F_i_RecOk, runs_see mixed_Pc Tryd.func41 (by kernel_rfl) h_i_RecOk⟩
noncomputable def a_l_eqRec : An := .d
theorem h_l_eqRec (x : (Int × ((List UInt8) × (Int × List UInt8) × (Int × List UInt8) × Int × Bool) × (List UInt8) × Int × Int × Int × Int) × Int × ((List UInt8) × (Int × List
 UInt8) × (Int × List UInt8) × Int × Bool) × (List UInt8) × Int × Int × Int × Int) : fnX (P := Tryd.prog) [.see e_l_eqRow] [] (sOf Tryd.prog Tryd.f42) a_l_eqRec (iOf Tryd.prog
 Tryd.f42) [(true, .P (.I .i64) (.P (.P .S (.P (.P (.I .i64) (.L .Y)) (.P (.P (.I .i64) (.L .Y)) (.P (.I .i64) .B)))) (.P .S (.P (.I .i64) (.P (.I .i64) (.P (.I .i64) (.I
 .i64))))))), (true, .P (.I .i64) (.P (.P .S (.P (.P (.I .i64) (.L .Y)) (.P (.P (.I .i64) (.L .Y)) (.P (.I .i64) .B)))) (.P .S (.P (.I .i64) (.P (.I .i64) (.P (.I .i64) (.I
 .i64)))))))] [(false, .B)] x = F_l_eqRec x := by kernel_rfl
noncomputable def e_l_eqRec : SEnt Tryd.prog := ⟨42, [(true, .P (.I .i64) (.P (.P .S (.P (.P (.I .i64) (.L .Y)) (.P (.P (.I .i64) (.L .Y)) (.P (.I .i64) .B)))) (.P .S (.P (.I .i64)
 (.P (.I .i64) (.P (.I .i64) (.I .i64))))))), (true, .P (.I .i64) (.P (.P .S (.P (.P (.I .i64) (.L .Y)) (.P (.P (.I .i64) (.L .Y)) (.P (.I .i64) .B)))) (.P .S (.P (.I .i64) (.P
 (.I .i64) (.P (.I .i64) (.I .i64)))))))], [(false, .B)], F_l_eqRec, runs_see mixed_Pc Tryd.func42 (by kernel_rfl) h_l_eqRec⟩
noncomputable def a_s_GetW : An := .d
theorem h_s_GetW (x : (List UInt8) × Int) : fnX (P := Tryd.prog) [.see e_s_l1In] [] (sOf Tryd.prog Tryd.f98) a_s_GetW (iOf Tryd.prog Tryd.f98) [(false, .L .Y), (false, .I .i64)]
 [(false, .I .i64), (false, .I .i64), (false, .B)] x = F_s_GetW x := by kernel_rfl
noncomputable def e_s_GetW : SEnt Tryd.prog := ⟨98, [(false, .L .Y), (false, .I .i64)], [(false, .I .i64), (false, .I .i64), (false, .B)], F_s_GetW, runs_see mixed_Pc Tryd.func98
 (by kernel_rfl) h_s_GetW⟩
end Go.Vs
