import Derived.Test.YtboohaconpkhaaaDoorProg
import Derived.Test.YtboohaconpkhaaaDoorVsPr
set_option linter.all false
namespace Go.Vs
open Go.Proofs
set_option maxRecDepth 100000
set_option linter.unusedVariables false
theorem mixed_Pr : Tryd.prog.follows .mixedOrders = true := by kernel_rfl
noncomputable def a_l_szByteS : An := .d
theorem h_l_szByteS (x : (List UInt8) × Int) : fnX (P := Tryd.prog) [] [] (sOf Tryd.prog Tryd.f70) a_l_szByteS (iOf Tryd.prog Tryd.f70) [(false, .L .Y), (false, .I .i64)] [(false,
 .I .i64)] x = F_l_szByteS x := by kernel_rfl
noncomputable def e_l_szByteS : SEnt Tryd.prog := ⟨70, [(false, .L .Y), (false, .I .i64)], [(false, .I .i64)], F_l_szByteS, runs_see mixed_Pr Tryd.func70 (by kernel_rfl)
 h_l_szByteS⟩
noncomputable def a_l_szCell : An := .d
theorem h_l_szCell (x : (Int × List UInt8) × Int) : fnX (P := Tryd.prog) [.see e_l_szByteS] [] (sOf Tryd.prog Tryd.f28) a_l_szCell (iOf Tryd.prog Tryd.f28) [(true, .P (.I .i64) (.L
 .Y)), (false, .I .i64)] [(false, .I .i64)] x = F_l_szCell x := by kernel_rfl
noncomputable def e_l_szCell : SEnt Tryd.prog := ⟨28, [(true, .P (.I .i64) (.L .Y)), (false, .I .i64)], [(false, .I .i64)], F_l_szCell, runs_see mixed_Pr Tryd.func28 (by
 kernel_rfl) h_l_szCell⟩
noncomputable def a_l_szRow : An := .d
theorem h_l_szRow (x : ((List UInt8) × (Int × List UInt8) × (Int × List UInt8) × Int × Bool) × Int) : fnX (P := Tryd.prog) [.see e_l_szCell] [] (sOf Tryd.prog Tryd.f47) a_l_szRow
 (iOf Tryd.prog Tryd.f47) [(true, .P .S (.P (.P (.I .i64) (.L .Y)) (.P (.P (.I .i64) (.L .Y)) (.P (.I .i64) .B)))), (false, .I .i64)] [(false, .I .i64)] x = F_l_szRow x := by
 kernel_rfl
noncomputable def e_l_szRow : SEnt Tryd.prog := ⟨47, [(true, .P .S (.P (.P (.I .i64) (.L .Y)) (.P (.P (.I .i64) (.L .Y)) (.P (.I .i64) .B)))), (false, .I .i64)], [(false, .I
 .i64)], F_l_szRow, runs_see mixed_Pr Tryd.func47 (by kernel_rfl) h_l_szRow⟩
noncomputable def a_l_szRec : An := .d
theorem h_l_szRec (x : (Int × ((List UInt8) × (Int × List UInt8) × (Int × List UInt8) × Int × Bool) × (List UInt8) × Int × Int × Int × Int) × Int) : fnX (P := Tryd.prog) [.see
 e_l_szRow] [] (sOf Tryd.prog Tryd.f38) a_l_szRec (iOf Tryd.prog Tryd.f38) [(true, .P (.I .i64) (.P (.P .S (.P (.P (.I .i64) (.L .Y)) (.P (.P (.I .i64) (.L .Y)) (.P (.I .i64)
 .B)))) (.P .S (.P (.I .i64) (.P (.I .i64) (.P (.I .i64) (.I .i64))))))), (false, .I .i64)] [(false, .I .i64)] x = F_l_szRec x := by kernel_rfl
noncomputable def e_l_szRec : SEnt Tryd.prog := ⟨38, [(true, .P (.I .i64) (.P (.P .S (.P (.P (.I .i64) (.L .Y)) (.P (.P (.I .i64) (.L .Y)) (.P (.I .i64) .B)))) (.P .S (.P (.I .i64)
 (.P (.I .i64) (.P (.I .i64) (.I .i64))))))), (false, .I .i64)], [(false, .I .i64)], F_l_szRec, runs_see mixed_Pr Tryd.func38 (by kernel_rfl) h_l_szRec⟩
noncomputable def a_l_toByteS : An := (.sq none .d (.sq none .d (.sq (some [.sr 3 .Y]) (.sq none .d (.bl (.lp [.kt 0, .sr 3 .Y, .lt 4 (.I .i64)] .d))) .d)))
theorem h_l_toByteS (x : List UInt8) : fnX (P := Tryd.prog) [] [(7, .el .Y)] (sOf Tryd.prog Tryd.f72) a_l_toByteS (iOf Tryd.prog Tryd.f72) [(false, .L .Y)] [(false, .L .Y)] x =
 F_l_toByteS x := by kernel_rfl
noncomputable def e_l_toByteS : SEnt Tryd.prog := ⟨72, [(false, .L .Y)], [(false, .L .Y)], F_l_toByteS, runs_see mixed_Pr Tryd.func72 (by kernel_rfl) h_l_toByteS⟩
noncomputable def a_l_toCell : An := .d
theorem h_l_toCell (x : Int × List UInt8) : fnX (P := Tryd.prog) [.see e_l_toByteS] [] (sOf Tryd.prog Tryd.f30) a_l_toCell (iOf Tryd.prog Tryd.f30) [(true, .P (.I .i64) (.L .Y))]
 [(true, .P (.I .i64) (.L .Y))] x = F_l_toCell x := by kernel_rfl
noncomputable def e_l_toCell : SEnt Tryd.prog := ⟨30, [(true, .P (.I .i64) (.L .Y))], [(true, .P (.I .i64) (.L .Y))], F_l_toCell, runs_see mixed_Pr Tryd.func30 (by kernel_rfl)
 h_l_toCell⟩
noncomputable def a_l_toRow : An := .d
theorem h_l_toRow (x : (List UInt8) × (Int × List UInt8) × (Int × List UInt8) × Int × Bool) : fnX (P := Tryd.prog) [.see e_l_toCell] [] (sOf Tryd.prog Tryd.f49) a_l_toRow (iOf
 Tryd.prog Tryd.f49) [(true, .P .S (.P (.P (.I .i64) (.L .Y)) (.P (.P (.I .i64) (.L .Y)) (.P (.I .i64) .B))))] [(true, .P .S (.P (.P (.I .i64) (.L .Y)) (.P (.P (.I .i64) (.L .Y))
 (.P (.I .i64) .B))))] x = F_l_toRow x := by kernel_rfl
noncomputable def e_l_toRow : SEnt Tryd.prog := ⟨49, [(true, .P .S (.P (.P (.I .i64) (.L .Y)) (.P (.P (.I .i64) (.L .Y)) (.P (.I .i64) .B))))], [(true, .P .S (.P (.P (.I .i64) (.L
 .Y)) (.P (.P (.I .i64) (.L .Y)) (.P (.I .i64) .B))))], F_l_toRow, runs_see mixed_Pr Tryd.func49 (by kernel_rfl) h_l_toRow⟩
noncomputable def a_l_toRec : An := .d
theorem h_l_toRec (x : Int × ((List UInt8) × (Int × List UInt8) × (Int × List UInt8) × Int × Bool) × (List UInt8) × Int × Int × Int × Int) : fnX (P := Tryd.prog) [.see e_l_toRow]
 [] (sOf Tryd.prog Tryd.f40) a_l_toRec (iOf Tryd.prog Tryd.f40) [(true, .P (.I .i64) (.P (.P .S (.P (.P (.I .i64) (.L .Y)) (.P (.P (.I .i64) (.L .Y)) (.P (.I .i64) .B)))) (.P .S
 (.P (.I .i64) (.P (.I .i64) (.P (.I .i64) (.I .i64)))))))] [(true, .P (.I .i64) (.P (.P .S (.P (.P (.I .i64) (.L .Y)) (.P (.P (.I .i64) (.L .Y)) (.P (.I .i64) .B)))) (.P .S (.P
 (.I .i64) (.P (.I .i64) (.P (.I .i64) (.I .i64)))))))] x = F_l_toRec x := by kernel_rfl
noncomputable def e_l_toRec : SEnt Tryd.prog := ⟨40, [(true, .P (.I .i64) (.P (.P .S (.P (.P (.I .i64) (.L .Y)) (.P (.P (.I .i64) (.L .Y)) (.P (.I .i64) .B)))) (.P .S (.P (.I .i64)
 (.P (.I .i64) (.P (.I .i64) (.I .i64)))))))], [(true, .P (.I .i64) (.P (.P .S (.P (.P (.I .i64) (.L .Y)) (.P (.P (.I .i64) (.L .Y)) (.P (.I .i64) .B)))) (.P .S (.P (.I .i64) (.P
 (.I .i64) (.P (.I .i64) (.I .i64)))))))], F_l_toRec, runs_see mixed_Pr Tryd.func40 (by kernel_rfl) h_l_toRec⟩
noncomputable def a_s_l9None : An := .d
theorem h_s_l9None (x : Int × List UInt8) : fnX (P := Tryd.prog) [] [] (sOf Tryd.prog Tryd.f121) a_s_l9None (iOf Tryd.prog Tryd.f121) [(true, .P (.I .i64) (.L .Y))] [(false, .B)] x
 = F_s_l9None x := by kernel_rfl
noncomputable def e_s_l9None : SEnt Tryd.prog := ⟨121, [(true, .P (.I .i64) (.L .Y))], [(false, .B)], F_s_l9None, runs_see mixed_Pr Tryd.func121 (by kernel_rfl) h_s_l9None⟩
noncomputable def a_s_l11NoRow : An := .d
theorem h_s_l11NoRow (x : (List UInt8) × (Int × List UInt8) × (Int × List UInt8) × Int × Bool) : fnX (P := Tryd.prog) [.see e_s_l9None] [] (sOf Tryd.prog Tryd.f114) a_s_l11NoRow
 (iOf Tryd.prog Tryd.f114) [(true, .P .S (.P (.P (.I .i64) (.L .Y)) (.P (.P (.I .i64) (.L .Y)) (.P (.I .i64) .B))))] [(false, .B)] x = F_s_l11NoRow x := by kernel_rfl
noncomputable def e_s_l11NoRow : SEnt Tryd.prog := ⟨114, [(true, .P .S (.P (.P (.I .i64) (.L .Y)) (.P (.P (.I .i64) (.L .Y)) (.P (.I .i64) .B))))], [(false, .B)], F_s_l11NoRow,
 runs_see mixed_Pr Tryd.func114 (by kernel_rfl) h_s_l11NoRow⟩
noncomputable def a_s_l1In : An := .d
theorem h_s_l1In (x : Int × Int × Int) : fnX (P := Tryd.prog) [] [] (sOf Tryd.prog Tryd.f60) a_s_l1In (iOf Tryd.prog Tryd.f60) [(false, .I .i64), (false, .I .i64), (false, .I
 .i64)] [(false, .B)] x = F_s_l1In x := by kernel_rfl
noncomputable def e_s_l1In : SEnt Tryd.prog := ⟨60, [(false, .I .i64), (false, .I .i64), (false, .I .i64)], [(false, .B)], F_s_l1In, runs_see mixed_Pr Tryd.func60 (by kernel_rfl)
 h_s_l1In⟩
noncomputable def a_s_NameOk : An := (.sq none .d (.sq (some [.kt 0]) (.sq none .d (.bl (.lp [.kt 0, .lt 3 (.I .i64)] .d))) .d))
theorem h_s_NameOk (x : List UInt8) : fnX (P := Tryd.prog) [.see e_s_l1In] [] (sOf Tryd.prog Tryd.f61) a_s_NameOk (iOf Tryd.prog Tryd.f61) [(false, .S)] [(false, .B)] x =
 F_s_NameOk x := by kernel_rfl
noncomputable def e_s_NameOk : SEnt Tryd.prog := ⟨61, [(false, .S)], [(false, .B)], F_s_NameOk, runs_see mixed_Pr Tryd.func61 (by kernel_rfl) h_s_NameOk⟩
noncomputable def a_s_l9Old : An := .d
theorem h_s_l9Old (x : (List UInt8) × (Int × List UInt8) × (Int × List UInt8) × Int × Bool) : fnX (P := Tryd.prog) [] [] (sOf Tryd.prog Tryd.f117) a_s_l9Old (iOf Tryd.prog
 Tryd.f117) [(true, .P .S (.P (.P (.I .i64) (.L .Y)) (.P (.P (.I .i64) (.L .Y)) (.P (.I .i64) .B))))] [(false, .B)] x = F_s_l9Old x := by kernel_rfl
noncomputable def e_s_l9Old : SEnt Tryd.prog := ⟨117, [(true, .P .S (.P (.P (.I .i64) (.L .Y)) (.P (.P (.I .i64) (.L .Y)) (.P (.I .i64) .B))))], [(false, .B)], F_s_l9Old, runs_see
 mixed_Pr Tryd.func117 (by kernel_rfl) h_s_l9Old⟩
noncomputable def a_s_l9New : An := .d
theorem h_s_l9New (x : (List UInt8) × (Int × List UInt8) × (Int × List UInt8) × Int × Bool) : fnX (P := Tryd.prog) [] [] (sOf Tryd.prog Tryd.f93) a_s_l9New (iOf Tryd.prog Tryd.f93)
 [(true, .P .S (.P (.P (.I .i64) (.L .Y)) (.P (.P (.I .i64) (.L .Y)) (.P (.I .i64) .B))))] [(false, .B)] x = F_s_l9New x := by kernel_rfl
noncomputable def e_s_l9New : SEnt Tryd.prog := ⟨93, [(true, .P .S (.P (.P (.I .i64) (.L .Y)) (.P (.P (.I .i64) (.L .Y)) (.P (.I .i64) .B))))], [(false, .B)], F_s_l9New, runs_see
 mixed_Pr Tryd.func93 (by kernel_rfl) h_s_l9New⟩
end Go.Vs
