import Derived.Test.YtboohaconpkhaaaDoorProg
import Derived.Test.YtboohaconpkhaaaDoorVsPrk3
set_option linter.all false
namespace Go.Vs
open Go.Proofs
set_option maxRecDepth 100000
set_option linter.unusedVariables false
noncomputable def a_i_signIn : An := .d
theorem h_i_signIn (x : Int × (List UInt8) × Int) : fnX (P := Tryd.prog) [.see e_i_GetSign, .see e_i_EucSign, .see e_i_ByteSign] [] (sOf Tryd.prog Tryd.f107) a_i_signIn (iOf
 Tryd.prog Tryd.f107) [(false, .I .i64), (false, .L .Y), (false, .I .i64)] [(false, .I .i64), (false, .I .i64), (false, .B)] x = F_i_signIn x := by kernel_rfl
noncomputable def e_i_signIn : SEnt Tryd.prog := ⟨107, [(false, .I .i64), (false, .L .Y), (false, .I .i64)], [(false, .I .i64), (false, .I .i64), (false, .B)], F_i_signIn, runs_see
 mixed_Pr Tryd.func107 (by kernel_rfl) h_i_signIn⟩
noncomputable def a_i_joined : An := (.sq none .d (.sq none .d (.sq (some [.ot 3 .Y]) (.sq none .d (.bl (.lp [.ot 3 .Y, .kt 7, .kt 8, .lt 9 (.I .i64)] .d))) .d)))
theorem h_i_joined (x : List (List UInt8)) : fnX (P := Tryd.prog) [] [(6, .el .Y), (15, .el .Y)] (sOf Tryd.prog Tryd.f111) a_i_joined (iOf Tryd.prog Tryd.f111) [(false, .L (.L
 .Y))] [(false, .L .Y)] x = F_i_joined x := by kernel_rfl
noncomputable def e_i_joined : SEnt Tryd.prog := ⟨111, [(false, .L (.L .Y))], [(false, .L .Y)], F_i_joined, runs_see mixed_Pr Tryd.func111 (by kernel_rfl) h_i_joined⟩
noncomputable def a_i_SignOk : An := .d
theorem h_i_SignOk (x : Int) : fnX (P := Tryd.prog) [.see e_i_within] [] (sOf Tryd.prog Tryd.f137) a_i_SignOk (iOf Tryd.prog Tryd.f137) [(false, .I .i64)] [(false, .B)] x =
 F_i_SignOk x := by kernel_rfl
noncomputable def e_i_SignOk : SEnt Tryd.prog := ⟨137, [(false, .I .i64)], [(false, .B)], F_i_SignOk, runs_see mixed_Pr Tryd.func137 (by kernel_rfl) h_i_SignOk⟩
noncomputable def a_utf8_appendRuneNonASCII : An := (.sq none .d (.sq none .d (.bl (.sq none .d (.cd .d (.sq (some [.kt 0, .kt 1, .kt 5, .lt 25 .B]) .d .d))))))
theorem h_utf8_appendRuneNonASCII (x : (List UInt8) × Int) : fnG (P := Tryd.prog) [] [(23, .el .Y), (24, .el .Y), (48, .el .Y), (49, .el .Y), (76, .el .Y), (77, .el .Y), (9, .el
 .Y), (10, .el .Y)] (sOf Tryd.prog Tryd.f151) a_utf8_appendRuneNonASCII (iOf Tryd.prog Tryd.f151) [⟨false, false, .L .Y, [.ow], none⟩, ⟨false, false, .I .i32, [.rd], none⟩]
 [(false, .L .Y)] x = F_utf8_appendRuneNonASCII x := by kernel_rfl
noncomputable def e_utf8_appendRuneNonASCII : GEnt Tryd.prog := ⟨151, [⟨false, false, .L .Y, [.ow], none⟩, ⟨false, false, .I .i32, [.rd], none⟩], [(false, .L .Y)],
 F_utf8_appendRuneNonASCII, runs_gen mixed_Pr Tryd.func151 (by kernel_rfl) h_utf8_appendRuneNonASCII⟩
noncomputable def a_utf8_AppendRune : An := .d
theorem h_utf8_AppendRune (x : (List UInt8) × Int) : fnG (P := Tryd.prog) [.gen e_utf8_appendRuneNonASCII] [(11, .el .Y), (12, .el .Y)] (sOf Tryd.prog Tryd.f138) a_utf8_AppendRune
 (iOf Tryd.prog Tryd.f138) [⟨false, false, .L .Y, [.ow], none⟩, ⟨false, false, .I .i32, [.rd], none⟩] [(false, .L .Y)] x = F_utf8_AppendRune x := by kernel_rfl
noncomputable def e_utf8_AppendRune : GEnt Tryd.prog := ⟨138, [⟨false, false, .L .Y, [.ow], none⟩, ⟨false, false, .I .i32, [.rd], none⟩], [(false, .L .Y)], F_utf8_AppendRune,
 runs_gen mixed_Pr Tryd.func138 (by kernel_rfl) h_utf8_AppendRune⟩
noncomputable def a_i_PutSign : An := .d
theorem h_i_PutSign (x : (List UInt8) × Int) : fnX (P := Tryd.prog) [.see e_i_joined, .see e_i_SignOk, .gen e_utf8_AppendRune] [(7, .sb)] (sOf Tryd.prog Tryd.f108) a_i_PutSign (iOf
 Tryd.prog Tryd.f108) [(false, .L .Y), (false, .I .i64)] [(false, .L .Y)] x = F_i_PutSign x := by kernel_rfl
noncomputable def e_i_PutSign : SEnt Tryd.prog := ⟨108, [(false, .L .Y), (false, .I .i64)], [(false, .L .Y)], F_i_PutSign, runs_see mixed_Pr Tryd.func108 (by kernel_rfl)
 h_i_PutSign⟩
noncomputable def a_i_Decode : An := (.sq none .d (.sq none .d (.sq none .d (.sq (some [.ot 6 .Y]) (.sq none .d (.bl (.lp [.kt 0, .kt 1, .ot 6 .Y, .lt 7 (.I .i64)] .d))) .d))))
theorem h_i_Decode (x : Int × List UInt8) : fnX (P := Tryd.prog) [.see e_i_isSet, .see e_i_signIn, .see e_i_PutSign] [(14, .el .Y)] (sOf Tryd.prog Tryd.f66) a_i_Decode (iOf
 Tryd.prog Tryd.f66) [(false, .I .i64), (false, .L .Y)] [(false, .S), (false, .B)] x = F_i_Decode x := by kernel_rfl
noncomputable def e_i_Decode : SEnt Tryd.prog := ⟨66, [(false, .I .i64), (false, .L .Y)], [(false, .S), (false, .B)], F_i_Decode, runs_see mixed_Pr Tryd.func66 (by kernel_rfl)
 h_i_Decode⟩
noncomputable def a_i_CellText : An := .d
theorem h_i_CellText (x : Int × List UInt8) : fnX (P := Tryd.prog) [.see e_i_CellOk, .see e_i_Decode] [] (sOf Tryd.prog Tryd.f24) a_i_CellText (iOf Tryd.prog Tryd.f24) [(true, .P
 (.I .i64) (.L .Y))] [(false, .S), (false, .B)] x = F_i_CellText x := by kernel_rfl
noncomputable def e_i_CellText : SEnt Tryd.prog := ⟨24, [(true, .P (.I .i64) (.L .Y))], [(false, .S), (false, .B)], F_i_CellText, runs_see mixed_Pr Tryd.func24 (by kernel_rfl)
 h_i_CellText⟩
noncomputable def a_i_SameText : An := .d
theorem h_i_SameText (x : (Int × List UInt8) × Int × List UInt8) : fnX (P := Tryd.prog) [.see e_i_CellText] [] (sOf Tryd.prog Tryd.f36) a_i_SameText (iOf Tryd.prog Tryd.f36)
 [(true, .P (.I .i64) (.L .Y)), (true, .P (.I .i64) (.L .Y))] [(false, .B)] x = F_i_SameText x := by kernel_rfl
noncomputable def e_i_SameText : SEnt Tryd.prog := ⟨36, [(true, .P (.I .i64) (.L .Y)), (true, .P (.I .i64) (.L .Y))], [(false, .B)], F_i_SameText, runs_see mixed_Pr Tryd.func36 (by
 kernel_rfl) h_i_SameText⟩
noncomputable def a_i_RowOk : An := (.sq none .d (.sq none .d (.sq none .d (.sq none .d (.sq none .d (.sq (some [.kt 1, .kt 6, .lt 7 .B]) .d (.sq none .d (.sq (some [.kt 1, .kt 7,
 .lt 8 .B]) .d .d))))))))
theorem h_i_RowOk (x : (List UInt8) × (Int × List UInt8) × (Int × List UInt8) × Int × Bool) : fnX (P := Tryd.prog) [.see e_i_NameOk, .see e_i_within, .see e_i_CellText, .see
 e_i_sameCell, .see e_i_CellOk, .see e_i_SameText] [] (sOf Tryd.prog Tryd.f54) a_i_RowOk (iOf Tryd.prog Tryd.f54) [(true, .P .S (.P (.P (.I .i64) (.L .Y)) (.P (.P (.I .i64) (.L
 .Y)) (.P (.I .i64) .B))))] [(false, .B)] x = F_i_RowOk x := by kernel_rfl
noncomputable def e_i_RowOk : SEnt Tryd.prog := ⟨54, [(true, .P .S (.P (.P (.I .i64) (.L .Y)) (.P (.P (.I .i64) (.L .Y)) (.P (.I .i64) .B))))], [(false, .B)], F_i_RowOk, runs_see
 mixed_Pr Tryd.func54 (by kernel_rfl) h_i_RowOk⟩
noncomputable def a_i_isWord : An := .d
theorem h_i_isWord (x : Int) : fnX (P := Tryd.prog) [.see e_i_within] [] (sOf Tryd.prog Tryd.f86) a_i_isWord (iOf Tryd.prog Tryd.f86) [(false, .I .i64)] [(false, .B)] x =
 F_i_isWord x := by kernel_rfl
noncomputable def e_i_isWord : SEnt Tryd.prog := ⟨86, [(false, .I .i64)], [(false, .B)], F_i_isWord, runs_see mixed_Pr Tryd.func86 (by kernel_rfl) h_i_isWord⟩
noncomputable def a_i_RecOk : An := (.sq none .d (.sq none .d (.sq none .d (.sq (some [.kt 1, .lt 5 .B]) .d .d))))
theorem h_i_RecOk (x : Int × ((List UInt8) × (Int × List UInt8) × (Int × List UInt8) × Int × Bool) × (List UInt8) × Int × Int × Int × Int) : fnX (P := Tryd.prog) [.see e_i_sameRow,
 .see e_i_RowOk, .see e_i_NameOk, .see e_i_within, .see e_i_isWord] [] (sOf Tryd.prog Tryd.f85) a_i_RecOk (iOf Tryd.prog Tryd.f85) [(true, .P (.I .i64) (.P (.P .S (.P (.P (.I
 .i64) (.L .Y)) (.P (.P (.I .i64) (.L .Y)) (.P (.I .i64) .B)))) (.P .S (.P (.I .i64) (.P (.I .i64) (.P (.I .i64) (.I .i64)))))))] [(false, .B)] x = F_i_RecOk x := by kernel_rfl
noncomputable def e_i_RecOk : SEnt Tryd.prog := ⟨85, [(true, .P (.I .i64) (.P (.P .S (.P (.P (.I .i64) (.L .Y)) (.P (.P (.I .i64) (.L .Y)) (.P (.I .i64) .B)))) (.P .S (.P (.I .i64)
 (.P (.I .i64) (.P (.I .i64) (.I .i64)))))))], [(false, .B)], F_i_RecOk, runs_see mixed_Pr Tryd.func85 (by kernel_rfl) h_i_RecOk⟩
noncomputable def a_i_PutW : An := .d
theorem h_i_PutW (x : (List UInt8) × Int) : fnX (P := Tryd.prog) [.see e_i_joined] [(13, .el .Y), (14, .sb)] (sOf Tryd.prog Tryd.f87) a_i_PutW (iOf Tryd.prog Tryd.f87) [(false, .L
 .Y), (false, .I .i64)] [(false, .L .Y)] x = F_i_PutW x := by kernel_rfl
noncomputable def e_i_PutW : SEnt Tryd.prog := ⟨87, [(false, .L .Y), (false, .I .i64)], [(false, .L .Y)], F_i_PutW, runs_see mixed_Pr Tryd.func87 (by kernel_rfl) h_i_PutW⟩
noncomputable def a_i_PutText : An := .d
theorem h_i_PutText (x : (List UInt8) × List UInt8) : fnX (P := Tryd.prog) [.see e_i_joined, .see e_i_PutW] [(9, .sb), (17, .sb)] (sOf Tryd.prog Tryd.f89) a_i_PutText (iOf
 Tryd.prog Tryd.f89) [(false, .L .Y), (false, .S)] [(false, .L .Y)] x = F_i_PutText x := by kernel_rfl
noncomputable def e_i_PutText : SEnt Tryd.prog := ⟨89, [(false, .L .Y), (false, .S)], [(false, .L .Y)], F_i_PutText, runs_see mixed_Pr Tryd.func89 (by kernel_rfl) h_i_PutText⟩
end Go.Vs
