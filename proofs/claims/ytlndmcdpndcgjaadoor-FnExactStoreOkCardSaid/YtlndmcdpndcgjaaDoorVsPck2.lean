import Derived.Test.YtlndmcdpndcgjaaDoorProg
import Derived.Test.YtlndmcdpndcgjaaDoorVsPck1
set_option linter.all false
namespace Go.Vs
open Go.Proofs
set_option maxRecDepth 100000
set_option linter.unusedVariables false
noncomputable def a_i_EucSign : An := .d
theorem h_i_EucSign (x : (List UInt8) × Int) : fnX (P := Tryd.prog) [.see e_i_PairSign] [] (sOf Tryd.prog Tryd.f144) a_i_EucSign (iOf Tryd.prog Tryd.f144) [(false, .L .Y), (false,
 .I .i64)] [(false, .I .i64), (false, .I .i64), (false, .B)] x = F_i_EucSign x := by kernel_rfl
noncomputable def e_i_EucSign : SEnt Tryd.prog := ⟨144, [(false, .L .Y), (false, .I .i64)], [(false, .I .i64), (false, .I .i64), (false, .B)], F_i_EucSign, runs_see mixed_Pc
 Tryd.func144 (by kernel_rfl) h_i_EucSign⟩
noncomputable def a_i_nineSign : An := .d
theorem h_i_nineSign (x : Int) : fnX (P := Tryd.prog) [] [] (sOf Tryd.prog Tryd.f155) a_i_nineSign (iOf Tryd.prog Tryd.f155) [(false, .I .i64)] [(false, .I .i64)] x = F_i_nineSign
 x := by kernel_rfl
noncomputable def e_i_nineSign : SEnt Tryd.prog := ⟨155, [(false, .I .i64)], [(false, .I .i64)], F_i_nineSign, runs_see mixed_Pc Tryd.func155 (by kernel_rfl) h_i_nineSign⟩
noncomputable def a_i_koiSign : An := .d
theorem h_i_koiSign (x : Int) : fnX (P := Tryd.prog) [] [] (sOf Tryd.prog Tryd.f156) a_i_koiSign (iOf Tryd.prog Tryd.f156) [(false, .I .i64)] [(false, .I .i64)] x = F_i_koiSign x
 := by kernel_rfl
noncomputable def e_i_koiSign : SEnt Tryd.prog := ⟨156, [(false, .I .i64)], [(false, .I .i64)], F_i_koiSign, runs_see mixed_Pc Tryd.func156 (by kernel_rfl) h_i_koiSign⟩
noncomputable def a_i_winSign : An := .d
theorem h_i_winSign (x : Int) : fnX (P := Tryd.prog) [] [] (sOf Tryd.prog Tryd.f157) a_i_winSign (iOf Tryd.prog Tryd.f157) [(false, .I .i64)] [(false, .I .i64)] x = F_i_winSign x
 := by kernel_rfl
noncomputable def e_i_winSign : SEnt Tryd.prog := ⟨157, [(false, .I .i64)], [(false, .I .i64)], F_i_winSign, runs_see mixed_Pc Tryd.func157 (by kernel_rfl) h_i_winSign⟩
noncomputable def a_i_ByteSign : An := (.sq none .d (.sq none .d (.sq none .d (.sq none .d (.sq (some [.lt 6 (.I .i64)]) .d .d)))))
theorem h_i_ByteSign (x : Int × Int) : fnX (P := Tryd.prog) [.see e_i_within, .see e_i_nineSign, .see e_i_koiSign, .see e_i_winSign] [] (sOf Tryd.prog Tryd.f145) a_i_ByteSign (iOf
 Tryd.prog Tryd.f145) [(false, .I .i64), (false, .I .i64)] [(false, .I .i64), (false, .B)] x = F_i_ByteSign x := by kernel_rfl
noncomputable def e_i_ByteSign : SEnt Tryd.prog := ⟨145, [(false, .I .i64), (false, .I .i64)], [(false, .I .i64), (false, .B)], F_i_ByteSign, runs_see mixed_Pc Tryd.func145 (by
 kernel_rfl) h_i_ByteSign⟩
noncomputable def a_i_signIn : An := .d
theorem h_i_signIn (x : Int × (List UInt8) × Int) : fnX (P := Tryd.prog) [.see e_i_GetSign, .see e_i_EucSign, .see e_i_ByteSign] [] (sOf Tryd.prog Tryd.f134) a_i_signIn (iOf
 Tryd.prog Tryd.f134) [(false, .I .i64), (false, .L .Y), (false, .I .i64)] [(false, .I .i64), (false, .I .i64), (false, .B)] x = F_i_signIn x := by kernel_rfl
noncomputable def e_i_signIn : SEnt Tryd.prog := ⟨134, [(false, .I .i64), (false, .L .Y), (false, .I .i64)], [(false, .I .i64), (false, .I .i64), (false, .B)], F_i_signIn, runs_see
 mixed_Pc Tryd.func134 (by kernel_rfl) h_i_signIn⟩
noncomputable def a_i_joined : An := (.sq none .d (.sq none .d (.sq (some [.ot 3 .Y]) (.sq none .d (.bl (.lp [.ot 3 .Y, .kt 7, .kt 8, .lt 9 (.I .i64)] .d))) .d)))
theorem h_i_joined (x : List (List UInt8)) : fnX (P := Tryd.prog) [] [(6, .el .Y), (15, .el .Y)] (sOf Tryd.prog Tryd.f79) a_i_joined (iOf Tryd.prog Tryd.f79) [(false, .L (.L .Y))]
 [(false, .L .Y)] x = F_i_joined x := by kernel_rfl
noncomputable def e_i_joined : SEnt Tryd.prog := ⟨79, [(false, .L (.L .Y))], [(false, .L .Y)], F_i_joined, runs_see mixed_Pc Tryd.func79 (by kernel_rfl) h_i_joined⟩
noncomputable def a_i_SignOk : An := .d
theorem h_i_SignOk (x : Int) : fnX (P := Tryd.prog) [.see e_i_within] [] (sOf Tryd.prog Tryd.f146) a_i_SignOk (iOf Tryd.prog Tryd.f146) [(false, .I .i64)] [(false, .B)] x =
 F_i_SignOk x := by kernel_rfl
noncomputable def e_i_SignOk : SEnt Tryd.prog := ⟨146, [(false, .I .i64)], [(false, .B)], F_i_SignOk, runs_see mixed_Pc Tryd.func146 (by kernel_rfl) h_i_SignOk⟩
noncomputable def a_utf8_appendRuneNonASCII : An := (.sq none .d (.sq none .d (.bl (.sq none .d (.cd .d (.sq (some [.kt 0, .kt 1, .kt 5, .lt 25 .B]) .d .d))))))
theorem h_utf8_appendRuneNonASCII (x : (List UInt8) × Int) : fnG (P := Tryd.prog) [] [(23, .el .Y), (24, .el .Y), (48, .el .Y), (49, .el .Y), (76, .el .Y), (77, .el .Y), (9, .el
 .Y), (10, .el .Y)] (sOf Tryd.prog Tryd.f158) a_utf8_appendRuneNonASCII (iOf Tryd.prog Tryd.f158) [⟨false, false, .L .Y, [.ow], none⟩, ⟨false, false, .I .i32, [.rd], none⟩]
 [(false, .L .Y)] x = F_utf8_appendRuneNonASCII x := by kernel_rfl
noncomputable def e_utf8_appendRuneNonASCII : GEnt Tryd.prog := ⟨158, [⟨false, false, .L .Y, [.ow], none⟩, ⟨false, false, .I .i32, [.rd], none⟩], [(false, .L .Y)],
 F_utf8_appendRuneNonASCII, runs_gen mixed_Pc Tryd.func158 (by kernel_rfl) h_utf8_appendRuneNonASCII⟩
noncomputable def a_utf8_AppendRune : An := .d
theorem h_utf8_AppendRune (x : (List UInt8) × Int) : fnG (P := Tryd.prog) [.gen e_utf8_appendRuneNonASCII] [(11, .el .Y), (12, .el .Y)] (sOf Tryd.prog Tryd.f147) a_utf8_AppendRune
 (iOf Tryd.prog Tryd.f147) [⟨false, false, .L .Y, [.ow], none⟩, ⟨false, false, .I .i32, [.rd], none⟩] [(false, .L .Y)] x = F_utf8_AppendRune x := by kernel_rfl
noncomputable def e_utf8_AppendRune : GEnt Tryd.prog := ⟨147, [⟨false, false, .L .Y, [.ow], none⟩, ⟨false, false, .I .i32, [.rd], none⟩], [(false, .L .Y)], F_utf8_AppendRune,
 runs_gen mixed_Pc Tryd.func147 (by kernel_rfl) h_utf8_AppendRune⟩
noncomputable def a_i_PutSign : An := .d
theorem h_i_PutSign (x : (List UInt8) × Int) : fnX (P := Tryd.prog) [.see e_i_joined, .see e_i_SignOk, .gen e_utf8_AppendRune] [(7, .sb)] (sOf Tryd.prog Tryd.f135) a_i_PutSign (iOf
 Tryd.prog Tryd.f135) [(false, .L .Y), (false, .I .i64)] [(false, .L .Y)] x = F_i_PutSign x := by kernel_rfl
noncomputable def e_i_PutSign : SEnt Tryd.prog := ⟨135, [(false, .L .Y), (false, .I .i64)], [(false, .L .Y)], F_i_PutSign, runs_see mixed_Pc Tryd.func135 (by kernel_rfl)
 h_i_PutSign⟩
noncomputable def a_i_Decode : An := (.sq none .d (.sq none .d (.sq none .d (.sq (some [.ot 6 .Y]) (.sq none .d (.bl (.lp [.kt 0, .kt 1, .ot 6 .Y, .lt 7 (.I .i64)] .d))) .d))))
theorem h_i_Decode (x : Int × List UInt8) : fnX (P := Tryd.prog) [.see e_i_isSet, .see e_i_signIn, .see e_i_PutSign] [(14, .el .Y)] (sOf Tryd.prog Tryd.f110) a_i_Decode (iOf
 Tryd.prog Tryd.f110) [(false, .I .i64), (false, .L .Y)] [(false, .S), (false, .B)] x = F_i_Decode x := by kernel_rfl
noncomputable def e_i_Decode : SEnt Tryd.prog := ⟨110, [(false, .I .i64), (false, .L .Y)], [(false, .S), (false, .B)], F_i_Decode, runs_see mixed_Pc Tryd.func110 (by kernel_rfl)
 h_i_Decode⟩
noncomputable def a_i_CellText : An := .d
theorem h_i_CellText (x : Int × List UInt8) : fnX (P := Tryd.prog) [.see e_i_CellOk, .see e_i_Decode] [] (sOf Tryd.prog Tryd.f61) a_i_CellText (iOf Tryd.prog Tryd.f61) [(true, .P
 (.I .i64) (.L .Y))] [(false, .S), (false, .B)] x = F_i_CellText x := by kernel_rfl
noncomputable def e_i_CellText : SEnt Tryd.prog := ⟨61, [(true, .P (.I .i64) (.L .Y))], [(false, .S), (false, .B)], F_i_CellText, runs_see mixed_Pc Tryd.func61 (by kernel_rfl)
 h_i_CellText⟩
noncomputable def a_i_SameText : An := .d
theorem h_i_SameText (x : (Int × List UInt8) × Int × List UInt8) : fnX (P := Tryd.prog) [.see e_i_CellText] [] (sOf Tryd.prog Tryd.f17) a_i_SameText (iOf Tryd.prog Tryd.f17)
 [(true, .P (.I .i64) (.L .Y)), (true, .P (.I .i64) (.L .Y))] [(false, .B)] x = F_i_SameText x := by kernel_rfl
noncomputable def e_i_SameText : SEnt Tryd.prog := ⟨17, [(true, .P (.I .i64) (.L .Y)), (true, .P (.I .i64) (.L .Y))], [(false, .B)], F_i_SameText, runs_see mixed_Pc Tryd.func17 (by
 kernel_rfl) h_i_SameText⟩
end Go.Vs
