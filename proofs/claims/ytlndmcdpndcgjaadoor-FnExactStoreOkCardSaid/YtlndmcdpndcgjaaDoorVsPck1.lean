import Derived.Test.YtlndmcdpndcgjaaDoorProg
import Derived.Test.YtlndmcdpndcgjaaDoorVsPck0
set_option linter.all false
namespace Go.Vs
open Go.Proofs
set_option maxRecDepth 100000
set_option linter.unusedVariables false
noncomputable def a_s_l3Koi : An := .d
theorem h_s_l3Koi (x : Int) : fnX (P := Tryd.prog) [] [(4, .el (.I .i64))] (sOf Tryd.prog Tryd.f151) a_s_l3Koi (iOf Tryd.prog Tryd.f151) [(false, .I .i64)] [(false, .I .i64)] x =
 F_s_l3Koi x := by kernel_rfl
noncomputable def e_s_l3Koi : SEnt Tryd.prog := ⟨151, [(false, .I .i64)], [(false, .I .i64)], F_s_l3Koi, runs_see mixed_Pc Tryd.func151 (by kernel_rfl) h_s_l3Koi⟩
noncomputable def a_s_l3Win : An := .d
theorem h_s_l3Win (x : Int) : fnX (P := Tryd.prog) [] [(4, .el (.I .i64))] (sOf Tryd.prog Tryd.f152) a_s_l3Win (iOf Tryd.prog Tryd.f152) [(false, .I .i64)] [(false, .I .i64)] x =
 F_s_l3Win x := by kernel_rfl
noncomputable def e_s_l3Win : SEnt Tryd.prog := ⟨152, [(false, .I .i64)], [(false, .I .i64)], F_s_l3Win, runs_see mixed_Pc Tryd.func152 (by kernel_rfl) h_s_l3Win⟩
noncomputable def a_s_ByteSign : An := (.sq none .d (.sq none .d (.sq none .d (.sq (some [.lt 6 (.I .i64)]) .d .d))))
theorem h_s_ByteSign (x : Int × Int) : fnX (P := Tryd.prog) [.see e_s_l1In, .see e_s_l3Nine, .see e_s_l3Koi, .see e_s_l3Win] [] (sOf Tryd.prog Tryd.f141) a_s_ByteSign (iOf
 Tryd.prog Tryd.f141) [(false, .I .i64), (false, .I .i64)] [(false, .I .i64), (false, .B)] x = F_s_ByteSign x := by kernel_rfl
noncomputable def e_s_ByteSign : SEnt Tryd.prog := ⟨141, [(false, .I .i64), (false, .I .i64)], [(false, .I .i64), (false, .B)], F_s_ByteSign, runs_see mixed_Pc Tryd.func141 (by
 kernel_rfl) h_s_ByteSign⟩
noncomputable def a_s_l5Get : An := .d
theorem h_s_l5Get (x : Int × (List UInt8) × Int) : fnX (P := Tryd.prog) [.see e_s_GetSign, .see e_s_EucSign, .see e_s_ByteSign] [] (sOf Tryd.prog Tryd.f132) a_s_l5Get (iOf
 Tryd.prog Tryd.f132) [(false, .I .i64), (false, .L .Y), (false, .I .i64)] [(false, .I .i64), (false, .I .i64), (false, .B)] x = F_s_l5Get x := by kernel_rfl
noncomputable def e_s_l5Get : SEnt Tryd.prog := ⟨132, [(false, .I .i64), (false, .L .Y), (false, .I .i64)], [(false, .I .i64), (false, .I .i64), (false, .B)], F_s_l5Get, runs_see
 mixed_Pc Tryd.func132 (by kernel_rfl) h_s_l5Get⟩
noncomputable def a_s_Decode : An := (.sq none .d (.sq none .d (.sq none .d (.sq (some [.ot 6 .Y]) (.sq none .d (.bl (.lp [.kt 0, .kt 1, .ot 6 .Y, .lt 7 (.I .i64)] .d))) .d))))
theorem h_s_Decode (x : Int × List UInt8) : fnX (P := Tryd.prog) [.see e_s_l5Cs, .see e_s_l5Get, .see e_s_PutSign] [(11, .el .Y)] (sOf Tryd.prog Tryd.f109) a_s_Decode (iOf
 Tryd.prog Tryd.f109) [(false, .I .i64), (false, .L .Y)] [(false, .S), (false, .B)] x = F_s_Decode x := by kernel_rfl
noncomputable def e_s_Decode : SEnt Tryd.prog := ⟨109, [(false, .I .i64), (false, .L .Y)], [(false, .S), (false, .B)], F_s_Decode, runs_see mixed_Pc Tryd.func109 (by kernel_rfl)
 h_s_Decode⟩
noncomputable def a_s_CellText : An := .d
theorem h_s_CellText (x : Int × List UInt8) : fnX (P := Tryd.prog) [.see e_s_CellOk, .see e_s_Decode] [] (sOf Tryd.prog Tryd.f60) a_s_CellText (iOf Tryd.prog Tryd.f60) [(true, .P
 (.I .i64) (.L .Y))] [(false, .S), (false, .B)] x = F_s_CellText x := by kernel_rfl
noncomputable def e_s_CellText : SEnt Tryd.prog := ⟨60, [(true, .P (.I .i64) (.L .Y))], [(false, .S), (false, .B)], F_s_CellText, runs_see mixed_Pc Tryd.func60 (by kernel_rfl)
 h_s_CellText⟩
noncomputable def a_s_SameText : An := .d
theorem h_s_SameText (x : (Int × List UInt8) × Int × List UInt8) : fnX (P := Tryd.prog) [.see e_s_CellText] [] (sOf Tryd.prog Tryd.f15) a_s_SameText (iOf Tryd.prog Tryd.f15)
 [(true, .P (.I .i64) (.L .Y)), (true, .P (.I .i64) (.L .Y))] [(false, .B)] x = F_s_SameText x := by kernel_rfl
noncomputable def e_s_SameText : SEnt Tryd.prog := ⟨15, [(true, .P (.I .i64) (.L .Y)), (true, .P (.I .i64) (.L .Y))], [(false, .B)], F_s_SameText, runs_see mixed_Pc Tryd.func15 (by
 kernel_rfl) h_s_SameText⟩
noncomputable def a_i_within : An := .d
theorem h_i_within (x : Int × Int × Int) : fnX (P := Tryd.prog) [] [] (sOf Tryd.prog Tryd.f69) a_i_within (iOf Tryd.prog Tryd.f69) [(false, .I .i64), (false, .I .i64), (false, .I
 .i64)] [(false, .B)] x = F_i_within x := by kernel_rfl
noncomputable def e_i_within : SEnt Tryd.prog := ⟨69, [(false, .I .i64), (false, .I .i64), (false, .I .i64)], [(false, .B)], F_i_within, runs_see mixed_Pc Tryd.func69 (by
 kernel_rfl) h_i_within⟩
noncomputable def a_i_isSet : An := .d
theorem h_i_isSet (x : Int) : fnX (P := Tryd.prog) [.see e_i_within] [] (sOf Tryd.prog Tryd.f112) a_i_isSet (iOf Tryd.prog Tryd.f112) [(false, .I .i64)] [(false, .B)] x = F_i_isSet
 x := by kernel_rfl
noncomputable def e_i_isSet : SEnt Tryd.prog := ⟨112, [(false, .I .i64)], [(false, .B)], F_i_isSet, runs_see mixed_Pc Tryd.func112 (by kernel_rfl) h_i_isSet⟩
noncomputable def a_i_CellOk : An := .d
theorem h_i_CellOk (x : Int × List UInt8) : fnX (P := Tryd.prog) [.see e_i_isSet] [] (sOf Tryd.prog Tryd.f71) a_i_CellOk (iOf Tryd.prog Tryd.f71) [(true, .P (.I .i64) (.L .Y))]
 [(false, .B)] x = F_i_CellOk x := by kernel_rfl
noncomputable def e_i_CellOk : SEnt Tryd.prog := ⟨71, [(true, .P (.I .i64) (.L .Y))], [(false, .B)], F_i_CellOk, runs_see mixed_Pc Tryd.func71 (by kernel_rfl) h_i_CellOk⟩
noncomputable def a_utf8_decodeRuneSlow : An := .d
theorem h_utf8_decodeRuneSlow (x : List UInt8) : fnX (P := Tryd.prog) [] [] (sOf Tryd.prog Tryd.f159) a_utf8_decodeRuneSlow (iOf Tryd.prog Tryd.f159) [(false, .L .Y)] [(false, .I
 .i32), (false, .I .i64)] x = F_utf8_decodeRuneSlow x := by kernel_rfl
noncomputable def e_utf8_decodeRuneSlow : SEnt Tryd.prog := ⟨159, [(false, .L .Y)], [(false, .I .i32), (false, .I .i64)], F_utf8_decodeRuneSlow, runs_see mixed_Pc Tryd.func159 (by
 kernel_rfl) h_utf8_decodeRuneSlow⟩
noncomputable def a_utf8_DecodeRune : An := (.sq none .d (.sq (some [.kt 0]) (.sq none .d (.bl (.lp [.kt 0, .kt 6, .kt 7, .lt 8 (.I .i64)] .d))) .d))
theorem h_utf8_DecodeRune (x : List UInt8) : fnX (P := Tryd.prog) [.see e_utf8_decodeRuneSlow] [] (sOf Tryd.prog Tryd.f153) a_utf8_DecodeRune (iOf Tryd.prog Tryd.f153) [(false, .L
 .Y)] [(false, .I .i32), (false, .I .i64)] x = F_utf8_DecodeRune x := by kernel_rfl
noncomputable def e_utf8_DecodeRune : SEnt Tryd.prog := ⟨153, [(false, .L .Y)], [(false, .I .i32), (false, .I .i64)], F_utf8_DecodeRune, runs_see mixed_Pc Tryd.func153 (by
 kernel_rfl) h_utf8_DecodeRune⟩
noncomputable def a_i_GetSign : An := .d
theorem h_i_GetSign (x : (List UInt8) × Int) : fnX (P := Tryd.prog) [.see e_utf8_DecodeRune] [] (sOf Tryd.prog Tryd.f143) a_i_GetSign (iOf Tryd.prog Tryd.f143) [(false, .L .Y),
 (false, .I .i64)] [(false, .I .i64), (false, .I .i64), (false, .B)] x = F_i_GetSign x := by kernel_rfl
noncomputable def e_i_GetSign : SEnt Tryd.prog := ⟨143, [(false, .L .Y), (false, .I .i64)], [(false, .I .i64), (false, .I .i64), (false, .B)], F_i_GetSign, runs_see mixed_Pc
 Tryd.func143 (by kernel_rfl) h_i_GetSign⟩
noncomputable def a_i_PairSign : An := .d
theorem h_i_PairSign (x : Int × Int) : fnX (P := Tryd.prog) [.see e_i_within] [] (sOf Tryd.prog Tryd.f154) a_i_PairSign (iOf Tryd.prog Tryd.f154) [(false, .I .i64), (false, .I
 .i64)] [(false, .I .i64), (false, .B)] x = F_i_PairSign x := by kernel_rfl
noncomputable def e_i_PairSign : SEnt Tryd.prog := ⟨154, [(false, .I .i64), (false, .I .i64)], [(false, .I .i64), (false, .B)], F_i_PairSign, runs_see mixed_Pc Tryd.func154 (by
 kernel_rfl) h_i_PairSign⟩
end Go.Vs
