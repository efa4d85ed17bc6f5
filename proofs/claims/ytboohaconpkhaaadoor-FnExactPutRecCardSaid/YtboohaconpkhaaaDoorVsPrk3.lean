import Derived.Test.YtboohaconpkhaaaDoorProg
import Derived.Test.YtboohaconpkhaaaDoorVsPrk2
set_option linter.all false
namespace Go.Vs
open Go.Proofs
set_option maxRecDepth 100000
set_option linter.unusedVariables false
noncomputable def a_i_sameRow : An := .d
theorem h_i_sameRow (x : ((List UInt8) × (Int × List UInt8) × (Int × List UInt8) × Int × Bool) × (List UInt8) × (Int × List UInt8) × (Int × List UInt8) × Int × Bool) : fnX (P :=
 Tryd.prog) [.see e_i_sameCell] [] (sOf Tryd.prog Tryd.f119) a_i_sameRow (iOf Tryd.prog Tryd.f119) [(true, .P .S (.P (.P (.I .i64) (.L .Y)) (.P (.P (.I .i64) (.L .Y)) (.P (.I
 .i64) .B)))), (true, .P .S (.P (.P (.I .i64) (.L .Y)) (.P (.P (.I .i64) (.L .Y)) (.P (.I .i64) .B))))] [(false, .B)] x = F_i_sameRow x := by kernel_rfl
noncomputable def e_i_sameRow : SEnt Tryd.prog := ⟨119, [(true, .P .S (.P (.P (.I .i64) (.L .Y)) (.P (.P (.I .i64) (.L .Y)) (.P (.I .i64) .B)))), (true, .P .S (.P (.P (.I .i64) (.L
 .Y)) (.P (.P (.I .i64) (.L .Y)) (.P (.I .i64) .B))))], [(false, .B)], F_i_sameRow, runs_see mixed_Pr Tryd.func119 (by kernel_rfl) h_i_sameRow⟩
noncomputable def a_i_within : An := .d
theorem h_i_within (x : Int × Int × Int) : fnX (P := Tryd.prog) [] [] (sOf Tryd.prog Tryd.f62) a_i_within (iOf Tryd.prog Tryd.f62) [(false, .I .i64), (false, .I .i64), (false, .I
 .i64)] [(false, .B)] x = F_i_within x := by kernel_rfl
noncomputable def e_i_within : SEnt Tryd.prog := ⟨62, [(false, .I .i64), (false, .I .i64), (false, .I .i64)], [(false, .B)], F_i_within, runs_see mixed_Pr Tryd.func62 (by
 kernel_rfl) h_i_within⟩
noncomputable def a_i_NameOk : An := (.sq none .d (.sq (some [.kt 0]) (.sq none .d (.bl (.lp [.kt 0, .lt 3 (.I .i64)] .d))) .d))
theorem h_i_NameOk (x : List UInt8) : fnX (P := Tryd.prog) [.see e_i_within] [] (sOf Tryd.prog Tryd.f63) a_i_NameOk (iOf Tryd.prog Tryd.f63) [(false, .S)] [(false, .B)] x =
 F_i_NameOk x := by kernel_rfl
noncomputable def e_i_NameOk : SEnt Tryd.prog := ⟨63, [(false, .S)], [(false, .B)], F_i_NameOk, runs_see mixed_Pr Tryd.func63 (by kernel_rfl) h_i_NameOk⟩
noncomputable def a_i_isSet : An := .d
theorem h_i_isSet (x : Int) : fnX (P := Tryd.prog) [.see e_i_within] [] (sOf Tryd.prog Tryd.f68) a_i_isSet (iOf Tryd.prog Tryd.f68) [(false, .I .i64)] [(false, .B)] x = F_i_isSet x
 := by kernel_rfl
noncomputable def e_i_isSet : SEnt Tryd.prog := ⟨68, [(false, .I .i64)], [(false, .B)], F_i_isSet, runs_see mixed_Pr Tryd.func68 (by kernel_rfl) h_i_isSet⟩
noncomputable def a_i_CellOk : An := .d
theorem h_i_CellOk (x : Int × List UInt8) : fnX (P := Tryd.prog) [.see e_i_isSet] [] (sOf Tryd.prog Tryd.f26) a_i_CellOk (iOf Tryd.prog Tryd.f26) [(true, .P (.I .i64) (.L .Y))]
 [(false, .B)] x = F_i_CellOk x := by kernel_rfl
noncomputable def e_i_CellOk : SEnt Tryd.prog := ⟨26, [(true, .P (.I .i64) (.L .Y))], [(false, .B)], F_i_CellOk, runs_see mixed_Pr Tryd.func26 (by kernel_rfl) h_i_CellOk⟩
noncomputable def a_utf8_decodeRuneSlow : An := .d
theorem h_utf8_decodeRuneSlow (x : List UInt8) : fnX (P := Tryd.prog) [] [] (sOf Tryd.prog Tryd.f156) a_utf8_decodeRuneSlow (iOf Tryd.prog Tryd.f156) [(false, .L .Y)] [(false, .I
 .i32), (false, .I .i64)] x = F_utf8_decodeRuneSlow x := by kernel_rfl
noncomputable def e_utf8_decodeRuneSlow : SEnt Tryd.prog := ⟨156, [(false, .L .Y)], [(false, .I .i32), (false, .I .i64)], F_utf8_decodeRuneSlow, runs_see mixed_Pr Tryd.func156 (by
 kernel_rfl) h_utf8_decodeRuneSlow⟩
noncomputable def a_utf8_DecodeRune : An := (.sq none .d (.sq (some [.kt 0]) (.sq none .d (.bl (.lp [.kt 0, .kt 6, .kt 7, .lt 8 (.I .i64)] .d))) .d))
theorem h_utf8_DecodeRune (x : List UInt8) : fnX (P := Tryd.prog) [.see e_utf8_decodeRuneSlow] [] (sOf Tryd.prog Tryd.f146) a_utf8_DecodeRune (iOf Tryd.prog Tryd.f146) [(false, .L
 .Y)] [(false, .I .i32), (false, .I .i64)] x = F_utf8_DecodeRune x := by kernel_rfl
noncomputable def e_utf8_DecodeRune : SEnt Tryd.prog := ⟨146, [(false, .L .Y)], [(false, .I .i32), (false, .I .i64)], F_utf8_DecodeRune, runs_see mixed_Pr Tryd.func146 (by
 kernel_rfl) h_utf8_DecodeRune⟩
noncomputable def a_i_GetSign : An := .d
theorem h_i_GetSign (x : (List UInt8) × Int) : fnX (P := Tryd.prog) [.see e_utf8_DecodeRune] [] (sOf Tryd.prog Tryd.f134) a_i_GetSign (iOf Tryd.prog Tryd.f134) [(false, .L .Y),
 (false, .I .i64)] [(false, .I .i64), (false, .I .i64), (false, .B)] x = F_i_GetSign x := by kernel_rfl
noncomputable def e_i_GetSign : SEnt Tryd.prog := ⟨134, [(false, .L .Y), (false, .I .i64)], [(false, .I .i64), (false, .I .i64), (false, .B)], F_i_GetSign, runs_see mixed_Pr
 Tryd.func134 (by kernel_rfl) h_i_GetSign⟩
noncomputable def a_i_PairSign : An := .d
theorem h_i_PairSign (x : Int × Int) : fnX (P := Tryd.prog) [.see e_i_within] [] (sOf Tryd.prog Tryd.f147) a_i_PairSign (iOf Tryd.prog Tryd.f147) [(false, .I .i64), (false, .I
 .i64)] [(false, .I .i64), (false, .B)] x = F_i_PairSign x := by kernel_rfl
noncomputable def e_i_PairSign : SEnt Tryd.prog := ⟨147, [(false, .I .i64), (false, .I .i64)], [(false, .I .i64), (false, .B)], F_i_PairSign, runs_see mixed_Pr Tryd.func147 (by
 kernel_rfl) h_i_PairSign⟩
noncomputable def a_i_EucSign : An := .d
theorem h_i_EucSign (x : (List UInt8) × Int) : fnX (P := Tryd.prog) [.see e_i_PairSign] [] (sOf Tryd.prog Tryd.f135) a_i_EucSign (iOf Tryd.prog Tryd.f135) [(false, .L .Y), (false,
 .I .i64)] [(false, .I .i64), (false, .I .i64), (false, .B)] x = F_i_EucSign x := by kernel_rfl
noncomputable def e_i_EucSign : SEnt Tryd.prog := ⟨135, [(false, .L .Y), (false, .I .i64)], [(false, .I .i64), (false, .I .i64), (false, .B)], F_i_EucSign, runs_see mixed_Pr
 Tryd.func135 (by kernel_rfl) h_i_EucSign⟩
noncomputable def a_i_nineSign : An := .d
theorem h_i_nineSign (x : Int) : fnX (P := Tryd.prog) [] [] (sOf Tryd.prog Tryd.f148) a_i_nineSign (iOf Tryd.prog Tryd.f148) [(false, .I .i64)] [(false, .I .i64)] x = F_i_nineSign
 x := by kernel_rfl
noncomputable def e_i_nineSign : SEnt Tryd.prog := ⟨148, [(false, .I .i64)], [(false, .I .i64)], F_i_nineSign, runs_see mixed_Pr Tryd.func148 (by kernel_rfl) h_i_nineSign⟩
noncomputable def a_i_koiSign : An := .d
theorem h_i_koiSign (x : Int) : fnX (P := Tryd.prog) [] [] (sOf Tryd.prog Tryd.f149) a_i_koiSign (iOf Tryd.prog Tryd.f149) [(false, .I .i64)] [(false, .I .i64)] x = F_i_koiSign x
 := by kernel_rfl
noncomputable def e_i_koiSign : SEnt Tryd.prog := ⟨149, [(false, .I .i64)], [(false, .I .i64)], F_i_koiSign, runs_see mixed_Pr Tryd.func149 (by kernel_rfl) h_i_koiSign⟩
noncomputable def a_i_winSign : An := .d
theorem h_i_winSign (x : Int) : fnX (P := Tryd.prog) [] [] (sOf Tryd.prog Tryd.f150) a_i_winSign (iOf Tryd.prog Tryd.f150) [(false, .I .i64)] [(false, .I .i64)] x = F_i_winSign x
 := by kernel_rfl
noncomputable def e_i_winSign : SEnt Tryd.prog := ⟨150, [(false, .I .i64)], [(false, .I .i64)], F_i_winSign, runs_see mixed_Pr Tryd.func150 (by kernel_rfl) h_i_winSign⟩
noncomputable def a_i_ByteSign : An := (.sq none .d (.sq none .d (.sq none .d (.sq none .d (.sq (some [.lt 6 (.I .i64)]) .d .d)))))
theorem h_i_ByteSign (x : Int × Int) : fnX (P := Tryd.prog) [.see e_i_within, .see e_i_nineSign, .see e_i_koiSign, .see e_i_winSign] [] (sOf Tryd.prog Tryd.f136) a_i_ByteSign (iOf
 Tryd.prog Tryd.f136) [(false, .I .i64), (false, .I .i64)] [(false, .I .i64), (false, .B)] x = F_i_ByteSign x := by kernel_rfl
noncomputable def e_i_ByteSign : SEnt Tryd.prog := ⟨136, [(false, .I .i64), (false, .I .i64)], [(false, .I .i64), (false, .B)], F_i_ByteSign, runs_see mixed_Pr Tryd.func136 (by
 kernel_rfl) h_i_ByteSign⟩
end Go.Vs
