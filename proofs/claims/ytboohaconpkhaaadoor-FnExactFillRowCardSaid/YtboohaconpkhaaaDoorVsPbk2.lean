import Derived.Test.YtboohaconpkhaaaDoorProg
import Derived.Test.YtboohaconpkhaaaDoorVsPbk1
set_option linter.all false
namespace Go.Vs
open Go.Proofs
set_option maxRecDepth 100000
set_option linter.unusedVariables false
noncomputable def a_i_PutEuc : An := .d
theorem h_i_PutEuc (x : (List UInt8) × Int) : fnX (P := Tryd.prog) [.see e_i_within, .see e_i_joined, .see e_i_SignPair] [(14, .el .Y), (15, .sb), (26, .sb), (33, .el .Y), (34,
 .sb)] (sOf Tryd.prog Tryd.f132) a_i_PutEuc (iOf Tryd.prog Tryd.f132) [(false, .L .Y), (false, .I .i64)] [(false, .L .Y), (false, .B)] x = F_i_PutEuc x := by kernel_rfl
noncomputable def e_i_PutEuc : SEnt Tryd.prog := ⟨132, [(false, .L .Y), (false, .I .i64)], [(false, .L .Y), (false, .B)], F_i_PutEuc, runs_see mixed_Pb Tryd.func132 (by kernel_rfl)
 h_i_PutEuc⟩
noncomputable def a_i_nineSign : An := .d
theorem h_i_nineSign (x : Int) : fnX (P := Tryd.prog) [] [] (sOf Tryd.prog Tryd.f148) a_i_nineSign (iOf Tryd.prog Tryd.f148) [(false, .I .i64)] [(false, .I .i64)] x = F_i_nineSign
 x := by kernel_rfl
noncomputable def e_i_nineSign : SEnt Tryd.prog := ⟨148, [(false, .I .i64)], [(false, .I .i64)], F_i_nineSign, runs_see mixed_Pb Tryd.func148 (by kernel_rfl) h_i_nineSign⟩
noncomputable def a_i_koiSign : An := .d
theorem h_i_koiSign (x : Int) : fnX (P := Tryd.prog) [] [] (sOf Tryd.prog Tryd.f149) a_i_koiSign (iOf Tryd.prog Tryd.f149) [(false, .I .i64)] [(false, .I .i64)] x = F_i_koiSign x
 := by kernel_rfl
noncomputable def e_i_koiSign : SEnt Tryd.prog := ⟨149, [(false, .I .i64)], [(false, .I .i64)], F_i_koiSign, runs_see mixed_Pb Tryd.func149 (by kernel_rfl) h_i_koiSign⟩
noncomputable def a_i_winSign : An := .d
theorem h_i_winSign (x : Int) : fnX (P := Tryd.prog) [] [] (sOf Tryd.prog Tryd.f150) a_i_winSign (iOf Tryd.prog Tryd.f150) [(false, .I .i64)] [(false, .I .i64)] x = F_i_winSign x
 := by kernel_rfl
noncomputable def e_i_winSign : SEnt Tryd.prog := ⟨150, [(false, .I .i64)], [(false, .I .i64)], F_i_winSign, runs_see mixed_Pb Tryd.func150 (by kernel_rfl) h_i_winSign⟩
noncomputable def a_i_ByteSign : An := (.sq none .d (.sq none .d (.sq none .d (.sq none .d (.sq (some [.lt 6 (.I .i64)]) .d .d)))))
theorem h_i_ByteSign (x : Int × Int) : fnX (P := Tryd.prog) [.see e_i_within, .see e_i_nineSign, .see e_i_koiSign, .see e_i_winSign] [] (sOf Tryd.prog Tryd.f136) a_i_ByteSign (iOf
 Tryd.prog Tryd.f136) [(false, .I .i64), (false, .I .i64)] [(false, .I .i64), (false, .B)] x = F_i_ByteSign x := by kernel_rfl
noncomputable def e_i_ByteSign : SEnt Tryd.prog := ⟨136, [(false, .I .i64), (false, .I .i64)], [(false, .I .i64), (false, .B)], F_i_ByteSign, runs_see mixed_Pb Tryd.func136 (by
 kernel_rfl) h_i_ByteSign⟩
noncomputable def a_i_SignByte : An := (.sq none .d (.sq (some []) (.sq none .d (.bl (.lp [.kt 0, .kt 1, .lt 6 (.I .i64)] .d))) .d))
theorem h_i_SignByte (x : Int × Int) : fnX (P := Tryd.prog) [.see e_i_ByteSign] [] (sOf Tryd.prog Tryd.f133) a_i_SignByte (iOf Tryd.prog Tryd.f133) [(false, .I .i64), (false, .I
 .i64)] [(false, .I .i64), (false, .B)] x = F_i_SignByte x := by kernel_rfl
noncomputable def e_i_SignByte : SEnt Tryd.prog := ⟨133, [(false, .I .i64), (false, .I .i64)], [(false, .I .i64), (false, .B)], F_i_SignByte, runs_see mixed_Pb Tryd.func133 (by
 kernel_rfl) h_i_SignByte⟩
noncomputable def a_i_putIn : An := .d
theorem h_i_putIn (x : Int × (List UInt8) × Int) : fnG (P := Tryd.prog) [.see e_i_PutSign, .see e_i_PutEuc, .see e_i_SignByte] [(35, .el .Y), (36, .el .Y)] (sOf Tryd.prog
 Tryd.f104) a_i_putIn (iOf Tryd.prog Tryd.f104) [⟨false, false, .I .i64, [.rd], none⟩, ⟨false, false, .L .Y, [.ow], none⟩, ⟨false, false, .I .i64, [.rd], none⟩] [(false, .L .Y),
 (false, .B)] x = F_i_putIn x := by kernel_rfl
noncomputable def e_i_putIn : GEnt Tryd.prog := ⟨104, [⟨false, false, .I .i64, [.rd], none⟩, ⟨false, false, .L .Y, [.ow], none⟩, ⟨false, false, .I .i64, [.rd], none⟩], [(false, .L
 .Y), (false, .B)], F_i_putIn, runs_gen mixed_Pb Tryd.func104 (by kernel_rfl) h_i_putIn⟩
noncomputable def a_i_Encode : An := (.sq none .d (.sq none .d (.sq none .d (.sq none .d (.sq (some [.ot 8 .Y]) (.sq none .d (.bl (.lp [.kt 0, .ot 8 .Y, .kt 26, .kt 27, .lt 28 (.I
 .i64)] .d))) .d)))))
theorem h_i_Encode (x : Int × List UInt8) : fnX (P := Tryd.prog) [.see e_i_Signs, .see e_i_isSet, .gen e_i_putIn] [(25, .el .Y)] (sOf Tryd.prog Tryd.f59) a_i_Encode (iOf Tryd.prog
 Tryd.f59) [(false, .I .i64), (false, .S)] [(false, .L .Y), (false, .B)] x = F_i_Encode x := by kernel_rfl
noncomputable def e_i_Encode : SEnt Tryd.prog := ⟨59, [(false, .I .i64), (false, .S)], [(false, .L .Y), (false, .B)], F_i_Encode, runs_see mixed_Pb Tryd.func59 (by kernel_rfl)
 h_i_Encode⟩
noncomputable def a_i_CellOk : An := .d
theorem h_i_CellOk (x : Int × List UInt8) : fnX (P := Tryd.prog) [.see e_i_isSet] [] (sOf Tryd.prog Tryd.f26) a_i_CellOk (iOf Tryd.prog Tryd.f26) [(true, .P (.I .i64) (.L .Y))]
 [(false, .B)] x = F_i_CellOk x := by kernel_rfl
noncomputable def e_i_CellOk : SEnt Tryd.prog := ⟨26, [(true, .P (.I .i64) (.L .Y))], [(false, .B)], F_i_CellOk, runs_see mixed_Pb Tryd.func26 (by kernel_rfl) h_i_CellOk⟩
noncomputable def a_i_CellOf : An := .d
theorem h_i_CellOf (x : Int × List UInt8) : fnX (P := Tryd.prog) [.see e_i_Encode, .see e_i_CellOk] [] (sOf Tryd.prog Tryd.f12) a_i_CellOf (iOf Tryd.prog Tryd.f12) [(false, .I
 .i64), (false, .S)] [(true, .P (.I .i64) (.L .Y)), (false, .B)] x = F_i_CellOf x := by kernel_rfl
noncomputable def e_i_CellOf : SEnt Tryd.prog := ⟨12, [(false, .I .i64), (false, .S)], [(true, .P (.I .i64) (.L .Y)), (false, .B)], F_i_CellOf, runs_see mixed_Pb Tryd.func12 (by
 kernel_rfl) h_i_CellOf⟩
noncomputable def a_l_eqByteS : An := (.sq none .d (.sq none .d (.sq none (.sq none .d (.bl (.lp [.kt 0, .kt 1, .lt 5 (.I .i64)] .d))) .d)))
theorem h_l_eqByteS (x : (List UInt8) × List UInt8) : fnX (P := Tryd.prog) [] [] (sOf Tryd.prog Tryd.f42) a_l_eqByteS (iOf Tryd.prog Tryd.f42) [(false, .L .Y), (false, .L .Y)]
 [(false, .B)] x = F_l_eqByteS x := by kernel_rfl
noncomputable def e_l_eqByteS : SEnt Tryd.prog := ⟨42, [(false, .L .Y), (false, .L .Y)], [(false, .B)], F_l_eqByteS, runs_see mixed_Pb Tryd.func42 (by kernel_rfl) h_l_eqByteS⟩
noncomputable def a_l_eqCell : An := .d
theorem h_l_eqCell (x : (Int × List UInt8) × Int × List UInt8) : fnX (P := Tryd.prog) [.see e_l_eqByteS] [] (sOf Tryd.prog Tryd.f13) a_l_eqCell (iOf Tryd.prog Tryd.f13) [(true, .P
 (.I .i64) (.L .Y)), (true, .P (.I .i64) (.L .Y))] [(false, .B)] x = F_l_eqCell x := by kernel_rfl
noncomputable def e_l_eqCell : SEnt Tryd.prog := ⟨13, [(true, .P (.I .i64) (.L .Y)), (true, .P (.I .i64) (.L .Y))], [(false, .B)], F_l_eqCell, runs_see mixed_Pb Tryd.func13 (by
 kernel_rfl) h_l_eqCell⟩
noncomputable def a_l_markByteS : An := (.sq none .d (.sq (some [.sr 0 .Y, .lt 1 (.I .i64)]) (.sq none .d (.bl (.lp [.sr 0 .Y, .lt 1 (.I .i64), .lt 5 (.I .i64)] .d))) .d))
theorem h_l_markByteS (x : (List UInt8) × Int) : fnG (P := Tryd.prog) [] [] (sOf Tryd.prog Tryd.f45) a_l_markByteS (iOf Tryd.prog Tryd.f45) [⟨false, false, .L .Y, [.io], none⟩,
 ⟨false, false, .I .i64, [.rd], none⟩] [(false, .I .i64)] x = F_l_markByteS x := by kernel_rfl
noncomputable def e_l_markByteS : GEnt Tryd.prog := ⟨45, [⟨false, false, .L .Y, [.io], none⟩, ⟨false, false, .I .i64, [.rd], none⟩], [(false, .I .i64)], F_l_markByteS, runs_gen
 mixed_Pb Tryd.func45 (by kernel_rfl) h_l_markByteS⟩
noncomputable def a_l_markCell : An := .d
theorem h_l_markCell (x : (Int × List UInt8) × Int) : fnG (P := Tryd.prog) [.gen e_l_markByteS] [] (sOf Tryd.prog Tryd.f14) a_l_markCell (iOf Tryd.prog Tryd.f14) [⟨false, true, .P
 (.I .i64) (.L .Y), [.rd, .io], none⟩, ⟨false, false, .I .i64, [.rd], none⟩] [(false, .I .i64)] x = F_l_markCell x := by kernel_rfl
noncomputable def e_l_markCell : GEnt Tryd.prog := ⟨14, [⟨false, true, .P (.I .i64) (.L .Y), [.rd, .io], none⟩, ⟨false, false, .I .i64, [.rd], none⟩], [(false, .I .i64)],
 F_l_markCell, runs_gen mixed_Pb Tryd.func14 (by kernel_rfl) h_l_markCell⟩
end Go.Vs
