import Derived.Test.YtboohaconpkhaaaDoorProg
import Derived.Test.YtboohaconpkhaaaDoorVsPbk2
set_option linter.all false
namespace Go.Vs
open Go.Proofs
set_option maxRecDepth 100000
set_option linter.unusedVariables false
noncomputable def a_l_heldByteS : An := (.sq none .d (.sq (some [.lt 1 (.I .i64)]) (.sq none .d (.bl (.lp [.kt 0, .lt 1 (.I .i64), .lt 5 (.I .i64)] .d))) .d))
theorem h_l_heldByteS (x : (List UInt8) × Int) : fnX (P := Tryd.prog) [] [] (sOf Tryd.prog Tryd.f46) a_l_heldByteS (iOf Tryd.prog Tryd.f46) [(false, .L .Y), (false, .I .i64)]
 [(false, .I .i64)] x = F_l_heldByteS x := by kernel_rfl
noncomputable def e_l_heldByteS : SEnt Tryd.prog := ⟨46, [(false, .L .Y), (false, .I .i64)], [(false, .I .i64)], F_l_heldByteS, runs_see mixed_Pb Tryd.func46 (by kernel_rfl)
 h_l_heldByteS⟩
noncomputable def a_l_heldCell : An := .d
theorem h_l_heldCell (x : (Int × List UInt8) × Int) : fnX (P := Tryd.prog) [.see e_l_heldByteS] [] (sOf Tryd.prog Tryd.f15) a_l_heldCell (iOf Tryd.prog Tryd.f15) [(true, .P (.I
 .i64) (.L .Y)), (false, .I .i64)] [(false, .I .i64)] x = F_l_heldCell x := by kernel_rfl
noncomputable def e_l_heldCell : SEnt Tryd.prog := ⟨15, [(true, .P (.I .i64) (.L .Y)), (false, .I .i64)], [(false, .I .i64)], F_l_heldCell, runs_see mixed_Pb Tryd.func15 (by
 kernel_rfl) h_l_heldCell⟩
noncomputable def a_s_NameOk : An := (.sq none .d (.sq (some [.kt 0]) (.sq none .d (.bl (.lp [.kt 0, .lt 3 (.I .i64)] .d))) .d))
theorem h_s_NameOk (x : List UInt8) : fnX (P := Tryd.prog) [.see e_s_l1In] [] (sOf Tryd.prog Tryd.f61) a_s_NameOk (iOf Tryd.prog Tryd.f61) [(false, .S)] [(false, .B)] x =
 F_s_NameOk x := by kernel_rfl
noncomputable def e_s_NameOk : SEnt Tryd.prog := ⟨61, [(false, .S)], [(false, .B)], F_s_NameOk, runs_see mixed_Pb Tryd.func61 (by kernel_rfl) h_s_NameOk⟩
noncomputable def a_i_NameOk : An := (.sq none .d (.sq (some [.kt 0]) (.sq none .d (.bl (.lp [.kt 0, .lt 3 (.I .i64)] .d))) .d))
theorem h_i_NameOk (x : List UInt8) : fnX (P := Tryd.prog) [.see e_i_within] [] (sOf Tryd.prog Tryd.f63) a_i_NameOk (iOf Tryd.prog Tryd.f63) [(false, .S)] [(false, .B)] x =
 F_i_NameOk x := by kernel_rfl
noncomputable def e_i_NameOk : SEnt Tryd.prog := ⟨63, [(false, .S)], [(false, .B)], F_i_NameOk, runs_see mixed_Pb Tryd.func63 (by kernel_rfl) h_i_NameOk⟩
noncomputable def a_l_eqRow : An := .d
theorem h_l_eqRow (x : ((List UInt8) × (Int × List UInt8) × (Int × List UInt8) × Int × Bool) × (List UInt8) × (Int × List UInt8) × (Int × List UInt8) × Int × Bool) : fnX (P :=
 Tryd.prog) [.see e_l_eqCell] [] (sOf Tryd.prog Tryd.f18) a_l_eqRow (iOf Tryd.prog Tryd.f18) [(true, .P .S (.P (.P (.I .i64) (.L .Y)) (.P (.P (.I .i64) (.L .Y)) (.P (.I .i64)
 .B)))), (true, .P .S (.P (.P (.I .i64) (.L .Y)) (.P (.P (.I .i64) (.L .Y)) (.P (.I .i64) .B))))] [(false, .B)] x = F_l_eqRow x := by kernel_rfl
noncomputable def e_l_eqRow : SEnt Tryd.prog := ⟨18, [(true, .P .S (.P (.P (.I .i64) (.L .Y)) (.P (.P (.I .i64) (.L .Y)) (.P (.I .i64) .B)))), (true, .P .S (.P (.P (.I .i64) (.L
 .Y)) (.P (.P (.I .i64) (.L .Y)) (.P (.I .i64) .B))))], [(false, .B)], F_l_eqRow, runs_see mixed_Pb Tryd.func18 (by kernel_rfl) h_l_eqRow⟩
noncomputable def a_l_markRow : An := .d
theorem h_l_markRow (x : ((List UInt8) × (Int × List UInt8) × (Int × List UInt8) × Int × Bool) × Int) : fnG (P := Tryd.prog) [.gen e_l_markCell] [] (sOf Tryd.prog Tryd.f19)
 a_l_markRow (iOf Tryd.prog Tryd.f19) [⟨false, true, .P .S (.P (.P (.I .i64) (.L .Y)) (.P (.P (.I .i64) (.L .Y)) (.P (.I .i64) .B))), [.rd, .rd, .io, .rd, .io, .rd, .rd], none⟩,
 ⟨false, false, .I .i64, [.rd], none⟩] [(false, .I .i64)] x = F_l_markRow x := by kernel_rfl
noncomputable def e_l_markRow : GEnt Tryd.prog := ⟨19, [⟨false, true, .P .S (.P (.P (.I .i64) (.L .Y)) (.P (.P (.I .i64) (.L .Y)) (.P (.I .i64) .B))), [.rd, .rd, .io, .rd, .io,
 .rd, .rd], none⟩, ⟨false, false, .I .i64, [.rd], none⟩], [(false, .I .i64)], F_l_markRow, runs_gen mixed_Pb Tryd.func19 (by kernel_rfl) h_l_markRow⟩
noncomputable def a_l_heldRow : An := .d
theorem h_l_heldRow (x : ((List UInt8) × (Int × List UInt8) × (Int × List UInt8) × Int × Bool) × Int) : fnX (P := Tryd.prog) [.see e_l_heldCell] [] (sOf Tryd.prog Tryd.f20)
 a_l_heldRow (iOf Tryd.prog Tryd.f20) [(true, .P .S (.P (.P (.I .i64) (.L .Y)) (.P (.P (.I .i64) (.L .Y)) (.P (.I .i64) .B)))), (false, .I .i64)] [(false, .I .i64)] x =
 F_l_heldRow x := by kernel_rfl
noncomputable def e_l_heldRow : SEnt Tryd.prog := ⟨20, [(true, .P .S (.P (.P (.I .i64) (.L .Y)) (.P (.P (.I .i64) (.L .Y)) (.P (.I .i64) .B)))), (false, .I .i64)], [(false, .I
 .i64)], F_l_heldRow, runs_see mixed_Pb Tryd.func20 (by kernel_rfl) h_l_heldRow⟩
noncomputable def a_l_szByteS : An := .d
theorem h_l_szByteS (x : (List UInt8) × Int) : fnX (P := Tryd.prog) [] [] (sOf Tryd.prog Tryd.f70) a_l_szByteS (iOf Tryd.prog Tryd.f70) [(false, .L .Y), (false, .I .i64)] [(false,
 .I .i64)] x = F_l_szByteS x := by kernel_rfl
noncomputable def e_l_szByteS : SEnt Tryd.prog := ⟨70, [(false, .L .Y), (false, .I .i64)], [(false, .I .i64)], F_l_szByteS, runs_see mixed_Pb Tryd.func70 (by kernel_rfl)
 h_l_szByteS⟩
noncomputable def a_l_szCell : An := .d
theorem h_l_szCell (x : (Int × List UInt8) × Int) : fnX (P := Tryd.prog) [.see e_l_szByteS] [] (sOf Tryd.prog Tryd.f28) a_l_szCell (iOf Tryd.prog Tryd.f28) [(true, .P (.I .i64) (.L
 .Y)), (false, .I .i64)] [(false, .I .i64)] x = F_l_szCell x := by kernel_rfl
noncomputable def e_l_szCell : SEnt Tryd.prog := ⟨28, [(true, .P (.I .i64) (.L .Y)), (false, .I .i64)], [(false, .I .i64)], F_l_szCell, runs_see mixed_Pb Tryd.func28 (by
 kernel_rfl) h_l_szCell⟩
noncomputable def a_l_toByteS : An := (.sq none .d (.sq none .d (.sq (some [.sr 3 .Y]) (.sq none .d (.bl (.lp [.kt 0, .sr 3 .Y, .lt 4 (.I .i64)] .d))) .d)))
theorem h_l_toByteS (x : List UInt8) : fnX (P := Tryd.prog) [] [(7, .el .Y)] (sOf Tryd.prog Tryd.f72) a_l_toByteS (iOf Tryd.prog Tryd.f72) [(false, .L .Y)] [(false, .L .Y)] x =
 F_l_toByteS x := by kernel_rfl
noncomputable def e_l_toByteS : SEnt Tryd.prog := ⟨72, [(false, .L .Y)], [(false, .L .Y)], F_l_toByteS, runs_see mixed_Pb Tryd.func72 (by kernel_rfl) h_l_toByteS⟩
end Go.Vs
