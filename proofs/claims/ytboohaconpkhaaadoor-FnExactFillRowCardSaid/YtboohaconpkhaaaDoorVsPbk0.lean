import Derived.Test.YtboohaconpkhaaaDoorProg
import Derived.Test.YtboohaconpkhaaaDoorVsPb
set_option linter.all false
namespace Go.Vs
open Go.Proofs
set_option maxRecDepth 100000
set_option linter.unusedVariables false
theorem mixed_Pb : Tryd.prog.follows .mixedOrders = true := by kernel_rfl
noncomputable def a_s_l1In : An := .d
theorem h_s_l1In (x : Int × Int × Int) : fnX (P := Tryd.prog) [] [] (sOf Tryd.prog Tryd.f60) a_s_l1In (iOf Tryd.prog Tryd.f60) [(false, .I .i64), (false, .I .i64), (false, .I
 .i64)] [(false, .B)] x = F_s_l1In x := by kernel_rfl
noncomputable def e_s_l1In : SEnt Tryd.prog := ⟨60, [(false, .I .i64), (false, .I .i64), (false, .I .i64)], [(false, .B)], F_s_l1In, runs_see mixed_Pb Tryd.func60 (by kernel_rfl)
 h_s_l1In⟩
noncomputable def a_s_l2Len : An := .d
theorem h_s_l2Len (x : UInt8) : fnX (P := Tryd.prog) [.see e_s_l1In] [] (sOf Tryd.prog Tryd.f142) a_s_l2Len (iOf Tryd.prog Tryd.f142) [(false, .Y)] [(false, .I .i64)] x = F_s_l2Len
 x := by kernel_rfl
noncomputable def e_s_l2Len : SEnt Tryd.prog := ⟨142, [(false, .Y)], [(false, .I .i64)], F_s_l2Len, runs_see mixed_Pb Tryd.func142 (by kernel_rfl) h_s_l2Len⟩
noncomputable def a_s_SignOk : An := .d
theorem h_s_SignOk (x : Int) : fnX (P := Tryd.prog) [.see e_s_l1In] [] (sOf Tryd.prog Tryd.f128) a_s_SignOk (iOf Tryd.prog Tryd.f128) [(false, .I .i64)] [(false, .B)] x =
 F_s_SignOk x := by kernel_rfl
noncomputable def e_s_SignOk : SEnt Tryd.prog := ⟨128, [(false, .I .i64)], [(false, .B)], F_s_SignOk, runs_see mixed_Pb Tryd.func128 (by kernel_rfl) h_s_SignOk⟩
noncomputable def a_s_PutSign : An := .d
theorem h_s_PutSign (x : (List UInt8) × Int) : fnX (P := Tryd.prog) [.see e_s_SignOk] [(6, .el .Y), (8, .el .Y), (20, .el .Y), (21, .el .Y), (34, .el .Y), (35, .el .Y), (53, .el
 .Y), (54, .el .Y), (74, .el .Y), (75, .el .Y)] (sOf Tryd.prog Tryd.f110) a_s_PutSign (iOf Tryd.prog Tryd.f110) [(false, .L .Y), (false, .I .i64)] [(false, .L .Y)] x = F_s_PutSign
 x := by kernel_rfl
noncomputable def e_s_PutSign : SEnt Tryd.prog := ⟨110, [(false, .L .Y), (false, .I .i64)], [(false, .L .Y)], F_s_PutSign, runs_see mixed_Pb Tryd.func110 (by kernel_rfl)
 h_s_PutSign⟩
noncomputable def a_s_GetSign : An := (.sq none .d (.sq none .d (.sq none .d (.sq none .d (.sq none .d (.sq (some [.kt 0, .kt 1, .kt 7, .lt 8 (.I .i64)]) .d (.sq (some [.kt 0, .kt
 1, .kt 7, .lt 8 (.I .i64)]) (.sq none .d (.bl (.lp [.kt 0, .kt 1, .kt 7, .lt 8 (.I .i64), .lt 9 (.I .i64)] .d))) .d)))))))
theorem h_s_GetSign (x : (List UInt8) × Int) : fnX (P := Tryd.prog) [.see e_s_l1In, .see e_s_l2Len, .see e_s_SignOk, .see e_s_PutSign] [(71, .el .Y)] (sOf Tryd.prog Tryd.f127)
 a_s_GetSign (iOf Tryd.prog Tryd.f127) [(false, .L .Y), (false, .I .i64)] [(false, .I .i64), (false, .I .i64), (false, .B)] x = F_s_GetSign x := by kernel_rfl
noncomputable def e_s_GetSign : SEnt Tryd.prog := ⟨127, [(false, .L .Y), (false, .I .i64)], [(false, .I .i64), (false, .I .i64), (false, .B)], F_s_GetSign, runs_see mixed_Pb
 Tryd.func127 (by kernel_rfl) h_s_GetSign⟩
noncomputable def a_s_Signs : An := (.sq none .d (.sq none .d (.sq none .d (.sq (some [.ot 4 (.I .i64)]) (.sq none .d (.bl (.lp [.ot 4 (.I .i64), .kt 5, .lt 6 (.I .i64)] .d)))
 .d))))
theorem h_s_Signs (x : List UInt8) : fnX (P := Tryd.prog) [.see e_s_GetSign] [(10, .el (.I .i64)), (26, .el (.I .i64)), (29, .el (.I .i64)), (30, .el (.I .i64))] (sOf Tryd.prog
 Tryd.f101) a_s_Signs (iOf Tryd.prog Tryd.f101) [(false, .S)] [(false, .L (.I .i64)), (false, .B)] x = F_s_Signs x := by kernel_rfl
noncomputable def e_s_Signs : SEnt Tryd.prog := ⟨101, [(false, .S)], [(false, .L (.I .i64)), (false, .B)], F_s_Signs, runs_see mixed_Pb Tryd.func101 (by kernel_rfl) h_s_Signs⟩
noncomputable def a_s_l5Cs : An := .d
theorem h_s_l5Cs (x : Int) : fnX (P := Tryd.prog) [.see e_s_l1In] [] (sOf Tryd.prog Tryd.f69) a_s_l5Cs (iOf Tryd.prog Tryd.f69) [(false, .I .i64)] [(false, .B)] x = F_s_l5Cs x :=
 by kernel_rfl
noncomputable def e_s_l5Cs : SEnt Tryd.prog := ⟨69, [(false, .I .i64)], [(false, .B)], F_s_l5Cs, runs_see mixed_Pb Tryd.func69 (by kernel_rfl) h_s_l5Cs⟩
noncomputable def a_s_SignPair : An := .d
theorem h_s_SignPair (x : Int) : fnX (P := Tryd.prog) [.see e_s_l1In] [] (sOf Tryd.prog Tryd.f143) a_s_SignPair (iOf Tryd.prog Tryd.f143) [(false, .I .i64)] [(false, .I .i64),
 (false, .I .i64), (false, .B)] x = F_s_SignPair x := by kernel_rfl
noncomputable def e_s_SignPair : SEnt Tryd.prog := ⟨143, [(false, .I .i64)], [(false, .I .i64), (false, .I .i64), (false, .B)], F_s_SignPair, runs_see mixed_Pb Tryd.func143 (by
 kernel_rfl) h_s_SignPair⟩
noncomputable def a_s_PutEuc : An := .d
theorem h_s_PutEuc (x : (List UInt8) × Int) : fnX (P := Tryd.prog) [.see e_s_l1In, .see e_s_SignPair] [(10, .el .Y), (12, .el .Y), (18, .el .Y), (19, .el .Y), (34, .el .Y), (35,
 .el .Y)] (sOf Tryd.prog Tryd.f129) a_s_PutEuc (iOf Tryd.prog Tryd.f129) [(false, .L .Y), (false, .I .i64)] [(false, .L .Y), (false, .B)] x = F_s_PutEuc x := by kernel_rfl
noncomputable def e_s_PutEuc : SEnt Tryd.prog := ⟨129, [(false, .L .Y), (false, .I .i64)], [(false, .L .Y), (false, .B)], F_s_PutEuc, runs_see mixed_Pb Tryd.func129 (by kernel_rfl)
 h_s_PutEuc⟩
noncomputable def a_s_l3Nine : An := .d
theorem h_s_l3Nine (x : Int) : fnX (P := Tryd.prog) [] [] (sOf Tryd.prog Tryd.f153) a_s_l3Nine (iOf Tryd.prog Tryd.f153) [(false, .I .i64)] [(false, .I .i64)] x = F_s_l3Nine x :=
 by kernel_rfl
noncomputable def e_s_l3Nine : SEnt Tryd.prog := ⟨153, [(false, .I .i64)], [(false, .I .i64)], F_s_l3Nine, runs_see mixed_Pb Tryd.func153 (by kernel_rfl) h_s_l3Nine⟩
noncomputable def a_s_l3Koi : An := .d
theorem h_s_l3Koi (x : Int) : fnX (P := Tryd.prog) [] [(4, .el (.I .i64))] (sOf Tryd.prog Tryd.f154) a_s_l3Koi (iOf Tryd.prog Tryd.f154) [(false, .I .i64)] [(false, .I .i64)] x =
 F_s_l3Koi x := by kernel_rfl
noncomputable def e_s_l3Koi : SEnt Tryd.prog := ⟨154, [(false, .I .i64)], [(false, .I .i64)], F_s_l3Koi, runs_see mixed_Pb Tryd.func154 (by kernel_rfl) h_s_l3Koi⟩
noncomputable def a_s_l3Win : An := .d
theorem h_s_l3Win (x : Int) : fnX (P := Tryd.prog) [] [(4, .el (.I .i64))] (sOf Tryd.prog Tryd.f155) a_s_l3Win (iOf Tryd.prog Tryd.f155) [(false, .I .i64)] [(false, .I .i64)] x =
 F_s_l3Win x := by kernel_rfl
noncomputable def e_s_l3Win : SEnt Tryd.prog := ⟨155, [(false, .I .i64)], [(false, .I .i64)], F_s_l3Win, runs_see mixed_Pb Tryd.func155 (by kernel_rfl) h_s_l3Win⟩
noncomputable def a_s_ByteSign : An := (.sq none .d (.sq none .d (.sq none .d (.sq (some [.lt 6 (.I .i64)]) .d .d))))
theorem h_s_ByteSign (x : Int × Int) : fnX (P := Tryd.prog) [.see e_s_l1In, .see e_s_l3Nine, .see e_s_l3Koi, .see e_s_l3Win] [] (sOf Tryd.prog Tryd.f140) a_s_ByteSign (iOf
 Tryd.prog Tryd.f140) [(false, .I .i64), (false, .I .i64)] [(false, .I .i64), (false, .B)] x = F_s_ByteSign x := by kernel_rfl
noncomputable def e_s_ByteSign : SEnt Tryd.prog := ⟨140, [(false, .I .i64), (false, .I .i64)], [(false, .I .i64), (false, .B)], F_s_ByteSign, runs_see mixed_Pb Tryd.func140 (by
 kernel_rfl) h_s_ByteSign⟩
noncomputable def a_s_SignByte : An := (.sq none .d (.sq (some []) (.sq none .d (.bl (.lp [.kt 0, .kt 1, .lt 6 (.I .i64)] .d))) .d))
theorem h_s_SignByte (x : Int × Int) : fnX (P := Tryd.prog) [.see e_s_ByteSign] [] (sOf Tryd.prog Tryd.f130) a_s_SignByte (iOf Tryd.prog Tryd.f130) [(false, .I .i64), (false, .I
 .i64)] [(false, .I .i64), (false, .B)] x = F_s_SignByte x := by kernel_rfl
noncomputable def e_s_SignByte : SEnt Tryd.prog := ⟨130, [(false, .I .i64), (false, .I .i64)], [(false, .I .i64), (false, .B)], F_s_SignByte, runs_see mixed_Pb Tryd.func130 (by
 kernel_rfl) h_s_SignByte⟩
end Go.Vs
