import Derived.Test.YtboohaconpkhaaaDoorProg
import Derived.Test.YtboohaconpkhaaaDoorVsPrk0
set_option linter.all false
namespace Go.Vs
open Go.Proofs
set_option maxRecDepth 100000
set_option linter.unusedVariables false
noncomputable def a_s_l5Cs : An := .d
theorem h_s_l5Cs (x : Int) : fnX (P := Tryd.prog) [.see e_s_l1In] [] (sOf Tryd.prog Tryd.f69) a_s_l5Cs (iOf Tryd.prog Tryd.f69) [(false, .I .i64)] [(false, .B)] x = F_s_l5Cs x :=
 by kernel_rfl
noncomputable def e_s_l5Cs : SEnt Tryd.prog := ⟨69, [(false, .I .i64)], [(false, .B)], F_s_l5Cs, runs_see mixed_Pr Tryd.func69 (by kernel_rfl) h_s_l5Cs⟩
noncomputable def a_s_CellOk : An := .d
theorem h_s_CellOk (x : Int × List UInt8) : fnX (P := Tryd.prog) [.see e_s_l5Cs] [] (sOf Tryd.prog Tryd.f27) a_s_CellOk (iOf Tryd.prog Tryd.f27) [(true, .P (.I .i64) (.L .Y))]
 [(false, .B)] x = F_s_CellOk x := by kernel_rfl
noncomputable def e_s_CellOk : SEnt Tryd.prog := ⟨27, [(true, .P (.I .i64) (.L .Y))], [(false, .B)], F_s_CellOk, runs_see mixed_Pr Tryd.func27 (by kernel_rfl) h_s_CellOk⟩
noncomputable def a_s_l2Len : An := .d
theorem h_s_l2Len (x : UInt8) : fnX (P := Tryd.prog) [.see e_s_l1In] [] (sOf Tryd.prog Tryd.f142) a_s_l2Len (iOf Tryd.prog Tryd.f142) [(false, .Y)] [(false, .I .i64)] x = F_s_l2Len
 x := by kernel_rfl
noncomputable def e_s_l2Len : SEnt Tryd.prog := ⟨142, [(false, .Y)], [(false, .I .i64)], F_s_l2Len, runs_see mixed_Pr Tryd.func142 (by kernel_rfl) h_s_l2Len⟩
noncomputable def a_s_SignOk : An := .d
theorem h_s_SignOk (x : Int) : fnX (P := Tryd.prog) [.see e_s_l1In] [] (sOf Tryd.prog Tryd.f128) a_s_SignOk (iOf Tryd.prog Tryd.f128) [(false, .I .i64)] [(false, .B)] x =
 F_s_SignOk x := by kernel_rfl
noncomputable def e_s_SignOk : SEnt Tryd.prog := ⟨128, [(false, .I .i64)], [(false, .B)], F_s_SignOk, runs_see mixed_Pr Tryd.func128 (by kernel_rfl) h_s_SignOk⟩
noncomputable def a_s_PutSign : An := .d
theorem h_s_PutSign (x : (List UInt8) × Int) : fnX (P := Tryd.prog) [.see e_s_SignOk] [(6, .el .Y), (8, .el .Y), (20, .el .Y), (21, .el .Y), (34, .el .Y), (35, .el .Y), (53, .el
 .Y), (54, .el .Y), (74, .el .Y), (75, .el .Y)] (sOf Tryd.prog Tryd.f110) a_s_PutSign (iOf Tryd.prog Tryd.f110) [(false, .L .Y), (false, .I .i64)] [(false, .L .Y)] x = F_s_PutSign
 x := by kernel_rfl
noncomputable def e_s_PutSign : SEnt Tryd.prog := ⟨110, [(false, .L .Y), (false, .I .i64)], [(false, .L .Y)], F_s_PutSign, runs_see mixed_Pr Tryd.func110 (by kernel_rfl)
 h_s_PutSign⟩
noncomputable def a_s_GetSign : An := (.sq none .d (.sq none .d (.sq none .d (.sq none .d (.sq none .d (.sq (some [.kt 0, .kt 1, .kt 7, .lt 8 (.I .i64)]) .d (.sq (some [.kt 0, .kt
 1, .kt 7, .lt 8 (.I .i64)]) (.sq none .d (.bl (.lp [.kt 0, .kt 1, .kt 7, .lt 8 (.I .i64), .lt 9 (.I .i64)] .d))) .d)))))))
theorem h_s_GetSign (x : (List UInt8) × Int) : fnX (P := Tryd.prog) [.see e_s_l1In, .see e_s_l2Len, .see e_s_SignOk, .see e_s_PutSign] [(71, .el .Y)] (sOf Tryd.prog Tryd.f127)
 a_s_GetSign (iOf Tryd.prog Tryd.f127) [(false, .L .Y), (false, .I .i64)] [(false, .I .i64), (false, .I .i64), (false, .B)] x = F_s_GetSign x := by kernel_rfl
noncomputable def e_s_GetSign : SEnt Tryd.prog := ⟨127, [(false, .L .Y), (false, .I .i64)], [(false, .I .i64), (false, .I .i64), (false, .B)], F_s_GetSign, runs_see mixed_Pr
 Tryd.func127 (by kernel_rfl) h_s_GetSign⟩
noncomputable def a_s_PairSign : An := .d
theorem h_s_PairSign (x : Int × Int) : fnX (P := Tryd.prog) [.see e_s_l1In] [] (sOf Tryd.prog Tryd.f152) a_s_PairSign (iOf Tryd.prog Tryd.f152) [(false, .I .i64), (false, .I .i64)]
 [(false, .I .i64), (false, .B)] x = F_s_PairSign x := by kernel_rfl
noncomputable def e_s_PairSign : SEnt Tryd.prog := ⟨152, [(false, .I .i64), (false, .I .i64)], [(false, .I .i64), (false, .B)], F_s_PairSign, runs_see mixed_Pr Tryd.func152 (by
 kernel_rfl) h_s_PairSign⟩
noncomputable def a_s_EucSign : An := .d
theorem h_s_EucSign (x : (List UInt8) × Int) : fnX (P := Tryd.prog) [.see e_s_l1In, .see e_s_PairSign] [] (sOf Tryd.prog Tryd.f139) a_s_EucSign (iOf Tryd.prog Tryd.f139) [(false,
 .L .Y), (false, .I .i64)] [(false, .I .i64), (false, .I .i64), (false, .B)] x = F_s_EucSign x := by kernel_rfl
noncomputable def e_s_EucSign : SEnt Tryd.prog := ⟨139, [(false, .L .Y), (false, .I .i64)], [(false, .I .i64), (false, .I .i64), (false, .B)], F_s_EucSign, runs_see mixed_Pr
 Tryd.func139 (by kernel_rfl) h_s_EucSign⟩
noncomputable def a_s_l3Nine : An := .d
theorem h_s_l3Nine (x : Int) : fnX (P := Tryd.prog) [] [] (sOf Tryd.prog Tryd.f153) a_s_l3Nine (iOf Tryd.prog Tryd.f153) [(false, .I .i64)] [(false, .I .i64)] x = F_s_l3Nine x :=
 by kernel_rfl
noncomputable def e_s_l3Nine : SEnt Tryd.prog := ⟨153, [(false, .I .i64)], [(false, .I .i64)], F_s_l3Nine, runs_see mixed_Pr Tryd.func153 (by kernel_rfl) h_s_l3Nine⟩
noncomputable def a_s_l3Koi : An := .d
theorem h_s_l3Koi (x : Int) : fnX (P := Tryd.prog) [] [(4, .el (.I .i64))] (sOf Tryd.prog Tryd.f154) a_s_l3Koi (iOf Tryd.prog Tryd.f154) [(false, .I .i64)] [(false, .I .i64)] x =
 F_s_l3Koi x := by kernel_rfl
noncomputable def e_s_l3Koi : SEnt Tryd.prog := ⟨154, [(false, .I .i64)], [(false, .I .i64)], F_s_l3Koi, runs_see mixed_Pr Tryd.func154 (by kernel_rfl) h_s_l3Koi⟩
noncomputable def a_s_l3Win : An := .d
theorem h_s_l3Win (x : Int) : fnX (P := Tryd.prog) [] [(4, .el (.I .i64))] (sOf Tryd.prog Tryd.f155) a_s_l3Win (iOf Tryd.prog Tryd.f155) [(false, .I .i64)] [(false, .I .i64)] x =
 F_s_l3Win x := by kernel_rfl
noncomputable def e_s_l3Win : SEnt Tryd.prog := ⟨155, [(false, .I .i64)], [(false, .I .i64)], F_s_l3Win, runs_see mixed_Pr Tryd.func155 (by kernel_rfl) h_s_l3Win⟩
noncomputable def a_s_ByteSign : An := (.sq none .d (.sq none .d (.sq none .d (.sq (some [.lt 6 (.I .i64)]) .d .d))))
theorem h_s_ByteSign (x : Int × Int) : fnX (P := Tryd.prog) [.see e_s_l1In, .see e_s_l3Nine, .see e_s_l3Koi, .see e_s_l3Win] [] (sOf Tryd.prog Tryd.f140) a_s_ByteSign (iOf
 Tryd.prog Tryd.f140) [(false, .I .i64), (false, .I .i64)] [(false, .I .i64), (false, .B)] x = F_s_ByteSign x := by kernel_rfl
noncomputable def e_s_ByteSign : SEnt Tryd.prog := ⟨140, [(false, .I .i64), (false, .I .i64)], [(false, .I .i64), (false, .B)], F_s_ByteSign, runs_see mixed_Pr Tryd.func140 (by
 kernel_rfl) h_s_ByteSign⟩
noncomputable def a_s_l5Get : An := .d
theorem h_s_l5Get (x : Int × (List UInt8) × Int) : fnX (P := Tryd.prog) [.see e_s_GetSign, .see e_s_EucSign, .see e_s_ByteSign] [] (sOf Tryd.prog Tryd.f109) a_s_l5Get (iOf
 Tryd.prog Tryd.f109) [(false, .I .i64), (false, .L .Y), (false, .I .i64)] [(false, .I .i64), (false, .I .i64), (false, .B)] x = F_s_l5Get x := by kernel_rfl
noncomputable def e_s_l5Get : SEnt Tryd.prog := ⟨109, [(false, .I .i64), (false, .L .Y), (false, .I .i64)], [(false, .I .i64), (false, .I .i64), (false, .B)], F_s_l5Get, runs_see
 mixed_Pr Tryd.func109 (by kernel_rfl) h_s_l5Get⟩
noncomputable def a_s_Decode : An := (.sq none .d (.sq none .d (.sq none .d (.sq (some [.ot 6 .Y]) (.sq none .d (.bl (.lp [.kt 0, .kt 1, .ot 6 .Y, .lt 7 (.I .i64)] .d))) .d))))
theorem h_s_Decode (x : Int × List UInt8) : fnX (P := Tryd.prog) [.see e_s_l5Cs, .see e_s_l5Get, .see e_s_PutSign] [(11, .el .Y)] (sOf Tryd.prog Tryd.f67) a_s_Decode (iOf Tryd.prog
 Tryd.f67) [(false, .I .i64), (false, .L .Y)] [(false, .S), (false, .B)] x = F_s_Decode x := by kernel_rfl
noncomputable def e_s_Decode : SEnt Tryd.prog := ⟨67, [(false, .I .i64), (false, .L .Y)], [(false, .S), (false, .B)], F_s_Decode, runs_see mixed_Pr Tryd.func67 (by kernel_rfl)
 h_s_Decode⟩
end Go.Vs
