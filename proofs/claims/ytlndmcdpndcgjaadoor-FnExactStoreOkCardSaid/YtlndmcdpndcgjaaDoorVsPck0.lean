import Derived.Test.YtlndmcdpndcgjaaDoorProg
import Derived.Test.YtlndmcdpndcgjaaDoorVsPc
set_option linter.all false
namespace Go.Vs
open Go.Proofs
set_option maxRecDepth 100000
set_option linter.unusedVariables false
theorem mixed_Pc : Tryd.prog.follows .mixedOrders = true := by kernel_rfl
noncomputable def a_l_szByteS : An := .d
theorem h_l_szByteS (x : (List UInt8) × Int) : fnX (P := Tryd.prog) [] [] (sOf Tryd.prog Tryd.f59) a_l_szByteS (iOf Tryd.prog Tryd.f59) [(false, .L .Y), (false, .I .i64)] [(false,
 .I .i64)] x = F_l_szByteS x := by kernel_rfl
noncomputable def e_l_szByteS : SEnt Tryd.prog := ⟨59, [(false, .L .Y), (false, .I .i64)], [(false, .I .i64)], F_l_szByteS, runs_see mixed_Pc Tryd.func59 (by kernel_rfl)
 h_l_szByteS⟩
noncomputable def a_l_szCell : An := .d
theorem h_l_szCell (x : (Int × List UInt8) × Int) : fnX (P := Tryd.prog) [.see e_l_szByteS] [] (sOf Tryd.prog Tryd.f14) a_l_szCell (iOf Tryd.prog Tryd.f14) [(true, .P (.I .i64) (.L
 .Y)), (false, .I .i64)] [(false, .I .i64)] x = F_l_szCell x := by kernel_rfl
noncomputable def e_l_szCell : SEnt Tryd.prog := ⟨14, [(true, .P (.I .i64) (.L .Y)), (false, .I .i64)], [(false, .I .i64)], F_l_szCell, runs_see mixed_Pc Tryd.func14 (by
 kernel_rfl) h_l_szCell⟩
noncomputable def a_l_toByteS : An := (.sq none .d (.sq none .d (.sq (some [.sr 3 .Y]) (.sq none .d (.bl (.lp [.kt 0, .sr 3 .Y, .lt 4 (.I .i64)] .d))) .d)))
theorem h_l_toByteS (x : List UInt8) : fnX (P := Tryd.prog) [] [(7, .el .Y)] (sOf Tryd.prog Tryd.f33) a_l_toByteS (iOf Tryd.prog Tryd.f33) [(false, .L .Y)] [(false, .L .Y)] x =
 F_l_toByteS x := by kernel_rfl
noncomputable def e_l_toByteS : SEnt Tryd.prog := ⟨33, [(false, .L .Y)], [(false, .L .Y)], F_l_toByteS, runs_see mixed_Pc Tryd.func33 (by kernel_rfl) h_l_toByteS⟩
noncomputable def a_l_toCell : An := .d
theorem h_l_toCell (x : Int × List UInt8) : fnX (P := Tryd.prog) [.see e_l_toByteS] [] (sOf Tryd.prog Tryd.f16) a_l_toCell (iOf Tryd.prog Tryd.f16) [(true, .P (.I .i64) (.L .Y))]
 [(true, .P (.I .i64) (.L .Y))] x = F_l_toCell x := by kernel_rfl
noncomputable def e_l_toCell : SEnt Tryd.prog := ⟨16, [(true, .P (.I .i64) (.L .Y))], [(true, .P (.I .i64) (.L .Y))], F_l_toCell, runs_see mixed_Pc Tryd.func16 (by kernel_rfl)
 h_l_toCell⟩
noncomputable def a_s_l1In : An := .d
theorem h_s_l1In (x : Int × Int × Int) : fnX (P := Tryd.prog) [] [] (sOf Tryd.prog Tryd.f64) a_s_l1In (iOf Tryd.prog Tryd.f64) [(false, .I .i64), (false, .I .i64), (false, .I
 .i64)] [(false, .B)] x = F_s_l1In x := by kernel_rfl
noncomputable def e_s_l1In : SEnt Tryd.prog := ⟨64, [(false, .I .i64), (false, .I .i64), (false, .I .i64)], [(false, .B)], F_s_l1In, runs_see mixed_Pc Tryd.func64 (by kernel_rfl)
 h_s_l1In⟩
noncomputable def a_s_l5Cs : An := .d
theorem h_s_l5Cs (x : Int) : fnX (P := Tryd.prog) [.see e_s_l1In] [] (sOf Tryd.prog Tryd.f111) a_s_l5Cs (iOf Tryd.prog Tryd.f111) [(false, .I .i64)] [(false, .B)] x = F_s_l5Cs x :=
 by kernel_rfl
noncomputable def e_s_l5Cs : SEnt Tryd.prog := ⟨111, [(false, .I .i64)], [(false, .B)], F_s_l5Cs, runs_see mixed_Pc Tryd.func111 (by kernel_rfl) h_s_l5Cs⟩
noncomputable def a_s_CellOk : An := .d
theorem h_s_CellOk (x : Int × List UInt8) : fnX (P := Tryd.prog) [.see e_s_l5Cs] [] (sOf Tryd.prog Tryd.f67) a_s_CellOk (iOf Tryd.prog Tryd.f67) [(true, .P (.I .i64) (.L .Y))]
 [(false, .B)] x = F_s_CellOk x := by kernel_rfl
noncomputable def e_s_CellOk : SEnt Tryd.prog := ⟨67, [(true, .P (.I .i64) (.L .Y))], [(false, .B)], F_s_CellOk, runs_see mixed_Pc Tryd.func67 (by kernel_rfl) h_s_CellOk⟩
noncomputable def a_s_l2Len : An := .d
theorem h_s_l2Len (x : UInt8) : fnX (P := Tryd.prog) [.see e_s_l1In] [] (sOf Tryd.prog Tryd.f148) a_s_l2Len (iOf Tryd.prog Tryd.f148) [(false, .Y)] [(false, .I .i64)] x = F_s_l2Len
 x := by kernel_rfl
noncomputable def e_s_l2Len : SEnt Tryd.prog := ⟨148, [(false, .Y)], [(false, .I .i64)], F_s_l2Len, runs_see mixed_Pc Tryd.func148 (by kernel_rfl) h_s_l2Len⟩
noncomputable def a_s_SignOk : An := .d
theorem h_s_SignOk (x : Int) : fnX (P := Tryd.prog) [.see e_s_l1In] [] (sOf Tryd.prog Tryd.f142) a_s_SignOk (iOf Tryd.prog Tryd.f142) [(false, .I .i64)] [(false, .B)] x =
 F_s_SignOk x := by kernel_rfl
noncomputable def e_s_SignOk : SEnt Tryd.prog := ⟨142, [(false, .I .i64)], [(false, .B)], F_s_SignOk, runs_see mixed_Pc Tryd.func142 (by kernel_rfl) h_s_SignOk⟩
noncomputable def a_s_PutSign : An := .d
theorem h_s_PutSign (x : (List UInt8) × Int) : fnX (P := Tryd.prog) [.see e_s_SignOk] [(6, .el .Y), (8, .el .Y), (20, .el .Y), (21, .el .Y), (34, .el .Y), (35, .el .Y), (53, .el
 .Y), (54, .el .Y), (74, .el .Y), (75, .el .Y)] (sOf Tryd.prog Tryd.f133) a_s_PutSign (iOf Tryd.prog Tryd.f133) [(false, .L .Y), (false, .I .i64)] [(false, .L .Y)] x = F_s_PutSign
 x := by kernel_rfl
noncomputable def e_s_PutSign : SEnt Tryd.prog := ⟨133, [(false, .L .Y), (false, .I .i64)], [(false, .L .Y)], F_s_PutSign, runs_see mixed_Pc Tryd.func133 (by kernel_rfl)
 h_s_PutSign⟩
noncomputable def a_s_GetSign : An := (.sq none .d (.sq none .d (.sq none .d (.sq none .d (.sq none .d (.sq (some [.kt 0, .kt 1, .kt 7, .lt 8 (.I .i64)]) .d (.sq (some [.kt 0, .kt
 1, .kt 7, .lt 8 (.I .i64)]) (.sq none .d (.bl (.lp [.kt 0, .kt 1, .kt 7, .lt 8 (.I .i64), .lt 9 (.I .i64)] .d))) .d)))))))
theorem h_s_GetSign (x : (List UInt8) × Int) : fnX (P := Tryd.prog) [.see e_s_l1In, .see e_s_l2Len, .see e_s_SignOk, .see e_s_PutSign] [(71, .el .Y)] (sOf Tryd.prog Tryd.f139)
 a_s_GetSign (iOf Tryd.prog Tryd.f139) [(false, .L .Y), (false, .I .i64)] [(false, .I .i64), (false, .I .i64), (false, .B)] x = F_s_GetSign x := by kernel_rfl
noncomputable def e_s_GetSign : SEnt Tryd.prog := ⟨139, [(false, .L .Y), (false, .I .i64)], [(false, .I .i64), (false, .I .i64), (false, .B)], F_s_GetSign, runs_see mixed_Pc
 Tryd.func139 (by kernel_rfl) h_s_GetSign⟩
noncomputable def a_s_PairSign : An := .d
theorem h_s_PairSign (x : Int × Int) : fnX (P := Tryd.prog) [.see e_s_l1In] [] (sOf Tryd.prog Tryd.f149) a_s_PairSign (iOf Tryd.prog Tryd.f149) [(false, .I .i64), (false, .I .i64)]
 [(false, .I .i64), (false, .B)] x = F_s_PairSign x := by kernel_rfl
noncomputable def e_s_PairSign : SEnt Tryd.prog := ⟨149, [(false, .I .i64), (false, .I .i64)], [(false, .I .i64), (false, .B)], F_s_PairSign, runs_see mixed_Pc Tryd.func149 (by
 kernel_rfl) h_s_PairSign⟩
noncomputable def a_s_EucSign : An := .d
theorem h_s_EucSign (x : (List UInt8) × Int) : fnX (P := Tryd.prog) [.see e_s_l1In, .see e_s_PairSign] [] (sOf Tryd.prog Tryd.f140) a_s_EucSign (iOf Tryd.prog Tryd.f140) [(false,
 .L .Y), (false, .I .i64)] [(false, .I .i64), (false, .I .i64), (false, .B)] x = F_s_EucSign x := by kernel_rfl
noncomputable def e_s_EucSign : SEnt Tryd.prog := ⟨140, [(false, .L .Y), (false, .I .i64)], [(false, .I .i64), (false, .I .i64), (false, .B)], F_s_EucSign, runs_see mixed_Pc
 Tryd.func140 (by kernel_rfl) h_s_EucSign⟩
noncomputable def a_s_l3Nine : An := .d
theorem h_s_l3Nine (x : Int) : fnX (P := Tryd.prog) [] [] (sOf Tryd.prog Tryd.f150) a_s_l3Nine (iOf Tryd.prog Tryd.f150) [(false, .I .i64)] [(false, .I .i64)] x = F_s_l3Nine x :=
 by kernel_rfl
noncomputable def e_s_l3Nine : SEnt Tryd.prog := ⟨150, [(false, .I .i64)], [(false, .I .i64)], F_s_l3Nine, runs_see mixed_Pc Tryd.func150 (by kernel_rfl) h_s_l3Nine⟩
end Go.Vs
