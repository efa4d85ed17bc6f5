import Derived.Test.YtfjaomkejcpgfaaProg
import Derived.Test.YtfjaomkejcpgfaaVsPak1
set_option linter.unusedVariables false
set_option linter.unusedSimpArgs false
namespace Go.Vs
open Go.Proofs
set_option maxRecDepth 100000
set_option linter.unusedVariables false
noncomputable def a_l_eqTab : An := .d
theorem h_l_eqTab (x : ((List ((List UInt8) × (Int × List UInt8) × (Int × List UInt8) × Int × Bool)) × Int × List (Int × Int × Int)) × (List ((List UInt8) × (Int × List UInt8) ×
  (Int × List UInt8) × Int × Bool)) × Int × List (Int × Int × Int)) : fnX (P := Try.prog) [.see e_l_eqRowS, .see e_l_eqMarkS] [] (sOf Try.prog Try.f27) a_l_eqTab (iOf Try.prog
  Try.f27) [(true, .P (.L (.P .S (.P (.P (.I .i64) (.L .Y)) (.P (.P (.I .i64) (.L .Y)) (.P (.I .i64) .B))))) (.P (.I .i64) (.L (.P (.I .i64) (.P (.I .i64) (.I .i64)))))), (true, .P
  (.L (.P .S (.P (.P (.I .i64) (.L .Y)) (.P (.P (.I .i64) (.L .Y)) (.P (.I .i64) .B))))) (.P (.I .i64) (.L (.P (.I .i64) (.P (.I .i64) (.I .i64))))))] [(false, .B)] x = F_l_eqTab x
  := by kernel_rfl
noncomputable def e_l_eqTab : SEnt Try.prog := ⟨27, [(true, .P (.L (.P .S (.P (.P (.I .i64) (.L .Y)) (.P (.P (.I .i64) (.L .Y)) (.P (.I .i64) .B))))) (.P (.I .i64) (.L (.P (.I
  .i64) (.P (.I .i64) (.I .i64)))))), (true, .P (.L (.P .S (.P (.P (.I .i64) (.L .Y)) (.P (.P (.I .i64) (.L .Y)) (.P (.I .i64) .B))))) (.P (.I .i64) (.L (.P (.I .i64) (.P (.I .i64)
  (.I .i64))))))], [(false, .B)], F_l_eqTab, runs_see mixed_Pa Try.func27 (by kernel_rfl) h_l_eqTab⟩
noncomputable def a_l_markText : An := (.sq none .d (.sq none .d (.sq none .d (.sq (some [.lt 3 .S]) (.bl (.lp [.lt 0 (.I .i64), .lt 3 .S] .d)) .d))))
theorem h_l_markText (x : Int) : fnX (P := Try.prog) [] [(12, .el .Y)] (sOf Try.prog Try.f90) a_l_markText (iOf Try.prog Try.f90) [(false, .I .i64)] [(false, .S)] x = F_l_markText
  x := by kernel_rfl
noncomputable def e_l_markText : SEnt Try.prog := ⟨90, [(false, .I .i64)], [(false, .S)], F_l_markText, runs_see mixed_Pa Try.func90 (by kernel_rfl) h_l_markText⟩
noncomputable def a_l_markByteS : An := (.sq none .d (.sq (some [.sr 0 .Y, .lt 1 (.I .i64)]) (.sq none .d (.bl (.lp [.sr 0 .Y, .lt 1 (.I .i64), .lt 5 (.I .i64)] .d))) .d))
theorem h_l_markByteS (x : (List UInt8) × Int) : fnG (P := Try.prog) [] [] (sOf Try.prog Try.f91) a_l_markByteS (iOf Try.prog Try.f91) [⟨false, false, .L .Y, [.io], none⟩, ⟨false,
  false, .I .i64, [.rd], none⟩] [(false, .I .i64)] x = F_l_markByteS x := by kernel_rfl
noncomputable def e_l_markByteS : GEnt Try.prog := ⟨91, [⟨false, false, .L .Y, [.io], none⟩, ⟨false, false, .I .i64, [.rd], none⟩], [(false, .I .i64)], F_l_markByteS, runs_gen
  mixed_Pa Try.func91 (by kernel_rfl) h_l_markByteS⟩
noncomputable def a_l_markRowS : An := (.sq none .d (.sq (some [.sr 0 (.P .S (.P (.P (.I .i64) (.L .Y)) (.P (.P (.I .i64) (.L .Y)) (.P (.I .i64) .B)))), .lt 1 (.I .i64)]) (.sq none
  .d (.bl (.lp [.sr 0 (.P .S (.P (.P (.I .i64) (.L .Y)) (.P (.P (.I .i64) (.L .Y)) (.P (.I .i64) .B)))), .lt 1 (.I .i64), .lt 5 (.I .i64)] .d))) .d))
theorem h_l_markRowS (x : (List ((List UInt8) × (Int × List UInt8) × (Int × List UInt8) × Int × Bool)) × Int) : fnG (P := Try.prog) [.see e_l_markText, .gen e_l_markByteS] [] (sOf
  Try.prog Try.f88) a_l_markRowS (iOf Try.prog Try.f88) [⟨false, false, .L (.P .S (.P (.P (.I .i64) (.L .Y)) (.P (.P (.I .i64) (.L .Y)) (.P (.I .i64) .B)))), [.io], none⟩, ⟨false,
  false, .I .i64, [.rd], none⟩] [(false, .I .i64)] x = F_l_markRowS x := by kernel_rfl
noncomputable def e_l_markRowS : GEnt Try.prog := ⟨88, [⟨false, false, .L (.P .S (.P (.P (.I .i64) (.L .Y)) (.P (.P (.I .i64) (.L .Y)) (.P (.I .i64) .B)))), [.io], none⟩, ⟨false,
  false, .I .i64, [.rd], none⟩], [(false, .I .i64)], F_l_markRowS, runs_gen mixed_Pa Try.func88 (by kernel_rfl) h_l_markRowS⟩
noncomputable def a_l_markMarkS : An := (.sq none .d (.sq (some [.sr 0 (.P (.I .i64) (.P (.I .i64) (.I .i64))), .lt 1 (.I .i64)]) (.sq none .d (.bl (.lp [.sr 0 (.P (.I .i64) (.P
  (.I .i64) (.I .i64))), .lt 1 (.I .i64), .lt 5 (.I .i64)] .d))) .d))
theorem h_l_markMarkS (x : (List (Int × Int × Int)) × Int) : fnG (P := Try.prog) [] [] (sOf Try.prog Try.f89) a_l_markMarkS (iOf Try.prog Try.f89) [⟨false, false, .L (.P (.I .i64)
  (.P (.I .i64) (.I .i64))), [.io], none⟩, ⟨false, false, .I .i64, [.rd], none⟩] [(false, .I .i64)] x = F_l_markMarkS x := by kernel_rfl
noncomputable def e_l_markMarkS : GEnt Try.prog := ⟨89, [⟨false, false, .L (.P (.I .i64) (.P (.I .i64) (.I .i64))), [.io], none⟩, ⟨false, false, .I .i64, [.rd], none⟩], [(false, .I
  .i64)], F_l_markMarkS, runs_gen mixed_Pa Try.func89 (by kernel_rfl) h_l_markMarkS⟩
noncomputable def a_l_markTab : An := .d
theorem h_l_markTab (x : ((List ((List UInt8) × (Int × List UInt8) × (Int × List UInt8) × Int × Bool)) × Int × List (Int × Int × Int)) × Int) : fnG (P := Try.prog) [.gen
  e_l_markRowS, .gen e_l_markMarkS] [] (sOf Try.prog Try.f47) a_l_markTab (iOf Try.prog Try.f47) [⟨false, true, .P (.L (.P .S (.P (.P (.I .i64) (.L .Y)) (.P (.P (.I .i64) (.L .Y))
  (.P (.I .i64) .B))))) (.P (.I .i64) (.L (.P (.I .i64) (.P (.I .i64) (.I .i64))))), [.io, .rd, .io], none⟩, ⟨false, false, .I .i64, [.rd], none⟩] [(false, .I .i64)] x =
  F_l_markTab x := by kernel_rfl
noncomputable def e_l_markTab : GEnt Try.prog := ⟨47, [⟨false, true, .P (.L (.P .S (.P (.P (.I .i64) (.L .Y)) (.P (.P (.I .i64) (.L .Y)) (.P (.I .i64) .B))))) (.P (.I .i64) (.L (.P
  (.I .i64) (.P (.I .i64) (.I .i64))))), [.io, .rd, .io], none⟩, ⟨false, false, .I .i64, [.rd], none⟩], [(false, .I .i64)], F_l_markTab, runs_gen mixed_Pa Try.func47 (by
  kernel_rfl) h_l_markTab⟩
noncomputable def a_l_markRecS : An := (.sq none .d (.sq (some [.sr 0 (.P (.I .i64) (.P (.P .S (.P (.P (.I .i64) (.L .Y)) (.P (.P (.I .i64) (.L .Y)) (.P (.I .i64) .B)))) (.P .S (.P
  (.I .i64) (.P (.I .i64) (.P (.I .i64) (.I .i64))))))), .lt 1 (.I .i64)]) (.sq none .d (.bl (.lp [.sr 0 (.P (.I .i64) (.P (.P .S (.P (.P (.I .i64) (.L .Y)) (.P (.P (.I .i64) (.L
  .Y)) (.P (.I .i64) .B)))) (.P .S (.P (.I .i64) (.P (.I .i64) (.P (.I .i64) (.I .i64))))))), .lt 1 (.I .i64), .lt 5 (.I .i64)] .d))) .d))
theorem h_l_markRecS (x : (List (Int × ((List UInt8) × (Int × List UInt8) × (Int × List UInt8) × Int × Bool) × (List UInt8) × Int × Int × Int × Int)) × Int) : fnG (P := Try.prog)
  [.see e_l_markText, .gen e_l_markByteS] [] (sOf Try.prog Try.f48) a_l_markRecS (iOf Try.prog Try.f48) [⟨false, false, .L (.P (.I .i64) (.P (.P .S (.P (.P (.I .i64) (.L .Y)) (.P
  (.P (.I .i64) (.L .Y)) (.P (.I .i64) .B)))) (.P .S (.P (.I .i64) (.P (.I .i64) (.P (.I .i64) (.I .i64))))))), [.io], none⟩, ⟨false, false, .I .i64, [.rd], none⟩] [(false, .I
  .i64)] x = F_l_markRecS x := by kernel_rfl
noncomputable def e_l_markRecS : GEnt Try.prog := ⟨48, [⟨false, false, .L (.P (.I .i64) (.P (.P .S (.P (.P (.I .i64) (.L .Y)) (.P (.P (.I .i64) (.L .Y)) (.P (.I .i64) .B)))) (.P .S
  (.P (.I .i64) (.P (.I .i64) (.P (.I .i64) (.I .i64))))))), [.io], none⟩, ⟨false, false, .I .i64, [.rd], none⟩], [(false, .I .i64)], F_l_markRecS, runs_gen mixed_Pa Try.func48 (by
  kernel_rfl) h_l_markRecS⟩
noncomputable def a_l_heldByteS : An := (.sq none .d (.sq (some [.lt 1 (.I .i64)]) (.sq none .d (.bl (.lp [.kt 0, .lt 1 (.I .i64), .lt 5 (.I .i64)] .d))) .d))
theorem h_l_heldByteS (x : (List UInt8) × Int) : fnX (P := Try.prog) [] [] (sOf Try.prog Try.f92) a_l_heldByteS (iOf Try.prog Try.f92) [(false, .L .Y), (false, .I .i64)] [(false,
  .I .i64)] x = F_l_heldByteS x := by kernel_rfl
noncomputable def e_l_heldByteS : SEnt Try.prog := ⟨92, [(false, .L .Y), (false, .I .i64)], [(false, .I .i64)], F_l_heldByteS, runs_see mixed_Pa Try.func92 (by kernel_rfl)
  h_l_heldByteS⟩
noncomputable def a_l_heldRecS : An := (.sq none .d (.sq (some [.lt 1 (.I .i64)]) (.sq none .d (.bl (.lp [.kt 0, .lt 1 (.I .i64), .lt 5 (.I .i64)] .d))) .d))
theorem h_l_heldRecS (x : (List (Int × ((List UInt8) × (Int × List UInt8) × (Int × List UInt8) × Int × Bool) × (List UInt8) × Int × Int × Int × Int)) × Int) : fnX (P := Try.prog)
  [.see e_l_markText, .see e_l_heldByteS] [] (sOf Try.prog Try.f49) a_l_heldRecS (iOf Try.prog Try.f49) [(false, .L (.P (.I .i64) (.P (.P .S (.P (.P (.I .i64) (.L .Y)) (.P (.P (.I
  .i64) (.L .Y)) (.P (.I .i64) .B)))) (.P .S (.P (.I .i64) (.P (.I .i64) (.P (.I .i64) (.I .i64)))))))), (false, .I .i64)] [(false, .I .i64)] x = F_l_heldRecS x := by kernel_rfl
noncomputable def e_l_heldRecS : SEnt Try.prog := ⟨49, [(false, .L (.P (.I .i64) (.P (.P .S (.P (.P (.I .i64) (.L .Y)) (.P (.P (.I .i64) (.L .Y)) (.P (.I .i64) .B)))) (.P .S (.P
  (.I .i64) (.P (.I .i64) (.P (.I .i64) (.I .i64)))))))), (false, .I .i64)], [(false, .I .i64)], F_l_heldRecS, runs_see mixed_Pa Try.func49 (by kernel_rfl) h_l_heldRecS⟩
noncomputable def a_l_FnExactRecsOf : An := .d
theorem h_l_FnExactRecsOf (x : (List ((List UInt8) × (Int × List UInt8) × (Int × List UInt8) × Int × Bool)) × Int × List (Int × Int × Int)) : fnX (P := Try.prog) [.see e_l_szTab,
  .see e_l_toTab, .see e_s_RecsOf, .see e_i_RecsOf, .see e_l_eqRecS, .see e_l_eqTab, .gen e_l_markTab, .gen e_l_markRecS, .see e_l_heldRecS] [] (sOf Try.prog Try.f8)
  a_l_FnExactRecsOf (iOf Try.prog Try.f8) [(true, .P (.L (.P .S (.P (.P (.I .i64) (.L .Y)) (.P (.P (.I .i64) (.L .Y)) (.P (.I .i64) .B))))) (.P (.I .i64) (.L (.P (.I .i64) (.P (.I
  .i64) (.I .i64))))))] [(false, .B)] x = F_l_FnExactRecsOf x := by kernel_rfl
noncomputable def e_l_FnExactRecsOf : SEnt Try.prog := ⟨8, [(true, .P (.L (.P .S (.P (.P (.I .i64) (.L .Y)) (.P (.P (.I .i64) (.L .Y)) (.P (.I .i64) .B))))) (.P (.I .i64) (.L (.P
  (.I .i64) (.P (.I .i64) (.I .i64))))))], [(false, .B)], F_l_FnExactRecsOf, runs_see mixed_Pa Try.func8 (by kernel_rfl) h_l_FnExactRecsOf⟩
end Go.Vs
