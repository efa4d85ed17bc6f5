import Derived.Test.YtgleokjlebkdcaaDoorProg
import Derived.Test.YtgleokjlebkdcaaDoorVsPek5
set_option linter.all false
namespace Go.Vs
open Go.Proofs
set_option maxRecDepth 100000
noncomputable def a_s_l1Name:An:=.d
theorem h_s_l1Name (x:(List UInt8) × Int × Int):fnG (P:=Tryd.prog) [.gen e_s_l1Str] [(4,.el .S)] (sOf Tryd.prog Tryd.f48) a_s_l1Name (iOf Tryd.prog Tryd.f48) [⟨true,false,
 .P (.L .Y) (.P (.I .i64) (.I .i64)),[.rx,.rd,.rd],(some (.P (.I .i64) (.I .i64)))⟩] [(false,.S)] x = F_s_l1Name x:=by kernel_rfl
noncomputable def e_s_l1Name:GEnt Tryd.prog:=⟨48,[⟨true,false,.P (.L .Y) (.P (.I .i64) (.I .i64)),[.rx,.rd,.rd],(some (.P (.I .i64) (.I .i64)))⟩],[(false,.S)],
 F_s_l1Name,runs_gen mixed_Pe Tryd.func48 (by kernel_rfl) h_s_l1Name⟩
noncomputable def a_s_l1Text:An:=.d
theorem h_s_l1Text (x:(List UInt8) × Int × Int):fnG (P:=Tryd.prog) [.gen e_s_l1Str] [(4,.el .S)] (sOf Tryd.prog Tryd.f49) a_s_l1Text (iOf Tryd.prog Tryd.f49) [⟨true,false,
 .P (.L .Y) (.P (.I .i64) (.I .i64)),[.rx,.rd,.rd],(some (.P (.I .i64) (.I .i64)))⟩] [(false,.S)] x = F_s_l1Text x:=by kernel_rfl
noncomputable def e_s_l1Text:GEnt Tryd.prog:=⟨49,[⟨true,false,.P (.L .Y) (.P (.I .i64) (.I .i64)),[.rx,.rd,.rd],(some (.P (.I .i64) (.I .i64)))⟩],[(false,.S)],
 F_s_l1Text,runs_gen mixed_Pe Tryd.func49 (by kernel_rfl) h_s_l1Text⟩
noncomputable def a_s_DrawRowOf:An:=(.sq none .d (.sq none .d (.sq none .d (.sq none .d (.sq (some [.kt 6,.kt 7,.lt 8 .S,.bx 11 [.K,.L (.I .i64),.L (.I .i64)]]) .d (.sq
 none .d (.sq (some [.kt 6,.kt 7,.kt 8,.lt 9 .S,.bx 11 [.K,.L (.I .i64),.L (.I .i64)]]) .d .d)))))))
theorem h_s_DrawRowOf (x:List UInt8):fnX (P:=Tryd.prog) [.cur e_s_l1New,.gen e_s_l3Any,.gen e_s_l1Name,.gen e_s_l1Once,.gen e_s_l1Text,.gen e_s_l1Int,.gen e_s_l5Text,
 .gen e_s_l2Bent,.gen e_s_l1Below] [(24,.el (.I .i64))] (sOf Tryd.prog Tryd.f23) a_s_DrawRowOf (iOf Tryd.prog Tryd.f23) [(false,.L .Y)] [(false,.I .i64),(false,.S),(false,
 .I .i64),(false,.S)] x = F_s_DrawRowOf x:=by kernel_rfl
noncomputable def e_s_DrawRowOf:SEnt Tryd.prog:=⟨23,[(false,.L .Y)],[(false,.I .i64),(false,.S),(false,.I .i64),(false,.S)],F_s_DrawRowOf,runs_see mixed_Pe
 Tryd.func23 (by kernel_rfl) h_s_DrawRowOf⟩
noncomputable def a_i_NameOk:An:=(.sq none .d (.sq (some [.kt 0]) (.sq none .d (.bl (.lp [.kt 0,.lt 3 (.I .i64)] .d))) .d))
theorem h_i_NameOk (x:List UInt8):fnX (P:=Tryd.prog) [.see e_i_within] [] (sOf Tryd.prog Tryd.f53) a_i_NameOk (iOf Tryd.prog Tryd.f53) [(false,.S)] [(false,.B)] x =
 F_i_NameOk x:=by kernel_rfl
noncomputable def e_i_NameOk:SEnt Tryd.prog:=⟨53,[(false,.S)],[(false,.B)],F_i_NameOk,runs_see mixed_Pe Tryd.func53 (by kernel_rfl) h_i_NameOk⟩
noncomputable def a_i_RowOf:An:=(.sq none .d (.sq none .d (.sq none .d (.sq none .d (.sq none .d (.sq none .d (.sq none .d (.sq none .d (.sq (some [.kt 1,.bx 8 [.L .S,.L (.I
 .i64),.O .Y,.L (.I .i64),.O .Y,.L (.I .i64),.L .B],.kt 10,.kt 12,.kt 13,.kt 16]) (.sq none .d (.bl (.sq (some [.kt 1,.kt 8,.kt 10,.kt 12,.kt 13,.kt 14,.kt 15,.kt
 16,.kt 54,.lt 55 .B]) .d (.cd .d (.sq (some [.kt 1,.kt 8,.kt 10,.kt 12,.kt 13,.kt 14,.kt 15,.kt 16,.kt 54,.lt 62 .B]) .d .d))))) .d)))))))))
theorem h_i_RowOf (x:Int × (List UInt8) × Int × List UInt8):fnX (P:=Tryd.prog) [.see e_i_CellOf,.see e_i_within,.see e_i_NameOk] [] (sOf Tryd.prog Tryd.f24) a_i_RowOf (iOf
 Tryd.prog Tryd.f24) [(false,.I .i64),(false,.S),(false,.I .i64),(false,.S)] [(true,.P .S (.P (.P (.I .i64) (.L .Y)) (.P (.P (.I .i64) (.L .Y)) (.P (.I .i64) .B)))),
 (false,.I .i64)] x = F_i_RowOf x:=by kernel_rfl
noncomputable def e_i_RowOf:SEnt Tryd.prog:=⟨24,[(false,.I .i64),(false,.S),(false,.I .i64),(false,.S)],[(true,.P .S (.P (.P (.I .i64) (.L .Y)) (.P (.P (.I .i64) (.L
 .Y)) (.P (.I .i64) .B)))),(false,.I .i64)],F_i_RowOf,runs_see mixed_Pe Tryd.func24 (by kernel_rfl) h_i_RowOf⟩
noncomputable def a_s_NameOk:An:=(.sq none .d (.sq (some [.kt 0]) (.sq none .d (.bl (.lp [.kt 0,.lt 3 (.I .i64)] .d))) .d))
theorem h_s_NameOk (x:List UInt8):fnX (P:=Tryd.prog) [.see e_s_l1In] [] (sOf Tryd.prog Tryd.f55) a_s_NameOk (iOf Tryd.prog Tryd.f55) [(false,.S)] [(false,.B)] x =
 F_s_NameOk x:=by kernel_rfl
noncomputable def e_s_NameOk:SEnt Tryd.prog:=⟨55,[(false,.S)],[(false,.B)],F_s_NameOk,runs_see mixed_Pe Tryd.func55 (by kernel_rfl) h_s_NameOk⟩
noncomputable def a_s_RowOf:An:=(.sq none .d (.sq none .d (.sq none .d (.sq none .d (.sq (some [.kt 1,.bx 8 [.L .S,.L (.I .i64),.O .Y,.L (.I .i64),.O .Y,.L (.I .i64),.L
 .B],.kt 10,.kt 12,.kt 13]) (.sq none .d (.bl (.sq (some [.kt 1,.kt 8,.kt 10,.kt 12,.kt 13,.kt 43,.lt 44 .B]) .d (.cd .d (.sq (some [.kt 1,.kt 8,.kt 10,.kt 12,.kt 13,
 .kt 43,.lt 53 .B]) .d .d))))) .d)))))
theorem h_s_RowOf (x:Int × (List UInt8) × Int × List UInt8):fnX (P:=Tryd.prog) [.see e_s_CellOf,.see e_s_l1In,.see e_s_NameOk] [] (sOf Tryd.prog Tryd.f25) a_s_RowOf (iOf
 Tryd.prog Tryd.f25) [(false,.I .i64),(false,.S),(false,.I .i64),(false,.S)] [(true,.P .S (.P (.P (.I .i64) (.L .Y)) (.P (.P (.I .i64) (.L .Y)) (.P (.I .i64) .B)))),
 (false,.I .i64)] x = F_s_RowOf x:=by kernel_rfl
noncomputable def e_s_RowOf:SEnt Tryd.prog:=⟨25,[(false,.I .i64),(false,.S),(false,.I .i64),(false,.S)],[(true,.P .S (.P (.P (.I .i64) (.L .Y)) (.P (.P (.I .i64) (.L
 .Y)) (.P (.I .i64) .B)))),(false,.I .i64)],F_s_RowOf,runs_see mixed_Pe Tryd.func25 (by kernel_rfl) h_s_RowOf⟩
noncomputable def a_l_sameRow:An:=.d
theorem h_l_sameRow (x:((List UInt8) × (Int × List UInt8) × (Int × List UInt8) × Int × Bool) × (List UInt8) × (Int × List UInt8) × (Int × List UInt8) × Int × Bool):fnX (P :=
 Tryd.prog) [.see e_l_sameCell] [] (sOf Tryd.prog Tryd.f26) a_l_sameRow (iOf Tryd.prog Tryd.f26) [(true,.P .S (.P (.P (.I .i64) (.L .Y)) (.P (.P (.I .i64) (.L .Y)) (.P (.I .i64)
 .B)))),(true,.P .S (.P (.P (.I .i64) (.L .Y)) (.P (.P (.I .i64) (.L .Y)) (.P (.I .i64) .B))))] [(false,.B)] x = F_l_sameRow x:=by kernel_rfl
noncomputable def e_l_sameRow:SEnt Tryd.prog:=⟨26,[(true,.P .S (.P (.P (.I .i64) (.L .Y)) (.P (.P (.I .i64) (.L .Y)) (.P (.I .i64) .B)))),(true,.P .S (.P (.P (.I .i64) (.L
 .Y)) (.P (.P (.I .i64) (.L .Y)) (.P (.I .i64) .B))))],[(false,.B)],F_l_sameRow,runs_see mixed_Pe Tryd.func26 (by kernel_rfl) h_l_sameRow⟩
noncomputable def a_i_RowText:An:=.d
theorem h_i_RowText (x:(List UInt8) × (Int × List UInt8) × (Int × List UInt8) × Int × Bool):fnX (P:=Tryd.prog) [.see e_i_CellText] [] (sOf Tryd.prog Tryd.f27) a_i_RowText
 (iOf Tryd.prog Tryd.f27) [(true,.P .S (.P (.P (.I .i64) (.L .Y)) (.P (.P (.I .i64) (.L .Y)) (.P (.I .i64) .B))))] [(false,.S),(false,.B)] x = F_i_RowText x:=by kernel_rfl
noncomputable def e_i_RowText:SEnt Tryd.prog:=⟨27,[(true,.P .S (.P (.P (.I .i64) (.L .Y)) (.P (.P (.I .i64) (.L .Y)) (.P (.I .i64) .B))))],[(false,.S),(false,.B)],
 F_i_RowText,runs_see mixed_Pe Tryd.func27 (by kernel_rfl) h_i_RowText⟩
noncomputable def a_i_sameCell:An:=.d
theorem h_i_sameCell (x:(Int × List UInt8) × Int × List UInt8):fnX (P:=Tryd.prog) [] [] (sOf Tryd.prog Tryd.f56) a_i_sameCell (iOf Tryd.prog Tryd.f56) [(true,.P (.I .i64)
 (.L .Y)),(true,.P (.I .i64) (.L .Y))] [(false,.B)] x = F_i_sameCell x:=by kernel_rfl
noncomputable def e_i_sameCell:SEnt Tryd.prog:=⟨56,[(true,.P (.I .i64) (.L .Y)),(true,.P (.I .i64) (.L .Y))],[(false,.B)],F_i_sameCell,runs_see mixed_Pe Tryd.func56 (by
 kernel_rfl) h_i_sameCell⟩
noncomputable def a_i_RowOk:An:=(.sq none .d (.sq none .d (.sq none .d (.sq none .d (.sq none .d (.sq (some [.kt 1,.kt 6,.lt 7 .B]) .d (.sq none .d (.sq (some [.kt 1,.kt 7,
 .lt 8 .B]) .d .d))))))))
theorem h_i_RowOk (x:(List UInt8) × (Int × List UInt8) × (Int × List UInt8) × Int × Bool):fnX (P:=Tryd.prog) [.see e_i_NameOk,.see e_i_within,.see e_i_CellText,.see
 e_i_sameCell,.see e_i_CellOk,.see e_i_SameText] [] (sOf Tryd.prog Tryd.f28) a_i_RowOk (iOf Tryd.prog Tryd.f28) [(true,.P .S (.P (.P (.I .i64) (.L .Y)) (.P (.P (.I .i64) (.L
 .Y)) (.P (.I .i64) .B))))] [(false,.B)] x = F_i_RowOk x:=by kernel_rfl
noncomputable def e_i_RowOk:SEnt Tryd.prog:=⟨28,[(true,.P .S (.P (.P (.I .i64) (.L .Y)) (.P (.P (.I .i64) (.L .Y)) (.P (.I .i64) .B))))],[(false,.B)],F_i_RowOk,runs_see
 mixed_Pe Tryd.func28 (by kernel_rfl) h_i_RowOk⟩
noncomputable def a_s_l3Cs:An:=.d
theorem h_s_l3Cs (x:(List UInt8) × Int × Int):fnG (P:=Tryd.prog) [.gen e_s_l1Below] [] (sOf Tryd.prog Tryd.f75) a_s_l3Cs (iOf Tryd.prog Tryd.f75) [⟨true,false,.P (.L .Y)
 (.P (.I .i64) (.I .i64)),[.rx,.rd,.rd],(some (.P (.I .i64) (.I .i64)))⟩] [(false,.I .i64)] x = F_s_l3Cs x:=by kernel_rfl
noncomputable def e_s_l3Cs:GEnt Tryd.prog:=⟨75,[⟨true,false,.P (.L .Y) (.P (.I .i64) (.I .i64)),[.rx,.rd,.rd],(some (.P (.I .i64) (.I .i64)))⟩],[(false,.I .i64)],
 F_s_l3Cs,runs_gen mixed_Pe Tryd.func75 (by kernel_rfl) h_s_l3Cs⟩
noncomputable def a_s_l9Copy:An:=.d
theorem h_s_l9Copy (x:(List UInt8) × (Int × List UInt8) × (Int × List UInt8) × Int × Bool):fnX (P:=Tryd.prog) [.see e_s_l8Copy] [] (sOf Tryd.prog Tryd.f93) a_s_l9Copy (iOf
 Tryd.prog Tryd.f93) [(true,.P .S (.P (.P (.I .i64) (.L .Y)) (.P (.P (.I .i64) (.L .Y)) (.P (.I .i64) .B))))] [(true,.P .S (.P (.P (.I .i64) (.L .Y)) (.P (.P (.I .i64) (.L .Y))
 (.P (.I .i64) .B))))] x = F_s_l9Copy x:=by kernel_rfl
noncomputable def e_s_l9Copy:SEnt Tryd.prog:=⟨93,[(true,.P .S (.P (.P (.I .i64) (.L .Y)) (.P (.P (.I .i64) (.L .Y)) (.P (.I .i64) .B))))],[(true,.P .S (.P (.P (.I .i64) (.L
 .Y)) (.P (.P (.I .i64) (.L .Y)) (.P (.I .i64) .B))))],F_s_l9Copy,runs_see mixed_Pe Tryd.func93 (by kernel_rfl) h_s_l9Copy⟩
noncomputable def a_s_l9Old:An:=.d
theorem h_s_l9Old (x:(List UInt8) × (Int × List UInt8) × (Int × List UInt8) × Int × Bool):fnX (P:=Tryd.prog) [] [] (sOf Tryd.prog Tryd.f96) a_s_l9Old (iOf Tryd.prog Tryd.f96)
 [(true,.P .S (.P (.P (.I .i64) (.L .Y)) (.P (.P (.I .i64) (.L .Y)) (.P (.I .i64) .B))))] [(false,.B)] x = F_s_l9Old x:=by kernel_rfl
noncomputable def e_s_l9Old:SEnt Tryd.prog:=⟨96,[(true,.P .S (.P (.P (.I .i64) (.L .Y)) (.P (.P (.I .i64) (.L .Y)) (.P (.I .i64) .B))))],[(false,.B)],F_s_l9Old,runs_see
 mixed_Pe Tryd.func96 (by kernel_rfl) h_s_l9Old⟩
end Go.Vs
