import Derived.Test.YtgleokjlebkdcaaDoorProg
import Derived.Test.YtgleokjlebkdcaaDoorVsPek4
set_option linter.all false
namespace Go.Vs
open Go.Proofs
set_option maxRecDepth 100000
noncomputable def a_i_Turn:An:=.d
theorem h_i_Turn (x:(Int × List UInt8) × Int):fnX (P:=Tryd.prog) [.see e_i_CellText,.see e_i_copyCell,.see e_i_CellOf] [] (sOf Tryd.prog Tryd.f14) a_i_Turn (iOf Tryd.prog
 Tryd.f14) [(true,.P (.I .i64) (.L .Y)),(false,.I .i64)] [(true,.P (.I .i64) (.L .Y)),(false,.B)] x = F_i_Turn x:=by kernel_rfl
noncomputable def e_i_Turn:SEnt Tryd.prog:=⟨14,[(true,.P (.I .i64) (.L .Y)),(false,.I .i64)],[(true,.P (.I .i64) (.L .Y)),(false,.B)],F_i_Turn,runs_see mixed_Pe
 Tryd.func14 (by kernel_rfl) h_i_Turn⟩
noncomputable def a_s_l8Copy:An:=.d
theorem h_s_l8Copy (x:Int × List UInt8):fnX (P:=Tryd.prog) [] [(5,.el .Y),(8,.el .Y)] (sOf Tryd.prog Tryd.f41) a_s_l8Copy (iOf Tryd.prog Tryd.f41) [(true,.P (.I .i64) (.L
 .Y))] [(true,.P (.I .i64) (.L .Y))] x = F_s_l8Copy x:=by kernel_rfl
noncomputable def e_s_l8Copy:SEnt Tryd.prog:=⟨41,[(true,.P (.I .i64) (.L .Y))],[(true,.P (.I .i64) (.L .Y))],F_s_l8Copy,runs_see mixed_Pe Tryd.func41 (by kernel_rfl)
 h_s_l8Copy⟩
noncomputable def a_s_Turn:An:=.d
theorem h_s_Turn (x:(Int × List UInt8) × Int):fnX (P:=Tryd.prog) [.see e_s_CellText,.see e_s_CellOf,.see e_s_l8Copy] [] (sOf Tryd.prog Tryd.f15) a_s_Turn (iOf Tryd.prog
 Tryd.f15) [(true,.P (.I .i64) (.L .Y)),(false,.I .i64)] [(true,.P (.I .i64) (.L .Y)),(false,.B)] x = F_s_Turn x:=by kernel_rfl
noncomputable def e_s_Turn:SEnt Tryd.prog:=⟨15,[(true,.P (.I .i64) (.L .Y)),(false,.I .i64)],[(true,.P (.I .i64) (.L .Y)),(false,.B)],F_s_Turn,runs_see mixed_Pe
 Tryd.func15 (by kernel_rfl) h_s_Turn⟩
noncomputable def a_s_l1Once:An:=.d
theorem h_s_l1Once (x:((List UInt8) × Int × Int) × Int):fnG (P:=Tryd.prog) [.gen e_s_l1Below] [] (sOf Tryd.prog Tryd.f43) a_s_l1Once (iOf Tryd.prog Tryd.f43) [⟨true,false,
 .P (.L .Y) (.P (.I .i64) (.I .i64)),[.rx,.rd,.rd],(some (.P (.I .i64) (.I .i64)))⟩,⟨false,false,.I .i64,[.rd],none⟩] [(false,.B)] x = F_s_l1Once x:=by kernel_rfl
noncomputable def e_s_l1Once:GEnt Tryd.prog:=⟨43,[⟨true,false,.P (.L .Y) (.P (.I .i64) (.I .i64)),[.rx,.rd,.rd],(some (.P (.I .i64) (.I .i64)))⟩,⟨false,false,.I .i64,
 [.rd],none⟩],[(false,.B)],F_s_l1Once,runs_gen mixed_Pe Tryd.func43 (by kernel_rfl) h_s_l1Once⟩
noncomputable def a_s_l2Text:An:=(.sq none .d (.sq none .d (.sq (some [.bx 0 [.K,.L (.I .i64),.L (.I .i64)],.ot 5 .Y]) (.sq none .d (.bl (.lp [.bx 0 [.K,.L (.I .i64),.L
 (.I .i64)],.ot 5 .Y,.lt 6 (.I .i64)] .d))) .d)))
theorem h_s_l2Text (x:((List UInt8) × Int × Int) × Int):fnG (P:=Tryd.prog) [.gen e_s_l1Below,.gen e_s_l2Sign,.see e_s_PutSign] [(7,.el .Y)] (sOf Tryd.prog Tryd.f72)
 a_s_l2Text (iOf Tryd.prog Tryd.f72) [⟨true,false,.P (.L .Y) (.P (.I .i64) (.I .i64)),[.rx,.rd,.rd],(some (.P (.I .i64) (.I .i64)))⟩,⟨false,false,.I .i64,[.rd],none⟩]
 [(false,.S)] x = F_s_l2Text x:=by kernel_rfl
noncomputable def e_s_l2Text:GEnt Tryd.prog:=⟨72,[⟨true,false,.P (.L .Y) (.P (.I .i64) (.I .i64)),[.rx,.rd,.rd],(some (.P (.I .i64) (.I .i64)))⟩,⟨false,false,.I .i64,
 [.rd],none⟩],[(false,.S)],F_s_l2Text,runs_gen mixed_Pe Tryd.func72 (by kernel_rfl) h_s_l2Text⟩
noncomputable def a_s_l1Str:An:=.d
theorem h_s_l1Str (x:((List UInt8) × Int × Int) × List (List UInt8)):fnG (P:=Tryd.prog) [.gen e_s_l1Below] [] (sOf Tryd.prog Tryd.f67) a_s_l1Str (iOf Tryd.prog Tryd.f67)
 [⟨true,false,.P (.L .Y) (.P (.I .i64) (.I .i64)),[.rx,.rd,.rd],(some (.P (.I .i64) (.I .i64)))⟩,⟨false,false,.L .S,[.rd],none⟩] [(false,.S)] x = F_s_l1Str x:=by
 kernel_rfl
noncomputable def e_s_l1Str:GEnt Tryd.prog:=⟨67,[⟨true,false,.P (.L .Y) (.P (.I .i64) (.I .i64)),[.rx,.rd,.rd],(some (.P (.I .i64) (.I .i64)))⟩,⟨false,false,.L .S,
 [.rd],none⟩],[(false,.S)],F_s_l1Str,runs_gen mixed_Pe Tryd.func67 (by kernel_rfl) h_s_l1Str⟩
noncomputable def a_s_l2Bent:An:=.d
theorem h_s_l2Bent (x:(List UInt8) × Int × Int):fnG (P:=Tryd.prog) [.gen e_s_l2Text,.gen e_s_l1Below,.gen e_s_l1Str,.gen e_s_l1Bend] [(12,.el .S)] (sOf Tryd.prog
 Tryd.f50) a_s_l2Bent (iOf Tryd.prog Tryd.f50) [⟨true,false,.P (.L .Y) (.P (.I .i64) (.I .i64)),[.rx,.rd,.rd],(some (.P (.I .i64) (.I .i64)))⟩] [(false,.S)] x = F_s_l2Bent
 x:=by kernel_rfl
noncomputable def e_s_l2Bent:GEnt Tryd.prog:=⟨50,[⟨true,false,.P (.L .Y) (.P (.I .i64) (.I .i64)),[.rx,.rd,.rd],(some (.P (.I .i64) (.I .i64)))⟩],[(false,.S)],
 F_s_l2Bent,runs_gen mixed_Pe Tryd.func50 (by kernel_rfl) h_s_l2Bent⟩
noncomputable def a_l_sameCell:An:=.d
theorem h_l_sameCell (x:(Int × List UInt8) × Int × List UInt8):fnX (P:=Tryd.prog) [] [] (sOf Tryd.prog Tryd.f20) a_l_sameCell (iOf Tryd.prog Tryd.f20) [(true,.P (.I .i64)
 (.L .Y)),(true,.P (.I .i64) (.L .Y))] [(false,.B)] x = F_l_sameCell x:=by kernel_rfl
noncomputable def e_l_sameCell:SEnt Tryd.prog:=⟨20,[(true,.P (.I .i64) (.L .Y)),(true,.P (.I .i64) (.L .Y))],[(false,.B)],F_l_sameCell,runs_see mixed_Pe Tryd.func20 (by
 kernel_rfl) h_l_sameCell⟩
noncomputable def a_i_SameText:An:=.d
theorem h_i_SameText (x:(Int × List UInt8) × Int × List UInt8):fnX (P:=Tryd.prog) [.see e_i_CellText] [] (sOf Tryd.prog Tryd.f21) a_i_SameText (iOf Tryd.prog Tryd.f21)
 [(true,.P (.I .i64) (.L .Y)),(true,.P (.I .i64) (.L .Y))] [(false,.B)] x = F_i_SameText x:=by kernel_rfl
noncomputable def e_i_SameText:SEnt Tryd.prog:=⟨21,[(true,.P (.I .i64) (.L .Y)),(true,.P (.I .i64) (.L .Y))],[(false,.B)],F_i_SameText,runs_see mixed_Pe Tryd.func21 (by
 kernel_rfl) h_i_SameText⟩
noncomputable def a_s_SameText:An:=.d
theorem h_s_SameText (x:(Int × List UInt8) × Int × List UInt8):fnX (P:=Tryd.prog) [.see e_s_CellText] [] (sOf Tryd.prog Tryd.f22) a_s_SameText (iOf Tryd.prog Tryd.f22)
 [(true,.P (.I .i64) (.L .Y)),(true,.P (.I .i64) (.L .Y))] [(false,.B)] x = F_s_SameText x:=by kernel_rfl
noncomputable def e_s_SameText:SEnt Tryd.prog:=⟨22,[(true,.P (.I .i64) (.L .Y)),(true,.P (.I .i64) (.L .Y))],[(false,.B)],F_s_SameText,runs_see mixed_Pe Tryd.func22 (by
 kernel_rfl) h_s_SameText⟩
end Go.Vs
