import Derived.Test.YtggfmlobpmndoaaGreatDoorProg
import Derived.Test.YtggfmlobpmndoaaGreatDoorVsPgk6
set_option linter.all false
namespace Go.Vs
open Go.Proofs
set_option maxRecDepth 100000
noncomputable def a_s_GetW:An:=.d
theorem h_s_GetW (x:(List UInt8)×Int):fnX (P:=Tryz.prog) [.see e_s_l1In] [] (sOf Tryz.prog Tryz.f161) a_s_GetW (iOf Tryz.prog Tryz.f161) [(false,.L .Y),(false,.I .i64)]
 [(false,.I .i64),(false,.I .i64),(false,.B)] x=F_s_GetW x:=by kernel_rfl
noncomputable def e_s_GetW:SEnt Tryz.prog:=⟨161,[(false,.L .Y),(false,.I .i64)],[(false,.I .i64),(false,.I .i64),(false,.B)],F_s_GetW,runs_see mixed_Pg Tryz.func161
 (by kernel_rfl) h_s_GetW⟩
noncomputable def a_s_GetText:An:=.d
theorem h_s_GetText (x:(List UInt8)×Int):fnX (P:=Tryz.prog) [.see e_s_GetW] [] (sOf Tryz.prog Tryz.f213) a_s_GetText (iOf Tryz.prog Tryz.f213) [(false,.L .Y),(false,.I
 .i64)] [(false,.S),(false,.I .i64),(false,.B)] x=F_s_GetText x:=by kernel_rfl
noncomputable def e_s_GetText:SEnt Tryz.prog:=⟨213,[(false,.L .Y),(false,.I .i64)],[(false,.S),(false,.I .i64),(false,.B)],F_s_GetText,runs_see mixed_Pg
 Tryz.func213 (by kernel_rfl) h_s_GetText⟩
noncomputable def a_s_l11Text:An:=.d
theorem h_s_l11Text (x:(List UInt8)×Int×Bool):fnG (P:=Tryz.prog) [.see e_s_GetText] [] (sOf Tryz.prog Tryz.f160) a_s_l11Text (iOf Tryz.prog Tryz.f160) [⟨true,false,.P
 (.L .Y) (.P (.I .i64) .B),[.rx,.rd,.rd],(some (.P (.I .i64) .B))⟩] [(false,.S)] x=F_s_l11Text x:=by kernel_rfl
noncomputable def e_s_l11Text:GEnt Tryz.prog:=⟨160,[⟨true,false,.P (.L .Y) (.P (.I .i64) .B),[.rx,.rd,.rd],(some (.P (.I .i64) .B))⟩],[(false,.S)],F_s_l11Text,
 runs_gen mixed_Pg Tryz.func160 (by kernel_rfl) h_s_l11Text⟩
noncomputable def a_s_l11Byte:An:=.d
theorem h_s_l11Byte (x:(List UInt8)×Int×Bool):fnG (P:=Tryz.prog) [] [] (sOf Tryz.prog Tryz.f159) a_s_l11Byte (iOf Tryz.prog Tryz.f159) [⟨true,false,.P (.L .Y) (.P (.I
 .i64) .B),[.rx,.rd,.rd],(some (.P (.I .i64) .B))⟩] [(false,.I .i64)] x=F_s_l11Byte x:=by kernel_rfl
noncomputable def e_s_l11Byte:GEnt Tryz.prog:=⟨159,[⟨true,false,.P (.L .Y) (.P (.I .i64) .B),[.rx,.rd,.rd],(some (.P (.I .i64) .B))⟩],[(false,.I .i64)],F_s_l11Byte,
 runs_gen mixed_Pg Tryz.func159 (by kernel_rfl) h_s_l11Byte⟩
noncomputable def a_s_l11GetCell:An:=.d
theorem h_s_l11GetCell (x:(List UInt8)×Int×Bool):fnG (P:=Tryz.prog) [.gen e_s_l11Byte,.gen e_s_l11Text] [] (sOf Tryz.prog Tryz.f177) a_s_l11GetCell (iOf Tryz.prog
 Tryz.f177) [⟨true,false,.P (.L .Y) (.P (.I .i64) .B),[.rx,.rd,.rd],(some (.P (.I .i64) .B))⟩] [(true,.P (.I .i64) (.L .Y))] x=F_s_l11GetCell x:=by kernel_rfl
noncomputable def e_s_l11GetCell:GEnt Tryz.prog:=⟨177,[⟨true,false,.P (.L .Y) (.P (.I .i64) .B),[.rx,.rd,.rd],(some (.P (.I .i64) .B))⟩],[(true,.P (.I .i64) (.L .Y))],
 F_s_l11GetCell,runs_gen mixed_Pg Tryz.func177 (by kernel_rfl) h_s_l11GetCell⟩
noncomputable def a_s_l11GetRow:An:=(.sq none .d (.sq none .d (.sq none .d (.sq none .d (.sq none .d (.sq none .d (.sq (some [.bx 0 [.K,.L (.I .i64),.L .B],.kt 2,.bx 3 [.K,
 .L (.I .i64),.O .Y,.K,.K,.K,.K]]) .d (.sq (some [.bx 0 [.K,.L (.I .i64),.L .B],.kt 2,.bx 3 [.K,.K,.K,.L (.I .i64),.O .Y,.K,.K]]) .d .d))))))))
theorem h_s_l11GetRow (x:(List UInt8)×Int×Bool):fnG (P:=Tryz.prog) [.gen e_s_l11Text,.gen e_s_l11Byte,.see e_s_l9Old,.gen e_s_l11GetCell,.see e_s_l9New] [] (sOf
 Tryz.prog Tryz.f90) a_s_l11GetRow (iOf Tryz.prog Tryz.f90) [⟨true,false,.P (.L .Y) (.P (.I .i64) .B),[.rx,.rd,.rd],(some (.P (.I .i64) .B))⟩] [(true,.P .S (.P (.P (.I
 .i64) (.L .Y)) (.P (.P (.I .i64) (.L .Y)) (.P (.I .i64) .B))))] x=F_s_l11GetRow x:=by kernel_rfl
noncomputable def e_s_l11GetRow:GEnt Tryz.prog:=⟨90,[⟨true,false,.P (.L .Y) (.P (.I .i64) .B),[.rx,.rd,.rd],(some (.P (.I .i64) .B))⟩],[(true,.P .S (.P (.P (.I .i64)
 (.L .Y)) (.P (.P (.I .i64) (.L .Y)) (.P (.I .i64) .B))))],F_s_l11GetRow,runs_gen mixed_Pg Tryz.func90 (by kernel_rfl) h_s_l11GetRow⟩
noncomputable def a_l_sameCell:An:=.d
theorem h_l_sameCell (x:(Int×List UInt8)×Int×List UInt8):fnX (P:=Tryz.prog) [] [] (sOf Tryz.prog Tryz.f34) a_l_sameCell (iOf Tryz.prog Tryz.f34) [(true,.P (.I .i64)
 (.L .Y)),(true,.P (.I .i64) (.L .Y))] [(false,.B)] x=F_l_sameCell x:=by kernel_rfl
noncomputable def e_l_sameCell:SEnt Tryz.prog:=⟨34,[(true,.P (.I .i64) (.L .Y)),(true,.P (.I .i64) (.L .Y))],[(false,.B)],F_l_sameCell,runs_see mixed_Pg Tryz.func34 (by
 kernel_rfl) h_l_sameCell⟩
noncomputable def a_l_sameRow:An:=.d
theorem h_l_sameRow (x:((List UInt8)×(Int×List UInt8)×(Int×List UInt8)×Int×Bool)×(List UInt8)×(Int×List UInt8)×(Int×List UInt8)×Int×Bool):fnX (P :=
 Tryz.prog) [.see e_l_sameCell] [] (sOf Tryz.prog Tryz.f18) a_l_sameRow (iOf Tryz.prog Tryz.f18) [(true,.P .S (.P (.P (.I .i64) (.L .Y)) (.P (.P (.I .i64) (.L .Y)) (.P (.I .i64)
 .B)))),(true,.P .S (.P (.P (.I .i64) (.L .Y)) (.P (.P (.I .i64) (.L .Y)) (.P (.I .i64) .B))))] [(false,.B)] x=F_l_sameRow x:=by kernel_rfl
noncomputable def e_l_sameRow:SEnt Tryz.prog:=⟨18,[(true,.P .S (.P (.P (.I .i64) (.L .Y)) (.P (.P (.I .i64) (.L .Y)) (.P (.I .i64) .B)))),(true,.P .S (.P (.P (.I .i64) (.L
 .Y)) (.P (.P (.I .i64) (.L .Y)) (.P (.I .i64) .B))))],[(false,.B)],F_l_sameRow,runs_see mixed_Pg Tryz.func18 (by kernel_rfl) h_l_sameRow⟩
end Go.Vs
