import Derived.Test.YtggfmlobpmndoaaGreatDoorProg
import Derived.Test.YtggfmlobpmndoaaGreatDoorVsPgk5
set_option linter.all false
namespace Go.Vs
open Go.Proofs
set_option maxRecDepth 100000
noncomputable def a_s_PutW:An:=.d
theorem h_s_PutW (x:(List UInt8)×Int):fnX (P:=Tryz.prog) [] [(6,.el .Y),(8,.el .Y),(15,.el .Y),(16,.el .Y)] (sOf Tryz.prog Tryz.f152) a_s_PutW (iOf Tryz.prog
 Tryz.f152) [(false,.L .Y),(false,.I .i64)] [(false,.L .Y)] x=F_s_PutW x:=by kernel_rfl
noncomputable def e_s_PutW:SEnt Tryz.prog:=⟨152,[(false,.L .Y),(false,.I .i64)],[(false,.L .Y)],F_s_PutW,runs_see mixed_Pg Tryz.func152 (by kernel_rfl) h_s_PutW⟩
noncomputable def a_s_PutText:An:=.d
theorem h_s_PutText (x:(List UInt8)×List UInt8):fnX (P:=Tryz.prog) [.see e_s_PutW] [(8,.el .Y),(10,.el .Y),(16,.el .Y)] (sOf Tryz.prog Tryz.f170) a_s_PutText (iOf
 Tryz.prog Tryz.f170) [(false,.L .Y),(false,.S)] [(false,.L .Y)] x=F_s_PutText x:=by kernel_rfl
noncomputable def e_s_PutText:SEnt Tryz.prog:=⟨170,[(false,.L .Y),(false,.S)],[(false,.L .Y)],F_s_PutText,runs_see mixed_Pg Tryz.func170 (by kernel_rfl) h_s_PutText⟩
noncomputable def a_s_l11Bit:An:=.d
theorem h_s_l11Bit (x:Bool):fnX (P:=Tryz.prog) [] [] (sOf Tryz.prog Tryz.f171) a_s_l11Bit (iOf Tryz.prog Tryz.f171) [(false,.B)] [(false,.Y)] x=F_s_l11Bit x:=by
 kernel_rfl
noncomputable def e_s_l11Bit:SEnt Tryz.prog:=⟨171,[(false,.B)],[(false,.Y)],F_s_l11Bit,runs_see mixed_Pg Tryz.func171 (by kernel_rfl) h_s_l11Bit⟩
noncomputable def a_s_l11Cell:An:=.d
theorem h_s_l11Cell (x:(List UInt8)×Int×List UInt8):fnG (P:=Tryz.prog) [.see e_s_PutText] [(9,.el .Y),(10,.el .Y)] (sOf Tryz.prog Tryz.f172) a_s_l11Cell (iOf Tryz.prog
 Tryz.f172) [⟨false,false,.L .Y,[.ow],none⟩,⟨false,true,.P (.I .i64) (.L .Y),[.rd,.rd],none⟩] [(false,.L .Y)] x=F_s_l11Cell x:=by kernel_rfl
noncomputable def e_s_l11Cell:GEnt Tryz.prog:=⟨172,[⟨false,false,.L .Y,[.ow],none⟩,⟨false,true,.P (.I .i64) (.L .Y),[.rd,.rd],none⟩],[(false,.L .Y)],F_s_l11Cell,
 runs_gen mixed_Pg Tryz.func172 (by kernel_rfl) h_s_l11Cell⟩
noncomputable def a_s_PutRow:An:=(.sq none .d (.sq none .d (.sq none .d (.sq none .d (.sq (some [.kt 3,.ot 5 .Y]) .d (.sq (some [.ot 5 .Y]) .d .d))))))
theorem h_s_PutRow (x:(List UInt8)×(List UInt8)×(Int×List UInt8)×(Int×List UInt8)×Int×Bool):fnX (P:=Tryz.prog) [.see e_s_RowOk,.see e_s_PutText,.see
 e_s_l11Bit,.see e_s_l9Old,.gen e_s_l11Cell,.see e_s_l9New] [(6,.el .Y),(8,.el .Y),(23,.el .Y),(24,.el .Y)] (sOf Tryz.prog Tryz.f86) a_s_PutRow (iOf Tryz.prog Tryz.f86)
 [(false,.L .Y),(true,.P .S (.P (.P (.I .i64) (.L .Y)) (.P (.P (.I .i64) (.L .Y)) (.P (.I .i64) .B))))] [(false,.L .Y)] x=F_s_PutRow x:=by kernel_rfl
noncomputable def e_s_PutRow:SEnt Tryz.prog:=⟨86,[(false,.L .Y),(true,.P .S (.P (.P (.I .i64) (.L .Y)) (.P (.P (.I .i64) (.L .Y)) (.P (.I .i64) .B))))],[(false,.L .Y)],
 F_s_PutRow,runs_see mixed_Pg Tryz.func86 (by kernel_rfl) h_s_PutRow⟩
noncomputable def a_i_GetW:An:=.d
theorem h_i_GetW (x:(List UInt8)×Int):fnX (P:=Tryz.prog) [] [] (sOf Tryz.prog Tryz.f211) a_i_GetW (iOf Tryz.prog Tryz.f211) [(false,.L .Y),(false,.I .i64)] [(false,.I
 .i64),(false,.I .i64),(false,.B)] x=F_i_GetW x:=by kernel_rfl
noncomputable def e_i_GetW:SEnt Tryz.prog:=⟨211,[(false,.L .Y),(false,.I .i64)],[(false,.I .i64),(false,.I .i64),(false,.B)],F_i_GetW,runs_see mixed_Pg Tryz.func211
 (by kernel_rfl) h_i_GetW⟩
noncomputable def a_i_GetText:An:=.d
theorem h_i_GetText (x:(List UInt8)×Int):fnX (P:=Tryz.prog) [.see e_i_GetW] [] (sOf Tryz.prog Tryz.f212) a_i_GetText (iOf Tryz.prog Tryz.f212) [(false,.L .Y),(false,.I
 .i64)] [(false,.S),(false,.I .i64),(false,.B)] x=F_i_GetText x:=by kernel_rfl
noncomputable def e_i_GetText:SEnt Tryz.prog:=⟨212,[(false,.L .Y),(false,.I .i64)],[(false,.S),(false,.I .i64),(false,.B)],F_i_GetText,runs_see mixed_Pg
 Tryz.func212 (by kernel_rfl) h_i_GetText⟩
noncomputable def a_i_scan_text:An:=.d
theorem h_i_scan_text (x:(List UInt8)×Int×Bool):fnG (P:=Tryz.prog) [.see e_i_GetText] [] (sOf Tryz.prog Tryz.f156) a_i_scan_text (iOf Tryz.prog Tryz.f156) [⟨true,false,
 .P (.L .Y) (.P (.I .i64) .B),[.rx,.rd,.rd],(some (.P (.I .i64) .B))⟩] [(false,.S)] x=F_i_scan_text x:=by kernel_rfl
noncomputable def e_i_scan_text:GEnt Tryz.prog:=⟨156,[⟨true,false,.P (.L .Y) (.P (.I .i64) .B),[.rx,.rd,.rd],(some (.P (.I .i64) .B))⟩],[(false,.S)],F_i_scan_text,
 runs_gen mixed_Pg Tryz.func156 (by kernel_rfl) h_i_scan_text⟩
noncomputable def a_i_scan_one:An:=.d
theorem h_i_scan_one (x:(List UInt8)×Int×Bool):fnG (P:=Tryz.prog) [] [] (sOf Tryz.prog Tryz.f155) a_i_scan_one (iOf Tryz.prog Tryz.f155) [⟨true,false,.P (.L .Y) (.P (.I
 .i64) .B),[.rx,.rd,.rd],(some (.P (.I .i64) .B))⟩] [(false,.I .i64)] x=F_i_scan_one x:=by kernel_rfl
noncomputable def e_i_scan_one:GEnt Tryz.prog:=⟨155,[⟨true,false,.P (.L .Y) (.P (.I .i64) .B),[.rx,.rd,.rd],(some (.P (.I .i64) .B))⟩],[(false,.I .i64)],F_i_scan_one,
 runs_gen mixed_Pg Tryz.func155 (by kernel_rfl) h_i_scan_one⟩
noncomputable def a_i_scan_cell:An:=.d
theorem h_i_scan_cell (x:(List UInt8)×Int×Bool):fnG (P:=Tryz.prog) [.gen e_i_scan_one,.gen e_i_scan_text] [] (sOf Tryz.prog Tryz.f176) a_i_scan_cell (iOf Tryz.prog
 Tryz.f176) [⟨true,false,.P (.L .Y) (.P (.I .i64) .B),[.rx,.rd,.rd],(some (.P (.I .i64) .B))⟩] [(true,.P (.I .i64) (.L .Y))] x=F_i_scan_cell x:=by kernel_rfl
noncomputable def e_i_scan_cell:GEnt Tryz.prog:=⟨176,[⟨true,false,.P (.L .Y) (.P (.I .i64) .B),[.rx,.rd,.rd],(some (.P (.I .i64) .B))⟩],[(true,.P (.I .i64) (.L .Y))],
 F_i_scan_cell,runs_gen mixed_Pg Tryz.func176 (by kernel_rfl) h_i_scan_cell⟩
noncomputable def a_i_scan_row:An:=(.sq none .d (.sq none .d (.sq none .d (.sq none .d (.sq none .d (.sq none .d (.sq (some [.bx 0 [.K,.L (.I .i64),.L .B],.kt 2,.bx 3 [.K,
 .L (.I .i64),.O .Y,.K,.K,.K,.K],.kt 4]) .d (.sq (some [.bx 0 [.K,.L (.I .i64),.L .B],.kt 2,.bx 3 [.K,.K,.K,.L (.I .i64),.O .Y,.K,.K],.kt 4]) .d .d))))))))
theorem h_i_scan_row (x:(List UInt8)×Int×Bool):fnG (P:=Tryz.prog) [.gen e_i_scan_text,.gen e_i_scan_one,.gen e_i_scan_cell,.see e_i_RowOk] [] (sOf Tryz.prog Tryz.f89)
 a_i_scan_row (iOf Tryz.prog Tryz.f89) [⟨true,false,.P (.L .Y) (.P (.I .i64) .B),[.rx,.rd,.rd],(some (.P (.I .i64) .B))⟩] [(true,.P .S (.P (.P (.I .i64) (.L .Y)) (.P (.P
 (.I .i64) (.L .Y)) (.P (.I .i64) .B))))] x=F_i_scan_row x:=by kernel_rfl
noncomputable def e_i_scan_row:GEnt Tryz.prog:=⟨89,[⟨true,false,.P (.L .Y) (.P (.I .i64) .B),[.rx,.rd,.rd],(some (.P (.I .i64) .B))⟩],[(true,.P .S (.P (.P (.I .i64)
 (.L .Y)) (.P (.P (.I .i64) (.L .Y)) (.P (.I .i64) .B))))],F_i_scan_row,runs_gen mixed_Pg Tryz.func89 (by kernel_rfl) h_i_scan_row⟩
end Go.Vs
