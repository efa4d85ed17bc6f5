import Derived.Test.YtggfmlobpmndoaaGreatDoorProg
import Derived.Test.YtggfmlobpmndoaaGreatDoorVsPgk9
set_option linter.all false
namespace Go.Vs
open Go.Proofs
set_option maxRecDepth 100000
noncomputable def a_i_RecOk:An:=(.sq none .d (.sq none .d (.sq none .d (.sq (some [.kt 1,.lt 5 .B]) .d .d))))
theorem h_i_RecOk (x:Int×((List UInt8)×(Int×List UInt8)×(Int×List UInt8)×Int×Bool)×(List UInt8)×Int×Int×Int×Int):fnX (P:=Tryz.prog) [.see e_i_sameRow,
 .see e_i_RowOk,.see e_i_NameOk,.see e_i_within,.see e_i_isWord] [] (sOf Tryz.prog Tryz.f43) a_i_RecOk (iOf Tryz.prog Tryz.f43) [(true,.P (.I .i64) (.P (.P .S (.P (.P (.I
 .i64) (.L .Y)) (.P (.P (.I .i64) (.L .Y)) (.P (.I .i64) .B)))) (.P .S (.P (.I .i64) (.P (.I .i64) (.P (.I .i64) (.I .i64)))))))] [(false,.B)] x=F_i_RecOk x:=by kernel_rfl
noncomputable def e_i_RecOk:SEnt Tryz.prog:=⟨43,[(true,.P (.I .i64) (.P (.P .S (.P (.P (.I .i64) (.L .Y)) (.P (.P (.I .i64) (.L .Y)) (.P (.I .i64) .B)))) (.P .S (.P (.I .i64)
 (.P (.I .i64) (.P (.I .i64) (.I .i64)))))))],[(false,.B)],F_i_RecOk,runs_see mixed_Pg Tryz.func43 (by kernel_rfl) h_i_RecOk⟩
noncomputable def a_i_Sum:An:=(.sq none .d (.sq none .d (.sq (some [.lt 3 (.I .i64)]) (.sq none .d (.bl (.lp [.lt 3 (.I .i64),.kt 6,.kt 7,.lt 8 (.I .i64)] (.sq none .d (.sq
 none .d (.sq (some [.lt 3 (.I .i64),.kt 6,.kt 7,.kt 8]) (.bl (.sq none .d (.sq none .d (.sq none .d (.bl (.lp [.lt 3 (.I .i64),.kt 6,.kt 7,.kt 8,.lt 17 (.I .i64)] (.sq
 none .d (.sq none .d (.sq (some [.lt 3 (.I .i64),.kt 6,.kt 7,.kt 8,.kt 17]) .d .d))))))))) .d)))))) .d)))
theorem h_i_Sum (x:List UInt8):fnX (P:=Tryz.prog) [] [] (sOf Tryz.prog Tryz.f149) a_i_Sum (iOf Tryz.prog Tryz.f149) [(false,.L .Y)] [(false,.I .i64)] x=F_i_Sum x:=by
 kernel_rfl
noncomputable def e_i_Sum:SEnt Tryz.prog:=⟨149,[(false,.L .Y)],[(false,.I .i64)],F_i_Sum,runs_see mixed_Pg Tryz.func149 (by kernel_rfl) h_i_Sum⟩
noncomputable def a_i_PutRec:An:=(.sq none .d (.sq none .d (.sq none .d (.sq (some [.kt 5,.ot 7 .Y]) .d .d))))
theorem h_i_PutRec (x:Int×Int×Int×((List UInt8)×(Int×List UInt8)×(Int×List UInt8)×Int×Bool)×(List UInt8)×Int×Int×Int×Int):fnX (P:=Tryz.prog) [.see
 e_i_RecOk,.see e_i_isWord,.see e_i_PutW,.see e_i_PutRow,.see e_i_PutText,.see e_i_Sum] [(28,.el .Y),(29,.el .Y),(50,.el .Y),(51,.el .Y),(59,.el .Y),(60,.el .Y)]
 (sOf Tryz.prog Tryz.f60) a_i_PutRec (iOf Tryz.prog Tryz.f60) [(false,.I .i64),(false,.I .i64),(true,.P (.I .i64) (.P (.P .S (.P (.P (.I .i64) (.L .Y)) (.P (.P (.I .i64) (.L
 .Y)) (.P (.I .i64) .B)))) (.P .S (.P (.I .i64) (.P (.I .i64) (.P (.I .i64) (.I .i64)))))))] [(false,.L .Y)] x=F_i_PutRec x:=by kernel_rfl
noncomputable def e_i_PutRec:SEnt Tryz.prog:=⟨60,[(false,.I .i64),(false,.I .i64),(true,.P (.I .i64) (.P (.P .S (.P (.P (.I .i64) (.L .Y)) (.P (.P (.I .i64) (.L .Y)) (.P
 (.I .i64) .B)))) (.P .S (.P (.I .i64) (.P (.I .i64) (.P (.I .i64) (.I .i64)))))))],[(false,.L .Y)],F_i_PutRec,runs_see mixed_Pg Tryz.func60 (by kernel_rfl) h_i_PutRec⟩
noncomputable def a_s_l11NoRow:An:=.d
theorem h_s_l11NoRow (x:(List UInt8)×(Int×List UInt8)×(Int×List UInt8)×Int×Bool):fnX (P:=Tryz.prog) [.see e_s_l9None] [] (sOf Tryz.prog Tryz.f162) a_s_l11NoRow
 (iOf Tryz.prog Tryz.f162) [(true,.P .S (.P (.P (.I .i64) (.L .Y)) (.P (.P (.I .i64) (.L .Y)) (.P (.I .i64) .B))))] [(false,.B)] x=F_s_l11NoRow x:=by kernel_rfl
noncomputable def e_s_l11NoRow:SEnt Tryz.prog:=⟨162,[(true,.P .S (.P (.P (.I .i64) (.L .Y)) (.P (.P (.I .i64) (.L .Y)) (.P (.I .i64) .B))))],[(false,.B)],F_s_l11NoRow,
 runs_see mixed_Pg Tryz.func162 (by kernel_rfl) h_s_l11NoRow⟩
noncomputable def a_s_l1Word:An:=.d
theorem h_s_l1Word (x:Int):fnX (P:=Tryz.prog) [.see e_s_l1In] [] (sOf Tryz.prog Tryz.f210) a_s_l1Word (iOf Tryz.prog Tryz.f210) [(false,.I .i64)] [(false,.B)] x =
 F_s_l1Word x:=by kernel_rfl
noncomputable def e_s_l1Word:SEnt Tryz.prog:=⟨210,[(false,.I .i64)],[(false,.B)],F_s_l1Word,runs_see mixed_Pg Tryz.func210 (by kernel_rfl) h_s_l1Word⟩
noncomputable def a_s_l11Who:An:=.d
theorem h_s_l11Who (x:Int×((List UInt8)×(Int×List UInt8)×(Int×List UInt8)×Int×Bool)×(List UInt8)×Int×Int×Int×Int):fnX (P:=Tryz.prog) [.see e_s_l1In,
 .see e_s_l1Word] [] (sOf Tryz.prog Tryz.f163) a_s_l11Who (iOf Tryz.prog Tryz.f163) [(true,.P (.I .i64) (.P (.P .S (.P (.P (.I .i64) (.L .Y)) (.P (.P (.I .i64) (.L .Y)) (.P (.I
 .i64) .B)))) (.P .S (.P (.I .i64) (.P (.I .i64) (.P (.I .i64) (.I .i64)))))))] [(false,.B)] x=F_s_l11Who x:=by kernel_rfl
noncomputable def e_s_l11Who:SEnt Tryz.prog:=⟨163,[(true,.P (.I .i64) (.P (.P .S (.P (.P (.I .i64) (.L .Y)) (.P (.P (.I .i64) (.L .Y)) (.P (.I .i64) .B)))) (.P .S (.P (.I
 .i64) (.P (.I .i64) (.P (.I .i64) (.I .i64)))))))],[(false,.B)],F_s_l11Who,runs_see mixed_Pg Tryz.func163 (by kernel_rfl) h_s_l11Who⟩
noncomputable def a_s_RecOk:An:=(.sq none .d (.sq none .d (.sq none .d (.sq none .d (.sq (some [.kt 1,.lt 3 .B,.lt 4 .B,.lt 5 .B]) .d .d)))))
theorem h_s_RecOk (x:Int×((List UInt8)×(Int×List UInt8)×(Int×List UInt8)×Int×Bool)×(List UInt8)×Int×Int×Int×Int):fnX (P:=Tryz.prog) [.see
 e_s_l11NoRow,.see e_s_RowOk,.see e_s_NameOk,.see e_s_l1In,.see e_s_l11Who] [] (sOf Tryz.prog Tryz.f65) a_s_RecOk (iOf Tryz.prog Tryz.f65) [(true,.P (.I .i64) (.P (.P .S (.P
 (.P (.I .i64) (.L .Y)) (.P (.P (.I .i64) (.L .Y)) (.P (.I .i64) .B)))) (.P .S (.P (.I .i64) (.P (.I .i64) (.P (.I .i64) (.I .i64)))))))] [(false,.B)] x=F_s_RecOk x:=by
 kernel_rfl
noncomputable def e_s_RecOk:SEnt Tryz.prog:=⟨65,[(true,.P (.I .i64) (.P (.P .S (.P (.P (.I .i64) (.L .Y)) (.P (.P (.I .i64) (.L .Y)) (.P (.I .i64) .B)))) (.P .S (.P (.I .i64)
 (.P (.I .i64) (.P (.I .i64) (.I .i64)))))))],[(false,.B)],F_s_RecOk,runs_see mixed_Pg Tryz.func65 (by kernel_rfl) h_s_RecOk⟩
noncomputable def a_s_Sum:An:=(.sq none .d (.sq none .d (.sq (some [.lt 3 (.I .i64)]) (.sq none .d (.bl (.lp [.kt 0,.lt 3 (.I .i64),.lt 4 (.I .i64)] (.sq none .d (.sq (some
 [.kt 0,.lt 3 (.I .i64),.kt 4]) (.bl (.sq none .d (.sq none .d (.bl (.lp [.kt 0,.lt 3 (.I .i64),.kt 4,.lt 5 (.I .i64)] (.sq none .d (.sq (some [.kt 0,.lt 3 (.I .i64),.kt 4,
 .kt 5]) .d .d))))))) .d))))) .d)))
theorem h_s_Sum (x:List UInt8):fnX (P:=Tryz.prog) [] [] (sOf Tryz.prog Tryz.f153) a_s_Sum (iOf Tryz.prog Tryz.f153) [(false,.L .Y)] [(false,.I .i64)] x=F_s_Sum x:=by
 kernel_rfl
noncomputable def e_s_Sum:SEnt Tryz.prog:=⟨153,[(false,.L .Y)],[(false,.I .i64)],F_s_Sum,runs_see mixed_Pg Tryz.func153 (by kernel_rfl) h_s_Sum⟩
noncomputable def a_s_PutRec:An:=(.sq none .d (.sq none .d (.sq none .d (.sq (some [.kt 5,.ot 7 .Y]) .d .d))))
theorem h_s_PutRec (x:Int×Int×Int×((List UInt8)×(Int×List UInt8)×(Int×List UInt8)×Int×Bool)×(List UInt8)×Int×Int×Int×Int):fnX (P:=Tryz.prog) [.see
 e_s_RecOk,.see e_s_l1Word,.see e_s_PutW,.see e_s_PutRow,.see e_s_PutText,.see e_s_Sum] [(21,.el .Y),(22,.el .Y),(30,.el .Y),(31,.el .Y),(52,.el .Y),(53,.el .Y),
 (61,.el .Y),(62,.el .Y)] (sOf Tryz.prog Tryz.f150) a_s_PutRec (iOf Tryz.prog Tryz.f150) [(false,.I .i64),(false,.I .i64),(true,.P (.I .i64) (.P (.P .S (.P (.P (.I .i64)
 (.L .Y)) (.P (.P (.I .i64) (.L .Y)) (.P (.I .i64) .B)))) (.P .S (.P (.I .i64) (.P (.I .i64) (.P (.I .i64) (.I .i64)))))))] [(false,.L .Y)] x=F_s_PutRec x:=by kernel_rfl
noncomputable def e_s_PutRec:SEnt Tryz.prog:=⟨150,[(false,.I .i64),(false,.I .i64),(true,.P (.I .i64) (.P (.P .S (.P (.P (.I .i64) (.L .Y)) (.P (.P (.I .i64) (.L .Y)) (.P
 (.I .i64) .B)))) (.P .S (.P (.I .i64) (.P (.I .i64) (.P (.I .i64) (.I .i64)))))))],[(false,.L .Y)],F_s_PutRec,runs_see mixed_Pg Tryz.func150 (by kernel_rfl) h_s_PutRec⟩
noncomputable def a_s_DrawGetRec:An:=.d
theorem h_s_DrawGetRec (x:List UInt8):fnX (P:=Tryz.prog) [.cur e_s_l1New,.gen e_s_l1Below,.gen e_s_l11Draw,.see e_s_PutRec,.gen e_s_l1Bend,.gen e_s_l1Once,.see e_s_Sum,
 .see e_s_PutW] [] (sOf Tryz.prog Tryz.f61) a_s_DrawGetRec (iOf Tryz.prog Tryz.f61) [(false,.L .Y)] [(false,.L .Y)] x=F_s_DrawGetRec x:=by kernel_rfl
noncomputable def e_s_DrawGetRec:SEnt Tryz.prog:=⟨61,[(false,.L .Y)],[(false,.L .Y)],F_s_DrawGetRec,runs_see mixed_Pg Tryz.func61 (by kernel_rfl) h_s_DrawGetRec⟩
noncomputable def a_i_scan_word:An:=.d
theorem h_i_scan_word (x:(List UInt8)×Int×Bool):fnG (P:=Tryz.prog) [.see e_i_GetW] [] (sOf Tryz.prog Tryz.f154) a_i_scan_word (iOf Tryz.prog Tryz.f154) [⟨true,false,.P
 (.L .Y) (.P (.I .i64) .B),[.rx,.rd,.rd],(some (.P (.I .i64) .B))⟩] [(false,.I .i64)] x=F_i_scan_word x:=by kernel_rfl
noncomputable def e_i_scan_word:GEnt Tryz.prog:=⟨154,[⟨true,false,.P (.L .Y) (.P (.I .i64) .B),[.rx,.rd,.rd],(some (.P (.I .i64) .B))⟩],[(false,.I .i64)],
 F_i_scan_word,runs_gen mixed_Pg Tryz.func154 (by kernel_rfl) h_i_scan_word⟩
noncomputable def a_i_scan_sum:An:=.d
theorem h_i_scan_sum (x:(List UInt8)×Int×Bool):fnG (P:=Tryz.prog) [.gen e_i_scan_word,.see e_i_Sum] [] (sOf Tryz.prog Tryz.f157) a_i_scan_sum (iOf Tryz.prog Tryz.f157)
 [⟨true,false,.P (.L .Y) (.P (.I .i64) .B),[.rx,.rd,.rd],(some (.P (.I .i64) .B))⟩] [(false,.B)] x=F_i_scan_sum x:=by kernel_rfl
noncomputable def e_i_scan_sum:GEnt Tryz.prog:=⟨157,[⟨true,false,.P (.L .Y) (.P (.I .i64) .B),[.rx,.rd,.rd],(some (.P (.I .i64) .B))⟩],[(false,.B)],F_i_scan_sum,
 runs_gen mixed_Pg Tryz.func157 (by kernel_rfl) h_i_scan_sum⟩
noncomputable def a_i_GetRec:An:=(.sq none .d (.sq none .d (.sq none .d (.sq none .d (.sq none .d (.sq none .d (.sq (some [.kt 4,.kt 6,.bx 7 [.K,.L .S,.L (.I .i64),.O .Y,
 .L (.I .i64),.O .Y,.L (.I .i64),.L .B,.L .S,.L (.I .i64),.K,.K,.K],.kt 8,.kt 9,.bx 12 [.K,.L (.I .i64),.L .B]]) .d .d)))))))
theorem h_i_GetRec (x:List UInt8):fnX (P:=Tryz.prog) [.gen e_i_scan_word,.gen e_i_scan_one,.gen e_i_scan_row,.gen e_i_scan_text,.gen e_i_scan_sum,.see e_i_RecOk] [] (sOf
 Tryz.prog Tryz.f62) a_i_GetRec (iOf Tryz.prog Tryz.f62) [(false,.L .Y)] [(false,.I .i64),(false,.I .i64),(true,.P (.I .i64) (.P (.P .S (.P (.P (.I .i64) (.L .Y)) (.P (.P
 (.I .i64) (.L .Y)) (.P (.I .i64) .B)))) (.P .S (.P (.I .i64) (.P (.I .i64) (.P (.I .i64) (.I .i64))))))),(false,.B)] x=F_i_GetRec x:=by kernel_rfl
noncomputable def e_i_GetRec:SEnt Tryz.prog:=⟨62,[(false,.L .Y)],[(false,.I .i64),(false,.I .i64),(true,.P (.I .i64) (.P (.P .S (.P (.P (.I .i64) (.L .Y)) (.P (.P (.I
 .i64) (.L .Y)) (.P (.I .i64) .B)))) (.P .S (.P (.I .i64) (.P (.I .i64) (.P (.I .i64) (.I .i64))))))),(false,.B)],F_i_GetRec,runs_see mixed_Pg Tryz.func62 (by kernel_rfl)
 h_i_GetRec⟩
noncomputable def a_s_l11Word:An:=.d
theorem h_s_l11Word (x:(List UInt8)×Int×Bool):fnG (P:=Tryz.prog) [.gen e_s_l11Byte] [] (sOf Tryz.prog Tryz.f158) a_s_l11Word (iOf Tryz.prog Tryz.f158) [⟨true,false,.P
 (.L .Y) (.P (.I .i64) .B),[.rx,.rd,.rd],(some (.P (.I .i64) .B))⟩] [(false,.I .i64)] x=F_s_l11Word x:=by kernel_rfl
noncomputable def e_s_l11Word:GEnt Tryz.prog:=⟨158,[⟨true,false,.P (.L .Y) (.P (.I .i64) .B),[.rx,.rd,.rd],(some (.P (.I .i64) .B))⟩],[(false,.I .i64)],F_s_l11Word,
 runs_gen mixed_Pg Tryz.func158 (by kernel_rfl) h_s_l11Word⟩
end Go.Vs
