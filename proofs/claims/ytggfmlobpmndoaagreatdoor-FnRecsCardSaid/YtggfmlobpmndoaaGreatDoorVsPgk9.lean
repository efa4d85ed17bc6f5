import Derived.Test.YtggfmlobpmndoaaGreatDoorProg
import Derived.Test.YtggfmlobpmndoaaGreatDoorVsPgk8
set_option linter.all false
namespace Go.Vs
open Go.Proofs
set_option maxRecDepth 100000
noncomputable def a_s_l1Once:An:=.d
theorem h_s_l1Once (x:((List UInt8)×Int×Int)×Int):fnG (P:=Tryz.prog) [.gen e_s_l1Below] [] (sOf Tryz.prog Tryz.f151) a_s_l1Once (iOf Tryz.prog Tryz.f151) [⟨true,false,
 .P (.L .Y) (.P (.I .i64) (.I .i64)),[.rx,.rd,.rd],(some (.P (.I .i64) (.I .i64)))⟩,⟨false,false,.I .i64,[.rd],none⟩] [(false,.B)] x=F_s_l1Once x:=by kernel_rfl
noncomputable def e_s_l1Once:GEnt Tryz.prog:=⟨151,[⟨true,false,.P (.L .Y) (.P (.I .i64) (.I .i64)),[.rx,.rd,.rd],(some (.P (.I .i64) (.I .i64)))⟩,⟨false,false,.I
 .i64,[.rd],none⟩],[(false,.B)],F_s_l1Once,runs_gen mixed_Pg Tryz.func151 (by kernel_rfl) h_s_l1Once⟩
noncomputable def a_s_l11Draw:An:=(.sq none .d (.sq none .d (.sq (some [.bx 0 [.K,.L (.I .i64),.L (.I .i64)],.kt 2,.bx 3 [.K,.L .S,.L (.I .i64),.O .Y,.L (.I .i64),.O
 .Y,.L (.I .i64),.L .B,.L .S,.L (.I .i64),.K,.K,.K]]) .d (.sq (some [.bx 0 [.K,.L (.I .i64),.L (.I .i64)],.kt 2,.bx 3 [.K,.K,.K,.K,.K,.K,.K,.K,.K,.K,.L (.I
 .i64),.L (.I .i64),.L (.I .i64)]]) .d .d))))
theorem h_s_l11Draw (x:(List UInt8)×Int×Int):fnG (P:=Tryz.prog) [.gen e_s_l1Below,.gen e_s_l9Draw,.gen e_s_l1Name,.gen e_s_l1Once,.gen e_s_l1Int] [(37,.el (.I
 .i64))] (sOf Tryz.prog Tryz.f110) a_s_l11Draw (iOf Tryz.prog Tryz.f110) [⟨true,false,.P (.L .Y) (.P (.I .i64) (.I .i64)),[.rx,.rd,.rd],(some (.P (.I .i64) (.I .i64)))⟩]
 [(true,.P (.I .i64) (.P (.P .S (.P (.P (.I .i64) (.L .Y)) (.P (.P (.I .i64) (.L .Y)) (.P (.I .i64) .B)))) (.P .S (.P (.I .i64) (.P (.I .i64) (.P (.I .i64) (.I .i64)))))))] x =
 F_s_l11Draw x:=by kernel_rfl
noncomputable def e_s_l11Draw:GEnt Tryz.prog:=⟨110,[⟨true,false,.P (.L .Y) (.P (.I .i64) (.I .i64)),[.rx,.rd,.rd],(some (.P (.I .i64) (.I .i64)))⟩],[(true,.P (.I .i64)
 (.P (.P .S (.P (.P (.I .i64) (.L .Y)) (.P (.P (.I .i64) (.L .Y)) (.P (.I .i64) .B)))) (.P .S (.P (.I .i64) (.P (.I .i64) (.P (.I .i64) (.I .i64)))))))],F_s_l11Draw,runs_gen
 mixed_Pg Tryz.func110 (by kernel_rfl) h_s_l11Draw⟩
noncomputable def a_s_l1Num:An:=.d
theorem h_s_l1Num (x:(List UInt8)×Int×Int):fnG (P:=Tryz.prog) [.gen e_s_l1Int] [(4,.el (.I .i64))] (sOf Tryz.prog Tryz.f209) a_s_l1Num (iOf Tryz.prog Tryz.f209) [⟨true,
 false,.P (.L .Y) (.P (.I .i64) (.I .i64)),[.rx,.rd,.rd],(some (.P (.I .i64) (.I .i64)))⟩] [(false,.I .i64)] x=F_s_l1Num x:=by kernel_rfl
noncomputable def e_s_l1Num:GEnt Tryz.prog:=⟨209,[⟨true,false,.P (.L .Y) (.P (.I .i64) (.I .i64)),[.rx,.rd,.rd],(some (.P (.I .i64) (.I .i64)))⟩],[(false,.I .i64)],
 F_s_l1Num,runs_gen mixed_Pg Tryz.func209 (by kernel_rfl) h_s_l1Num⟩
noncomputable def a_s_l11Any:An:=(.sq none .d (.sq none .d (.sq (some [.bx 0 [.K,.L (.I .i64),.L (.I .i64)],.kt 2,.bx 3 [.L (.I .i64),.L .S,.L (.I .i64),.O .Y,.L (.I
 .i64),.O .Y,.L (.I .i64),.L .B,.L .S,.L (.I .i64),.L (.I .i64),.L (.I .i64),.L (.I .i64)]]) .d .d)))
theorem h_s_l11Any (x:(List UInt8)×Int×Int):fnG (P:=Tryz.prog) [.gen e_s_l11Draw,.gen e_s_l1Below,.gen e_s_l9Any,.gen e_s_l1Text,.gen e_s_l1Int,.gen e_s_l1Num] [(26,
 .el (.I .i64)),(32,.el (.I .i64)),(43,.el (.I .i64))] (sOf Tryz.prog Tryz.f147) a_s_l11Any (iOf Tryz.prog Tryz.f147) [⟨true,false,.P (.L .Y) (.P (.I .i64) (.I .i64)),[.rx,
 .rd,.rd],(some (.P (.I .i64) (.I .i64)))⟩] [(true,.P (.I .i64) (.P (.P .S (.P (.P (.I .i64) (.L .Y)) (.P (.P (.I .i64) (.L .Y)) (.P (.I .i64) .B)))) (.P .S (.P (.I .i64) (.P
 (.I .i64) (.P (.I .i64) (.I .i64)))))))] x=F_s_l11Any x:=by kernel_rfl
noncomputable def e_s_l11Any:GEnt Tryz.prog:=⟨147,[⟨true,false,.P (.L .Y) (.P (.I .i64) (.I .i64)),[.rx,.rd,.rd],(some (.P (.I .i64) (.I .i64)))⟩],[(true,.P (.I .i64)
 (.P (.P .S (.P (.P (.I .i64) (.L .Y)) (.P (.P (.I .i64) (.L .Y)) (.P (.I .i64) .B)))) (.P .S (.P (.I .i64) (.P (.I .i64) (.P (.I .i64) (.I .i64)))))))],F_s_l11Any,runs_gen
 mixed_Pg Tryz.func147 (by kernel_rfl) h_s_l11Any⟩
noncomputable def a_s_DrawPutRec:An:=.d
theorem h_s_DrawPutRec (x:List UInt8):fnX (P:=Tryz.prog) [.cur e_s_l1New,.gen e_s_l1Int,.gen e_s_l11Any] [(9,.el (.I .i64)),(12,.el (.I .i64))] (sOf Tryz.prog Tryz.f59)
 a_s_DrawPutRec (iOf Tryz.prog Tryz.f59) [(false,.L .Y)] [(false,.I .i64),(false,.I .i64),(true,.P (.I .i64) (.P (.P .S (.P (.P (.I .i64) (.L .Y)) (.P (.P (.I .i64) (.L .Y))
 (.P (.I .i64) .B)))) (.P .S (.P (.I .i64) (.P (.I .i64) (.P (.I .i64) (.I .i64)))))))] x=F_s_DrawPutRec x:=by kernel_rfl
noncomputable def e_s_DrawPutRec:SEnt Tryz.prog:=⟨59,[(false,.L .Y)],[(false,.I .i64),(false,.I .i64),(true,.P (.I .i64) (.P (.P .S (.P (.P (.I .i64) (.L .Y)) (.P (.P
 (.I .i64) (.L .Y)) (.P (.I .i64) .B)))) (.P .S (.P (.I .i64) (.P (.I .i64) (.P (.I .i64) (.I .i64)))))))],F_s_DrawPutRec,runs_see mixed_Pg Tryz.func59 (by kernel_rfl)
 h_s_DrawPutRec⟩
noncomputable def a_i_sameRow:An:=.d
theorem h_i_sameRow (x:((List UInt8)×(Int×List UInt8)×(Int×List UInt8)×Int×Bool)×(List UInt8)×(Int×List UInt8)×(Int×List UInt8)×Int×Bool):fnX (P :=
 Tryz.prog) [.see e_i_sameCell] [] (sOf Tryz.prog Tryz.f122) a_i_sameRow (iOf Tryz.prog Tryz.f122) [(true,.P .S (.P (.P (.I .i64) (.L .Y)) (.P (.P (.I .i64) (.L .Y)) (.P (.I
 .i64) .B)))),(true,.P .S (.P (.P (.I .i64) (.L .Y)) (.P (.P (.I .i64) (.L .Y)) (.P (.I .i64) .B))))] [(false,.B)] x=F_i_sameRow x:=by kernel_rfl
noncomputable def e_i_sameRow:SEnt Tryz.prog:=⟨122,[(true,.P .S (.P (.P (.I .i64) (.L .Y)) (.P (.P (.I .i64) (.L .Y)) (.P (.I .i64) .B)))),(true,.P .S (.P (.P (.I .i64) (.L
 .Y)) (.P (.P (.I .i64) (.L .Y)) (.P (.I .i64) .B))))],[(false,.B)],F_i_sameRow,runs_see mixed_Pg Tryz.func122 (by kernel_rfl) h_i_sameRow⟩
noncomputable def a_i_isWord:An:=.d
theorem h_i_isWord (x:Int):fnX (P:=Tryz.prog) [.see e_i_within] [] (sOf Tryz.prog Tryz.f119) a_i_isWord (iOf Tryz.prog Tryz.f119) [(false,.I .i64)] [(false,.B)] x =
 F_i_isWord x:=by kernel_rfl
noncomputable def e_i_isWord:SEnt Tryz.prog:=⟨119,[(false,.I .i64)],[(false,.B)],F_i_isWord,runs_see mixed_Pg Tryz.func119 (by kernel_rfl) h_i_isWord⟩
end Go.Vs
