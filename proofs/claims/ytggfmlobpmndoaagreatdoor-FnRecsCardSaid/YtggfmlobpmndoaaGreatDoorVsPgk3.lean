import Derived.Test.YtggfmlobpmndoaaGreatDoorProg
import Derived.Test.YtggfmlobpmndoaaGreatDoorVsPgk2
set_option linter.all false
namespace Go.Vs
open Go.Proofs
set_option maxRecDepth 100000
noncomputable def a_s_SameText:An:=.d
theorem h_s_SameText (x:(Int×List UInt8)×Int×List UInt8):fnX (P:=Tryz.prog) [.see e_s_CellText] [] (sOf Tryz.prog Tryz.f108) a_s_SameText (iOf Tryz.prog Tryz.f108)
 [(true,.P (.I .i64) (.L .Y)),(true,.P (.I .i64) (.L .Y))] [(false,.B)] x=F_s_SameText x:=by kernel_rfl
noncomputable def e_s_SameText:SEnt Tryz.prog:=⟨108,[(true,.P (.I .i64) (.L .Y)),(true,.P (.I .i64) (.L .Y))],[(false,.B)],F_s_SameText,runs_see mixed_Pg Tryz.func108
 (by kernel_rfl) h_s_SameText⟩
noncomputable def a_s_RowOk:An:=.d
theorem h_s_RowOk (x:(List UInt8)×(Int×List UInt8)×(Int×List UInt8)×Int×Bool):fnX (P:=Tryz.prog) [.see e_s_NameOk,.see e_s_l1In,.see e_s_l9Old,.see e_s_l9None,
 .see e_s_l9New,.see e_s_CellText,.see e_s_CellOk,.see e_s_SameText] [] (sOf Tryz.prog Tryz.f33) a_s_RowOk (iOf Tryz.prog Tryz.f33) [(true,.P .S (.P (.P (.I .i64) (.L .Y)) (.P
 (.P (.I .i64) (.L .Y)) (.P (.I .i64) .B))))] [(false,.B)] x=F_s_RowOk x:=by kernel_rfl
noncomputable def e_s_RowOk:SEnt Tryz.prog:=⟨33,[(true,.P .S (.P (.P (.I .i64) (.L .Y)) (.P (.P (.I .i64) (.L .Y)) (.P (.I .i64) .B))))],[(false,.B)],F_s_RowOk,runs_see
 mixed_Pg Tryz.func33 (by kernel_rfl) h_s_RowOk⟩
noncomputable def a_s_Turn:An:=.d
theorem h_s_Turn (x:(Int×List UInt8)×Int):fnX (P:=Tryz.prog) [.see e_s_CellText,.see e_s_CellOf,.see e_s_l8Copy] [] (sOf Tryz.prog Tryz.f102) a_s_Turn (iOf Tryz.prog
 Tryz.f102) [(true,.P (.I .i64) (.L .Y)),(false,.I .i64)] [(true,.P (.I .i64) (.L .Y)),(false,.B)] x=F_s_Turn x:=by kernel_rfl
noncomputable def e_s_Turn:SEnt Tryz.prog:=⟨102,[(true,.P (.I .i64) (.L .Y)),(false,.I .i64)],[(true,.P (.I .i64) (.L .Y)),(false,.B)],F_s_Turn,runs_see mixed_Pg
 Tryz.func102 (by kernel_rfl) h_s_Turn⟩
noncomputable def a_s_FillRow:An:=.d
theorem h_s_FillRow (x:(List UInt8)×(Int×List UInt8)×(Int×List UInt8)×Int×Bool):fnX (P:=Tryz.prog) [.see e_s_l9Copy,.see e_s_RowOk,.see e_s_l9New,.see
 e_s_Turn] [] (sOf Tryz.prog Tryz.f30) a_s_FillRow (iOf Tryz.prog Tryz.f30) [(true,.P .S (.P (.P (.I .i64) (.L .Y)) (.P (.P (.I .i64) (.L .Y)) (.P (.I .i64) .B))))] [(true,.P .S
 (.P (.P (.I .i64) (.L .Y)) (.P (.P (.I .i64) (.L .Y)) (.P (.I .i64) .B))))] x=F_s_FillRow x:=by kernel_rfl
noncomputable def e_s_FillRow:SEnt Tryz.prog:=⟨30,[(true,.P .S (.P (.P (.I .i64) (.L .Y)) (.P (.P (.I .i64) (.L .Y)) (.P (.I .i64) .B))))],[(true,.P .S (.P (.P (.I .i64)
 (.L .Y)) (.P (.P (.I .i64) (.L .Y)) (.P (.I .i64) .B))))],F_s_FillRow,runs_see mixed_Pg Tryz.func30 (by kernel_rfl) h_s_FillRow⟩
noncomputable def a_s_BackRow:An:=.d
theorem h_s_BackRow (x:(List UInt8)×(Int×List UInt8)×(Int×List UInt8)×Int×Bool):fnX (P:=Tryz.prog) [.see e_s_l9Copy,.see e_s_RowOk,.see e_s_l9New,.see
 e_s_l9Old] [] (sOf Tryz.prog Tryz.f32) a_s_BackRow (iOf Tryz.prog Tryz.f32) [(true,.P .S (.P (.P (.I .i64) (.L .Y)) (.P (.P (.I .i64) (.L .Y)) (.P (.I .i64) .B))))] [(true,.P
 .S (.P (.P (.I .i64) (.L .Y)) (.P (.P (.I .i64) (.L .Y)) (.P (.I .i64) .B))))] x=F_s_BackRow x:=by kernel_rfl
noncomputable def e_s_BackRow:SEnt Tryz.prog:=⟨32,[(true,.P .S (.P (.P (.I .i64) (.L .Y)) (.P (.P (.I .i64) (.L .Y)) (.P (.I .i64) .B))))],[(true,.P .S (.P (.P (.I .i64)
 (.L .Y)) (.P (.P (.I .i64) (.L .Y)) (.P (.I .i64) .B))))],F_s_BackRow,runs_see mixed_Pg Tryz.func32 (by kernel_rfl) h_s_BackRow⟩
noncomputable def a_s_l9Draw:An:=(.sq none .d (.sq none .d (.sq none .d (.sq none .d (.sq none .d (.sq (some [.kt 0,.kt 2,.bx 7 [.L .S,.L (.I .i64),.O .Y,.L (.I .i64),.O
 .Y,.L (.I .i64),.L .B]]) .d .d))))))
theorem h_s_l9Draw (x:(List UInt8)×Int×Int):fnG (P:=Tryz.prog) [.gen e_s_l3Cs,.gen e_s_l1Name,.gen e_s_l1Below,.gen e_s_l5Text,.see e_s_RowOf,.gen e_s_l1Int,.see
 e_s_FillRow,.see e_s_BackRow] [(18,.el .Y),(43,.el (.I .i64))] (sOf Tryz.prog Tryz.f87) a_s_l9Draw (iOf Tryz.prog Tryz.f87) [⟨true,false,.P (.L .Y) (.P (.I .i64) (.I
 .i64)),[.rx,.rd,.rd],(some (.P (.I .i64) (.I .i64)))⟩] [(true,.P .S (.P (.P (.I .i64) (.L .Y)) (.P (.P (.I .i64) (.L .Y)) (.P (.I .i64) .B))))] x=F_s_l9Draw x:=by
 kernel_rfl
noncomputable def e_s_l9Draw:GEnt Tryz.prog:=⟨87,[⟨true,false,.P (.L .Y) (.P (.I .i64) (.I .i64)),[.rx,.rd,.rd],(some (.P (.I .i64) (.I .i64)))⟩],[(true,.P .S (.P (.P
 (.I .i64) (.L .Y)) (.P (.P (.I .i64) (.L .Y)) (.P (.I .i64) .B))))],F_s_l9Draw,runs_gen mixed_Pg Tryz.func87 (by kernel_rfl) h_s_l9Draw⟩
noncomputable def a_s_l1Text:An:=.d
theorem h_s_l1Text (x:(List UInt8)×Int×Int):fnG (P:=Tryz.prog) [.gen e_s_l1Str] [(4,.el .S)] (sOf Tryz.prog Tryz.f168) a_s_l1Text (iOf Tryz.prog Tryz.f168) [⟨true,
 false,.P (.L .Y) (.P (.I .i64) (.I .i64)),[.rx,.rd,.rd],(some (.P (.I .i64) (.I .i64)))⟩] [(false,.S)] x=F_s_l1Text x:=by kernel_rfl
noncomputable def e_s_l1Text:GEnt Tryz.prog:=⟨168,[⟨true,false,.P (.L .Y) (.P (.I .i64) (.I .i64)),[.rx,.rd,.rd],(some (.P (.I .i64) (.I .i64)))⟩],[(false,.S)],
 F_s_l1Text,runs_gen mixed_Pg Tryz.func168 (by kernel_rfl) h_s_l1Text⟩
noncomputable def a_s_l8Draw:An:=.d
theorem h_s_l8Draw (x:(List UInt8)×Int×Int):fnG (P:=Tryz.prog) [.gen e_s_l1Below,.gen e_s_l5Text,.see e_s_CellOf] [] (sOf Tryz.prog Tryz.f215) a_s_l8Draw (iOf Tryz.prog
 Tryz.f215) [⟨true,false,.P (.L .Y) (.P (.I .i64) (.I .i64)),[.rx,.rd,.rd],(some (.P (.I .i64) (.I .i64)))⟩] [(true,.P (.I .i64) (.L .Y))] x=F_s_l8Draw x:=by kernel_rfl
noncomputable def e_s_l8Draw:GEnt Tryz.prog:=⟨215,[⟨true,false,.P (.L .Y) (.P (.I .i64) (.I .i64)),[.rx,.rd,.rd],(some (.P (.I .i64) (.I .i64)))⟩],[(true,.P (.I .i64)
 (.L .Y))],F_s_l8Draw,runs_gen mixed_Pg Tryz.func215 (by kernel_rfl) h_s_l8Draw⟩
noncomputable def a_s_l3Any:An:=.d
theorem h_s_l3Any (x:(List UInt8)×Int×Int):fnG (P:=Tryz.prog) [.gen e_s_l1Int] [(4,.el (.I .i64))] (sOf Tryz.prog Tryz.f216) a_s_l3Any (iOf Tryz.prog Tryz.f216) [⟨true,
 false,.P (.L .Y) (.P (.I .i64) (.I .i64)),[.rx,.rd,.rd],(some (.P (.I .i64) (.I .i64)))⟩] [(false,.I .i64)] x=F_s_l3Any x:=by kernel_rfl
noncomputable def e_s_l3Any:GEnt Tryz.prog:=⟨216,[⟨true,false,.P (.L .Y) (.P (.I .i64) (.I .i64)),[.rx,.rd,.rd],(some (.P (.I .i64) (.I .i64)))⟩],[(false,.I .i64)],
 F_s_l3Any,runs_gen mixed_Pg Tryz.func216 (by kernel_rfl) h_s_l3Any⟩
noncomputable def a_s_l1Bend:An:=(.sq none .d (.sq none .d (.sq (some [.bx 0 [.K,.L (.I .i64),.L (.I .i64)],.sr 5 .Y]) .d .d)))
theorem h_s_l1Bend (x:((List UInt8)×Int×Int)×List UInt8):fnG (P:=Tryz.prog) [.gen e_s_l1Below] [(6,.el .Y),(8,.el .Y)] (sOf Tryz.prog Tryz.f85) a_s_l1Bend (iOf
 Tryz.prog Tryz.f85) [⟨true,false,.P (.L .Y) (.P (.I .i64) (.I .i64)),[.rx,.rd,.rd],(some (.P (.I .i64) (.I .i64)))⟩,⟨false,false,.L .Y,[.rd],none⟩] [(false,.L .Y)] x
 = F_s_l1Bend x:=by kernel_rfl
noncomputable def e_s_l1Bend:GEnt Tryz.prog:=⟨85,[⟨true,false,.P (.L .Y) (.P (.I .i64) (.I .i64)),[.rx,.rd,.rd],(some (.P (.I .i64) (.I .i64)))⟩,⟨false,false,.L .Y,
 [.rd],none⟩],[(false,.L .Y)],F_s_l1Bend,runs_gen mixed_Pg Tryz.func85 (by kernel_rfl) h_s_l1Bend⟩
noncomputable def a_s_l5Bytes:An:=.d
theorem h_s_l5Bytes (x:((List UInt8)×Int×Int)×Int):fnG (P:=Tryz.prog) [.gen e_s_l5Text,.see e_s_Encode,.gen e_s_l1Below,.gen e_s_l1Bend,.gen e_s_l1Int] [(26,.el
 (.I .i64)),(29,.el .Y),(30,.el .Y)] (sOf Tryz.prog Tryz.f217) a_s_l5Bytes (iOf Tryz.prog Tryz.f217) [⟨true,false,.P (.L .Y) (.P (.I .i64) (.I .i64)),[.rx,.rd,.rd],(some
 (.P (.I .i64) (.I .i64)))⟩,⟨false,false,.I .i64,[.rd],none⟩] [(false,.L .Y)] x=F_s_l5Bytes x:=by kernel_rfl
noncomputable def e_s_l5Bytes:GEnt Tryz.prog:=⟨217,[⟨true,false,.P (.L .Y) (.P (.I .i64) (.I .i64)),[.rx,.rd,.rd],(some (.P (.I .i64) (.I .i64)))⟩,⟨false,false,.I
 .i64,[.rd],none⟩],[(false,.L .Y)],F_s_l5Bytes,runs_gen mixed_Pg Tryz.func217 (by kernel_rfl) h_s_l5Bytes⟩
noncomputable def a_s_l8Any:An:=(.sq none .d (.sq none .d (.sq (some [.bx 0 [.K,.L (.I .i64),.L (.I .i64)],.kt 2,.bx 3 [.L (.I .i64),.O .Y]]) .d .d)))
theorem h_s_l8Any (x:(List UInt8)×Int×Int):fnG (P:=Tryz.prog) [.gen e_s_l8Draw,.gen e_s_l1Below,.gen e_s_l3Any,.gen e_s_l5Bytes] [(25,.el .Y)] (sOf Tryz.prog
 Tryz.f169) a_s_l8Any (iOf Tryz.prog Tryz.f169) [⟨true,false,.P (.L .Y) (.P (.I .i64) (.I .i64)),[.rx,.rd,.rd],(some (.P (.I .i64) (.I .i64)))⟩] [(true,.P (.I .i64) (.L
 .Y))] x=F_s_l8Any x:=by kernel_rfl
noncomputable def e_s_l8Any:GEnt Tryz.prog:=⟨169,[⟨true,false,.P (.L .Y) (.P (.I .i64) (.I .i64)),[.rx,.rd,.rd],(some (.P (.I .i64) (.I .i64)))⟩],[(true,.P (.I .i64)
 (.L .Y))],F_s_l8Any,runs_gen mixed_Pg Tryz.func169 (by kernel_rfl) h_s_l8Any⟩
noncomputable def a_s_l9Any:An:=(.sq none .d (.sq none .d (.sq (some [.bx 0 [.K,.L (.I .i64),.L (.I .i64)],.kt 2,.bx 3 [.L .S,.L (.I .i64),.O .Y,.L (.I .i64),.O .Y,.L
 (.I .i64),.L .B]]) .d .d)))
theorem h_s_l9Any (x:(List UInt8)×Int×Int):fnG (P:=Tryz.prog) [.gen e_s_l9Draw,.gen e_s_l1Below,.gen e_s_l1Text,.gen e_s_l1Int,.gen e_s_l8Any] [(16,.el (.I .i64)),
 (37,.el .Y)] (sOf Tryz.prog Tryz.f81) a_s_l9Any (iOf Tryz.prog Tryz.f81) [⟨true,false,.P (.L .Y) (.P (.I .i64) (.I .i64)),[.rx,.rd,.rd],(some (.P (.I .i64) (.I .i64)))⟩]
 [(true,.P .S (.P (.P (.I .i64) (.L .Y)) (.P (.P (.I .i64) (.L .Y)) (.P (.I .i64) .B))))] x=F_s_l9Any x:=by kernel_rfl
noncomputable def e_s_l9Any:GEnt Tryz.prog:=⟨81,[⟨true,false,.P (.L .Y) (.P (.I .i64) (.I .i64)),[.rx,.rd,.rd],(some (.P (.I .i64) (.I .i64)))⟩],[(true,.P .S (.P (.P
 (.I .i64) (.L .Y)) (.P (.P (.I .i64) (.L .Y)) (.P (.I .i64) .B))))],F_s_l9Any,runs_gen mixed_Pg Tryz.func81 (by kernel_rfl) h_s_l9Any⟩
end Go.Vs
