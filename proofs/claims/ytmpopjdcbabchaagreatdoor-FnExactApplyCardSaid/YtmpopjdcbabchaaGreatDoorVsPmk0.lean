import Derived.Test.YtmpopjdcbabchaaGreatDoorProg
import Derived.Test.YtmpopjdcbabchaaGreatDoorVsPm
set_option linter.all false
namespace Go.Vs
open Go.Proofs
set_option maxRecDepth 100000
theorem mixed_Pm:Tryz.prog.follows .mixedOrders=true:=by kernel_rfl
noncomputable def a_l_szByteS:An:=.d
theorem h_l_szByteS (x:(List UInt8)×Int):fnX (P:=Tryz.prog) [] [] (sOf Tryz.prog Tryz.f125) a_l_szByteS (iOf Tryz.prog Tryz.f125) [(false,.L .Y),(false,.I .i64)]
 [(false,.I .i64)] x=Zdv x:=by kernel_rfl
noncomputable def e_l_szByteS:SEnt Tryz.prog:=⟨125,[(false,.L .Y),(false,.I .i64)],[(false,.I .i64)],Zdv,runs_see mixed_Pm Tryz.func125 (by kernel_rfl)
 h_l_szByteS⟩
noncomputable def a_l_szCell:An:=.d
theorem h_l_szCell (x:(Int×List UInt8)×Int):fnX (P:=Tryz.prog) [.see e_l_szByteS] [] (sOf Tryz.prog Tryz.f95) a_l_szCell (iOf Tryz.prog Tryz.f95) [(true,.P (.I .i64) (.L
 .Y)),(false,.I .i64)] [(false,.I .i64)] x=Zcn x:=by kernel_rfl
noncomputable def e_l_szCell:SEnt Tryz.prog:=⟨95,[(true,.P (.I .i64) (.L .Y)),(false,.I .i64)],[(false,.I .i64)],Zcn,runs_see mixed_Pm Tryz.func95 (by
 kernel_rfl) h_l_szCell⟩
noncomputable def a_l_szRow:An:=.d
theorem h_l_szRow (x:((List UInt8)×(Int×List UInt8)×(Int×List UInt8)×Int×Bool)×Int):fnX (P:=Tryz.prog) [.see e_l_szCell] [] (sOf Tryz.prog Tryz.f64) a_l_szRow
 (iOf Tryz.prog Tryz.f64) [(true,.P .S (.P (.P (.I .i64) (.L .Y)) (.P (.P (.I .i64) (.L .Y)) (.P (.I .i64) .B)))),(false,.I .i64)] [(false,.I .i64)] x=Zbk x:=by
 kernel_rfl
noncomputable def e_l_szRow:SEnt Tryz.prog:=⟨64,[(true,.P .S (.P (.P (.I .i64) (.L .Y)) (.P (.P (.I .i64) (.L .Y)) (.P (.I .i64) .B)))),(false,.I .i64)],[(false,.I
 .i64)],Zbk,runs_see mixed_Pm Tryz.func64 (by kernel_rfl) h_l_szRow⟩
noncomputable def a_l_szRowS:An:=(.sq none .d (.sq none .d (.sq none .d (.sq (some [.lt 1 (.I .i64)]) (.sq none .d (.bl (.lp [.kt 0,.lt 1 (.I .i64),.lt 5 (.I .i64)] .d)))
 .d))))
theorem h_l_szRowS (x:(List ((List UInt8)×(Int×List UInt8)×(Int×List UInt8)×Int×Bool))×Int):fnX (P:=Tryz.prog) [.see e_l_szRow] [] (sOf Tryz.prog Tryz.f62)
 a_l_szRowS (iOf Tryz.prog Tryz.f62) [(false,.L (.P .S (.P (.P (.I .i64) (.L .Y)) (.P (.P (.I .i64) (.L .Y)) (.P (.I .i64) .B))))),(false,.I .i64)] [(false,.I .i64)] x =
 Zco x:=by kernel_rfl
noncomputable def e_l_szRowS:SEnt Tryz.prog:=⟨62,[(false,.L (.P .S (.P (.P (.I .i64) (.L .Y)) (.P (.P (.I .i64) (.L .Y)) (.P (.I .i64) .B))))),(false,.I .i64)],[(false,.I
 .i64)],Zco,runs_see mixed_Pm Tryz.func62 (by kernel_rfl) h_l_szRowS⟩
noncomputable def a_l_szMarkS:An:=.d
theorem h_l_szMarkS (x:(List (Int×Int×Int))×Int):fnX (P:=Tryz.prog) [] [] (sOf Tryz.prog Tryz.f63) a_l_szMarkS (iOf Tryz.prog Tryz.f63) [(false,.L (.P (.I .i64) (.P
 (.I .i64) (.I .i64)))),(false,.I .i64)] [(false,.I .i64)] x=Zdw x:=by kernel_rfl
noncomputable def e_l_szMarkS:SEnt Tryz.prog:=⟨63,[(false,.L (.P (.I .i64) (.P (.I .i64) (.I .i64)))),(false,.I .i64)],[(false,.I .i64)],Zdw,runs_see mixed_Pm
 Tryz.func63 (by kernel_rfl) h_l_szMarkS⟩
noncomputable def a_l_szTab:An:=.d
theorem h_l_szTab (x:((List ((List UInt8)×(Int×List UInt8)×(Int×List UInt8)×Int×Bool))×Int×List (Int×Int×Int))×Int):fnX (P:=Tryz.prog) [.see e_l_szRowS,
 .see e_l_szMarkS] [] (sOf Tryz.prog Tryz.f19) a_l_szTab (iOf Tryz.prog Tryz.f19) [(true,.P (.L (.P .S (.P (.P (.I .i64) (.L .Y)) (.P (.P (.I .i64) (.L .Y)) (.P (.I .i64) .B)))))
 (.P (.I .i64) (.L (.P (.I .i64) (.P (.I .i64) (.I .i64)))))),(false,.I .i64)] [(false,.I .i64)] x=Zbv x:=by kernel_rfl
noncomputable def e_l_szTab:SEnt Tryz.prog:=⟨19,[(true,.P (.L (.P .S (.P (.P (.I .i64) (.L .Y)) (.P (.P (.I .i64) (.L .Y)) (.P (.I .i64) .B))))) (.P (.I .i64) (.L (.P (.I
 .i64) (.P (.I .i64) (.I .i64)))))),(false,.I .i64)],[(false,.I .i64)],Zbv,runs_see mixed_Pm Tryz.func19 (by kernel_rfl) h_l_szTab⟩
noncomputable def a_l_szRec:An:=.d
theorem h_l_szRec (x:(Int×((List UInt8)×(Int×List UInt8)×(Int×List UInt8)×Int×Bool)×(List UInt8)×Int×Int×Int×Int)×Int):fnX (P:=Tryz.prog) [.see
 e_l_szRow] [] (sOf Tryz.prog Tryz.f20) a_l_szRec (iOf Tryz.prog Tryz.f20) [(true,.P (.I .i64) (.P (.P .S (.P (.P (.I .i64) (.L .Y)) (.P (.P (.I .i64) (.L .Y)) (.P (.I .i64)
 .B)))) (.P .S (.P (.I .i64) (.P (.I .i64) (.P (.I .i64) (.I .i64))))))),(false,.I .i64)] [(false,.I .i64)] x=Zbw x:=by kernel_rfl
noncomputable def e_l_szRec:SEnt Tryz.prog:=⟨20,[(true,.P (.I .i64) (.P (.P .S (.P (.P (.I .i64) (.L .Y)) (.P (.P (.I .i64) (.L .Y)) (.P (.I .i64) .B)))) (.P .S (.P (.I .i64)
 (.P (.I .i64) (.P (.I .i64) (.I .i64))))))),(false,.I .i64)],[(false,.I .i64)],Zbw,runs_see mixed_Pm Tryz.func20 (by kernel_rfl) h_l_szRec⟩
noncomputable def a_l_toByteS:An:=(.sq none .d (.sq none .d (.sq (some [.sr 3 .Y]) (.sq none .d (.bl (.lp [.kt 0,.sr 3 .Y,.lt 4 (.I .i64)] .d))) .d)))
theorem h_l_toByteS (x:List UInt8):fnX (P:=Tryz.prog) [] [(7,.el .Y)] (sOf Tryz.prog Tryz.f126) a_l_toByteS (iOf Tryz.prog Tryz.f126) [(false,.L .Y)] [(false,.L .Y)] x =
 Zcp x:=by kernel_rfl
noncomputable def e_l_toByteS:SEnt Tryz.prog:=⟨126,[(false,.L .Y)],[(false,.L .Y)],Zcp,runs_see mixed_Pm Tryz.func126 (by kernel_rfl) h_l_toByteS⟩
noncomputable def a_l_toCell:An:=.d
theorem h_l_toCell (x:Int×List UInt8):fnX (P:=Tryz.prog) [.see e_l_toByteS] [] (sOf Tryz.prog Tryz.f97) a_l_toCell (iOf Tryz.prog Tryz.f97) [(true,.P (.I .i64) (.L .Y))]
 [(true,.P (.I .i64) (.L .Y))] x=Zbx x:=by kernel_rfl
noncomputable def e_l_toCell:SEnt Tryz.prog:=⟨97,[(true,.P (.I .i64) (.L .Y))],[(true,.P (.I .i64) (.L .Y))],Zbx,runs_see mixed_Pm Tryz.func97 (by kernel_rfl)
 h_l_toCell⟩
noncomputable def a_l_toRow:An:=.d
theorem h_l_toRow (x:(List UInt8)×(Int×List UInt8)×(Int×List UInt8)×Int×Bool):fnX (P:=Tryz.prog) [.see e_l_toCell] [] (sOf Tryz.prog Tryz.f67) a_l_toRow (iOf
 Tryz.prog Tryz.f67) [(true,.P .S (.P (.P (.I .i64) (.L .Y)) (.P (.P (.I .i64) (.L .Y)) (.P (.I .i64) .B))))] [(true,.P .S (.P (.P (.I .i64) (.L .Y)) (.P (.P (.I .i64) (.L .Y))
 (.P (.I .i64) .B))))] x=Zy x:=by kernel_rfl
noncomputable def e_l_toRow:SEnt Tryz.prog:=⟨67,[(true,.P .S (.P (.P (.I .i64) (.L .Y)) (.P (.P (.I .i64) (.L .Y)) (.P (.I .i64) .B))))],[(true,.P .S (.P (.P (.I .i64) (.L
 .Y)) (.P (.P (.I .i64) (.L .Y)) (.P (.I .i64) .B))))],Zy,runs_see mixed_Pm Tryz.func67 (by kernel_rfl) h_l_toRow⟩
noncomputable def a_l_toRowS:An:=(.sq none .d (.sq none .d (.sq (some [.sr 3 (.P .S (.P (.P (.I .i64) (.L .Y)) (.P (.P (.I .i64) (.L .Y)) (.P (.I .i64) .B))))]) (.sq none .d
 (.bl (.lp [.kt 0,.sr 3 (.P .S (.P (.P (.I .i64) (.L .Y)) (.P (.P (.I .i64) (.L .Y)) (.P (.I .i64) .B)))),.lt 4 (.I .i64)] .d))) .d)))
theorem h_l_toRowS (x:List ((List UInt8)×(Int×List UInt8)×(Int×List UInt8)×Int×Bool)):fnX (P:=Tryz.prog) [.see e_l_toRow] [(7,.el (.P .S (.P (.P (.I .i64) (.L
 .Y)) (.P (.P (.I .i64) (.L .Y)) (.P (.I .i64) .B)))))] (sOf Tryz.prog Tryz.f65) a_l_toRowS (iOf Tryz.prog Tryz.f65) [(false,.L (.P .S (.P (.P (.I .i64) (.L .Y)) (.P (.P (.I
 .i64) (.L .Y)) (.P (.I .i64) .B)))))] [(false,.L (.P .S (.P (.P (.I .i64) (.L .Y)) (.P (.P (.I .i64) (.L .Y)) (.P (.I .i64) .B)))))] x=Zcq x:=by kernel_rfl
noncomputable def e_l_toRowS:SEnt Tryz.prog:=⟨65,[(false,.L (.P .S (.P (.P (.I .i64) (.L .Y)) (.P (.P (.I .i64) (.L .Y)) (.P (.I .i64) .B)))))],[(false,.L (.P .S (.P (.P
 (.I .i64) (.L .Y)) (.P (.P (.I .i64) (.L .Y)) (.P (.I .i64) .B)))))],Zcq,runs_see mixed_Pm Tryz.func65 (by kernel_rfl) h_l_toRowS⟩
noncomputable def a_l_toMark:An:=.d
theorem h_l_toMark (x:Int×Int×Int):fnX (P:=Tryz.prog) [] [] (sOf Tryz.prog Tryz.f96) a_l_toMark (iOf Tryz.prog Tryz.f96) [(true,.P (.I .i64) (.P (.I .i64) (.I .i64)))]
 [(true,.P (.I .i64) (.P (.I .i64) (.I .i64)))] x=Zdx x:=by kernel_rfl
noncomputable def e_l_toMark:SEnt Tryz.prog:=⟨96,[(true,.P (.I .i64) (.P (.I .i64) (.I .i64)))],[(true,.P (.I .i64) (.P (.I .i64) (.I .i64)))],Zdx,runs_see
 mixed_Pm Tryz.func96 (by kernel_rfl) h_l_toMark⟩
noncomputable def a_l_toMarkS:An:=(.sq none .d (.sq none .d (.sq (some [.sr 3 (.P (.I .i64) (.P (.I .i64) (.I .i64)))]) (.sq none .d (.bl (.lp [.kt 0,.sr 3 (.P (.I .i64) (.P
 (.I .i64) (.I .i64))),.lt 4 (.I .i64)] .d))) .d)))
theorem h_l_toMarkS (x:List (Int×Int×Int)):fnX (P:=Tryz.prog) [.see e_l_toMark] [(7,.el (.P (.I .i64) (.P (.I .i64) (.I .i64))))] (sOf Tryz.prog Tryz.f66) a_l_toMarkS
 (iOf Tryz.prog Tryz.f66) [(false,.L (.P (.I .i64) (.P (.I .i64) (.I .i64))))] [(false,.L (.P (.I .i64) (.P (.I .i64) (.I .i64))))] x=Zcr x:=by kernel_rfl
noncomputable def e_l_toMarkS:SEnt Tryz.prog:=⟨66,[(false,.L (.P (.I .i64) (.P (.I .i64) (.I .i64))))],[(false,.L (.P (.I .i64) (.P (.I .i64) (.I .i64))))],Zcr,
 runs_see mixed_Pm Tryz.func66 (by kernel_rfl) h_l_toMarkS⟩
noncomputable def a_l_toTab:An:=.d
theorem h_l_toTab (x:(List ((List UInt8)×(Int×List UInt8)×(Int×List UInt8)×Int×Bool))×Int×List (Int×Int×Int)):fnX (P:=Tryz.prog) [.see e_l_toRowS,.see
 e_l_toMarkS] [] (sOf Tryz.prog Tryz.f21) a_l_toTab (iOf Tryz.prog Tryz.f21) [(true,.P (.L (.P .S (.P (.P (.I .i64) (.L .Y)) (.P (.P (.I .i64) (.L .Y)) (.P (.I .i64) .B))))) (.P
 (.I .i64) (.L (.P (.I .i64) (.P (.I .i64) (.I .i64))))))] [(true,.P (.L (.P .S (.P (.P (.I .i64) (.L .Y)) (.P (.P (.I .i64) (.L .Y)) (.P (.I .i64) .B))))) (.P (.I .i64) (.L (.P
 (.I .i64) (.P (.I .i64) (.I .i64))))))] x=Za x:=by kernel_rfl
noncomputable def e_l_toTab:SEnt Tryz.prog:=⟨21,[(true,.P (.L (.P .S (.P (.P (.I .i64) (.L .Y)) (.P (.P (.I .i64) (.L .Y)) (.P (.I .i64) .B))))) (.P (.I .i64) (.L (.P (.I
 .i64) (.P (.I .i64) (.I .i64))))))],[(true,.P (.L (.P .S (.P (.P (.I .i64) (.L .Y)) (.P (.P (.I .i64) (.L .Y)) (.P (.I .i64) .B))))) (.P (.I .i64) (.L (.P (.I .i64) (.P (.I
 .i64) (.I .i64))))))],Za,runs_see mixed_Pm Tryz.func21 (by kernel_rfl) h_l_toTab⟩
end Go.Vs
