import Derived.Test.YtbbdcgglfmhhpaaGreatDoorProg
import Derived.Test.YtbbdcgglfmhhpaaGreatDoorVsPlk0
set_option linter.all false
namespace Go.Vs
open Go.Proofs
set_option maxRecDepth 100000
noncomputable def a_l_toWrS:An:=(.sq none .d (.sq none .d (.sq (some [.sr 3 (.P (.I .i64) (.L .Y))]) (.sq none .d (.bl (.lp [.kt 0,.sr 3 (.P (.I .i64) (.L .Y)),.lt 4 (.I
 .i64)] .d))) .d)))
theorem h_l_toWrS (x:List (Int×List UInt8)):fnX (P:=Tryz.prog) [.see e_l_toWr] [(7,.el (.P (.I .i64) (.L .Y)))] (sOf Tryz.prog Tryz.f44) a_l_toWrS (iOf Tryz.prog Tryz.f44)
 [(false,.L (.P (.I .i64) (.L .Y)))] [(false,.L (.P (.I .i64) (.L .Y)))] x=Zee x:=by kernel_rfl
noncomputable def e_l_toWrS:SEnt Tryz.prog:=⟨44,[(false,.L (.P (.I .i64) (.L .Y)))],[(false,.L (.P (.I .i64) (.L .Y)))],Zee,runs_see mixed_Pl Tryz.func44 (by
 kernel_rfl) h_l_toWrS⟩
noncomputable def a_l_toDev:An:=.d
theorem h_l_toDev (x:(List (List UInt8))×(List (Int×List UInt8))×Int×Bool):fnX (P:=Tryz.prog) [.see e_l_toByteSS,.see e_l_toWrS] [] (sOf Tryz.prog Tryz.f16)
 a_l_toDev (iOf Tryz.prog Tryz.f16) [(true,.P (.L (.L .Y)) (.P (.L (.P (.I .i64) (.L .Y))) (.P (.I .i64) .B)))] [(true,.P (.L (.L .Y)) (.P (.L (.P (.I .i64) (.L .Y))) (.P (.I
 .i64) .B)))] x=Zci x:=by kernel_rfl
noncomputable def e_l_toDev:SEnt Tryz.prog:=⟨16,[(true,.P (.L (.L .Y)) (.P (.L (.P (.I .i64) (.L .Y))) (.P (.I .i64) .B)))],[(true,.P (.L (.L .Y)) (.P (.L (.P (.I .i64) (.L
 .Y))) (.P (.I .i64) .B)))],Zci,runs_see mixed_Pl Tryz.func16 (by kernel_rfl) h_l_toDev⟩
noncomputable def a_l_toCell:An:=.d
theorem h_l_toCell (x:Int×List UInt8):fnX (P:=Tryz.prog) [.see e_l_toByteS] [] (sOf Tryz.prog Tryz.f117) a_l_toCell (iOf Tryz.prog Tryz.f117) [(true,.P (.I .i64) (.L .Y))]
 [(true,.P (.I .i64) (.L .Y))] x=Zcj x:=by kernel_rfl
noncomputable def e_l_toCell:SEnt Tryz.prog:=⟨117,[(true,.P (.I .i64) (.L .Y))],[(true,.P (.I .i64) (.L .Y))],Zcj,runs_see mixed_Pl Tryz.func117 (by kernel_rfl)
 h_l_toCell⟩
noncomputable def a_l_toRow:An:=.d
theorem h_l_toRow (x:(List UInt8)×(Int×List UInt8)×(Int×List UInt8)×Int×Bool):fnX (P:=Tryz.prog) [.see e_l_toCell] [] (sOf Tryz.prog Tryz.f85) a_l_toRow (iOf
 Tryz.prog Tryz.f85) [(true,.P .S (.P (.P (.I .i64) (.L .Y)) (.P (.P (.I .i64) (.L .Y)) (.P (.I .i64) .B))))] [(true,.P .S (.P (.P (.I .i64) (.L .Y)) (.P (.P (.I .i64) (.L .Y))
 (.P (.I .i64) .B))))] x=Zck x:=by kernel_rfl
noncomputable def e_l_toRow:SEnt Tryz.prog:=⟨85,[(true,.P .S (.P (.P (.I .i64) (.L .Y)) (.P (.P (.I .i64) (.L .Y)) (.P (.I .i64) .B))))],[(true,.P .S (.P (.P (.I .i64) (.L
 .Y)) (.P (.P (.I .i64) (.L .Y)) (.P (.I .i64) .B))))],Zck,runs_see mixed_Pl Tryz.func85 (by kernel_rfl) h_l_toRow⟩
noncomputable def a_l_toRowS:An:=(.sq none .d (.sq none .d (.sq (some [.sr 3 (.P .S (.P (.P (.I .i64) (.L .Y)) (.P (.P (.I .i64) (.L .Y)) (.P (.I .i64) .B))))]) (.sq none .d
 (.bl (.lp [.kt 0,.sr 3 (.P .S (.P (.P (.I .i64) (.L .Y)) (.P (.P (.I .i64) (.L .Y)) (.P (.I .i64) .B)))),.lt 4 (.I .i64)] .d))) .d)))
theorem h_l_toRowS (x:List ((List UInt8)×(Int×List UInt8)×(Int×List UInt8)×Int×Bool)):fnX (P:=Tryz.prog) [.see e_l_toRow] [(7,.el (.P .S (.P (.P (.I .i64) (.L
 .Y)) (.P (.P (.I .i64) (.L .Y)) (.P (.I .i64) .B)))))] (sOf Tryz.prog Tryz.f45) a_l_toRowS (iOf Tryz.prog Tryz.f45) [(false,.L (.P .S (.P (.P (.I .i64) (.L .Y)) (.P (.P (.I
 .i64) (.L .Y)) (.P (.I .i64) .B)))))] [(false,.L (.P .S (.P (.P (.I .i64) (.L .Y)) (.P (.P (.I .i64) (.L .Y)) (.P (.I .i64) .B)))))] x=Zef x:=by kernel_rfl
noncomputable def e_l_toRowS:SEnt Tryz.prog:=⟨45,[(false,.L (.P .S (.P (.P (.I .i64) (.L .Y)) (.P (.P (.I .i64) (.L .Y)) (.P (.I .i64) .B)))))],[(false,.L (.P .S (.P (.P
 (.I .i64) (.L .Y)) (.P (.P (.I .i64) (.L .Y)) (.P (.I .i64) .B)))))],Zef,runs_see mixed_Pl Tryz.func45 (by kernel_rfl) h_l_toRowS⟩
noncomputable def a_l_toMark:An:=.d
theorem h_l_toMark (x:Int×Int×Int):fnX (P:=Tryz.prog) [] [] (sOf Tryz.prog Tryz.f86) a_l_toMark (iOf Tryz.prog Tryz.f86) [(true,.P (.I .i64) (.P (.I .i64) (.I .i64)))]
 [(true,.P (.I .i64) (.P (.I .i64) (.I .i64)))] x=Zfo x:=by kernel_rfl
noncomputable def e_l_toMark:SEnt Tryz.prog:=⟨86,[(true,.P (.I .i64) (.P (.I .i64) (.I .i64)))],[(true,.P (.I .i64) (.P (.I .i64) (.I .i64)))],Zfo,runs_see
 mixed_Pl Tryz.func86 (by kernel_rfl) h_l_toMark⟩
noncomputable def a_l_toMarkS:An:=(.sq none .d (.sq none .d (.sq (some [.sr 3 (.P (.I .i64) (.P (.I .i64) (.I .i64)))]) (.sq none .d (.bl (.lp [.kt 0,.sr 3 (.P (.I .i64) (.P
 (.I .i64) (.I .i64))),.lt 4 (.I .i64)] .d))) .d)))
theorem h_l_toMarkS (x:List (Int×Int×Int)):fnX (P:=Tryz.prog) [.see e_l_toMark] [(7,.el (.P (.I .i64) (.P (.I .i64) (.I .i64))))] (sOf Tryz.prog Tryz.f46) a_l_toMarkS
 (iOf Tryz.prog Tryz.f46) [(false,.L (.P (.I .i64) (.P (.I .i64) (.I .i64))))] [(false,.L (.P (.I .i64) (.P (.I .i64) (.I .i64))))] x=Zeg x:=by kernel_rfl
noncomputable def e_l_toMarkS:SEnt Tryz.prog:=⟨46,[(false,.L (.P (.I .i64) (.P (.I .i64) (.I .i64))))],[(false,.L (.P (.I .i64) (.P (.I .i64) (.I .i64))))],Zeg,
 runs_see mixed_Pl Tryz.func46 (by kernel_rfl) h_l_toMarkS⟩
noncomputable def a_l_toTab:An:=.d
theorem h_l_toTab (x:(List ((List UInt8)×(Int×List UInt8)×(Int×List UInt8)×Int×Bool))×Int×List (Int×Int×Int)):fnX (P:=Tryz.prog) [.see e_l_toRowS,.see
 e_l_toMarkS] [] (sOf Tryz.prog Tryz.f17) a_l_toTab (iOf Tryz.prog Tryz.f17) [(true,.P (.L (.P .S (.P (.P (.I .i64) (.L .Y)) (.P (.P (.I .i64) (.L .Y)) (.P (.I .i64) .B))))) (.P
 (.I .i64) (.L (.P (.I .i64) (.P (.I .i64) (.I .i64))))))] [(true,.P (.L (.P .S (.P (.P (.I .i64) (.L .Y)) (.P (.P (.I .i64) (.L .Y)) (.P (.I .i64) .B))))) (.P (.I .i64) (.L (.P
 (.I .i64) (.P (.I .i64) (.I .i64))))))] x=Zcl x:=by kernel_rfl
noncomputable def e_l_toTab:SEnt Tryz.prog:=⟨17,[(true,.P (.L (.P .S (.P (.P (.I .i64) (.L .Y)) (.P (.P (.I .i64) (.L .Y)) (.P (.I .i64) .B))))) (.P (.I .i64) (.L (.P (.I
 .i64) (.P (.I .i64) (.I .i64))))))],[(true,.P (.L (.P .S (.P (.P (.I .i64) (.L .Y)) (.P (.P (.I .i64) (.L .Y)) (.P (.I .i64) .B))))) (.P (.I .i64) (.L (.P (.I .i64) (.P (.I
 .i64) (.I .i64))))))],Zcl,runs_see mixed_Pl Tryz.func17 (by kernel_rfl) h_l_toTab⟩
noncomputable def a_l_toStore:An:=.d
theorem h_l_toStore (x:((List (List UInt8))×(List (Int×List UInt8))×Int×Bool)×((List ((List UInt8)×(Int×List UInt8)×(Int×List UInt8)×Int×Bool))×Int×List
 (Int×Int×Int))×Int×Int):fnX (P:=Tryz.prog) [.see e_l_toDev,.see e_l_toTab] [] (sOf Tryz.prog Tryz.f6) a_l_toStore (iOf Tryz.prog Tryz.f6) [(true,.P (.P (.L (.L .Y))
 (.P (.L (.P (.I .i64) (.L .Y))) (.P (.I .i64) .B))) (.P (.P (.L (.P .S (.P (.P (.I .i64) (.L .Y)) (.P (.P (.I .i64) (.L .Y)) (.P (.I .i64) .B))))) (.P (.I .i64) (.L (.P (.I .i64)
 (.P (.I .i64) (.I .i64)))))) (.P (.I .i64) (.I .i64))))] [(true,.P (.P (.L (.L .Y)) (.P (.L (.P (.I .i64) (.L .Y))) (.P (.I .i64) .B))) (.P (.P (.L (.P .S (.P (.P (.I .i64) (.L
 .Y)) (.P (.P (.I .i64) (.L .Y)) (.P (.I .i64) .B))))) (.P (.I .i64) (.L (.P (.I .i64) (.P (.I .i64) (.I .i64)))))) (.P (.I .i64) (.I .i64))))] x=Zl x:=by kernel_rfl
noncomputable def e_l_toStore:SEnt Tryz.prog:=⟨6,[(true,.P (.P (.L (.L .Y)) (.P (.L (.P (.I .i64) (.L .Y))) (.P (.I .i64) .B))) (.P (.P (.L (.P .S (.P (.P (.I .i64) (.L .Y))
 (.P (.P (.I .i64) (.L .Y)) (.P (.I .i64) .B))))) (.P (.I .i64) (.L (.P (.I .i64) (.P (.I .i64) (.I .i64)))))) (.P (.I .i64) (.I .i64))))],[(true,.P (.P (.L (.L .Y)) (.P (.L (.P
 (.I .i64) (.L .Y))) (.P (.I .i64) .B))) (.P (.P (.L (.P .S (.P (.P (.I .i64) (.L .Y)) (.P (.P (.I .i64) (.L .Y)) (.P (.I .i64) .B))))) (.P (.I .i64) (.L (.P (.I .i64) (.P (.I
 .i64) (.I .i64)))))) (.P (.I .i64) (.I .i64))))],Zl,runs_see mixed_Pl Tryz.func6 (by kernel_rfl) h_l_toStore⟩
noncomputable def a_s_l10Copy:An:=(.sq none .d (.sq none .d (.sq (some [.kt 1,.kt 2,.bx 3 [.O (.L .Y),.K,.K,.K]]) (.sq none .d (.bl (.lp [.kt 1,.kt 2,.bx 3 [.O (.L .Y),
 .K,.K,.K],.lt 4 (.I .i64)] .d))) (.sq (some [.kt 2,.bx 3 [.K,.O (.P (.I .i64) (.L .Y)),.K,.K]]) (.sq none .d (.bl (.lp [.kt 1,.kt 2,.bx 3 [.K,.O (.P (.I .i64) (.L .Y)),
 .K,.K],.lt 5 (.I .i64)] .d))) .d))))
theorem h_s_l10Copy (x:(List (List UInt8))×(List (Int×List UInt8))×Int×Bool):fnX (P:=Tryz.prog) [] [(20,.el .Y),(26,.el .Y),(27,.el (.L .Y)),(28,.el (.L .Y)),
 (45,.el .Y),(52,.el .Y),(54,.el (.P (.I .i64) (.L .Y))),(55,.el (.P (.I .i64) (.L .Y)))] (sOf Tryz.prog Tryz.f32) a_s_l10Copy (iOf Tryz.prog Tryz.f32) [(true,.P (.L (.L
 .Y)) (.P (.L (.P (.I .i64) (.L .Y))) (.P (.I .i64) .B)))] [(true,.P (.L (.L .Y)) (.P (.L (.P (.I .i64) (.L .Y))) (.P (.I .i64) .B)))] x=Zcm x:=by kernel_rfl
noncomputable def e_s_l10Copy:SEnt Tryz.prog:=⟨32,[(true,.P (.L (.L .Y)) (.P (.L (.P (.I .i64) (.L .Y))) (.P (.I .i64) .B)))],[(true,.P (.L (.L .Y)) (.P (.L (.P (.I .i64)
 (.L .Y))) (.P (.I .i64) .B)))],Zcm,runs_see mixed_Pl Tryz.func32 (by kernel_rfl) h_s_l10Copy⟩
noncomputable def a_s_l8Copy:An:=.d
theorem h_s_l8Copy (x:Int×List UInt8):fnX (P:=Tryz.prog) [] [(5,.el .Y),(8,.el .Y)] (sOf Tryz.prog Tryz.f105) a_s_l8Copy (iOf Tryz.prog Tryz.f105) [(true,.P (.I .i64)
 (.L .Y))] [(true,.P (.I .i64) (.L .Y))] x=Zcn x:=by kernel_rfl
noncomputable def e_s_l8Copy:SEnt Tryz.prog:=⟨105,[(true,.P (.I .i64) (.L .Y))],[(true,.P (.I .i64) (.L .Y))],Zcn,runs_see mixed_Pl Tryz.func105 (by kernel_rfl)
 h_s_l8Copy⟩
noncomputable def a_s_l9Copy:An:=.d
theorem h_s_l9Copy (x:(List UInt8)×(Int×List UInt8)×(Int×List UInt8)×Int×Bool):fnX (P:=Tryz.prog) [.see e_s_l8Copy] [] (sOf Tryz.prog Tryz.f73) a_s_l9Copy (iOf
 Tryz.prog Tryz.f73) [(true,.P .S (.P (.P (.I .i64) (.L .Y)) (.P (.P (.I .i64) (.L .Y)) (.P (.I .i64) .B))))] [(true,.P .S (.P (.P (.I .i64) (.L .Y)) (.P (.P (.I .i64) (.L .Y))
 (.P (.I .i64) .B))))] x=Zp x:=by kernel_rfl
noncomputable def e_s_l9Copy:SEnt Tryz.prog:=⟨73,[(true,.P .S (.P (.P (.I .i64) (.L .Y)) (.P (.P (.I .i64) (.L .Y)) (.P (.I .i64) .B))))],[(true,.P .S (.P (.P (.I .i64) (.L
 .Y)) (.P (.P (.I .i64) (.L .Y)) (.P (.I .i64) .B))))],Zp,runs_see mixed_Pl Tryz.func73 (by kernel_rfl) h_s_l9Copy⟩
noncomputable def a_s_l12Copy:An:=(.sq none .d (.sq none .d (.sq (some [.kt 2,.bx 3 [.O (.P .S (.P (.P (.I .i64) (.L .Y)) (.P (.P (.I .i64) (.L .Y)) (.P (.I .i64) .B)))),.K,
 .K]]) (.sq none .d (.bl (.lp [.kt 1,.kt 2,.bx 3 [.O (.P .S (.P (.P (.I .i64) (.L .Y)) (.P (.P (.I .i64) (.L .Y)) (.P (.I .i64) .B)))),.K,.K],.lt 4 (.I .i64)] .d))) .d)))
theorem h_s_l12Copy (x:(List ((List UInt8)×(Int×List UInt8)×(Int×List UInt8)×Int×Bool))×Int×List (Int×Int×Int)):fnX (P:=Tryz.prog) [.see e_s_l9Copy] [(7,
 .el (.P (.I .i64) (.P (.I .i64) (.I .i64)))),(10,.el (.P (.I .i64) (.P (.I .i64) (.I .i64)))),(27,.el (.P .S (.P (.P (.I .i64) (.L .Y)) (.P (.P (.I .i64) (.L .Y)) (.P (.I
 .i64) .B))))),(28,.el (.P .S (.P (.P (.I .i64) (.L .Y)) (.P (.P (.I .i64) (.L .Y)) (.P (.I .i64) .B)))))] (sOf Tryz.prog Tryz.f33) a_s_l12Copy (iOf Tryz.prog Tryz.f33) [(true,
 .P (.L (.P .S (.P (.P (.I .i64) (.L .Y)) (.P (.P (.I .i64) (.L .Y)) (.P (.I .i64) .B))))) (.P (.I .i64) (.L (.P (.I .i64) (.P (.I .i64) (.I .i64))))))] [(true,.P (.L (.P .S (.P
 (.P (.I .i64) (.L .Y)) (.P (.P (.I .i64) (.L .Y)) (.P (.I .i64) .B))))) (.P (.I .i64) (.L (.P (.I .i64) (.P (.I .i64) (.I .i64))))))] x=Zco x:=by kernel_rfl
noncomputable def e_s_l12Copy:SEnt Tryz.prog:=⟨33,[(true,.P (.L (.P .S (.P (.P (.I .i64) (.L .Y)) (.P (.P (.I .i64) (.L .Y)) (.P (.I .i64) .B))))) (.P (.I .i64) (.L (.P (.I
 .i64) (.P (.I .i64) (.I .i64))))))],[(true,.P (.L (.P .S (.P (.P (.I .i64) (.L .Y)) (.P (.P (.I .i64) (.L .Y)) (.P (.I .i64) .B))))) (.P (.I .i64) (.L (.P (.I .i64) (.P (.I
 .i64) (.I .i64))))))],Zco,runs_see mixed_Pl Tryz.func33 (by kernel_rfl) h_s_l12Copy⟩
noncomputable def a_s_l13Copy:An:=.d
theorem h_s_l13Copy (x:((List (List UInt8))×(List (Int×List UInt8))×Int×Bool)×((List ((List UInt8)×(Int×List UInt8)×(Int×List UInt8)×Int×Bool))×Int×List
 (Int×Int×Int))×Int×Int):fnX (P:=Tryz.prog) [.see e_s_l10Copy,.see e_s_l12Copy] [] (sOf Tryz.prog Tryz.f13) a_s_l13Copy (iOf Tryz.prog Tryz.f13) [(true,.P (.P (.L
 (.L .Y)) (.P (.L (.P (.I .i64) (.L .Y))) (.P (.I .i64) .B))) (.P (.P (.L (.P .S (.P (.P (.I .i64) (.L .Y)) (.P (.P (.I .i64) (.L .Y)) (.P (.I .i64) .B))))) (.P (.I .i64) (.L (.P
 (.I .i64) (.P (.I .i64) (.I .i64)))))) (.P (.I .i64) (.I .i64))))] [(true,.P (.P (.L (.L .Y)) (.P (.L (.P (.I .i64) (.L .Y))) (.P (.I .i64) .B))) (.P (.P (.L (.P .S (.P (.P (.I
 .i64) (.L .Y)) (.P (.P (.I .i64) (.L .Y)) (.P (.I .i64) .B))))) (.P (.I .i64) (.L (.P (.I .i64) (.P (.I .i64) (.I .i64)))))) (.P (.I .i64) (.I .i64))))] x=Zeh x:=by
 kernel_rfl
noncomputable def e_s_l13Copy:SEnt Tryz.prog:=⟨13,[(true,.P (.P (.L (.L .Y)) (.P (.L (.P (.I .i64) (.L .Y))) (.P (.I .i64) .B))) (.P (.P (.L (.P .S (.P (.P (.I .i64) (.L .Y))
 (.P (.P (.I .i64) (.L .Y)) (.P (.I .i64) .B))))) (.P (.I .i64) (.L (.P (.I .i64) (.P (.I .i64) (.I .i64)))))) (.P (.I .i64) (.I .i64))))],[(true,.P (.P (.L (.L .Y)) (.P (.L (.P
 (.I .i64) (.L .Y))) (.P (.I .i64) .B))) (.P (.P (.L (.P .S (.P (.P (.I .i64) (.L .Y)) (.P (.P (.I .i64) (.L .Y)) (.P (.I .i64) .B))))) (.P (.I .i64) (.L (.P (.I .i64) (.P (.I
 .i64) (.I .i64)))))) (.P (.I .i64) (.I .i64))))],Zeh,runs_see mixed_Pl Tryz.func13 (by kernel_rfl) h_s_l13Copy⟩
end Go.Vs
