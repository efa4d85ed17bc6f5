import Derived.Test.YtmpopjdcbabchaaGreatDoorProg
import Derived.Test.YtmpopjdcbabchaaGreatDoorVsPmk2
set_option linter.all false
namespace Go.Vs
open Go.Proofs
set_option maxRecDepth 100000
noncomputable def a_s_TabOk:An:=(.sq none .d (.sq (some [.kt 1]) (.sq none .d (.bl (.lp [.kt 1,.lt 3 (.I .i64)] .d))) (.sq (some [.kt 1]) (.sq none .d (.bl (.lp [.kt 1,.lt 4
 (.I .i64)] .d))) .d)))
theorem h_s_TabOk (x:(List ((List UInt8)×(Int×List UInt8)×(Int×List UInt8)×Int×Bool))×Int×List (Int×Int×Int)):fnX (P:=Tryz.prog) [.see e_s_RowOk,.see
 e_s_l12Mark,.see e_s_l1In] [] (sOf Tryz.prog Tryz.f37) a_s_TabOk (iOf Tryz.prog Tryz.f37) [(true,.P (.L (.P .S (.P (.P (.I .i64) (.L .Y)) (.P (.P (.I .i64) (.L .Y)) (.P (.I
 .i64) .B))))) (.P (.I .i64) (.L (.P (.I .i64) (.P (.I .i64) (.I .i64))))))] [(false,.B)] x=Zw x:=by kernel_rfl
noncomputable def e_s_TabOk:SEnt Tryz.prog:=⟨37,[(true,.P (.L (.P .S (.P (.P (.I .i64) (.L .Y)) (.P (.P (.I .i64) (.L .Y)) (.P (.I .i64) .B))))) (.P (.I .i64) (.L (.P (.I
 .i64) (.P (.I .i64) (.I .i64))))))],[(false,.B)],Zw,runs_see mixed_Pm Tryz.func37 (by kernel_rfl) h_s_TabOk⟩
noncomputable def a_s_l11NoRow:An:=.d
theorem h_s_l11NoRow (x:(List UInt8)×(Int×List UInt8)×(Int×List UInt8)×Int×Bool):fnX (P:=Tryz.prog) [.see e_s_l9None] [] (sOf Tryz.prog Tryz.f87) a_s_l11NoRow
 (iOf Tryz.prog Tryz.f87) [(true,.P .S (.P (.P (.I .i64) (.L .Y)) (.P (.P (.I .i64) (.L .Y)) (.P (.I .i64) .B))))] [(false,.B)] x=Zcz x:=by kernel_rfl
noncomputable def e_s_l11NoRow:SEnt Tryz.prog:=⟨87,[(true,.P .S (.P (.P (.I .i64) (.L .Y)) (.P (.P (.I .i64) (.L .Y)) (.P (.I .i64) .B))))],[(false,.B)],Zcz,
 runs_see mixed_Pm Tryz.func87 (by kernel_rfl) h_s_l11NoRow⟩
noncomputable def a_s_l11Who:An:=.d
theorem h_s_l11Who (x:Int×((List UInt8)×(Int×List UInt8)×(Int×List UInt8)×Int×Bool)×(List UInt8)×Int×Int×Int×Int):fnX (P:=Tryz.prog) [.see e_s_l1In,
 .see e_s_l1Word] [] (sOf Tryz.prog Tryz.f89) a_s_l11Who (iOf Tryz.prog Tryz.f89) [(true,.P (.I .i64) (.P (.P .S (.P (.P (.I .i64) (.L .Y)) (.P (.P (.I .i64) (.L .Y)) (.P (.I
 .i64) .B)))) (.P .S (.P (.I .i64) (.P (.I .i64) (.P (.I .i64) (.I .i64)))))))] [(false,.B)] x=Zea x:=by kernel_rfl
noncomputable def e_s_l11Who:SEnt Tryz.prog:=⟨89,[(true,.P (.I .i64) (.P (.P .S (.P (.P (.I .i64) (.L .Y)) (.P (.P (.I .i64) (.L .Y)) (.P (.I .i64) .B)))) (.P .S (.P (.I
 .i64) (.P (.I .i64) (.P (.I .i64) (.I .i64)))))))],[(false,.B)],Zea,runs_see mixed_Pm Tryz.func89 (by kernel_rfl) h_s_l11Who⟩
noncomputable def a_s_RecOk:An:=(.sq none .d (.sq none .d (.sq none .d (.sq none .d (.sq (some [.kt 1,.lt 3 .B,.lt 4 .B,.lt 5 .B]) .d .d)))))
theorem h_s_RecOk (x:Int×((List UInt8)×(Int×List UInt8)×(Int×List UInt8)×Int×Bool)×(List UInt8)×Int×Int×Int×Int):fnX (P:=Tryz.prog) [.see
 e_s_l11NoRow,.see e_s_RowOk,.see e_s_NameOk,.see e_s_l1In,.see e_s_l11Who] [] (sOf Tryz.prog Tryz.f48) a_s_RecOk (iOf Tryz.prog Tryz.f48) [(true,.P (.I .i64) (.P (.P .S (.P
 (.P (.I .i64) (.L .Y)) (.P (.P (.I .i64) (.L .Y)) (.P (.I .i64) .B)))) (.P .S (.P (.I .i64) (.P (.I .i64) (.P (.I .i64) (.I .i64)))))))] [(false,.B)] x=Zcc x:=by
 kernel_rfl
noncomputable def e_s_RecOk:SEnt Tryz.prog:=⟨48,[(true,.P (.I .i64) (.P (.P .S (.P (.P (.I .i64) (.L .Y)) (.P (.P (.I .i64) (.L .Y)) (.P (.I .i64) .B)))) (.P .S (.P (.I .i64)
 (.P (.I .i64) (.P (.I .i64) (.I .i64)))))))],[(false,.B)],Zcc,runs_see mixed_Pm Tryz.func48 (by kernel_rfl) h_s_RecOk⟩
noncomputable def a_s_l12Row:An:=(.sq none .d (.sq none .d (.sq none .d (.sq (some [.kt 3,.ot 5 (.P .S (.P (.P (.I .i64) (.L .Y)) (.P (.P (.I .i64) (.L .Y)) (.P (.I .i64)
 .B)))),.lt 6 .B]) (.sq none .d (.bl (.lp [.sr 0 (.P .S (.P (.P (.I .i64) (.H .Y)) (.P (.P (.I .i64) (.H .Y)) (.P (.I .i64) .B)))),.kt 3,.ot 5 (.P .S (.P (.P (.I .i64) (.L .Y))
 (.P (.P (.I .i64) (.L .Y)) (.P (.I .i64) .B)))),.lt 6 .B,.lt 7 (.I .i64)] (.sq none .d (.sq (some [.sr 0 (.P .S (.P (.P (.I .i64) (.H .Y)) (.P (.P (.I .i64) (.H .Y)) (.P (.I
 .i64) .B)))),.kt 3,.ot 5 (.P .S (.P (.P (.I .i64) (.L .Y)) (.P (.P (.I .i64) (.L .Y)) (.P (.I .i64) .B)))),.lt 6 .B,.kt 7]) (.bl (.sq (some [.kt 0,.kt 3,.ot 5 (.P .S (.P
 (.P (.I .i64) (.L .Y)) (.P (.P (.I .i64) (.L .Y)) (.P (.I .i64) .B)))),.lt 6 .B,.kt 7]) .d .d)) .d))))) (.sq (some [.ot 5 (.P .S (.P (.P (.I .i64) (.L .Y)) (.P (.P (.I .i64)
 (.L .Y)) (.P (.I .i64) .B))))]) .d .d)))))
theorem h_s_l12Row (x:(List ((List UInt8)×(Int×Option (List UInt8))×(Int×Option (List UInt8))×Int×Bool))×(List UInt8)×(Int×List UInt8)×(Int×List UInt8) ×
 Int×Bool):fnG (P:=Tryz.prog) [.see e_s_l9Copy] [(8,.el (.P .S (.P (.P (.I .i64) (.L .Y)) (.P (.P (.I .i64) (.L .Y)) (.P (.I .i64) .B))))),(30,.el (.P .S (.P (.P (.I
 .i64) (.L .Y)) (.P (.P (.I .i64) (.L .Y)) (.P (.I .i64) .B))))),(31,.el (.P .S (.P (.P (.I .i64) (.L .Y)) (.P (.P (.I .i64) (.L .Y)) (.P (.I .i64) .B))))),(45,.el (.P .S (.P
 (.P (.I .i64) (.L .Y)) (.P (.P (.I .i64) (.L .Y)) (.P (.I .i64) .B))))),(46,.el (.P .S (.P (.P (.I .i64) (.L .Y)) (.P (.P (.I .i64) (.L .Y)) (.P (.I .i64) .B))))),(52,.el (.P
 .S (.P (.P (.I .i64) (.L .Y)) (.P (.P (.I .i64) (.L .Y)) (.P (.I .i64) .B))))),(53,.el (.P .S (.P (.P (.I .i64) (.L .Y)) (.P (.P (.I .i64) (.L .Y)) (.P (.I .i64) .B)))))] (sOf
 Tryz.prog Tryz.f49) a_s_l12Row (iOf Tryz.prog Tryz.f49) [⟨false,false,.L (.P .S (.P (.P (.I .i64) (.H .Y)) (.P (.P (.I .i64) (.H .Y)) (.P (.I .i64) .B)))),[.ow],none⟩,
 ⟨false,true,.P .S (.P (.P (.I .i64) (.L .Y)) (.P (.P (.I .i64) (.L .Y)) (.P (.I .i64) .B))),[.rd,.rd,.rd,.rd,.rd,.rd,.rd],none⟩] [(false,.L (.P .S (.P (.P (.I .i64)
 (.L .Y)) (.P (.P (.I .i64) (.L .Y)) (.P (.I .i64) .B)))))] x=Zbo x:=by kernel_rfl
noncomputable def e_s_l12Row:GEnt Tryz.prog:=⟨49,[⟨false,false,.L (.P .S (.P (.P (.I .i64) (.H .Y)) (.P (.P (.I .i64) (.H .Y)) (.P (.I .i64) .B)))),[.ow],none⟩,⟨false,
 true,.P .S (.P (.P (.I .i64) (.L .Y)) (.P (.P (.I .i64) (.L .Y)) (.P (.I .i64) .B))),[.rd,.rd,.rd,.rd,.rd,.rd,.rd],none⟩],[(false,.L (.P .S (.P (.P (.I .i64) (.L .Y))
 (.P (.P (.I .i64) (.L .Y)) (.P (.I .i64) .B)))))],Zbo,runs_gen mixed_Pm Tryz.func49 (by kernel_rfl) h_s_l12Row⟩
noncomputable def a_s_RowAt:An:=(.sq none .d (.sq none (.sq none .d (.bl (.lp [.kt 1,.kt 2,.lt 5 (.I .i64)] .d))) .d))
theorem h_s_RowAt (x:((List ((List UInt8)×(Int×List UInt8)×(Int×List UInt8)×Int×Bool))×Int×List (Int×Int×Int))×List UInt8):fnX (P:=Tryz.prog) [] [] (sOf
 Tryz.prog Tryz.f38) a_s_RowAt (iOf Tryz.prog Tryz.f38) [(true,.P (.L (.P .S (.P (.P (.I .i64) (.L .Y)) (.P (.P (.I .i64) (.L .Y)) (.P (.I .i64) .B))))) (.P (.I .i64) (.L (.P (.I
 .i64) (.P (.I .i64) (.I .i64)))))),(false,.S)] [(false,.I .i64)] x=Zbp x:=by kernel_rfl
noncomputable def e_s_RowAt:SEnt Tryz.prog:=⟨38,[(true,.P (.L (.P .S (.P (.P (.I .i64) (.L .Y)) (.P (.P (.I .i64) (.L .Y)) (.P (.I .i64) .B))))) (.P (.I .i64) (.L (.P (.I
 .i64) (.P (.I .i64) (.I .i64)))))),(false,.S)],[(false,.I .i64)],Zbp,runs_see mixed_Pm Tryz.func38 (by kernel_rfl) h_s_RowAt⟩
noncomputable def a_s_l12Put:An:=(.sq none .d (.sq none .d (.sq none .d (.sq (some [.kt 3,.ot 5 (.P (.I .i64) (.P (.I .i64) (.I .i64))),.lt 6 .B]) (.sq none .d (.bl (.lp [.kt
 0,.kt 3,.ot 5 (.P (.I .i64) (.P (.I .i64) (.I .i64))),.lt 6 .B,.lt 7 (.I .i64)] (.sq none .d (.sq (some [.kt 0,.kt 3,.ot 5 (.P (.I .i64) (.P (.I .i64) (.I .i64))),.lt 6
 .B,.kt 7]) (.bl (.sq (some [.kt 0,.kt 3,.ot 5 (.P (.I .i64) (.P (.I .i64) (.I .i64))),.lt 6 .B,.kt 7]) .d .d)) .d))))) (.sq (some [.ot 5 (.P (.I .i64) (.P (.I .i64) (.I
 .i64)))]) .d .d)))))
theorem h_s_l12Put (x:(List (Int×Int×Int))×Int×Int×Int):fnX (P:=Tryz.prog) [] [(8,.el (.P (.I .i64) (.P (.I .i64) (.I .i64)))),(29,.el (.P (.I .i64) (.P (.I
 .i64) (.I .i64)))),(30,.el (.P (.I .i64) (.P (.I .i64) (.I .i64)))),(44,.el (.P (.I .i64) (.P (.I .i64) (.I .i64)))),(45,.el (.P (.I .i64) (.P (.I .i64) (.I .i64)))),(50,
 .el (.P (.I .i64) (.P (.I .i64) (.I .i64)))),(51,.el (.P (.I .i64) (.P (.I .i64) (.I .i64))))] (sOf Tryz.prog Tryz.f50) a_s_l12Put (iOf Tryz.prog Tryz.f50) [(false,.L (.P (.I
 .i64) (.P (.I .i64) (.I .i64)))),(true,.P (.I .i64) (.P (.I .i64) (.I .i64)))] [(false,.L (.P (.I .i64) (.P (.I .i64) (.I .i64))))] x=Zbq x:=by kernel_rfl
noncomputable def e_s_l12Put:SEnt Tryz.prog:=⟨50,[(false,.L (.P (.I .i64) (.P (.I .i64) (.I .i64)))),(true,.P (.I .i64) (.P (.I .i64) (.I .i64)))],[(false,.L (.P (.I
 .i64) (.P (.I .i64) (.I .i64))))],Zbq,runs_see mixed_Pm Tryz.func50 (by kernel_rfl) h_s_l12Put⟩
noncomputable def a_s_Apply:An:=(.sq none .d (.sq none .d (.sq none .d (.sq (some [.kt 2,.kt 3,.kt 4,.bx 6 [.O (.P .S (.P (.P (.I .i64) (.L .Y)) (.P (.P (.I .i64) (.L .Y))
 (.P (.I .i64) .B)))),.L (.I .i64),.K]]) .d (.sq (some [.kt 2,.kt 4,.bx 6 [.K,.K,.O (.P (.I .i64) (.P (.I .i64) (.I .i64)))]]) .d .d)))))
theorem h_s_Apply (x:((List ((List UInt8)×(Int×List UInt8)×(Int×List UInt8)×Int×Bool))×Int×List (Int×Int×Int))×Int×((List UInt8)×(Int×List UInt8) ×
 (Int×List UInt8)×Int×Bool)×(List UInt8)×Int×Int×Int×Int):fnX (P:=Tryz.prog) [.see e_s_l12Copy,.see e_s_TabOk,.see e_s_RecOk,.gen e_s_l12Row,.see
 e_s_RowAt,.see e_s_l12Put] [(37,.el (.P .S (.P (.P (.I .i64) (.L .Y)) (.P (.P (.I .i64) (.L .Y)) (.P (.I .i64) .B))))),(42,.el (.P .S (.P (.P (.I .i64) (.L .Y)) (.P (.P (.I
 .i64) (.L .Y)) (.P (.I .i64) .B))))),(48,.el (.P .S (.P (.P (.I .i64) (.L .Y)) (.P (.P (.I .i64) (.L .Y)) (.P (.I .i64) .B)))))] (sOf Tryz.prog Tryz.f10) a_s_Apply (iOf
 Tryz.prog Tryz.f10) [(true,.P (.L (.P .S (.P (.P (.I .i64) (.L .Y)) (.P (.P (.I .i64) (.L .Y)) (.P (.I .i64) .B))))) (.P (.I .i64) (.L (.P (.I .i64) (.P (.I .i64) (.I
 .i64)))))),(true,.P (.I .i64) (.P (.P .S (.P (.P (.I .i64) (.L .Y)) (.P (.P (.I .i64) (.L .Y)) (.P (.I .i64) .B)))) (.P .S (.P (.I .i64) (.P (.I .i64) (.P (.I .i64) (.I
 .i64)))))))] [(true,.P (.L (.P .S (.P (.P (.I .i64) (.L .Y)) (.P (.P (.I .i64) (.L .Y)) (.P (.I .i64) .B))))) (.P (.I .i64) (.L (.P (.I .i64) (.P (.I .i64) (.I .i64)))))),
 (false,.B)] x=Zo x:=by kernel_rfl
noncomputable def e_s_Apply:SEnt Tryz.prog:=⟨10,[(true,.P (.L (.P .S (.P (.P (.I .i64) (.L .Y)) (.P (.P (.I .i64) (.L .Y)) (.P (.I .i64) .B))))) (.P (.I .i64) (.L (.P (.I
 .i64) (.P (.I .i64) (.I .i64)))))),(true,.P (.I .i64) (.P (.P .S (.P (.P (.I .i64) (.L .Y)) (.P (.P (.I .i64) (.L .Y)) (.P (.I .i64) .B)))) (.P .S (.P (.I .i64) (.P (.I .i64)
 (.P (.I .i64) (.I .i64)))))))],[(true,.P (.L (.P .S (.P (.P (.I .i64) (.L .Y)) (.P (.P (.I .i64) (.L .Y)) (.P (.I .i64) .B))))) (.P (.I .i64) (.L (.P (.I .i64) (.P (.I .i64)
 (.I .i64)))))),(false,.B)],Zo,runs_see mixed_Pm Tryz.func10 (by kernel_rfl) h_s_Apply⟩
noncomputable def a_i_joined:An:=(.sq none .d (.sq none .d (.sq (some [.ot 3 .Y]) (.sq none .d (.bl (.lp [.ot 3 .Y,.kt 7,.kt 8,.lt 9 (.I .i64)] .d))) .d)))
theorem h_i_joined (x:List (List UInt8)):fnX (P:=Tryz.prog) [] [(6,.el .Y),(15,.el .Y)] (sOf Tryz.prog Tryz.f124) a_i_joined (iOf Tryz.prog Tryz.f124) [(false,.L (.L
 .Y))] [(false,.L .Y)] x=Zcd x:=by kernel_rfl
noncomputable def e_i_joined:SEnt Tryz.prog:=⟨124,[(false,.L (.L .Y))],[(false,.L .Y)],Zcd,runs_see mixed_Pm Tryz.func124 (by kernel_rfl) h_i_joined⟩
noncomputable def a_i_copyCell:An:=.d
theorem h_i_copyCell (x:Int×List UInt8):fnX (P:=Tryz.prog) [.see e_i_joined] [(7,.sb)] (sOf Tryz.prog Tryz.f94) a_i_copyCell (iOf Tryz.prog Tryz.f94) [(true,.P (.I .i64)
 (.L .Y))] [(true,.P (.I .i64) (.L .Y))] x=Zce x:=by kernel_rfl
noncomputable def e_i_copyCell:SEnt Tryz.prog:=⟨94,[(true,.P (.I .i64) (.L .Y))],[(true,.P (.I .i64) (.L .Y))],Zce,runs_see mixed_Pm Tryz.func94 (by kernel_rfl)
 h_i_copyCell⟩
noncomputable def a_i_copyRow:An:=.d
theorem h_i_copyRow (x:(List UInt8)×(Int×List UInt8)×(Int×List UInt8)×Int×Bool):fnX (P:=Tryz.prog) [.see e_i_copyCell] [] (sOf Tryz.prog Tryz.f57) a_i_copyRow
 (iOf Tryz.prog Tryz.f57) [(true,.P .S (.P (.P (.I .i64) (.L .Y)) (.P (.P (.I .i64) (.L .Y)) (.P (.I .i64) .B))))] [(true,.P .S (.P (.P (.I .i64) (.L .Y)) (.P (.P (.I .i64) (.L
 .Y)) (.P (.I .i64) .B))))] x=Zn x:=by kernel_rfl
noncomputable def e_i_copyRow:SEnt Tryz.prog:=⟨57,[(true,.P .S (.P (.P (.I .i64) (.L .Y)) (.P (.P (.I .i64) (.L .Y)) (.P (.I .i64) .B))))],[(true,.P .S (.P (.P (.I .i64)
 (.L .Y)) (.P (.P (.I .i64) (.L .Y)) (.P (.I .i64) .B))))],Zn,runs_see mixed_Pm Tryz.func57 (by kernel_rfl) h_i_copyRow⟩
noncomputable def a_i_copyTab:An:=(.sq none .d (.sq none .d (.sq (some [.kt 2,.bx 3 [.O (.P .S (.P (.P (.I .i64) (.L .Y)) (.P (.P (.I .i64) (.L .Y)) (.P (.I .i64) .B)))),.K,
 .K]]) (.sq none .d (.bl (.lp [.kt 2,.bx 3 [.O (.P .S (.P (.P (.I .i64) (.L .Y)) (.P (.P (.I .i64) (.L .Y)) (.P (.I .i64) .B)))),.K,.K],.kt 14,.kt 15,.lt 16 (.I .i64)] .d)))
 .d)))
theorem h_i_copyTab (x:(List ((List UInt8)×(Int×List UInt8)×(Int×List UInt8)×Int×Bool))×Int×List (Int×Int×Int)):fnX (P:=Tryz.prog) [.see e_i_copyRow] [(8,
 .el (.P (.I .i64) (.P (.I .i64) (.I .i64)))),(11,.el (.P (.I .i64) (.P (.I .i64) (.I .i64)))),(24,.el (.P .S (.P (.P (.I .i64) (.L .Y)) (.P (.P (.I .i64) (.L .Y)) (.P (.I
 .i64) .B))))),(25,.el (.P .S (.P (.P (.I .i64) (.L .Y)) (.P (.P (.I .i64) (.L .Y)) (.P (.I .i64) .B)))))] (sOf Tryz.prog Tryz.f42) a_i_copyTab (iOf Tryz.prog Tryz.f42) [(true,
 .P (.L (.P .S (.P (.P (.I .i64) (.L .Y)) (.P (.P (.I .i64) (.L .Y)) (.P (.I .i64) .B))))) (.P (.I .i64) (.L (.P (.I .i64) (.P (.I .i64) (.I .i64))))))] [(true,.P (.L (.P .S (.P
 (.P (.I .i64) (.L .Y)) (.P (.P (.I .i64) (.L .Y)) (.P (.I .i64) .B))))) (.P (.I .i64) (.L (.P (.I .i64) (.P (.I .i64) (.I .i64))))))] x=Zbc x:=by kernel_rfl
noncomputable def e_i_copyTab:SEnt Tryz.prog:=⟨42,[(true,.P (.L (.P .S (.P (.P (.I .i64) (.L .Y)) (.P (.P (.I .i64) (.L .Y)) (.P (.I .i64) .B))))) (.P (.I .i64) (.L (.P (.I
 .i64) (.P (.I .i64) (.I .i64))))))],[(true,.P (.L (.P .S (.P (.P (.I .i64) (.L .Y)) (.P (.P (.I .i64) (.L .Y)) (.P (.I .i64) .B))))) (.P (.I .i64) (.L (.P (.I .i64) (.P (.I
 .i64) (.I .i64))))))],Zbc,runs_see mixed_Pm Tryz.func42 (by kernel_rfl) h_i_copyTab⟩
noncomputable def a_i_sameCell:An:=.d
theorem h_i_sameCell (x:(Int×List UInt8)×Int×List UInt8):fnX (P:=Tryz.prog) [] [] (sOf Tryz.prog Tryz.f91) a_i_sameCell (iOf Tryz.prog Tryz.f91) [(true,.P (.I .i64)
 (.L .Y)),(true,.P (.I .i64) (.L .Y))] [(false,.B)] x=Zp x:=by kernel_rfl
noncomputable def e_i_sameCell:SEnt Tryz.prog:=⟨91,[(true,.P (.I .i64) (.L .Y)),(true,.P (.I .i64) (.L .Y))],[(false,.B)],Zp,runs_see mixed_Pm Tryz.func91 (by
 kernel_rfl) h_i_sameCell⟩
noncomputable def a_i_sameRow:An:=.d
theorem h_i_sameRow (x:((List UInt8)×(Int×List UInt8)×(Int×List UInt8)×Int×Bool)×(List UInt8)×(Int×List UInt8)×(Int×List UInt8)×Int×Bool):fnX (P :=
 Tryz.prog) [.see e_i_sameCell] [] (sOf Tryz.prog Tryz.f58) a_i_sameRow (iOf Tryz.prog Tryz.f58) [(true,.P .S (.P (.P (.I .i64) (.L .Y)) (.P (.P (.I .i64) (.L .Y)) (.P (.I .i64)
 .B)))),(true,.P .S (.P (.P (.I .i64) (.L .Y)) (.P (.P (.I .i64) (.L .Y)) (.P (.I .i64) .B))))] [(false,.B)] x=Zdb x:=by kernel_rfl
noncomputable def e_i_sameRow:SEnt Tryz.prog:=⟨58,[(true,.P .S (.P (.P (.I .i64) (.L .Y)) (.P (.P (.I .i64) (.L .Y)) (.P (.I .i64) .B)))),(true,.P .S (.P (.P (.I .i64) (.L
 .Y)) (.P (.P (.I .i64) (.L .Y)) (.P (.I .i64) .B))))],[(false,.B)],Zdb,runs_see mixed_Pm Tryz.func58 (by kernel_rfl) h_i_sameRow⟩
end Go.Vs
