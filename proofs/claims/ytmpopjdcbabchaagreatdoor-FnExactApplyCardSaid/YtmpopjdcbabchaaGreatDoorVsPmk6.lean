import Derived.Test.YtmpopjdcbabchaaGreatDoorProg
import Derived.Test.YtmpopjdcbabchaaGreatDoorVsPmk5
set_option linter.all false
namespace Go.Vs
open Go.Proofs
set_option maxRecDepth 100000
noncomputable def a_slices_DeleteFunc_i_Apply_1:An:=(.sq none .d (.sq none .d (.sq none .d (.sq (some [.sr 0 (.P .S (.P (.P (.I .i64) (.H .Y)) (.P (.P (.I .i64) (.H .Y)) (.P
 (.I .i64) .B)))),.bx 1 [.L (.I .i64),.L .S,.L (.I .i64),.K,.L (.I .i64),.K,.L (.I .i64),.L .B,.L .S,.L (.I .i64),.L (.I .i64),.L (.I .i64),.L (.I .i64)],.lt 5 (.I
 .i64)]) (.sq none .d (.bl (.lp [.sr 0 (.P .S (.P (.P (.I .i64) (.H .Y)) (.P (.P (.I .i64) (.H .Y)) (.P (.I .i64) .B)))),.bx 1 [.L (.I .i64),.L .S,.L (.I .i64),.K,.L (.I
 .i64),.K,.L (.I .i64),.L .B,.L .S,.L (.I .i64),.L (.I .i64),.L (.I .i64),.L (.I .i64)],.lt 5 (.I .i64),.lt 6 (.I .i64)] (.sq none .d (.sq (some [.sr 0 (.P .S (.P (.P
 (.I .i64) (.H .Y)) (.P (.P (.I .i64) (.H .Y)) (.P (.I .i64) .B)))),.bx 1 [.L (.I .i64),.L .S,.L (.I .i64),.K,.L (.I .i64),.K,.L (.I .i64),.L .B,.L .S,.L (.I .i64),.L
 (.I .i64),.L (.I .i64),.L (.I .i64)],.lt 5 (.I .i64),.kt 6]) .d .d))))) .d))))
theorem h_slices_DeleteFunc_i_Apply_1 (x:(List ((List UInt8)×(Int×Option (List UInt8))×(Int×Option (List UInt8))×Int×Bool))×Int×((List UInt8)×(Int×List UInt8)
 × (Int×List UInt8)×Int×Bool)×(List UInt8)×Int×Int×Int×Int):fnH (P:=Tryz.prog) [.hof e_slices_IndexFunc_i_Apply_1,.fv e_i_Apply_1 b_i_Apply_1] [] (sOf
 Tryz.prog Tryz.f44) a_slices_DeleteFunc_i_Apply_1 (iOf Tryz.prog Tryz.f44) 1 45 [⟨false,false,.L (.P .S (.P (.P (.I .i64) (.H .Y)) (.P (.P (.I .i64) (.H .Y)) (.P (.I .i64)
 .B)))),[.ow],none⟩,⟨true,false,.P (.I .i64) (.P (.P .S (.P (.P (.I .i64) (.L .Y)) (.P (.P (.I .i64) (.L .Y)) (.P (.I .i64) .B)))) (.P .S (.P (.I .i64) (.P (.I .i64) (.P (.I
 .i64) (.I .i64)))))),[.rd,.rd,.rd,.rx,.rd,.rx,.rd,.rd,.rd,.rd,.rd,.rd,.rd],(some (.P (.I .i64) (.P .S (.P (.I .i64) (.P (.I .i64) (.P (.I .i64) (.P .B (.P .S (.P
 (.I .i64) (.P (.I .i64) (.P (.I .i64) (.I .i64))))))))))))⟩] [(false,.L (.P .S (.P (.P (.I .i64) (.L .Y)) (.P (.P (.I .i64) (.L .Y)) (.P (.I .i64) .B)))))] x =
 Zbt x:=by kernel_rfl
noncomputable def e_slices_DeleteFunc_i_Apply_1:HEnt Tryz.prog:=⟨44,45,1,[⟨false,false,.L (.P .S (.P (.P (.I .i64) (.H .Y)) (.P (.P (.I .i64) (.H .Y)) (.P (.I .i64)
 .B)))),[.ow],none⟩,⟨true,false,.P (.I .i64) (.P (.P .S (.P (.P (.I .i64) (.L .Y)) (.P (.P (.I .i64) (.L .Y)) (.P (.I .i64) .B)))) (.P .S (.P (.I .i64) (.P (.I .i64) (.P (.I
 .i64) (.I .i64)))))),[.rd,.rd,.rd,.rx,.rd,.rx,.rd,.rd,.rd,.rd,.rd,.rd,.rd],(some (.P (.I .i64) (.P .S (.P (.I .i64) (.P (.I .i64) (.P (.I .i64) (.P .B (.P .S (.P
 (.I .i64) (.P (.I .i64) (.P (.I .i64) (.I .i64))))))))))))⟩],[(false,.L (.P .S (.P (.P (.I .i64) (.L .Y)) (.P (.P (.I .i64) (.L .Y)) (.P (.I .i64) .B)))))],
 Zbt,runs_hof mixed_Pm Tryz.func44 (by kernel_rfl) h_slices_DeleteFunc_i_Apply_1⟩
noncomputable def a_i_withMark:An:=(.sq none .d (.sq none .d (.sq none .d (.sq (some [.kt 3,.ot 5 (.P (.I .i64) (.P (.I .i64) (.I .i64))),.lt 6 .B]) (.sq none .d (.bl (.lp
 [.kt 3,.ot 5 (.P (.I .i64) (.P (.I .i64) (.I .i64))),.lt 6 .B,.kt 10,.kt 11,.lt 12 (.I .i64)] (.sq none .d (.sq none .d (.sq (some [.kt 3,.ot 5 (.P (.I .i64) (.P (.I .i64)
 (.I .i64))),.lt 6 .B,.kt 10,.kt 11,.kt 12]) (.bl (.sq none .d (.sq (some [.kt 3,.ot 5 (.P (.I .i64) (.P (.I .i64) (.I .i64))),.lt 6 .B,.kt 8,.kt 10,.kt 11,.kt 12]) .d
 .d))) .d)))))) (.sq (some [.ot 5 (.P (.I .i64) (.P (.I .i64) (.I .i64)))]) .d .d)))))
theorem h_i_withMark (x:(List (Int×Int×Int))×Int×Int×Int):fnX (P:=Tryz.prog) [] [(9,.el (.P (.I .i64) (.P (.I .i64) (.I .i64)))),(27,.el (.P (.I .i64) (.P (.I
 .i64) (.I .i64)))),(28,.el (.P (.I .i64) (.P (.I .i64) (.I .i64)))),(36,.el (.P (.I .i64) (.P (.I .i64) (.I .i64)))),(37,.el (.P (.I .i64) (.P (.I .i64) (.I .i64)))),(43,
 .el (.P (.I .i64) (.P (.I .i64) (.I .i64)))),(44,.el (.P (.I .i64) (.P (.I .i64) (.I .i64))))] (sOf Tryz.prog Tryz.f46) a_i_withMark (iOf Tryz.prog Tryz.f46) [(false,.L (.P
 (.I .i64) (.P (.I .i64) (.I .i64)))),(true,.P (.I .i64) (.P (.I .i64) (.I .i64)))] [(false,.L (.P (.I .i64) (.P (.I .i64) (.I .i64))))] x=Zbg x:=by kernel_rfl
noncomputable def e_i_withMark:SEnt Tryz.prog:=⟨46,[(false,.L (.P (.I .i64) (.P (.I .i64) (.I .i64)))),(true,.P (.I .i64) (.P (.I .i64) (.I .i64)))],[(false,.L (.P (.I
 .i64) (.P (.I .i64) (.I .i64))))],Zbg,runs_see mixed_Pm Tryz.func46 (by kernel_rfl) h_i_withMark⟩
noncomputable def a_i_Apply:An:=(.sq none .d (.sq none .d (.sq none .d (.sq (some [.kt 2,.bx 3 [.L (.I .i64),.L .S,.L (.I .i64),.K,.L (.I .i64),.K,.L (.I .i64),.L .B,
 .L .S,.L (.I .i64),.L (.I .i64),.L (.I .i64),.L (.I .i64)],.kt 4,.bx 6 [.O (.P .S (.P (.P (.I .i64) (.L .Y)) (.P (.P (.I .i64) (.L .Y)) (.P (.I .i64) .B)))),.L (.I .i64),
 .K]]) .d (.sq (some [.kt 2,.kt 4,.bx 6 [.K,.K,.O (.P (.I .i64) (.P (.I .i64) (.I .i64)))]]) .d .d)))))
theorem h_i_Apply (x:((List ((List UInt8)×(Int×List UInt8)×(Int×List UInt8)×Int×Bool))×Int×List (Int×Int×Int))×Int×((List UInt8)×(Int×List UInt8) ×
 (Int×List UInt8)×Int×Bool)×(List UInt8)×Int×Int×Int×Int):fnX (P:=Tryz.prog) [.see e_i_copyTab,.see e_i_RecOk,.see e_i_TabOk,.gen e_i_withRow,.hof
 e_slices_DeleteFunc_i_Apply_1,.see e_i_withMark] [] (sOf Tryz.prog Tryz.f9) a_i_Apply (iOf Tryz.prog Tryz.f9) [(true,.P (.L (.P .S (.P (.P (.I .i64) (.L .Y)) (.P (.P (.I .i64)
 (.L .Y)) (.P (.I .i64) .B))))) (.P (.I .i64) (.L (.P (.I .i64) (.P (.I .i64) (.I .i64)))))),(true,.P (.I .i64) (.P (.P .S (.P (.P (.I .i64) (.L .Y)) (.P (.P (.I .i64) (.L .Y))
 (.P (.I .i64) .B)))) (.P .S (.P (.I .i64) (.P (.I .i64) (.P (.I .i64) (.I .i64)))))))] [(true,.P (.L (.P .S (.P (.P (.I .i64) (.L .Y)) (.P (.P (.I .i64) (.L .Y)) (.P (.I .i64)
 .B))))) (.P (.I .i64) (.L (.P (.I .i64) (.P (.I .i64) (.I .i64)))))),(false,.B)] x=Ze x:=by kernel_rfl
noncomputable def e_i_Apply:SEnt Tryz.prog:=⟨9,[(true,.P (.L (.P .S (.P (.P (.I .i64) (.L .Y)) (.P (.P (.I .i64) (.L .Y)) (.P (.I .i64) .B))))) (.P (.I .i64) (.L (.P (.I
 .i64) (.P (.I .i64) (.I .i64)))))),(true,.P (.I .i64) (.P (.P .S (.P (.P (.I .i64) (.L .Y)) (.P (.P (.I .i64) (.L .Y)) (.P (.I .i64) .B)))) (.P .S (.P (.I .i64) (.P (.I .i64)
 (.P (.I .i64) (.I .i64)))))))],[(true,.P (.L (.P .S (.P (.P (.I .i64) (.L .Y)) (.P (.P (.I .i64) (.L .Y)) (.P (.I .i64) .B))))) (.P (.I .i64) (.L (.P (.I .i64) (.P (.I .i64)
 (.I .i64)))))),(false,.B)],Ze,runs_see mixed_Pm Tryz.func9 (by kernel_rfl) h_i_Apply⟩
noncomputable def a_l_eqByteS:An:=(.sq none .d (.sq none .d (.sq none (.sq none .d (.bl (.lp [.kt 0,.kt 1,.lt 5 (.I .i64)] .d))) .d)))
theorem h_l_eqByteS (x:(List UInt8)×List UInt8):fnX (P:=Tryz.prog) [] [] (sOf Tryz.prog Tryz.f127) a_l_eqByteS (iOf Tryz.prog Tryz.f127) [(false,.L .Y),(false,.L .Y)]
 [(false,.B)] x=Zdl x:=by kernel_rfl
noncomputable def e_l_eqByteS:SEnt Tryz.prog:=⟨127,[(false,.L .Y),(false,.L .Y)],[(false,.B)],Zdl,runs_see mixed_Pm Tryz.func127 (by kernel_rfl) h_l_eqByteS⟩
noncomputable def a_l_eqCell:An:=.d
theorem h_l_eqCell (x:(Int×List UInt8)×Int×List UInt8):fnX (P:=Tryz.prog) [.see e_l_eqByteS] [] (sOf Tryz.prog Tryz.f99) a_l_eqCell (iOf Tryz.prog Tryz.f99) [(true,.P
 (.I .i64) (.L .Y)),(true,.P (.I .i64) (.L .Y))] [(false,.B)] x=Zck x:=by kernel_rfl
noncomputable def e_l_eqCell:SEnt Tryz.prog:=⟨99,[(true,.P (.I .i64) (.L .Y)),(true,.P (.I .i64) (.L .Y))],[(false,.B)],Zck,runs_see mixed_Pm Tryz.func99 (by
 kernel_rfl) h_l_eqCell⟩
noncomputable def a_l_eqRow:An:=.d
theorem h_l_eqRow (x:((List UInt8)×(Int×List UInt8)×(Int×List UInt8)×Int×Bool)×(List UInt8)×(Int×List UInt8)×(Int×List UInt8)×Int×Bool):fnX (P :=
 Tryz.prog) [.see e_l_eqCell] [] (sOf Tryz.prog Tryz.f70) a_l_eqRow (iOf Tryz.prog Tryz.f70) [(true,.P .S (.P (.P (.I .i64) (.L .Y)) (.P (.P (.I .i64) (.L .Y)) (.P (.I .i64)
 .B)))),(true,.P .S (.P (.P (.I .i64) (.L .Y)) (.P (.P (.I .i64) (.L .Y)) (.P (.I .i64) .B))))] [(false,.B)] x=Zbh x:=by kernel_rfl
noncomputable def e_l_eqRow:SEnt Tryz.prog:=⟨70,[(true,.P .S (.P (.P (.I .i64) (.L .Y)) (.P (.P (.I .i64) (.L .Y)) (.P (.I .i64) .B)))),(true,.P .S (.P (.P (.I .i64) (.L
 .Y)) (.P (.P (.I .i64) (.L .Y)) (.P (.I .i64) .B))))],[(false,.B)],Zbh,runs_see mixed_Pm Tryz.func70 (by kernel_rfl) h_l_eqRow⟩
noncomputable def a_l_eqRowS:An:=(.sq none .d (.sq none .d (.sq none (.sq none .d (.bl (.lp [.kt 0,.kt 1,.lt 5 (.I .i64)] .d))) .d)))
theorem h_l_eqRowS (x:(List ((List UInt8)×(Int×List UInt8)×(Int×List UInt8)×Int×Bool))×List ((List UInt8)×(Int×List UInt8)×(Int×List UInt8)×Int×Bool)) :
 fnX (P:=Tryz.prog) [.see e_l_eqRow] [] (sOf Tryz.prog Tryz.f68) a_l_eqRowS (iOf Tryz.prog Tryz.f68) [(false,.L (.P .S (.P (.P (.I .i64) (.L .Y)) (.P (.P (.I .i64) (.L .Y)) (.P
 (.I .i64) .B))))),(false,.L (.P .S (.P (.P (.I .i64) (.L .Y)) (.P (.P (.I .i64) (.L .Y)) (.P (.I .i64) .B)))))] [(false,.B)] x=Zdm x:=by kernel_rfl
noncomputable def e_l_eqRowS:SEnt Tryz.prog:=⟨68,[(false,.L (.P .S (.P (.P (.I .i64) (.L .Y)) (.P (.P (.I .i64) (.L .Y)) (.P (.I .i64) .B))))),(false,.L (.P .S (.P (.P (.I
 .i64) (.L .Y)) (.P (.P (.I .i64) (.L .Y)) (.P (.I .i64) .B)))))],[(false,.B)],Zdm,runs_see mixed_Pm Tryz.func68 (by kernel_rfl) h_l_eqRowS⟩
noncomputable def a_l_eqMark:An:=.d
theorem h_l_eqMark (x:(Int×Int×Int)×Int×Int×Int):fnX (P:=Tryz.prog) [] [] (sOf Tryz.prog Tryz.f98) a_l_eqMark (iOf Tryz.prog Tryz.f98) [(true,.P (.I .i64) (.P (.I
 .i64) (.I .i64))),(true,.P (.I .i64) (.P (.I .i64) (.I .i64)))] [(false,.B)] x=Zdn x:=by kernel_rfl
noncomputable def e_l_eqMark:SEnt Tryz.prog:=⟨98,[(true,.P (.I .i64) (.P (.I .i64) (.I .i64))),(true,.P (.I .i64) (.P (.I .i64) (.I .i64)))],[(false,.B)],Zdn,
 runs_see mixed_Pm Tryz.func98 (by kernel_rfl) h_l_eqMark⟩
noncomputable def a_l_eqMarkS:An:=(.sq none .d (.sq none .d (.sq none (.sq none .d (.bl (.lp [.kt 0,.kt 1,.lt 5 (.I .i64)] .d))) .d)))
theorem h_l_eqMarkS (x:(List (Int×Int×Int))×List (Int×Int×Int)):fnX (P:=Tryz.prog) [.see e_l_eqMark] [] (sOf Tryz.prog Tryz.f69) a_l_eqMarkS (iOf Tryz.prog
 Tryz.f69) [(false,.L (.P (.I .i64) (.P (.I .i64) (.I .i64)))),(false,.L (.P (.I .i64) (.P (.I .i64) (.I .i64))))] [(false,.B)] x=Zdo x:=by kernel_rfl
noncomputable def e_l_eqMarkS:SEnt Tryz.prog:=⟨69,[(false,.L (.P (.I .i64) (.P (.I .i64) (.I .i64)))),(false,.L (.P (.I .i64) (.P (.I .i64) (.I .i64))))],[(false,.B)],
 Zdo,runs_see mixed_Pm Tryz.func69 (by kernel_rfl) h_l_eqMarkS⟩
noncomputable def a_l_eqTab:An:=.d
theorem h_l_eqTab (x:((List ((List UInt8)×(Int×List UInt8)×(Int×List UInt8)×Int×Bool))×Int×List (Int×Int×Int))×(List ((List UInt8)×(Int×List UInt8) ×
 (Int×List UInt8)×Int×Bool))×Int×List (Int×Int×Int)):fnX (P:=Tryz.prog) [.see e_l_eqRowS,.see e_l_eqMarkS] [] (sOf Tryz.prog Tryz.f23) a_l_eqTab (iOf Tryz.prog
 Tryz.f23) [(true,.P (.L (.P .S (.P (.P (.I .i64) (.L .Y)) (.P (.P (.I .i64) (.L .Y)) (.P (.I .i64) .B))))) (.P (.I .i64) (.L (.P (.I .i64) (.P (.I .i64) (.I .i64)))))),(true,
 .P (.L (.P .S (.P (.P (.I .i64) (.L .Y)) (.P (.P (.I .i64) (.L .Y)) (.P (.I .i64) .B))))) (.P (.I .i64) (.L (.P (.I .i64) (.P (.I .i64) (.I .i64))))))] [(false,.B)] x =
 Zc x:=by kernel_rfl
noncomputable def e_l_eqTab:SEnt Tryz.prog:=⟨23,[(true,.P (.L (.P .S (.P (.P (.I .i64) (.L .Y)) (.P (.P (.I .i64) (.L .Y)) (.P (.I .i64) .B))))) (.P (.I .i64) (.L (.P (.I
 .i64) (.P (.I .i64) (.I .i64)))))),(true,.P (.L (.P .S (.P (.P (.I .i64) (.L .Y)) (.P (.P (.I .i64) (.L .Y)) (.P (.I .i64) .B))))) (.P (.I .i64) (.L (.P (.I .i64) (.P (.I .i64)
 (.I .i64))))))],[(false,.B)],Zc,runs_see mixed_Pm Tryz.func23 (by kernel_rfl) h_l_eqTab⟩
noncomputable def a_l_eqRec:An:=.d
theorem h_l_eqRec (x:(Int×((List UInt8)×(Int×List UInt8)×(Int×List UInt8)×Int×Bool)×(List UInt8)×Int×Int×Int×Int)×Int×((List UInt8)×(Int×List
 UInt8)×(Int×List UInt8)×Int×Bool)×(List UInt8)×Int×Int×Int×Int):fnX (P:=Tryz.prog) [.see e_l_eqRow] [] (sOf Tryz.prog Tryz.f24) a_l_eqRec (iOf Tryz.prog
 Tryz.f24) [(true,.P (.I .i64) (.P (.P .S (.P (.P (.I .i64) (.L .Y)) (.P (.P (.I .i64) (.L .Y)) (.P (.I .i64) .B)))) (.P .S (.P (.I .i64) (.P (.I .i64) (.P (.I .i64) (.I
 .i64))))))),(true,.P (.I .i64) (.P (.P .S (.P (.P (.I .i64) (.L .Y)) (.P (.P (.I .i64) (.L .Y)) (.P (.I .i64) .B)))) (.P .S (.P (.I .i64) (.P (.I .i64) (.P (.I .i64) (.I
 .i64)))))))] [(false,.B)] x=Zq x:=by kernel_rfl
noncomputable def e_l_eqRec:SEnt Tryz.prog:=⟨24,[(true,.P (.I .i64) (.P (.P .S (.P (.P (.I .i64) (.L .Y)) (.P (.P (.I .i64) (.L .Y)) (.P (.I .i64) .B)))) (.P .S (.P (.I .i64)
 (.P (.I .i64) (.P (.I .i64) (.I .i64))))))),(true,.P (.I .i64) (.P (.P .S (.P (.P (.I .i64) (.L .Y)) (.P (.P (.I .i64) (.L .Y)) (.P (.I .i64) .B)))) (.P .S (.P (.I .i64) (.P
 (.I .i64) (.P (.I .i64) (.I .i64)))))))],[(false,.B)],Zq,runs_see mixed_Pm Tryz.func24 (by kernel_rfl) h_l_eqRec⟩
noncomputable def a_l_markText:An:=(.sq none .d (.sq none .d (.sq none .d (.sq (some [.lt 3 .S]) (.bl (.lp [.lt 0 (.I .i64),.lt 3 .S] .d)) .d))))
theorem h_l_markText (x:Int):fnX (P:=Tryz.prog) [] [(12,.el .Y)] (sOf Tryz.prog Tryz.f100) a_l_markText (iOf Tryz.prog Tryz.f100) [(false,.I .i64)] [(false,.S)] x =
 Zcl x:=by kernel_rfl
noncomputable def e_l_markText:SEnt Tryz.prog:=⟨100,[(false,.I .i64)],[(false,.S)],Zcl,runs_see mixed_Pm Tryz.func100 (by kernel_rfl) h_l_markText⟩
noncomputable def a_l_markByteS:An:=(.sq none .d (.sq (some [.sr 0 .Y,.lt 1 (.I .i64)]) (.sq none .d (.bl (.lp [.sr 0 .Y,.lt 1 (.I .i64),.lt 5 (.I .i64)] .d))) .d))
theorem h_l_markByteS (x:(List UInt8)×Int):fnG (P:=Tryz.prog) [] [] (sOf Tryz.prog Tryz.f101) a_l_markByteS (iOf Tryz.prog Tryz.f101) [⟨false,false,.L .Y,[.io],none⟩,
 ⟨false,false,.I .i64,[.rd],none⟩] [(false,.I .i64)] x=Zbi x:=by kernel_rfl
noncomputable def e_l_markByteS:GEnt Tryz.prog:=⟨101,[⟨false,false,.L .Y,[.io],none⟩,⟨false,false,.I .i64,[.rd],none⟩],[(false,.I .i64)],Zbi,runs_gen
 mixed_Pm Tryz.func101 (by kernel_rfl) h_l_markByteS⟩
noncomputable def a_l_markRowS:An:=(.sq none .d (.sq (some [.sr 0 (.P .S (.P (.P (.I .i64) (.L .Y)) (.P (.P (.I .i64) (.L .Y)) (.P (.I .i64) .B)))),.lt 1 (.I .i64)]) (.sq none
 .d (.bl (.lp [.sr 0 (.P .S (.P (.P (.I .i64) (.L .Y)) (.P (.P (.I .i64) (.L .Y)) (.P (.I .i64) .B)))),.lt 1 (.I .i64),.lt 5 (.I .i64)] .d))) .d))
theorem h_l_markRowS (x:(List ((List UInt8)×(Int×List UInt8)×(Int×List UInt8)×Int×Bool))×Int):fnG (P:=Tryz.prog) [.see e_l_markText,.gen e_l_markByteS] [] (sOf
 Tryz.prog Tryz.f71) a_l_markRowS (iOf Tryz.prog Tryz.f71) [⟨false,false,.L (.P .S (.P (.P (.I .i64) (.L .Y)) (.P (.P (.I .i64) (.L .Y)) (.P (.I .i64) .B)))),[.io],none⟩,
 ⟨false,false,.I .i64,[.rd],none⟩] [(false,.I .i64)] x=Zdq x:=by kernel_rfl
noncomputable def e_l_markRowS:GEnt Tryz.prog:=⟨71,[⟨false,false,.L (.P .S (.P (.P (.I .i64) (.L .Y)) (.P (.P (.I .i64) (.L .Y)) (.P (.I .i64) .B)))),[.io],none⟩,⟨false,
 false,.I .i64,[.rd],none⟩],[(false,.I .i64)],Zdq,runs_gen mixed_Pm Tryz.func71 (by kernel_rfl) h_l_markRowS⟩
end Go.Vs
