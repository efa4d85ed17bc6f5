import Derived.Test.YtmpopjdcbabchaaGreatDoorProg
import Derived.Test.YtmpopjdcbabchaaGreatDoorVsPmk4
set_option linter.all false
namespace Go.Vs
open Go.Proofs
set_option maxRecDepth 100000
noncomputable def a_i_SignOk:An:=.d
theorem h_i_SignOk (x:Int):fnX (P:=Tryz.prog) [.see e_i_within] [] (sOf Tryz.prog Tryz.f148) a_i_SignOk (iOf Tryz.prog Tryz.f148) [(false,.I .i64)] [(false,.B)] x =
 Zed x:=by kernel_rfl
noncomputable def e_i_SignOk:SEnt Tryz.prog:=⟨148,[(false,.I .i64)],[(false,.B)],Zed,runs_see mixed_Pm Tryz.func148 (by kernel_rfl) h_i_SignOk⟩
noncomputable def a_utf8_appendRuneNonASCII:An:=(.sq none .d (.sq none .d (.bl (.sq none .d (.cd .d (.sq (some [.kt 0,.kt 1,.kt 5,.lt 25 .B]) .d .d))))))
theorem h_utf8_appendRuneNonASCII (x:(List UInt8)×Int):fnG (P:=Tryz.prog) [] [(23,.el .Y),(24,.el .Y),(48,.el .Y),(49,.el .Y),(76,.el .Y),(77,.el .Y),(9,.el
 .Y),(10,.el .Y)] (sOf Tryz.prog Tryz.f163) a_utf8_appendRuneNonASCII (iOf Tryz.prog Tryz.f163) [⟨false,false,.L .Y,[.ow],none⟩,⟨false,false,.I .i32,[.rd],none⟩]
 [(false,.L .Y)] x=Zee x:=by kernel_rfl
noncomputable def e_utf8_appendRuneNonASCII:GEnt Tryz.prog:=⟨163,[⟨false,false,.L .Y,[.ow],none⟩,⟨false,false,.I .i32,[.rd],none⟩],[(false,.L .Y)],
 Zee,runs_gen mixed_Pm Tryz.func163 (by kernel_rfl) h_utf8_appendRuneNonASCII⟩
noncomputable def a_utf8_AppendRune:An:=.d
theorem h_utf8_AppendRune (x:(List UInt8)×Int):fnG (P:=Tryz.prog) [.gen e_utf8_appendRuneNonASCII] [(11,.el .Y),(12,.el .Y)] (sOf Tryz.prog Tryz.f149) a_utf8_AppendRune
 (iOf Tryz.prog Tryz.f149) [⟨false,false,.L .Y,[.ow],none⟩,⟨false,false,.I .i32,[.rd],none⟩] [(false,.L .Y)] x=Zef x:=by kernel_rfl
noncomputable def e_utf8_AppendRune:GEnt Tryz.prog:=⟨149,[⟨false,false,.L .Y,[.ow],none⟩,⟨false,false,.I .i32,[.rd],none⟩],[(false,.L .Y)],Zef,
 runs_gen mixed_Pm Tryz.func149 (by kernel_rfl) h_utf8_AppendRune⟩
noncomputable def a_i_PutSign:An:=.d
theorem h_i_PutSign (x:(List UInt8)×Int):fnX (P:=Tryz.prog) [.see e_i_joined,.see e_i_SignOk,.gen e_utf8_AppendRune] [(7,.sb)] (sOf Tryz.prog Tryz.f136) a_i_PutSign (iOf
 Tryz.prog Tryz.f136) [(false,.L .Y),(false,.I .i64)] [(false,.L .Y)] x=Zdi x:=by kernel_rfl
noncomputable def e_i_PutSign:SEnt Tryz.prog:=⟨136,[(false,.L .Y),(false,.I .i64)],[(false,.L .Y)],Zdi,runs_see mixed_Pm Tryz.func136 (by kernel_rfl)
 h_i_PutSign⟩
noncomputable def a_i_Decode:An:=(.sq none .d (.sq none .d (.sq none .d (.sq (some [.ot 6 .Y]) (.sq none .d (.bl (.lp [.kt 0,.kt 1,.ot 6 .Y,.lt 7 (.I .i64)] .d))) .d))))
theorem h_i_Decode (x:Int×List UInt8):fnX (P:=Tryz.prog) [.see e_i_isSet,.see e_i_signIn,.see e_i_PutSign] [(14,.el .Y)] (sOf Tryz.prog Tryz.f122) a_i_Decode (iOf
 Tryz.prog Tryz.f122) [(false,.I .i64),(false,.L .Y)] [(false,.S),(false,.B)] x=Zdj x:=by kernel_rfl
noncomputable def e_i_Decode:SEnt Tryz.prog:=⟨122,[(false,.I .i64),(false,.L .Y)],[(false,.S),(false,.B)],Zdj,runs_see mixed_Pm Tryz.func122 (by kernel_rfl)
 h_i_Decode⟩
noncomputable def a_i_CellText:An:=.d
theorem h_i_CellText (x:Int×List UInt8):fnX (P:=Tryz.prog) [.see e_i_CellOk,.see e_i_Decode] [] (sOf Tryz.prog Tryz.f90) a_i_CellText (iOf Tryz.prog Tryz.f90) [(true,.P
 (.I .i64) (.L .Y))] [(false,.S),(false,.B)] x=Zbe x:=by kernel_rfl
noncomputable def e_i_CellText:SEnt Tryz.prog:=⟨90,[(true,.P (.I .i64) (.L .Y))],[(false,.S),(false,.B)],Zbe,runs_see mixed_Pm Tryz.func90 (by kernel_rfl)
 h_i_CellText⟩
noncomputable def a_i_SameText:An:=.d
theorem h_i_SameText (x:(Int×List UInt8)×Int×List UInt8):fnX (P:=Tryz.prog) [.see e_i_CellText] [] (sOf Tryz.prog Tryz.f93) a_i_SameText (iOf Tryz.prog Tryz.f93)
 [(true,.P (.I .i64) (.L .Y)),(true,.P (.I .i64) (.L .Y))] [(false,.B)] x=Zeg x:=by kernel_rfl
noncomputable def e_i_SameText:SEnt Tryz.prog:=⟨93,[(true,.P (.I .i64) (.L .Y)),(true,.P (.I .i64) (.L .Y))],[(false,.B)],Zeg,runs_see mixed_Pm Tryz.func93 (by
 kernel_rfl) h_i_SameText⟩
noncomputable def a_i_RowOk:An:=(.sq none .d (.sq none .d (.sq none .d (.sq none .d (.sq none .d (.sq (some [.kt 1,.kt 6,.lt 7 .B]) .d (.sq none .d (.sq (some [.kt 1,.kt 7,
 .lt 8 .B]) .d .d))))))))
theorem h_i_RowOk (x:(List UInt8)×(Int×List UInt8)×(Int×List UInt8)×Int×Bool):fnX (P:=Tryz.prog) [.see e_i_NameOk,.see e_i_within,.see e_i_CellText,.see
 e_i_sameCell,.see e_i_CellOk,.see e_i_SameText] [] (sOf Tryz.prog Tryz.f51) a_i_RowOk (iOf Tryz.prog Tryz.f51) [(true,.P .S (.P (.P (.I .i64) (.L .Y)) (.P (.P (.I .i64) (.L
 .Y)) (.P (.I .i64) .B))))] [(false,.B)] x=Zbf x:=by kernel_rfl
noncomputable def e_i_RowOk:SEnt Tryz.prog:=⟨51,[(true,.P .S (.P (.P (.I .i64) (.L .Y)) (.P (.P (.I .i64) (.L .Y)) (.P (.I .i64) .B))))],[(false,.B)],Zbf,runs_see
 mixed_Pm Tryz.func51 (by kernel_rfl) h_i_RowOk⟩
noncomputable def a_i_isWord:An:=.d
theorem h_i_isWord (x:Int):fnX (P:=Tryz.prog) [.see e_i_within] [] (sOf Tryz.prog Tryz.f53) a_i_isWord (iOf Tryz.prog Tryz.f53) [(false,.I .i64)] [(false,.B)] x =
 Zch x:=by kernel_rfl
noncomputable def e_i_isWord:SEnt Tryz.prog:=⟨53,[(false,.I .i64)],[(false,.B)],Zch,runs_see mixed_Pm Tryz.func53 (by kernel_rfl) h_i_isWord⟩
noncomputable def a_i_RecOk:An:=(.sq none .d (.sq none .d (.sq none .d (.sq (some [.kt 1,.lt 5 .B]) .d .d))))
theorem h_i_RecOk (x:Int×((List UInt8)×(Int×List UInt8)×(Int×List UInt8)×Int×Bool)×(List UInt8)×Int×Int×Int×Int):fnX (P:=Tryz.prog) [.see e_i_sameRow,
 .see e_i_RowOk,.see e_i_NameOk,.see e_i_within,.see e_i_isWord] [] (sOf Tryz.prog Tryz.f17) a_i_RecOk (iOf Tryz.prog Tryz.f17) [(true,.P (.I .i64) (.P (.P .S (.P (.P (.I
 .i64) (.L .Y)) (.P (.P (.I .i64) (.L .Y)) (.P (.I .i64) .B)))) (.P .S (.P (.I .i64) (.P (.I .i64) (.P (.I .i64) (.I .i64)))))))] [(false,.B)] x=Zci x:=by kernel_rfl
noncomputable def e_i_RecOk:SEnt Tryz.prog:=⟨17,[(true,.P (.I .i64) (.P (.P .S (.P (.P (.I .i64) (.L .Y)) (.P (.P (.I .i64) (.L .Y)) (.P (.I .i64) .B)))) (.P .S (.P (.I .i64)
 (.P (.I .i64) (.P (.I .i64) (.I .i64)))))))],[(false,.B)],Zci,runs_see mixed_Pm Tryz.func17 (by kernel_rfl) h_i_RecOk⟩
noncomputable def a_i_TabOk:An:=(.sq none .d (.sq (some [.kt 1]) (.sq none .d (.bl (.lp [.kt 1,.kt 8,.kt 9,.lt 10 (.I .i64)] .d))) (.sq (some [.kt 1]) (.sq none .d (.bl (.lp
 [.kt 1,.kt 36,.kt 37,.lt 38 (.I .i64)] .d))) .d)))
theorem h_i_TabOk (x:(List ((List UInt8)×(Int×List UInt8)×(Int×List UInt8)×Int×Bool))×Int×List (Int×Int×Int)):fnX (P:=Tryz.prog) [.see e_i_RowOk,.see
 e_i_within,.see e_i_isWord] [] (sOf Tryz.prog Tryz.f11) a_i_TabOk (iOf Tryz.prog Tryz.f11) [(true,.P (.L (.P .S (.P (.P (.I .i64) (.L .Y)) (.P (.P (.I .i64) (.L .Y)) (.P (.I
 .i64) .B))))) (.P (.I .i64) (.L (.P (.I .i64) (.P (.I .i64) (.I .i64))))))] [(false,.B)] x=Zx x:=by kernel_rfl
noncomputable def e_i_TabOk:SEnt Tryz.prog:=⟨11,[(true,.P (.L (.P .S (.P (.P (.I .i64) (.L .Y)) (.P (.P (.I .i64) (.L .Y)) (.P (.I .i64) .B))))) (.P (.I .i64) (.L (.P (.I
 .i64) (.P (.I .i64) (.I .i64))))))],[(false,.B)],Zx,runs_see mixed_Pm Tryz.func11 (by kernel_rfl) h_i_TabOk⟩
noncomputable def a_i_withRow:An:=(.sq none .d (.sq none .d (.sq none .d (.sq (some [.kt 3,.ot 5 (.P .S (.P (.P (.I .i64) (.L .Y)) (.P (.P (.I .i64) (.L .Y)) (.P (.I .i64)
 .B)))),.lt 6 .B]) (.sq none .d (.bl (.lp [.kt 3,.ot 5 (.P .S (.P (.P (.I .i64) (.L .Y)) (.P (.P (.I .i64) (.L .Y)) (.P (.I .i64) .B)))),.lt 6 .B,.sr 10 (.P .S (.P (.P (.I
 .i64) (.H .Y)) (.P (.P (.I .i64) (.H .Y)) (.P (.I .i64) .B)))),.kt 11,.lt 12 (.I .i64)] (.sq none .d (.sq none .d (.sq (some [.kt 3,.ot 5 (.P .S (.P (.P (.I .i64) (.L .Y)) (.P
 (.P (.I .i64) (.L .Y)) (.P (.I .i64) .B)))),.lt 6 .B,.sr 10 (.P .S (.P (.P (.I .i64) (.H .Y)) (.P (.P (.I .i64) (.H .Y)) (.P (.I .i64) .B)))),.kt 11,.kt 12]) (.bl (.sq none
 .d (.sq (some [.kt 3,.ot 5 (.P .S (.P (.P (.I .i64) (.L .Y)) (.P (.P (.I .i64) (.L .Y)) (.P (.I .i64) .B)))),.lt 6 .B,.kt 8,.kt 10,.kt 11,.kt 12]) .d .d))) .d)))))) (.sq
 (some [.ot 5 (.P .S (.P (.P (.I .i64) (.L .Y)) (.P (.P (.I .i64) (.L .Y)) (.P (.I .i64) .B))))]) .d .d)))))
theorem h_i_withRow (x:(List ((List UInt8)×(Int×Option (List UInt8))×(Int×Option (List UInt8))×Int×Bool))×(List UInt8)×(Int×List UInt8)×(Int×List UInt8) ×
 Int×Bool):fnG (P:=Tryz.prog) [.see e_i_copyRow] [(9,.el (.P .S (.P (.P (.I .i64) (.L .Y)) (.P (.P (.I .i64) (.L .Y)) (.P (.I .i64) .B))))),(28,.el (.P .S (.P (.P (.I
 .i64) (.L .Y)) (.P (.P (.I .i64) (.L .Y)) (.P (.I .i64) .B))))),(29,.el (.P .S (.P (.P (.I .i64) (.L .Y)) (.P (.P (.I .i64) (.L .Y)) (.P (.I .i64) .B))))),(37,.el (.P .S (.P
 (.P (.I .i64) (.L .Y)) (.P (.P (.I .i64) (.L .Y)) (.P (.I .i64) .B))))),(38,.el (.P .S (.P (.P (.I .i64) (.L .Y)) (.P (.P (.I .i64) (.L .Y)) (.P (.I .i64) .B))))),(45,.el (.P
 .S (.P (.P (.I .i64) (.L .Y)) (.P (.P (.I .i64) (.L .Y)) (.P (.I .i64) .B))))),(46,.el (.P .S (.P (.P (.I .i64) (.L .Y)) (.P (.P (.I .i64) (.L .Y)) (.P (.I .i64) .B)))))] (sOf
 Tryz.prog Tryz.f43) a_i_withRow (iOf Tryz.prog Tryz.f43) [⟨false,false,.L (.P .S (.P (.P (.I .i64) (.H .Y)) (.P (.P (.I .i64) (.H .Y)) (.P (.I .i64) .B)))),[.ow],none⟩,
 ⟨false,true,.P .S (.P (.P (.I .i64) (.L .Y)) (.P (.P (.I .i64) (.L .Y)) (.P (.I .i64) .B))),[.rd,.rd,.rd,.rd,.rd,.rd,.rd],none⟩] [(false,.L (.P .S (.P (.P (.I .i64)
 (.L .Y)) (.P (.P (.I .i64) (.L .Y)) (.P (.I .i64) .B)))))] x=Zbr x:=by kernel_rfl
noncomputable def e_i_withRow:GEnt Tryz.prog:=⟨43,[⟨false,false,.L (.P .S (.P (.P (.I .i64) (.H .Y)) (.P (.P (.I .i64) (.H .Y)) (.P (.I .i64) .B)))),[.ow],none⟩,⟨false,
 true,.P .S (.P (.P (.I .i64) (.L .Y)) (.P (.P (.I .i64) (.L .Y)) (.P (.I .i64) .B))),[.rd,.rd,.rd,.rd,.rd,.rd,.rd],none⟩],[(false,.L (.P .S (.P (.P (.I .i64) (.L .Y))
 (.P (.P (.I .i64) (.L .Y)) (.P (.I .i64) .B)))))],Zbr,runs_gen mixed_Pm Tryz.func43 (by kernel_rfl) h_i_withRow⟩
noncomputable def a_i_Apply_1:An:=.d
theorem b_i_Apply_1:bodied Tryz.prog 45=true:=by kernel_rfl
theorem h_i_Apply_1 (x:((List UInt8)×(Int×List UInt8)×(Int×List UInt8)×Int×Bool)×Int×((List UInt8)×(Int×List UInt8)×(Int×List UInt8)×Int×Bool)×(List
 UInt8)×Int×Int×Int×Int):fnG (P:=Tryz.prog) [] [] (sOf Tryz.prog Tryz.f45) a_i_Apply_1 (iOf Tryz.prog Tryz.f45) [⟨false,true,.P .S (.P (.P (.I .i64) (.L .Y)) (.P (.P
 (.I .i64) (.L .Y)) (.P (.I .i64) .B))),[.rd,.rd,.rd,.rd,.rd,.rd,.rd],none⟩,⟨true,false,.P (.I .i64) (.P (.P .S (.P (.P (.I .i64) (.L .Y)) (.P (.P (.I .i64) (.L .Y))
 (.P (.I .i64) .B)))) (.P .S (.P (.I .i64) (.P (.I .i64) (.P (.I .i64) (.I .i64)))))),[.rd,.rd,.rd,.rx,.rd,.rx,.rd,.rd,.rd,.rd,.rd,.rd,.rd],(some (.P (.I .i64) (.P
 .S (.P (.I .i64) (.P (.I .i64) (.P (.I .i64) (.P .B (.P .S (.P (.I .i64) (.P (.I .i64) (.P (.I .i64) (.I .i64))))))))))))⟩] [(false,.B)] x=Zbs x:=by kernel_rfl
noncomputable def e_i_Apply_1:GEnt Tryz.prog:=⟨45,[⟨false,true,.P .S (.P (.P (.I .i64) (.L .Y)) (.P (.P (.I .i64) (.L .Y)) (.P (.I .i64) .B))),[.rd,.rd,.rd,.rd,.rd,
 .rd,.rd],none⟩,⟨true,false,.P (.I .i64) (.P (.P .S (.P (.P (.I .i64) (.L .Y)) (.P (.P (.I .i64) (.L .Y)) (.P (.I .i64) .B)))) (.P .S (.P (.I .i64) (.P (.I .i64) (.P (.I
 .i64) (.I .i64)))))),[.rd,.rd,.rd,.rx,.rd,.rx,.rd,.rd,.rd,.rd,.rd,.rd,.rd],(some (.P (.I .i64) (.P .S (.P (.I .i64) (.P (.I .i64) (.P (.I .i64) (.P .B (.P .S (.P
 (.I .i64) (.P (.I .i64) (.P (.I .i64) (.I .i64))))))))))))⟩],[(false,.B)],Zbs,runs_gen mixed_Pm Tryz.func45 (by kernel_rfl) h_i_Apply_1⟩
noncomputable def a_slices_IndexFunc_i_Apply_1:An:=(.sq none .d (.sq none (.sq none .d (.bl (.lp [.kt 0,.bx 1 [.L (.I .i64),.L .S,.L (.I .i64),.K,.L (.I .i64),.K,.L (.I
 .i64),.L .B,.L .S,.L (.I .i64),.L (.I .i64),.L (.I .i64),.L (.I .i64)],.kt 7,.lt 8 (.I .i64)] .d))) .d))
theorem h_slices_IndexFunc_i_Apply_1 (x:(List ((List UInt8)×(Int×List UInt8)×(Int×List UInt8)×Int×Bool))×Int×((List UInt8)×(Int×List UInt8)×(Int×List
 UInt8)×Int×Bool)×(List UInt8)×Int×Int×Int×Int):fnH (P:=Tryz.prog) [.fv e_i_Apply_1 b_i_Apply_1] [] (sOf Tryz.prog Tryz.f54) a_slices_IndexFunc_i_Apply_1 (iOf
 Tryz.prog Tryz.f54) 1 45 [⟨false,false,.L (.P .S (.P (.P (.I .i64) (.L .Y)) (.P (.P (.I .i64) (.L .Y)) (.P (.I .i64) .B)))),[.rd],none⟩,⟨true,false,.P (.I .i64) (.P (.P .S
 (.P (.P (.I .i64) (.L .Y)) (.P (.P (.I .i64) (.L .Y)) (.P (.I .i64) .B)))) (.P .S (.P (.I .i64) (.P (.I .i64) (.P (.I .i64) (.I .i64)))))),[.rd,.rd,.rd,.rx,.rd,.rx,.rd,
 .rd,.rd,.rd,.rd,.rd,.rd],(some (.P (.I .i64) (.P .S (.P (.I .i64) (.P (.I .i64) (.P (.I .i64) (.P .B (.P .S (.P (.I .i64) (.P (.I .i64) (.P (.I .i64) (.I .i64))))))))))))⟩]
 [(false,.I .i64)] x=Zcj x:=by kernel_rfl
noncomputable def e_slices_IndexFunc_i_Apply_1:HEnt Tryz.prog:=⟨54,45,1,[⟨false,false,.L (.P .S (.P (.P (.I .i64) (.L .Y)) (.P (.P (.I .i64) (.L .Y)) (.P (.I .i64) .B)))),
 [.rd],none⟩,⟨true,false,.P (.I .i64) (.P (.P .S (.P (.P (.I .i64) (.L .Y)) (.P (.P (.I .i64) (.L .Y)) (.P (.I .i64) .B)))) (.P .S (.P (.I .i64) (.P (.I .i64) (.P (.I .i64)
 (.I .i64)))))),[.rd,.rd,.rd,.rx,.rd,.rx,.rd,.rd,.rd,.rd,.rd,.rd,.rd],(some (.P (.I .i64) (.P .S (.P (.I .i64) (.P (.I .i64) (.P (.I .i64) (.P .B (.P .S (.P (.I
 .i64) (.P (.I .i64) (.P (.I .i64) (.I .i64))))))))))))⟩],[(false,.I .i64)],Zcj,runs_hof mixed_Pm Tryz.func54 (by kernel_rfl)
 h_slices_IndexFunc_i_Apply_1⟩
end Go.Vs
