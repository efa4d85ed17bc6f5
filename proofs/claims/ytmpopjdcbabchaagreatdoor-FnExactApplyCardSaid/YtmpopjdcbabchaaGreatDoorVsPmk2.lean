import Derived.Test.YtmpopjdcbabchaaGreatDoorProg
import Derived.Test.YtmpopjdcbabchaaGreatDoorVsPmk1
set_option linter.all false
namespace Go.Vs
open Go.Proofs
set_option maxRecDepth 100000
noncomputable def a_s_GetSign:An:=(.sq none .d (.sq none .d (.sq none .d (.sq none .d (.sq none .d (.sq (some [.kt 0,.kt 1,.kt 7,.lt 8 (.I .i64)]) .d (.sq (some [.kt 0,.kt
 1,.kt 7,.lt 8 (.I .i64)]) (.sq none .d (.bl (.lp [.kt 0,.kt 1,.kt 7,.lt 8 (.I .i64),.lt 9 (.I .i64)] .d))) .d)))))))
theorem h_s_GetSign (x:(List UInt8)×Int):fnX (P:=Tryz.prog) [.see e_s_l1In,.see e_s_l2Len,.see e_s_SignOk,.see e_s_PutSign] [(71,.el .Y)] (sOf Tryz.prog Tryz.f151)
 a_s_GetSign (iOf Tryz.prog Tryz.f151) [(false,.L .Y),(false,.I .i64)] [(false,.I .i64),(false,.I .i64),(false,.B)] x=Zcu x:=by kernel_rfl
noncomputable def e_s_GetSign:SEnt Tryz.prog:=⟨151,[(false,.L .Y),(false,.I .i64)],[(false,.I .i64),(false,.I .i64),(false,.B)],Zcu,runs_see mixed_Pm
 Tryz.func151 (by kernel_rfl) h_s_GetSign⟩
noncomputable def a_s_PairSign:An:=.d
theorem h_s_PairSign (x:Int×Int):fnX (P:=Tryz.prog) [.see e_s_l1In] [] (sOf Tryz.prog Tryz.f165) a_s_PairSign (iOf Tryz.prog Tryz.f165) [(false,.I .i64),(false,.I .i64)]
 [(false,.I .i64),(false,.B)] x=Zcv x:=by kernel_rfl
noncomputable def e_s_PairSign:SEnt Tryz.prog:=⟨165,[(false,.I .i64),(false,.I .i64)],[(false,.I .i64),(false,.B)],Zcv,runs_see mixed_Pm Tryz.func165 (by
 kernel_rfl) h_s_PairSign⟩
noncomputable def a_s_EucSign:An:=.d
theorem h_s_EucSign (x:(List UInt8)×Int):fnX (P:=Tryz.prog) [.see e_s_l1In,.see e_s_PairSign] [] (sOf Tryz.prog Tryz.f152) a_s_EucSign (iOf Tryz.prog Tryz.f152) [(false,
 .L .Y),(false,.I .i64)] [(false,.I .i64),(false,.I .i64),(false,.B)] x=Zcw x:=by kernel_rfl
noncomputable def e_s_EucSign:SEnt Tryz.prog:=⟨152,[(false,.L .Y),(false,.I .i64)],[(false,.I .i64),(false,.I .i64),(false,.B)],Zcw,runs_see mixed_Pm
 Tryz.func152 (by kernel_rfl) h_s_EucSign⟩
noncomputable def a_s_l3Nine:An:=.d
theorem h_s_l3Nine (x:Int):fnX (P:=Tryz.prog) [] [] (sOf Tryz.prog Tryz.f155) a_s_l3Nine (iOf Tryz.prog Tryz.f155) [(false,.I .i64)] [(false,.I .i64)] x=Zep x :=
 by kernel_rfl
noncomputable def e_s_l3Nine:SEnt Tryz.prog:=⟨155,[(false,.I .i64)],[(false,.I .i64)],Zep,runs_see mixed_Pm Tryz.func155 (by kernel_rfl) h_s_l3Nine⟩
noncomputable def a_s_l3Koi:An:=.d
theorem h_s_l3Koi (x:Int):fnX (P:=Tryz.prog) [] [(4,.el (.I .i64))] (sOf Tryz.prog Tryz.f156) a_s_l3Koi (iOf Tryz.prog Tryz.f156) [(false,.I .i64)] [(false,.I .i64)] x =
 Zeq x:=by kernel_rfl
noncomputable def e_s_l3Koi:SEnt Tryz.prog:=⟨156,[(false,.I .i64)],[(false,.I .i64)],Zeq,runs_see mixed_Pm Tryz.func156 (by kernel_rfl) h_s_l3Koi⟩
noncomputable def a_s_l3Win:An:=.d
theorem h_s_l3Win (x:Int):fnX (P:=Tryz.prog) [] [(4,.el (.I .i64))] (sOf Tryz.prog Tryz.f157) a_s_l3Win (iOf Tryz.prog Tryz.f157) [(false,.I .i64)] [(false,.I .i64)] x =
 Zer x:=by kernel_rfl
noncomputable def e_s_l3Win:SEnt Tryz.prog:=⟨157,[(false,.I .i64)],[(false,.I .i64)],Zer,runs_see mixed_Pm Tryz.func157 (by kernel_rfl) h_s_l3Win⟩
noncomputable def a_s_ByteSign:An:=(.sq none .d (.sq none .d (.sq none .d (.sq (some [.lt 6 (.I .i64)]) .d .d))))
theorem h_s_ByteSign (x:Int×Int):fnX (P:=Tryz.prog) [.see e_s_l1In,.see e_s_l3Nine,.see e_s_l3Koi,.see e_s_l3Win] [] (sOf Tryz.prog Tryz.f144) a_s_ByteSign (iOf
 Tryz.prog Tryz.f144) [(false,.I .i64),(false,.I .i64)] [(false,.I .i64),(false,.B)] x=Zba x:=by kernel_rfl
noncomputable def e_s_ByteSign:SEnt Tryz.prog:=⟨144,[(false,.I .i64),(false,.I .i64)],[(false,.I .i64),(false,.B)],Zba,runs_see mixed_Pm Tryz.func144 (by
 kernel_rfl) h_s_ByteSign⟩
noncomputable def a_s_l5Get:An:=.d
theorem h_s_l5Get (x:Int×(List UInt8)×Int):fnX (P:=Tryz.prog) [.see e_s_GetSign,.see e_s_EucSign,.see e_s_ByteSign] [] (sOf Tryz.prog Tryz.f140) a_s_l5Get (iOf
 Tryz.prog Tryz.f140) [(false,.I .i64),(false,.L .Y),(false,.I .i64)] [(false,.I .i64),(false,.I .i64),(false,.B)] x=Zcx x:=by kernel_rfl
noncomputable def e_s_l5Get:SEnt Tryz.prog:=⟨140,[(false,.I .i64),(false,.L .Y),(false,.I .i64)],[(false,.I .i64),(false,.I .i64),(false,.B)],Zcx,runs_see
 mixed_Pm Tryz.func140 (by kernel_rfl) h_s_l5Get⟩
noncomputable def a_s_Decode:An:=(.sq none .d (.sq none .d (.sq none .d (.sq (some [.ot 6 .Y]) (.sq none .d (.bl (.lp [.kt 0,.kt 1,.ot 6 .Y,.lt 7 (.I .i64)] .d))) .d))))
theorem h_s_Decode (x:Int×List UInt8):fnX (P:=Tryz.prog) [.see e_s_l5Cs,.see e_s_l5Get,.see e_s_PutSign] [(11,.el .Y)] (sOf Tryz.prog Tryz.f129) a_s_Decode (iOf
 Tryz.prog Tryz.f129) [(false,.I .i64),(false,.L .Y)] [(false,.S),(false,.B)] x=Zcy x:=by kernel_rfl
noncomputable def e_s_Decode:SEnt Tryz.prog:=⟨129,[(false,.I .i64),(false,.L .Y)],[(false,.S),(false,.B)],Zcy,runs_see mixed_Pm Tryz.func129 (by kernel_rfl)
 h_s_Decode⟩
noncomputable def a_s_CellText:An:=.d
theorem h_s_CellText (x:Int×List UInt8):fnX (P:=Tryz.prog) [.see e_s_CellOk,.see e_s_Decode] [] (sOf Tryz.prog Tryz.f113) a_s_CellText (iOf Tryz.prog Tryz.f113) [(true,.P
 (.I .i64) (.L .Y))] [(false,.S),(false,.B)] x=Zm x:=by kernel_rfl
noncomputable def e_s_CellText:SEnt Tryz.prog:=⟨113,[(true,.P (.I .i64) (.L .Y))],[(false,.S),(false,.B)],Zm,runs_see mixed_Pm Tryz.func113 (by kernel_rfl)
 h_s_CellText⟩
noncomputable def a_s_SameText:An:=.d
theorem h_s_SameText (x:(Int×List UInt8)×Int×List UInt8):fnX (P:=Tryz.prog) [.see e_s_CellText] [] (sOf Tryz.prog Tryz.f115) a_s_SameText (iOf Tryz.prog Tryz.f115)
 [(true,.P (.I .i64) (.L .Y)),(true,.P (.I .i64) (.L .Y))] [(false,.B)] x=Zd x:=by kernel_rfl
noncomputable def e_s_SameText:SEnt Tryz.prog:=⟨115,[(true,.P (.I .i64) (.L .Y)),(true,.P (.I .i64) (.L .Y))],[(false,.B)],Zd,runs_see mixed_Pm Tryz.func115
 (by kernel_rfl) h_s_SameText⟩
noncomputable def a_s_RowOk:An:=.d
theorem h_s_RowOk (x:(List UInt8)×(Int×List UInt8)×(Int×List UInt8)×Int×Bool):fnX (P:=Tryz.prog) [.see e_s_NameOk,.see e_s_l1In,.see e_s_l9Old,.see e_s_l9None,
 .see e_s_l9New,.see e_s_CellText,.see e_s_CellOk,.see e_s_SameText] [] (sOf Tryz.prog Tryz.f82) a_s_RowOk (iOf Tryz.prog Tryz.f82) [(true,.P .S (.P (.P (.I .i64) (.L .Y)) (.P
 (.P (.I .i64) (.L .Y)) (.P (.I .i64) .B))))] [(false,.B)] x=Zbb x:=by kernel_rfl
noncomputable def e_s_RowOk:SEnt Tryz.prog:=⟨82,[(true,.P .S (.P (.P (.I .i64) (.L .Y)) (.P (.P (.I .i64) (.L .Y)) (.P (.I .i64) .B))))],[(false,.B)],Zbb,runs_see
 mixed_Pm Tryz.func82 (by kernel_rfl) h_s_RowOk⟩
noncomputable def a_s_l1Word:An:=.d
theorem h_s_l1Word (x:Int):fnX (P:=Tryz.prog) [.see e_s_l1In] [] (sOf Tryz.prog Tryz.f116) a_s_l1Word (iOf Tryz.prog Tryz.f116) [(false,.I .i64)] [(false,.B)] x =
 Zca x:=by kernel_rfl
noncomputable def e_s_l1Word:SEnt Tryz.prog:=⟨116,[(false,.I .i64)],[(false,.B)],Zca,runs_see mixed_Pm Tryz.func116 (by kernel_rfl) h_s_l1Word⟩
noncomputable def a_s_l12Mark:An:=.d
theorem h_s_l12Mark (x:Int×Int×Int):fnX (P:=Tryz.prog) [.see e_s_l1In,.see e_s_l1Word] [] (sOf Tryz.prog Tryz.f83) a_s_l12Mark (iOf Tryz.prog Tryz.f83) [(true,.P (.I
 .i64) (.P (.I .i64) (.I .i64)))] [(false,.B)] x=Zcb x:=by kernel_rfl
noncomputable def e_s_l12Mark:SEnt Tryz.prog:=⟨83,[(true,.P (.I .i64) (.P (.I .i64) (.I .i64)))],[(false,.B)],Zcb,runs_see mixed_Pm Tryz.func83 (by kernel_rfl)
 h_s_l12Mark⟩
end Go.Vs
