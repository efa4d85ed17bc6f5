import Derived.Test.YtgleokjlebkdcaaDoorProg
import Derived.Test.YtgleokjlebkdcaaDoorVsPek0
set_option linter.all false
namespace Go.Vs
open Go.Proofs
set_option maxRecDepth 100000
noncomputable def a_s_l5Text:An:=(.sq none .d (.sq none .d (.sq (some [.bx 0 [.K,.L (.I .i64),.L (.I .i64)],.ot 7 .Y]) (.sq none .d (.bl (.lp [.bx 0 [.K,.L (.I .i64),.L
 (.I .i64)],.kt 1,.ot 7 .Y,.lt 8 (.I .i64)] .d))) .d)))
theorem h_s_l5Text (x:((List UInt8) × Int × Int) × Int × Int):fnG (P:=Tryd.prog) [.gen e_s_l1Below,.gen e_s_l5Sign,.see e_s_PutSign] [(9,.el .Y)] (sOf Tryd.prog Tryd.f44)
 a_s_l5Text (iOf Tryd.prog Tryd.f44) [⟨true,false,.P (.L .Y) (.P (.I .i64) (.I .i64)),[.rx,.rd,.rd],(some (.P (.I .i64) (.I .i64)))⟩,⟨false,false,.I .i64,[.rd],none⟩,
 ⟨false,false,.I .i64,[.rd],none⟩] [(false,.S)] x = F_s_l5Text x:=by kernel_rfl
noncomputable def e_s_l5Text:GEnt Tryd.prog:=⟨44,[⟨true,false,.P (.L .Y) (.P (.I .i64) (.I .i64)),[.rx,.rd,.rd],(some (.P (.I .i64) (.I .i64)))⟩,⟨false,false,.I .i64,
 [.rd],none⟩,⟨false,false,.I .i64,[.rd],none⟩],[(false,.S)],F_s_l5Text,runs_gen mixed_Pe Tryd.func44 (by kernel_rfl) h_s_l5Text⟩
noncomputable def a_s_l2Len:An:=.d
theorem h_s_l2Len (x:UInt8):fnX (P:=Tryd.prog) [.see e_s_l1In] [] (sOf Tryd.prog Tryd.f103) a_s_l2Len (iOf Tryd.prog Tryd.f103) [(false,.Y)] [(false,.I .i64)] x = F_s_l2Len
 x:=by kernel_rfl
noncomputable def e_s_l2Len:SEnt Tryd.prog:=⟨103,[(false,.Y)],[(false,.I .i64)],F_s_l2Len,runs_see mixed_Pe Tryd.func103 (by kernel_rfl) h_s_l2Len⟩
noncomputable def a_s_GetSign:An:=(.sq none .d (.sq none .d (.sq none .d (.sq none .d (.sq none .d (.sq (some [.kt 0,.kt 1,.kt 7,.lt 8 (.I .i64)]) .d (.sq (some [.kt 0,.kt
 1,.kt 7,.lt 8 (.I .i64)]) (.sq none .d (.bl (.lp [.kt 0,.kt 1,.kt 7,.lt 8 (.I .i64),.lt 9 (.I .i64)] .d))) .d)))))))
theorem h_s_GetSign (x:(List UInt8) × Int):fnX (P:=Tryd.prog) [.see e_s_l1In,.see e_s_l2Len,.see e_s_SignOk,.see e_s_PutSign] [(71,.el .Y)] (sOf Tryd.prog Tryd.f83)
 a_s_GetSign (iOf Tryd.prog Tryd.f83) [(false,.L .Y),(false,.I .i64)] [(false,.I .i64),(false,.I .i64),(false,.B)] x = F_s_GetSign x:=by kernel_rfl
noncomputable def e_s_GetSign:SEnt Tryd.prog:=⟨83,[(false,.L .Y),(false,.I .i64)],[(false,.I .i64),(false,.I .i64),(false,.B)],F_s_GetSign,runs_see mixed_Pe
 Tryd.func83 (by kernel_rfl) h_s_GetSign⟩
noncomputable def a_s_Signs:An:=(.sq none .d (.sq none .d (.sq none .d (.sq (some [.ot 4 (.I .i64)]) (.sq none .d (.bl (.lp [.ot 4 (.I .i64),.kt 5,.lt 6 (.I .i64)] .d)))
 .d))))
theorem h_s_Signs (x:List UInt8):fnX (P:=Tryd.prog) [.see e_s_GetSign] [(10,.el (.I .i64)),(26,.el (.I .i64)),(29,.el (.I .i64)),(30,.el (.I .i64))] (sOf Tryd.prog
 Tryd.f70) a_s_Signs (iOf Tryd.prog Tryd.f70) [(false,.S)] [(false,.L (.I .i64)),(false,.B)] x = F_s_Signs x:=by kernel_rfl
noncomputable def e_s_Signs:SEnt Tryd.prog:=⟨70,[(false,.S)],[(false,.L (.I .i64)),(false,.B)],F_s_Signs,runs_see mixed_Pe Tryd.func70 (by kernel_rfl) h_s_Signs⟩
noncomputable def a_s_l5Cs:An:=.d
theorem h_s_l5Cs (x:Int):fnX (P:=Tryd.prog) [.see e_s_l1In] [] (sOf Tryd.prog Tryd.f38) a_s_l5Cs (iOf Tryd.prog Tryd.f38) [(false,.I .i64)] [(false,.B)] x = F_s_l5Cs x :=
 by kernel_rfl
noncomputable def e_s_l5Cs:SEnt Tryd.prog:=⟨38,[(false,.I .i64)],[(false,.B)],F_s_l5Cs,runs_see mixed_Pe Tryd.func38 (by kernel_rfl) h_s_l5Cs⟩
noncomputable def a_s_SignPair:An:=.d
theorem h_s_SignPair (x:Int):fnX (P:=Tryd.prog) [.see e_s_l1In] [] (sOf Tryd.prog Tryd.f110) a_s_SignPair (iOf Tryd.prog Tryd.f110) [(false,.I .i64)] [(false,.I .i64),
 (false,.I .i64),(false,.B)] x = F_s_SignPair x:=by kernel_rfl
noncomputable def e_s_SignPair:SEnt Tryd.prog:=⟨110,[(false,.I .i64)],[(false,.I .i64),(false,.I .i64),(false,.B)],F_s_SignPair,runs_see mixed_Pe Tryd.func110 (by
 kernel_rfl) h_s_SignPair⟩
noncomputable def a_s_PutEuc:An:=.d
theorem h_s_PutEuc (x:(List UInt8) × Int):fnX (P:=Tryd.prog) [.see e_s_l1In,.see e_s_SignPair] [(10,.el .Y),(12,.el .Y),(18,.el .Y),(19,.el .Y),(34,.el .Y),(35,
 .el .Y)] (sOf Tryd.prog Tryd.f91) a_s_PutEuc (iOf Tryd.prog Tryd.f91) [(false,.L .Y),(false,.I .i64)] [(false,.L .Y),(false,.B)] x = F_s_PutEuc x:=by kernel_rfl
noncomputable def e_s_PutEuc:SEnt Tryd.prog:=⟨91,[(false,.L .Y),(false,.I .i64)],[(false,.L .Y),(false,.B)],F_s_PutEuc,runs_see mixed_Pe Tryd.func91 (by kernel_rfl)
 h_s_PutEuc⟩
noncomputable def a_s_SignByte:An:=(.sq none .d (.sq (some []) (.sq none .d (.bl (.lp [.kt 0,.kt 1,.lt 6 (.I .i64)] .d))) .d))
theorem h_s_SignByte (x:Int × Int):fnX (P:=Tryd.prog) [.see e_s_ByteSign] [] (sOf Tryd.prog Tryd.f92) a_s_SignByte (iOf Tryd.prog Tryd.f92) [(false,.I .i64),(false,.I
 .i64)] [(false,.I .i64),(false,.B)] x = F_s_SignByte x:=by kernel_rfl
noncomputable def e_s_SignByte:SEnt Tryd.prog:=⟨92,[(false,.I .i64),(false,.I .i64)],[(false,.I .i64),(false,.B)],F_s_SignByte,runs_see mixed_Pe Tryd.func92 (by
 kernel_rfl) h_s_SignByte⟩
noncomputable def a_s_l5Put:An:=.d
theorem h_s_l5Put (x:Int × (List UInt8) × Int):fnX (P:=Tryd.prog) [.see e_s_PutSign,.see e_s_SignOk,.see e_s_PutEuc,.see e_s_SignByte] [(33,.el .Y),(35,.el .Y),(36,
 .el .Y),(38,.el .Y),(41,.el .Y),(42,.el .Y)] (sOf Tryd.prog Tryd.f71) a_s_l5Put (iOf Tryd.prog Tryd.f71) [(false,.I .i64),(false,.L .Y),(false,.I .i64)] [(false,.L
 .Y),(false,.B)] x = F_s_l5Put x:=by kernel_rfl
noncomputable def e_s_l5Put:SEnt Tryd.prog:=⟨71,[(false,.I .i64),(false,.L .Y),(false,.I .i64)],[(false,.L .Y),(false,.B)],F_s_l5Put,runs_see mixed_Pe Tryd.func71
 (by kernel_rfl) h_s_l5Put⟩
noncomputable def a_s_Encode:An:=(.sq none .d (.sq none .d (.sq none .d (.sq none .d (.sq (some [.ot 6 .Y]) (.sq none .d (.bl (.lp [.kt 0,.ot 6 .Y,.kt 7,.lt 9 (.I .i64)]
 .d))) .d)))))
theorem h_s_Encode (x:Int × List UInt8):fnX (P:=Tryd.prog) [.see e_s_Signs,.see e_s_l5Cs,.see e_s_l5Put] [(12,.el .Y),(44,.el .Y)] (sOf Tryd.prog Tryd.f47) a_s_Encode
 (iOf Tryd.prog Tryd.f47) [(false,.I .i64),(false,.S)] [(false,.L .Y),(false,.B)] x = F_s_Encode x:=by kernel_rfl
noncomputable def e_s_Encode:SEnt Tryd.prog:=⟨47,[(false,.I .i64),(false,.S)],[(false,.L .Y),(false,.B)],F_s_Encode,runs_see mixed_Pe Tryd.func47 (by kernel_rfl)
 h_s_Encode⟩
noncomputable def a_s_CellOf:An:=.d
theorem h_s_CellOf (x:Int × List UInt8):fnX (P:=Tryd.prog) [.see e_s_Encode] [] (sOf Tryd.prog Tryd.f18) a_s_CellOf (iOf Tryd.prog Tryd.f18) [(false,.I .i64),(false,.S)]
 [(true,.P (.I .i64) (.L .Y)),(false,.B)] x = F_s_CellOf x:=by kernel_rfl
noncomputable def e_s_CellOf:SEnt Tryd.prog:=⟨18,[(false,.I .i64),(false,.S)],[(true,.P (.I .i64) (.L .Y)),(false,.B)],F_s_CellOf,runs_see mixed_Pe Tryd.func18 (by
 kernel_rfl) h_s_CellOf⟩
noncomputable def a_s_l3Any:An:=.d
theorem h_s_l3Any (x:(List UInt8) × Int × Int):fnG (P:=Tryd.prog) [.gen e_s_l1Int] [(4,.el (.I .i64))] (sOf Tryd.prog Tryd.f42) a_s_l3Any (iOf Tryd.prog Tryd.f42) [⟨true,
 false,.P (.L .Y) (.P (.I .i64) (.I .i64)),[.rx,.rd,.rd],(some (.P (.I .i64) (.I .i64)))⟩] [(false,.I .i64)] x = F_s_l3Any x:=by kernel_rfl
noncomputable def e_s_l3Any:GEnt Tryd.prog:=⟨42,[⟨true,false,.P (.L .Y) (.P (.I .i64) (.I .i64)),[.rx,.rd,.rd],(some (.P (.I .i64) (.I .i64)))⟩],[(false,.I .i64)],
 F_s_l3Any,runs_gen mixed_Pe Tryd.func42 (by kernel_rfl) h_s_l3Any⟩
noncomputable def a_s_l1Bend:An:=(.sq none .d (.sq none .d (.sq (some [.bx 0 [.K,.L (.I .i64),.L (.I .i64)],.sr 5 .Y]) .d .d)))
theorem h_s_l1Bend (x:((List UInt8) × Int × Int) × List UInt8):fnG (P:=Tryd.prog) [.gen e_s_l1Below] [(6,.el .Y),(8,.el .Y)] (sOf Tryd.prog Tryd.f73) a_s_l1Bend (iOf
 Tryd.prog Tryd.f73) [⟨true,false,.P (.L .Y) (.P (.I .i64) (.I .i64)),[.rx,.rd,.rd],(some (.P (.I .i64) (.I .i64)))⟩,⟨false,false,.L .Y,[.rd],none⟩] [(false,.L .Y)] x
 = F_s_l1Bend x:=by kernel_rfl
noncomputable def e_s_l1Bend:GEnt Tryd.prog:=⟨73,[⟨true,false,.P (.L .Y) (.P (.I .i64) (.I .i64)),[.rx,.rd,.rd],(some (.P (.I .i64) (.I .i64)))⟩,⟨false,false,.L .Y,
 [.rd],none⟩],[(false,.L .Y)],F_s_l1Bend,runs_gen mixed_Pe Tryd.func73 (by kernel_rfl) h_s_l1Bend⟩
end Go.Vs
