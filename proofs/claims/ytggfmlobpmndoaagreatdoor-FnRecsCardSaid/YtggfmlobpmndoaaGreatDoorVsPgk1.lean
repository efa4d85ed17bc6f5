import Derived.Test.YtggfmlobpmndoaaGreatDoorProg
import Derived.Test.YtggfmlobpmndoaaGreatDoorVsPgk0
set_option linter.all false
namespace Go.Vs
open Go.Proofs
set_option maxRecDepth 100000
noncomputable def a_s_ByteSign:An:=(.sq none .d (.sq none .d (.sq none .d (.sq (some [.lt 6 (.I .i64)]) .d .d))))
theorem h_s_ByteSign (x:Int×Int):fnX (P:=Tryz.prog) [.see e_s_l1In,.see e_s_l3Nine,.see e_s_l3Koi,.see e_s_l3Win] [] (sOf Tryz.prog Tryz.f235) a_s_ByteSign (iOf
 Tryz.prog Tryz.f235) [(false,.I .i64),(false,.I .i64)] [(false,.I .i64),(false,.B)] x=F_s_ByteSign x:=by kernel_rfl
noncomputable def e_s_ByteSign:SEnt Tryz.prog:=⟨235,[(false,.I .i64),(false,.I .i64)],[(false,.I .i64),(false,.B)],F_s_ByteSign,runs_see mixed_Pg Tryz.func235 (by
 kernel_rfl) h_s_ByteSign⟩
noncomputable def a_s_l5Sign:An:=.d
theorem h_s_l5Sign (x:((List UInt8)×Int×Int)×Int):fnG (P:=Tryz.prog) [.gen e_s_l2Sign,.gen e_s_l1Int,.see e_s_ByteSign] [(14,.el (.I .i64)),(19,.el (.I .i64))]
 (sOf Tryz.prog Tryz.f219) a_s_l5Sign (iOf Tryz.prog Tryz.f219) [⟨true,false,.P (.L .Y) (.P (.I .i64) (.I .i64)),[.rx,.rd,.rd],(some (.P (.I .i64) (.I .i64)))⟩,⟨false,
 false,.I .i64,[.rd],none⟩] [(false,.I .i64)] x=F_s_l5Sign x:=by kernel_rfl
noncomputable def e_s_l5Sign:GEnt Tryz.prog:=⟨219,[⟨true,false,.P (.L .Y) (.P (.I .i64) (.I .i64)),[.rx,.rd,.rd],(some (.P (.I .i64) (.I .i64)))⟩,⟨false,false,.I
 .i64,[.rd],none⟩],[(false,.I .i64)],F_s_l5Sign,runs_gen mixed_Pg Tryz.func219 (by kernel_rfl) h_s_l5Sign⟩
noncomputable def a_s_SignOk:An:=.d
theorem h_s_SignOk (x:Int):fnX (P:=Tryz.prog) [.see e_s_l1In] [] (sOf Tryz.prog Tryz.f233) a_s_SignOk (iOf Tryz.prog Tryz.f233) [(false,.I .i64)] [(false,.B)] x =
 F_s_SignOk x:=by kernel_rfl
noncomputable def e_s_SignOk:SEnt Tryz.prog:=⟨233,[(false,.I .i64)],[(false,.B)],F_s_SignOk,runs_see mixed_Pg Tryz.func233 (by kernel_rfl) h_s_SignOk⟩
noncomputable def a_s_PutSign:An:=.d
theorem h_s_PutSign (x:(List UInt8)×Int):fnX (P:=Tryz.prog) [.see e_s_SignOk] [(6,.el .Y),(8,.el .Y),(20,.el .Y),(21,.el .Y),(34,.el .Y),(35,.el .Y),(53,.el
 .Y),(54,.el .Y),(74,.el .Y),(75,.el .Y)] (sOf Tryz.prog Tryz.f218) a_s_PutSign (iOf Tryz.prog Tryz.f218) [(false,.L .Y),(false,.I .i64)] [(false,.L .Y)] x=F_s_PutSign
 x:=by kernel_rfl
noncomputable def e_s_PutSign:SEnt Tryz.prog:=⟨218,[(false,.L .Y),(false,.I .i64)],[(false,.L .Y)],F_s_PutSign,runs_see mixed_Pg Tryz.func218 (by kernel_rfl)
 h_s_PutSign⟩
noncomputable def a_s_l5Text:An:=(.sq none .d (.sq none .d (.sq (some [.bx 0 [.K,.L (.I .i64),.L (.I .i64)],.ot 7 .Y]) (.sq none .d (.bl (.lp [.bx 0 [.K,.L (.I .i64),.L
 (.I .i64)],.kt 1,.ot 7 .Y,.lt 8 (.I .i64)] .d))) .d)))
theorem h_s_l5Text (x:((List UInt8)×Int×Int)×Int×Int):fnG (P:=Tryz.prog) [.gen e_s_l1Below,.gen e_s_l5Sign,.see e_s_PutSign] [(9,.el .Y)] (sOf Tryz.prog Tryz.f175)
 a_s_l5Text (iOf Tryz.prog Tryz.f175) [⟨true,false,.P (.L .Y) (.P (.I .i64) (.I .i64)),[.rx,.rd,.rd],(some (.P (.I .i64) (.I .i64)))⟩,⟨false,false,.I .i64,[.rd],none⟩,
 ⟨false,false,.I .i64,[.rd],none⟩] [(false,.S)] x=F_s_l5Text x:=by kernel_rfl
noncomputable def e_s_l5Text:GEnt Tryz.prog:=⟨175,[⟨true,false,.P (.L .Y) (.P (.I .i64) (.I .i64)),[.rx,.rd,.rd],(some (.P (.I .i64) (.I .i64)))⟩,⟨false,false,.I
 .i64,[.rd],none⟩,⟨false,false,.I .i64,[.rd],none⟩],[(false,.S)],F_s_l5Text,runs_gen mixed_Pg Tryz.func175 (by kernel_rfl) h_s_l5Text⟩
noncomputable def a_s_l2Len:An:=.d
theorem h_s_l2Len (x:UInt8):fnX (P:=Tryz.prog) [.see e_s_l1In] [] (sOf Tryz.prog Tryz.f259) a_s_l2Len (iOf Tryz.prog Tryz.f259) [(false,.Y)] [(false,.I .i64)] x=F_s_l2Len
 x:=by kernel_rfl
noncomputable def e_s_l2Len:SEnt Tryz.prog:=⟨259,[(false,.Y)],[(false,.I .i64)],F_s_l2Len,runs_see mixed_Pg Tryz.func259 (by kernel_rfl) h_s_l2Len⟩
noncomputable def a_s_GetSign:An:=(.sq none .d (.sq none .d (.sq none .d (.sq none .d (.sq none .d (.sq (some [.kt 0,.kt 1,.kt 7,.lt 8 (.I .i64)]) .d (.sq (some [.kt 0,.kt
 1,.kt 7,.lt 8 (.I .i64)]) (.sq none .d (.bl (.lp [.kt 0,.kt 1,.kt 7,.lt 8 (.I .i64),.lt 9 (.I .i64)] .d))) .d)))))))
theorem h_s_GetSign (x:(List UInt8)×Int):fnX (P:=Tryz.prog) [.see e_s_l1In,.see e_s_l2Len,.see e_s_SignOk,.see e_s_PutSign] [(71,.el .Y)] (sOf Tryz.prog Tryz.f243)
 a_s_GetSign (iOf Tryz.prog Tryz.f243) [(false,.L .Y),(false,.I .i64)] [(false,.I .i64),(false,.I .i64),(false,.B)] x=F_s_GetSign x:=by kernel_rfl
noncomputable def e_s_GetSign:SEnt Tryz.prog:=⟨243,[(false,.L .Y),(false,.I .i64)],[(false,.I .i64),(false,.I .i64),(false,.B)],F_s_GetSign,runs_see mixed_Pg
 Tryz.func243 (by kernel_rfl) h_s_GetSign⟩
noncomputable def a_s_Signs:An:=(.sq none .d (.sq none .d (.sq none .d (.sq (some [.ot 4 (.I .i64)]) (.sq none .d (.bl (.lp [.ot 4 (.I .i64),.kt 5,.lt 6 (.I .i64)] .d)))
 .d))))
theorem h_s_Signs (x:List UInt8):fnX (P:=Tryz.prog) [.see e_s_GetSign] [(10,.el (.I .i64)),(26,.el (.I .i64)),(29,.el (.I .i64)),(30,.el (.I .i64))] (sOf Tryz.prog
 Tryz.f245) a_s_Signs (iOf Tryz.prog Tryz.f245) [(false,.S)] [(false,.L (.I .i64)),(false,.B)] x=F_s_Signs x:=by kernel_rfl
noncomputable def e_s_Signs:SEnt Tryz.prog:=⟨245,[(false,.S)],[(false,.L (.I .i64)),(false,.B)],F_s_Signs,runs_see mixed_Pg Tryz.func245 (by kernel_rfl) h_s_Signs⟩
noncomputable def a_s_l5Cs:An:=.d
theorem h_s_l5Cs (x:Int):fnX (P:=Tryz.prog) [.see e_s_l1In] [] (sOf Tryz.prog Tryz.f185) a_s_l5Cs (iOf Tryz.prog Tryz.f185) [(false,.I .i64)] [(false,.B)] x=F_s_l5Cs x :=
 by kernel_rfl
noncomputable def e_s_l5Cs:SEnt Tryz.prog:=⟨185,[(false,.I .i64)],[(false,.B)],F_s_l5Cs,runs_see mixed_Pg Tryz.func185 (by kernel_rfl) h_s_l5Cs⟩
noncomputable def a_s_SignPair:An:=.d
theorem h_s_SignPair (x:Int):fnX (P:=Tryz.prog) [.see e_s_l1In] [] (sOf Tryz.prog Tryz.f266) a_s_SignPair (iOf Tryz.prog Tryz.f266) [(false,.I .i64)] [(false,.I .i64),
 (false,.I .i64),(false,.B)] x=F_s_SignPair x:=by kernel_rfl
noncomputable def e_s_SignPair:SEnt Tryz.prog:=⟨266,[(false,.I .i64)],[(false,.I .i64),(false,.I .i64),(false,.B)],F_s_SignPair,runs_see mixed_Pg Tryz.func266 (by
 kernel_rfl) h_s_SignPair⟩
noncomputable def a_s_PutEuc:An:=.d
theorem h_s_PutEuc (x:(List UInt8)×Int):fnX (P:=Tryz.prog) [.see e_s_l1In,.see e_s_SignPair] [(10,.el .Y),(12,.el .Y),(18,.el .Y),(19,.el .Y),(34,.el .Y),(35,
 .el .Y)] (sOf Tryz.prog Tryz.f261) a_s_PutEuc (iOf Tryz.prog Tryz.f261) [(false,.L .Y),(false,.I .i64)] [(false,.L .Y),(false,.B)] x=F_s_PutEuc x:=by kernel_rfl
noncomputable def e_s_PutEuc:SEnt Tryz.prog:=⟨261,[(false,.L .Y),(false,.I .i64)],[(false,.L .Y),(false,.B)],F_s_PutEuc,runs_see mixed_Pg Tryz.func261 (by kernel_rfl)
 h_s_PutEuc⟩
noncomputable def a_s_SignByte:An:=(.sq none .d (.sq (some []) (.sq none .d (.bl (.lp [.kt 0,.kt 1,.lt 6 (.I .i64)] .d))) .d))
theorem h_s_SignByte (x:Int×Int):fnX (P:=Tryz.prog) [.see e_s_ByteSign] [] (sOf Tryz.prog Tryz.f262) a_s_SignByte (iOf Tryz.prog Tryz.f262) [(false,.I .i64),(false,.I
 .i64)] [(false,.I .i64),(false,.B)] x=F_s_SignByte x:=by kernel_rfl
noncomputable def e_s_SignByte:SEnt Tryz.prog:=⟨262,[(false,.I .i64),(false,.I .i64)],[(false,.I .i64),(false,.B)],F_s_SignByte,runs_see mixed_Pg Tryz.func262 (by
 kernel_rfl) h_s_SignByte⟩
noncomputable def a_s_l5Put:An:=.d
theorem h_s_l5Put (x:Int×(List UInt8)×Int):fnX (P:=Tryz.prog) [.see e_s_PutSign,.see e_s_SignOk,.see e_s_PutEuc,.see e_s_SignByte] [(33,.el .Y),(35,.el .Y),(36,
 .el .Y),(38,.el .Y),(41,.el .Y),(42,.el .Y)] (sOf Tryz.prog Tryz.f246) a_s_l5Put (iOf Tryz.prog Tryz.f246) [(false,.I .i64),(false,.L .Y),(false,.I .i64)] [(false,.L
 .Y),(false,.B)] x=F_s_l5Put x:=by kernel_rfl
noncomputable def e_s_l5Put:SEnt Tryz.prog:=⟨246,[(false,.I .i64),(false,.L .Y),(false,.I .i64)],[(false,.L .Y),(false,.B)],F_s_l5Put,runs_see mixed_Pg Tryz.func246
 (by kernel_rfl) h_s_l5Put⟩
noncomputable def a_s_Encode:An:=(.sq none .d (.sq none .d (.sq none .d (.sq none .d (.sq (some [.ot 6 .Y]) (.sq none .d (.bl (.lp [.kt 0,.ot 6 .Y,.kt 7,.lt 9 (.I .i64)]
 .d))) .d)))))
theorem h_s_Encode (x:Int×List UInt8):fnX (P:=Tryz.prog) [.see e_s_Signs,.see e_s_l5Cs,.see e_s_l5Put] [(12,.el .Y),(44,.el .Y)] (sOf Tryz.prog Tryz.f224) a_s_Encode
 (iOf Tryz.prog Tryz.f224) [(false,.I .i64),(false,.S)] [(false,.L .Y),(false,.B)] x=F_s_Encode x:=by kernel_rfl
noncomputable def e_s_Encode:SEnt Tryz.prog:=⟨224,[(false,.I .i64),(false,.S)],[(false,.L .Y),(false,.B)],F_s_Encode,runs_see mixed_Pg Tryz.func224 (by kernel_rfl)
 h_s_Encode⟩
end Go.Vs
