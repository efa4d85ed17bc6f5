import Derived.Test.YtgleokjlebkdcaaDoorProg
import Derived.Test.YtgleokjlebkdcaaDoorVsPe
set_option linter.all false
namespace Go.Vs
open Go.Proofs
set_option maxRecDepth 100000
theorem mixed_Pe:Tryd.prog.follows .mixedOrders = true:=by kernel_rfl
noncomputable def a_l_big:An:=.d
theorem h_l_big (x:List UInt8):fnX (P:=Tryd.prog) [] [] (sOf Tryd.prog Tryd.f6) a_l_big (iOf Tryd.prog Tryd.f6) [(false,.L .Y)] [(false,.B)] x = F_l_big x:=by kernel_rfl
noncomputable def e_l_big:SEnt Tryd.prog:=⟨6,[(false,.L .Y)],[(false,.B)],F_l_big,runs_see mixed_Pe Tryd.func6 (by kernel_rfl) h_l_big⟩
noncomputable def a_s_l1New:An:=(.sq none .d (.sq none .d (.sq (some [.kt 0,.lt 3 (.I .i64)]) (.sq none .d (.bl (.lp [.kt 0,.lt 3 (.I .i64),.lt 4 (.I .i64)] .d))) .d)))
theorem h_s_l1New (x:List UInt8):fnC (P:=Tryd.prog) [] [] (sOf Tryd.prog Tryd.f33) a_s_l1New (iOf Tryd.prog Tryd.f33) x = F_s_l1New x:=by kernel_rfl
noncomputable def e_s_l1New:CEnt Tryd.prog:=⟨33,F_s_l1New,makes_cur mixed_Pe Tryd.func33 (by kernel_rfl) h_s_l1New⟩
noncomputable def a_s_l1Byte:An:=(.sq none .d (.sq none .d (.sq none .d (.sq (some [.bx 0 [.K,.L (.I .i64),.K],.lt 3 (.I .i64)]) .d .d))))
theorem h_s_l1Byte (x:(List UInt8) × Int × Int):fnG (P:=Tryd.prog) [] [] (sOf Tryd.prog Tryd.f74) a_s_l1Byte (iOf Tryd.prog Tryd.f74) [⟨true,false,.P (.L .Y) (.P (.I .i64)
 (.I .i64)),[.rx,.rd,.rd],(some (.P (.I .i64) (.I .i64)))⟩] [(false,.I .i64)] x = F_s_l1Byte x:=by kernel_rfl
noncomputable def e_s_l1Byte:GEnt Tryd.prog:=⟨74,[⟨true,false,.P (.L .Y) (.P (.I .i64) (.I .i64)),[.rx,.rd,.rd],(some (.P (.I .i64) (.I .i64)))⟩],[(false,.I .i64)],
 F_s_l1Byte,runs_gen mixed_Pe Tryd.func74 (by kernel_rfl) h_s_l1Byte⟩
noncomputable def a_s_l1Below:An:=.d
theorem h_s_l1Below (x:((List UInt8) × Int × Int) × Int):fnG (P:=Tryd.prog) [.gen e_s_l1Byte] [] (sOf Tryd.prog Tryd.f51) a_s_l1Below (iOf Tryd.prog Tryd.f51) [⟨true,false,
 .P (.L .Y) (.P (.I .i64) (.I .i64)),[.rx,.rd,.rd],(some (.P (.I .i64) (.I .i64)))⟩,⟨false,false,.I .i64,[.rd],none⟩] [(false,.I .i64)] x = F_s_l1Below x:=by
 kernel_rfl
noncomputable def e_s_l1Below:GEnt Tryd.prog:=⟨51,[⟨true,false,.P (.L .Y) (.P (.I .i64) (.I .i64)),[.rx,.rd,.rd],(some (.P (.I .i64) (.I .i64)))⟩,⟨false,false,.I
 .i64,[.rd],none⟩],[(false,.I .i64)],F_s_l1Below,runs_gen mixed_Pe Tryd.func51 (by kernel_rfl) h_s_l1Below⟩
noncomputable def a_s_l1Int:An:=.d
theorem h_s_l1Int (x:((List UInt8) × Int × Int) × List Int):fnG (P:=Tryd.prog) [.gen e_s_l1Below] [] (sOf Tryd.prog Tryd.f39) a_s_l1Int (iOf Tryd.prog Tryd.f39) [⟨true,
 false,.P (.L .Y) (.P (.I .i64) (.I .i64)),[.rx,.rd,.rd],(some (.P (.I .i64) (.I .i64)))⟩,⟨false,false,.L (.I .i64),[.rd],none⟩] [(false,.I .i64)] x = F_s_l1Int x:=by
 kernel_rfl
noncomputable def e_s_l1Int:GEnt Tryd.prog:=⟨39,[⟨true,false,.P (.L .Y) (.P (.I .i64) (.I .i64)),[.rx,.rd,.rd],(some (.P (.I .i64) (.I .i64)))⟩,⟨false,false,.L (.I
 .i64),[.rd],none⟩],[(false,.I .i64)],F_s_l1Int,runs_gen mixed_Pe Tryd.func39 (by kernel_rfl) h_s_l1Int⟩
noncomputable def a_s_l2Sign:An:=.d
theorem h_s_l2Sign (x:(List UInt8) × Int × Int):fnG (P:=Tryd.prog) [.gen e_s_l1Int] [(4,.el (.I .i64))] (sOf Tryd.prog Tryd.f87) a_s_l2Sign (iOf Tryd.prog Tryd.f87) [⟨true,
 false,.P (.L .Y) (.P (.I .i64) (.I .i64)),[.rx,.rd,.rd],(some (.P (.I .i64) (.I .i64)))⟩] [(false,.I .i64)] x = F_s_l2Sign x:=by kernel_rfl
noncomputable def e_s_l2Sign:GEnt Tryd.prog:=⟨87,[⟨true,false,.P (.L .Y) (.P (.I .i64) (.I .i64)),[.rx,.rd,.rd],(some (.P (.I .i64) (.I .i64)))⟩],[(false,.I .i64)],
 F_s_l2Sign,runs_gen mixed_Pe Tryd.func87 (by kernel_rfl) h_s_l2Sign⟩
noncomputable def a_s_l1In:An:=.d
theorem h_s_l1In (x:Int × Int × Int):fnX (P:=Tryd.prog) [] [] (sOf Tryd.prog Tryd.f54) a_s_l1In (iOf Tryd.prog Tryd.f54) [(false,.I .i64),(false,.I .i64),(false,.I
 .i64)] [(false,.B)] x = F_s_l1In x:=by kernel_rfl
noncomputable def e_s_l1In:SEnt Tryd.prog:=⟨54,[(false,.I .i64),(false,.I .i64),(false,.I .i64)],[(false,.B)],F_s_l1In,runs_see mixed_Pe Tryd.func54 (by kernel_rfl)
 h_s_l1In⟩
noncomputable def a_s_l3Nine:An:=.d
theorem h_s_l3Nine (x:Int):fnX (P:=Tryd.prog) [] [] (sOf Tryd.prog Tryd.f105) a_s_l3Nine (iOf Tryd.prog Tryd.f105) [(false,.I .i64)] [(false,.I .i64)] x = F_s_l3Nine x :=
 by kernel_rfl
noncomputable def e_s_l3Nine:SEnt Tryd.prog:=⟨105,[(false,.I .i64)],[(false,.I .i64)],F_s_l3Nine,runs_see mixed_Pe Tryd.func105 (by kernel_rfl) h_s_l3Nine⟩
noncomputable def a_s_l3Koi:An:=.d
theorem h_s_l3Koi (x:Int):fnX (P:=Tryd.prog) [] [(4,.el (.I .i64))] (sOf Tryd.prog Tryd.f106) a_s_l3Koi (iOf Tryd.prog Tryd.f106) [(false,.I .i64)] [(false,.I .i64)] x =
 F_s_l3Koi x:=by kernel_rfl
noncomputable def e_s_l3Koi:SEnt Tryd.prog:=⟨106,[(false,.I .i64)],[(false,.I .i64)],F_s_l3Koi,runs_see mixed_Pe Tryd.func106 (by kernel_rfl) h_s_l3Koi⟩
noncomputable def a_s_l3Win:An:=.d
theorem h_s_l3Win (x:Int):fnX (P:=Tryd.prog) [] [(4,.el (.I .i64))] (sOf Tryd.prog Tryd.f107) a_s_l3Win (iOf Tryd.prog Tryd.f107) [(false,.I .i64)] [(false,.I .i64)] x =
 F_s_l3Win x:=by kernel_rfl
noncomputable def e_s_l3Win:SEnt Tryd.prog:=⟨107,[(false,.I .i64)],[(false,.I .i64)],F_s_l3Win,runs_see mixed_Pe Tryd.func107 (by kernel_rfl) h_s_l3Win⟩
noncomputable def a_s_ByteSign:An:=(.sq none .d (.sq none .d (.sq none .d (.sq (some [.lt 6 (.I .i64)]) .d .d))))
theorem h_s_ByteSign (x:Int × Int):fnX (P:=Tryd.prog) [.see e_s_l1In,.see e_s_l3Nine,.see e_s_l3Koi,.see e_s_l3Win] [] (sOf Tryd.prog Tryd.f85) a_s_ByteSign (iOf Tryd.prog
 Tryd.f85) [(false,.I .i64),(false,.I .i64)] [(false,.I .i64),(false,.B)] x = F_s_ByteSign x:=by kernel_rfl
noncomputable def e_s_ByteSign:SEnt Tryd.prog:=⟨85,[(false,.I .i64),(false,.I .i64)],[(false,.I .i64),(false,.B)],F_s_ByteSign,runs_see mixed_Pe Tryd.func85 (by
 kernel_rfl) h_s_ByteSign⟩
noncomputable def a_s_l5Sign:An:=.d
theorem h_s_l5Sign (x:((List UInt8) × Int × Int) × Int):fnG (P:=Tryd.prog) [.gen e_s_l2Sign,.gen e_s_l1Int,.see e_s_ByteSign] [(14,.el (.I .i64)),(19,.el (.I .i64))]
 (sOf Tryd.prog Tryd.f66) a_s_l5Sign (iOf Tryd.prog Tryd.f66) [⟨true,false,.P (.L .Y) (.P (.I .i64) (.I .i64)),[.rx,.rd,.rd],(some (.P (.I .i64) (.I .i64)))⟩,⟨false,false,
 .I .i64,[.rd],none⟩] [(false,.I .i64)] x = F_s_l5Sign x:=by kernel_rfl
noncomputable def e_s_l5Sign:GEnt Tryd.prog:=⟨66,[⟨true,false,.P (.L .Y) (.P (.I .i64) (.I .i64)),[.rx,.rd,.rd],(some (.P (.I .i64) (.I .i64)))⟩,⟨false,false,.I .i64,
 [.rd],none⟩],[(false,.I .i64)],F_s_l5Sign,runs_gen mixed_Pe Tryd.func66 (by kernel_rfl) h_s_l5Sign⟩
noncomputable def a_s_SignOk:An:=.d
theorem h_s_SignOk (x:Int):fnX (P:=Tryd.prog) [.see e_s_l1In] [] (sOf Tryd.prog Tryd.f86) a_s_SignOk (iOf Tryd.prog Tryd.f86) [(false,.I .i64)] [(false,.B)] x = F_s_SignOk
 x:=by kernel_rfl
noncomputable def e_s_SignOk:SEnt Tryd.prog:=⟨86,[(false,.I .i64)],[(false,.B)],F_s_SignOk,runs_see mixed_Pe Tryd.func86 (by kernel_rfl) h_s_SignOk⟩
noncomputable def a_s_PutSign:An:=.d
theorem h_s_PutSign (x:(List UInt8) × Int):fnX (P:=Tryd.prog) [.see e_s_SignOk] [(6,.el .Y),(8,.el .Y),(20,.el .Y),(21,.el .Y),(34,.el .Y),(35,.el .Y),(53,.el
 .Y),(54,.el .Y),(74,.el .Y),(75,.el .Y)] (sOf Tryd.prog Tryd.f64) a_s_PutSign (iOf Tryd.prog Tryd.f64) [(false,.L .Y),(false,.I .i64)] [(false,.L .Y)] x = F_s_PutSign x
 := by kernel_rfl
noncomputable def e_s_PutSign:SEnt Tryd.prog:=⟨64,[(false,.L .Y),(false,.I .i64)],[(false,.L .Y)],F_s_PutSign,runs_see mixed_Pe Tryd.func64 (by kernel_rfl) h_s_PutSign⟩
end Go.Vs
