import Derived.Test.YtggfmlobpmndoaaGreatDoorProg
import Derived.Test.YtggfmlobpmndoaaGreatDoorVsPg
set_option linter.all false
namespace Go.Vs
open Go.Proofs
set_option maxRecDepth 100000
theorem mixed_Pg:Tryz.prog.follows .mixedOrders=true:=by kernel_rfl
noncomputable def a_l_big:An:=.d
theorem h_l_big (x:List UInt8):fnX (P:=Tryz.prog) [] [] (sOf Tryz.prog Tryz.f11) a_l_big (iOf Tryz.prog Tryz.f11) [(false,.L .Y)] [(false,.B)] x=F_l_big x:=by
 kernel_rfl
noncomputable def e_l_big:SEnt Tryz.prog:=⟨11,[(false,.L .Y)],[(false,.B)],F_l_big,runs_see mixed_Pg Tryz.func11 (by kernel_rfl) h_l_big⟩
noncomputable def a_s_l1New:An:=(.sq none .d (.sq none .d (.sq (some [.kt 0,.lt 3 (.I .i64)]) (.sq none .d (.bl (.lp [.kt 0,.lt 3 (.I .i64),.lt 4 (.I .i64)] .d))) .d)))
theorem h_s_l1New (x:List UInt8):fnC (P:=Tryz.prog) [] [] (sOf Tryz.prog Tryz.f78) a_s_l1New (iOf Tryz.prog Tryz.f78) x=F_s_l1New x:=by kernel_rfl
noncomputable def e_s_l1New:CEnt Tryz.prog:=⟨78,F_s_l1New,makes_cur mixed_Pg Tryz.func78 (by kernel_rfl) h_s_l1New⟩
noncomputable def a_s_l1Byte:An:=(.sq none .d (.sq none .d (.sq none .d (.sq (some [.bx 0 [.K,.L (.I .i64),.K],.lt 3 (.I .i64)]) .d .d))))
theorem h_s_l1Byte (x:(List UInt8)×Int×Int):fnG (P:=Tryz.prog) [] [] (sOf Tryz.prog Tryz.f167) a_s_l1Byte (iOf Tryz.prog Tryz.f167) [⟨true,false,.P (.L .Y) (.P (.I
 .i64) (.I .i64)),[.rx,.rd,.rd],(some (.P (.I .i64) (.I .i64)))⟩] [(false,.I .i64)] x=F_s_l1Byte x:=by kernel_rfl
noncomputable def e_s_l1Byte:GEnt Tryz.prog:=⟨167,[⟨true,false,.P (.L .Y) (.P (.I .i64) (.I .i64)),[.rx,.rd,.rd],(some (.P (.I .i64) (.I .i64)))⟩],[(false,.I .i64)],
 F_s_l1Byte,runs_gen mixed_Pg Tryz.func167 (by kernel_rfl) h_s_l1Byte⟩
noncomputable def a_s_l1Below:An:=.d
theorem h_s_l1Below (x:((List UInt8)×Int×Int)×Int):fnG (P:=Tryz.prog) [.gen e_s_l1Byte] [] (sOf Tryz.prog Tryz.f80) a_s_l1Below (iOf Tryz.prog Tryz.f80) [⟨true,false,
 .P (.L .Y) (.P (.I .i64) (.I .i64)),[.rx,.rd,.rd],(some (.P (.I .i64) (.I .i64)))⟩,⟨false,false,.I .i64,[.rd],none⟩] [(false,.I .i64)] x=F_s_l1Below x:=by
 kernel_rfl
noncomputable def e_s_l1Below:GEnt Tryz.prog:=⟨80,[⟨true,false,.P (.L .Y) (.P (.I .i64) (.I .i64)),[.rx,.rd,.rd],(some (.P (.I .i64) (.I .i64)))⟩,⟨false,false,.I
 .i64,[.rd],none⟩],[(false,.I .i64)],F_s_l1Below,runs_gen mixed_Pg Tryz.func80 (by kernel_rfl) h_s_l1Below⟩
noncomputable def a_s_l3Cs:An:=.d
theorem h_s_l3Cs (x:(List UInt8)×Int×Int):fnG (P:=Tryz.prog) [.gen e_s_l1Below] [] (sOf Tryz.prog Tryz.f173) a_s_l3Cs (iOf Tryz.prog Tryz.f173) [⟨true,false,.P (.L .Y)
 (.P (.I .i64) (.I .i64)),[.rx,.rd,.rd],(some (.P (.I .i64) (.I .i64)))⟩] [(false,.I .i64)] x=F_s_l3Cs x:=by kernel_rfl
noncomputable def e_s_l3Cs:GEnt Tryz.prog:=⟨173,[⟨true,false,.P (.L .Y) (.P (.I .i64) (.I .i64)),[.rx,.rd,.rd],(some (.P (.I .i64) (.I .i64)))⟩],[(false,.I .i64)],
 F_s_l3Cs,runs_gen mixed_Pg Tryz.func173 (by kernel_rfl) h_s_l3Cs⟩
noncomputable def a_s_l1Str:An:=.d
theorem h_s_l1Str (x:((List UInt8)×Int×Int)×List (List UInt8)):fnG (P:=Tryz.prog) [.gen e_s_l1Below] [] (sOf Tryz.prog Tryz.f214) a_s_l1Str (iOf Tryz.prog Tryz.f214)
 [⟨true,false,.P (.L .Y) (.P (.I .i64) (.I .i64)),[.rx,.rd,.rd],(some (.P (.I .i64) (.I .i64)))⟩,⟨false,false,.L .S,[.rd],none⟩] [(false,.S)] x=F_s_l1Str x:=by
 kernel_rfl
noncomputable def e_s_l1Str:GEnt Tryz.prog:=⟨214,[⟨true,false,.P (.L .Y) (.P (.I .i64) (.I .i64)),[.rx,.rd,.rd],(some (.P (.I .i64) (.I .i64)))⟩,⟨false,false,.L .S,
 [.rd],none⟩],[(false,.S)],F_s_l1Str,runs_gen mixed_Pg Tryz.func214 (by kernel_rfl) h_s_l1Str⟩
noncomputable def a_s_l1Name:An:=.d
theorem h_s_l1Name (x:(List UInt8)×Int×Int):fnG (P:=Tryz.prog) [.gen e_s_l1Str] [(4,.el .S)] (sOf Tryz.prog Tryz.f165) a_s_l1Name (iOf Tryz.prog Tryz.f165) [⟨true,
 false,.P (.L .Y) (.P (.I .i64) (.I .i64)),[.rx,.rd,.rd],(some (.P (.I .i64) (.I .i64)))⟩] [(false,.S)] x=F_s_l1Name x:=by kernel_rfl
noncomputable def e_s_l1Name:GEnt Tryz.prog:=⟨165,[⟨true,false,.P (.L .Y) (.P (.I .i64) (.I .i64)),[.rx,.rd,.rd],(some (.P (.I .i64) (.I .i64)))⟩],[(false,.S)],
 F_s_l1Name,runs_gen mixed_Pg Tryz.func165 (by kernel_rfl) h_s_l1Name⟩
noncomputable def a_s_l1Int:An:=.d
theorem h_s_l1Int (x:((List UInt8)×Int×Int)×List Int):fnG (P:=Tryz.prog) [.gen e_s_l1Below] [] (sOf Tryz.prog Tryz.f146) a_s_l1Int (iOf Tryz.prog Tryz.f146) [⟨true,
 false,.P (.L .Y) (.P (.I .i64) (.I .i64)),[.rx,.rd,.rd],(some (.P (.I .i64) (.I .i64)))⟩,⟨false,false,.L (.I .i64),[.rd],none⟩] [(false,.I .i64)] x=F_s_l1Int x:=by
 kernel_rfl
noncomputable def e_s_l1Int:GEnt Tryz.prog:=⟨146,[⟨true,false,.P (.L .Y) (.P (.I .i64) (.I .i64)),[.rx,.rd,.rd],(some (.P (.I .i64) (.I .i64)))⟩,⟨false,false,.L (.I
 .i64),[.rd],none⟩],[(false,.I .i64)],F_s_l1Int,runs_gen mixed_Pg Tryz.func146 (by kernel_rfl) h_s_l1Int⟩
noncomputable def a_s_l2Sign:An:=.d
theorem h_s_l2Sign (x:(List UInt8)×Int×Int):fnG (P:=Tryz.prog) [.gen e_s_l1Int] [(4,.el (.I .i64))] (sOf Tryz.prog Tryz.f234) a_s_l2Sign (iOf Tryz.prog Tryz.f234)
 [⟨true,false,.P (.L .Y) (.P (.I .i64) (.I .i64)),[.rx,.rd,.rd],(some (.P (.I .i64) (.I .i64)))⟩] [(false,.I .i64)] x=F_s_l2Sign x:=by kernel_rfl
noncomputable def e_s_l2Sign:GEnt Tryz.prog:=⟨234,[⟨true,false,.P (.L .Y) (.P (.I .i64) (.I .i64)),[.rx,.rd,.rd],(some (.P (.I .i64) (.I .i64)))⟩],[(false,.I .i64)],
 F_s_l2Sign,runs_gen mixed_Pg Tryz.func234 (by kernel_rfl) h_s_l2Sign⟩
noncomputable def a_s_l1In:An:=.d
theorem h_s_l1In (x:Int×Int×Int):fnX (P:=Tryz.prog) [] [] (sOf Tryz.prog Tryz.f105) a_s_l1In (iOf Tryz.prog Tryz.f105) [(false,.I .i64),(false,.I .i64),(false,.I
 .i64)] [(false,.B)] x=F_s_l1In x:=by kernel_rfl
noncomputable def e_s_l1In:SEnt Tryz.prog:=⟨105,[(false,.I .i64),(false,.I .i64),(false,.I .i64)],[(false,.B)],F_s_l1In,runs_see mixed_Pg Tryz.func105 (by kernel_rfl)
 h_s_l1In⟩
noncomputable def a_s_l3Nine:An:=.d
theorem h_s_l3Nine (x:Int):fnX (P:=Tryz.prog) [] [] (sOf Tryz.prog Tryz.f247) a_s_l3Nine (iOf Tryz.prog Tryz.f247) [(false,.I .i64)] [(false,.I .i64)] x=F_s_l3Nine x :=
 by kernel_rfl
noncomputable def e_s_l3Nine:SEnt Tryz.prog:=⟨247,[(false,.I .i64)],[(false,.I .i64)],F_s_l3Nine,runs_see mixed_Pg Tryz.func247 (by kernel_rfl) h_s_l3Nine⟩
noncomputable def a_s_l3Koi:An:=.d
theorem h_s_l3Koi (x:Int):fnX (P:=Tryz.prog) [] [(4,.el (.I .i64))] (sOf Tryz.prog Tryz.f248) a_s_l3Koi (iOf Tryz.prog Tryz.f248) [(false,.I .i64)] [(false,.I .i64)] x =
 F_s_l3Koi x:=by kernel_rfl
noncomputable def e_s_l3Koi:SEnt Tryz.prog:=⟨248,[(false,.I .i64)],[(false,.I .i64)],F_s_l3Koi,runs_see mixed_Pg Tryz.func248 (by kernel_rfl) h_s_l3Koi⟩
noncomputable def a_s_l3Win:An:=.d
theorem h_s_l3Win (x:Int):fnX (P:=Tryz.prog) [] [(4,.el (.I .i64))] (sOf Tryz.prog Tryz.f249) a_s_l3Win (iOf Tryz.prog Tryz.f249) [(false,.I .i64)] [(false,.I .i64)] x =
 F_s_l3Win x:=by kernel_rfl
noncomputable def e_s_l3Win:SEnt Tryz.prog:=⟨249,[(false,.I .i64)],[(false,.I .i64)],F_s_l3Win,runs_see mixed_Pg Tryz.func249 (by kernel_rfl) h_s_l3Win⟩
end Go.Vs
