import Derived.Test.YtbbdcgglfmhhpaaGreatDoorProg
import Derived.Test.YtbbdcgglfmhhpaaGreatDoorVsPl
set_option linter.all false
namespace Go.Vs
open Go.Proofs
set_option maxRecDepth 100000
theorem mixed_Pl:Tryz.prog.follows .mixedOrders=true:=by kernel_rfl
noncomputable def a_l_szByteS:An:=.d
theorem h_l_szByteS (x:(List UInt8)×Int):fnX (P:=Tryz.prog) [] [] (sOf Tryz.prog Tryz.f70) a_l_szByteS (iOf Tryz.prog Tryz.f70) [(false,.L .Y),(false,.I .i64)] [(false,
 .I .i64)] x=Zbv x:=by kernel_rfl
noncomputable def e_l_szByteS:SEnt Tryz.prog:=⟨70,[(false,.L .Y),(false,.I .i64)],[(false,.I .i64)],Zbv,runs_see mixed_Pl Tryz.func70 (by kernel_rfl)
 h_l_szByteS⟩
noncomputable def a_l_szByteSS:An:=(.sq none .d (.sq none .d (.sq none .d (.sq (some [.lt 1 (.I .i64)]) (.sq none .d (.bl (.lp [.kt 0,.lt 1 (.I .i64),.lt 5 (.I .i64)] .d)))
 .d))))
theorem h_l_szByteSS (x:(List (List UInt8))×Int):fnX (P:=Tryz.prog) [.see e_l_szByteS] [] (sOf Tryz.prog Tryz.f28) a_l_szByteSS (iOf Tryz.prog Tryz.f28) [(false,.L (.L
 .Y)),(false,.I .i64)] [(false,.I .i64)] x=Zfl x:=by kernel_rfl
noncomputable def e_l_szByteSS:SEnt Tryz.prog:=⟨28,[(false,.L (.L .Y)),(false,.I .i64)],[(false,.I .i64)],Zfl,runs_see mixed_Pl Tryz.func28 (by kernel_rfl)
 h_l_szByteSS⟩
noncomputable def a_l_szWr:An:=.d
theorem h_l_szWr (x:(Int×List UInt8)×Int):fnX (P:=Tryz.prog) [.see e_l_szByteS] [] (sOf Tryz.prog Tryz.f71) a_l_szWr (iOf Tryz.prog Tryz.f71) [(true,.P (.I .i64) (.L
 .Y)),(false,.I .i64)] [(false,.I .i64)] x=Zdx x:=by kernel_rfl
noncomputable def e_l_szWr:SEnt Tryz.prog:=⟨71,[(true,.P (.I .i64) (.L .Y)),(false,.I .i64)],[(false,.I .i64)],Zdx,runs_see mixed_Pl Tryz.func71 (by kernel_rfl)
 h_l_szWr⟩
noncomputable def a_l_szWrS:An:=(.sq none .d (.sq none .d (.sq none .d (.sq (some [.lt 1 (.I .i64)]) (.sq none .d (.bl (.lp [.kt 0,.lt 1 (.I .i64),.lt 5 (.I .i64)] .d)))
 .d))))
theorem h_l_szWrS (x:(List (Int×List UInt8))×Int):fnX (P:=Tryz.prog) [.see e_l_szWr] [] (sOf Tryz.prog Tryz.f29) a_l_szWrS (iOf Tryz.prog Tryz.f29) [(false,.L (.P (.I
 .i64) (.L .Y))),(false,.I .i64)] [(false,.I .i64)] x=Zfm x:=by kernel_rfl
noncomputable def e_l_szWrS:SEnt Tryz.prog:=⟨29,[(false,.L (.P (.I .i64) (.L .Y))),(false,.I .i64)],[(false,.I .i64)],Zfm,runs_see mixed_Pl Tryz.func29 (by
 kernel_rfl) h_l_szWrS⟩
noncomputable def a_l_szDev:An:=.d
theorem h_l_szDev (x:((List (List UInt8))×(List (Int×List UInt8))×Int×Bool)×Int):fnX (P:=Tryz.prog) [.see e_l_szByteSS,.see e_l_szWrS] [] (sOf Tryz.prog Tryz.f11)
 a_l_szDev (iOf Tryz.prog Tryz.f11) [(true,.P (.L (.L .Y)) (.P (.L (.P (.I .i64) (.L .Y))) (.P (.I .i64) .B))),(false,.I .i64)] [(false,.I .i64)] x=Zdy x:=by
 kernel_rfl
noncomputable def e_l_szDev:SEnt Tryz.prog:=⟨11,[(true,.P (.L (.L .Y)) (.P (.L (.P (.I .i64) (.L .Y))) (.P (.I .i64) .B))),(false,.I .i64)],[(false,.I .i64)],Zdy,
 runs_see mixed_Pl Tryz.func11 (by kernel_rfl) h_l_szDev⟩
noncomputable def a_l_szCell:An:=.d
theorem h_l_szCell (x:(Int×List UInt8)×Int):fnX (P:=Tryz.prog) [.see e_l_szByteS] [] (sOf Tryz.prog Tryz.f104) a_l_szCell (iOf Tryz.prog Tryz.f104) [(true,.P (.I .i64)
 (.L .Y)),(false,.I .i64)] [(false,.I .i64)] x=Zdz x:=by kernel_rfl
noncomputable def e_l_szCell:SEnt Tryz.prog:=⟨104,[(true,.P (.I .i64) (.L .Y)),(false,.I .i64)],[(false,.I .i64)],Zdz,runs_see mixed_Pl Tryz.func104 (by
 kernel_rfl) h_l_szCell⟩
noncomputable def a_l_szRow:An:=.d
theorem h_l_szRow (x:((List UInt8)×(Int×List UInt8)×(Int×List UInt8)×Int×Bool)×Int):fnX (P:=Tryz.prog) [.see e_l_szCell] [] (sOf Tryz.prog Tryz.f72) a_l_szRow
 (iOf Tryz.prog Tryz.f72) [(true,.P .S (.P (.P (.I .i64) (.L .Y)) (.P (.P (.I .i64) (.L .Y)) (.P (.I .i64) .B)))),(false,.I .i64)] [(false,.I .i64)] x=Zcg x:=by
 kernel_rfl
noncomputable def e_l_szRow:SEnt Tryz.prog:=⟨72,[(true,.P .S (.P (.P (.I .i64) (.L .Y)) (.P (.P (.I .i64) (.L .Y)) (.P (.I .i64) .B)))),(false,.I .i64)],[(false,.I
 .i64)],Zcg,runs_see mixed_Pl Tryz.func72 (by kernel_rfl) h_l_szRow⟩
noncomputable def a_l_szRowS:An:=(.sq none .d (.sq none .d (.sq none .d (.sq (some [.lt 1 (.I .i64)]) (.sq none .d (.bl (.lp [.kt 0,.lt 1 (.I .i64),.lt 5 (.I .i64)] .d)))
 .d))))
theorem h_l_szRowS (x:(List ((List UInt8)×(Int×List UInt8)×(Int×List UInt8)×Int×Bool))×Int):fnX (P:=Tryz.prog) [.see e_l_szRow] [] (sOf Tryz.prog Tryz.f30)
 a_l_szRowS (iOf Tryz.prog Tryz.f30) [(false,.L (.P .S (.P (.P (.I .i64) (.L .Y)) (.P (.P (.I .i64) (.L .Y)) (.P (.I .i64) .B))))),(false,.I .i64)] [(false,.I .i64)] x =
 Zea x:=by kernel_rfl
noncomputable def e_l_szRowS:SEnt Tryz.prog:=⟨30,[(false,.L (.P .S (.P (.P (.I .i64) (.L .Y)) (.P (.P (.I .i64) (.L .Y)) (.P (.I .i64) .B))))),(false,.I .i64)],[(false,.I
 .i64)],Zea,runs_see mixed_Pl Tryz.func30 (by kernel_rfl) h_l_szRowS⟩
noncomputable def a_l_szMarkS:An:=.d
theorem h_l_szMarkS (x:(List (Int×Int×Int))×Int):fnX (P:=Tryz.prog) [] [] (sOf Tryz.prog Tryz.f31) a_l_szMarkS (iOf Tryz.prog Tryz.f31) [(false,.L (.P (.I .i64) (.P
 (.I .i64) (.I .i64)))),(false,.I .i64)] [(false,.I .i64)] x=Zfn x:=by kernel_rfl
noncomputable def e_l_szMarkS:SEnt Tryz.prog:=⟨31,[(false,.L (.P (.I .i64) (.P (.I .i64) (.I .i64)))),(false,.I .i64)],[(false,.I .i64)],Zfn,runs_see mixed_Pl
 Tryz.func31 (by kernel_rfl) h_l_szMarkS⟩
noncomputable def a_l_szTab:An:=.d
theorem h_l_szTab (x:((List ((List UInt8)×(Int×List UInt8)×(Int×List UInt8)×Int×Bool))×Int×List (Int×Int×Int))×Int):fnX (P:=Tryz.prog) [.see e_l_szRowS,
 .see e_l_szMarkS] [] (sOf Tryz.prog Tryz.f12) a_l_szTab (iOf Tryz.prog Tryz.f12) [(true,.P (.L (.P .S (.P (.P (.I .i64) (.L .Y)) (.P (.P (.I .i64) (.L .Y)) (.P (.I .i64) .B)))))
 (.P (.I .i64) (.L (.P (.I .i64) (.P (.I .i64) (.I .i64)))))),(false,.I .i64)] [(false,.I .i64)] x=Zeb x:=by kernel_rfl
noncomputable def e_l_szTab:SEnt Tryz.prog:=⟨12,[(true,.P (.L (.P .S (.P (.P (.I .i64) (.L .Y)) (.P (.P (.I .i64) (.L .Y)) (.P (.I .i64) .B))))) (.P (.I .i64) (.L (.P (.I
 .i64) (.P (.I .i64) (.I .i64)))))),(false,.I .i64)],[(false,.I .i64)],Zeb,runs_see mixed_Pl Tryz.func12 (by kernel_rfl) h_l_szTab⟩
noncomputable def a_l_szStore:An:=.d
theorem h_l_szStore (x:(((List (List UInt8))×(List (Int×List UInt8))×Int×Bool)×((List ((List UInt8)×(Int×List UInt8)×(Int×List UInt8)×Int×Bool))×Int ×
 List (Int×Int×Int))×Int×Int)×Int):fnX (P:=Tryz.prog) [.see e_l_szDev,.see e_l_szTab] [] (sOf Tryz.prog Tryz.f4) a_l_szStore (iOf Tryz.prog Tryz.f4) [(true,.P (.P
 (.L (.L .Y)) (.P (.L (.P (.I .i64) (.L .Y))) (.P (.I .i64) .B))) (.P (.P (.L (.P .S (.P (.P (.I .i64) (.L .Y)) (.P (.P (.I .i64) (.L .Y)) (.P (.I .i64) .B))))) (.P (.I .i64) (.L
 (.P (.I .i64) (.P (.I .i64) (.I .i64)))))) (.P (.I .i64) (.I .i64)))),(false,.I .i64)] [(false,.I .i64)] x=Zch x:=by kernel_rfl
noncomputable def e_l_szStore:SEnt Tryz.prog:=⟨4,[(true,.P (.P (.L (.L .Y)) (.P (.L (.P (.I .i64) (.L .Y))) (.P (.I .i64) .B))) (.P (.P (.L (.P .S (.P (.P (.I .i64) (.L .Y))
 (.P (.P (.I .i64) (.L .Y)) (.P (.I .i64) .B))))) (.P (.I .i64) (.L (.P (.I .i64) (.P (.I .i64) (.I .i64)))))) (.P (.I .i64) (.I .i64)))),(false,.I .i64)],[(false,.I .i64)],
 Zch,runs_see mixed_Pl Tryz.func4 (by kernel_rfl) h_l_szStore⟩
noncomputable def a_l_toByteS:An:=(.sq none .d (.sq none .d (.sq (some [.sr 3 .Y]) (.sq none .d (.bl (.lp [.kt 0,.sr 3 .Y,.lt 4 (.I .i64)] .d))) .d)))
theorem h_l_toByteS (x:List UInt8):fnX (P:=Tryz.prog) [] [(7,.el .Y)] (sOf Tryz.prog Tryz.f83) a_l_toByteS (iOf Tryz.prog Tryz.f83) [(false,.L .Y)] [(false,.L .Y)] x =
 Zbi x:=by kernel_rfl
noncomputable def e_l_toByteS:SEnt Tryz.prog:=⟨83,[(false,.L .Y)],[(false,.L .Y)],Zbi,runs_see mixed_Pl Tryz.func83 (by kernel_rfl) h_l_toByteS⟩
noncomputable def a_l_toByteSS:An:=(.sq none .d (.sq none .d (.sq (some [.sr 3 (.L .Y)]) (.sq none .d (.bl (.lp [.kt 0,.sr 3 (.L .Y),.lt 4 (.I .i64)] .d))) .d)))
theorem h_l_toByteSS (x:List (List UInt8)):fnX (P:=Tryz.prog) [.see e_l_toByteS] [(7,.el (.L .Y))] (sOf Tryz.prog Tryz.f43) a_l_toByteSS (iOf Tryz.prog Tryz.f43) [(false,.L
 (.L .Y))] [(false,.L (.L .Y))] x=Zec x:=by kernel_rfl
noncomputable def e_l_toByteSS:SEnt Tryz.prog:=⟨43,[(false,.L (.L .Y))],[(false,.L (.L .Y))],Zec,runs_see mixed_Pl Tryz.func43 (by kernel_rfl) h_l_toByteSS⟩
noncomputable def a_l_toWr:An:=.d
theorem h_l_toWr (x:Int×List UInt8):fnX (P:=Tryz.prog) [.see e_l_toByteS] [] (sOf Tryz.prog Tryz.f84) a_l_toWr (iOf Tryz.prog Tryz.f84) [(true,.P (.I .i64) (.L .Y))]
 [(true,.P (.I .i64) (.L .Y))] x=Zed x:=by kernel_rfl
noncomputable def e_l_toWr:SEnt Tryz.prog:=⟨84,[(true,.P (.I .i64) (.L .Y))],[(true,.P (.I .i64) (.L .Y))],Zed,runs_see mixed_Pl Tryz.func84 (by kernel_rfl)
 h_l_toWr⟩
end Go.Vs
