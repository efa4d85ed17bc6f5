import Derived.Test.YtbbdcgglfmhhpaaGreatDoorProg
import Derived.Test.YtbbdcgglfmhhpaaGreatDoorVsPlk9
set_option linter.all false
namespace Go.Vs
open Go.Proofs
set_option maxRecDepth 100000
noncomputable def a_l_markMarkS:An:=(.sq none .d (.sq (some [.sr 0 (.P (.I .i64) (.P (.I .i64) (.I .i64))),.lt 1 (.I .i64)]) (.sq none .d (.bl (.lp [.sr 0 (.P (.I .i64) (.P
 (.I .i64) (.I .i64))),.lt 1 (.I .i64),.lt 5 (.I .i64)] .d))) .d))
theorem h_l_markMarkS (x:(List (Int×Int×Int))×Int):fnG (P:=Tryz.prog) [] [] (sOf Tryz.prog Tryz.f65) a_l_markMarkS (iOf Tryz.prog Tryz.f65) [⟨false,false,.L (.P (.I
 .i64) (.P (.I .i64) (.I .i64))),[.io],none⟩,⟨false,false,.I .i64,[.rd],none⟩] [(false,.I .i64)] x=Zdp x:=by kernel_rfl
noncomputable def e_l_markMarkS:GEnt Tryz.prog:=⟨65,[⟨false,false,.L (.P (.I .i64) (.P (.I .i64) (.I .i64))),[.io],none⟩,⟨false,false,.I .i64,[.rd],none⟩],[(false,
 .I .i64)],Zdp,runs_gen mixed_Pl Tryz.func65 (by kernel_rfl) h_l_markMarkS⟩
noncomputable def a_l_markTab:An:=.d
theorem h_l_markTab (x:((List ((List UInt8)×(Int×List UInt8)×(Int×List UInt8)×Int×Bool))×Int×List (Int×Int×Int))×Int):fnG (P:=Tryz.prog) [.gen
 e_l_markRowS,.gen e_l_markMarkS] [] (sOf Tryz.prog Tryz.f25) a_l_markTab (iOf Tryz.prog Tryz.f25) [⟨false,true,.P (.L (.P .S (.P (.P (.I .i64) (.L .Y)) (.P (.P (.I .i64) (.L
 .Y)) (.P (.I .i64) .B))))) (.P (.I .i64) (.L (.P (.I .i64) (.P (.I .i64) (.I .i64))))),[.io,.rd,.io],none⟩,⟨false,false,.I .i64,[.rd],none⟩] [(false,.I .i64)] x =
 Zdq x:=by kernel_rfl
noncomputable def e_l_markTab:GEnt Tryz.prog:=⟨25,[⟨false,true,.P (.L (.P .S (.P (.P (.I .i64) (.L .Y)) (.P (.P (.I .i64) (.L .Y)) (.P (.I .i64) .B))))) (.P (.I .i64) (.L
 (.P (.I .i64) (.P (.I .i64) (.I .i64))))),[.io,.rd,.io],none⟩,⟨false,false,.I .i64,[.rd],none⟩],[(false,.I .i64)],Zdq,runs_gen mixed_Pl Tryz.func25 (by
 kernel_rfl) h_l_markTab⟩
noncomputable def a_l_markStore:An:=.d
theorem h_l_markStore (x:(((List (List UInt8))×(List (Int×List UInt8))×Int×Bool)×((List ((List UInt8)×(Int×List UInt8)×(Int×List UInt8)×Int×Bool))×Int ×
 List (Int×Int×Int))×Int×Int)×Int):fnG (P:=Tryz.prog) [.gen e_l_markDev,.gen e_l_markTab] [] (sOf Tryz.prog Tryz.f9) a_l_markStore (iOf Tryz.prog Tryz.f9) [⟨false,
 true,.P (.P (.L (.L .Y)) (.P (.L (.P (.I .i64) (.L .Y))) (.P (.I .i64) .B))) (.P (.P (.L (.P .S (.P (.P (.I .i64) (.L .Y)) (.P (.P (.I .i64) (.L .Y)) (.P (.I .i64) .B))))) (.P
 (.I .i64) (.L (.P (.I .i64) (.P (.I .i64) (.I .i64)))))) (.P (.I .i64) (.I .i64))),[.io,.io,.rd,.rd,.io,.rd,.io,.rd,.rd],none⟩,⟨false,false,.I .i64,[.rd],none⟩]
 [(false,.I .i64)] x=Zbt x:=by kernel_rfl
noncomputable def e_l_markStore:GEnt Tryz.prog:=⟨9,[⟨false,true,.P (.P (.L (.L .Y)) (.P (.L (.P (.I .i64) (.L .Y))) (.P (.I .i64) .B))) (.P (.P (.L (.P .S (.P (.P (.I .i64)
 (.L .Y)) (.P (.P (.I .i64) (.L .Y)) (.P (.I .i64) .B))))) (.P (.I .i64) (.L (.P (.I .i64) (.P (.I .i64) (.I .i64)))))) (.P (.I .i64) (.I .i64))),[.io,.io,.rd,.rd,.io,.rd,
 .io,.rd,.rd],none⟩,⟨false,false,.I .i64,[.rd],none⟩],[(false,.I .i64)],Zbt,runs_gen mixed_Pl Tryz.func9 (by kernel_rfl) h_l_markStore⟩
noncomputable def a_l_heldByteS:An:=(.sq none .d (.sq (some [.lt 1 (.I .i64)]) (.sq none .d (.bl (.lp [.kt 0,.lt 1 (.I .i64),.lt 5 (.I .i64)] .d))) .d))
theorem h_l_heldByteS (x:(List UInt8)×Int):fnX (P:=Tryz.prog) [] [] (sOf Tryz.prog Tryz.f103) a_l_heldByteS (iOf Tryz.prog Tryz.f103) [(false,.L .Y),(false,.I .i64)]
 [(false,.I .i64)] x=Zbc x:=by kernel_rfl
noncomputable def e_l_heldByteS:SEnt Tryz.prog:=⟨103,[(false,.L .Y),(false,.I .i64)],[(false,.I .i64)],Zbc,runs_see mixed_Pl Tryz.func103 (by kernel_rfl)
 h_l_heldByteS⟩
noncomputable def a_l_heldByteSS:An:=(.sq none .d (.sq (some [.lt 1 (.I .i64)]) (.sq none .d (.bl (.lp [.kt 0,.lt 1 (.I .i64),.lt 5 (.I .i64)] .d))) .d))
theorem h_l_heldByteSS (x:(List (List UInt8))×Int):fnX (P:=Tryz.prog) [.see e_l_heldByteS] [] (sOf Tryz.prog Tryz.f66) a_l_heldByteSS (iOf Tryz.prog Tryz.f66) [(false,.L
 (.L .Y)),(false,.I .i64)] [(false,.I .i64)] x=Zdr x:=by kernel_rfl
noncomputable def e_l_heldByteSS:SEnt Tryz.prog:=⟨66,[(false,.L (.L .Y)),(false,.I .i64)],[(false,.I .i64)],Zdr,runs_see mixed_Pl Tryz.func66 (by kernel_rfl)
 h_l_heldByteSS⟩
noncomputable def a_l_heldWrS:An:=(.sq none .d (.sq (some [.lt 1 (.I .i64)]) (.sq none .d (.bl (.lp [.kt 0,.lt 1 (.I .i64),.lt 5 (.I .i64)] .d))) .d))
theorem h_l_heldWrS (x:(List (Int×List UInt8))×Int):fnX (P:=Tryz.prog) [.see e_l_heldByteS] [] (sOf Tryz.prog Tryz.f67) a_l_heldWrS (iOf Tryz.prog Tryz.f67) [(false,.L
 (.P (.I .i64) (.L .Y))),(false,.I .i64)] [(false,.I .i64)] x=Zds x:=by kernel_rfl
noncomputable def e_l_heldWrS:SEnt Tryz.prog:=⟨67,[(false,.L (.P (.I .i64) (.L .Y))),(false,.I .i64)],[(false,.I .i64)],Zds,runs_see mixed_Pl Tryz.func67 (by
 kernel_rfl) h_l_heldWrS⟩
noncomputable def a_l_heldDev:An:=.d
theorem h_l_heldDev (x:((List (List UInt8))×(List (Int×List UInt8))×Int×Bool)×Int):fnX (P:=Tryz.prog) [.see e_l_heldByteSS,.see e_l_heldWrS] [] (sOf Tryz.prog
 Tryz.f26) a_l_heldDev (iOf Tryz.prog Tryz.f26) [(true,.P (.L (.L .Y)) (.P (.L (.P (.I .i64) (.L .Y))) (.P (.I .i64) .B))),(false,.I .i64)] [(false,.I .i64)] x=Zdt x
 := by kernel_rfl
noncomputable def e_l_heldDev:SEnt Tryz.prog:=⟨26,[(true,.P (.L (.L .Y)) (.P (.L (.P (.I .i64) (.L .Y))) (.P (.I .i64) .B))),(false,.I .i64)],[(false,.I .i64)],
 Zdt,runs_see mixed_Pl Tryz.func26 (by kernel_rfl) h_l_heldDev⟩
noncomputable def a_l_heldRowS:An:=(.sq none .d (.sq (some [.lt 1 (.I .i64)]) (.sq none .d (.bl (.lp [.kt 0,.lt 1 (.I .i64),.lt 5 (.I .i64)] .d))) .d))
theorem h_l_heldRowS (x:(List ((List UInt8)×(Int×List UInt8)×(Int×List UInt8)×Int×Bool))×Int):fnX (P:=Tryz.prog) [.see e_l_markText,.see e_l_heldByteS] [] (sOf
 Tryz.prog Tryz.f68) a_l_heldRowS (iOf Tryz.prog Tryz.f68) [(false,.L (.P .S (.P (.P (.I .i64) (.L .Y)) (.P (.P (.I .i64) (.L .Y)) (.P (.I .i64) .B))))),(false,.I .i64)]
 [(false,.I .i64)] x=Zdu x:=by kernel_rfl
noncomputable def e_l_heldRowS:SEnt Tryz.prog:=⟨68,[(false,.L (.P .S (.P (.P (.I .i64) (.L .Y)) (.P (.P (.I .i64) (.L .Y)) (.P (.I .i64) .B))))),(false,.I .i64)],[(false,
 .I .i64)],Zdu,runs_see mixed_Pl Tryz.func68 (by kernel_rfl) h_l_heldRowS⟩
noncomputable def a_l_heldMarkS:An:=(.sq none .d (.sq (some [.lt 1 (.I .i64)]) (.sq none .d (.bl (.lp [.kt 0,.lt 1 (.I .i64),.lt 5 (.I .i64)] .d))) .d))
theorem h_l_heldMarkS (x:(List (Int×Int×Int))×Int):fnX (P:=Tryz.prog) [] [] (sOf Tryz.prog Tryz.f69) a_l_heldMarkS (iOf Tryz.prog Tryz.f69) [(false,.L (.P (.I .i64)
 (.P (.I .i64) (.I .i64)))),(false,.I .i64)] [(false,.I .i64)] x=Zdv x:=by kernel_rfl
noncomputable def e_l_heldMarkS:SEnt Tryz.prog:=⟨69,[(false,.L (.P (.I .i64) (.P (.I .i64) (.I .i64)))),(false,.I .i64)],[(false,.I .i64)],Zdv,runs_see
 mixed_Pl Tryz.func69 (by kernel_rfl) h_l_heldMarkS⟩
noncomputable def a_l_heldTab:An:=.d
theorem h_l_heldTab (x:((List ((List UInt8)×(Int×List UInt8)×(Int×List UInt8)×Int×Bool))×Int×List (Int×Int×Int))×Int):fnX (P:=Tryz.prog) [.see
 e_l_heldRowS,.see e_l_heldMarkS] [] (sOf Tryz.prog Tryz.f27) a_l_heldTab (iOf Tryz.prog Tryz.f27) [(true,.P (.L (.P .S (.P (.P (.I .i64) (.L .Y)) (.P (.P (.I .i64) (.L .Y)) (.P
 (.I .i64) .B))))) (.P (.I .i64) (.L (.P (.I .i64) (.P (.I .i64) (.I .i64)))))),(false,.I .i64)] [(false,.I .i64)] x=Zdw x:=by kernel_rfl
noncomputable def e_l_heldTab:SEnt Tryz.prog:=⟨27,[(true,.P (.L (.P .S (.P (.P (.I .i64) (.L .Y)) (.P (.P (.I .i64) (.L .Y)) (.P (.I .i64) .B))))) (.P (.I .i64) (.L (.P (.I
 .i64) (.P (.I .i64) (.I .i64)))))),(false,.I .i64)],[(false,.I .i64)],Zdw,runs_see mixed_Pl Tryz.func27 (by kernel_rfl) h_l_heldTab⟩
noncomputable def a_l_heldStore:An:=.d
theorem h_l_heldStore (x:(((List (List UInt8))×(List (Int×List UInt8))×Int×Bool)×((List ((List UInt8)×(Int×List UInt8)×(Int×List UInt8)×Int×Bool))×Int ×
 List (Int×Int×Int))×Int×Int)×Int):fnX (P:=Tryz.prog) [.see e_l_heldDev,.see e_l_heldTab] [] (sOf Tryz.prog Tryz.f10) a_l_heldStore (iOf Tryz.prog Tryz.f10) [(true,
 .P (.P (.L (.L .Y)) (.P (.L (.P (.I .i64) (.L .Y))) (.P (.I .i64) .B))) (.P (.P (.L (.P .S (.P (.P (.I .i64) (.L .Y)) (.P (.P (.I .i64) (.L .Y)) (.P (.I .i64) .B))))) (.P (.I
 .i64) (.L (.P (.I .i64) (.P (.I .i64) (.I .i64)))))) (.P (.I .i64) (.I .i64)))),(false,.I .i64)] [(false,.I .i64)] x=Zbu x:=by kernel_rfl
noncomputable def e_l_heldStore:SEnt Tryz.prog:=⟨10,[(true,.P (.P (.L (.L .Y)) (.P (.L (.P (.I .i64) (.L .Y))) (.P (.I .i64) .B))) (.P (.P (.L (.P .S (.P (.P (.I .i64) (.L
 .Y)) (.P (.P (.I .i64) (.L .Y)) (.P (.I .i64) .B))))) (.P (.I .i64) (.L (.P (.I .i64) (.P (.I .i64) (.I .i64)))))) (.P (.I .i64) (.I .i64)))),(false,.I .i64)],[(false,.I
 .i64)],Zbu,runs_see mixed_Pl Tryz.func10 (by kernel_rfl) h_l_heldStore⟩
noncomputable def a_l_FnExactLay:An:=.d
theorem h_l_FnExactLay (x:((List (List UInt8))×(List (Int×List UInt8))×Int×Bool)×((List ((List UInt8)×(Int×List UInt8)×(Int×List UInt8)×Int×Bool))×Int ×
 List (Int×Int×Int))×Int×Int):fnX (P:=Tryz.prog) [.see e_l_szStore,.see e_l_toStore,.see e_s_Lay,.see e_i_Lay,.see e_l_eqStore,.gen e_l_markStore,.see
 e_l_heldStore] [] (sOf Tryz.prog Tryz.f3) a_l_FnExactLay (iOf Tryz.prog Tryz.f3) [(true,.P (.P (.L (.L .Y)) (.P (.L (.P (.I .i64) (.L .Y))) (.P (.I .i64) .B))) (.P (.P (.L (.P
 .S (.P (.P (.I .i64) (.L .Y)) (.P (.P (.I .i64) (.L .Y)) (.P (.I .i64) .B))))) (.P (.I .i64) (.L (.P (.I .i64) (.P (.I .i64) (.I .i64)))))) (.P (.I .i64) (.I .i64))))] [(false,
 .B)] x=Zgq x:=by kernel_rfl
noncomputable def e_l_FnExactLay:SEnt Tryz.prog:=⟨3,[(true,.P (.P (.L (.L .Y)) (.P (.L (.P (.I .i64) (.L .Y))) (.P (.I .i64) .B))) (.P (.P (.L (.P .S (.P (.P (.I .i64) (.L
 .Y)) (.P (.P (.I .i64) (.L .Y)) (.P (.I .i64) .B))))) (.P (.I .i64) (.L (.P (.I .i64) (.P (.I .i64) (.I .i64)))))) (.P (.I .i64) (.I .i64))))],[(false,.B)],Zgq,
 runs_see mixed_Pl Tryz.func3 (by kernel_rfl) h_l_FnExactLay⟩
end Go.Vs
