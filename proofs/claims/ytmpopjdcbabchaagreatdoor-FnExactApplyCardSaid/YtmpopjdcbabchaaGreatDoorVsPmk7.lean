import Derived.Test.YtmpopjdcbabchaaGreatDoorProg
import Derived.Test.YtmpopjdcbabchaaGreatDoorVsPmk6
set_option linter.all false
namespace Go.Vs
open Go.Proofs
set_option maxRecDepth 100000
noncomputable def a_l_markMarkS:An:=(.sq none .d (.sq (some [.sr 0 (.P (.I .i64) (.P (.I .i64) (.I .i64))),.lt 1 (.I .i64)]) (.sq none .d (.bl (.lp [.sr 0 (.P (.I .i64) (.P
 (.I .i64) (.I .i64))),.lt 1 (.I .i64),.lt 5 (.I .i64)] .d))) .d))
theorem h_l_markMarkS (x:(List (Int×Int×Int))×Int):fnG (P:=Tryz.prog) [] [] (sOf Tryz.prog Tryz.f72) a_l_markMarkS (iOf Tryz.prog Tryz.f72) [⟨false,false,.L (.P (.I
 .i64) (.P (.I .i64) (.I .i64))),[.io],none⟩,⟨false,false,.I .i64,[.rd],none⟩] [(false,.I .i64)] x=Zds x:=by kernel_rfl
noncomputable def e_l_markMarkS:GEnt Tryz.prog:=⟨72,[⟨false,false,.L (.P (.I .i64) (.P (.I .i64) (.I .i64))),[.io],none⟩,⟨false,false,.I .i64,[.rd],none⟩],[(false,
 .I .i64)],Zds,runs_gen mixed_Pm Tryz.func72 (by kernel_rfl) h_l_markMarkS⟩
noncomputable def a_l_markTab:An:=.d
theorem h_l_markTab (x:((List ((List UInt8)×(Int×List UInt8)×(Int×List UInt8)×Int×Bool))×Int×List (Int×Int×Int))×Int):fnG (P:=Tryz.prog) [.gen
 e_l_markRowS,.gen e_l_markMarkS] [] (sOf Tryz.prog Tryz.f25) a_l_markTab (iOf Tryz.prog Tryz.f25) [⟨false,true,.P (.L (.P .S (.P (.P (.I .i64) (.L .Y)) (.P (.P (.I .i64) (.L
 .Y)) (.P (.I .i64) .B))))) (.P (.I .i64) (.L (.P (.I .i64) (.P (.I .i64) (.I .i64))))),[.io,.rd,.io],none⟩,⟨false,false,.I .i64,[.rd],none⟩] [(false,.I .i64)] x =
 Zk x:=by kernel_rfl
noncomputable def e_l_markTab:GEnt Tryz.prog:=⟨25,[⟨false,true,.P (.L (.P .S (.P (.P (.I .i64) (.L .Y)) (.P (.P (.I .i64) (.L .Y)) (.P (.I .i64) .B))))) (.P (.I .i64) (.L
 (.P (.I .i64) (.P (.I .i64) (.I .i64))))),[.io,.rd,.io],none⟩,⟨false,false,.I .i64,[.rd],none⟩],[(false,.I .i64)],Zk,runs_gen mixed_Pm Tryz.func25 (by
 kernel_rfl) h_l_markTab⟩
noncomputable def a_l_markCell:An:=.d
theorem h_l_markCell (x:(Int×List UInt8)×Int):fnG (P:=Tryz.prog) [.gen e_l_markByteS] [] (sOf Tryz.prog Tryz.f102) a_l_markCell (iOf Tryz.prog Tryz.f102) [⟨false,true,
 .P (.I .i64) (.L .Y),[.rd,.io],none⟩,⟨false,false,.I .i64,[.rd],none⟩] [(false,.I .i64)] x=Zbj x:=by kernel_rfl
noncomputable def e_l_markCell:GEnt Tryz.prog:=⟨102,[⟨false,true,.P (.I .i64) (.L .Y),[.rd,.io],none⟩,⟨false,false,.I .i64,[.rd],none⟩],[(false,.I .i64)],
 Zbj,runs_gen mixed_Pm Tryz.func102 (by kernel_rfl) h_l_markCell⟩
noncomputable def a_l_markRow:An:=.d
theorem h_l_markRow (x:((List UInt8)×(Int×List UInt8)×(Int×List UInt8)×Int×Bool)×Int):fnG (P:=Tryz.prog) [.gen e_l_markCell] [] (sOf Tryz.prog Tryz.f73)
 a_l_markRow (iOf Tryz.prog Tryz.f73) [⟨false,true,.P .S (.P (.P (.I .i64) (.L .Y)) (.P (.P (.I .i64) (.L .Y)) (.P (.I .i64) .B))),[.rd,.rd,.io,.rd,.io,.rd,.rd],none⟩,
 ⟨false,false,.I .i64,[.rd],none⟩] [(false,.I .i64)] x=Zcm x:=by kernel_rfl
noncomputable def e_l_markRow:GEnt Tryz.prog:=⟨73,[⟨false,true,.P .S (.P (.P (.I .i64) (.L .Y)) (.P (.P (.I .i64) (.L .Y)) (.P (.I .i64) .B))),[.rd,.rd,.io,.rd,.io,
 .rd,.rd],none⟩,⟨false,false,.I .i64,[.rd],none⟩],[(false,.I .i64)],Zcm,runs_gen mixed_Pm Tryz.func73 (by kernel_rfl) h_l_markRow⟩
noncomputable def a_l_markRec:An:=.d
theorem h_l_markRec (x:(Int×((List UInt8)×(Int×List UInt8)×(Int×List UInt8)×Int×Bool)×(List UInt8)×Int×Int×Int×Int)×Int):fnG (P:=Tryz.prog) [.gen
 e_l_markRow] [] (sOf Tryz.prog Tryz.f26) a_l_markRec (iOf Tryz.prog Tryz.f26) [⟨false,true,.P (.I .i64) (.P (.P .S (.P (.P (.I .i64) (.L .Y)) (.P (.P (.I .i64) (.L .Y)) (.P (.I
 .i64) .B)))) (.P .S (.P (.I .i64) (.P (.I .i64) (.P (.I .i64) (.I .i64)))))),[.rd,.rd,.rd,.io,.rd,.io,.rd,.rd,.rd,.rd,.rd,.rd,.rd],none⟩,⟨false,false,.I .i64,
 [.rd],none⟩] [(false,.I .i64)] x=Zr x:=by kernel_rfl
noncomputable def e_l_markRec:GEnt Tryz.prog:=⟨26,[⟨false,true,.P (.I .i64) (.P (.P .S (.P (.P (.I .i64) (.L .Y)) (.P (.P (.I .i64) (.L .Y)) (.P (.I .i64) .B)))) (.P .S (.P
 (.I .i64) (.P (.I .i64) (.P (.I .i64) (.I .i64)))))),[.rd,.rd,.rd,.io,.rd,.io,.rd,.rd,.rd,.rd,.rd,.rd,.rd],none⟩,⟨false,false,.I .i64,[.rd],none⟩],[(false,.I
 .i64)],Zr,runs_gen mixed_Pm Tryz.func26 (by kernel_rfl) h_l_markRec⟩
noncomputable def a_l_heldByteS:An:=(.sq none .d (.sq (some [.lt 1 (.I .i64)]) (.sq none .d (.bl (.lp [.kt 0,.lt 1 (.I .i64),.lt 5 (.I .i64)] .d))) .d))
theorem h_l_heldByteS (x:(List UInt8)×Int):fnX (P:=Tryz.prog) [] [] (sOf Tryz.prog Tryz.f103) a_l_heldByteS (iOf Tryz.prog Tryz.f103) [(false,.L .Y),(false,.I .i64)]
 [(false,.I .i64)] x=Zbu x:=by kernel_rfl
noncomputable def e_l_heldByteS:SEnt Tryz.prog:=⟨103,[(false,.L .Y),(false,.I .i64)],[(false,.I .i64)],Zbu,runs_see mixed_Pm Tryz.func103 (by kernel_rfl)
 h_l_heldByteS⟩
noncomputable def a_l_heldRowS:An:=(.sq none .d (.sq (some [.lt 1 (.I .i64)]) (.sq none .d (.bl (.lp [.kt 0,.lt 1 (.I .i64),.lt 5 (.I .i64)] .d))) .d))
theorem h_l_heldRowS (x:(List ((List UInt8)×(Int×List UInt8)×(Int×List UInt8)×Int×Bool))×Int):fnX (P:=Tryz.prog) [.see e_l_markText,.see e_l_heldByteS] [] (sOf
 Tryz.prog Tryz.f74) a_l_heldRowS (iOf Tryz.prog Tryz.f74) [(false,.L (.P .S (.P (.P (.I .i64) (.L .Y)) (.P (.P (.I .i64) (.L .Y)) (.P (.I .i64) .B))))),(false,.I .i64)]
 [(false,.I .i64)] x=Zdt x:=by kernel_rfl
noncomputable def e_l_heldRowS:SEnt Tryz.prog:=⟨74,[(false,.L (.P .S (.P (.P (.I .i64) (.L .Y)) (.P (.P (.I .i64) (.L .Y)) (.P (.I .i64) .B))))),(false,.I .i64)],[(false,
 .I .i64)],Zdt,runs_see mixed_Pm Tryz.func74 (by kernel_rfl) h_l_heldRowS⟩
noncomputable def a_l_heldMarkS:An:=(.sq none .d (.sq (some [.lt 1 (.I .i64)]) (.sq none .d (.bl (.lp [.kt 0,.lt 1 (.I .i64),.lt 5 (.I .i64)] .d))) .d))
theorem h_l_heldMarkS (x:(List (Int×Int×Int))×Int):fnX (P:=Tryz.prog) [] [] (sOf Tryz.prog Tryz.f75) a_l_heldMarkS (iOf Tryz.prog Tryz.f75) [(false,.L (.P (.I .i64)
 (.P (.I .i64) (.I .i64)))),(false,.I .i64)] [(false,.I .i64)] x=Zdu x:=by kernel_rfl
noncomputable def e_l_heldMarkS:SEnt Tryz.prog:=⟨75,[(false,.L (.P (.I .i64) (.P (.I .i64) (.I .i64)))),(false,.I .i64)],[(false,.I .i64)],Zdu,runs_see
 mixed_Pm Tryz.func75 (by kernel_rfl) h_l_heldMarkS⟩
noncomputable def a_l_heldTab:An:=.d
theorem h_l_heldTab (x:((List ((List UInt8)×(Int×List UInt8)×(Int×List UInt8)×Int×Bool))×Int×List (Int×Int×Int))×Int):fnX (P:=Tryz.prog) [.see
 e_l_heldRowS,.see e_l_heldMarkS] [] (sOf Tryz.prog Tryz.f27) a_l_heldTab (iOf Tryz.prog Tryz.f27) [(true,.P (.L (.P .S (.P (.P (.I .i64) (.L .Y)) (.P (.P (.I .i64) (.L .Y)) (.P
 (.I .i64) .B))))) (.P (.I .i64) (.L (.P (.I .i64) (.P (.I .i64) (.I .i64)))))),(false,.I .i64)] [(false,.I .i64)] x=Zf x:=by kernel_rfl
noncomputable def e_l_heldTab:SEnt Tryz.prog:=⟨27,[(true,.P (.L (.P .S (.P (.P (.I .i64) (.L .Y)) (.P (.P (.I .i64) (.L .Y)) (.P (.I .i64) .B))))) (.P (.I .i64) (.L (.P (.I
 .i64) (.P (.I .i64) (.I .i64)))))),(false,.I .i64)],[(false,.I .i64)],Zf,runs_see mixed_Pm Tryz.func27 (by kernel_rfl) h_l_heldTab⟩
noncomputable def a_l_FnExactApply:An:=.d
theorem h_l_FnExactApply (x:((List ((List UInt8)×(Int×List UInt8)×(Int×List UInt8)×Int×Bool))×Int×List (Int×Int×Int))×Int×((List UInt8)×(Int×List
 UInt8)×(Int×List UInt8)×Int×Bool)×(List UInt8)×Int×Int×Int×Int):fnX (P:=Tryz.prog) [.see e_l_szTab,.see e_l_szRec,.see e_l_toTab,.see e_l_toRec,.see
 e_s_Apply,.see e_i_Apply,.see e_l_eqTab,.see e_l_eqRec,.gen e_l_markTab,.gen e_l_markRec,.see e_l_heldTab] [] (sOf Tryz.prog Tryz.f5) a_l_FnExactApply (iOf Tryz.prog
 Tryz.f5) [(true,.P (.L (.P .S (.P (.P (.I .i64) (.L .Y)) (.P (.P (.I .i64) (.L .Y)) (.P (.I .i64) .B))))) (.P (.I .i64) (.L (.P (.I .i64) (.P (.I .i64) (.I .i64)))))),(true,.P
 (.I .i64) (.P (.P .S (.P (.P (.I .i64) (.L .Y)) (.P (.P (.I .i64) (.L .Y)) (.P (.I .i64) .B)))) (.P .S (.P (.I .i64) (.P (.I .i64) (.P (.I .i64) (.I .i64)))))))] [(false,.B)] x
 = Zeo x:=by kernel_rfl
noncomputable def e_l_FnExactApply:SEnt Tryz.prog:=⟨5,[(true,.P (.L (.P .S (.P (.P (.I .i64) (.L .Y)) (.P (.P (.I .i64) (.L .Y)) (.P (.I .i64) .B))))) (.P (.I .i64) (.L (.P
 (.I .i64) (.P (.I .i64) (.I .i64)))))),(true,.P (.I .i64) (.P (.P .S (.P (.P (.I .i64) (.L .Y)) (.P (.P (.I .i64) (.L .Y)) (.P (.I .i64) .B)))) (.P .S (.P (.I .i64) (.P (.I
 .i64) (.P (.I .i64) (.I .i64)))))))],[(false,.B)],Zeo,runs_see mixed_Pm Tryz.func5 (by kernel_rfl) h_l_FnExactApply⟩
end Go.Vs
