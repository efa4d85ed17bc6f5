import Derived.Test.YtbbdcgglfmhhpaaGreatDoorProg
import Derived.Test.YtbbdcgglfmhhpaaGreatDoorVsPlk8
set_option linter.all false
namespace Go.Vs
open Go.Proofs
set_option maxRecDepth 100000
noncomputable def a_l_eqDev:An:=.d
theorem h_l_eqDev (x:((List (List UInt8))×(List (Int×List UInt8))×Int×Bool)×(List (List UInt8))×(List (Int×List UInt8))×Int×Bool):fnX (P:=Tryz.prog) [.see
 e_l_eqByteSS,.see e_l_eqWrS] [] (sOf Tryz.prog Tryz.f22) a_l_eqDev (iOf Tryz.prog Tryz.f22) [(true,.P (.L (.L .Y)) (.P (.L (.P (.I .i64) (.L .Y))) (.P (.I .i64) .B))),(true,
 .P (.L (.L .Y)) (.P (.L (.P (.I .i64) (.L .Y))) (.P (.I .i64) .B)))] [(false,.B)] x=Zdg x:=by kernel_rfl
noncomputable def e_l_eqDev:SEnt Tryz.prog:=⟨22,[(true,.P (.L (.L .Y)) (.P (.L (.P (.I .i64) (.L .Y))) (.P (.I .i64) .B))),(true,.P (.L (.L .Y)) (.P (.L (.P (.I .i64) (.L
 .Y))) (.P (.I .i64) .B)))],[(false,.B)],Zdg,runs_see mixed_Pl Tryz.func22 (by kernel_rfl) h_l_eqDev⟩
noncomputable def a_l_eqCell:An:=.d
theorem h_l_eqCell (x:(Int×List UInt8)×Int×List UInt8):fnX (P:=Tryz.prog) [.see e_l_eqByteS] [] (sOf Tryz.prog Tryz.f125) a_l_eqCell (iOf Tryz.prog Tryz.f125) [(true,
 .P (.I .i64) (.L .Y)),(true,.P (.I .i64) (.L .Y))] [(false,.B)] x=Zdh x:=by kernel_rfl
noncomputable def e_l_eqCell:SEnt Tryz.prog:=⟨125,[(true,.P (.I .i64) (.L .Y)),(true,.P (.I .i64) (.L .Y))],[(false,.B)],Zdh,runs_see mixed_Pl Tryz.func125 (by
 kernel_rfl) h_l_eqCell⟩
noncomputable def a_l_eqRow:An:=.d
theorem h_l_eqRow (x:((List UInt8)×(Int×List UInt8)×(Int×List UInt8)×Int×Bool)×(List UInt8)×(Int×List UInt8)×(Int×List UInt8)×Int×Bool):fnX (P :=
 Tryz.prog) [.see e_l_eqCell] [] (sOf Tryz.prog Tryz.f99) a_l_eqRow (iOf Tryz.prog Tryz.f99) [(true,.P .S (.P (.P (.I .i64) (.L .Y)) (.P (.P (.I .i64) (.L .Y)) (.P (.I .i64)
 .B)))),(true,.P .S (.P (.P (.I .i64) (.L .Y)) (.P (.P (.I .i64) (.L .Y)) (.P (.I .i64) .B))))] [(false,.B)] x=Zdi x:=by kernel_rfl
noncomputable def e_l_eqRow:SEnt Tryz.prog:=⟨99,[(true,.P .S (.P (.P (.I .i64) (.L .Y)) (.P (.P (.I .i64) (.L .Y)) (.P (.I .i64) .B)))),(true,.P .S (.P (.P (.I .i64) (.L
 .Y)) (.P (.P (.I .i64) (.L .Y)) (.P (.I .i64) .B))))],[(false,.B)],Zdi,runs_see mixed_Pl Tryz.func99 (by kernel_rfl) h_l_eqRow⟩
noncomputable def a_l_eqRowS:An:=(.sq none .d (.sq none .d (.sq none (.sq none .d (.bl (.lp [.kt 0,.kt 1,.lt 5 (.I .i64)] .d))) .d)))
theorem h_l_eqRowS (x:(List ((List UInt8)×(Int×List UInt8)×(Int×List UInt8)×Int×Bool))×List ((List UInt8)×(Int×List UInt8)×(Int×List UInt8)×Int×Bool)) :
 fnX (P:=Tryz.prog) [.see e_l_eqRow] [] (sOf Tryz.prog Tryz.f60) a_l_eqRowS (iOf Tryz.prog Tryz.f60) [(false,.L (.P .S (.P (.P (.I .i64) (.L .Y)) (.P (.P (.I .i64) (.L .Y)) (.P
 (.I .i64) .B))))),(false,.L (.P .S (.P (.P (.I .i64) (.L .Y)) (.P (.P (.I .i64) (.L .Y)) (.P (.I .i64) .B)))))] [(false,.B)] x=Zfe x:=by kernel_rfl
noncomputable def e_l_eqRowS:SEnt Tryz.prog:=⟨60,[(false,.L (.P .S (.P (.P (.I .i64) (.L .Y)) (.P (.P (.I .i64) (.L .Y)) (.P (.I .i64) .B))))),(false,.L (.P .S (.P (.P (.I
 .i64) (.L .Y)) (.P (.P (.I .i64) (.L .Y)) (.P (.I .i64) .B)))))],[(false,.B)],Zfe,runs_see mixed_Pl Tryz.func60 (by kernel_rfl) h_l_eqRowS⟩
noncomputable def a_l_eqMark:An:=.d
theorem h_l_eqMark (x:(Int×Int×Int)×Int×Int×Int):fnX (P:=Tryz.prog) [] [] (sOf Tryz.prog Tryz.f100) a_l_eqMark (iOf Tryz.prog Tryz.f100) [(true,.P (.I .i64) (.P
 (.I .i64) (.I .i64))),(true,.P (.I .i64) (.P (.I .i64) (.I .i64)))] [(false,.B)] x=Zff x:=by kernel_rfl
noncomputable def e_l_eqMark:SEnt Tryz.prog:=⟨100,[(true,.P (.I .i64) (.P (.I .i64) (.I .i64))),(true,.P (.I .i64) (.P (.I .i64) (.I .i64)))],[(false,.B)],Zff,
 runs_see mixed_Pl Tryz.func100 (by kernel_rfl) h_l_eqMark⟩
noncomputable def a_l_eqMarkS:An:=(.sq none .d (.sq none .d (.sq none (.sq none .d (.bl (.lp [.kt 0,.kt 1,.lt 5 (.I .i64)] .d))) .d)))
theorem h_l_eqMarkS (x:(List (Int×Int×Int))×List (Int×Int×Int)):fnX (P:=Tryz.prog) [.see e_l_eqMark] [] (sOf Tryz.prog Tryz.f61) a_l_eqMarkS (iOf Tryz.prog
 Tryz.f61) [(false,.L (.P (.I .i64) (.P (.I .i64) (.I .i64)))),(false,.L (.P (.I .i64) (.P (.I .i64) (.I .i64))))] [(false,.B)] x=Zfg x:=by kernel_rfl
noncomputable def e_l_eqMarkS:SEnt Tryz.prog:=⟨61,[(false,.L (.P (.I .i64) (.P (.I .i64) (.I .i64)))),(false,.L (.P (.I .i64) (.P (.I .i64) (.I .i64))))],[(false,.B)],
 Zfg,runs_see mixed_Pl Tryz.func61 (by kernel_rfl) h_l_eqMarkS⟩
noncomputable def a_l_eqTab:An:=.d
theorem h_l_eqTab (x:((List ((List UInt8)×(Int×List UInt8)×(Int×List UInt8)×Int×Bool))×Int×List (Int×Int×Int))×(List ((List UInt8)×(Int×List UInt8) ×
 (Int×List UInt8)×Int×Bool))×Int×List (Int×Int×Int)):fnX (P:=Tryz.prog) [.see e_l_eqRowS,.see e_l_eqMarkS] [] (sOf Tryz.prog Tryz.f23) a_l_eqTab (iOf Tryz.prog
 Tryz.f23) [(true,.P (.L (.P .S (.P (.P (.I .i64) (.L .Y)) (.P (.P (.I .i64) (.L .Y)) (.P (.I .i64) .B))))) (.P (.I .i64) (.L (.P (.I .i64) (.P (.I .i64) (.I .i64)))))),(true,
 .P (.L (.P .S (.P (.P (.I .i64) (.L .Y)) (.P (.P (.I .i64) (.L .Y)) (.P (.I .i64) .B))))) (.P (.I .i64) (.L (.P (.I .i64) (.P (.I .i64) (.I .i64))))))] [(false,.B)] x =
 Zdj x:=by kernel_rfl
noncomputable def e_l_eqTab:SEnt Tryz.prog:=⟨23,[(true,.P (.L (.P .S (.P (.P (.I .i64) (.L .Y)) (.P (.P (.I .i64) (.L .Y)) (.P (.I .i64) .B))))) (.P (.I .i64) (.L (.P (.I
 .i64) (.P (.I .i64) (.I .i64)))))),(true,.P (.L (.P .S (.P (.P (.I .i64) (.L .Y)) (.P (.P (.I .i64) (.L .Y)) (.P (.I .i64) .B))))) (.P (.I .i64) (.L (.P (.I .i64) (.P (.I .i64)
 (.I .i64))))))],[(false,.B)],Zdj,runs_see mixed_Pl Tryz.func23 (by kernel_rfl) h_l_eqTab⟩
noncomputable def a_l_eqStore:An:=.d
theorem h_l_eqStore (x:(((List (List UInt8))×(List (Int×List UInt8))×Int×Bool)×((List ((List UInt8)×(Int×List UInt8)×(Int×List UInt8)×Int×Bool))×Int ×
 List (Int×Int×Int))×Int×Int)×((List (List UInt8))×(List (Int×List UInt8))×Int×Bool)×((List ((List UInt8)×(Int×List UInt8)×(Int×List UInt8)×Int ×
 Bool))×Int×List (Int×Int×Int))×Int×Int):fnX (P:=Tryz.prog) [.see e_l_eqDev,.see e_l_eqTab] [] (sOf Tryz.prog Tryz.f8) a_l_eqStore (iOf Tryz.prog Tryz.f8) [(true,
 .P (.P (.L (.L .Y)) (.P (.L (.P (.I .i64) (.L .Y))) (.P (.I .i64) .B))) (.P (.P (.L (.P .S (.P (.P (.I .i64) (.L .Y)) (.P (.P (.I .i64) (.L .Y)) (.P (.I .i64) .B))))) (.P (.I
 .i64) (.L (.P (.I .i64) (.P (.I .i64) (.I .i64)))))) (.P (.I .i64) (.I .i64)))),(true,.P (.P (.L (.L .Y)) (.P (.L (.P (.I .i64) (.L .Y))) (.P (.I .i64) .B))) (.P (.P (.L (.P .S
 (.P (.P (.I .i64) (.L .Y)) (.P (.P (.I .i64) (.L .Y)) (.P (.I .i64) .B))))) (.P (.I .i64) (.L (.P (.I .i64) (.P (.I .i64) (.I .i64)))))) (.P (.I .i64) (.I .i64))))] [(false,.B)]
 x=Zo x:=by kernel_rfl
noncomputable def e_l_eqStore:SEnt Tryz.prog:=⟨8,[(true,.P (.P (.L (.L .Y)) (.P (.L (.P (.I .i64) (.L .Y))) (.P (.I .i64) .B))) (.P (.P (.L (.P .S (.P (.P (.I .i64) (.L .Y))
 (.P (.P (.I .i64) (.L .Y)) (.P (.I .i64) .B))))) (.P (.I .i64) (.L (.P (.I .i64) (.P (.I .i64) (.I .i64)))))) (.P (.I .i64) (.I .i64)))),(true,.P (.P (.L (.L .Y)) (.P (.L (.P
 (.I .i64) (.L .Y))) (.P (.I .i64) .B))) (.P (.P (.L (.P .S (.P (.P (.I .i64) (.L .Y)) (.P (.P (.I .i64) (.L .Y)) (.P (.I .i64) .B))))) (.P (.I .i64) (.L (.P (.I .i64) (.P (.I
 .i64) (.I .i64)))))) (.P (.I .i64) (.I .i64))))],[(false,.B)],Zo,runs_see mixed_Pl Tryz.func8 (by kernel_rfl) h_l_eqStore⟩
noncomputable def a_l_markByteS:An:=(.sq none .d (.sq (some [.sr 0 .Y,.lt 1 (.I .i64)]) (.sq none .d (.bl (.lp [.sr 0 .Y,.lt 1 (.I .i64),.lt 5 (.I .i64)] .d))) .d))
theorem h_l_markByteS (x:(List UInt8)×Int):fnG (P:=Tryz.prog) [] [] (sOf Tryz.prog Tryz.f101) a_l_markByteS (iOf Tryz.prog Tryz.f101) [⟨false,false,.L .Y,[.io],none⟩,
 ⟨false,false,.I .i64,[.rd],none⟩] [(false,.I .i64)] x=Zbh x:=by kernel_rfl
noncomputable def e_l_markByteS:GEnt Tryz.prog:=⟨101,[⟨false,false,.L .Y,[.io],none⟩,⟨false,false,.I .i64,[.rd],none⟩],[(false,.I .i64)],Zbh,runs_gen
 mixed_Pl Tryz.func101 (by kernel_rfl) h_l_markByteS⟩
noncomputable def a_l_markByteSS:An:=(.sq none .d (.sq (some [.sr 0 (.L .Y),.lt 1 (.I .i64)]) (.sq none .d (.bl (.lp [.sr 0 (.L .Y),.lt 1 (.I .i64),.lt 5 (.I .i64)] .d)))
 .d))
theorem h_l_markByteSS (x:(List (List UInt8))×Int):fnG (P:=Tryz.prog) [.gen e_l_markByteS] [] (sOf Tryz.prog Tryz.f62) a_l_markByteSS (iOf Tryz.prog Tryz.f62) [⟨false,
 false,.L (.L .Y),[.io],none⟩,⟨false,false,.I .i64,[.rd],none⟩] [(false,.I .i64)] x=Zdk x:=by kernel_rfl
noncomputable def e_l_markByteSS:GEnt Tryz.prog:=⟨62,[⟨false,false,.L (.L .Y),[.io],none⟩,⟨false,false,.I .i64,[.rd],none⟩],[(false,.I .i64)],Zdk,
 runs_gen mixed_Pl Tryz.func62 (by kernel_rfl) h_l_markByteSS⟩
noncomputable def a_l_markWrS:An:=(.sq none .d (.sq (some [.sr 0 (.P (.I .i64) (.L .Y)),.lt 1 (.I .i64)]) (.sq none .d (.bl (.lp [.sr 0 (.P (.I .i64) (.L .Y)),.lt 1 (.I
 .i64),.lt 5 (.I .i64)] .d))) .d))
theorem h_l_markWrS (x:(List (Int×List UInt8))×Int):fnG (P:=Tryz.prog) [.gen e_l_markByteS] [] (sOf Tryz.prog Tryz.f63) a_l_markWrS (iOf Tryz.prog Tryz.f63) [⟨false,
 false,.L (.P (.I .i64) (.L .Y)),[.io],none⟩,⟨false,false,.I .i64,[.rd],none⟩] [(false,.I .i64)] x=Zdl x:=by kernel_rfl
noncomputable def e_l_markWrS:GEnt Tryz.prog:=⟨63,[⟨false,false,.L (.P (.I .i64) (.L .Y)),[.io],none⟩,⟨false,false,.I .i64,[.rd],none⟩],[(false,.I .i64)],
 Zdl,runs_gen mixed_Pl Tryz.func63 (by kernel_rfl) h_l_markWrS⟩
noncomputable def a_l_markDev:An:=.d
theorem h_l_markDev (x:((List (List UInt8))×(List (Int×List UInt8))×Int×Bool)×Int):fnG (P:=Tryz.prog) [.gen e_l_markByteSS,.gen e_l_markWrS] [] (sOf Tryz.prog
 Tryz.f24) a_l_markDev (iOf Tryz.prog Tryz.f24) [⟨false,true,.P (.L (.L .Y)) (.P (.L (.P (.I .i64) (.L .Y))) (.P (.I .i64) .B)),[.io,.io,.rd,.rd],none⟩,⟨false,false,.I
 .i64,[.rd],none⟩] [(false,.I .i64)] x=Zdm x:=by kernel_rfl
noncomputable def e_l_markDev:GEnt Tryz.prog:=⟨24,[⟨false,true,.P (.L (.L .Y)) (.P (.L (.P (.I .i64) (.L .Y))) (.P (.I .i64) .B)),[.io,.io,.rd,.rd],none⟩,⟨false,
 false,.I .i64,[.rd],none⟩],[(false,.I .i64)],Zdm,runs_gen mixed_Pl Tryz.func24 (by kernel_rfl) h_l_markDev⟩
noncomputable def a_l_markText:An:=(.sq none .d (.sq none .d (.sq none .d (.sq (some [.lt 3 .S]) (.bl (.lp [.lt 0 (.I .i64),.lt 3 .S] .d)) .d))))
theorem h_l_markText (x:Int):fnX (P:=Tryz.prog) [] [(12,.el .Y)] (sOf Tryz.prog Tryz.f102) a_l_markText (iOf Tryz.prog Tryz.f102) [(false,.I .i64)] [(false,.S)] x =
 Zdn x:=by kernel_rfl
noncomputable def e_l_markText:SEnt Tryz.prog:=⟨102,[(false,.I .i64)],[(false,.S)],Zdn,runs_see mixed_Pl Tryz.func102 (by kernel_rfl) h_l_markText⟩
noncomputable def a_l_markRowS:An:=(.sq none .d (.sq (some [.sr 0 (.P .S (.P (.P (.I .i64) (.L .Y)) (.P (.P (.I .i64) (.L .Y)) (.P (.I .i64) .B)))),.lt 1 (.I .i64)]) (.sq none
 .d (.bl (.lp [.sr 0 (.P .S (.P (.P (.I .i64) (.L .Y)) (.P (.P (.I .i64) (.L .Y)) (.P (.I .i64) .B)))),.lt 1 (.I .i64),.lt 5 (.I .i64)] .d))) .d))
theorem h_l_markRowS (x:(List ((List UInt8)×(Int×List UInt8)×(Int×List UInt8)×Int×Bool))×Int):fnG (P:=Tryz.prog) [.see e_l_markText,.gen e_l_markByteS] [] (sOf
 Tryz.prog Tryz.f64) a_l_markRowS (iOf Tryz.prog Tryz.f64) [⟨false,false,.L (.P .S (.P (.P (.I .i64) (.L .Y)) (.P (.P (.I .i64) (.L .Y)) (.P (.I .i64) .B)))),[.io],none⟩,
 ⟨false,false,.I .i64,[.rd],none⟩] [(false,.I .i64)] x=Zdo x:=by kernel_rfl
noncomputable def e_l_markRowS:GEnt Tryz.prog:=⟨64,[⟨false,false,.L (.P .S (.P (.P (.I .i64) (.L .Y)) (.P (.P (.I .i64) (.L .Y)) (.P (.I .i64) .B)))),[.io],none⟩,⟨false,
 false,.I .i64,[.rd],none⟩],[(false,.I .i64)],Zdo,runs_gen mixed_Pl Tryz.func64 (by kernel_rfl) h_l_markRowS⟩
end Go.Vs
