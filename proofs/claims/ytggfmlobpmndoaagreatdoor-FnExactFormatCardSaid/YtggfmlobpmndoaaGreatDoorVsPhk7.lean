import Derived.Test.YtggfmlobpmndoaaGreatDoorProg
import Derived.Test.YtggfmlobpmndoaaGreatDoorVsPhk6
set_option linter.all false
namespace Go.Vs
open Go.Proofs
set_option maxRecDepth 100000
noncomputable def a_l_eqMark:An:=.d
theorem h_l_eqMark (x:(Int×Int×Int)×Int×Int×Int):fnX (P:=Tryz.prog) [] [] (sOf Tryz.prog Tryz.f189) a_l_eqMark (iOf Tryz.prog Tryz.f189) [(true,.P (.I .i64) (.P
 (.I .i64) (.I .i64))),(true,.P (.I .i64) (.P (.I .i64) (.I .i64)))] [(false,.B)] x=F_l_eqMark x:=by kernel_rfl
noncomputable def e_l_eqMark:SEnt Tryz.prog:=⟨189,[(true,.P (.I .i64) (.P (.I .i64) (.I .i64))),(true,.P (.I .i64) (.P (.I .i64) (.I .i64)))],[(false,.B)],F_l_eqMark,
 runs_see mixed_Ph Tryz.func189 (by kernel_rfl) h_l_eqMark⟩
noncomputable def a_l_eqMarkS:An:=(.sq none .d (.sq none .d (.sq none (.sq none .d (.bl (.lp [.kt 0,.kt 1,.lt 5 (.I .i64)] .d))) .d)))
theorem h_l_eqMarkS (x:(List (Int×Int×Int))×List (Int×Int×Int)):fnX (P:=Tryz.prog) [.see e_l_eqMark] [] (sOf Tryz.prog Tryz.f132) a_l_eqMarkS (iOf Tryz.prog
 Tryz.f132) [(false,.L (.P (.I .i64) (.P (.I .i64) (.I .i64)))),(false,.L (.P (.I .i64) (.P (.I .i64) (.I .i64))))] [(false,.B)] x=F_l_eqMarkS x:=by kernel_rfl
noncomputable def e_l_eqMarkS:SEnt Tryz.prog:=⟨132,[(false,.L (.P (.I .i64) (.P (.I .i64) (.I .i64)))),(false,.L (.P (.I .i64) (.P (.I .i64) (.I .i64))))],[(false,.B)],
 F_l_eqMarkS,runs_see mixed_Ph Tryz.func132 (by kernel_rfl) h_l_eqMarkS⟩
noncomputable def a_l_eqTab:An:=.d
theorem h_l_eqTab (x:((List ((List UInt8)×(Int×List UInt8)×(Int×List UInt8)×Int×Bool))×Int×List (Int×Int×Int))×(List ((List UInt8)×(Int×List UInt8) ×
 (Int×List UInt8)×Int×Bool))×Int×List (Int×Int×Int)):fnX (P:=Tryz.prog) [.see e_l_eqRowS,.see e_l_eqMarkS] [] (sOf Tryz.prog Tryz.f49) a_l_eqTab (iOf Tryz.prog
 Tryz.f49) [(true,.P (.L (.P .S (.P (.P (.I .i64) (.L .Y)) (.P (.P (.I .i64) (.L .Y)) (.P (.I .i64) .B))))) (.P (.I .i64) (.L (.P (.I .i64) (.P (.I .i64) (.I .i64)))))),(true,
 .P (.L (.P .S (.P (.P (.I .i64) (.L .Y)) (.P (.P (.I .i64) (.L .Y)) (.P (.I .i64) .B))))) (.P (.I .i64) (.L (.P (.I .i64) (.P (.I .i64) (.I .i64))))))] [(false,.B)] x =
 F_l_eqTab x:=by kernel_rfl
noncomputable def e_l_eqTab:SEnt Tryz.prog:=⟨49,[(true,.P (.L (.P .S (.P (.P (.I .i64) (.L .Y)) (.P (.P (.I .i64) (.L .Y)) (.P (.I .i64) .B))))) (.P (.I .i64) (.L (.P (.I
 .i64) (.P (.I .i64) (.I .i64)))))),(true,.P (.L (.P .S (.P (.P (.I .i64) (.L .Y)) (.P (.P (.I .i64) (.L .Y)) (.P (.I .i64) .B))))) (.P (.I .i64) (.L (.P (.I .i64) (.P (.I .i64)
 (.I .i64))))))],[(false,.B)],F_l_eqTab,runs_see mixed_Ph Tryz.func49 (by kernel_rfl) h_l_eqTab⟩
noncomputable def a_l_eqStore:An:=.d
theorem h_l_eqStore (x:(((List (List UInt8))×(List (Int×List UInt8))×Int×Bool)×((List ((List UInt8)×(Int×List UInt8)×(Int×List UInt8)×Int×Bool))×Int ×
 List (Int×Int×Int))×Int×Int)×((List (List UInt8))×(List (Int×List UInt8))×Int×Bool)×((List ((List UInt8)×(Int×List UInt8)×(Int×List UInt8)×Int ×
 Bool))×Int×List (Int×Int×Int))×Int×Int):fnX (P:=Tryz.prog) [.see e_l_eqDev,.see e_l_eqTab] [] (sOf Tryz.prog Tryz.f56) a_l_eqStore (iOf Tryz.prog Tryz.f56)
 [(true,.P (.P (.L (.L .Y)) (.P (.L (.P (.I .i64) (.L .Y))) (.P (.I .i64) .B))) (.P (.P (.L (.P .S (.P (.P (.I .i64) (.L .Y)) (.P (.P (.I .i64) (.L .Y)) (.P (.I .i64) .B))))) (.P
 (.I .i64) (.L (.P (.I .i64) (.P (.I .i64) (.I .i64)))))) (.P (.I .i64) (.I .i64)))),(true,.P (.P (.L (.L .Y)) (.P (.L (.P (.I .i64) (.L .Y))) (.P (.I .i64) .B))) (.P (.P (.L
 (.P .S (.P (.P (.I .i64) (.L .Y)) (.P (.P (.I .i64) (.L .Y)) (.P (.I .i64) .B))))) (.P (.I .i64) (.L (.P (.I .i64) (.P (.I .i64) (.I .i64)))))) (.P (.I .i64) (.I .i64))))]
 [(false,.B)] x=F_l_eqStore x:=by kernel_rfl
noncomputable def e_l_eqStore:SEnt Tryz.prog:=⟨56,[(true,.P (.P (.L (.L .Y)) (.P (.L (.P (.I .i64) (.L .Y))) (.P (.I .i64) .B))) (.P (.P (.L (.P .S (.P (.P (.I .i64) (.L .Y))
 (.P (.P (.I .i64) (.L .Y)) (.P (.I .i64) .B))))) (.P (.I .i64) (.L (.P (.I .i64) (.P (.I .i64) (.I .i64)))))) (.P (.I .i64) (.I .i64)))),(true,.P (.P (.L (.L .Y)) (.P (.L (.P
 (.I .i64) (.L .Y))) (.P (.I .i64) .B))) (.P (.P (.L (.P .S (.P (.P (.I .i64) (.L .Y)) (.P (.P (.I .i64) (.L .Y)) (.P (.I .i64) .B))))) (.P (.I .i64) (.L (.P (.I .i64) (.P (.I
 .i64) (.I .i64)))))) (.P (.I .i64) (.I .i64))))],[(false,.B)],F_l_eqStore,runs_see mixed_Ph Tryz.func56 (by kernel_rfl) h_l_eqStore⟩
noncomputable def a_l_markByteS:An:=(.sq none .d (.sq (some [.sr 0 .Y,.lt 1 (.I .i64)]) (.sq none .d (.bl (.lp [.sr 0 .Y,.lt 1 (.I .i64),.lt 5 (.I .i64)] .d))) .d))
theorem h_l_markByteS (x:(List UInt8)×Int):fnG (P:=Tryz.prog) [] [] (sOf Tryz.prog Tryz.f192) a_l_markByteS (iOf Tryz.prog Tryz.f192) [⟨false,false,.L .Y,[.io],none⟩,
 ⟨false,false,.I .i64,[.rd],none⟩] [(false,.I .i64)] x=F_l_markByteS x:=by kernel_rfl
noncomputable def e_l_markByteS:GEnt Tryz.prog:=⟨192,[⟨false,false,.L .Y,[.io],none⟩,⟨false,false,.I .i64,[.rd],none⟩],[(false,.I .i64)],F_l_markByteS,runs_gen
 mixed_Ph Tryz.func192 (by kernel_rfl) h_l_markByteS⟩
noncomputable def a_l_markByteSS:An:=(.sq none .d (.sq (some [.sr 0 (.L .Y),.lt 1 (.I .i64)]) (.sq none .d (.bl (.lp [.sr 0 (.L .Y),.lt 1 (.I .i64),.lt 5 (.I .i64)] .d)))
 .d))
theorem h_l_markByteSS (x:(List (List UInt8))×Int):fnG (P:=Tryz.prog) [.gen e_l_markByteS] [] (sOf Tryz.prog Tryz.f205) a_l_markByteSS (iOf Tryz.prog Tryz.f205) [⟨false,
 false,.L (.L .Y),[.io],none⟩,⟨false,false,.I .i64,[.rd],none⟩] [(false,.I .i64)] x=F_l_markByteSS x:=by kernel_rfl
noncomputable def e_l_markByteSS:GEnt Tryz.prog:=⟨205,[⟨false,false,.L (.L .Y),[.io],none⟩,⟨false,false,.I .i64,[.rd],none⟩],[(false,.I .i64)],F_l_markByteSS,
 runs_gen mixed_Ph Tryz.func205 (by kernel_rfl) h_l_markByteSS⟩
noncomputable def a_l_markWrS:An:=(.sq none .d (.sq (some [.sr 0 (.P (.I .i64) (.L .Y)),.lt 1 (.I .i64)]) (.sq none .d (.bl (.lp [.sr 0 (.P (.I .i64) (.L .Y)),.lt 1 (.I
 .i64),.lt 5 (.I .i64)] .d))) .d))
theorem h_l_markWrS (x:(List (Int×List UInt8))×Int):fnG (P:=Tryz.prog) [.gen e_l_markByteS] [] (sOf Tryz.prog Tryz.f206) a_l_markWrS (iOf Tryz.prog Tryz.f206) [⟨false,
 false,.L (.P (.I .i64) (.L .Y)),[.io],none⟩,⟨false,false,.I .i64,[.rd],none⟩] [(false,.I .i64)] x=F_l_markWrS x:=by kernel_rfl
noncomputable def e_l_markWrS:GEnt Tryz.prog:=⟨206,[⟨false,false,.L (.P (.I .i64) (.L .Y)),[.io],none⟩,⟨false,false,.I .i64,[.rd],none⟩],[(false,.I .i64)],
 F_l_markWrS,runs_gen mixed_Ph Tryz.func206 (by kernel_rfl) h_l_markWrS⟩
noncomputable def a_l_markDev:An:=.d
theorem h_l_markDev (x:((List (List UInt8))×(List (Int×List UInt8))×Int×Bool)×Int):fnG (P:=Tryz.prog) [.gen e_l_markByteSS,.gen e_l_markWrS] [] (sOf Tryz.prog
 Tryz.f144) a_l_markDev (iOf Tryz.prog Tryz.f144) [⟨false,true,.P (.L (.L .Y)) (.P (.L (.P (.I .i64) (.L .Y))) (.P (.I .i64) .B)),[.io,.io,.rd,.rd],none⟩,⟨false,false,.I
 .i64,[.rd],none⟩] [(false,.I .i64)] x=F_l_markDev x:=by kernel_rfl
noncomputable def e_l_markDev:GEnt Tryz.prog:=⟨144,[⟨false,true,.P (.L (.L .Y)) (.P (.L (.P (.I .i64) (.L .Y))) (.P (.I .i64) .B)),[.io,.io,.rd,.rd],none⟩,⟨false,
 false,.I .i64,[.rd],none⟩],[(false,.I .i64)],F_l_markDev,runs_gen mixed_Ph Tryz.func144 (by kernel_rfl) h_l_markDev⟩
noncomputable def a_l_markText:An:=(.sq none .d (.sq none .d (.sq none .d (.sq (some [.lt 3 .S]) (.bl (.lp [.lt 0 (.I .i64),.lt 3 .S] .d)) .d))))
theorem h_l_markText (x:Int):fnX (P:=Tryz.prog) [] [(12,.el .Y)] (sOf Tryz.prog Tryz.f191) a_l_markText (iOf Tryz.prog Tryz.f191) [(false,.I .i64)] [(false,.S)] x =
 F_l_markText x:=by kernel_rfl
noncomputable def e_l_markText:SEnt Tryz.prog:=⟨191,[(false,.I .i64)],[(false,.S)],F_l_markText,runs_see mixed_Ph Tryz.func191 (by kernel_rfl) h_l_markText⟩
noncomputable def a_l_markRowS:An:=(.sq none .d (.sq (some [.sr 0 (.P .S (.P (.P (.I .i64) (.L .Y)) (.P (.P (.I .i64) (.L .Y)) (.P (.I .i64) .B)))),.lt 1 (.I .i64)]) (.sq none
 .d (.bl (.lp [.sr 0 (.P .S (.P (.P (.I .i64) (.L .Y)) (.P (.P (.I .i64) (.L .Y)) (.P (.I .i64) .B)))),.lt 1 (.I .i64),.lt 5 (.I .i64)] .d))) .d))
theorem h_l_markRowS (x:(List ((List UInt8)×(Int×List UInt8)×(Int×List UInt8)×Int×Bool))×Int):fnG (P:=Tryz.prog) [.see e_l_markText,.gen e_l_markByteS] [] (sOf
 Tryz.prog Tryz.f134) a_l_markRowS (iOf Tryz.prog Tryz.f134) [⟨false,false,.L (.P .S (.P (.P (.I .i64) (.L .Y)) (.P (.P (.I .i64) (.L .Y)) (.P (.I .i64) .B)))),[.io],none⟩,
 ⟨false,false,.I .i64,[.rd],none⟩] [(false,.I .i64)] x=F_l_markRowS x:=by kernel_rfl
noncomputable def e_l_markRowS:GEnt Tryz.prog:=⟨134,[⟨false,false,.L (.P .S (.P (.P (.I .i64) (.L .Y)) (.P (.P (.I .i64) (.L .Y)) (.P (.I .i64) .B)))),[.io],none⟩,⟨false,
 false,.I .i64,[.rd],none⟩],[(false,.I .i64)],F_l_markRowS,runs_gen mixed_Ph Tryz.func134 (by kernel_rfl) h_l_markRowS⟩
noncomputable def a_l_markMarkS:An:=(.sq none .d (.sq (some [.sr 0 (.P (.I .i64) (.P (.I .i64) (.I .i64))),.lt 1 (.I .i64)]) (.sq none .d (.bl (.lp [.sr 0 (.P (.I .i64) (.P
 (.I .i64) (.I .i64))),.lt 1 (.I .i64),.lt 5 (.I .i64)] .d))) .d))
theorem h_l_markMarkS (x:(List (Int×Int×Int))×Int):fnG (P:=Tryz.prog) [] [] (sOf Tryz.prog Tryz.f135) a_l_markMarkS (iOf Tryz.prog Tryz.f135) [⟨false,false,.L (.P (.I
 .i64) (.P (.I .i64) (.I .i64))),[.io],none⟩,⟨false,false,.I .i64,[.rd],none⟩] [(false,.I .i64)] x=F_l_markMarkS x:=by kernel_rfl
noncomputable def e_l_markMarkS:GEnt Tryz.prog:=⟨135,[⟨false,false,.L (.P (.I .i64) (.P (.I .i64) (.I .i64))),[.io],none⟩,⟨false,false,.I .i64,[.rd],none⟩],[(false,
 .I .i64)],F_l_markMarkS,runs_gen mixed_Ph Tryz.func135 (by kernel_rfl) h_l_markMarkS⟩
noncomputable def a_l_markTab:An:=.d
theorem h_l_markTab (x:((List ((List UInt8)×(Int×List UInt8)×(Int×List UInt8)×Int×Bool))×Int×List (Int×Int×Int))×Int):fnG (P:=Tryz.prog) [.gen
 e_l_markRowS,.gen e_l_markMarkS] [] (sOf Tryz.prog Tryz.f51) a_l_markTab (iOf Tryz.prog Tryz.f51) [⟨false,true,.P (.L (.P .S (.P (.P (.I .i64) (.L .Y)) (.P (.P (.I .i64) (.L
 .Y)) (.P (.I .i64) .B))))) (.P (.I .i64) (.L (.P (.I .i64) (.P (.I .i64) (.I .i64))))),[.io,.rd,.io],none⟩,⟨false,false,.I .i64,[.rd],none⟩] [(false,.I .i64)] x =
 F_l_markTab x:=by kernel_rfl
noncomputable def e_l_markTab:GEnt Tryz.prog:=⟨51,[⟨false,true,.P (.L (.P .S (.P (.P (.I .i64) (.L .Y)) (.P (.P (.I .i64) (.L .Y)) (.P (.I .i64) .B))))) (.P (.I .i64) (.L
 (.P (.I .i64) (.P (.I .i64) (.I .i64))))),[.io,.rd,.io],none⟩,⟨false,false,.I .i64,[.rd],none⟩],[(false,.I .i64)],F_l_markTab,runs_gen mixed_Ph Tryz.func51 (by
 kernel_rfl) h_l_markTab⟩
noncomputable def a_l_markStore:An:=.d
theorem h_l_markStore (x:(((List (List UInt8))×(List (Int×List UInt8))×Int×Bool)×((List ((List UInt8)×(Int×List UInt8)×(Int×List UInt8)×Int×Bool))×Int ×
 List (Int×Int×Int))×Int×Int)×Int):fnG (P:=Tryz.prog) [.gen e_l_markDev,.gen e_l_markTab] [] (sOf Tryz.prog Tryz.f57) a_l_markStore (iOf Tryz.prog Tryz.f57)
 [⟨false,true,.P (.P (.L (.L .Y)) (.P (.L (.P (.I .i64) (.L .Y))) (.P (.I .i64) .B))) (.P (.P (.L (.P .S (.P (.P (.I .i64) (.L .Y)) (.P (.P (.I .i64) (.L .Y)) (.P (.I .i64)
 .B))))) (.P (.I .i64) (.L (.P (.I .i64) (.P (.I .i64) (.I .i64)))))) (.P (.I .i64) (.I .i64))),[.io,.io,.rd,.rd,.io,.rd,.io,.rd,.rd],none⟩,⟨false,false,.I .i64,
 [.rd],none⟩] [(false,.I .i64)] x=F_l_markStore x:=by kernel_rfl
noncomputable def e_l_markStore:GEnt Tryz.prog:=⟨57,[⟨false,true,.P (.P (.L (.L .Y)) (.P (.L (.P (.I .i64) (.L .Y))) (.P (.I .i64) .B))) (.P (.P (.L (.P .S (.P (.P (.I .i64)
 (.L .Y)) (.P (.P (.I .i64) (.L .Y)) (.P (.I .i64) .B))))) (.P (.I .i64) (.L (.P (.I .i64) (.P (.I .i64) (.I .i64)))))) (.P (.I .i64) (.I .i64))),[.io,.io,.rd,.rd,.io,.rd,
 .io,.rd,.rd],none⟩,⟨false,false,.I .i64,[.rd],none⟩],[(false,.I .i64)],F_l_markStore,runs_gen mixed_Ph Tryz.func57 (by kernel_rfl) h_l_markStore⟩
noncomputable def a_l_heldByteS:An:=(.sq none .d (.sq (some [.lt 1 (.I .i64)]) (.sq none .d (.bl (.lp [.kt 0,.lt 1 (.I .i64),.lt 5 (.I .i64)] .d))) .d))
theorem h_l_heldByteS (x:(List UInt8)×Int):fnX (P:=Tryz.prog) [] [] (sOf Tryz.prog Tryz.f194) a_l_heldByteS (iOf Tryz.prog Tryz.f194) [(false,.L .Y),(false,.I .i64)]
 [(false,.I .i64)] x=F_l_heldByteS x:=by kernel_rfl
noncomputable def e_l_heldByteS:SEnt Tryz.prog:=⟨194,[(false,.L .Y),(false,.I .i64)],[(false,.I .i64)],F_l_heldByteS,runs_see mixed_Ph Tryz.func194 (by kernel_rfl)
 h_l_heldByteS⟩
end Go.Vs
