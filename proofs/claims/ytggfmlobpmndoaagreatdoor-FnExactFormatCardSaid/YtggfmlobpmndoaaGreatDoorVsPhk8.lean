import Derived.Test.YtggfmlobpmndoaaGreatDoorProg
import Derived.Test.YtggfmlobpmndoaaGreatDoorVsPhk7
set_option linter.all false
namespace Go.Vs
open Go.Proofs
set_option maxRecDepth 100000
noncomputable def a_l_heldByteSS:An:=(.sq none .d (.sq (some [.lt 1 (.I .i64)]) (.sq none .d (.bl (.lp [.kt 0,.lt 1 (.I .i64),.lt 5 (.I .i64)] .d))) .d))
theorem h_l_heldByteSS (x:(List (List UInt8))×Int):fnX (P:=Tryz.prog) [.see e_l_heldByteS] [] (sOf Tryz.prog Tryz.f207) a_l_heldByteSS (iOf Tryz.prog Tryz.f207) [(false,.L
 (.L .Y)),(false,.I .i64)] [(false,.I .i64)] x=F_l_heldByteSS x:=by kernel_rfl
noncomputable def e_l_heldByteSS:SEnt Tryz.prog:=⟨207,[(false,.L (.L .Y)),(false,.I .i64)],[(false,.I .i64)],F_l_heldByteSS,runs_see mixed_Ph Tryz.func207 (by
 kernel_rfl) h_l_heldByteSS⟩
noncomputable def a_l_heldWrS:An:=(.sq none .d (.sq (some [.lt 1 (.I .i64)]) (.sq none .d (.bl (.lp [.kt 0,.lt 1 (.I .i64),.lt 5 (.I .i64)] .d))) .d))
theorem h_l_heldWrS (x:(List (Int×List UInt8))×Int):fnX (P:=Tryz.prog) [.see e_l_heldByteS] [] (sOf Tryz.prog Tryz.f208) a_l_heldWrS (iOf Tryz.prog Tryz.f208) [(false,.L
 (.P (.I .i64) (.L .Y))),(false,.I .i64)] [(false,.I .i64)] x=F_l_heldWrS x:=by kernel_rfl
noncomputable def e_l_heldWrS:SEnt Tryz.prog:=⟨208,[(false,.L (.P (.I .i64) (.L .Y))),(false,.I .i64)],[(false,.I .i64)],F_l_heldWrS,runs_see mixed_Ph Tryz.func208 (by
 kernel_rfl) h_l_heldWrS⟩
noncomputable def a_l_heldDev:An:=.d
theorem h_l_heldDev (x:((List (List UInt8))×(List (Int×List UInt8))×Int×Bool)×Int):fnX (P:=Tryz.prog) [.see e_l_heldByteSS,.see e_l_heldWrS] [] (sOf Tryz.prog
 Tryz.f145) a_l_heldDev (iOf Tryz.prog Tryz.f145) [(true,.P (.L (.L .Y)) (.P (.L (.P (.I .i64) (.L .Y))) (.P (.I .i64) .B))),(false,.I .i64)] [(false,.I .i64)] x=F_l_heldDev
 x:=by kernel_rfl
noncomputable def e_l_heldDev:SEnt Tryz.prog:=⟨145,[(true,.P (.L (.L .Y)) (.P (.L (.P (.I .i64) (.L .Y))) (.P (.I .i64) .B))),(false,.I .i64)],[(false,.I .i64)],
 F_l_heldDev,runs_see mixed_Ph Tryz.func145 (by kernel_rfl) h_l_heldDev⟩
noncomputable def a_l_heldRowS:An:=(.sq none .d (.sq (some [.lt 1 (.I .i64)]) (.sq none .d (.bl (.lp [.kt 0,.lt 1 (.I .i64),.lt 5 (.I .i64)] .d))) .d))
theorem h_l_heldRowS (x:(List ((List UInt8)×(Int×List UInt8)×(Int×List UInt8)×Int×Bool))×Int):fnX (P:=Tryz.prog) [.see e_l_markText,.see e_l_heldByteS] [] (sOf
 Tryz.prog Tryz.f137) a_l_heldRowS (iOf Tryz.prog Tryz.f137) [(false,.L (.P .S (.P (.P (.I .i64) (.L .Y)) (.P (.P (.I .i64) (.L .Y)) (.P (.I .i64) .B))))),(false,.I .i64)]
 [(false,.I .i64)] x=F_l_heldRowS x:=by kernel_rfl
noncomputable def e_l_heldRowS:SEnt Tryz.prog:=⟨137,[(false,.L (.P .S (.P (.P (.I .i64) (.L .Y)) (.P (.P (.I .i64) (.L .Y)) (.P (.I .i64) .B))))),(false,.I .i64)],[(false,
 .I .i64)],F_l_heldRowS,runs_see mixed_Ph Tryz.func137 (by kernel_rfl) h_l_heldRowS⟩
noncomputable def a_l_heldMarkS:An:=(.sq none .d (.sq (some [.lt 1 (.I .i64)]) (.sq none .d (.bl (.lp [.kt 0,.lt 1 (.I .i64),.lt 5 (.I .i64)] .d))) .d))
theorem h_l_heldMarkS (x:(List (Int×Int×Int))×Int):fnX (P:=Tryz.prog) [] [] (sOf Tryz.prog Tryz.f138) a_l_heldMarkS (iOf Tryz.prog Tryz.f138) [(false,.L (.P (.I .i64)
 (.P (.I .i64) (.I .i64)))),(false,.I .i64)] [(false,.I .i64)] x=F_l_heldMarkS x:=by kernel_rfl
noncomputable def e_l_heldMarkS:SEnt Tryz.prog:=⟨138,[(false,.L (.P (.I .i64) (.P (.I .i64) (.I .i64)))),(false,.I .i64)],[(false,.I .i64)],F_l_heldMarkS,runs_see
 mixed_Ph Tryz.func138 (by kernel_rfl) h_l_heldMarkS⟩
noncomputable def a_l_heldTab:An:=.d
theorem h_l_heldTab (x:((List ((List UInt8)×(Int×List UInt8)×(Int×List UInt8)×Int×Bool))×Int×List (Int×Int×Int))×Int):fnX (P:=Tryz.prog) [.see
 e_l_heldRowS,.see e_l_heldMarkS] [] (sOf Tryz.prog Tryz.f53) a_l_heldTab (iOf Tryz.prog Tryz.f53) [(true,.P (.L (.P .S (.P (.P (.I .i64) (.L .Y)) (.P (.P (.I .i64) (.L .Y)) (.P
 (.I .i64) .B))))) (.P (.I .i64) (.L (.P (.I .i64) (.P (.I .i64) (.I .i64)))))),(false,.I .i64)] [(false,.I .i64)] x=F_l_heldTab x:=by kernel_rfl
noncomputable def e_l_heldTab:SEnt Tryz.prog:=⟨53,[(true,.P (.L (.P .S (.P (.P (.I .i64) (.L .Y)) (.P (.P (.I .i64) (.L .Y)) (.P (.I .i64) .B))))) (.P (.I .i64) (.L (.P (.I
 .i64) (.P (.I .i64) (.I .i64)))))),(false,.I .i64)],[(false,.I .i64)],F_l_heldTab,runs_see mixed_Ph Tryz.func53 (by kernel_rfl) h_l_heldTab⟩
noncomputable def a_l_heldStore:An:=.d
theorem h_l_heldStore (x:(((List (List UInt8))×(List (Int×List UInt8))×Int×Bool)×((List ((List UInt8)×(Int×List UInt8)×(Int×List UInt8)×Int×Bool))×Int ×
 List (Int×Int×Int))×Int×Int)×Int):fnX (P:=Tryz.prog) [.see e_l_heldDev,.see e_l_heldTab] [] (sOf Tryz.prog Tryz.f58) a_l_heldStore (iOf Tryz.prog Tryz.f58) [(true,
 .P (.P (.L (.L .Y)) (.P (.L (.P (.I .i64) (.L .Y))) (.P (.I .i64) .B))) (.P (.P (.L (.P .S (.P (.P (.I .i64) (.L .Y)) (.P (.P (.I .i64) (.L .Y)) (.P (.I .i64) .B))))) (.P (.I
 .i64) (.L (.P (.I .i64) (.P (.I .i64) (.I .i64)))))) (.P (.I .i64) (.I .i64)))),(false,.I .i64)] [(false,.I .i64)] x=F_l_heldStore x:=by kernel_rfl
noncomputable def e_l_heldStore:SEnt Tryz.prog:=⟨58,[(true,.P (.P (.L (.L .Y)) (.P (.L (.P (.I .i64) (.L .Y))) (.P (.I .i64) .B))) (.P (.P (.L (.P .S (.P (.P (.I .i64) (.L
 .Y)) (.P (.P (.I .i64) (.L .Y)) (.P (.I .i64) .B))))) (.P (.I .i64) (.L (.P (.I .i64) (.P (.I .i64) (.I .i64)))))) (.P (.I .i64) (.I .i64)))),(false,.I .i64)],[(false,.I
 .i64)],F_l_heldStore,runs_see mixed_Ph Tryz.func58 (by kernel_rfl) h_l_heldStore⟩
noncomputable def a_l_FnExactFormat:An:=.d
theorem h_l_FnExactFormat (x:Unit):fnX (P:=Tryz.prog) [.see e_s_Format,.see e_i_Format,.see e_l_eqStore,.gen e_l_markStore,.see e_l_heldStore] [] (sOf Tryz.prog Tryz.f8)
 a_l_FnExactFormat (iOf Tryz.prog Tryz.f8) [] [(false,.B)] x=F_l_FnExactFormat x:=by kernel_rfl
noncomputable def e_l_FnExactFormat:SEnt Tryz.prog:=⟨8,[],[(false,.B)],F_l_FnExactFormat,runs_see mixed_Ph Tryz.func8 (by kernel_rfl) h_l_FnExactFormat⟩
end Go.Vs
