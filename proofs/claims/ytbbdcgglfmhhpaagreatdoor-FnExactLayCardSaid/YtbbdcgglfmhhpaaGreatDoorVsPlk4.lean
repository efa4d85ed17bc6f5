import Derived.Test.YtbbdcgglfmhhpaaGreatDoorProg
import Derived.Test.YtbbdcgglfmhhpaaGreatDoorVsPlk3
set_option linter.all false
namespace Go.Vs
open Go.Proofs
set_option maxRecDepth 100000
noncomputable def a_s_l13At:An:=.d
theorem h_s_l13At (x:Int×Int):fnX (P:=Tryz.prog) [] [] (sOf Tryz.prog Tryz.f39) a_s_l13At (iOf Tryz.prog Tryz.f39) [(false,.I .i64),(false,.I .i64)] [(false,.I .i64)] x
 = Zep x:=by kernel_rfl
noncomputable def e_s_l13At:SEnt Tryz.prog:=⟨39,[(false,.I .i64),(false,.I .i64)],[(false,.I .i64)],Zep,runs_see mixed_Pl Tryz.func39 (by kernel_rfl) h_s_l13At⟩
noncomputable def a_s_l11NoRow:An:=.d
theorem h_s_l11NoRow (x:(List UInt8)×(Int×List UInt8)×(Int×List UInt8)×Int×Bool):fnX (P:=Tryz.prog) [.see e_s_l9None] [] (sOf Tryz.prog Tryz.f113) a_s_l11NoRow
 (iOf Tryz.prog Tryz.f113) [(true,.P .S (.P (.P (.I .i64) (.L .Y)) (.P (.P (.I .i64) (.L .Y)) (.P (.I .i64) .B))))] [(false,.B)] x=Zeq x:=by kernel_rfl
noncomputable def e_s_l11NoRow:SEnt Tryz.prog:=⟨113,[(true,.P .S (.P (.P (.I .i64) (.L .Y)) (.P (.P (.I .i64) (.L .Y)) (.P (.I .i64) .B))))],[(false,.B)],Zeq,
 runs_see mixed_Pl Tryz.func113 (by kernel_rfl) h_s_l11NoRow⟩
noncomputable def a_s_l11Who:An:=.d
theorem h_s_l11Who (x:Int×((List UInt8)×(Int×List UInt8)×(Int×List UInt8)×Int×Bool)×(List UInt8)×Int×Int×Int×Int):fnX (P:=Tryz.prog) [.see e_s_l1In,
 .see e_s_l1Word] [] (sOf Tryz.prog Tryz.f114) a_s_l11Who (iOf Tryz.prog Tryz.f114) [(true,.P (.I .i64) (.P (.P .S (.P (.P (.I .i64) (.L .Y)) (.P (.P (.I .i64) (.L .Y)) (.P (.I
 .i64) .B)))) (.P .S (.P (.I .i64) (.P (.I .i64) (.P (.I .i64) (.I .i64)))))))] [(false,.B)] x=Zfv x:=by kernel_rfl
noncomputable def e_s_l11Who:SEnt Tryz.prog:=⟨114,[(true,.P (.I .i64) (.P (.P .S (.P (.P (.I .i64) (.L .Y)) (.P (.P (.I .i64) (.L .Y)) (.P (.I .i64) .B)))) (.P .S (.P (.I
 .i64) (.P (.I .i64) (.P (.I .i64) (.I .i64)))))))],[(false,.B)],Zfv,runs_see mixed_Pl Tryz.func114 (by kernel_rfl) h_s_l11Who⟩
noncomputable def a_s_RecOk:An:=(.sq none .d (.sq none .d (.sq none .d (.sq none .d (.sq (some [.kt 1,.lt 3 .B,.lt 4 .B,.lt 5 .B]) .d .d)))))
theorem h_s_RecOk (x:Int×((List UInt8)×(Int×List UInt8)×(Int×List UInt8)×Int×Bool)×(List UInt8)×Int×Int×Int×Int):fnX (P:=Tryz.prog) [.see
 e_s_l11NoRow,.see e_s_RowOk,.see e_s_NameOk,.see e_s_l1In,.see e_s_l11Who] [] (sOf Tryz.prog Tryz.f77) a_s_RecOk (iOf Tryz.prog Tryz.f77) [(true,.P (.I .i64) (.P (.P .S (.P
 (.P (.I .i64) (.L .Y)) (.P (.P (.I .i64) (.L .Y)) (.P (.I .i64) .B)))) (.P .S (.P (.I .i64) (.P (.I .i64) (.P (.I .i64) (.I .i64)))))))] [(false,.B)] x=Zct x:=by
 kernel_rfl
noncomputable def e_s_RecOk:SEnt Tryz.prog:=⟨77,[(true,.P (.I .i64) (.P (.P .S (.P (.P (.I .i64) (.L .Y)) (.P (.P (.I .i64) (.L .Y)) (.P (.I .i64) .B)))) (.P .S (.P (.I .i64)
 (.P (.I .i64) (.P (.I .i64) (.I .i64)))))))],[(false,.B)],Zct,runs_see mixed_Pl Tryz.func77 (by kernel_rfl) h_s_RecOk⟩
noncomputable def a_s_PutW:An:=.d
theorem h_s_PutW (x:(List UInt8)×Int):fnX (P:=Tryz.prog) [] [(6,.el .Y),(8,.el .Y),(15,.el .Y),(16,.el .Y)] (sOf Tryz.prog Tryz.f79) a_s_PutW (iOf Tryz.prog
 Tryz.f79) [(false,.L .Y),(false,.I .i64)] [(false,.L .Y)] x=Zf x:=by kernel_rfl
noncomputable def e_s_PutW:SEnt Tryz.prog:=⟨79,[(false,.L .Y),(false,.I .i64)],[(false,.L .Y)],Zf,runs_see mixed_Pl Tryz.func79 (by kernel_rfl) h_s_PutW⟩
noncomputable def a_s_PutText:An:=.d
theorem h_s_PutText (x:(List UInt8)×List UInt8):fnX (P:=Tryz.prog) [.see e_s_PutW] [(8,.el .Y),(10,.el .Y),(16,.el .Y)] (sOf Tryz.prog Tryz.f81) a_s_PutText (iOf
 Tryz.prog Tryz.f81) [(false,.L .Y),(false,.S)] [(false,.L .Y)] x=Zq x:=by kernel_rfl
noncomputable def e_s_PutText:SEnt Tryz.prog:=⟨81,[(false,.L .Y),(false,.S)],[(false,.L .Y)],Zq,runs_see mixed_Pl Tryz.func81 (by kernel_rfl) h_s_PutText⟩
noncomputable def a_s_l11Bit:An:=.d
theorem h_s_l11Bit (x:Bool):fnX (P:=Tryz.prog) [] [] (sOf Tryz.prog Tryz.f115) a_s_l11Bit (iOf Tryz.prog Tryz.f115) [(false,.B)] [(false,.Y)] x=Zfw x:=by
 kernel_rfl
noncomputable def e_s_l11Bit:SEnt Tryz.prog:=⟨115,[(false,.B)],[(false,.Y)],Zfw,runs_see mixed_Pl Tryz.func115 (by kernel_rfl) h_s_l11Bit⟩
noncomputable def a_s_l11Cell:An:=.d
theorem h_s_l11Cell (x:(List UInt8)×Int×List UInt8):fnG (P:=Tryz.prog) [.see e_s_PutText] [(9,.el .Y),(10,.el .Y)] (sOf Tryz.prog Tryz.f116) a_s_l11Cell (iOf Tryz.prog
 Tryz.f116) [⟨false,false,.L .Y,[.ow],none⟩,⟨false,true,.P (.I .i64) (.L .Y),[.rd,.rd],none⟩] [(false,.L .Y)] x=Zcb x:=by kernel_rfl
noncomputable def e_s_l11Cell:GEnt Tryz.prog:=⟨116,[⟨false,false,.L .Y,[.ow],none⟩,⟨false,true,.P (.I .i64) (.L .Y),[.rd,.rd],none⟩],[(false,.L .Y)],Zcb,
 runs_gen mixed_Pl Tryz.func116 (by kernel_rfl) h_s_l11Cell⟩
noncomputable def a_s_PutRow:An:=(.sq none .d (.sq none .d (.sq none .d (.sq none .d (.sq (some [.kt 3,.ot 5 .Y]) .d (.sq (some [.ot 5 .Y]) .d .d))))))
theorem h_s_PutRow (x:(List UInt8)×(List UInt8)×(Int×List UInt8)×(Int×List UInt8)×Int×Bool):fnX (P:=Tryz.prog) [.see e_s_RowOk,.see e_s_PutText,.see
 e_s_l11Bit,.see e_s_l9Old,.gen e_s_l11Cell,.see e_s_l9New] [(6,.el .Y),(8,.el .Y),(23,.el .Y),(24,.el .Y)] (sOf Tryz.prog Tryz.f80) a_s_PutRow (iOf Tryz.prog Tryz.f80)
 [(false,.L .Y),(true,.P .S (.P (.P (.I .i64) (.L .Y)) (.P (.P (.I .i64) (.L .Y)) (.P (.I .i64) .B))))] [(false,.L .Y)] x=Zbf x:=by kernel_rfl
noncomputable def e_s_PutRow:SEnt Tryz.prog:=⟨80,[(false,.L .Y),(true,.P .S (.P (.P (.I .i64) (.L .Y)) (.P (.P (.I .i64) (.L .Y)) (.P (.I .i64) .B))))],[(false,.L .Y)],
 Zbf,runs_see mixed_Pl Tryz.func80 (by kernel_rfl) h_s_PutRow⟩
noncomputable def a_s_Sum:An:=(.sq none .d (.sq none .d (.sq (some [.lt 3 (.I .i64)]) (.sq none .d (.bl (.lp [.kt 0,.lt 3 (.I .i64),.lt 4 (.I .i64)] (.sq none .d (.sq (some
 [.kt 0,.lt 3 (.I .i64),.kt 4]) (.bl (.sq none .d (.sq none .d (.bl (.lp [.kt 0,.lt 3 (.I .i64),.kt 4,.lt 5 (.I .i64)] (.sq none .d (.sq (some [.kt 0,.lt 3 (.I .i64),.kt 4,
 .kt 5]) .d .d))))))) .d))))) .d)))
theorem h_s_Sum (x:List UInt8):fnX (P:=Tryz.prog) [] [] (sOf Tryz.prog Tryz.f82) a_s_Sum (iOf Tryz.prog Tryz.f82) [(false,.L .Y)] [(false,.I .i64)] x=Zbg x:=by
 kernel_rfl
noncomputable def e_s_Sum:SEnt Tryz.prog:=⟨82,[(false,.L .Y)],[(false,.I .i64)],Zbg,runs_see mixed_Pl Tryz.func82 (by kernel_rfl) h_s_Sum⟩
noncomputable def a_s_PutRec:An:=(.sq none .d (.sq none .d (.sq none .d (.sq (some [.kt 5,.ot 7 .Y]) .d .d))))
theorem h_s_PutRec (x:Int×Int×Int×((List UInt8)×(Int×List UInt8)×(Int×List UInt8)×Int×Bool)×(List UInt8)×Int×Int×Int×Int):fnX (P:=Tryz.prog) [.see
 e_s_RecOk,.see e_s_l1Word,.see e_s_PutW,.see e_s_PutRow,.see e_s_PutText,.see e_s_Sum] [(21,.el .Y),(22,.el .Y),(30,.el .Y),(31,.el .Y),(52,.el .Y),(53,.el .Y),
 (61,.el .Y),(62,.el .Y)] (sOf Tryz.prog Tryz.f40) a_s_PutRec (iOf Tryz.prog Tryz.f40) [(false,.I .i64),(false,.I .i64),(true,.P (.I .i64) (.P (.P .S (.P (.P (.I .i64) (.L
 .Y)) (.P (.P (.I .i64) (.L .Y)) (.P (.I .i64) .B)))) (.P .S (.P (.I .i64) (.P (.I .i64) (.P (.I .i64) (.I .i64)))))))] [(false,.L .Y)] x=Zcu x:=by kernel_rfl
noncomputable def e_s_PutRec:SEnt Tryz.prog:=⟨40,[(false,.I .i64),(false,.I .i64),(true,.P (.I .i64) (.P (.P .S (.P (.P (.I .i64) (.L .Y)) (.P (.P (.I .i64) (.L .Y)) (.P
 (.I .i64) .B)))) (.P .S (.P (.I .i64) (.P (.I .i64) (.P (.I .i64) (.I .i64)))))))],[(false,.L .Y)],Zcu,runs_see mixed_Pl Tryz.func40 (by kernel_rfl) h_s_PutRec⟩
noncomputable def a_s_l10Op:An:=.d
theorem h_s_l10Op (x:(List (List UInt8))×(List (Int×List UInt8))×Int×Bool):fnG (P:=Tryz.prog) [] [] (sOf Tryz.prog Tryz.f76) a_s_l10Op (iOf Tryz.prog Tryz.f76)
 [⟨true,false,.P (.L (.L .Y)) (.P (.L (.P (.I .i64) (.L .Y))) (.P (.I .i64) .B)),[.rx,.rx,.rd,.rd],(some (.P (.I .i64) .B))⟩] [(false,.B)] x=Zcc x:=by kernel_rfl
noncomputable def e_s_l10Op:GEnt Tryz.prog:=⟨76,[⟨true,false,.P (.L (.L .Y)) (.P (.L (.P (.I .i64) (.L .Y))) (.P (.I .i64) .B)),[.rx,.rx,.rd,.rd],(some (.P (.I .i64)
 .B))⟩],[(false,.B)],Zcc,runs_gen mixed_Pl Tryz.func76 (by kernel_rfl) h_s_l10Op⟩
noncomputable def a_s_l10Write:An:=.d
theorem h_s_l10Write (x:((List (List UInt8))×(List (Int×List UInt8))×Int×Bool)×Int×List UInt8):fnG (P:=Tryz.prog) [.see e_s_l1In,.gen e_s_l10Op] [(45,.el .Y),
 (47,.el .Y),(49,.el (.P (.I .i64) (.L .Y))),(50,.el (.P (.I .i64) (.L .Y)))] (sOf Tryz.prog Tryz.f38) a_s_l10Write (iOf Tryz.prog Tryz.f38) [⟨true,false,.P (.L (.L .Y))
 (.P (.L (.P (.I .i64) (.L .Y))) (.P (.I .i64) .B)),[.rx,.ow,.rd,.rd],(some (.P (.L (.P (.I .i64) (.L .Y))) (.P (.I .i64) .B)))⟩,⟨false,false,.I .i64,[.rd],none⟩,
 ⟨false,false,.L .Y,[.rd],none⟩] [] x=Zr x:=by kernel_rfl
noncomputable def e_s_l10Write:GEnt Tryz.prog:=⟨38,[⟨true,false,.P (.L (.L .Y)) (.P (.L (.P (.I .i64) (.L .Y))) (.P (.I .i64) .B)),[.rx,.ow,.rd,.rd],(some (.P (.L (.P
 (.I .i64) (.L .Y))) (.P (.I .i64) .B)))⟩,⟨false,false,.I .i64,[.rd],none⟩,⟨false,false,.L .Y,[.rd],none⟩],[],Zr,runs_gen mixed_Pl Tryz.func38 (by
 kernel_rfl) h_s_l10Write⟩
def s41_0:List GI:=[⟨(some 3),.rd (.mv (.t 0)),none⟩,
 ⟨(some 4),.rd (.nilc (.t 3)),none⟩,
 ⟨(some 5),.rd (.fad 3 (.t 4)),none⟩,
 ⟨(some 6),.rd (.load none (.t 5)),none⟩,
 ⟨(some 7),.rd (.mv (.t 6)),none⟩,
 ⟨(some 8),.rd (.mv (.t 0)),(some (7,false))⟩,
 ⟨(some 9),.wr (.call 76 [(.t 8)]),(some (7,false))⟩,
 ⟨(some 10),.rd (.un .not (.t 9)),(some (7,false))⟩,
 ⟨(some 11),.rd (.pick (.t 7) (.k (.a (.c (.lf (.bool true))))) (.t 10)),none⟩]
def s41_1:List GI:=[⟨(some 2),.rd (.mv (.k (.a (.c (.lf (.int .i64 0)))))),none⟩]
def s41_2:List GI:=[⟨(some 12),.rd (.mv (.t 2)),none⟩,
 ⟨(some 13),.rd (.mv (.t 0)),none⟩,
 ⟨(some 14),.rd (.nilc (.t 13)),none⟩,
 ⟨(some 15),.rd (.fad 1 (.t 14)),none⟩,
 ⟨(some 16),.rd (.load none (.t 15)),none⟩,
 ⟨(some 17),.rd (.len (.t 16)),none⟩,
 ⟨(some 18),.rd (.bin .lss (.t 12) (.t 17)),none⟩]
def s41_4:List DI:=[⟨⟨(some 21),.rd (.mv (.t 0)),none⟩,[],false,0,0⟩,
 ⟨⟨(some 22),.rd (.nilc (.t 21)),none⟩,[0],false,0,0⟩,
 ⟨⟨(some 23),.rd (.fad 0 (.t 22)),none⟩,[1,0],false,0,0⟩,
 ⟨⟨(some 24),.rd (.load none (.t 23)),none⟩,[2,1,0],false,0,0⟩,
 ⟨⟨(some 25),.rd (.mv (.t 0)),none⟩,[],false,0,0⟩,
 ⟨⟨(some 26),.rd (.nilc (.t 25)),none⟩,[4],false,0,0⟩,
 ⟨⟨(some 27),.rd (.fad 1 (.t 26)),none⟩,[5,4],false,0,0⟩,
 ⟨⟨(some 28),.rd (.load none (.t 27)),none⟩,[6,5,4],false,0,0⟩,
 ⟨⟨(some 29),.rd (.mv (.t 2)),none⟩,[],false,0,0⟩,
 ⟨⟨(some 30),.rd (.iad 2 (.t 28) (.t 29)),none⟩,[7,8,6,5,4],false,0,0⟩,
 ⟨⟨(some 31),.rd (.fad 0 (.t 30)),none⟩,[9,7,8,6,5,4],false,0,0⟩,
 ⟨⟨(some 32),.rd (.load none (.t 31)),none⟩,[10,9,7,8,6,5,4],false,0,0⟩,
 ⟨⟨(some 33),.rd (.mv (.t 0)),none⟩,[],false,0,0⟩,
 ⟨⟨(some 34),.rd (.nilc (.t 33)),none⟩,[12],false,0,0⟩,
 ⟨⟨(some 35),.rd (.fad 1 (.t 34)),none⟩,[13,12],false,0,0⟩,
 ⟨⟨(some 36),.rd (.load none (.t 35)),none⟩,[14,13,12],false,0,0⟩,
 ⟨⟨(some 37),.rd (.mv (.t 2)),none⟩,[],false,0,0⟩,
 ⟨⟨(some 38),.rd (.iad 2 (.t 36) (.t 37)),none⟩,[15,16,14,13,12],false,0,0⟩,
 ⟨⟨(some 39),.rd (.fad 1 (.t 38)),none⟩,[17,15,16,14,13,12],false,0,0⟩,
 ⟨⟨(some 40),.rd (.load none (.t 39)),none⟩,[18,17,15,16,14,13,12],false,0,0⟩,
 ⟨⟨(some 41),.rd (.iad 1 (.t 24) (.t 32)),none⟩,[3,11,19,2,1,0,10,9,7,8,6,5,4,18,17,15,16,14,13,12],false,0,0⟩,
 ⟨⟨none,.wr (.store 1 (.t 41) (.t 40)),none⟩,[20,3,11,19,2,1,0,10,9,7,8,6,5,4,18,17,15,16,14,13,12],true,0,0⟩]
def s41_3:List GI:=[⟨(some 19),.rd (.mv (.t 2)),none⟩,
 ⟨(some 20),.rd (.bin .add (.t 19) (.k (.a (.c (.lf (.int .i64 1)))))),none⟩,
 ⟨(some 2),.rd (.mv (.t 20)),none⟩]
def s41_5:List GI:=[⟨(some 42),.rd (.mv (.t 0)),none⟩,
 ⟨(some 43),.wr (.lit 2 0 [.lf (.int .i64 0),.nl 1] []),none⟩,
 ⟨(some 44),.rd (.nilc (.t 42)),none⟩,
 ⟨(some 45),.rd (.fad 1 (.t 44)),none⟩,
 ⟨none,.wr (.store 1 (.t 45) (.t 43)),none⟩]
def s41:Stm:=(.seq (.seq (.reg s41_0) (.cond (.t 11) .ret .skip)) (.seq (.seq (.reg s41_1) (.block 0 (.loop (.seq (.seq (.reg s41_2) (.cond (.t 18) .skip (.exit 0))) (.seq (.block 1 (.drw s41_4)) (.reg s41_3)))))) (.reg s41_5)))
theorem tr41:(Tryz.f41.body.bind (trC Tryz.prog Tryz.f41.ntmps))=some s41:=by kernel_rfl
section
set_option maxHeartbeats 1000000
set_option maxRecDepth 4000
theorem r_op (secs:List (List UInt8)) (cache:List Wr) (fuse:Int) (down:Bool) (hf:-1<=fuse/\fuse<=1000):Runs Tryz.prog 76 [.ptr [(.rx,.sl 1 (sD secs)),(.rx,.sl 2 (wD cache)),(.rd,.lf (.int .i64 fuse)),(.rd,.lf (.bool down))]] ⟨[(false,[.lf (.bool (opR fuse))])],[],[[.lf (.int .i64 (opF fuse)),.lf (.bool (opD fuse down))]]⟩ :=
 e_s_l10Op.ok (secs,(cache,(fuse,down))) (opR fuse,(opF fuse,opD fuse down)) (by
  show Zcc (secs,(cache,(fuse,down)))=_
  unfold Zcc opR opF opD
  simp only
  by_cases h0:fuse=0
  ·subst h0;rfl
  have hb:(fuse==0)=false:=by simp [h0]
  rw[show iEq fuse 0=false from by simp [iEq,h0],show ∀x y:Option (Bool×(Int×Bool)),cnd false x y=y from fun _ _=>rfl]
  by_cases h1:0<fuse
  ·have e:iSub .i64 fuse 1=fuse-1:=wrap64 (by omega) (by omega)
   rw[show iGt fuse 0=true from by simp [iGt,h1],show ∀x y:Option (Bool×(Int×Bool)),cnd true x y=x from fun _ _=>rfl,e]
   simp [hb,h0,h1];rfl
  ·rw[show iGt fuse 0=false from by simp [iGt];omega,show ∀x y:Option (Bool×(Int×Bool)),cnd false x y=y from fun _ _=>rfl]
   simp [hb,h0,h1];rfl)
theorem runs41 (secs:List (List UInt8)) (cache:List Wr) (fuse:Int) (down:Bool) (hf:-1<=fuse/\fuse<=1000) (hl:secs.length<2^40) (hm:cache.length<2^40) (hd:∀w∈cache,0<=w.1/\w.1<=(secs.length:Int)-1):Runs Tryz.prog 41 [.ptr [(.ow,.sl 1 (sD secs)),(.ow,.sl 2 (wD cache)),(.rd,.lf (.int .i64 fuse)),(.rd,.lf (.bool down))]] ⟨[],[],[[.sl 1 (sD (flC secs cache fuse down).1),.sl 2 (wD (flC secs cache fuse down).2.1),.lf (.int .i64 (flC secs cache fuse down).2.2.1),.lf (.bool (flC secs cache fuse down).2.2.2)]]⟩:=by
 obtain⟨c,hb,hs⟩:=body_of tr41
 refine runs_of_sw Tryz.func41 hb hs rfl (show 1<=46 by decide) ?_
 clear hb hs c
 simp only[inAs,inCells,flat,List.flatMap_cons,List.flatMap_nil,Arg.cells,List.cons_append,List.nil_append,inCs,inC,fixN,fixCs,fixC,nBox,inV,inB,rootB,List.length_cons,List.length_nil,List.take_succ_cons,List.take_zero,List.drop_succ_cons,List.drop_zero,env0,Nat.zero_add,Nat.add_zero,List.append_nil,Nat.reduceAdd,sD_len,wD_len]
 unfold s41
 refine sw_seq ?_
 refine sw_seq ?_
 refine sw_reg ?_
 unfold s41_0
 refine os_ev (evq_mvt rfl) ?_
 first|refine os_ev (evq_nilc rfl) ?_|refine os_ev (evq_nile rfl) ?_
 first|refine os_ev (evq_fadb rfl) ?_|refine os_ev (evq_fade rfl) ?_
 try simp only[List.take_zero,List.take_succ_cons,List.drop_zero,List.drop_succ_cons,List.nil_append,List.cons_append,List.append_nil,List.length_cons,List.length_nil,Nat.zero_add,Nat.add_zero,Nat.reduceAdd,Nat.reduceMul,toC,toCs,bD_len,sD_len,rep,List.getElem?_cons_zero,List.getElem?_cons_succ]
 first|refine os_ev (evq_ldb rfl rfl rfl) ?_|refine os_ev (evq_ldl rfl rfl (rfl) rfl) ?_|refine os_ev (evq_lds rfl rfl (rfl) rfl) ?_
 try simp only[List.take_zero,List.take_succ_cons,List.drop_zero,List.drop_succ_cons,List.nil_append,List.cons_append,List.append_nil,List.length_cons,List.length_nil,Nat.zero_add,Nat.add_zero,Nat.reduceAdd,Nat.reduceMul,toC,toCs,bD_len,sD_len,rep,List.getElem?_cons_zero,List.getElem?_cons_succ]
 refine os_ev (evq_mvt rfl) ?_
 simp only[Vs.put,reduceIte,Nat.reduceEqDiff]
 refine os_gs rfl (fun g7=>?_) (fun g7=>?_)
 ·try simp only[g7]
  try simp only[decide_eq_true_eq,decide_eq_false_iff_not,bne_iff_ne,beq_iff_eq,bne_eq_false_iff_eq,beq_eq_false_iff_ne,ne_eq,Int.not_lt,Int.not_le,gt_iff_lt,ge_iff_le,Bool.not_eq_true,Bool.not_eq_false,Bool.not_eq_true',Bool.not_eq_false',Bool.and_eq_true,Bool.or_eq_true,Bool.and_eq_false_iff,Bool.or_eq_false_iff]at g7
  subst g7
  refine os_gno rfl (by decide) ?_
  refine os_gno rfl (by decide) ?_
  refine os_gno rfl (by decide) ?_
  simp only[Vs.put,reduceIte,Nat.reduceEqDiff]
  refine os_ev (evq_pickt rfl rfl) ?_
  simp only[runOs,thenQ,blockQ,Vs.put,reduceIte,Nat.reduceEqDiff]
  refine sw_cond rfl (fun h1=>?_) (fun h1=>?_)
  ·try simp only[decide_eq_true_eq,decide_eq_false_iff_not,bne_iff_ne,beq_iff_eq,bne_eq_false_iff_eq,beq_eq_false_iff_ne,ne_eq,Int.not_lt,Int.not_le,gt_iff_lt,ge_iff_le,Bool.not_eq_true,Bool.not_eq_false,Bool.not_eq_true',Bool.not_eq_false',Bool.and_eq_true,Bool.or_eq_true,Bool.and_eq_false_iff,Bool.or_eq_false_iff]at h1
   refine sw_ret ?_
   simp only[thenQ,blockQ,resK,ev,St.opd,Vs.get,reduceIte,Nat.reduceEqDiff,Option.getD_some]
   rw[flC_no rfl]
   refine leaves_bx rfl rfl rfl ?_ rfl (take_cons rfl (by simp) (take_cons rfl (by simp) (take_lf (take_lf rfl)))) rfl rfl
   exact rs_ow rfl (rs_ow rfl (rs_ow rfl (rs_ow rfl rs_nil)))
  ·exact absurd h1 (by simp at h1)
 ·try simp only[g7]
  try simp only[decide_eq_true_eq,decide_eq_false_iff_not,bne_iff_ne,beq_iff_eq,bne_eq_false_iff_eq,beq_eq_false_iff_ne,ne_eq,Int.not_lt,Int.not_le,gt_iff_lt,ge_iff_le,Bool.not_eq_true,Bool.not_eq_false,Bool.not_eq_true',Bool.not_eq_false',Bool.and_eq_true,Bool.or_eq_true,Bool.and_eq_false_iff,Bool.or_eq_false_iff]at g7
  subst g7
  refine os_gdo rfl ?_
  refine os_ev (evq_mvt rfl) ?_
  simp only[Vs.put,reduceIte,Nat.reduceEqDiff]
  refine os_gdo rfl ?_
  refine os_callo ?_
  simp only[List.map_cons,List.map_nil,St.opd,Vs.get,Vs.put,reduceIte,Nat.reduceEqDiff,Option.getD_some]
  refine⟨_,_,r_op secs cache fuse false hf,_,rfl,_,rfl,by simp [handIo,handBx],fa_cons (⟨rfl,.inl rfl,by simp [handIo,handBx],_,rfl,by simp,by first|rfl|(simp;done)|exact (List.take_of_length_le (by simp)).symm⟩) (fa_cons (⟨rfl,.inl rfl,by simp [handIo,handBx],_,rfl,by simp,by first|rfl|(simp;done)|exact (List.take_of_length_le (by simp)).symm⟩) (fa_cons (rfl) (fa_cons (rfl) (fa_nil)))),_,rfl,_,rfl, ?_⟩
  simp only[newCs,newRes,newA,resV,List.flatMap_cons,List.flatMap_nil,List.flatten_nil,List.flatten_cons,List.append_nil,List.nil_append,List.cons_append,List.length_cons,List.length_nil,List.drop_succ_cons,List.drop_zero,List.take_succ_cons,List.take_zero,if_true,if_false,Bool.false_eq_true,List.drop_nil,mixCs,isRx,Vs.put,reduceIte,Nat.reduceEqDiff,Nat.zero_add,Nat.reduceAdd,bD_len,sD_len]
  try simp only[setEnv,Vs.put,killEnv,del,cutR,reduceIte,Nat.reduceEqDiff,Nat.reduceAdd]
  refine os_gdo rfl ?_
  refine os_ev (evq_un rfl rfl) ?_
  refine os_ev (evq_pickf rfl rfl) ?_
  simp only[runOs,thenQ,blockQ,Vs.put,reduceIte,Nat.reduceEqDiff]
  refine sw_cond rfl (fun h1=>?_) (fun h1=>?_)
  ·have hz:fuse=0:=by simpa [opR] using h1
   obtain⟨z1,z2,_⟩:=op_zero (down:=false) hz
   simp only[z1,z2]
   rw[flC_zero hz]
   refine sw_ret ?_
   simp only[thenQ,blockQ,resK,ev,St.opd,Vs.get,reduceIte,Nat.reduceEqDiff,Option.getD_some]
   refine leaves_bx rfl rfl rfl ?_ rfl (take_cons rfl (by simp) (take_cons rfl (by simp) (take_lf (take_lf rfl)))) rfl rfl
   exact rs_ow rfl (rs_ow rfl (rs_ow rfl (rs_ow rfl rs_nil)))
  ·have hz:¬fuse=0:=by simpa [opR] using h1
   obtain⟨z2,_⟩:=op_pos (down:=false) hz
   simp only[z2]
   rw[flC_yes hz]
   refine sw_skip ?_
   simp only[thenQ,blockQ]
   refine sw_seq ?_
   refine sw_seq ?_
   refine sw_reg ?_
   unfold s41_1
   refine os_ev (evq_mvk) ?_
   simp only[runOs,thenQ,blockQ,Vs.put,reduceIte,Nat.reduceEqDiff]
   refine sw_block ?_
   refine sw_loop_upd [0,2] (α:=Nat) (fun i=>[(2,.a (.c (.lf (.int .i64 (i:Nat)))))]) (fun i=>[(0,.bx [.rf 1 [] 1 0 secs.length,.rf 2 [] 2 0 cache.length,.lf (.int .i64 (opF fuse)),.lf (.bool false)]),(1,.tr 1 (sD (flL secs (cache.take i)))),(2,.tr 2 (wH cache i))]) (3) (fun i=>i<=cache.length) (fun i=>cache.length-i) (0) [(0,0),(1,1),(2,2)] ?_ (by decide) ?_ ?_ ?_
   ·exact Nat.zero_le _
   ·simp only[sel,Vs.get,upd,Vs.put,reduceIte,Nat.reduceEqDiff]
    repeat' (first|exact er_nil|refine er_un ?_|refine er_cons rfl ?_ ?_)
    all_goals (try simp only[V.map,A.map,renC,Vs.get,reduceIte,Nat.reduceEqDiff,List.map_cons,List.map_nil])
    all_goals (try rfl)
   ·repeat' (first|exact rr_nil|refine rr_cons 0 rfl rfl ?_ ?_|refine rr_cons 1 rfl rfl ?_ ?_|refine rr_cons 2 rfl rfl ?_ ?_)
    all_goals (try simp only[renRoot,renC,Vs.get,reduceIte,Nat.reduceEqDiff,List.map_cons,List.map_nil])
    all_goals (try rfl)
   ·rintro i hinv
    simp only[sel,Vs.get,upd,Vs.put,reduceIte,Nat.reduceEqDiff]
    refine sw_seq ?_
    refine sw_seq ?_
    refine sw_reg ?_
    unfold s41_2
    refine os_ev (evq_mvt rfl) ?_
    refine os_ev (evq_mvt rfl) ?_
    simp only[Vs.put,reduceIte,Nat.reduceEqDiff]
    first|refine os_ev (evq_nilc rfl) ?_|refine os_ev (evq_nile rfl) ?_
    first|refine os_ev (evq_fadb rfl) ?_|refine os_ev (evq_fade rfl) ?_
    try simp only[List.take_zero,List.take_succ_cons,List.drop_zero,List.drop_succ_cons,List.nil_append,List.cons_append,List.append_nil,List.length_cons,List.length_nil,Nat.zero_add,Nat.add_zero,Nat.reduceAdd,Nat.reduceMul,toC,toCs,bD_len,sD_len,rep,List.getElem?_cons_zero,List.getElem?_cons_succ]
    first|refine os_ev (evq_ldb rfl rfl rfl) ?_|refine os_ev (evq_ldl rfl rfl (rfl) rfl) ?_|refine os_ev (evq_lds rfl rfl (rfl) rfl) ?_
    try simp only[List.take_zero,List.take_succ_cons,List.drop_zero,List.drop_succ_cons,List.nil_append,List.cons_append,List.append_nil,List.length_cons,List.length_nil,Nat.zero_add,Nat.add_zero,Nat.reduceAdd,Nat.reduceMul,toC,toCs,bD_len,sD_len,rep,List.getElem?_cons_zero,List.getElem?_cons_succ]
    first|refine os_ev (evq_lenr rfl) ?_|refine os_ev (evq_lenn rfl) ?_
    refine os_ev (evq_bin rfl rfl rfl) ?_
    simp only[Vs.put,reduceIte,Nat.reduceEqDiff]
    simp only[runOs,thenQ,blockQ,Vs.put,reduceIte,Nat.reduceEqDiff]
    refine sw_cond rfl (fun h4=>?_) (fun h4=>?_)
    ·try simp only[decide_eq_true_eq,decide_eq_false_iff_not,bne_iff_ne,beq_iff_eq,bne_eq_false_iff_eq,beq_eq_false_iff_ne,ne_eq,Int.not_lt,Int.not_le,gt_iff_lt,ge_iff_le,Bool.not_eq_true,Bool.not_eq_false,Bool.not_eq_true',Bool.not_eq_false',Bool.and_eq_true,Bool.or_eq_true,Bool.and_eq_false_iff,Bool.or_eq_false_iff]at h4
     have hib:i<cache.length:=by omega
     have e1:IntKind.i64.wrap ((i:Int)+1)=((i+1:Nat):Int):=by rw[wrap64 (by omega) (by omega)];rfl
     have hdi:=hd _ (List.getElem_mem hib)
     obtain⟨k,hk⟩:∃k:Nat,cache[i].1=k:=⟨cache[i].1.toNat,by omega⟩
     have hkl:k<secs.length:=by omega
     have him:k<(flL secs (cache.take i)).length:=by rw[flL_len];exact hkl
     refine sw_skip ?_
     simp only[thenQ,blockQ]
     refine sw_seq ?_
     refine sw_block ?_
     refine sw_go rfl rfl ?_
     unfold s41_4
     refine rd_ev (evq_mvt rfl) rfl ?_
     first|refine rd_ev (evq_nilc rfl) rfl ?_|refine rd_ev (evq_nile rfl) rfl ?_
     first|refine rd_ev (evq_fadb rfl) rfl ?_|refine rd_ev (evq_fade rfl) rfl ?_
     try simp only[List.take_zero,List.take_succ_cons,List.drop_zero,List.drop_succ_cons,List.nil_append,List.cons_append,List.append_nil,List.length_cons,List.length_nil,Nat.zero_add,Nat.add_zero,Nat.reduceAdd,Nat.reduceMul,toC,toCs,bD_len,sD_len,rep,List.getElem?_cons_zero,List.getElem?_cons_succ]
     first|refine rd_m0 (evq_ldb rfl rfl rfl) fa_nil (Nat.not_lt.2 (Nat.le_of_ble_eq_true rfl)) ?_|refine rd_m0 (evq_ldl rfl rfl (rfl) rfl) fa_nil (Nat.not_lt.2 (Nat.le_of_ble_eq_true rfl)) ?_|refine rd_m0 (evq_lds rfl rfl (rfl) rfl) fa_nil (Nat.not_lt.2 (Nat.le_of_ble_eq_true rfl)) ?_
     try simp only[List.take_zero,List.take_succ_cons,List.drop_zero,List.drop_succ_cons,List.nil_append,List.cons_append,List.append_nil,List.length_cons,List.length_nil,Nat.zero_add,Nat.add_zero,Nat.reduceAdd,Nat.reduceMul,toC,toCs,bD_len,sD_len,rep,List.getElem?_cons_zero,List.getElem?_cons_succ]
     refine rd_ev (evq_mvt rfl) rfl ?_
     simp only[Vs.put,reduceIte,Nat.reduceEqDiff]
     first|refine rd_ev (evq_nilc rfl) rfl ?_|refine rd_ev (evq_nile rfl) rfl ?_
     first|refine rd_ev (evq_fadb rfl) rfl ?_|refine rd_ev (evq_fade rfl) rfl ?_
     try simp only[List.take_zero,List.take_succ_cons,List.drop_zero,List.drop_succ_cons,List.nil_append,List.cons_append,List.append_nil,List.length_cons,List.length_nil,Nat.zero_add,Nat.add_zero,Nat.reduceAdd,Nat.reduceMul,toC,toCs,bD_len,sD_len,rep,List.getElem?_cons_zero,List.getElem?_cons_succ]
     first|refine rd_m0 (evq_ldb rfl rfl rfl) fa_nil (Nat.not_lt.2 (Nat.le_of_ble_eq_true rfl)) ?_|refine rd_m0 (evq_ldl rfl rfl (rfl) rfl) fa_nil (Nat.not_lt.2 (Nat.le_of_ble_eq_true rfl)) ?_|refine rd_m0 (evq_lds rfl rfl (rfl) rfl) fa_nil (Nat.not_lt.2 (Nat.le_of_ble_eq_true rfl)) ?_
     try simp only[List.take_zero,List.take_succ_cons,List.drop_zero,List.drop_succ_cons,List.nil_append,List.cons_append,List.append_nil,List.length_cons,List.length_nil,Nat.zero_add,Nat.add_zero,Nat.reduceAdd,Nat.reduceMul,toC,toCs,bD_len,sD_len,rep,List.getElem?_cons_zero,List.getElem?_cons_succ]
     refine rd_ev (evq_mvt rfl) rfl ?_
     refine rd_ev (evq_iad rfl rfl rfl (by omega)) rfl ?_
     simp only[Vs.put,reduceIte,Nat.reduceEqDiff]
     first|refine rd_ev (evq_fadb rfl) rfl ?_|refine rd_ev (evq_fade rfl) rfl ?_
     try simp only[List.take_zero,List.take_succ_cons,List.drop_zero,List.drop_succ_cons,List.nil_append,List.cons_append,List.append_nil,List.length_cons,List.length_nil,Nat.zero_add,Nat.add_zero,Nat.reduceAdd,Nat.reduceMul,toC,toCs,bD_len,sD_len,rep,List.getElem?_cons_zero,List.getElem?_cons_succ]
     first|refine rd_m0 (evq_ldb rfl rfl rfl) fa_nil (Nat.not_lt.2 (Nat.le_of_ble_eq_true rfl)) ?_|refine rd_m0 (evq_ldl rfl rfl (wH_get hib) rfl) fa_nil (Nat.not_lt.2 (Nat.le_of_ble_eq_true rfl)) ?_|refine rd_m0 (evq_lds rfl rfl (wH_get hib) rfl) fa_nil (Nat.not_lt.2 (Nat.le_of_ble_eq_true rfl)) ?_|refine rd_m0 (evq_ldl rfl rfl (rfl) rfl) fa_nil (Nat.not_lt.2 (Nat.le_of_ble_eq_true rfl)) ?_|refine rd_m0 (evq_lds rfl rfl (rfl) rfl) fa_nil (Nat.not_lt.2 (Nat.le_of_ble_eq_true rfl)) ?_
     try simp only[List.take_zero,List.take_succ_cons,List.drop_zero,List.drop_succ_cons,List.nil_append,List.cons_append,List.append_nil,List.length_cons,List.length_nil,Nat.zero_add,Nat.add_zero,Nat.reduceAdd,Nat.reduceMul,toC,toCs,bD_len,sD_len,rep,List.getElem?_cons_zero,List.getElem?_cons_succ]
     refine rd_ev (evq_mvt rfl) rfl ?_
     first|refine rd_ev (evq_nilc rfl) rfl ?_|refine rd_ev (evq_nile rfl) rfl ?_
     first|refine rd_ev (evq_fadb rfl) rfl ?_|refine rd_ev (evq_fade rfl) rfl ?_
     try simp only[List.take_zero,List.take_succ_cons,List.drop_zero,List.drop_succ_cons,List.nil_append,List.cons_append,List.append_nil,List.length_cons,List.length_nil,Nat.zero_add,Nat.add_zero,Nat.reduceAdd,Nat.reduceMul,toC,toCs,bD_len,sD_len,rep,List.getElem?_cons_zero,List.getElem?_cons_succ]
     simp only[Vs.put,reduceIte,Nat.reduceEqDiff]
     first|refine rd_m0 (evq_ldb rfl rfl rfl) fa_nil (Nat.not_lt.2 (Nat.le_of_ble_eq_true rfl)) ?_|refine rd_m0 (evq_ldl rfl rfl (rfl) rfl) fa_nil (Nat.not_lt.2 (Nat.le_of_ble_eq_true rfl)) ?_|refine rd_m0 (evq_lds rfl rfl (rfl) rfl) fa_nil (Nat.not_lt.2 (Nat.le_of_ble_eq_true rfl)) ?_
     try simp only[List.take_zero,List.take_succ_cons,List.drop_zero,List.drop_succ_cons,List.nil_append,List.cons_append,List.append_nil,List.length_cons,List.length_nil,Nat.zero_add,Nat.add_zero,Nat.reduceAdd,Nat.reduceMul,toC,toCs,bD_len,sD_len,rep,List.getElem?_cons_zero,List.getElem?_cons_succ]
     refine rd_ev (evq_mvt rfl) rfl ?_
     refine rd_ev (evq_iad rfl rfl rfl (by omega)) rfl ?_
     first|refine rd_ev (evq_fadb rfl) rfl ?_|refine rd_ev (evq_fade rfl) rfl ?_
     try simp only[List.take_zero,List.take_succ_cons,List.drop_zero,List.drop_succ_cons,List.nil_append,List.cons_append,List.append_nil,List.length_cons,List.length_nil,Nat.zero_add,Nat.add_zero,Nat.reduceAdd,Nat.reduceMul,toC,toCs,bD_len,sD_len,rep,List.getElem?_cons_zero,List.getElem?_cons_succ]
     first|refine rd_m0 (evq_ldb rfl rfl rfl) fa_nil (Nat.not_lt.2 (Nat.le_of_ble_eq_true rfl)) ?_|refine rd_m0 (evq_ldl rfl rfl (wH_get hib) rfl) fa_nil (Nat.not_lt.2 (Nat.le_of_ble_eq_true rfl)) ?_|refine rd_m0 (evq_lds rfl rfl (wH_get hib) rfl) fa_nil (Nat.not_lt.2 (Nat.le_of_ble_eq_true rfl)) ?_|refine rd_m0 (evq_ldl rfl rfl (rfl) rfl) fa_nil (Nat.not_lt.2 (Nat.le_of_ble_eq_true rfl)) ?_|refine rd_m0 (evq_lds rfl rfl (rfl) rfl) fa_nil (Nat.not_lt.2 (Nat.le_of_ble_eq_true rfl)) ?_
     try simp only[List.take_zero,List.take_succ_cons,List.drop_zero,List.drop_succ_cons,List.nil_append,List.cons_append,List.append_nil,List.length_cons,List.length_nil,Nat.zero_add,Nat.add_zero,Nat.reduceAdd,Nat.reduceMul,toC,toCs,bD_len,sD_len,rep,List.getElem?_cons_zero,List.getElem?_cons_succ]
     refine rd_ev (evq_iad (j:=k) rfl rfl hk (by omega)) rfl ?_
     simp only[Vs.put,reduceIte,Nat.reduceEqDiff]
     refine rd_wr (by intros;nofun) ?_
     refine st_slice_in rfl rfl rfl rfl (wH_get hib) rfl (by simp) (by decide) rfl (sD_get him) (by simp) (Nat.le_of_ble_eq_true rfl) ?_
     simp only[killRoots,Root.map,List.map_cons,List.map_nil,del,reduceIte,Nat.reduceEqDiff,List.nil_append,Vs.put,killC]
     rw[sD_setS _ k cache[i].2 him,wH_set hib,<-flL_take hib hk]
     simp only[setEnv,killEnv,V.map,A.map,killC,pre_no,and_false,if_false,List.map_cons,List.map_nil,Vs.put,reduceIte,Nat.reduceEqDiff]
     refine⟨fa_nil,.inr ⟨by first|rfl|trivial,by first|rfl|decide, ?_⟩⟩
     try simp only[setEnv,killEnv,V.map,A.map,killCs,killC,pre_no,and_false,if_false,List.map_cons,List.map_nil,Vs.put,reduceIte,Nat.reduceEqDiff,List.isPrefixOf,Bool.and_false,Bool.false_and,Bool.false_eq_true]
     try simp only[setEnv,Vs.put,killEnv,del,cutR,reduceIte,Nat.reduceEqDiff,Nat.reduceAdd]
     try refine rd_nil ?_
     simp only[thenQ,blockQ,Vs.put,reduceIte,Nat.reduceEqDiff]
     refine sw_reg ?_
     unfold s41_3
     refine os_ev (evq_mvt rfl) ?_
     refine os_ev (evq_bin rfl rfl rfl) ?_
     refine os_ev (evq_mvt rfl) ?_
     simp only[runOs,thenQ,blockQ,Vs.put,reduceIte,Nat.reduceEqDiff]
     try simp only[thenQ,blockQ]
     refine⟨i+1, ?_, ?_,rfl,[(0,0),(1,1),(2,2)],by decide, ?_, ?_⟩
     ·omega
     ·first|omega|(dsimp only;omega)
     ·simp only[sel,Vs.get,upd,Vs.put,reduceIte,Nat.reduceEqDiff]
      repeat' (first|exact er_nil|refine er_un ?_|refine er_cons rfl ?_ ?_)
      all_goals (try simp only[V.map,A.map,renC,Vs.get,reduceIte,Nat.reduceEqDiff,List.map_cons,List.map_nil,e1])
     ·repeat' (first|exact rr_nil|refine rr_cons 0 rfl rfl ?_ ?_|refine rr_cons 1 rfl rfl ?_ ?_|refine rr_cons 2 rfl rfl ?_ ?_)
      all_goals (try simp only[renRoot,renC,Vs.get,reduceIte,Nat.reduceEqDiff,List.map_cons,List.map_nil,e1])
    ·try simp only[decide_eq_true_eq,decide_eq_false_iff_not,bne_iff_ne,beq_iff_eq,bne_eq_false_iff_eq,beq_eq_false_iff_ne,ne_eq,Int.not_lt,Int.not_le,gt_iff_lt,ge_iff_le,Bool.not_eq_true,Bool.not_eq_false,Bool.not_eq_true',Bool.not_eq_false',Bool.and_eq_true,Bool.or_eq_true,Bool.and_eq_false_iff,Bool.or_eq_false_iff]at h4
     have hib:i=cache.length:=by omega
     subst hib
     simp only[List.take_length]
     refine sw_exit ?_
     simp only[thenQ,blockQ,if_true,Nat.reduceEqDiff,if_false,reduceIte]
     refine sw_reg ?_
     unfold s41_5
     refine os_ev (evq_mvt rfl) ?_
     simp only[Vs.put,reduceIte,Nat.reduceEqDiff]
     refine os_wro (by intros;nofun) ?_
     refine .inl ⟨_,rfl,_,rfl, ?_⟩
     simp only[chunk,List.take_zero,List.take_succ_cons,List.drop_zero,List.drop_succ_cons,List.nil_append,List.cons_append,List.append_nil,List.length_cons,List.length_nil,Nat.zero_add,Nat.add_zero,Nat.reduceAdd,Nat.reduceMul,toC,toCs,bD_len,sD_len,rep,List.getElem?_cons_zero,List.getElem?_cons_succ]
     try simp only[setEnv,Vs.put,killEnv,del,cutR,reduceIte,Nat.reduceEqDiff,Nat.reduceAdd]
     first|refine os_ev (evq_nilc rfl) ?_|refine os_ev (evq_nile rfl) ?_
     first|refine os_ev (evq_fadb rfl) ?_|refine os_ev (evq_fade rfl) ?_
     try simp only[List.take_zero,List.take_succ_cons,List.drop_zero,List.drop_succ_cons,List.nil_append,List.cons_append,List.append_nil,List.length_cons,List.length_nil,Nat.zero_add,Nat.add_zero,Nat.reduceAdd,Nat.reduceMul,toC,toCs,bD_len,sD_len,rep,List.getElem?_cons_zero,List.getElem?_cons_succ]
     refine os_wro (by intros;nofun) ?_
     refine st_box rfl rfl rfl rfl (Nat.le_of_ble_eq_true rfl) ?_
     simp only[List.take_zero,List.take_succ_cons,List.drop_zero,List.drop_succ_cons,List.nil_append,List.cons_append,List.append_nil,List.length_cons,List.length_nil,Nat.zero_add,Nat.add_zero,Nat.reduceAdd,Nat.reduceMul,toC,toCs,bD_len,sD_len,rep,List.getElem?_cons_zero,List.getElem?_cons_succ]
     try simp only[setEnv,Vs.put,killEnv,del,cutR,reduceIte,Nat.reduceEqDiff,Nat.reduceAdd]
     simp only[runOs,thenQ,blockQ,Vs.put,reduceIte,Nat.reduceEqDiff]
     simp only[thenQ,blockQ,resK,ev,St.opd,Vs.get,reduceIte,Nat.reduceEqDiff,Option.getD_some]
     refine leaves_bx rfl rfl rfl ?_ rfl (take_cons rfl (by simp) (take_cons rfl (by simp) (take_lf (take_lf rfl)))) rfl rfl
     exact rs_ow rfl (rs_ow rfl (rs_ow rfl (rs_ow rfl rs_nil)))
end
noncomputable def e_s_l10Flush:GEnt Tryz.prog:=⟨41,[⟨true,false,.P (.L (.L .Y)) (.P (.L (.P (.I .i64) (.L .Y))) (.P (.I .i64) .B)),[.ow,.ow,.rd,.rd],(some (.P (.L (.L .Y)) (.P (.L (.P (.I .i64) (.L .Y))) (.P (.I .i64) .B))))⟩],[],Zs,fun x y hy=>by
 unfold Zs at hy
 obtain⟨h,hy⟩:=chk_some hy
 have h:=of_decide_eq_true h
 have hy:=Option.some.inj hy
 subst hy
 exact runs41 x.1 x.2.1 x.2.2.1 x.2.2.2 h.1 h.2.1 h.2.2.1 h.2.2.2⟩
end Go.Vs
