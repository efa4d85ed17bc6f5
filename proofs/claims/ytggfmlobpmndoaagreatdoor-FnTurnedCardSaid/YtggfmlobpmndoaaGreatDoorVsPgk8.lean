import Derived.Test.YtggfmlobpmndoaaGreatDoorProg
import Derived.Test.YtggfmlobpmndoaaGreatDoorVsPgk7
set_option linter.all false
namespace Go.Vs
open Go.Proofs
set_option maxRecDepth 100000
noncomputable def a_utf8_ValidString:An:=(.sq none .d (.sq none (.bl (.lp [.lt 0 .S] (.sq none .d (.bl (.sq none .d (.sq (some [.lt 0 .S,.kt 3]) (.sq none .d (.cd (.sq none .d
 (.sq none (.sq none .d (.cd (.sq none .d (.sq none .d (.cd (.sq none .d (.bl (.lp [.lt 0 .S] .d))) .d))) .d)) .d)) .d)) .d)))))) .d))
theorem h_utf8_ValidString (x:List UInt8):fnX (P:=Tryz.prog) [.see e_utf8_word] [] (sOf Tryz.prog Tryz.f256) a_utf8_ValidString (iOf Tryz.prog Tryz.f256) [(false,.S)]
 [(false,.B)] x = F_utf8_ValidString x:=by kernel_rfl
noncomputable def e_utf8_ValidString:SEnt Tryz.prog:=⟨256,[(false,.S)],[(false,.B)],F_utf8_ValidString,runs_see mixed_Pg Tryz.func256 (by kernel_rfl) h_utf8_ValidString⟩
def sgAt:Code → List Nat → Code
 | c,[] => c
 | .seq a _,0 :: l => sgAt a l
 | .seq _ b,_ :: l => sgAt b l
 | .block _ a,_ :: l => sgAt a l
 | .loop a,_ :: l => sgAt a l
 | c,_ => c
def sgOp (c:Code) (i:Nat):Oper:=match c with
 | .region _ ops _ => ops.toList.getD i default
 | _ => default
noncomputable def sgBody:Code:=Tryz.f241.body.getD .skip
def sgA:Stm:=.reg [⟨(some 2),.rd (.mv (.k (.a (.c (.nl 1))))),none⟩,⟨(some 3),.rd (.mv (.k (.a (.c (.lf (.bool false)))))),none⟩]
def sgB:Stm:=(.seq (.reg [⟨(some 7),.rd (.mv (.t 0)),none⟩,⟨(some 8),.wr (.call 256 [(.t 7)]),none⟩,⟨(some 9),.rd (.un .not (.t 8)),none⟩]) (.cond (.t 9) (.seq (.reg [⟨(some 2),.rd (.mv (.k (.a (.c (.nl 1))))),none⟩,⟨(some 3),.rd (.mv (.k (.a (.c (.lf (.bool false)))))),none⟩]) .ret) .skip))
def sgC:Stm:=.reg [⟨(some 10),.wr (.lit 1 0 [.lf (.int .i64 0)] []),none⟩,⟨(some 4),.rd (.mv (.t 10)),none⟩]
def sgR:Stm:=(.seq (.cond (.t 14) .skip (.exit 0)) (.block 1 (.seq (.reg [⟨(some 15),.rd (.ext 2 (.t 13)),none⟩,⟨(some 6),.rd (.mv (.t 15)),none⟩]) (.reg [⟨(some 16),.rd (.mv (.t 4)),none⟩,⟨(some 17),.rd (.mv (.t 6)),none⟩,⟨(some 18),.rd (.conv .i64 (.t 17)),none⟩,⟨(some 19),.wr (.lit 1 1 [.lf (.int .i64 0)] [(0,(.t 18))]),none⟩,⟨(some 20),.wr (.app 1 8 [.lf (.int .i64 0)] (.t 16) (.t 19)),none⟩,⟨(some 4),.rd (.mv (.t 20)),none⟩]))))
def sgE:Stm:=(.seq (.reg [⟨(some 21),.rd (.mv (.t 4)),none⟩,⟨(some 2),.rd (.mv (.t 21)),none⟩,⟨(some 3),.rd (.mv (.k (.a (.c (.lf (.bool true)))))),none⟩]) .ret)
def sgH:List (Nat × Hn):=[(10,.el (.I .i64)),(19,.el (.I .i64)),(20,.el (.I .i64))]
def sgGet:Option (Exit × XSt) → XSt
 | some (_,X) => X
 | none => empX
noncomputable def sgRun (s:Stm) (X:XSt):Option (Exit × XSt):=runX (P:=Tryz.prog) [.see e_utf8_ValidString] sgH s .d X fun e X' => some (e,X')
noncomputable def sgX1 (x:List UInt8):XSt:=sgGet (sgRun sgA (inX [(false,.S)] x))
noncomputable def sgXb (x:List UInt8) (v:Bool):XSt:=(((sgX1 x).put (some 7) (.a (.c (.s x)))).put (some 8) (.a (.c (.b v)))).put (some 9) (.a (.c (.b (bNot v))))
noncomputable def sgXr (x:List UInt8) (v:Bool):XSt:=(((sgXb x v).know 9 true).put (some 2) (.a (.c (.nl 1)))).put (some 3) (.a (.c (.b false)))
noncomputable def sgX2 (x:List UInt8) (v:Bool):XSt:=(sgXb x v).know 9 false
noncomputable def sgX3 (x:List UInt8):XSt:=sgGet (sgRun sgC (sgX2 x true))
noncomputable def sgXE (x:List UInt8) (ns:List Int):XSt:=sgGet (sgRun sgR (inE (unpackX (sgX3 x) [.kt 0,.ot 4 (.I .i64)] ns)))
noncomputable def sgXf (x:List UInt8) (ns:List Int):XSt:=sgGet (sgRun sgE (sgXE x ns))
theorem sg_body:Tryz.f241.body = some (.seq (sgAt sgBody [0]) (.seq (sgAt sgBody [1,0]) (.seq (sgAt sgBody [1,1,0]) (.seq (.seq (.region 4 #[sgOp (sgAt sgBody [1,1,1,0,0]) 0,sgOp (sgAt sgBody [1,1,1,0,0]) 1] false) (.block 0 (.loop (.seq (.region 5 #[sgOp (sgAt sgBody [1,1,1,0,1,0,0,0]) 0,sgOp (sgAt sgBody [1,1,1,0,1,0,0,0]) 1] false) (sgAt sgBody [1,1,1,0,1,0,0,1]))))) (sgAt sgBody [1,1,1,1]))))):=by kernel_rfl
theorem sg_a (x:List UInt8):sgRun sgA (inX [(false,.S)] x) = some (.normal,sgX1 x):=by kernel_rfl
theorem sg_b (x:List UInt8):sgRun sgB (sgX1 x) = bnd (F_utf8_ValidString x) fun v => cnd (bNot v) (some (.ret,sgXr x v)) (some (.normal,sgX2 x v)):=by kernel_rfl
theorem sg_c (x:List UInt8):sgRun sgC (sgX2 x true) = some (.normal,sgX3 x):=by kernel_rfl
theorem sg_r (x:List UInt8) (ns:List Int) (b p r:Nat):runX (P:=Tryz.prog) [.see e_utf8_ValidString] sgH sgR .d (inR (unpackX (sgX3 x) [.kt 0,.ot 4 (.I .i64)] ns) b p r) (roundK (sgX3 x)) = chk (room (ns.length + 1) 8) (some (b,ns ++ [iConv .i64 (r:Int)])):=by kernel_rfl
theorem sg_x (x:List UInt8) (ns:List Int):sgRun sgR (inE (unpackX (sgX3 x) [.kt 0,.ot 4 (.I .i64)] ns)) = some (.exit 0,sgXE x ns):=by kernel_rfl
theorem sg_e (x:List UInt8) (ns:List Int):sgRun sgE (sgXE x ns) = some (.ret,sgXf x ns):=by kernel_rfl
theorem sg_p (x:List UInt8):packN (sgX3 x) (sgX3 x) [.kt 0,.ot 4 (.I .i64)] (fun s => some s) = some ([]:List Int):=by kernel_rfl
theorem sg_n (x:List UInt8) (ns:List Int):NoIm (concS (unpackX (sgX3 x) [.kt 0,.ot 4 (.I .i64)] ns)).roots:=by
 intro r y hy
 have h:((concS (unpackX (sgX3 x) [.kt 0,.ot 4 (.I .i64)] ns)).roots.all fun e => match e.2 with | .im _ _ => false | .ib _ => false | _ => true) = true:=by kernel_rfl
 have:=List.all_eq_true.1 h _ (mem_of_get hy)
 cases y with
 | tr sz es => exact .inl ⟨sz,es,rfl⟩
 | bx cs => exact .inr ⟨cs,rfl⟩
 | im sz es => cases this
 | ib cs => cases this
theorem ok_i_Signs (x:List UInt8) (y:List Int × Bool) (hy:F_i_Signs x = some y):Runs Tryz.prog 241 ((argsD [(false,.S)] x).map mkArg) ⟨argsD [(false,.L (.I .i64)),(false,.B)] y,[],[]⟩:=by
 unfold F_i_Signs at hy
 obtain ⟨h1,hy⟩:=chk_some hy
 obtain ⟨v,hF,hy⟩:=bnd_some hy
 have hl:=of_decide_eq_true h1
 obtain ⟨hX0,hS0⟩:=inX_ok [(false,.S)] x rfl
 refine runs_of_vw Tryz.func241 sg_body (show trRes Tryz.prog Tryz.f241.results.toList = some (iOf Tryz.prog Tryz.f241) by kernel_rfl) (show 1 ≤ Tryz.f241.ntmps by decide +kernel) ?_
 refine vw_seq (vw_mono (vw_to mixed_Pg (s:=sgA) (by kernel_rfl) .d hX0 hS0 (sg_a x)) ?_)
 rintro e S1 ⟨rfl,a1,a2,a3⟩
 have hb:=sg_b x
 rw [hF,bnd_s] at hb
 cases v with
 | false =>
  rw [cnd_f] at hy
  have hy:y = ([],false):=(Option.some.inj hy).symm
  subst hy
  refine vw_seq (vw_mono (vw_to mixed_Pg (s:=sgB) (by kernel_rfl) .d a1 a3 hb) ?_)
  rintro e S2 ⟨rfl,b1,b2,b3⟩
  exact leaveX_ok b1 b3 (show leaveX [(false,.L (.I .i64)),(false,.B)] (sgXr x false) (iOf Tryz.prog Tryz.f241) = some (([]:List Int),false) by kernel_rfl)
 | true =>
  rw [cnd_t] at hy
  have hy:y = (runesF x.length ⟨x.toArray⟩ 0,true):=(Option.some.inj hy).symm
  subst hy
  refine vw_seq (vw_mono (vw_to mixed_Pg (s:=sgB) (by kernel_rfl) .d a1 a3 hb) ?_)
  rintro e S2 ⟨rfl,b1,b2,b3⟩
  refine vw_seq (vw_mono (vw_to mixed_Pg (s:=sgC) (by kernel_rfl) .d b1 b3 (sg_c x)) ?_)
  rintro e S3 ⟨rfl,c1,c2,c3⟩
  refine vw_seq (vw_mono (vw_signs mixed_Pg (l:=x) (ty:=9) (sr:=sgR) (XE:=sgXE x) (by decide +kernel) ⟨by kernel_rfl,by kernel_rfl,by kernel_rfl⟩ ⟨by kernel_rfl,by kernel_rfl,by kernel_rfl⟩ ⟨by kernel_rfl,by kernel_rfl,by kernel_rfl⟩ ⟨by kernel_rfl,by kernel_rfl,by kernel_rfl⟩ (by kernel_rfl) (by kernel_rfl) c1 c3 hl (sg_p x) (fun ns => ⟨by kernel_rfl,by kernel_rfl,by kernel_rfl⟩) (sg_n x) (sg_r x) (sg_x x)) ?_)
  rintro e S4 ⟨rfl,d1,d3⟩
  refine vw_mono (vw_to mixed_Pg (s:=sgE) (by kernel_rfl) .d d1 d3 (sg_e x _)) ?_
  rintro e S5 ⟨rfl,f1,f2,f3⟩
  exact leaveX_ok f1 f3 (show leaveX [(false,.L (.I .i64)),(false,.B)] (sgXf x (runesF x.length ⟨x.toArray⟩ 0)) (iOf Tryz.prog Tryz.f241) = some (runesF x.length ⟨x.toArray⟩ 0,true) by kernel_rfl)
noncomputable def e_i_Signs:SEnt Tryz.prog:=⟨241,[(false,.S)],[(false,.L (.I .i64)),(false,.B)],F_i_Signs,ok_i_Signs⟩
noncomputable def a_i_SignPair:An:=.d
theorem h_i_SignPair (x:Int):fnX (P:=Tryz.prog) [.see e_i_within] [] (sOf Tryz.prog Tryz.f265) a_i_SignPair (iOf Tryz.prog Tryz.f265) [(false,.I .i64)] [(false,.I .i64),
 (false,.I .i64),(false,.B)] x = F_i_SignPair x:=by kernel_rfl
noncomputable def e_i_SignPair:SEnt Tryz.prog:=⟨265,[(false,.I .i64)],[(false,.I .i64),(false,.I .i64),(false,.B)],F_i_SignPair,runs_see mixed_Pg Tryz.func265 (by
 kernel_rfl) h_i_SignPair⟩
noncomputable def a_i_PutEuc:An:=.d
theorem h_i_PutEuc (x:(List UInt8) × Int):fnX (P:=Tryz.prog) [.see e_i_within,.see e_i_joined,.see e_i_SignPair] [(14,.el .Y),(15,.sb),(26,.sb),(33,.el .Y),(34,
 .sb)] (sOf Tryz.prog Tryz.f257) a_i_PutEuc (iOf Tryz.prog Tryz.f257) [(false,.L .Y),(false,.I .i64)] [(false,.L .Y),(false,.B)] x = F_i_PutEuc x:=by kernel_rfl
noncomputable def e_i_PutEuc:SEnt Tryz.prog:=⟨257,[(false,.L .Y),(false,.I .i64)],[(false,.L .Y),(false,.B)],F_i_PutEuc,runs_see mixed_Pg Tryz.func257 (by kernel_rfl)
 h_i_PutEuc⟩
noncomputable def a_i_SignByte:An:=(.sq none .d (.sq (some []) (.sq none .d (.bl (.lp [.kt 0,.kt 1,.lt 6 (.I .i64)] .d))) .d))
theorem h_i_SignByte (x:Int × Int):fnX (P:=Tryz.prog) [.see e_i_ByteSign] [] (sOf Tryz.prog Tryz.f258) a_i_SignByte (iOf Tryz.prog Tryz.f258) [(false,.I .i64),(false,.I
 .i64)] [(false,.I .i64),(false,.B)] x = F_i_SignByte x:=by kernel_rfl
noncomputable def e_i_SignByte:SEnt Tryz.prog:=⟨258,[(false,.I .i64),(false,.I .i64)],[(false,.I .i64),(false,.B)],F_i_SignByte,runs_see mixed_Pg Tryz.func258 (by
 kernel_rfl) h_i_SignByte⟩
noncomputable def a_i_putIn:An:=.d
theorem h_i_putIn (x:Int × (List UInt8) × Int):fnG (P:=Tryz.prog) [.see e_i_PutSign,.see e_i_PutEuc,.see e_i_SignByte] [(35,.el .Y),(36,.el .Y)] (sOf Tryz.prog
 Tryz.f242) a_i_putIn (iOf Tryz.prog Tryz.f242) [⟨false,false,.I .i64,[.rd],none⟩,⟨false,false,.L .Y,[.ow],none⟩,⟨false,false,.I .i64,[.rd],none⟩] [(false,.L .Y),
 (false,.B)] x = F_i_putIn x:=by kernel_rfl
noncomputable def e_i_putIn:GEnt Tryz.prog:=⟨242,[⟨false,false,.I .i64,[.rd],none⟩,⟨false,false,.L .Y,[.ow],none⟩,⟨false,false,.I .i64,[.rd],none⟩],[(false,.L
 .Y),(false,.B)],F_i_putIn,runs_gen mixed_Pg Tryz.func242 (by kernel_rfl) h_i_putIn⟩
noncomputable def a_i_Encode:An:=(.sq none .d (.sq none .d (.sq none .d (.sq none .d (.sq (some [.ot 8 .Y]) (.sq none .d (.bl (.lp [.kt 0,.ot 8 .Y,.kt 26,.kt 27,.lt 28 (.I
 .i64)] .d))) .d)))))
theorem h_i_Encode (x:Int × List UInt8):fnX (P:=Tryz.prog) [.see e_i_Signs,.see e_i_isSet,.gen e_i_putIn] [(25,.el .Y)] (sOf Tryz.prog Tryz.f222) a_i_Encode (iOf Tryz.prog
 Tryz.f222) [(false,.I .i64),(false,.S)] [(false,.L .Y),(false,.B)] x = F_i_Encode x:=by kernel_rfl
noncomputable def e_i_Encode:SEnt Tryz.prog:=⟨222,[(false,.I .i64),(false,.S)],[(false,.L .Y),(false,.B)],F_i_Encode,runs_see mixed_Pg Tryz.func222 (by kernel_rfl)
 h_i_Encode⟩
noncomputable def a_i_CellOf:An:=.d
theorem h_i_CellOf (x:Int × List UInt8):fnX (P:=Tryz.prog) [.see e_i_Encode,.see e_i_CellOk] [] (sOf Tryz.prog Tryz.f181) a_i_CellOf (iOf Tryz.prog Tryz.f181) [(false,.I
 .i64),(false,.S)] [(true,.P (.I .i64) (.L .Y)),(false,.B)] x = F_i_CellOf x:=by kernel_rfl
noncomputable def e_i_CellOf:SEnt Tryz.prog:=⟨181,[(false,.I .i64),(false,.S)],[(true,.P (.I .i64) (.L .Y)),(false,.B)],F_i_CellOf,runs_see mixed_Pg Tryz.func181 (by
 kernel_rfl) h_i_CellOf⟩
noncomputable def a_i_Turn:An:=.d
theorem h_i_Turn (x:(Int × List UInt8) × Int):fnX (P:=Tryz.prog) [.see e_i_CellText,.see e_i_copyCell,.see e_i_CellOf] [] (sOf Tryz.prog Tryz.f98) a_i_Turn (iOf Tryz.prog
 Tryz.f98) [(true,.P (.I .i64) (.L .Y)),(false,.I .i64)] [(true,.P (.I .i64) (.L .Y)),(false,.B)] x = F_i_Turn x:=by kernel_rfl
noncomputable def e_i_Turn:SEnt Tryz.prog:=⟨98,[(true,.P (.I .i64) (.L .Y)),(false,.I .i64)],[(true,.P (.I .i64) (.L .Y)),(false,.B)],F_i_Turn,runs_see mixed_Pg
 Tryz.func98 (by kernel_rfl) h_i_Turn⟩
noncomputable def a_i_FillRow:An:=.d
theorem h_i_FillRow (x:(List UInt8) × (Int × List UInt8) × (Int × List UInt8) × Int × Bool):fnX (P:=Tryz.prog) [.see e_i_copyRow,.see e_i_RowOk,.see e_i_Turn] [] (sOf
 Tryz.prog Tryz.f20) a_i_FillRow (iOf Tryz.prog Tryz.f20) [(true,.P .S (.P (.P (.I .i64) (.L .Y)) (.P (.P (.I .i64) (.L .Y)) (.P (.I .i64) .B))))] [(true,.P .S (.P (.P (.I .i64)
 (.L .Y)) (.P (.P (.I .i64) (.L .Y)) (.P (.I .i64) .B))))] x = F_i_FillRow x:=by kernel_rfl
noncomputable def e_i_FillRow:SEnt Tryz.prog:=⟨20,[(true,.P .S (.P (.P (.I .i64) (.L .Y)) (.P (.P (.I .i64) (.L .Y)) (.P (.I .i64) .B))))],[(true,.P .S (.P (.P (.I .i64)
 (.L .Y)) (.P (.P (.I .i64) (.L .Y)) (.P (.I .i64) .B))))],F_i_FillRow,runs_see mixed_Pg Tryz.func20 (by kernel_rfl) h_i_FillRow⟩
noncomputable def a_i_CutRow:An:=(.sq none .d (.sq none .d (.sq (some [.kt 2,.bx 3 [.K,.L (.I .i64),.O .Y,.K,.K,.L (.I .i64),.L .B]]) .d .d)))
theorem h_i_CutRow (x:(List UInt8) × (Int × List UInt8) × (Int × List UInt8) × Int × Bool):fnX (P:=Tryz.prog) [.see e_i_copyRow,.see e_i_RowOk] [] (sOf Tryz.prog Tryz.f21)
 a_i_CutRow (iOf Tryz.prog Tryz.f21) [(true,.P .S (.P (.P (.I .i64) (.L .Y)) (.P (.P (.I .i64) (.L .Y)) (.P (.I .i64) .B))))] [(true,.P .S (.P (.P (.I .i64) (.L .Y)) (.P (.P (.I
 .i64) (.L .Y)) (.P (.I .i64) .B))))] x = F_i_CutRow x:=by kernel_rfl
noncomputable def e_i_CutRow:SEnt Tryz.prog:=⟨21,[(true,.P .S (.P (.P (.I .i64) (.L .Y)) (.P (.P (.I .i64) (.L .Y)) (.P (.I .i64) .B))))],[(true,.P .S (.P (.P (.I .i64) (.L
 .Y)) (.P (.P (.I .i64) (.L .Y)) (.P (.I .i64) .B))))],F_i_CutRow,runs_see mixed_Pg Tryz.func21 (by kernel_rfl) h_i_CutRow⟩
noncomputable def a_i_BackRow:An:=(.sq none .d (.sq none .d (.sq (some [.kt 2,.bx 3 [.K,.K,.K,.L (.I .i64),.O .Y,.L (.I .i64),.L .B]]) .d .d)))
theorem h_i_BackRow (x:(List UInt8) × (Int × List UInt8) × (Int × List UInt8) × Int × Bool):fnX (P:=Tryz.prog) [.see e_i_copyRow,.see e_i_RowOk] [] (sOf Tryz.prog Tryz.f22)
 a_i_BackRow (iOf Tryz.prog Tryz.f22) [(true,.P .S (.P (.P (.I .i64) (.L .Y)) (.P (.P (.I .i64) (.L .Y)) (.P (.I .i64) .B))))] [(true,.P .S (.P (.P (.I .i64) (.L .Y)) (.P (.P
 (.I .i64) (.L .Y)) (.P (.I .i64) .B))))] x = F_i_BackRow x:=by kernel_rfl
noncomputable def e_i_BackRow:SEnt Tryz.prog:=⟨22,[(true,.P .S (.P (.P (.I .i64) (.L .Y)) (.P (.P (.I .i64) (.L .Y)) (.P (.I .i64) .B))))],[(true,.P .S (.P (.P (.I .i64)
 (.L .Y)) (.P (.P (.I .i64) (.L .Y)) (.P (.I .i64) .B))))],F_i_BackRow,runs_see mixed_Pg Tryz.func22 (by kernel_rfl) h_i_BackRow⟩
noncomputable def a_s_DrawFillRow:An:=.d
theorem h_s_DrawFillRow (x:List UInt8):fnX (P:=Tryz.prog) [.cur e_s_l1New,.gen e_s_l9Any] [] (sOf Tryz.prog Tryz.f23) a_s_DrawFillRow (iOf Tryz.prog Tryz.f23) [(false,.L
 .Y)] [(true,.P .S (.P (.P (.I .i64) (.L .Y)) (.P (.P (.I .i64) (.L .Y)) (.P (.I .i64) .B))))] x = F_s_DrawFillRow x:=by kernel_rfl
noncomputable def e_s_DrawFillRow:SEnt Tryz.prog:=⟨23,[(false,.L .Y)],[(true,.P .S (.P (.P (.I .i64) (.L .Y)) (.P (.P (.I .i64) (.L .Y)) (.P (.I .i64) .B))))],
 F_s_DrawFillRow,runs_see mixed_Pg Tryz.func23 (by kernel_rfl) h_s_DrawFillRow⟩
noncomputable def a_s_DrawCutRow:An:=.d
theorem h_s_DrawCutRow (x:List UInt8):fnX (P:=Tryz.prog) [.cur e_s_l1New,.gen e_s_l9Any] [] (sOf Tryz.prog Tryz.f24) a_s_DrawCutRow (iOf Tryz.prog Tryz.f24) [(false,.L .Y)]
 [(true,.P .S (.P (.P (.I .i64) (.L .Y)) (.P (.P (.I .i64) (.L .Y)) (.P (.I .i64) .B))))] x = F_s_DrawCutRow x:=by kernel_rfl
noncomputable def e_s_DrawCutRow:SEnt Tryz.prog:=⟨24,[(false,.L .Y)],[(true,.P .S (.P (.P (.I .i64) (.L .Y)) (.P (.P (.I .i64) (.L .Y)) (.P (.I .i64) .B))))],
 F_s_DrawCutRow,runs_see mixed_Pg Tryz.func24 (by kernel_rfl) h_s_DrawCutRow⟩
end Go.Vs
