import Derived.Test.YteaoaehkkcbmbaaGreatDoorVsPvk11
set_option linter.all false
namespace Go.Vs
open Go.Proofs
set_option maxRecDepth 100000
noncomputable section
def Zdr x:fG [.gen gB,.gen gA,.gen zM,.see ZG] [] (.sq none .d (.sq none .d (.sq none .d (.sq none .d (.sq none .d (.sq
 none .d (.sq (some [.bx 0 [.K,.L (.I .i64),.L .B],.kt 2,.bx 3 [.K,.L (.I .i64),.O .Y,.K,.K,.K,.K],.kt 4]) .d (.sq (some [.bx 0 [.K,.L (.I .i64),.L .B],.kt 2,.bx 3
 [.K,.K,.K,.L (.I .i64),.O .Y,.K,.K],.kt 4]) .d .d)))))))) Tryz.f96 [⟨true,false,Lt,[.rx,.rd,.rd],(some I5)⟩] [(true,Bs)] x=P3 x:=by kernel_rfl
def zN:=eG Tryz.func96 (by kernel_rfl) Zdr
def Zcl x:fX [.gen gC,.gen gA,.gen zN,.gen gB,.gen pI,.see fu] [] (.sq none .d (.sq none .d (.sq none
 .d (.sq none .d (.sq none .d (.sq none .d (.sq (some [.kt 4,.kt 6,.bx 7 [.K,.L .S,.L (.I .i64),.O .Y,.L (.I .i64),.O .Y,.L (.I .i64),.L .B,.L .S,.L (.I .i64),.K,.K,
 .K],.kt 8,.kt 9,.bx 12 [.K,.L (.I .i64),.L .B]]) .d .d))))))) Tryz.f51 [(false,.L .Y)] [(false,.I .i64),(false,.I .i64),(true,DC),(false,.B)] x=TM x:=
 by kernel_rfl
def yx:=eS Tryz.func51 (by kernel_rfl) Zcl
def Zc2 x:fX [.see H7,.see gD,.see ox,.see yx,.see oh] [] (.sq none .d (.sq none .d (.sq none .d (.sq (some [.bx 4 [.O
 Bs,.L (.I .i64),.O Ca],.bx 6 [.O Bs,.L (.I .i64),.O Ca]]) (.sq none .d (.bl (.lp [.kt 1,.kt 2,.bx 4 [.O Bs,.L (.I .i64),.O Ca],.bx 6 [.O Bs,.L (.I .i64),.O
 Ca],.lt 7 (.I .i64)] .d))) .d)))) Tryz.f14 [(true,DR),(false,.I .i64)] [(true,GM),(false,.I .i64)] x=Rw x:=by kernel_rfl
def oz:=eS Tryz.func14 (by kernel_rfl) Zc2
def Zcs x:fX [.see ox,.see yw,.see oz,.see ZI,.see ZH,.see fq] [] (.sq none .d (.sq none .d (.sq (some [.kt 2,.bx
 4 [.O (.L .Y),.O BH,.L (.I .i64),.L .B,.O Bs,.L (.I .i64),.O Ca,.L (.I .i64),.L (.I .i64)]]) (.sq none .d (.bl (.lp [.kt 1,.kt 2,.bx 4 [.O (.L .Y),.O BH,.L (.I
 .i64),.L .B,.O Bs,.L (.I .i64),.O Ca,.L (.I .i64),.L (.I .i64)],.lt 12 (.I .i64)] (.sq none .d (.sq none .d (.sq (some [.kt 1,.kt 2,.bx 4 [.O (.L .Y),.O BH,.L (.I
 .i64),.L .B,.O Bs,.L (.I .i64),.O Ca,.L (.I .i64),.L (.I .i64)],.kt 12]) .d .d)))))) .d))) Tryz.f11 [(true,DR)] [(true,Fd),(false,.B)] x=TQ x:=by
 kernel_rfl
def zB:=eS Tryz.func11 (by kernel_rfl) Zcs
def uE:List GI:=[⟨(some 2),.wr (.box (.t 0)),none⟩,
 ⟨(some 4),.rd (.mv (.k (.a (.c (.nl 1))))),none⟩]
def uF:List GI:=[⟨(some 7),.rd (.load (some 4) (.t 2)),none⟩,
 ⟨(some 8),.wr (.call 60 [(.t 7)]),none⟩,
 ⟨(some 9),.rd (.un .not (.t 8)),none⟩,
 ⟨(some 10),.rd (.mv (.t 9)),none⟩,
 ⟨(some 11),.rd (.mv (.t 1)),(some (10,false))⟩,
 ⟨(some 12),.rd (.fad 0 (.t 2)),(some (10,false))⟩,
 ⟨(some 13),.rd (.load none (.t 12)),(some (10,false))⟩,
 ⟨(some 14),.rd (.len (.t 13)),(some (10,false))⟩,
 ⟨(some 15),.rd (.bin .sub (.t 14) (.k (.a (.c (.lf (.int .i64 1)))))),(some (10,false))⟩,
 ⟨(some 16),.wr (.call 52 [(.t 11),(.k (.a (.c (.lf (.int .i64 0))))),(.t 15)]),(some (10,false))⟩,
 ⟨(some 17),.rd (.un .not (.t 16)),(some (10,false))⟩,
 ⟨(some 18),.rd (.pick (.t 10) (.k (.a (.c (.lf (.bool true))))) (.t 17)),none⟩]
def kO:List GI:=[⟨(some 19),.wr (.lit 1 0 [.lf (.int .u8 0)] []),none⟩,
 ⟨(some 4),.rd (.mv (.t 19)),none⟩]
def uG:List GI:=[⟨(some 20),.rd (.fad 0 (.t 2)),none⟩,
 ⟨(some 21),.rd (.load none (.t 20)),none⟩,
 ⟨(some 22),.rd (.mv (.t 1)),none⟩,
 ⟨(some 23),.rd (.iad 1 (.t 21) (.t 22)),none⟩,
 ⟨(some 24),.rd (.load none (.t 23)),none⟩,
 ⟨(some 5),.rd (.mv (.t 24)),none⟩]
def uH:List GI:=[⟨(some 6),.rd (.mv (.k (.a (.c (.lf (.int .i64 0)))))),none⟩]
def uI:List GI:=[⟨(some 25),.rd (.mv (.t 6)),none⟩,
 ⟨(some 26),.rd (.fad 1 (.t 2)),none⟩,
 ⟨(some 27),.rd (.load none (.t 26)),none⟩,
 ⟨(some 28),.rd (.len (.t 27)),none⟩,
 ⟨(some 29),.rd (.bin .lss (.t 25) (.t 28)),none⟩]
def uJ:List GI:=[⟨(some 32),.rd (.fad 1 (.t 2)),none⟩,
 ⟨(some 33),.rd (.load none (.t 32)),none⟩,
 ⟨(some 34),.rd (.mv (.t 6)),none⟩,
 ⟨(some 35),.rd (.iad 2 (.t 33) (.t 34)),none⟩,
 ⟨(some 36),.rd (.fad 0 (.t 35)),none⟩,
 ⟨(some 37),.rd (.load none (.t 36)),none⟩,
 ⟨(some 38),.rd (.mv (.t 1)),none⟩,
 ⟨(some 39),.rd (.bin .eql (.t 37) (.t 38)),none⟩]
def uK:List GI:=[⟨(some 40),.rd (.fad 1 (.t 2)),none⟩,
 ⟨(some 41),.rd (.load none (.t 40)),none⟩,
 ⟨(some 42),.rd (.mv (.t 6)),none⟩,
 ⟨(some 43),.rd (.iad 2 (.t 41) (.t 42)),none⟩,
 ⟨(some 44),.rd (.fad 1 (.t 43)),none⟩,
 ⟨(some 45),.rd (.load none (.t 44)),none⟩,
 ⟨(some 5),.rd (.mv (.t 45)),none⟩]
def kP:List GI:=[⟨(some 30),.rd (.mv (.t 6)),none⟩,
 ⟨(some 31),.rd (.bin .add (.t 30) (.k (.a (.c (.lf (.int .i64 1)))))),none⟩,
 ⟨(some 6),.rd (.mv (.t 31)),none⟩]
def uL:List GI:=[⟨(some 46),.wr (.lit 1 0 [.lf (.int .u8 0)] []),none⟩,
 ⟨(some 47),.rd (.mv (.t 5)),none⟩,
 ⟨(some 48),.wr (.app 1 1 [.lf (.int .u8 0)] (.t 46) (.t 47)),none⟩,
 ⟨(some 4),.rd (.mv (.t 48)),none⟩]
def uD:Stm:=(.seq (.reg uE) (.seq (.seq (.reg uF) (.cond (.t 18) (.seq (.reg kO) .ret) .skip)) (.seq (.reg uG) (.seq (.seq (.reg uH) (.block 0 (.loop (.seq (.seq (.reg uI) (.cond (.t 29) .skip (.exit 0))) (.seq (.block 1 (.seq (.reg uJ) (.cond (.t 39) (.reg uK) .skip))) (.reg kP)))))) (.seq (.reg uL) .ret)))))
def Zox:(Tryz.f47.body.bind (Bu Tryz.prog Tryz.f47.ntmps))=some uD:=by kernel_rfl
section
set_option maxHeartbeats 1000000
set_option maxRecDepth 4000
def Zle(x a b:Int):Gp Tryz.prog 52 [.val false [(.rd,.lf (.int .i64 x))],.val false [(.rd,.lf (.int .i64 a))],.val false [(.rd,.lf (.int .i64 b))]] ⟨[(false,[.lf (.bool (decide (a<=x)&&decide (x<=b)))])],[],[]⟩:=
 Fi.ok (x,(a,b)) (decide (a<=x)&&decide (x<=b)) (by
  show BU (x,(a,b))=_;unfold BU Dk Ck;simp only;by_cases h:a<=x<;>simp[h,Ab]<;>rfl)
def Zlx(e:List (List UInt8))(d:List Wr)(g:Int)(m:Bool)(n:Int)(M:e.length<2^62)(N:d.length<2^62)(B:∀b∈e,b.length<2^45)(I:∀w∈d,w.2.length<2^45)(E:Gp Tryz.prog 60 [.val true [(.rd,.sl 1 (sD e)),(.rd,.sl 2 (wD d)),(.rd,.lf (.int .i64 g)),(.rd,.lf (.bool m))]] ⟨[(false,[.lf (.bool (CH e d g))])],[],[]⟩):Gp Tryz.prog 47 [.val true [(.rd,.sl 1 (sD e)),(.rd,.sl 2 (wD d)),(.rd,.lf (.int .i64 g)),(.rd,.lf (.bool m))],.val false [(.rd,.lf (.int .i64 n))]] ⟨[(false,[.sl 1 (bD (Pb e d g n))])],[],[]⟩:=by
 obtain⟨c,F,B⟩:=PZ Zox;refine W6 Tryz.func47 F B rfl (show 2<=49 by decide) ?_;clear F B c;simp only[BX,CA,flat,DM,Ke,Arg.cells,A1,A0,Bh,BY,C3,DL,LF,Ir,EJ,Ds,Iw,Aq,Ay,AT,AP,AV,AJ,Ib,A7,AL,AB,Nat.reduceAdd,AZ,dG];unfold uD;have G:IntKind.i64.wrap ((e.length:Int)-1)=(e.length:Int)-1:=Rr (by omega) (by omega);refine Ch ?_;refine C5 ?_;unfold uE;refine Ev (by intros;nofun) ?_;refine⟨_,rfl, ?_⟩
 try simp only[Bm,Vs.put,Bz,BR,BV,reduceIte,Nat.reduceEqDiff,Nat.reduceAdd]
 refine Ar (Su) ?_;simp only[B4,Bi,Bl,Vs.put,reduceIte,Nat.reduceEqDiff];refine Ch ?_;refine Ch ?_;refine C5 ?_;unfold uF
 first|refine Ar (O5 rfl rfl (AS rfl) rfl) ?_|refine Ar (O6 rfl rfl (rfl) (AS rfl) rfl) ?_
 try simp only[AP,AT,AJ,AV,A0,A1,AB,Aq,Ay,A7,AL,Nat.reduceAdd,Nat.reduceMul,Be,AM,AW,AZ,AQ,AD,AN]
 refine SZ ?_;simp only[A2,CB,St.opd,Vs.get,Vs.put,reduceIte,Nat.reduceEqDiff,Eg];refine⟨_,_,E,_,rfl,_,rfl,by simp[BD,B7],Gf (⟨rfl,.inl rfl,by simp[BD,B7],_,rfl,by simp,by first|rfl|(simp;done)|exact (F3 (by simp)).symm⟩) (Gf (⟨rfl,.inl rfl,by simp[BD,B7],_,rfl,by simp,by first|rfl|(simp;done)|exact (F3 (by simp)).symm⟩) (Gf (rfl) (Gf (rfl) (BG)))),_,rfl,_,rfl, ?_⟩;simp only[AU,FU,Js,Ey,DM,Ke,MG,Ji,AB,A0,A1,Aq,Ay,AV,AJ,AT,AP,BF,BC,C6,RT,G9,EK,Vs.put,reduceIte,Nat.reduceEqDiff,A7,Nat.reduceAdd,AW,AZ]
 try simp only[Bm,Vs.put,Bz,BR,BV,reduceIte,Nat.reduceEqDiff,Nat.reduceAdd]
 refine Ar (V2 rfl rfl) ?_;refine Ar (Cm rfl) ?_;refine bQ rfl (λh=>?_) (λh=>?_)
 .try simp only[h]
  try simp only[AA,D8,DN,CJ,Em,En,DO,Eb,Eh,Eo,Ep,Ei,Ej,CV,Ek,A6,CE,Ec,El]at h
  refine Jv rfl (by decide) ?_;refine Jv rfl (by decide) ?_;refine Jv rfl (by decide) ?_;refine Jv rfl (by decide) ?_;simp only[Vs.put,reduceIte,Nat.reduceEqDiff];refine Jv rfl (by decide) ?_;refine Jv rfl (by decide) ?_;refine Jv rfl (by decide) ?_;refine Ar (ZZ rfl rfl) ?_;simp only[B4,Bi,Bl,Vs.put,reduceIte,Nat.reduceEqDiff];refine HO rfl (λp=>?_) (λp=>?_)
  .try simp only[AA,D8,DN,CJ,Em,En,DO,Eb,Eh,Eo,Ep,Ei,Ej,CV,Ek,A6,CE,Ec,El]at p
   refine Ch ?_;refine C5 ?_;unfold kO;refine Ev (by intros;nofun) ?_;refine .inl ⟨_,rfl,_,rfl, ?_⟩;simp only[EO,AP,AT,AJ,AV,A0,A1,AB,Aq,Ay,A7,AL,Nat.reduceAdd,Nat.reduceMul,Be,AM,AW,AZ,AQ,AD,AN]
   try simp only[Bm,Vs.put,Bz,BR,BV,reduceIte,Nat.reduceEqDiff,Nat.reduceAdd]
   refine Ar (Cm rfl) ?_;simp only[B4,Bi,Bl,Vs.put,reduceIte,Nat.reduceEqDiff];refine K1 ?_;simp only[Bi,Bl,Fa,ev,St.opd,Vs.get,reduceIte,Nat.reduceEqDiff,Eg];rw[ba λJ=>by simp_all]
   first|exact SO rfl rfl rfl (Pk rfl (by simp))|exact Nu rfl rfl rfl (Pk rfl (by simp))
  exact H4 p (by simp at p)
 try simp only[h]
 try simp only[AA,D8,DN,CJ,Em,En,DO,Eb,Eh,Eo,Ep,Ei,Ej,CV,Ek,A6,CE,Ec,El]at h
 refine Ju rfl ?_;refine Ar (Cm rfl) ?_;refine Ju rfl ?_
 first|refine Ar (Dq rfl) ?_|refine Ar (Dr rfl) ?_
 try simp only[AP,AT,AJ,AV,A0,A1,AB,Aq,Ay,A7,AL,Nat.reduceAdd,Nat.reduceMul,Be,AM,AW,AZ,AQ,AD,AN]
 simp only[Vs.put,reduceIte,Nat.reduceEqDiff];refine Ju rfl ?_
 first|refine Ar (Fj rfl rfl rfl) ?_|refine Ar (DJ rfl rfl (rfl) rfl) ?_|refine Ar (DK rfl rfl (rfl) rfl) ?_
 try simp only[AP,AT,AJ,AV,A0,A1,AB,Aq,Ay,A7,AL,Nat.reduceAdd,Nat.reduceMul,Be,AM,AW,AZ,AQ,AD,AN]
 refine Ju rfl ?_
 first|refine Ar (V1 rfl) ?_|refine Ar (V0 rfl) ?_
 refine Ju rfl ?_;refine Ar (GT rfl rfl rfl) ?_;refine Ju rfl ?_;refine SZ ?_;simp only[A2,CB,St.opd,Vs.get,Vs.put,reduceIte,Nat.reduceEqDiff,Eg];simp only[G];refine⟨_,_,Zle n 0 ((e.length:Int)-1),_,rfl,_,rfl,by simp[BD,B7],Gf (rfl) (Gf (rfl) (Gf (rfl) (BG))),_,rfl,_,rfl, ?_⟩;simp only[AU,FU,Js,Ey,DM,Ke,MG,Ji,AB,A0,A1,Aq,Ay,AV,AJ,AT,AP,BF,BC,C6,RT,G9,EK,Vs.put,reduceIte,Nat.reduceEqDiff,A7,Nat.reduceAdd,AW,AZ]
 try simp only[Bm,Vs.put,Bz,BR,BV,reduceIte,Nat.reduceEqDiff,Nat.reduceAdd]
 refine Ju rfl ?_;refine Ar (V2 rfl rfl) ?_;refine Ar (ZY rfl rfl) ?_;simp only[Vs.put,reduceIte,Nat.reduceEqDiff];simp only[B4,Bi,Bl,Vs.put,reduceIte,Nat.reduceEqDiff];refine HO rfl (λp=>?_) (λp=>?_)
 .try simp only[AA,D8,DN,CJ,Em,En,DO,Eb,Eh,Eo,Ep,Ei,Ej,CV,Ek,A6,CE,Ec,El]at p
  refine Ch ?_;refine C5 ?_;unfold kO;refine Ev (by intros;nofun) ?_;refine .inl ⟨_,rfl,_,rfl, ?_⟩;simp only[EO,AP,AT,AJ,AV,A0,A1,AB,Aq,Ay,A7,AL,Nat.reduceAdd,Nat.reduceMul,Be,AM,AW,AZ,AQ,AD,AN]
  try simp only[Bm,Vs.put,Bz,BR,BV,reduceIte,Nat.reduceEqDiff,Nat.reduceAdd]
  refine Ar (Cm rfl) ?_;simp only[B4,Bi,Bl,Vs.put,reduceIte,Nat.reduceEqDiff];refine K1 ?_;simp only[Bi,Bl,Fa,ev,St.opd,Vs.get,reduceIte,Nat.reduceEqDiff,Eg];rw[ba λJ=>by omega]
  first|exact SO rfl rfl rfl (Pk rfl (by simp))|exact Nu rfl rfl rfl (Pk rfl (by simp))
 try simp only[AA,D8,DN,CJ,Em,En,DO,Eb,Eh,Eo,Ep,Ei,Ej,CV,Ek,A6,CE,Ec,El]at p
 obtain⟨k,rfl⟩:∃K:Nat,n=K:=⟨n.toNat,by omega⟩;have v:k<e.length:=by omega
 rw[tH h v];refine K2 ?_;simp only[Bi,Bl];refine Ch ?_;refine C5 ?_;unfold uG
 first|refine Ar (Dq rfl) ?_|refine Ar (Dr rfl) ?_
 try simp only[AP,AT,AJ,AV,A0,A1,AB,Aq,Ay,A7,AL,Nat.reduceAdd,Nat.reduceMul,Be,AM,AW,AZ,AQ,AD,AN]
 first|refine Ar (Fj rfl rfl rfl) ?_|refine Ar (DJ rfl rfl (rfl) rfl) ?_|refine Ar (DK rfl rfl (rfl) rfl) ?_
 try simp only[AP,AT,AJ,AV,A0,A1,AB,Aq,Ay,A7,AL,Nat.reduceAdd,Nat.reduceMul,Be,AM,AW,AZ,AQ,AD,AN]
 refine Ar (Cm rfl) ?_
 first|refine Ar (II rfl rfl rfl (by omega)) ?_|refine Ar (II rfl rfl rfl (by simp)) ?_
 simp only[Vs.put,reduceIte,Nat.reduceEqDiff]
 first|refine Ar (Fj rfl rfl rfl) ?_|refine Ar (DJ rfl rfl (QP v) rfl) ?_|refine Ar (DK rfl rfl (QP v) rfl) ?_|refine Ar (DJ rfl rfl (rfl) rfl) ?_|refine Ar (DK rfl rfl (rfl) rfl) ?_
 try simp only[AP,AT,AJ,AV,A0,A1,AB,Aq,Ay,A7,AL,Nat.reduceAdd,Nat.reduceMul,Be,AM,AW,AZ,AQ,AD,AN]
 refine Ar (Cm rfl) ?_;simp only[B4,Bi,Bl,Vs.put,reduceIte,Nat.reduceEqDiff];refine Ch ?_;refine Ch ?_;refine C5 ?_;unfold uH;refine Ar (Su) ?_;simp only[B4,Bi,Bl,Vs.put,reduceIte,Nat.reduceEqDiff];refine NF ?_;refine cZ [1,2,5,6] (α:=Nat×C×List UInt8) (λ(i,c,b)=>[(5,.a (.c c)),(6,.a (.c (.lf (.int .i64 (i:Nat)))))]) (λ(i,c,b)=>[(2,.bx [.rf 0 [] 1 0 e.length,.rf 1 [] 2 0 d.length,.lf (.int .i64 g),.lf (.bool m)]),(0,.im 1 (sD e)),(1,.im 2 (wD d))]) (3) (λ(i,c,b)=>i<=d.length/\Iv (d.take i) k e[k]=b/\((c=.rf 0 [(k,0)] 1 0 b.length/\b=e[k])\/∃j,∃u:j<d.length,c=.rf 1 [(j,1)] 1 0 b.length/\b=d[j].2)) (λ(i,c,b)=>d.length-i) (0,.rf 0 [(k,0)] 1 0 e[k].length,e[k]) [(2,2),(0,0),(1,1)] ?_ (by decide) ?_ ?_ ?_
 .exact⟨Cq _,rfl,.inl ⟨rfl,rfl⟩⟩
 .simp only[G1,Vs.get,GN,Vs.put,reduceIte,Nat.reduceEqDiff]
  repeat' (first|exact KU|refine KV ?_|refine KT rfl ?_ ?_)
  all_goals (try simp only[V.map,A.map,C4,Vs.get,reduceIte,Nat.reduceEqDiff,A2,CB])
  all_goals (try rfl)
 .repeat' (first|exact Lp|refine Du 2 rfl rfl ?_ ?_|refine Du 0 rfl rfl ?_ ?_|refine Du 1 rfl rfl ?_ ?_)
  all_goals (try simp only[HK,C4,Vs.get,reduceIte,Nat.reduceEqDiff,A2,CB])
  all_goals (try rfl)
 rintro ⟨i,c,b⟩ t;simp only[G1,Vs.get,GN,Vs.put,reduceIte,Nat.reduceEqDiff];obtain⟨L,q,o⟩:=t;have y:C4 [(2,2),(0,0),(1,1)] c=c:=by
  rcases o with ⟨rfl,_⟩|⟨j,u,rfl,_⟩<;>rfl
 refine Ch ?_;refine Ch ?_;refine C5 ?_;unfold uI;refine Ar (Cm rfl) ?_
 first|refine Ar (Dq rfl) ?_|refine Ar (Dr rfl) ?_
 try simp only[AP,AT,AJ,AV,A0,A1,AB,Aq,Ay,A7,AL,Nat.reduceAdd,Nat.reduceMul,Be,AM,AW,AZ,AQ,AD,AN]
 simp only[Vs.put,reduceIte,Nat.reduceEqDiff]
 first|refine Ar (Fj rfl rfl rfl) ?_|refine Ar (DJ rfl rfl (rfl) rfl) ?_|refine Ar (DK rfl rfl (rfl) rfl) ?_
 try simp only[AP,AT,AJ,AV,A0,A1,AB,Aq,Ay,A7,AL,Nat.reduceAdd,Nat.reduceMul,Be,AM,AW,AZ,AQ,AD,AN]
 first|refine Ar (V1 rfl) ?_|refine Ar (V0 rfl) ?_
 refine Ar (GT rfl rfl rfl) ?_;simp only[B4,Bi,Bl,Vs.put,reduceIte,Nat.reduceEqDiff];refine HO rfl (λD=>?_) (λD=>?_)
 .try simp only[AA,D8,DN,CJ,Em,En,DO,Eb,Eh,Eo,Ep,Ei,Ej,CV,Ek,A6,CE,Ec,El]at D
  have f:i<d.length:=by omega
  have z:IntKind.i64.wrap ((i:Int)+1)=((i+1:Nat):Int):=by rw[Rr (by omega) (by omega)];rfl
  refine K2 ?_;simp only[Bi,Bl];refine Ch ?_;refine NF ?_;refine Ch ?_;refine C5 ?_;unfold uJ
  first|refine Ar (Dq rfl) ?_|refine Ar (Dr rfl) ?_
  try simp only[AP,AT,AJ,AV,A0,A1,AB,Aq,Ay,A7,AL,Nat.reduceAdd,Nat.reduceMul,Be,AM,AW,AZ,AQ,AD,AN]
  first|refine Ar (Fj rfl rfl rfl) ?_|refine Ar (DJ rfl rfl (rfl) rfl) ?_|refine Ar (DK rfl rfl (rfl) rfl) ?_
  try simp only[AP,AT,AJ,AV,A0,A1,AB,Aq,Ay,A7,AL,Nat.reduceAdd,Nat.reduceMul,Be,AM,AW,AZ,AQ,AD,AN]
  simp only[Vs.put,reduceIte,Nat.reduceEqDiff];refine Ar (Cm rfl) ?_
  first|refine Ar (II rfl rfl rfl (by omega)) ?_|refine Ar (II rfl rfl rfl (by simp)) ?_
  first|refine Ar (Dq rfl) ?_|refine Ar (Dr rfl) ?_
  try simp only[AP,AT,AJ,AV,A0,A1,AB,Aq,Ay,A7,AL,Nat.reduceAdd,Nat.reduceMul,Be,AM,AW,AZ,AQ,AD,AN]
  first|refine Ar (Fj rfl rfl rfl) ?_|refine Ar (DJ rfl rfl (T9 f) rfl) ?_|refine Ar (DK rfl rfl (T9 f) rfl) ?_|refine Ar (DJ rfl rfl (rfl) rfl) ?_|refine Ar (DK rfl rfl (rfl) rfl) ?_
  try simp only[AP,AT,AJ,AV,A0,A1,AB,Aq,Ay,A7,AL,Nat.reduceAdd,Nat.reduceMul,Be,AM,AW,AZ,AQ,AD,AN]
  refine Ar (Cm rfl) ?_;simp only[Vs.put,reduceIte,Nat.reduceEqDiff];refine Ar (GT rfl rfl rfl) ?_;simp only[B4,Bi,Bl,Vs.put,reduceIte,Nat.reduceEqDiff];refine HO rfl (λs=>?_) (λs=>?_)
  .try simp only[AA,D8,DN,CJ,Em,En,DO,Eb,Eh,Eo,Ep,Ei,Ej,CV,Ek,A6,CE,Ec,El]at s
   refine C5 ?_;unfold uK
   first|refine Ar (Dq rfl) ?_|refine Ar (Dr rfl) ?_
   try simp only[AP,AT,AJ,AV,A0,A1,AB,Aq,Ay,A7,AL,Nat.reduceAdd,Nat.reduceMul,Be,AM,AW,AZ,AQ,AD,AN]
   first|refine Ar (Fj rfl rfl rfl) ?_|refine Ar (DJ rfl rfl (rfl) rfl) ?_|refine Ar (DK rfl rfl (rfl) rfl) ?_
   try simp only[AP,AT,AJ,AV,A0,A1,AB,Aq,Ay,A7,AL,Nat.reduceAdd,Nat.reduceMul,Be,AM,AW,AZ,AQ,AD,AN]
   refine Ar (Cm rfl) ?_
   first|refine Ar (II rfl rfl rfl (by omega)) ?_|refine Ar (II rfl rfl rfl (by simp)) ?_
   simp only[Vs.put,reduceIte,Nat.reduceEqDiff]
   first|refine Ar (Dq rfl) ?_|refine Ar (Dr rfl) ?_
   try simp only[AP,AT,AJ,AV,A0,A1,AB,Aq,Ay,A7,AL,Nat.reduceAdd,Nat.reduceMul,Be,AM,AW,AZ,AQ,AD,AN]
   first|refine Ar (Fj rfl rfl rfl) ?_|refine Ar (DJ rfl rfl (T9 f) rfl) ?_|refine Ar (DK rfl rfl (T9 f) rfl) ?_|refine Ar (DJ rfl rfl (rfl) rfl) ?_|refine Ar (DK rfl rfl (rfl) rfl) ?_
   try simp only[AP,AT,AJ,AV,A0,A1,AB,Aq,Ay,A7,AL,Nat.reduceAdd,Nat.reduceMul,Be,AM,AW,AZ,AQ,AD,AN]
   refine Ar (Cm rfl) ?_;simp only[B4,Bi,Bl,Vs.put,reduceIte,Nat.reduceEqDiff];refine C5 ?_;unfold kP;refine Ar (Cm rfl) ?_;refine Ar (GT rfl rfl rfl) ?_;simp only[Vs.put,reduceIte,Nat.reduceEqDiff];refine Ar (Cm rfl) ?_;simp only[B4,Bi,Bl,Vs.put,reduceIte,Nat.reduceEqDiff]
   try simp only[Bi,Bl]
   refine⟨(i+1,.rf 1 [(i,1)] 1 0 d[i].2.length,d[i].2), ?_, ?_,rfl,[(2,2),(0,0),(1,1)],by decide, ?_, ?_⟩
   .exact⟨by omega,tF f s,.inr ⟨i,f,rfl,rfl⟩⟩
   .first|omega|(dsimp only;omega)
   .simp only[G1,Vs.get,GN,Vs.put,reduceIte,Nat.reduceEqDiff]
    repeat' (first|exact KU|refine KV ?_|refine KT rfl ?_ ?_)
    all_goals (try simp only[V.map,A.map,C4,Vs.get,reduceIte,Nat.reduceEqDiff,A2,CB,z])
   repeat' (first|exact Lp|refine Du 2 rfl rfl ?_ ?_|refine Du 0 rfl rfl ?_ ?_|refine Du 1 rfl rfl ?_ ?_)
   all_goals (try simp only[HK,C4,Vs.get,reduceIte,Nat.reduceEqDiff,A2,CB,z])
  try simp only[AA,D8,DN,CJ,Em,En,DO,Eb,Eh,Eo,Ep,Ei,Ej,CV,Ek,A6,CE,Ec,El]at s
  refine K2 ?_;simp only[Bi,Bl];refine C5 ?_;unfold kP;refine Ar (Cm rfl) ?_;refine Ar (GT rfl rfl rfl) ?_;refine Ar (Cm rfl) ?_;simp only[B4,Bi,Bl,Vs.put,reduceIte,Nat.reduceEqDiff]
  try simp only[Bi,Bl]
  refine⟨(i+1,c,b), ?_, ?_,rfl,[(2,2),(0,0),(1,1)],by decide, ?_, ?_⟩
  .exact⟨by omega,(tG f s).trans q,o⟩
  .first|omega|(dsimp only;omega)
  .simp only[G1,Vs.get,GN,Vs.put,reduceIte,Nat.reduceEqDiff]
   repeat' (first|exact KU|refine KV ?_|refine KT rfl ?_ ?_)
   all_goals (try simp only[V.map,A.map,C4,Vs.get,reduceIte,Nat.reduceEqDiff,A2,CB,z])
   exact DU (λx=>V.a (A.c x)) y
  repeat' (first|exact Lp|refine Du 2 rfl rfl ?_ ?_|refine Du 0 rfl rfl ?_ ?_|refine Du 1 rfl rfl ?_ ?_)
  all_goals (try simp only[HK,C4,Vs.get,reduceIte,Nat.reduceEqDiff,A2,CB,z])
 try simp only[AA,D8,DN,CJ,Em,En,DO,Eb,Eh,Eo,Ep,Ei,Ej,CV,Ek,A6,CE,Ec,El]at D
 have f:i=d.length:=by omega
 subst f;rw[Jd]at q;rw[q];have H:b.length<2^45:=by
  rcases o with ⟨_,rfl⟩|⟨j,u,_,rfl⟩
  .exact B _ (EN v)
  exact I _ (EN u)
 refine Ra ?_;simp only[Bi,Bl,BF,Nat.reduceEqDiff,BC,reduceIte];refine Ch ?_;refine C5 ?_;unfold uL;refine Ev (by intros;nofun) ?_;refine .inl ⟨_,rfl,_,rfl, ?_⟩;simp only[EO,AP,AT,AJ,AV,A0,A1,AB,Aq,Ay,A7,AL,Nat.reduceAdd,Nat.reduceMul,Be,AM,AW,AZ,AQ,AD,AN]
 try simp only[Bm,Vs.put,Bz,BR,BV,reduceIte,Nat.reduceEqDiff,Nat.reduceAdd]
 refine Ar (Cm rfl) ?_;simp only[Vs.put,reduceIte,Nat.reduceEqDiff];refine Ev (by intros;nofun) ?_;rcases o with ⟨rfl,r⟩|⟨j,u,rfl,r⟩
 .subst r;refine nT (l:=[]) (r2:=e[k]) rfl rfl rfl rfl (by decide) (by simp only[St.node,Vs.get,reduceIte,Nat.reduceEqDiff,AH,QP v,DF,AD]) (by simp) (by simp;omega) ?_;simp only[Bm,Vs.put,Bz,reduceIte,Nat.reduceEqDiff,BR,AW,AJ,Jd,A0,Ay,Nat.reduceAdd,A7];refine Ar (Cm rfl) ?_;simp only[B4,Bi,Bl,Vs.put,reduceIte,Nat.reduceEqDiff];refine K1 ?_;simp only[Bi,Bl,Fa,ev,St.opd,Vs.get,reduceIte,Nat.reduceEqDiff,Eg]
  first|exact SO rfl rfl rfl (Pk rfl (by simp))|exact Nu rfl rfl rfl (Pk rfl (by simp))
 subst r;refine nT (l:=[]) (r2:=d[j].2) rfl rfl rfl rfl (by decide) (by simp only[St.node,Vs.get,reduceIte,Nat.reduceEqDiff,AH,T9 u,DF,AD,AN]) (by simp) (by simp;omega) ?_;simp only[Bm,Vs.put,Bz,reduceIte,Nat.reduceEqDiff,BR,AW,AJ,Jd,A0,Ay,Nat.reduceAdd,A7];refine Ar (Cm rfl) ?_;simp only[B4,Bi,Bl,Vs.put,reduceIte,Nat.reduceEqDiff];refine K1 ?_;simp only[Bi,Bl,Fa,ev,St.opd,Vs.get,reduceIte,Nat.reduceEqDiff,Eg]
 first|exact SO rfl rfl rfl (Pk rfl (by simp))|exact Nu rfl rfl rfl (Pk rfl (by simp))
end
noncomputable def pR:SEnt Tryz.prog:=⟨47,[(true,DR),(false,.I .i64)],[(false,.L .Y)],PA,λx y a=>by
 unfold PA at a;obtain⟨_,b,a⟩:=G6 a;obtain⟨h,a⟩:=Es a;have h:=U1 h;have a:=Option.some.inj a;subst a;obtain⟨b,c⟩:=Zc b;have c:=Option.some.inj c;subst c;exact Zlx x.1.1 x.1.2.1 x.1.2.2.1 x.1.2.2.2 x.2 h.1 h.2.1 h.2.2.1 h.2.2.2 (gI.ok _ _ b)⟩
def Zev x:fX [.see Fi] [] .d Tryz.f93 [(false,.L .Y),(false,.I .i64)] [(false,.I .i64),(false,.I .i64),(false,.B)] x=M1 x:=by kernel_rfl
def gJ:=eS Tryz.func93 (by kernel_rfl) Zev
def Zer x:fX [.see gJ,.see ZL,.see Fi] [] .d Tryz.f46 [(false,.L .Y)] [(false,.I .i64),(false,.I .i64),(false,.B)] x=Uf x:=by
 kernel_rfl
def zg:=eS Tryz.func46 (by kernel_rfl) Zer
def Zft x:fG [] [] .d Tryz.f99 [⟨true,false,Lt,[.rx,.rd,.rd],(some I5)⟩] [(false,.I .i64)] x=Gl x:=by kernel_rfl
def ZM:=eG Tryz.func99 (by kernel_rfl) Zft
def Zf1 x:fG [.gen ZM] [] .d Tryz.f98 [⟨true,false,Lt,[.rx,.rd,.rd],(some I5)⟩] [(false,.I .i64)] x=PE x:=by kernel_rfl
def Zaf:=eG Tryz.func98 (by kernel_rfl) Zf1
def Zeu x:fX [.see gJ] [] .d Tryz.f138 [(false,.L .Y),(false,.I .i64)] [(false,.S),(false,.I .i64),(false,.B)] x=XI x:=by kernel_rfl
def zi:=eS Tryz.func138 (by kernel_rfl) Zeu
def Zfz x:fG [.see zi] [] .d Tryz.f101 [⟨true,false,Lt,[.rx,.rd,.rd],(some I5)⟩] [(false,.S)] x=L1 x:=by kernel_rfl
def gT:=eG Tryz.func101 (by kernel_rfl) Zfz
def Zfw x:fG [.gen ZM,.gen gT] [] .d Tryz.f136 [⟨true,false,Lt,[.rx,.rd,.rd],(some I5)⟩] [(true,BH)] x=RB x:=by
 kernel_rfl
def Zab:=eG Tryz.func136 (by kernel_rfl) Zfw
def Zfx x:fG [.gen gT,.gen ZM,.see ZP,.gen Zab,.see Vx] [] (.sq none .d (.sq none .d (.sq none .d (.sq none .d (.sq
 none .d (.sq none .d (.sq (some [.bx 0 [.K,.L (.I .i64),.L .B],.kt 2,.bx 3 [.K,.L (.I .i64),.O .Y,.K,.K,.K,.K]]) .d (.sq (some [.bx 0 [.K,.L (.I .i64),.L .B],.kt 2,
 .bx 3 [.K,.K,.K,.L (.I .i64),.O .Y,.K,.K]]) .d .d)))))))) Tryz.f100 [⟨true,false,Lt,[.rx,.rd,.rd],(some I5)⟩] [(true,Bs)] x=PD x:=by kernel_rfl
def Zac:=eG Tryz.func100 (by kernel_rfl) Zfx
def Zes x:fX [.gen Zaf,.gen ZM,.gen Zac,.gen gT,.see gJ,.see ZL,.see gN] [] (.sq none .d (.sq none .d (.sq
 none .d (.sq none .d (.sq none .d (.sq none .d (.sq none .d (.sq (some [.kt 0,.kt 4,.kt 6,.kt 7,.kt 8,.kt 9,.bx 10 [.K,.L .S,.L (.I .i64),.O .Y,.L (.I .i64),.O .Y,.L
 (.I .i64),.L .B,.L .S,.L (.I .i64),.K,.K,.K],.bx 24 [.K,.L (.I .i64),.L .B]]) .d .d)))))))) Tryz.f53 [(false,.L .Y)] [(false,.I .i64),(false,.I .i64),(true,DC),
 (false,.B)] x=R3 x:=by kernel_rfl
def zh:=eS Tryz.func53 (by kernel_rfl) Zes
end
end Go.Vs
