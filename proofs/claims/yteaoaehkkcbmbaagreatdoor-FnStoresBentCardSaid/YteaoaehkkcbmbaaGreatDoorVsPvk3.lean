import Derived.Test.YteaoaehkkcbmbaaGreatDoorVsPvk2
set_option linter.all false
namespace Go.Vs
open Go.Proofs
set_option maxRecDepth 100000
noncomputable section
def uN:List GI:=[⟨(some 3),.rd (.mv (.t 0)),none⟩,
 ⟨(some 4),.rd (.nilc (.t 3)),none⟩,
 ⟨(some 5),.rd (.fad 3 (.t 4)),none⟩,
 ⟨(some 6),.rd (.load none (.t 5)),none⟩,
 ⟨(some 7),.rd (.mv (.t 6)),none⟩,
 ⟨(some 8),.rd (.mv (.t 0)),(some (7,false))⟩,
 ⟨(some 9),.wr (.call 127 [(.t 8)]),(some (7,false))⟩,
 ⟨(some 10),.rd (.un .not (.t 9)),(some (7,false))⟩,
 ⟨(some 11),.rd (.pick (.t 7) (.k (.a (.c (.lf (.bool true))))) (.t 10)),none⟩]
def uO:List GI:=[⟨(some 2),.rd (.mv (.k (.a (.c (.lf (.int .i64 0)))))),none⟩]
def uP:List GI:=[⟨(some 12),.rd (.mv (.t 2)),none⟩,
 ⟨(some 13),.rd (.mv (.t 0)),none⟩,
 ⟨(some 14),.rd (.nilc (.t 13)),none⟩,
 ⟨(some 15),.rd (.fad 1 (.t 14)),none⟩,
 ⟨(some 16),.rd (.load none (.t 15)),none⟩,
 ⟨(some 17),.rd (.len (.t 16)),none⟩,
 ⟨(some 18),.rd (.bin .lss (.t 12) (.t 17)),none⟩]
def uR:List DI:=[⟨⟨(some 21),.rd (.mv (.t 0)),none⟩,[],false,0,0⟩,
 ⟨⟨(some 22),.rd (.nilc (.t 21)),none⟩,[0],false,0,0⟩,
 ⟨⟨(some 23),.rd (.fad 0 (.t 22)),none⟩,[1,0],false,0,0⟩,
 ⟨⟨(some 24),.rd (.load none (.t 23)),none⟩,[2,1,0],false,0,0⟩,
 ⟨⟨(some 25),.rd (.mv (.t 0)),none⟩,[],false,0,0⟩,
 ⟨⟨(some 26),.rd (.nilc (.t 25)),none⟩,[4],false,0,0⟩,
 ⟨⟨(some 27),.rd (.fad 1 (.t 26)),none⟩,[5,4],false,0,0⟩,
 ⟨⟨(some 28),.rd (.load none (.t 27)),none⟩,[6,5,4],false,0,0⟩,
 ⟨⟨(some 29),.rd (.mv (.t 2)),none⟩,[],false,0,0⟩,
 ⟨⟨(some 30),.rd (.iad 2 (.t 28) (.t 29)),none⟩,[7,8,6,5,4],false,0,0⟩,
 ⟨⟨(some 31),.rd (.fad 0 (.t 30)),none⟩,[9,7,8,6,5,4],false,0,0⟩,
 ⟨⟨(some 32),.rd (.load none (.t 31)),none⟩,[10,9,7,8,6,5,4],false,0,0⟩,
 ⟨⟨(some 33),.rd (.mv (.t 0)),none⟩,[],false,0,0⟩,
 ⟨⟨(some 34),.rd (.nilc (.t 33)),none⟩,[12],false,0,0⟩,
 ⟨⟨(some 35),.rd (.fad 1 (.t 34)),none⟩,[13,12],false,0,0⟩,
 ⟨⟨(some 36),.rd (.load none (.t 35)),none⟩,[14,13,12],false,0,0⟩,
 ⟨⟨(some 37),.rd (.mv (.t 2)),none⟩,[],false,0,0⟩,
 ⟨⟨(some 38),.rd (.iad 2 (.t 36) (.t 37)),none⟩,[15,16,14,13,12],false,0,0⟩,
 ⟨⟨(some 39),.rd (.fad 1 (.t 38)),none⟩,[17,15,16,14,13,12],false,0,0⟩,
 ⟨⟨(some 40),.rd (.load none (.t 39)),none⟩,[18,17,15,16,14,13,12],false,0,0⟩,
 ⟨⟨(some 41),.rd (.iad 1 (.t 24) (.t 32)),none⟩,[3,11,19,2,1,0,10,9,7,8,6,5,4,18,17,15,16,14,13,12],false,0,0⟩,
 ⟨⟨none,.wr (.store 1 (.t 41) (.t 40)),none⟩,[20,3,11,19,2,1,0,10,9,7,8,6,5,4,18,17,15,16,14,13,12],true,0,0⟩]
def uQ:List GI:=[⟨(some 19),.rd (.mv (.t 2)),none⟩,
 ⟨(some 20),.rd (.bin .add (.t 19) (.k (.a (.c (.lf (.int .i64 1)))))),none⟩,
 ⟨(some 2),.rd (.mv (.t 20)),none⟩]
def uS:List GI:=[⟨(some 42),.rd (.mv (.t 0)),none⟩,
 ⟨(some 43),.wr (.lit 2 0 [.lf (.int .i64 0),.nl 1] []),none⟩,
 ⟨(some 44),.rd (.nilc (.t 42)),none⟩,
 ⟨(some 45),.rd (.fad 1 (.t 44)),none⟩,
 ⟨none,.wr (.store 1 (.t 45) (.t 43)),none⟩]
def uM:Stm:=(.seq (.seq (.reg uN) (.cond (.t 11) .ret .skip)) (.seq (.seq (.reg uO) (.block 0 (.loop (.seq (.seq (.reg uP) (.cond (.t 18) .skip (.exit 0))) (.seq (.block 1 (.drw uR)) (.reg uQ)))))) (.reg uS)))
def Zoy:(Tryz.f88.body.bind (Bu Tryz.prog Tryz.f88.ntmps))=some uM:=by kernel_rfl
section
set_option maxHeartbeats 1000000
set_option maxRecDepth 4000
def Zlf(d:List (List UInt8))(c:List Wr)(a:Int)(b:Bool)(i:-1<=a/\a<=1000):Gp Tryz.prog 127 [.ptr [(.rx,.sl 1 (sD d)),(.rx,.sl 2 (wD c)),(.rd,.lf (.int .i64 a)),(.rd,.lf (.bool b))]] ⟨[(false,[.lf (.bool (Kr a))])],[],[[.lf (.int .i64 (Gx a)),.lf (.bool (N1 a b))]]⟩:=
 pU.ok (d,(c,(a,b))) (Kr a,(Gx a,N1 a b)) (by
  show R9 (d,(c,(a,b)))=_;unfold R9 Kr Gx N1;simp only;by_cases f:a=0
  .subst f;rfl
  have h:(a==0)=false:=by simp[f]
  rw[show Ak a 0=false from by simp[Ak,f],show ∀x y:Option (Bool×(Int×Bool)),Ab false x y=y from λ_ _=>rfl];by_cases g:0<a
  .have e:Br .i64 a 1=a-1:=Rr (by omega) (by omega);rw[show Cr a 0=true from by simp[Cr,g],show ∀x y:Option (Bool×(Int×Bool)),Ab true x y=x from λ_ _=>rfl,e];simp[h,f,g];rfl
  .rw[show Cr a 0=false from by simp[Cr];omega,show ∀x y:Option (Bool×(Int×Bool)),Ab false x y=y from λ_ _=>rfl];simp[h,f,g];rfl)
def Zly(d:List (List UInt8))(b:List Wr)(e:Int)(f:Bool)(y:-1<=e/\e<=1000)(B:d.length<2^40)(C:b.length<2^40)(hd:∀w∈b,0<=w.1/\w.1<=(d.length:Int)-1):Gp Tryz.prog 88 [.ptr [(.ow,.sl 1 (sD d)),(.ow,.sl 2 (wD b)),(.rd,.lf (.int .i64 e)),(.rd,.lf (.bool f))]] ⟨[],[],[[.sl 1 (sD (E6 d b e f).1),.sl 2 (wD (E6 d b e f).2.1),.lf (.int .i64 (E6 d b e f).2.2.1),.lf (.bool (E6 d b e f).2.2.2)]]⟩:=by
 obtain⟨c,s,v⟩:=PZ Zoy;refine W6 Tryz.func88 s v rfl (show 1<=46 by decide) ?_;clear s v c;simp only[BX,CA,flat,DM,Ke,Arg.cells,A1,A0,Bh,BY,C3,DL,LF,Ir,EJ,Ds,Iw,Aq,Ay,AT,AP,AV,AJ,Ib,A7,AL,AB,Nat.reduceAdd,AZ,dG];unfold uM;refine Ch ?_;refine Ch ?_;refine C5 ?_;unfold uN;refine Ar (Cm rfl) ?_
 first|refine Ar (Sv rfl) ?_|refine Ar (Sx rfl) ?_
 first|refine Ar (Dq rfl) ?_|refine Ar (Dr rfl) ?_
 try simp only[AP,AT,AJ,AV,A0,A1,AB,Aq,Ay,A7,AL,Nat.reduceAdd,Nat.reduceMul,Be,AM,AW,AZ,AQ,AD,AN]
 first|refine Ar (Fj rfl rfl rfl) ?_|refine Ar (DJ rfl rfl (rfl) rfl) ?_|refine Ar (DK rfl rfl (rfl) rfl) ?_
 try simp only[AP,AT,AJ,AV,A0,A1,AB,Aq,Ay,A7,AL,Nat.reduceAdd,Nat.reduceMul,Be,AM,AW,AZ,AQ,AD,AN]
 refine Ar (Cm rfl) ?_;simp only[Vs.put,reduceIte,Nat.reduceEqDiff];refine bQ rfl (λl=>?_) (λl=>?_)
 .try simp only[l]
  try simp only[AA,D8,DN,CJ,Em,En,DO,Eb,Eh,Eo,Ep,Ei,Ej,CV,Ek,A6,CE,Ec,El]at l
  subst l;refine Jv rfl (by decide) ?_;refine Jv rfl (by decide) ?_;refine Jv rfl (by decide) ?_;simp only[Vs.put,reduceIte,Nat.reduceEqDiff];refine Ar (ZZ rfl rfl) ?_;simp only[B4,Bi,Bl,Vs.put,reduceIte,Nat.reduceEqDiff];refine HO rfl (λh=>?_) (λh=>?_)
  .try simp only[AA,D8,DN,CJ,Em,En,DO,Eb,Eh,Eo,Ep,Ei,Ej,CV,Ek,A6,CE,Ec,El]at h
   refine K1 ?_;simp only[Bi,Bl,Fa,ev,St.opd,Vs.get,reduceIte,Nat.reduceEqDiff,Eg];rw[qI rfl];refine jB rfl rfl rfl ?_ rfl (I0 rfl (by simp) (I0 rfl (by simp) (I1 (I1 rfl)))) rfl rfl;exact Kz rfl (Kz rfl (Kz rfl (Kz rfl kG)))
  exact H4 h (by simp at h)
 try simp only[l]
 try simp only[AA,D8,DN,CJ,Em,En,DO,Eb,Eh,Eo,Ep,Ei,Ej,CV,Ek,A6,CE,Ec,El]at l
 subst l;refine Ju rfl ?_;refine Ar (Cm rfl) ?_;simp only[Vs.put,reduceIte,Nat.reduceEqDiff];refine Ju rfl ?_;refine SZ ?_;simp only[A2,CB,St.opd,Vs.get,Vs.put,reduceIte,Nat.reduceEqDiff,Eg];refine⟨_,_,Zlf d b e false y,_,rfl,_,rfl,by simp[BD,B7],Gf (⟨rfl,.inl rfl,by simp[BD,B7],_,rfl,by simp,by first|rfl|(simp;done)|exact (F3 (by simp)).symm⟩) (Gf (⟨rfl,.inl rfl,by simp[BD,B7],_,rfl,by simp,by first|rfl|(simp;done)|exact (F3 (by simp)).symm⟩) (Gf (rfl) (Gf (rfl) (BG)))),_,rfl,_,rfl, ?_⟩;simp only[AU,FU,Js,Ey,DM,Ke,MG,Ji,AB,A0,A1,Aq,Ay,AV,AJ,AT,AP,BF,BC,C6,RT,G9,EK,Vs.put,reduceIte,Nat.reduceEqDiff,A7,Nat.reduceAdd,AW,AZ]
 try simp only[Bm,Vs.put,Bz,BR,BV,reduceIte,Nat.reduceEqDiff,Nat.reduceAdd]
 refine Ju rfl ?_;refine Ar (V2 rfl rfl) ?_;refine Ar (ZY rfl rfl) ?_;simp only[B4,Bi,Bl,Vs.put,reduceIte,Nat.reduceEqDiff];refine HO rfl (λh=>?_) (λh=>?_)
 .have n:e=0:=by simpa[Kr] using h
  obtain⟨z,q,_⟩:=bN (down:=false) n;simp only[z,q];rw[qJ n];refine K1 ?_;simp only[Bi,Bl,Fa,ev,St.opd,Vs.get,reduceIte,Nat.reduceEqDiff,Eg];refine jB rfl rfl rfl ?_ rfl (I0 rfl (by simp) (I0 rfl (by simp) (I1 (I1 rfl)))) rfl rfl;exact Kz rfl (Kz rfl (Kz rfl (Kz rfl kG)))
 have n:¬e=0:=by simpa[Kr] using h
 obtain⟨q,_⟩:=bM (down:=false) n;simp only[q];rw[aJ n];refine K2 ?_;simp only[Bi,Bl];refine Ch ?_;refine Ch ?_;refine C5 ?_;unfold uO;refine Ar (Su) ?_;simp only[B4,Bi,Bl,Vs.put,reduceIte,Nat.reduceEqDiff];refine NF ?_;refine cZ [0,2] (α:=Nat) (λi=>[(2,.a (.c (.lf (.int .i64 (i:Nat)))))]) (λi=>[(0,.bx [.rf 1 [] 1 0 d.length,.rf 2 [] 2 0 b.length,.lf (.int .i64 (Gx e)),.lf (.bool false)]),(1,.tr 1 (sD (JA d (b.take i)))),(2,.tr 2 (wH b i))]) (3) (λi=>i<=b.length) (λi=>b.length-i) (0) [(0,0),(1,1),(2,2)] ?_ (by decide) ?_ ?_ ?_
 .exact Cq _
 .simp only[G1,Vs.get,GN,Vs.put,reduceIte,Nat.reduceEqDiff]
  repeat' (first|exact KU|refine KV ?_|refine KT rfl ?_ ?_)
  all_goals (try simp only[V.map,A.map,C4,Vs.get,reduceIte,Nat.reduceEqDiff,A2,CB])
  all_goals (try rfl)
 .repeat' (first|exact Lp|refine Du 0 rfl rfl ?_ ?_|refine Du 1 rfl rfl ?_ ?_|refine Du 2 rfl rfl ?_ ?_)
  all_goals (try simp only[HK,C4,Vs.get,reduceIte,Nat.reduceEqDiff,A2,CB])
  all_goals (try rfl)
 rintro i t;simp only[G1,Vs.get,GN,Vs.put,reduceIte,Nat.reduceEqDiff];refine Ch ?_;refine Ch ?_;refine C5 ?_;unfold uP;refine Ar (Cm rfl) ?_;refine Ar (Cm rfl) ?_;simp only[Vs.put,reduceIte,Nat.reduceEqDiff]
 first|refine Ar (Sv rfl) ?_|refine Ar (Sx rfl) ?_
 first|refine Ar (Dq rfl) ?_|refine Ar (Dr rfl) ?_
 try simp only[AP,AT,AJ,AV,A0,A1,AB,Aq,Ay,A7,AL,Nat.reduceAdd,Nat.reduceMul,Be,AM,AW,AZ,AQ,AD,AN]
 first|refine Ar (Fj rfl rfl rfl) ?_|refine Ar (DJ rfl rfl (rfl) rfl) ?_|refine Ar (DK rfl rfl (rfl) rfl) ?_
 try simp only[AP,AT,AJ,AV,A0,A1,AB,Aq,Ay,A7,AL,Nat.reduceAdd,Nat.reduceMul,Be,AM,AW,AZ,AQ,AD,AN]
 first|refine Ar (V1 rfl) ?_|refine Ar (V0 rfl) ?_
 refine Ar (GT rfl rfl rfl) ?_;simp only[Vs.put,reduceIte,Nat.reduceEqDiff];simp only[B4,Bi,Bl,Vs.put,reduceIte,Nat.reduceEqDiff];refine HO rfl (λo=>?_) (λo=>?_)
 .try simp only[AA,D8,DN,CJ,Em,En,DO,Eb,Eh,Eo,Ep,Ei,Ej,CV,Ek,A6,CE,Ec,El]at o
  have g:i<b.length:=by omega
  have r:IntKind.i64.wrap ((i:Int)+1)=((i+1:Nat):Int):=by rw[Rr (by omega) (by omega)];rfl
  have x:=hd _ (EN g);obtain⟨k,u⟩:∃k:Nat,b[i].1=k:=⟨b[i].1.toNat,by omega⟩;have p:k<d.length:=by omega
  have m:k<(JA d (b.take i)).length:=by rw[qL];exact p
  refine K2 ?_;simp only[Bi,Bl];refine Ch ?_;refine NF ?_;refine cY rfl rfl ?_;unfold uR;refine Cn (Cm rfl) rfl ?_
  first|refine Cn (Sv rfl) rfl ?_|refine Cn (Sx rfl) rfl ?_
  first|refine Cn (Dq rfl) rfl ?_|refine Cn (Dr rfl) rfl ?_
  try simp only[AP,AT,AJ,AV,A0,A1,AB,Aq,Ay,A7,AL,Nat.reduceAdd,Nat.reduceMul,Be,AM,AW,AZ,AQ,AD,AN]
  first|refine Cg (Fj rfl rfl rfl) BG (Ce.2 (AS rfl)) ?_|refine Cg (DJ rfl rfl (rfl) rfl) BG (Ce.2 (AS rfl)) ?_|refine Cg (DK rfl rfl (rfl) rfl) BG (Ce.2 (AS rfl)) ?_
  try simp only[AP,AT,AJ,AV,A0,A1,AB,Aq,Ay,A7,AL,Nat.reduceAdd,Nat.reduceMul,Be,AM,AW,AZ,AQ,AD,AN]
  refine Cn (Cm rfl) rfl ?_;simp only[Vs.put,reduceIte,Nat.reduceEqDiff]
  first|refine Cn (Sv rfl) rfl ?_|refine Cn (Sx rfl) rfl ?_
  first|refine Cn (Dq rfl) rfl ?_|refine Cn (Dr rfl) rfl ?_
  try simp only[AP,AT,AJ,AV,A0,A1,AB,Aq,Ay,A7,AL,Nat.reduceAdd,Nat.reduceMul,Be,AM,AW,AZ,AQ,AD,AN]
  first|refine Cg (Fj rfl rfl rfl) BG (Ce.2 (AS rfl)) ?_|refine Cg (DJ rfl rfl (rfl) rfl) BG (Ce.2 (AS rfl)) ?_|refine Cg (DK rfl rfl (rfl) rfl) BG (Ce.2 (AS rfl)) ?_
  try simp only[AP,AT,AJ,AV,A0,A1,AB,Aq,Ay,A7,AL,Nat.reduceAdd,Nat.reduceMul,Be,AM,AW,AZ,AQ,AD,AN]
  refine Cn (Cm rfl) rfl ?_;refine Cn (II rfl rfl rfl (by omega)) rfl ?_;simp only[Vs.put,reduceIte,Nat.reduceEqDiff]
  first|refine Cn (Dq rfl) rfl ?_|refine Cn (Dr rfl) rfl ?_
  try simp only[AP,AT,AJ,AV,A0,A1,AB,Aq,Ay,A7,AL,Nat.reduceAdd,Nat.reduceMul,Be,AM,AW,AZ,AQ,AD,AN]
  first|refine Cg (Fj rfl rfl rfl) BG (Ce.2 (AS rfl)) ?_|refine Cg (DJ rfl rfl (TA g) rfl) BG (Ce.2 (AS rfl)) ?_|refine Cg (DK rfl rfl (TA g) rfl) BG (Ce.2 (AS rfl)) ?_|refine Cg (DJ rfl rfl (rfl) rfl) BG (Ce.2 (AS rfl)) ?_|refine Cg (DK rfl rfl (rfl) rfl) BG (Ce.2 (AS rfl)) ?_
  try simp only[AP,AT,AJ,AV,A0,A1,AB,Aq,Ay,A7,AL,Nat.reduceAdd,Nat.reduceMul,Be,AM,AW,AZ,AQ,AD,AN]
  refine Cn (Cm rfl) rfl ?_
  first|refine Cn (Sv rfl) rfl ?_|refine Cn (Sx rfl) rfl ?_
  first|refine Cn (Dq rfl) rfl ?_|refine Cn (Dr rfl) rfl ?_
  try simp only[AP,AT,AJ,AV,A0,A1,AB,Aq,Ay,A7,AL,Nat.reduceAdd,Nat.reduceMul,Be,AM,AW,AZ,AQ,AD,AN]
  simp only[Vs.put,reduceIte,Nat.reduceEqDiff]
  first|refine Cg (Fj rfl rfl rfl) BG (Ce.2 (AS rfl)) ?_|refine Cg (DJ rfl rfl (rfl) rfl) BG (Ce.2 (AS rfl)) ?_|refine Cg (DK rfl rfl (rfl) rfl) BG (Ce.2 (AS rfl)) ?_
  try simp only[AP,AT,AJ,AV,A0,A1,AB,Aq,Ay,A7,AL,Nat.reduceAdd,Nat.reduceMul,Be,AM,AW,AZ,AQ,AD,AN]
  refine Cn (Cm rfl) rfl ?_;refine Cn (II rfl rfl rfl (by omega)) rfl ?_
  first|refine Cn (Dq rfl) rfl ?_|refine Cn (Dr rfl) rfl ?_
  try simp only[AP,AT,AJ,AV,A0,A1,AB,Aq,Ay,A7,AL,Nat.reduceAdd,Nat.reduceMul,Be,AM,AW,AZ,AQ,AD,AN]
  first|refine Cg (Fj rfl rfl rfl) BG (Ce.2 (AS rfl)) ?_|refine Cg (DJ rfl rfl (TA g) rfl) BG (Ce.2 (AS rfl)) ?_|refine Cg (DK rfl rfl (TA g) rfl) BG (Ce.2 (AS rfl)) ?_|refine Cg (DJ rfl rfl (rfl) rfl) BG (Ce.2 (AS rfl)) ?_|refine Cg (DK rfl rfl (rfl) rfl) BG (Ce.2 (AS rfl)) ?_
  try simp only[AP,AT,AJ,AV,A0,A1,AB,Aq,Ay,A7,AL,Nat.reduceAdd,Nat.reduceMul,Be,AM,AW,AZ,AQ,AD,AN]
  refine Cn (II (j:=k) rfl rfl u (by omega)) rfl ?_;simp only[Vs.put,reduceIte,Nat.reduceEqDiff];refine jp (by intros;nofun) ?_;refine kw rfl rfl rfl rfl (TA g) rfl (by simp) (by decide) rfl (QP m) (by simp) (AS rfl) ?_;simp only[Nr,Root.map,A2,CB,BR,reduceIte,Nat.reduceEqDiff,A0,Vs.put,ER];rw[kQ _ k b[i].2 m,Zpx g,<-qM g u];simp only[Bm,Bz,V.map,A.map,ER,Tg,RU,BC,A2,CB,Vs.put,reduceIte,Nat.reduceEqDiff];refine⟨BG,.inr ⟨by first|rfl|trivial,by first|rfl|decide, ?_⟩⟩
  try simp only[Bm,Bz,V.map,A.map,BE,ER,Tg,RU,BC,A2,CB,Vs.put,reduceIte,Nat.reduceEqDiff,List.isPrefixOf,PN,M7,C6]
  try simp only[Bm,Vs.put,Bz,BR,BV,reduceIte,Nat.reduceEqDiff,Nat.reduceAdd]
  try refine jo ?_
  simp only[Bi,Bl,Vs.put,reduceIte,Nat.reduceEqDiff];refine C5 ?_;unfold uQ;refine Ar (Cm rfl) ?_;refine Ar (GT rfl rfl rfl) ?_;refine Ar (Cm rfl) ?_;simp only[B4,Bi,Bl,Vs.put,reduceIte,Nat.reduceEqDiff]
  try simp only[Bi,Bl]
  refine⟨i+1, ?_, ?_,rfl,[(0,0),(1,1),(2,2)],by decide, ?_, ?_⟩
  .omega
  .first|omega|(dsimp only;omega)
  .simp only[G1,Vs.get,GN,Vs.put,reduceIte,Nat.reduceEqDiff]
   repeat' (first|exact KU|refine KV ?_|refine KT rfl ?_ ?_)
   all_goals (try simp only[V.map,A.map,C4,Vs.get,reduceIte,Nat.reduceEqDiff,A2,CB,r])
  repeat' (first|exact Lp|refine Du 0 rfl rfl ?_ ?_|refine Du 1 rfl rfl ?_ ?_|refine Du 2 rfl rfl ?_ ?_)
  all_goals (try simp only[HK,C4,Vs.get,reduceIte,Nat.reduceEqDiff,A2,CB,r])
 try simp only[AA,D8,DN,CJ,Em,En,DO,Eb,Eh,Eo,Ep,Ei,Ej,CV,Ek,A6,CE,Ec,El]at o
 have g:i=b.length:=by omega
 subst g;simp only[Jd];refine Ra ?_;simp only[Bi,Bl,BF,Nat.reduceEqDiff,BC,reduceIte];refine C5 ?_;unfold uS;refine Ar (Cm rfl) ?_;simp only[Vs.put,reduceIte,Nat.reduceEqDiff];refine Ev (by intros;nofun) ?_;refine .inl ⟨_,rfl,_,rfl, ?_⟩;simp only[EO,AP,AT,AJ,AV,A0,A1,AB,Aq,Ay,A7,AL,Nat.reduceAdd,Nat.reduceMul,Be,AM,AW,AZ,AQ,AD,AN]
 try simp only[Bm,Vs.put,Bz,BR,BV,reduceIte,Nat.reduceEqDiff,Nat.reduceAdd]
 first|refine Ar (Sv rfl) ?_|refine Ar (Sx rfl) ?_
 first|refine Ar (Dq rfl) ?_|refine Ar (Dr rfl) ?_
 try simp only[AP,AT,AJ,AV,A0,A1,AB,Aq,Ay,A7,AL,Nat.reduceAdd,Nat.reduceMul,Be,AM,AW,AZ,AQ,AD,AN]
 refine Ev (by intros;nofun) ?_;refine Hd rfl rfl rfl rfl (AS rfl) ?_;simp only[AP,AT,AJ,AV,A0,A1,AB,Aq,Ay,A7,AL,Nat.reduceAdd,Nat.reduceMul,Be,AM,AW,AZ,AQ,AD,AN]
 try simp only[Bm,Vs.put,Bz,BR,BV,reduceIte,Nat.reduceEqDiff,Nat.reduceAdd]
 simp only[B4,Bi,Bl,Vs.put,reduceIte,Nat.reduceEqDiff];simp only[Bi,Bl,Fa,ev,St.opd,Vs.get,reduceIte,Nat.reduceEqDiff,Eg];refine jB rfl rfl rfl ?_ rfl (I0 rfl (by simp) (I0 rfl (by simp) (I1 (I1 rfl)))) rfl rfl;exact Kz rfl (Kz rfl (Kz rfl (Kz rfl kG)))
end
noncomputable def gR:GEnt Tryz.prog:=⟨88,[⟨true,false,DR,[.ow,.ow,.rd,.rd],(some DR)⟩],[],Ka,λx y a=>by
 unfold Ka at a;obtain⟨h,a⟩:=Es a;have h:=U1 h;have a:=Option.some.inj a;subst a;exact Zly x.1 x.2.1 x.2.2.1 x.2.2.2 h.1 h.2.1 h.2.2.1 h.2.2.2⟩
def Zew x:fX [.see Fi,.see gM,.see ZL] [(14,.el .Y),(15,.el .Y)] .d Tryz.f112 [(false,.I .i64),(false,.I .i64)] [(false,.L .Y)] x =
 XJ x:=by kernel_rfl
def zj:=eS Tryz.func112 (by kernel_rfl) Zew
def Zgd x:fG [.see zo,.see ZN,.see pQ,.gen gS,.gen gR,.see zj] [] (.sq none .d (.sq (some [.bx 0 [.K,.O BH,
 .L (.I .i64),.L .B,.K,.K,.K,.K,.K],.kt 1,.kt 4]) (.sq none .d (.bl (.lp [.bx 0 [.K,.O BH,.L (.I .i64),.L .B,.K,.K,.K,.K,.K],.kt 1,.kt 4,.lt 5 (.I .i64)] .d)))
 .d)) Tryz.f63 [⟨true,false,Fd,[.ow,.ow,.rd,.rd,.rx,.rd,.rx,.rd,.rd],(some (.P lh (.P wg (.P (.I .i64) (.P .B Ca)))))⟩,⟨false,false,.I .i64,[.rd],none⟩] [] x
 = L3 x:=by kernel_rfl
def gX:=eG Tryz.func63 (by kernel_rfl) Zgd
def Zeq x:fX [.see pL,.gen gX] [] .d Tryz.f23 [] [(true,Fd)] x=Ue x:=by kernel_rfl
def pN:=eS Tryz.func23 (by kernel_rfl) Zeq
def Zgg x:fG [] [] (.sq none .d (.sq none .d (.sq none .d (.sq (some [.bx 0 [.K,.L (.I .i64),.K],.lt 3 (.I .i64)]) .d .d)))) Tryz.f89 [⟨true,false,Fe,[.rx,.rd,
 .rd],(some ED)⟩] [(false,.I .i64)] x=NZ x:=by kernel_rfl
def pX:=eG Tryz.func89 (by kernel_rfl) Zgg
def Zge x:fG [.gen pX] [] .d Tryz.f40 [⟨true,false,Fe,[.rx,.rd,.rd],(some ED)⟩,⟨false,false,.I .i64,[.rd],none⟩] [(false,.I .i64)] x =
 Ct x:=by kernel_rfl
def Gu:=eG Tryz.func40 (by kernel_rfl) Zge
def Zgu x:fG [.gen Gu] [] .d Tryz.f117 [⟨true,false,Fe,[.rx,.rd,.rd],(some ED)⟩] [(false,.I .i64)] x=XZ x:=by kernel_rfl
def Zap:=eG Tryz.func117 (by kernel_rfl) Zgu
def Zgo x:fG [.gen Gu] [] .d Tryz.f116 [⟨true,false,Fe,[.rx,.rd,.rd],(some ED)⟩,⟨false,false,.L .S,[.rd],none⟩] [(false,.S)] x=Ut x:=
 by kernel_rfl
def p0:=eG Tryz.func116 (by kernel_rfl) Zgo
def Zgk x:fG [.gen p0] [(4,.el .S)] .d Tryz.f71 [⟨true,false,Fe,[.rx,.rd,.rd],(some ED)⟩] [(false,.S)] x=Ur x:=by kernel_rfl
def pY:=eG Tryz.func71 (by kernel_rfl) Zgk
def Zgj x:fG [.gen Gu] [] .d Tryz.f26 [⟨true,false,Fe,[.rx,.rd,.rd],(some ED)⟩,⟨false,false,.L (.I .i64),[.rd],none⟩] [(false,.I .i64)] x =
 E2 x:=by kernel_rfl
def IH:=eG Tryz.func26 (by kernel_rfl) Zgj
def Zgs x:fG [.gen IH] [(4,.el (.I .i64))] .d Tryz.f168 [⟨true,false,Fe,[.rx,.rd,.rd],(some ED)⟩] [(false,.I .i64)] x=XX x:=by kernel_rfl
def Zan:=eG Tryz.func168 (by kernel_rfl) Zgs
def Zg2 x:fG [.gen Zan,.gen IH,.see gF] [(14,.el (.I .i64)),(19,.el (.I .i64))] .d Tryz.f156 [⟨true,false,Fe,[.rx,.rd,.rd],(some
 ED)⟩,⟨false,false,.I .i64,[.rd],none⟩] [(false,.I .i64)] x=Yc x:=by kernel_rfl
def Zaw:=eG Tryz.func156 (by kernel_rfl) Zg2
def Zg3 x:fG [.gen Gu,.gen Zaw,.see ZJ] [(9,.el .Y)] (.sq none .d (.sq none .d (.sq (some [.bx 0 [.K,.L (.I .i64),.L (.I .i64)],.ot 7
 .Y]) (.sq none .d (.bl (.lp [.bx 0 [.K,.L (.I .i64),.L (.I .i64)],.kt 1,.ot 7 .Y,.lt 8 (.I .i64)] .d))) .d))) Tryz.f119 [⟨true,false,Fe,[.rx,.rd,.rd],(some ED)⟩,
 ⟨false,false,.I .i64,[.rd],none⟩,⟨false,false,.I .i64,[.rd],none⟩] [(false,.S)] x=PH x:=by kernel_rfl
def g8:=eG Tryz.func119 (by kernel_rfl) Zg3
def Zfh x:fX [.see pO] [(10,.el (.I .i64)),(26,.el (.I .i64)),(29,.el (.I .i64)),(30,.el (.I .i64))] (.sq none .d (.sq none .d (.sq none .d (.sq (some
 [.ot 4 (.I .i64)]) (.sq none .d (.bl (.lp [.ot 4 (.I .i64),.kt 5,.lt 6 (.I .i64)] .d))) .d)))) Tryz.f173 [(false,.S)] [(false,.L (.I .i64)),(false,.B)] x=XM x:=
 by kernel_rfl
def zv:=eS Tryz.func173 (by kernel_rfl) Zfh
end
end Go.Vs
