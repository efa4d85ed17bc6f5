import Derived.Test.YteaoaehkkcbmbaaGreatDoorVsPvk10
set_option linter.all false
namespace Go.Vs
open Go.Proofs
set_option maxRecDepth 100000
noncomputable section
def Zfi x:fX [.see gI,.see pT,.see Fi] [] .d Tryz.f18 [(true,Fd)] [(false,.B)] x=NW x:=by kernel_rfl
def ZK:=eS Tryz.func18 (by kernel_rfl) Zfi
def Zd8 x:fX [.see pW,.see ZK,.gen gU] [] .d Tryz.f8 [(true,Fd),(true,DC)] [(true,Fd),(false,.B)] x=X7 x:=by kernel_rfl
def zZ:=eS Tryz.func8 (by kernel_rfl) Zd8
def Zej x:fX [.cur Vu,.gen gV] [] .d Tryz.f9 [(false,.L .Y)] [(true,Fd)] x=XB x:=by kernel_rfl
def z8:=eS Tryz.func9 (by kernel_rfl) Zej
def tw:List GI:=[⟨(some 2),.wr (.box (.t 0)),none⟩,
 ⟨(some 4),.wr (.alloc [.nl 1,.nl 2,.lf (.int .i64 0),.lf (.bool false)]),none⟩]
def tx:List GI:=[⟨(some 7),.rd (.load (some 4) (.t 2)),none⟩,
 ⟨(some 8),.wr (.call 48 [(.t 7)]),none⟩,
 ⟨(some 5),.wr (.alloc [.nl 1,.nl 2,.lf (.int .i64 0),.lf (.bool false)]),none⟩,
 ⟨none,.wr (.store 4 (.t 5) (.t 8)),none⟩]
def tz:List GI:=[⟨(some 9),.rd (.load (some 4) (.t 2)),none⟩,
 ⟨(some 10),.wr (.call 60 [(.t 9)]),none⟩,
 ⟨(some 11),.rd (.un .not (.t 10)),none⟩]
def uA:List GI:=[⟨(some 12),.rd (.load (some 4) (.t 5)),none⟩,
 ⟨none,.wr (.store 4 (.t 4) (.t 12)),none⟩]
def uB:List GI:=[⟨(some 13),.rd (.mv (.t 1)),none⟩,
 ⟨(some 14),.wr (.call 52 [(.t 13),(.k (.a (.c (.lf (.int .i64 0))))),(.k (.a (.c (.lf (.int .i64 1073741823)))))]),none⟩,
 ⟨(some 15),.rd (.un .not (.t 14)),none⟩]
def uC:List GI:=[⟨(some 1),.rd (.mv (.k (.a (.c (.lf (.int .i64 0)))))),none⟩]
def kL:List GI:=[⟨(some 6),.rd (.mv (.k (.a (.c (.lf (.int .i64 0)))))),none⟩]
def kM:List GI:=[⟨(some 16),.rd (.mv (.t 6)),none⟩,
 ⟨(some 17),.rd (.fad 1 (.t 5)),none⟩,
 ⟨(some 18),.rd (.load none (.t 17)),none⟩,
 ⟨(some 19),.rd (.len (.t 18)),none⟩,
 ⟨(some 20),.rd (.bin .lss (.t 16) (.t 19)),none⟩,
 ⟨(some 21),.rd (.mv (.t 20)),none⟩,
 ⟨(some 22),.rd (.mv (.t 6)),(some (21,true))⟩,
 ⟨(some 23),.rd (.bin .lss (.t 22) (.k (.a (.c (.lf (.int .i64 30)))))),(some (21,true))⟩,
 ⟨(some 24),.rd (.pick (.t 21) (.t 23) (.k (.a (.c (.lf (.bool false)))))),none⟩]
def kN:List GI:=[⟨(some 27),.rd (.mv (.t 1)),none⟩,
 ⟨(some 28),.rd (.mv (.t 6)),none⟩,
 ⟨(some 29),.rd (.conv .u64 (.t 28)),none⟩,
 ⟨(some 30),.rd (.bin .shr (.t 27) (.t 29)),none⟩,
 ⟨(some 31),.rd (.bin .and (.t 30) (.k (.a (.c (.lf (.int .i64 1)))))),none⟩,
 ⟨(some 32),.rd (.bin .eql (.t 31) (.k (.a (.c (.lf (.int .i64 1)))))),none⟩]
def kK:List DI:=[⟨⟨(some 33),.rd (.fad 0 (.t 5)),none⟩,[],false,0,0⟩,
 ⟨⟨(some 34),.rd (.load none (.t 33)),none⟩,[0],false,0,0⟩,
 ⟨⟨(some 35),.rd (.fad 1 (.t 5)),none⟩,[],false,0,0⟩,
 ⟨⟨(some 36),.rd (.load none (.t 35)),none⟩,[2],false,0,0⟩,
 ⟨⟨(some 37),.rd (.mv (.t 6)),none⟩,[],false,0,0⟩,
 ⟨⟨(some 38),.rd (.iad 2 (.t 36) (.t 37)),none⟩,[3,4,2],false,0,0⟩,
 ⟨⟨(some 39),.rd (.fad 0 (.t 38)),none⟩,[5,3,4,2],false,0,0⟩,
 ⟨⟨(some 40),.rd (.load none (.t 39)),none⟩,[6,5,3,4,2],false,0,0⟩,
 ⟨⟨(some 41),.rd (.fad 1 (.t 5)),none⟩,[],false,0,0⟩,
 ⟨⟨(some 42),.rd (.load none (.t 41)),none⟩,[8],false,0,0⟩,
 ⟨⟨(some 43),.rd (.mv (.t 6)),none⟩,[],false,0,0⟩,
 ⟨⟨(some 44),.rd (.iad 2 (.t 42) (.t 43)),none⟩,[9,10,8],false,0,0⟩,
 ⟨⟨(some 45),.rd (.fad 1 (.t 44)),none⟩,[11,9,10,8],false,0,0⟩,
 ⟨⟨(some 46),.rd (.load none (.t 45)),none⟩,[12,11,9,10,8],false,0,0⟩,
 ⟨⟨(some 47),.rd (.iad 1 (.t 34) (.t 40)),none⟩,[1,7,13,0,6,5,3,4,2,12,11,9,10,8],false,0,0⟩,
 ⟨⟨none,.wr (.store 1 (.t 47) (.t 46)),none⟩,[14,1,7,13,0,6,5,3,4,2,12,11,9,10,8],true,0,0⟩]
def WB:List GI:=[⟨(some 25),.rd (.mv (.t 6)),none⟩,
 ⟨(some 26),.rd (.bin .add (.t 25) (.k (.a (.c (.lf (.int .i64 1)))))),none⟩,
 ⟨(some 6),.rd (.mv (.t 26)),none⟩]
def W7:List GI:=[⟨(some 48),.wr (.lit 2 0 [.lf (.int .i64 0),.nl 1] []),none⟩,
 ⟨(some 49),.rd (.fad 1 (.t 5)),none⟩,
 ⟨none,.wr (.store 1 (.t 49) (.t 48)),none⟩]
def W8:List GI:=[⟨(some 50),.rd (.fad 3 (.t 5)),none⟩,
 ⟨none,.wr (.store 1 (.t 50) (.k (.a (.c (.lf (.bool false)))))),none⟩]
def W9:List GI:=[⟨(some 51),.rd (.fad 2 (.t 5)),none⟩,
 ⟨none,.wr (.store 1 (.t 51) (.k (.a (.c (.lf (.int .i64 (-1))))))),none⟩]
def WA:List GI:=[⟨(some 52),.rd (.load (some 4) (.t 5)),none⟩,
 ⟨none,.wr (.store 4 (.t 4) (.t 52)),none⟩]
def tt:Stm:=(.seq (.reg tw) (.seq (.reg tx) (.seq (.seq (.reg tz) (.cond (.t 11) (.seq (.reg uA) .ret) .skip)) (.seq (.seq (.reg uB) (.cond (.t 15) (.reg uC) .skip)) (.seq (.seq (.reg kL) (.block 0 (.loop (.seq (.seq (.reg kM) (.cond (.t 24) .skip (.exit 0))) (.seq (.block 1 (.seq (.reg kN) (.cond (.t 32) (.drw kK) .skip))) (.reg WB)))))) (.seq (.reg W7) (.seq (.reg W8) (.seq (.reg W9) (.seq (.reg WA) .ret)))))))))
def Zow:(Tryz.f39.body.bind (Bu Tryz.prog Tryz.f39.ntmps))=some tt:=by kernel_rfl
section
set_option maxHeartbeats 1000000
set_option maxRecDepth 4000
def Zld(x a b:Int):Gp Tryz.prog 52 [.val false [(.rd,.lf (.int .i64 x))],.val false [(.rd,.lf (.int .i64 a))],.val false [(.rd,.lf (.int .i64 b))]] ⟨[(false,[.lf (.bool (decide (a<=x)&&decide (x<=b)))])],[],[]⟩:=
 Fi.ok (x,(a,b)) (decide (a<=x)&&decide (x<=b)) (by
  show BU (x,(a,b))=_;unfold BU Dk Ck;simp only;by_cases h:a<=x<;>simp[h,Ab]<;>rfl)
def Zlw(e:List (List UInt8))(d:List Wr)(g:Int)(h:Bool)(n:Int)(S:e.length<2^39)(T:d.length<2^39)(I:∀b∈e,b.length<2^45)(M:∀w∈d,w.2.length<2^45)(K:Gp Tryz.prog 60 [.val true [(.rd,.sl 1 (sD e)),(.rd,.sl 2 (wD d)),(.rd,.lf (.int .i64 g)),(.rd,.lf (.bool h))]] ⟨[(false,[.lf (.bool (CH e d g))])],[],[]⟩)(C:Gp Tryz.prog 48 [.val true [(.rd,.sl 1 (sD e)),(.rd,.sl 2 (wD d)),(.rd,.lf (.int .i64 g)),(.rd,.lf (.bool h))]] ⟨[(true,[.sl 1 (sD e),.sl 2 (wD d),.lf (.int .i64 g),.lf (.bool h)])],[],[]⟩):Gp Tryz.prog 39 [.val true [(.rd,.sl 1 (sD e)),(.rd,.sl 2 (wD d)),(.rd,.lf (.int .i64 g)),(.rd,.lf (.bool h))],.val false [(.rd,.lf (.int .i64 n))]] ⟨[(true,[.sl 1 (sD (Nd e d g h n).1),.sl 2 (wD (Nd e d g h n).2.1),.lf (.int .i64 (Nd e d g h n).2.2.1),.lf (.bool (Nd e d g h n).2.2.2)])],[],[]⟩:=by
 obtain⟨c,L,I⟩:=PZ Zow;refine W6 (is:=[.load (some 4) (.t 4)]) Tryz.func39 L I (by kernel_rfl) (show 2<=53 by decide) ?_;clear L I c;simp only[BX,CA,flat,DM,Ke,Arg.cells,A1,A0,Bh,BY,C3,DL,LF,Ir,EJ,Ds,Iw,Aq,Ay,AT,AP,AV,AJ,Ib,A7,AL,AB,Nat.reduceAdd,AZ,dG];unfold tt;refine Ch ?_;refine C5 ?_;unfold tw;refine Ev (by intros;nofun) ?_;refine⟨_,rfl, ?_⟩
 try simp only[Bm,Vs.put,Bz,BR,BV,reduceIte,Nat.reduceEqDiff,Nat.reduceAdd]
 refine Ev (by intros;nofun) ?_;simp only[wr]
 try simp only[Bm,Vs.put,Bz,BR,BV,reduceIte,Nat.reduceEqDiff,Nat.reduceAdd]
 simp only[B4,Bi,Bl,Vs.put,reduceIte,Nat.reduceEqDiff];refine Ch ?_;refine C5 ?_;unfold tx
 first|refine Ar (O5 rfl rfl (AS rfl) rfl) ?_|refine Ar (O6 rfl rfl (rfl) (AS rfl) rfl) ?_
 try simp only[AP,AT,AJ,AV,A0,A1,AB,Aq,Ay,A7,AL,Nat.reduceAdd,Nat.reduceMul,Be,AM,AW,AZ,AQ,AD,AN]
 refine SZ ?_;simp only[A2,CB,St.opd,Vs.get,Vs.put,reduceIte,Nat.reduceEqDiff,Eg];refine⟨_,_,C,_,rfl,_,rfl,by simp[BD,B7],Gf (⟨rfl,.inl rfl,by simp[BD,B7],_,rfl,by simp,by first|rfl|(simp;done)|exact (F3 (by simp)).symm⟩) (Gf (⟨rfl,.inl rfl,by simp[BD,B7],_,rfl,by simp,by first|rfl|(simp;done)|exact (F3 (by simp)).symm⟩) (Gf (rfl) (Gf (rfl) (BG)))),_,rfl,_,rfl, ?_⟩;simp only[AU,FU,Js,Ey,DM,Ke,MG,Ji,AB,A0,A1,Aq,Ay,AV,AJ,AT,AP,BF,BC,C6,RT,G9,EK,Vs.put,reduceIte,Nat.reduceEqDiff,A7,Nat.reduceAdd,AW,AZ];simp only[dG]
 try simp only[Bm,Vs.put,Bz,BR,BV,reduceIte,Nat.reduceEqDiff,Nat.reduceAdd]
 refine Ev (by intros;nofun) ?_;simp only[wr]
 try simp only[Bm,Vs.put,Bz,BR,BV,reduceIte,Nat.reduceEqDiff,Nat.reduceAdd]
 refine Ev (by intros;nofun) ?_;refine Hd rfl rfl rfl rfl (AS rfl) ?_;simp only[AP,AT,AJ,AV,A0,A1,AB,Aq,Ay,A7,AL,Nat.reduceAdd,Nat.reduceMul,Be,AM,AW,AZ,AQ,AD,AN]
 try simp only[Bm,Vs.put,Bz,BR,BV,reduceIte,Nat.reduceEqDiff,Nat.reduceAdd]
 simp only[B4,Bi,Bl,Vs.put,reduceIte,Nat.reduceEqDiff];refine Ch ?_;refine Ch ?_;refine C5 ?_;unfold tz
 first|refine Ar (O5 rfl rfl (AS rfl) rfl) ?_|refine Ar (O6 rfl rfl (rfl) (AS rfl) rfl) ?_
 try simp only[AP,AT,AJ,AV,A0,A1,AB,Aq,Ay,A7,AL,Nat.reduceAdd,Nat.reduceMul,Be,AM,AW,AZ,AQ,AD,AN]
 refine SZ ?_;simp only[A2,CB,St.opd,Vs.get,Vs.put,reduceIte,Nat.reduceEqDiff,Eg];refine⟨_,_,K,_,rfl,_,rfl,by simp[BD,B7],Gf (⟨rfl,.inl rfl,by simp[BD,B7],_,rfl,by simp,by first|rfl|(simp;done)|exact (F3 (by simp)).symm⟩) (Gf (⟨rfl,.inl rfl,by simp[BD,B7],_,rfl,by simp,by first|rfl|(simp;done)|exact (F3 (by simp)).symm⟩) (Gf (rfl) (Gf (rfl) (BG)))),_,rfl,_,rfl, ?_⟩;simp only[AU,FU,Js,Ey,DM,Ke,MG,Ji,AB,A0,A1,Aq,Ay,AV,AJ,AT,AP,BF,BC,C6,RT,G9,EK,Vs.put,reduceIte,Nat.reduceEqDiff,A7,Nat.reduceAdd,AW,AZ]
 try simp only[Bm,Vs.put,Bz,BR,BV,reduceIte,Nat.reduceEqDiff,Nat.reduceAdd]
 refine Ar (V2 rfl rfl) ?_;simp only[B4,Bi,Bl,Vs.put,reduceIte,Nat.reduceEqDiff];refine HO rfl (λx=>?_) (λx=>?_)
 .try simp only[AA,D8,DN,CJ,Em,En,DO,Eb,Eh,Eo,Ep,Ei,Ej,CV,Ek,A6,CE,Ec,El]at x
  rw[Zbk x];refine Ch ?_;refine C5 ?_;unfold uA
  first|refine Ar (O5 rfl rfl (AS rfl) rfl) ?_|refine Ar (O6 rfl rfl (rfl) (AS rfl) rfl) ?_
  try simp only[AP,AT,AJ,AV,A0,A1,AB,Aq,Ay,A7,AL,Nat.reduceAdd,Nat.reduceMul,Be,AM,AW,AZ,AQ,AD,AN]
  refine Ev (by intros;nofun) ?_;refine Hd rfl rfl rfl rfl (AS rfl) ?_;simp only[AP,AT,AJ,AV,A0,A1,AB,Aq,Ay,A7,AL,Nat.reduceAdd,Nat.reduceMul,Be,AM,AW,AZ,AQ,AD,AN]
  try simp only[Bm,Vs.put,Bz,BR,BV,reduceIte,Nat.reduceEqDiff,Nat.reduceAdd]
  simp only[B4,Bi,Bl,Vs.put,reduceIte,Nat.reduceEqDiff];refine K1 ?_;simp only[Bi,Bl,Fa,ev,St.opd,Vs.get,reduceIte,Nat.reduceEqDiff,Eg];refine⟨_,rfl,AS rfl, ?_⟩;simp only[AP,AT,AJ,AV,A0,A1,AB,Aq,Ay,A7,AL,Nat.reduceAdd,Nat.reduceMul,Be,AM,AW,AZ,AQ,AD,AN,Ey];exact Nu rfl rfl rfl (I0 rfl (by simp[LE]) (I0 rfl (by simp) (I1 (I1 rfl))))
 try simp only[AA,D8,DN,CJ,Em,En,DO,Eb,Eh,Eo,Ep,Ei,Ej,CV,Ek,A6,CE,Ec,El]at x
 obtain⟨Q,P,R,_,y⟩:=Hk x;have hd:∀w∈d,0<=w.1/\w.1<=(e.length:Int)-1:=λw O=>⟨(y w O).1,(y w O).2.1⟩;rw[pr x];refine K2 ?_;simp only[Bi,Bl];refine Ch ?_;refine Ch ?_;refine C5 ?_;unfold uB;refine Ar (Cm rfl) ?_;simp only[Vs.put,reduceIte,Nat.reduceEqDiff];refine SZ ?_;simp only[A2,CB,St.opd,Vs.get,Vs.put,reduceIte,Nat.reduceEqDiff,Eg];refine⟨_,_,Zld n 0 1073741823,_,rfl,_,rfl,by simp[BD,B7],Gf (rfl) (Gf (rfl) (Gf (rfl) (BG))),_,rfl,_,rfl, ?_⟩;simp only[AU,FU,Js,Ey,DM,Ke,MG,Ji,AB,A0,A1,Aq,Ay,AV,AJ,AT,AP,BF,BC,C6,RT,G9,EK,Vs.put,reduceIte,Nat.reduceEqDiff,A7,Nat.reduceAdd,AW,AZ]
 try simp only[Bm,Vs.put,Bz,BR,BV,reduceIte,Nat.reduceEqDiff,Nat.reduceAdd]
 refine Ar (V2 rfl rfl) ?_;simp only[B4,Bi,Bl,Vs.put,reduceIte,Nat.reduceEqDiff];refine HO rfl (λE=>?_) (λE=>?_)
 .try simp only[AA,D8,DN,CJ,Em,En,DO,Eb,Eh,Eo,Ep,Ei,Ej,CV,Ek,A6,CE,Ec,El]at E
  rw[Zbm (by omega)];refine C5 ?_;unfold uC;refine Ar (Su) ?_;simp only[B4,Bi,Bl,Vs.put,reduceIte,Nat.reduceEqDiff];refine Ch ?_;refine Ch ?_;refine C5 ?_;unfold kL;refine Ar (Su) ?_;simp only[B4,Bi,Bl,Vs.put,reduceIte,Nat.reduceEqDiff];refine NF ?_;refine cZ [1,4,5,6,22,23,35] (α:=Nat) (λi=>[(6,.a (.c (.lf (.int .i64 (i:Nat)))))]) (λi=>[(6,.bx [.rf 4 [] 1 0 e.length,.rf 5 [] 2 0 d.length,.lf (.int .i64 g),.lf (.bool h)]),(4,.tr 1 (sD (D3 (0:Int) 0 e (d.take i)))),(5,.tr 2 (wP (kb (0:Int) i) 0 d)),(3,.bx [.nl 1,.nl 2,.lf (.int .i64 0),.lf (.bool false)])]) (7) (λi=>i<=d.length/\i<=30) (λi=>d.length-i) (0) [(6,6),(4,4),(5,5),(3,3)] ?_ (by decide) ?_ ?_ ?_
  .exact⟨Cq _,Cq _⟩
  .simp only[G1,Vs.get,GN,Vs.put,reduceIte,Nat.reduceEqDiff]
   repeat' (first|exact KU|refine KV ?_|refine KT rfl ?_ ?_)
   all_goals (try simp only[V.map,A.map,C4,Vs.get,reduceIte,Nat.reduceEqDiff,A2,CB])
   all_goals (try rfl)
  .repeat' (first|exact Lp|refine Du 6 rfl rfl ?_ ?_|refine Du 4 rfl rfl ?_ ?_|refine Du 5 rfl rfl ?_ ?_|refine Du 3 rfl rfl ?_ ?_)
   all_goals (try simp only[HK,C4,Vs.get,reduceIte,Nat.reduceEqDiff,A2,CB])
   all_goals (try rfl)
   all_goals (first|rfl|exact DU (Root.tr 2) (rJ _ _).symm)
  rintro i z;simp only[G1,Vs.get,GN,Vs.put,reduceIte,Nat.reduceEqDiff];refine Ch ?_;refine Ch ?_;refine C5 ?_;unfold kM;refine Ar (Cm rfl) ?_
  first|refine Ar (Dq rfl) ?_|refine Ar (Dr rfl) ?_
  try simp only[AP,AT,AJ,AV,A0,A1,AB,Aq,Ay,A7,AL,Nat.reduceAdd,Nat.reduceMul,Be,AM,AW,AZ,AQ,AD,AN]
  simp only[Vs.put,reduceIte,Nat.reduceEqDiff]
  first|refine Ar (Fj rfl rfl rfl) ?_|refine Ar (DJ rfl rfl (rfl) rfl) ?_|refine Ar (DK rfl rfl (rfl) rfl) ?_
  try simp only[AP,AT,AJ,AV,A0,A1,AB,Aq,Ay,A7,AL,Nat.reduceAdd,Nat.reduceMul,Be,AM,AW,AZ,AQ,AD,AN]
  first|refine Ar (V1 rfl) ?_|refine Ar (V0 rfl) ?_
  refine Ar (GT rfl rfl rfl) ?_;refine Ar (Cm rfl) ?_;refine bQ rfl (λl=>?_) (λl=>?_)
  .try simp only[l]
   try simp only[AA,D8,DN,CJ,Em,En,DO,Eb,Eh,Eo,Ep,Ei,Ej,CV,Ek,A6,CE,Ec,El]at l
   refine Ju rfl ?_;refine Ar (Cm rfl) ?_;simp only[Vs.put,reduceIte,Nat.reduceEqDiff];refine Ju rfl ?_;refine Ar (GT rfl rfl rfl) ?_;refine Ar (ZZ rfl rfl) ?_;simp only[B4,Bi,Bl,Vs.put,reduceIte,Nat.reduceEqDiff];refine HO rfl (λo=>?_) (λo=>?_)
   .try simp only[AA,D8,DN,CJ,Em,En,DO,Eb,Eh,Eo,Ep,Ei,Ej,CV,Ek,A6,CE,Ec,El]at o
    have f:i<d.length:=by omega
    have u:IntKind.i64.wrap ((i:Int)+1)=((i+1:Nat):Int):=by rw[Rr (by omega) (by omega)];rfl
    have G:=hd _ (EN f);have F:=M _ (EN f);obtain⟨k,B⟩:∃k:Nat,d[i].1=k:=⟨d[i].1.toNat,by omega⟩;have v:k<e.length:=by omega
    have q:k<(D3 (0:Int) 0 e (d.take i)).length:=by rw[LE];exact v
    have D:=nb (n:=0) ⟨by decide,by decide⟩ i;have J:IntKind.u64.wrap (i:Int)=(i:Int):=UM (by omega) (by simp[IntKind.bits];omega);refine K2 ?_;simp only[Bi,Bl];refine Ch ?_;refine NF ?_;refine Ch ?_;refine C5 ?_;unfold kN;refine Ar (Cm rfl) ?_;refine Ar (Cm rfl) ?_;refine Ar (pp rfl) ?_;simp only[J];simp only[Vs.put,reduceIte,Nat.reduceEqDiff];refine Ar (pq i rfl rfl rfl (CW (show i<=64 by omega) (by decide))) ?_;refine Ar (GT rfl rfl rfl) ?_;simp only[D];refine Ar (GT rfl rfl rfl) ?_;simp only[B4,Bi,Bl,Vs.put,reduceIte,Nat.reduceEqDiff];refine HO rfl (λp=>?_) (λp=>?_)
    .try simp only[AA,D8,DN,CJ,Em,En,DO,Eb,Eh,Eo,Ep,Ei,Ej,CV,Ek,A6,CE,Ec,El]at p
     have s:HG (0:Int) i=true:=rM (by omega) p;refine cY rfl rfl ?_;unfold kK
     first|refine Cn (Dq rfl) rfl ?_|refine Cn (Dr rfl) rfl ?_
     try simp only[AP,AT,AJ,AV,A0,A1,AB,Aq,Ay,A7,AL,Nat.reduceAdd,Nat.reduceMul,Be,AM,AW,AZ,AQ,AD,AN]
     simp only[Vs.put,reduceIte,Nat.reduceEqDiff]
     first|refine Cg (Fj rfl rfl rfl) BG (Ce.2 (AS rfl)) ?_|refine Cg (DJ rfl rfl (rfl) rfl) BG (Ce.2 (AS rfl)) ?_|refine Cg (DK rfl rfl (rfl) rfl) BG (Ce.2 (AS rfl)) ?_
     try simp only[AP,AT,AJ,AV,A0,A1,AB,Aq,Ay,A7,AL,Nat.reduceAdd,Nat.reduceMul,Be,AM,AW,AZ,AQ,AD,AN]
     first|refine Cn (Dq rfl) rfl ?_|refine Cn (Dr rfl) rfl ?_
     try simp only[AP,AT,AJ,AV,A0,A1,AB,Aq,Ay,A7,AL,Nat.reduceAdd,Nat.reduceMul,Be,AM,AW,AZ,AQ,AD,AN]
     first|refine Cg (Fj rfl rfl rfl) BG (Ce.2 (AS rfl)) ?_|refine Cg (DJ rfl rfl (rfl) rfl) BG (Ce.2 (AS rfl)) ?_|refine Cg (DK rfl rfl (rfl) rfl) BG (Ce.2 (AS rfl)) ?_
     try simp only[AP,AT,AJ,AV,A0,A1,AB,Aq,Ay,A7,AL,Nat.reduceAdd,Nat.reduceMul,Be,AM,AW,AZ,AQ,AD,AN]
     refine Cn (Cm rfl) rfl ?_;refine Cn (II rfl rfl rfl (by omega)) rfl ?_
     first|refine Cn (Dq rfl) rfl ?_|refine Cn (Dr rfl) rfl ?_
     try simp only[AP,AT,AJ,AV,A0,A1,AB,Aq,Ay,A7,AL,Nat.reduceAdd,Nat.reduceMul,Be,AM,AW,AZ,AQ,AD,AN]
     simp only[Vs.put,reduceIte,Nat.reduceEqDiff]
     first|refine Cg (Fj rfl rfl rfl) BG (Ce.2 (AS rfl)) ?_|refine Cg (DJ rfl rfl (Lv f (Lc _ _)) rfl) BG (Ce.2 (AS rfl)) ?_|refine Cg (DK rfl rfl (Lv f (Lc _ _)) rfl) BG (Ce.2 (AS rfl)) ?_|refine Cg (DJ rfl rfl (rfl) rfl) BG (Ce.2 (AS rfl)) ?_|refine Cg (DK rfl rfl (rfl) rfl) BG (Ce.2 (AS rfl)) ?_
     try simp only[AP,AT,AJ,AV,A0,A1,AB,Aq,Ay,A7,AL,Nat.reduceAdd,Nat.reduceMul,Be,AM,AW,AZ,AQ,AD,AN]
     first|refine Cn (Dq rfl) rfl ?_|refine Cn (Dr rfl) rfl ?_
     try simp only[AP,AT,AJ,AV,A0,A1,AB,Aq,Ay,A7,AL,Nat.reduceAdd,Nat.reduceMul,Be,AM,AW,AZ,AQ,AD,AN]
     first|refine Cg (Fj rfl rfl rfl) BG (Ce.2 (AS rfl)) ?_|refine Cg (DJ rfl rfl (rfl) rfl) BG (Ce.2 (AS rfl)) ?_|refine Cg (DK rfl rfl (rfl) rfl) BG (Ce.2 (AS rfl)) ?_
     try simp only[AP,AT,AJ,AV,A0,A1,AB,Aq,Ay,A7,AL,Nat.reduceAdd,Nat.reduceMul,Be,AM,AW,AZ,AQ,AD,AN]
     refine Cn (Cm rfl) rfl ?_;refine Cn (II rfl rfl rfl (by omega)) rfl ?_
     first|refine Cn (Dq rfl) rfl ?_|refine Cn (Dr rfl) rfl ?_
     try simp only[AP,AT,AJ,AV,A0,A1,AB,Aq,Ay,A7,AL,Nat.reduceAdd,Nat.reduceMul,Be,AM,AW,AZ,AQ,AD,AN]
     simp only[Vs.put,reduceIte,Nat.reduceEqDiff]
     first|refine Cg (Fj rfl rfl rfl) BG (Ce.2 (AS rfl)) ?_|refine Cg (DJ rfl rfl (Lv f (Lc _ _)) rfl) BG (Ce.2 (AS rfl)) ?_|refine Cg (DK rfl rfl (Lv f (Lc _ _)) rfl) BG (Ce.2 (AS rfl)) ?_|refine Cg (DJ rfl rfl (rfl) rfl) BG (Ce.2 (AS rfl)) ?_|refine Cg (DK rfl rfl (rfl) rfl) BG (Ce.2 (AS rfl)) ?_
     try simp only[AP,AT,AJ,AV,A0,A1,AB,Aq,Ay,A7,AL,Nat.reduceAdd,Nat.reduceMul,Be,AM,AW,AZ,AQ,AD,AN]
     refine Cn (II (j:=k) rfl rfl B (by omega)) rfl ?_;refine jp (by intros;nofun) ?_;refine kw rfl rfl rfl rfl (Lv f (Lc _ _)) rfl (by simp) (by decide) rfl (QP q) (by simp) (Cq _) ?_;simp only[Nr,Root.map,A2,CB,BR,reduceIte,Nat.reduceEqDiff,A0,Vs.put,ER];rw[kQ _ k d[i].2 q,rH f s,<-pu f B s];simp only[Bm,Bz,V.map,A.map,ER,Tg,RU,BC,A2,CB,Vs.put,reduceIte,Nat.reduceEqDiff];refine⟨BG,.inr ⟨by first|rfl|trivial,by first|rfl|decide, ?_⟩⟩
     try simp only[Bm,Bz,V.map,A.map,BE,ER,Tg,RU,BC,A2,CB,Vs.put,reduceIte,Nat.reduceEqDiff,List.isPrefixOf,PN,M7,C6]
     try simp only[Bm,Vs.put,Bz,BR,BV,reduceIte,Nat.reduceEqDiff,Nat.reduceAdd]
     try refine jo ?_
     simp only[Bi,Bl,Vs.put,reduceIte,Nat.reduceEqDiff];refine C5 ?_;unfold WB;refine Ar (Cm rfl) ?_;refine Ar (GT rfl rfl rfl) ?_;simp only[Vs.put,reduceIte,Nat.reduceEqDiff];refine Ar (Cm rfl) ?_;simp only[B4,Bi,Bl,Vs.put,reduceIte,Nat.reduceEqDiff]
     try simp only[Bi,Bl]
     refine⟨i+1, ?_, ?_,rfl,[(6,6),(4,4),(5,5),(3,3)],by decide, ?_, ?_⟩
     .omega
     .first|omega|(dsimp only;omega)
     .simp only[G1,Vs.get,GN,Vs.put,reduceIte,Nat.reduceEqDiff]
      repeat' (first|exact KU|refine KV ?_|refine KT rfl ?_ ?_)
      all_goals (try simp only[V.map,A.map,C4,Vs.get,reduceIte,Nat.reduceEqDiff,A2,CB,u])
     repeat' (first|exact Lp|refine Du 6 rfl rfl ?_ ?_|refine Du 4 rfl rfl ?_ ?_|refine Du 5 rfl rfl ?_ ?_|refine Du 3 rfl rfl ?_ ?_)
     all_goals (try simp only[HK,C4,Vs.get,reduceIte,Nat.reduceEqDiff,A2,CB,u])
    try simp only[AA,D8,DN,CJ,Em,En,DO,Eb,Eh,Eo,Ep,Ei,Ej,CV,Ek,A6,CE,Ec,El]at p
    have r:HG (0:Int) i=false:=rL (λH=>p H.2);rw[<-pv f r,<-rI r];refine K2 ?_;simp only[Bi,Bl];refine C5 ?_;unfold WB;refine Ar (Cm rfl) ?_;refine Ar (GT rfl rfl rfl) ?_;refine Ar (Cm rfl) ?_;simp only[B4,Bi,Bl,Vs.put,reduceIte,Nat.reduceEqDiff]
    try simp only[Bi,Bl]
    refine⟨i+1, ?_, ?_,rfl,[(6,6),(4,4),(5,5),(3,3)],by decide, ?_, ?_⟩
    .omega
    .first|omega|(dsimp only;omega)
    .simp only[G1,Vs.get,GN,Vs.put,reduceIte,Nat.reduceEqDiff]
     repeat' (first|exact KU|refine KV ?_|refine KT rfl ?_ ?_)
     all_goals (try simp only[V.map,A.map,C4,Vs.get,reduceIte,Nat.reduceEqDiff,A2,CB,u])
    repeat' (first|exact Lp|refine Du 6 rfl rfl ?_ ?_|refine Du 4 rfl rfl ?_ ?_|refine Du 5 rfl rfl ?_ ?_|refine Du 3 rfl rfl ?_ ?_)
    all_goals (try simp only[HK,C4,Vs.get,reduceIte,Nat.reduceEqDiff,A2,CB,u])
   try simp only[AA,D8,DN,CJ,Em,En,DO,Eb,Eh,Eo,Ep,Ei,Ej,CV,Ek,A6,CE,Ec,El]at o
   have m:D3 (0:Int) 0 e d=D3 (0:Int) 0 e (d.take i):=aC (by omega);rw[m];refine Ra ?_;simp only[Bi,Bl,BF,Nat.reduceEqDiff,BC,reduceIte];refine Ch ?_;refine C5 ?_;unfold W7;refine Ev (by intros;nofun) ?_;refine .inl ⟨_,rfl,_,rfl, ?_⟩;simp only[EO,AP,AT,AJ,AV,A0,A1,AB,Aq,Ay,A7,AL,Nat.reduceAdd,Nat.reduceMul,Be,AM,AW,AZ,AQ,AD,AN]
   try simp only[Bm,Vs.put,Bz,BR,BV,reduceIte,Nat.reduceEqDiff,Nat.reduceAdd]
   first|refine Ar (Dq rfl) ?_|refine Ar (Dr rfl) ?_
   try simp only[AP,AT,AJ,AV,A0,A1,AB,Aq,Ay,A7,AL,Nat.reduceAdd,Nat.reduceMul,Be,AM,AW,AZ,AQ,AD,AN]
   simp only[Vs.put,reduceIte,Nat.reduceEqDiff];refine Ev (by intros;nofun) ?_;refine Hd rfl rfl rfl rfl (AS rfl) ?_;simp only[AP,AT,AJ,AV,A0,A1,AB,Aq,Ay,A7,AL,Nat.reduceAdd,Nat.reduceMul,Be,AM,AW,AZ,AQ,AD,AN]
   try simp only[Bm,Vs.put,Bz,BR,BV,reduceIte,Nat.reduceEqDiff,Nat.reduceAdd]
   simp only[B4,Bi,Bl,Vs.put,reduceIte,Nat.reduceEqDiff];refine Ch ?_;refine C5 ?_;unfold W8
   first|refine Ar (Dq rfl) ?_|refine Ar (Dr rfl) ?_
   try simp only[AP,AT,AJ,AV,A0,A1,AB,Aq,Ay,A7,AL,Nat.reduceAdd,Nat.reduceMul,Be,AM,AW,AZ,AQ,AD,AN]
   refine Ev (by intros;nofun) ?_;refine Hd rfl rfl rfl rfl (AS rfl) ?_;simp only[AP,AT,AJ,AV,A0,A1,AB,Aq,Ay,A7,AL,Nat.reduceAdd,Nat.reduceMul,Be,AM,AW,AZ,AQ,AD,AN]
   try simp only[Bm,Vs.put,Bz,BR,BV,reduceIte,Nat.reduceEqDiff,Nat.reduceAdd]
   simp only[B4,Bi,Bl,Vs.put,reduceIte,Nat.reduceEqDiff];refine Ch ?_;refine C5 ?_;unfold W9
   first|refine Ar (Dq rfl) ?_|refine Ar (Dr rfl) ?_
   try simp only[AP,AT,AJ,AV,A0,A1,AB,Aq,Ay,A7,AL,Nat.reduceAdd,Nat.reduceMul,Be,AM,AW,AZ,AQ,AD,AN]
   refine Ev (by intros;nofun) ?_;refine Hd rfl rfl rfl rfl (AS rfl) ?_;simp only[AP,AT,AJ,AV,A0,A1,AB,Aq,Ay,A7,AL,Nat.reduceAdd,Nat.reduceMul,Be,AM,AW,AZ,AQ,AD,AN]
   try simp only[Bm,Vs.put,Bz,BR,BV,reduceIte,Nat.reduceEqDiff,Nat.reduceAdd]
   simp only[B4,Bi,Bl,Vs.put,reduceIte,Nat.reduceEqDiff];refine Ch ?_;refine C5 ?_;unfold WA
   first|refine Ar (O5 rfl rfl (AS rfl) rfl) ?_|refine Ar (O6 rfl rfl (rfl) (AS rfl) rfl) ?_
   try simp only[AP,AT,AJ,AV,A0,A1,AB,Aq,Ay,A7,AL,Nat.reduceAdd,Nat.reduceMul,Be,AM,AW,AZ,AQ,AD,AN]
   refine Ev (by intros;nofun) ?_;refine Hd rfl rfl rfl rfl (AS rfl) ?_;simp only[AP,AT,AJ,AV,A0,A1,AB,Aq,Ay,A7,AL,Nat.reduceAdd,Nat.reduceMul,Be,AM,AW,AZ,AQ,AD,AN]
   try simp only[Bm,Vs.put,Bz,BR,BV,reduceIte,Nat.reduceEqDiff,Nat.reduceAdd]
   simp only[B4,Bi,Bl,Vs.put,reduceIte,Nat.reduceEqDiff];refine K1 ?_;simp only[Bi,Bl,Fa,ev,St.opd,Vs.get,reduceIte,Nat.reduceEqDiff,Eg];refine⟨_,rfl,AS rfl, ?_⟩;simp only[AP,AT,AJ,AV,A0,A1,AB,Aq,Ay,A7,AL,Nat.reduceAdd,Nat.reduceMul,Be,AM,AW,AZ,AQ,AD,AN,Ey];exact Nu rfl rfl rfl (I0 rfl (by simp[LE]) (I0 rfl (by simp) (I1 (I1 rfl))))
  try simp only[l]
  try simp only[AA,D8,DN,CJ,Em,En,DO,Eb,Eh,Eo,Ep,Ei,Ej,CV,Ek,A6,CE,Ec,El]at l
  refine Jv rfl (by decide) ?_;simp only[Vs.put,reduceIte,Nat.reduceEqDiff];refine Jv rfl (by decide) ?_;refine Ar (ZY rfl rfl) ?_;simp only[B4,Bi,Bl,Vs.put,reduceIte,Nat.reduceEqDiff];refine HO rfl (λo=>?_) (λo=>?_)
  .exact H4 o (by simp at o)
  try simp only[AA,D8,DN,CJ,Em,En,DO,Eb,Eh,Eo,Ep,Ei,Ej,CV,Ek,A6,CE,Ec,El]at o
  have m:D3 (0:Int) 0 e d=D3 (0:Int) 0 e (d.take i):=aC (by omega);rw[m];refine Ra ?_;simp only[Bi,Bl,BF,Nat.reduceEqDiff,BC,reduceIte];refine Ch ?_;refine C5 ?_;unfold W7;refine Ev (by intros;nofun) ?_;refine .inl ⟨_,rfl,_,rfl, ?_⟩;simp only[EO,AP,AT,AJ,AV,A0,A1,AB,Aq,Ay,A7,AL,Nat.reduceAdd,Nat.reduceMul,Be,AM,AW,AZ,AQ,AD,AN]
  try simp only[Bm,Vs.put,Bz,BR,BV,reduceIte,Nat.reduceEqDiff,Nat.reduceAdd]
  first|refine Ar (Dq rfl) ?_|refine Ar (Dr rfl) ?_
  try simp only[AP,AT,AJ,AV,A0,A1,AB,Aq,Ay,A7,AL,Nat.reduceAdd,Nat.reduceMul,Be,AM,AW,AZ,AQ,AD,AN]
  refine Ev (by intros;nofun) ?_;refine Hd rfl rfl rfl rfl (AS rfl) ?_;simp only[AP,AT,AJ,AV,A0,A1,AB,Aq,Ay,A7,AL,Nat.reduceAdd,Nat.reduceMul,Be,AM,AW,AZ,AQ,AD,AN]
  try simp only[Bm,Vs.put,Bz,BR,BV,reduceIte,Nat.reduceEqDiff,Nat.reduceAdd]
  simp only[B4,Bi,Bl,Vs.put,reduceIte,Nat.reduceEqDiff];refine Ch ?_;refine C5 ?_;unfold W8
  first|refine Ar (Dq rfl) ?_|refine Ar (Dr rfl) ?_
  try simp only[AP,AT,AJ,AV,A0,A1,AB,Aq,Ay,A7,AL,Nat.reduceAdd,Nat.reduceMul,Be,AM,AW,AZ,AQ,AD,AN]
  refine Ev (by intros;nofun) ?_;refine Hd rfl rfl rfl rfl (AS rfl) ?_;simp only[AP,AT,AJ,AV,A0,A1,AB,Aq,Ay,A7,AL,Nat.reduceAdd,Nat.reduceMul,Be,AM,AW,AZ,AQ,AD,AN]
  try simp only[Bm,Vs.put,Bz,BR,BV,reduceIte,Nat.reduceEqDiff,Nat.reduceAdd]
  simp only[B4,Bi,Bl,Vs.put,reduceIte,Nat.reduceEqDiff];refine Ch ?_;refine C5 ?_;unfold W9
  first|refine Ar (Dq rfl) ?_|refine Ar (Dr rfl) ?_
  try simp only[AP,AT,AJ,AV,A0,A1,AB,Aq,Ay,A7,AL,Nat.reduceAdd,Nat.reduceMul,Be,AM,AW,AZ,AQ,AD,AN]
  refine Ev (by intros;nofun) ?_;refine Hd rfl rfl rfl rfl (AS rfl) ?_;simp only[AP,AT,AJ,AV,A0,A1,AB,Aq,Ay,A7,AL,Nat.reduceAdd,Nat.reduceMul,Be,AM,AW,AZ,AQ,AD,AN]
  try simp only[Bm,Vs.put,Bz,BR,BV,reduceIte,Nat.reduceEqDiff,Nat.reduceAdd]
  simp only[B4,Bi,Bl,Vs.put,reduceIte,Nat.reduceEqDiff];refine Ch ?_;refine C5 ?_;unfold WA
  first|refine Ar (O5 rfl rfl (AS rfl) rfl) ?_|refine Ar (O6 rfl rfl (rfl) (AS rfl) rfl) ?_
  try simp only[AP,AT,AJ,AV,A0,A1,AB,Aq,Ay,A7,AL,Nat.reduceAdd,Nat.reduceMul,Be,AM,AW,AZ,AQ,AD,AN]
  simp only[Vs.put,reduceIte,Nat.reduceEqDiff];refine Ev (by intros;nofun) ?_;refine Hd rfl rfl rfl rfl (AS rfl) ?_;simp only[AP,AT,AJ,AV,A0,A1,AB,Aq,Ay,A7,AL,Nat.reduceAdd,Nat.reduceMul,Be,AM,AW,AZ,AQ,AD,AN]
  try simp only[Bm,Vs.put,Bz,BR,BV,reduceIte,Nat.reduceEqDiff,Nat.reduceAdd]
  simp only[B4,Bi,Bl,Vs.put,reduceIte,Nat.reduceEqDiff];refine K1 ?_;simp only[Bi,Bl,Fa,ev,St.opd,Vs.get,reduceIte,Nat.reduceEqDiff,Eg];refine⟨_,rfl,AS rfl, ?_⟩;simp only[AP,AT,AJ,AV,A0,A1,AB,Aq,Ay,A7,AL,Nat.reduceAdd,Nat.reduceMul,Be,AM,AW,AZ,AQ,AD,AN,Ey];exact Nu rfl rfl rfl (I0 rfl (by simp[LE]) (I0 rfl (by simp) (I1 (I1 rfl))))
 try simp only[AA,D8,DN,CJ,Em,En,DO,Eb,Eh,Eo,Ep,Ei,Ej,CV,Ek,A6,CE,Ec,El]at E
 have N:0<=n/\n<=1073741823:=by omega
 rw[Zbn N];refine K2 ?_;simp only[Bi,Bl];refine Ch ?_;refine Ch ?_;refine C5 ?_;unfold kL;refine Ar (Su) ?_;simp only[B4,Bi,Bl,Vs.put,reduceIte,Nat.reduceEqDiff];refine NF ?_;refine cZ [1,4,5,6,22,23,35] (α:=Nat) (λi=>[(6,.a (.c (.lf (.int .i64 (i:Nat)))))]) (λi=>[(6,.bx [.rf 4 [] 1 0 e.length,.rf 5 [] 2 0 d.length,.lf (.int .i64 g),.lf (.bool h)]),(4,.tr 1 (sD (D3 n 0 e (d.take i)))),(5,.tr 2 (wP (kb n i) 0 d)),(3,.bx [.nl 1,.nl 2,.lf (.int .i64 0),.lf (.bool false)])]) (7) (λi=>i<=d.length/\i<=30) (λi=>d.length-i) (0) [(6,6),(4,4),(5,5),(3,3)] ?_ (by decide) ?_ ?_ ?_
 .exact⟨Cq _,Cq _⟩
 .simp only[G1,Vs.get,GN,Vs.put,reduceIte,Nat.reduceEqDiff]
  repeat' (first|exact KU|refine KV ?_|refine KT rfl ?_ ?_)
  all_goals (try simp only[V.map,A.map,C4,Vs.get,reduceIte,Nat.reduceEqDiff,A2,CB])
  all_goals (try rfl)
 .repeat' (first|exact Lp|refine Du 6 rfl rfl ?_ ?_|refine Du 4 rfl rfl ?_ ?_|refine Du 5 rfl rfl ?_ ?_|refine Du 3 rfl rfl ?_ ?_)
  all_goals (try simp only[HK,C4,Vs.get,reduceIte,Nat.reduceEqDiff,A2,CB])
  all_goals (try rfl)
  all_goals (first|rfl|exact DU (Root.tr 2) (rJ _ _).symm)
 rintro i z;simp only[G1,Vs.get,GN,Vs.put,reduceIte,Nat.reduceEqDiff];refine Ch ?_;refine Ch ?_;refine C5 ?_;unfold kM;refine Ar (Cm rfl) ?_
 first|refine Ar (Dq rfl) ?_|refine Ar (Dr rfl) ?_
 try simp only[AP,AT,AJ,AV,A0,A1,AB,Aq,Ay,A7,AL,Nat.reduceAdd,Nat.reduceMul,Be,AM,AW,AZ,AQ,AD,AN]
 first|refine Ar (Fj rfl rfl rfl) ?_|refine Ar (DJ rfl rfl (rfl) rfl) ?_|refine Ar (DK rfl rfl (rfl) rfl) ?_
 try simp only[AP,AT,AJ,AV,A0,A1,AB,Aq,Ay,A7,AL,Nat.reduceAdd,Nat.reduceMul,Be,AM,AW,AZ,AQ,AD,AN]
 first|refine Ar (V1 rfl) ?_|refine Ar (V0 rfl) ?_
 simp only[Vs.put,reduceIte,Nat.reduceEqDiff];refine Ar (GT rfl rfl rfl) ?_;refine Ar (Cm rfl) ?_;refine bQ rfl (λl=>?_) (λl=>?_)
 .try simp only[l]
  try simp only[AA,D8,DN,CJ,Em,En,DO,Eb,Eh,Eo,Ep,Ei,Ej,CV,Ek,A6,CE,Ec,El]at l
  refine Ju rfl ?_;refine Ar (Cm rfl) ?_;refine Ju rfl ?_;refine Ar (GT rfl rfl rfl) ?_;refine Ar (ZZ rfl rfl) ?_;simp only[Vs.put,reduceIte,Nat.reduceEqDiff];simp only[B4,Bi,Bl,Vs.put,reduceIte,Nat.reduceEqDiff];refine HO rfl (λo=>?_) (λo=>?_)
  .try simp only[AA,D8,DN,CJ,Em,En,DO,Eb,Eh,Eo,Ep,Ei,Ej,CV,Ek,A6,CE,Ec,El]at o
   have f:i<d.length:=by omega
   have u:IntKind.i64.wrap ((i:Int)+1)=((i+1:Nat):Int):=by rw[Rr (by omega) (by omega)];rfl
   have G:=hd _ (EN f);have F:=M _ (EN f);obtain⟨k,B⟩:∃k:Nat,d[i].1=k:=⟨d[i].1.toNat,by omega⟩;have v:k<e.length:=by omega
   have q:k<(D3 n 0 e (d.take i)).length:=by rw[LE];exact v
   have D:=nb N i;have J:IntKind.u64.wrap (i:Int)=(i:Int):=UM (by omega) (by simp[IntKind.bits];omega);refine K2 ?_;simp only[Bi,Bl];refine Ch ?_;refine NF ?_;refine Ch ?_;refine C5 ?_;unfold kN;refine Ar (Cm rfl) ?_;refine Ar (Cm rfl) ?_;refine Ar (pp rfl) ?_;simp only[J];refine Ar (pq i rfl rfl rfl (CW (show i<=64 by omega) (by decide))) ?_;refine Ar (GT rfl rfl rfl) ?_;simp only[D];simp only[Vs.put,reduceIte,Nat.reduceEqDiff];refine Ar (GT rfl rfl rfl) ?_;simp only[B4,Bi,Bl,Vs.put,reduceIte,Nat.reduceEqDiff];refine HO rfl (λp=>?_) (λp=>?_)
   .try simp only[AA,D8,DN,CJ,Em,En,DO,Eb,Eh,Eo,Ep,Ei,Ej,CV,Ek,A6,CE,Ec,El]at p
    have s:HG n i=true:=rM (by omega) p;refine cY rfl rfl ?_;unfold kK
    first|refine Cn (Dq rfl) rfl ?_|refine Cn (Dr rfl) rfl ?_
    try simp only[AP,AT,AJ,AV,A0,A1,AB,Aq,Ay,A7,AL,Nat.reduceAdd,Nat.reduceMul,Be,AM,AW,AZ,AQ,AD,AN]
    first|refine Cg (Fj rfl rfl rfl) BG (Ce.2 (AS rfl)) ?_|refine Cg (DJ rfl rfl (rfl) rfl) BG (Ce.2 (AS rfl)) ?_|refine Cg (DK rfl rfl (rfl) rfl) BG (Ce.2 (AS rfl)) ?_
    try simp only[AP,AT,AJ,AV,A0,A1,AB,Aq,Ay,A7,AL,Nat.reduceAdd,Nat.reduceMul,Be,AM,AW,AZ,AQ,AD,AN]
    first|refine Cn (Dq rfl) rfl ?_|refine Cn (Dr rfl) rfl ?_
    try simp only[AP,AT,AJ,AV,A0,A1,AB,Aq,Ay,A7,AL,Nat.reduceAdd,Nat.reduceMul,Be,AM,AW,AZ,AQ,AD,AN]
    simp only[Vs.put,reduceIte,Nat.reduceEqDiff]
    first|refine Cg (Fj rfl rfl rfl) BG (Ce.2 (AS rfl)) ?_|refine Cg (DJ rfl rfl (rfl) rfl) BG (Ce.2 (AS rfl)) ?_|refine Cg (DK rfl rfl (rfl) rfl) BG (Ce.2 (AS rfl)) ?_
    try simp only[AP,AT,AJ,AV,A0,A1,AB,Aq,Ay,A7,AL,Nat.reduceAdd,Nat.reduceMul,Be,AM,AW,AZ,AQ,AD,AN]
    refine Cn (Cm rfl) rfl ?_;refine Cn (II rfl rfl rfl (by omega)) rfl ?_
    first|refine Cn (Dq rfl) rfl ?_|refine Cn (Dr rfl) rfl ?_
    try simp only[AP,AT,AJ,AV,A0,A1,AB,Aq,Ay,A7,AL,Nat.reduceAdd,Nat.reduceMul,Be,AM,AW,AZ,AQ,AD,AN]
    first|refine Cg (Fj rfl rfl rfl) BG (Ce.2 (AS rfl)) ?_|refine Cg (DJ rfl rfl (Lv f (Lc _ _)) rfl) BG (Ce.2 (AS rfl)) ?_|refine Cg (DK rfl rfl (Lv f (Lc _ _)) rfl) BG (Ce.2 (AS rfl)) ?_|refine Cg (DJ rfl rfl (rfl) rfl) BG (Ce.2 (AS rfl)) ?_|refine Cg (DK rfl rfl (rfl) rfl) BG (Ce.2 (AS rfl)) ?_
    try simp only[AP,AT,AJ,AV,A0,A1,AB,Aq,Ay,A7,AL,Nat.reduceAdd,Nat.reduceMul,Be,AM,AW,AZ,AQ,AD,AN]
    first|refine Cn (Dq rfl) rfl ?_|refine Cn (Dr rfl) rfl ?_
    try simp only[AP,AT,AJ,AV,A0,A1,AB,Aq,Ay,A7,AL,Nat.reduceAdd,Nat.reduceMul,Be,AM,AW,AZ,AQ,AD,AN]
    simp only[Vs.put,reduceIte,Nat.reduceEqDiff]
    first|refine Cg (Fj rfl rfl rfl) BG (Ce.2 (AS rfl)) ?_|refine Cg (DJ rfl rfl (rfl) rfl) BG (Ce.2 (AS rfl)) ?_|refine Cg (DK rfl rfl (rfl) rfl) BG (Ce.2 (AS rfl)) ?_
    try simp only[AP,AT,AJ,AV,A0,A1,AB,Aq,Ay,A7,AL,Nat.reduceAdd,Nat.reduceMul,Be,AM,AW,AZ,AQ,AD,AN]
    refine Cn (Cm rfl) rfl ?_;refine Cn (II rfl rfl rfl (by omega)) rfl ?_
    first|refine Cn (Dq rfl) rfl ?_|refine Cn (Dr rfl) rfl ?_
    try simp only[AP,AT,AJ,AV,A0,A1,AB,Aq,Ay,A7,AL,Nat.reduceAdd,Nat.reduceMul,Be,AM,AW,AZ,AQ,AD,AN]
    first|refine Cg (Fj rfl rfl rfl) BG (Ce.2 (AS rfl)) ?_|refine Cg (DJ rfl rfl (Lv f (Lc _ _)) rfl) BG (Ce.2 (AS rfl)) ?_|refine Cg (DK rfl rfl (Lv f (Lc _ _)) rfl) BG (Ce.2 (AS rfl)) ?_|refine Cg (DJ rfl rfl (rfl) rfl) BG (Ce.2 (AS rfl)) ?_|refine Cg (DK rfl rfl (rfl) rfl) BG (Ce.2 (AS rfl)) ?_
    try simp only[AP,AT,AJ,AV,A0,A1,AB,Aq,Ay,A7,AL,Nat.reduceAdd,Nat.reduceMul,Be,AM,AW,AZ,AQ,AD,AN]
    refine Cn (II (j:=k) rfl rfl B (by omega)) rfl ?_;simp only[Vs.put,reduceIte,Nat.reduceEqDiff];refine jp (by intros;nofun) ?_;refine kw rfl rfl rfl rfl (Lv f (Lc _ _)) rfl (by simp) (by decide) rfl (QP q) (by simp) (Cq _) ?_;simp only[Nr,Root.map,A2,CB,BR,reduceIte,Nat.reduceEqDiff,A0,Vs.put,ER];rw[kQ _ k d[i].2 q,rH f s,<-pu f B s];simp only[Bm,Bz,V.map,A.map,ER,Tg,RU,BC,A2,CB,Vs.put,reduceIte,Nat.reduceEqDiff];refine⟨BG,.inr ⟨by first|rfl|trivial,by first|rfl|decide, ?_⟩⟩
    try simp only[Bm,Bz,V.map,A.map,BE,ER,Tg,RU,BC,A2,CB,Vs.put,reduceIte,Nat.reduceEqDiff,List.isPrefixOf,PN,M7,C6]
    try simp only[Bm,Vs.put,Bz,BR,BV,reduceIte,Nat.reduceEqDiff,Nat.reduceAdd]
    try refine jo ?_
    simp only[Bi,Bl,Vs.put,reduceIte,Nat.reduceEqDiff];refine C5 ?_;unfold WB;refine Ar (Cm rfl) ?_;refine Ar (GT rfl rfl rfl) ?_;refine Ar (Cm rfl) ?_;simp only[B4,Bi,Bl,Vs.put,reduceIte,Nat.reduceEqDiff]
    try simp only[Bi,Bl]
    refine⟨i+1, ?_, ?_,rfl,[(6,6),(4,4),(5,5),(3,3)],by decide, ?_, ?_⟩
    .omega
    .first|omega|(dsimp only;omega)
    .simp only[G1,Vs.get,GN,Vs.put,reduceIte,Nat.reduceEqDiff]
     repeat' (first|exact KU|refine KV ?_|refine KT rfl ?_ ?_)
     all_goals (try simp only[V.map,A.map,C4,Vs.get,reduceIte,Nat.reduceEqDiff,A2,CB,u])
    repeat' (first|exact Lp|refine Du 6 rfl rfl ?_ ?_|refine Du 4 rfl rfl ?_ ?_|refine Du 5 rfl rfl ?_ ?_|refine Du 3 rfl rfl ?_ ?_)
    all_goals (try simp only[HK,C4,Vs.get,reduceIte,Nat.reduceEqDiff,A2,CB,u])
   try simp only[AA,D8,DN,CJ,Em,En,DO,Eb,Eh,Eo,Ep,Ei,Ej,CV,Ek,A6,CE,Ec,El]at p
   have r:HG n i=false:=rL (λH=>p H.2);rw[<-pv f r,<-rI r];refine K2 ?_;simp only[Bi,Bl];refine C5 ?_;unfold WB;refine Ar (Cm rfl) ?_;simp only[Vs.put,reduceIte,Nat.reduceEqDiff];refine Ar (GT rfl rfl rfl) ?_;refine Ar (Cm rfl) ?_;simp only[B4,Bi,Bl,Vs.put,reduceIte,Nat.reduceEqDiff]
   try simp only[Bi,Bl]
   refine⟨i+1, ?_, ?_,rfl,[(6,6),(4,4),(5,5),(3,3)],by decide, ?_, ?_⟩
   .omega
   .first|omega|(dsimp only;omega)
   .simp only[G1,Vs.get,GN,Vs.put,reduceIte,Nat.reduceEqDiff]
    repeat' (first|exact KU|refine KV ?_|refine KT rfl ?_ ?_)
    all_goals (try simp only[V.map,A.map,C4,Vs.get,reduceIte,Nat.reduceEqDiff,A2,CB,u])
   repeat' (first|exact Lp|refine Du 6 rfl rfl ?_ ?_|refine Du 4 rfl rfl ?_ ?_|refine Du 5 rfl rfl ?_ ?_|refine Du 3 rfl rfl ?_ ?_)
   all_goals (try simp only[HK,C4,Vs.get,reduceIte,Nat.reduceEqDiff,A2,CB,u])
  try simp only[AA,D8,DN,CJ,Em,En,DO,Eb,Eh,Eo,Ep,Ei,Ej,CV,Ek,A6,CE,Ec,El]at o
  have m:D3 n 0 e d=D3 n 0 e (d.take i):=aC (by omega);rw[m];refine Ra ?_;simp only[Bi,Bl,BF,Nat.reduceEqDiff,BC,reduceIte];refine Ch ?_;refine C5 ?_;unfold W7;refine Ev (by intros;nofun) ?_;refine .inl ⟨_,rfl,_,rfl, ?_⟩;simp only[EO,AP,AT,AJ,AV,A0,A1,AB,Aq,Ay,A7,AL,Nat.reduceAdd,Nat.reduceMul,Be,AM,AW,AZ,AQ,AD,AN]
  try simp only[Bm,Vs.put,Bz,BR,BV,reduceIte,Nat.reduceEqDiff,Nat.reduceAdd]
  first|refine Ar (Dq rfl) ?_|refine Ar (Dr rfl) ?_
  try simp only[AP,AT,AJ,AV,A0,A1,AB,Aq,Ay,A7,AL,Nat.reduceAdd,Nat.reduceMul,Be,AM,AW,AZ,AQ,AD,AN]
  refine Ev (by intros;nofun) ?_;refine Hd rfl rfl rfl rfl (AS rfl) ?_;simp only[AP,AT,AJ,AV,A0,A1,AB,Aq,Ay,A7,AL,Nat.reduceAdd,Nat.reduceMul,Be,AM,AW,AZ,AQ,AD,AN]
  try simp only[Bm,Vs.put,Bz,BR,BV,reduceIte,Nat.reduceEqDiff,Nat.reduceAdd]
  simp only[B4,Bi,Bl,Vs.put,reduceIte,Nat.reduceEqDiff];refine Ch ?_;refine C5 ?_;unfold W8
  first|refine Ar (Dq rfl) ?_|refine Ar (Dr rfl) ?_
  try simp only[AP,AT,AJ,AV,A0,A1,AB,Aq,Ay,A7,AL,Nat.reduceAdd,Nat.reduceMul,Be,AM,AW,AZ,AQ,AD,AN]
  refine Ev (by intros;nofun) ?_;refine Hd rfl rfl rfl rfl (AS rfl) ?_;simp only[AP,AT,AJ,AV,A0,A1,AB,Aq,Ay,A7,AL,Nat.reduceAdd,Nat.reduceMul,Be,AM,AW,AZ,AQ,AD,AN]
  try simp only[Bm,Vs.put,Bz,BR,BV,reduceIte,Nat.reduceEqDiff,Nat.reduceAdd]
  simp only[B4,Bi,Bl,Vs.put,reduceIte,Nat.reduceEqDiff];refine Ch ?_;refine C5 ?_;unfold W9
  first|refine Ar (Dq rfl) ?_|refine Ar (Dr rfl) ?_
  try simp only[AP,AT,AJ,AV,A0,A1,AB,Aq,Ay,A7,AL,Nat.reduceAdd,Nat.reduceMul,Be,AM,AW,AZ,AQ,AD,AN]
  simp only[Vs.put,reduceIte,Nat.reduceEqDiff];refine Ev (by intros;nofun) ?_;refine Hd rfl rfl rfl rfl (AS rfl) ?_;simp only[AP,AT,AJ,AV,A0,A1,AB,Aq,Ay,A7,AL,Nat.reduceAdd,Nat.reduceMul,Be,AM,AW,AZ,AQ,AD,AN]
  try simp only[Bm,Vs.put,Bz,BR,BV,reduceIte,Nat.reduceEqDiff,Nat.reduceAdd]
  simp only[B4,Bi,Bl,Vs.put,reduceIte,Nat.reduceEqDiff];refine Ch ?_;refine C5 ?_;unfold WA
  first|refine Ar (O5 rfl rfl (AS rfl) rfl) ?_|refine Ar (O6 rfl rfl (rfl) (AS rfl) rfl) ?_
  try simp only[AP,AT,AJ,AV,A0,A1,AB,Aq,Ay,A7,AL,Nat.reduceAdd,Nat.reduceMul,Be,AM,AW,AZ,AQ,AD,AN]
  refine Ev (by intros;nofun) ?_;refine Hd rfl rfl rfl rfl (AS rfl) ?_;simp only[AP,AT,AJ,AV,A0,A1,AB,Aq,Ay,A7,AL,Nat.reduceAdd,Nat.reduceMul,Be,AM,AW,AZ,AQ,AD,AN]
  try simp only[Bm,Vs.put,Bz,BR,BV,reduceIte,Nat.reduceEqDiff,Nat.reduceAdd]
  simp only[B4,Bi,Bl,Vs.put,reduceIte,Nat.reduceEqDiff];refine K1 ?_;simp only[Bi,Bl,Fa,ev,St.opd,Vs.get,reduceIte,Nat.reduceEqDiff,Eg];refine⟨_,rfl,AS rfl, ?_⟩;simp only[AP,AT,AJ,AV,A0,A1,AB,Aq,Ay,A7,AL,Nat.reduceAdd,Nat.reduceMul,Be,AM,AW,AZ,AQ,AD,AN,Ey];exact Nu rfl rfl rfl (I0 rfl (by simp[LE]) (I0 rfl (by simp) (I1 (I1 rfl))))
 try simp only[l]
 try simp only[AA,D8,DN,CJ,Em,En,DO,Eb,Eh,Eo,Ep,Ei,Ej,CV,Ek,A6,CE,Ec,El]at l
 refine Jv rfl (by decide) ?_;refine Jv rfl (by decide) ?_;simp only[Vs.put,reduceIte,Nat.reduceEqDiff];refine Ar (ZY rfl rfl) ?_;simp only[B4,Bi,Bl,Vs.put,reduceIte,Nat.reduceEqDiff];refine HO rfl (λo=>?_) (λo=>?_)
 .exact H4 o (by simp at o)
 try simp only[AA,D8,DN,CJ,Em,En,DO,Eb,Eh,Eo,Ep,Ei,Ej,CV,Ek,A6,CE,Ec,El]at o
 have m:D3 n 0 e d=D3 n 0 e (d.take i):=aC (by omega);rw[m];refine Ra ?_;simp only[Bi,Bl,BF,Nat.reduceEqDiff,BC,reduceIte];refine Ch ?_;refine C5 ?_;unfold W7;refine Ev (by intros;nofun) ?_;refine .inl ⟨_,rfl,_,rfl, ?_⟩;simp only[EO,AP,AT,AJ,AV,A0,A1,AB,Aq,Ay,A7,AL,Nat.reduceAdd,Nat.reduceMul,Be,AM,AW,AZ,AQ,AD,AN]
 try simp only[Bm,Vs.put,Bz,BR,BV,reduceIte,Nat.reduceEqDiff,Nat.reduceAdd]
 first|refine Ar (Dq rfl) ?_|refine Ar (Dr rfl) ?_
 try simp only[AP,AT,AJ,AV,A0,A1,AB,Aq,Ay,A7,AL,Nat.reduceAdd,Nat.reduceMul,Be,AM,AW,AZ,AQ,AD,AN]
 simp only[Vs.put,reduceIte,Nat.reduceEqDiff];refine Ev (by intros;nofun) ?_;refine Hd rfl rfl rfl rfl (AS rfl) ?_;simp only[AP,AT,AJ,AV,A0,A1,AB,Aq,Ay,A7,AL,Nat.reduceAdd,Nat.reduceMul,Be,AM,AW,AZ,AQ,AD,AN]
 try simp only[Bm,Vs.put,Bz,BR,BV,reduceIte,Nat.reduceEqDiff,Nat.reduceAdd]
 simp only[B4,Bi,Bl,Vs.put,reduceIte,Nat.reduceEqDiff];refine Ch ?_;refine C5 ?_;unfold W8
 first|refine Ar (Dq rfl) ?_|refine Ar (Dr rfl) ?_
 try simp only[AP,AT,AJ,AV,A0,A1,AB,Aq,Ay,A7,AL,Nat.reduceAdd,Nat.reduceMul,Be,AM,AW,AZ,AQ,AD,AN]
 refine Ev (by intros;nofun) ?_;refine Hd rfl rfl rfl rfl (AS rfl) ?_;simp only[AP,AT,AJ,AV,A0,A1,AB,Aq,Ay,A7,AL,Nat.reduceAdd,Nat.reduceMul,Be,AM,AW,AZ,AQ,AD,AN]
 try simp only[Bm,Vs.put,Bz,BR,BV,reduceIte,Nat.reduceEqDiff,Nat.reduceAdd]
 simp only[B4,Bi,Bl,Vs.put,reduceIte,Nat.reduceEqDiff];refine Ch ?_;refine C5 ?_;unfold W9
 first|refine Ar (Dq rfl) ?_|refine Ar (Dr rfl) ?_
 try simp only[AP,AT,AJ,AV,A0,A1,AB,Aq,Ay,A7,AL,Nat.reduceAdd,Nat.reduceMul,Be,AM,AW,AZ,AQ,AD,AN]
 refine Ev (by intros;nofun) ?_;refine Hd rfl rfl rfl rfl (AS rfl) ?_;simp only[AP,AT,AJ,AV,A0,A1,AB,Aq,Ay,A7,AL,Nat.reduceAdd,Nat.reduceMul,Be,AM,AW,AZ,AQ,AD,AN]
 try simp only[Bm,Vs.put,Bz,BR,BV,reduceIte,Nat.reduceEqDiff,Nat.reduceAdd]
 simp only[B4,Bi,Bl,Vs.put,reduceIte,Nat.reduceEqDiff];refine Ch ?_;refine C5 ?_;unfold WA
 first|refine Ar (O5 rfl rfl (AS rfl) rfl) ?_|refine Ar (O6 rfl rfl (rfl) (AS rfl) rfl) ?_
 try simp only[AP,AT,AJ,AV,A0,A1,AB,Aq,Ay,A7,AL,Nat.reduceAdd,Nat.reduceMul,Be,AM,AW,AZ,AQ,AD,AN]
 refine Ev (by intros;nofun) ?_;refine Hd rfl rfl rfl rfl (AS rfl) ?_;simp only[AP,AT,AJ,AV,A0,A1,AB,Aq,Ay,A7,AL,Nat.reduceAdd,Nat.reduceMul,Be,AM,AW,AZ,AQ,AD,AN]
 try simp only[Bm,Vs.put,Bz,BR,BV,reduceIte,Nat.reduceEqDiff,Nat.reduceAdd]
 simp only[B4,Bi,Bl,Vs.put,reduceIte,Nat.reduceEqDiff];refine K1 ?_;simp only[Bi,Bl,Fa,ev,St.opd,Vs.get,reduceIte,Nat.reduceEqDiff,Eg];refine⟨_,rfl,AS rfl, ?_⟩;simp only[AP,AT,AJ,AV,A0,A1,AB,Aq,Ay,A7,AL,Nat.reduceAdd,Nat.reduceMul,Be,AM,AW,AZ,AQ,AD,AN,Ey];exact Nu rfl rfl rfl (I0 rfl (by simp[LE]) (I0 rfl (by simp) (I1 (I1 rfl))))
end
noncomputable def ze:SEnt Tryz.prog:=⟨39,[(true,DR),(false,.I .i64)],[(true,DR)],Uc,λx y a=>by
 unfold Uc at a;obtain⟨_,b,a⟩:=G6 a;obtain⟨_,c,a⟩:=G6 a;obtain⟨h,a⟩:=Es a;have h:=U1 h;have a:=Option.some.inj a;subst a;have b:=Zc b;have c:=Zc c;obtain⟨b,d⟩:=b;obtain⟨c,e⟩:=c;have d:=Option.some.inj d;have e:=Option.some.inj e;subst d e;exact Zlw x.1.1 x.1.2.1 x.1.2.2.1 x.1.2.2.2 x.2 h.1 h.2.1 h.2.2.1 h.2.2.2 (gI.ok _ _ c) (gQ.ok _ _ b)⟩
def Zek x:fX [.cur Vu,.gen IH,.gen gW,.gen Vt,.gen gU,.gen Gu,.see ze,.gen ZO,.gen
 gP] [(10,.el (.I .i64)),(14,.el (.I .i64))] (.sq none .d (.sq none .d (.sq none .d (.sq none .d (.sq none .d (.sq none .d (.sq (some [.bx 2 [.O (.L .Y),.O BH,.L (.I
 .i64),.L .B],.bx 5 [.O (.L .Y),.K,.K,.K]]) .d .d))))))) Tryz.f10 [(false,.L .Y)] [(true,DR)] x=XE x:=by kernel_rfl
def z_:=eS Tryz.func10 (by kernel_rfl) Zek
def Zcz x:fX [.see ZF,.see H7,.see Nb] [(40,.sb),(47,.sb)] (.sq none .d (.sq none .d (.sq (some [.kt 1,.kt 2]) (.sq none .d (.bl (.lp
 [.kt 1,.kt 2,.lt 5 (.I .i64)] .d))) .d))) Tryz.f44 [(true,DR),(false,.I .i64)] [(false,.L .Y)] x=Ru x:=by kernel_rfl
def ox:=eS Tryz.func44 (by kernel_rfl) Zcz
def Zco x:fX [] [] .d Tryz.f132 [(false,.L .Y),(false,.I .i64)] [(false,.I .i64),(false,.I .i64),(false,.B)] x=TN x:=by kernel_rfl
def oo:=eS Tryz.func132 (by kernel_rfl) Zco
def Zdu x:fG [.see oo] [] .d Tryz.f91 [⟨true,false,Lt,[.rx,.rd,.rd],(some I5)⟩] [(false,.I .i64)] x=Jb x:=by kernel_rfl
def gC:=eG Tryz.func91 (by kernel_rfl) Zdu
def Zds x:fG [.gen gC,.see fw] [] .d Tryz.f92 [⟨true,false,Lt,[.rx,.rd,.rd],(some I5)⟩] [(false,.B)] x=Mz x:=by kernel_rfl
def pI:=eG Tryz.func92 (by kernel_rfl) Zds
def Zck x:fX [.gen gC,.gen pI,.see H7] [] .d Tryz.f43 [(false,.L .Y)] [(false,.I .i64),(false,.I .i64),(false,.B)] x =
 TL x:=by kernel_rfl
def yw:=eS Tryz.func43 (by kernel_rfl) Zck
def Zdq x:fG [] [] .d Tryz.f95 [⟨true,false,Lt,[.rx,.rd,.rd],(some I5)⟩] [(false,.I .i64)] x=HP x:=by kernel_rfl
def gA:=eG Tryz.func95 (by kernel_rfl) Zdq
def Zcn x:fX [.see oo] [] .d Tryz.f134 [(false,.L .Y),(false,.I .i64)] [(false,.S),(false,.I .i64),(false,.B)] x=Xy x:=by kernel_rfl
def yz:=eS Tryz.func134 (by kernel_rfl) Zcn
def Zdt x:fG [.see yz] [] .d Tryz.f97 [⟨true,false,Lt,[.rx,.rd,.rd],(some I5)⟩] [(false,.S)] x=Ly x:=by kernel_rfl
def gB:=eG Tryz.func97 (by kernel_rfl) Zdt
def Zdp x:fG [.gen gA,.gen gB] [] .d Tryz.f133 [⟨true,false,Lt,[.rx,.rd,.rd],(some I5)⟩] [(true,BH)] x=JY x:=by
 kernel_rfl
def zM:=eG Tryz.func133 (by kernel_rfl) Zdp
end
end Go.Vs
