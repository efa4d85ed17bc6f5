import Derived.Test.YtmfmjngkbddenaaGreatDoorVsW5
import Derived.Test.YtmfmjngkbddenaaGreatDoorVsQo2
set_option linter.all false
namespace Go.Vs
noncomputable section
theorem Zkh (a b:List UInt8):sEq a b=(a==b):=rfl
theorem Ygt (a b:Int):iEq a b=decide (a=b):=by simp only[iEq];rfl
def Em (n:Int):List UInt8:=[yN (n.toNat / 256),yN (n.toNat%256)]
def M4 (s:List UInt8):List UInt8:=if s.length<=60 then Em s.length++s else []
def H9 (c:Cc):List UInt8:=yN c.1.toNat::M4 c.2
def Sv (b:Bool):Nat:=if b then 1 else 0
def T6 (r:Row):List UInt8:=M4 r.1++(yN r.2.2.2.1.toNat::yN (Sv r.2.2.2.2)::((if r.2.2.2.1=2 then [] else H9 r.2.1)++(if r.2.2.2.1=1 then [] else H9 r.2.2.1)))
def Bn:List UInt8->Option (Int×List UInt8)
 | []=>none
 | x::l=>some ((x.toNat:Int),l)
def Cd:List UInt8->Option (Int×List UInt8)
 | x::y::l=>some (((x.toNat*256+y.toNat:Nat):Int),l)
 | _=>none
def Dl (l:List UInt8):Option (List UInt8×List UInt8):=match Cd l with
 | none=>none
 | some (n,r)=>if n<=60/\n<=r.length then some (r.take n.toNat,r.drop n.toNat) else none
def Ej (l:List UInt8):Option (Cc×List UInt8):=match Bn l with
 | none=>none
 | some (t,r)=>match Dl r with
  | none=>none
  | some (s,r)=>some ((t,s),r)
def T2 (has:Int) (l:List UInt8):Option (Cc×List UInt8):=if has.toNat%2=1 then Ej l else some ((0,[]),l)
def T1 (has:Int) (l:List UInt8):Option (Cc×List UInt8):=if has.toNat / 2%2=1 then Ej l else some ((0,[]),l)
def Eb (l:List UInt8):Option (Row×List UInt8):=match Dl l with
 | none=>none
 | some (key,l)=>match Bn l with
  | none=>none
  | some (has,l)=>match Bn l with
   | none=>none
   | some (aside,l)=>if 1<aside then none else match T2 has l with
    | none=>none
    | some (old,l)=>match T1 has l with
     | none=>none
     | some (new,l)=>some ((key,old,new,has,decide (aside=1)),l)
def Ex (l:List UInt8):Option (Row×List UInt8):=match Eb l with
 | none=>none
 | some (r,l)=>if C3 r then some (r,l) else none
theorem Qz {n:Int}(h0:0<=n) (h1:n<65536) (r:List UInt8):Cd (Em n++r)=some (n,r):=by
 have e0:=E2 (n:=n.toNat / 256) (by omega);have e1:=E2 (n:=n.toNat%256) (by omega);simp only[Em,Kq,Ks,Cd,e0,e1];congr 2;omega
theorem Pd {l r:List UInt8}{n:Int}(h:Cd l=some (n,r)):l=Em n++r/\0<=n/\n<65536:=by
 match l,h with
 | [],h=>simp [Cd]at h
 | [_],h=>simp [Cd]at h
 | x::y::l,h =>
  simp only[Cd,Ka,Kb]at h;obtain⟨rfl,rfl⟩:=h;have h0:=B2 x;have h1:=B2 y;refine⟨?_,by omega,by omega⟩;rw[Em,D0 (b:=x) (by omega),D0 (b:=y) (by omega)];rfl
theorem Zjm {s:List UInt8}(h:s.length<=60) (r:List UInt8):Dl (M4 s++r)=some (s,r):=by
 unfold M4 Dl;rw[if_pos h,Klb,Qz (by omega) (by omega)];simp only;rw[if_pos (by simp only[Kab];omega)];simp
theorem Re {l s r:List UInt8}(h:Dl l=some (s,r)):l=M4 s++r/\s.length<=60:=by
 unfold Dl at h;split at h
 ·cases h
 ·rename_i n q hq;obtain⟨rfl,h0,h1⟩:=Pd hq;split at h
  ·rename_i hn;simp only[Ka,Kb]at h;obtain⟨rfl,rfl⟩:=h;have hl:(q.take n.toNat).length=n.toNat:=by rw[Kta];omega
   refine⟨?_,by omega⟩;unfold M4;rw[if_pos (by omega),hl,Klb,Kkc,Ksd h0]
  ·cases h
theorem Zsg {c:Cc}(h0:0<=c.1) (h1:c.1<256) (h:c.2.length<=60) (r:List UInt8):Ej (H9 c++r)=some (c,r):=by
 simp only[H9,Kq,Ej,Bn,Zjm h,E2 (n:=c.1.toNat) (by omega)];rw[Ksd h0]
theorem Znn {l r:List UInt8}{c:Cc}(h:Ej l=some (c,r)):l=H9 c++r/\0<=c.1/\c.1<256/\c.2.length<=60:=by
 unfold Ej at h
 match l,h with
 | [],h=>simp [Bn]at h
 | x::l,h =>
  simp only[Bn]at h;split at h
  ·cases h
  ·rename_i s q hq;obtain⟨rfl,hs⟩:=Re hq;simp only[Ka,Kb]at h;obtain⟨rfl,rfl⟩:=h;have:=B2 x;refine⟨?_,by simp only;omega,by simp only;omega,hs⟩;simp only[H9,Kq,Kxb,D0 rfl]
theorem Zjx {o:Cc}{has:Int}{aside:Bool}(h:Hh o has aside=true) (h2:has≠2):1<=o.1/\o.1<=5/\o.2.length<=20/\((Dj o).isSome=true\/(aside=true/\has=1)):=by
 simp only[Hh,if_neg h2,Ke,Kfb,decide_eq_true_eq]at h;exact⟨h.1.1.1,h.1.1.2,h.1.2,h.2⟩
theorem Zjw {n:Cc}{has:Int}(h:Hg n has=true) (h2:has≠1):n.1=0/\(Dj n).isSome=true/\n.2.length<=20:=by
 simp only[Hg,if_neg h2,Ke,decide_eq_true_eq]at h;refine⟨h.1,h.2, ?_⟩;obtain⟨t,ht⟩:=Option.isSome_iff_exists.1 h.2;have:=(Zyg ht).1;simp only[Fq,Ke,decide_eq_true_eq]at this;exact this.2
theorem Yjj {r:Row}(h:C3 r=true) (l:List UInt8):Ex (T6 r++l)=some (r,l):=by
 obtain⟨a,b1,b2,c,d,e⟩:=Zdo h;have hk:=Xf a;obtain⟨key,old,new,has,aside⟩:=r;simp only at a b1 b2 c d e hk;have key1:Eb (T6 (key,old,new,has,aside)++l)=some ((key,old,new,has,aside),l):=by
  unfold T6 Eb;simp only[Klb,Kq];rw[Zjm (by omega)];simp only[Bn,E2 (n:=has.toNat) (by omega),E2 (n:=Sv aside) (by unfold Sv;split<;>omega),Ksd (show 0<=has by omega)]
  rw[if_neg (by unfold Sv;split<;>omega)]
  have ea:decide (((Sv aside:Nat):Int)=1)=aside:=by cases aside<;>rfl
  have eo:T2 has ((if has=2 then [] else H9 old)++((if has=1 then [] else H9 new)++l))=some (old,(if has=1 then [] else H9 new)++l):=by
   unfold T2;by_cases h2:has=2
   ·subst h2;have hn:Eh old=true:=by simpa [Hh] using c
    rw[if_neg (by decide),if_pos rfl,Qr hn];rfl
   ·obtain⟨o1,o2,o3,_⟩:=Zjx c h2;rw[if_pos (by omega),if_neg h2,Zsg (by omega) (by omega) (by omega)]
  have en:T1 has ((if has=1 then [] else H9 new)++l)=some (new,l):=by
   unfold T1;by_cases h2:has=1
   ·subst h2;have hn:Eh new=true:=by simpa [Hg] using d
    rw[if_neg (by decide),if_pos rfl,Qr hn];rfl
   ·obtain⟨n1,n2,n3⟩:=Zjw d h2;rw[if_pos (by omega),if_neg h2,Zsg (by omega) (by omega) (by omega)]
  rw[eo];simp only[en,ea]
 unfold Ex;rw[key1];simp only[h,if_true]
theorem Ztf {l q:List UInt8}{r:Row}(h:Ex l=some (r,q)):l=T6 r++q/\C3 r=true:=by
 unfold Ex at h;split at h
 ·cases h
 rename_i r' q' h0;split at h
 case isFalse=>cases h
 rename_i hok;simp only[Ka,Kb]at h;obtain⟨rfl,rfl⟩:=h;refine⟨?_,hok⟩;unfold Eb at h0;split at h0
 ·cases h0
 rename_i key l1 h1;obtain⟨rfl,_⟩:=Re h1
 match l1,h0 with
 | [],h0=>simp [Bn]at h0
 | [_],h0=>simp [Bn]at h0
 | x::y::l1,h0 =>
 have hx:=B2 x;have hy:=B2 y;simp only[Bn]at h0;split at h0
 ·cases h0
 rename_i hy1;split at h0
 ·cases h0
 rename_i old l2 h2;split at h0
 ·cases h0
 rename_i new l3 h3;simp only[Ka,Kb]at h0;obtain⟨rfl,rfl⟩:=h0;obtain⟨_,b1,b2,_⟩:=Zdo hok;simp only at b1 b2;unfold T6;simp only[Klb,Kq,Kxb];rw[D0 (b:=x) rfl,D0 (b:=y) (by unfold Sv;split<;>(rename_i hd;simp only[decide_eq_true_eq]at hd;omega))]
 congr 3;have eo:l1=(if (x.toNat:Int)=2 then [] else H9 old)++l2:=by
  unfold T2 at h2;by_cases h4:(x.toNat:Int)=2
  ·rw[if_pos h4];rw[if_neg (by omega)]at h2;simp only[Ka,Kb]at h2;exact h2.2
  ·rw[if_neg h4];rw[if_pos (by omega)]at h2;exact (Znn h2).1
 have en:l2=(if (x.toNat:Int)=1 then [] else H9 new)++l3:=by
  unfold T1 at h3;by_cases h4:(x.toNat:Int)=1
  ·rw[if_pos h4];rw[if_neg (by omega)]at h3;simp only[Ka,Kb]at h3;exact h3.2
  ·rw[if_neg h4];rw[if_pos (by omega)]at h3;exact (Znn h3).1
 rw[<-en,<-eo]
theorem Zdv (c:Cc):Nh c=some (Eh c):=by
 obtain⟨t,b⟩:=c;unfold Nh Eh;simp only[iEq,Aj];by_cases h:t=0
 ·subst h;rw[show ((0:Int)==0)=true from rfl,Ag,decide_eq_true rfl,Knc];cases b with
  | nil=>rfl
  | cons x l =>
   have:(((x::l).length:Int)==0)=false:=by simp;omega
   rw[this];rfl
 ·have:(t==0)=false:=by simpa using h
  rw[this,Ae,decide_eq_false h];rfl
theorem Zci (c:Cc):I6 ((c.1,c.2),(0,[]))=some (Eh c):=by
 obtain⟨t,b⟩:=c;unfold I6 Eh;simp only[iEq,sEq];by_cases h:t=0
 ·subst h;rw[show ((0:Int)==0)=true from rfl,Ag,decide_eq_true rfl,Knc];cases b<;>rfl
 ·have:(t==0)=false:=by simpa using h
  rw[this,Ae,decide_eq_false h];rfl
theorem Zdb (o:Option (List UInt8)):(Ip o).2=o.isSome:=by cases o<;>rfl
theorem Zge {o:Cc}(h:1<=o.1/\o.1<=5):Fq o=decide (o.2.length<=20):=by
 unfold Fq;rw[decide_eq_true (show 0<=o.1/\o.1<=5 by omega),Knc]
theorem Zt7 {r:Row}(hl:r.1.length<9223372036854775807):Pr r=some (C3 r):=by
 obtain⟨key,⟨ot,ob⟩,⟨nt,nb⟩,has,aside⟩:=r;have n1:Ru key=some (Fk key):=Zkl hl;have n2:=Zkk (ot,ob);have n3:=Zkk (nt,nb);have n4:=Zdv (ot,ob);have n5:=Zdv (nt,nb);have n6:=Ykv (ot,ob) (nt,nb);have n7:=Zkj (ot,ob);have nI:B0 (has,(1,3))=some (decide (1<=has/\has<=3)):=Ee _ _ _;have nT:B0 (ot,(1,5))=some (decide (1<=ot/\ot<=5)):=Ee _ _ _;unfold Pr C3
 dsimp only
 rw[n1,Ab];cases hn:Fk key with
 | false=>rfl
 | true =>
 rw[Bd,Ae,nI,Ab];by_cases hh:1<=has/\has<=3
 case neg=>rw[decide_eq_false hh];rfl
 rw[decide_eq_true hh,Bd,Ae];rcases (show has=1\/has=2\/has=3 by omega) with rfl|rfl|rfl
 ·have o1:Di (key,(ot,ob),(nt,nb),1,aside)=some true:=congrArg some (show iEq (Av .i64 1 1) 1=true by decide +kernel);have o2:Cx (key,(ot,ob),(nt,nb),1,aside)=some false:=congrArg some (show iEq (Av .i64 1 2) 2=false by decide +kernel);simp only[o1,o2,n2,n3,n4,n5,n6,n7,nT,Ab,Bd,Cp,Ag,Ae,Zdb];rw[show iNe 1 3=true from rfl,Ag];unfold Hh Hg;rw[if_neg (by decide),if_pos rfl];by_cases hT:1<=ot/\ot<=5
  ·rw[Zge (o:=(ot,ob)) hT];generalize Eh (nt,nb)=b1;generalize decide (ob.length<=20)=b2;generalize (Dj (ot,ob)).isSome=b3;simp only[decide_eq_true hT];cases b1<;>cases b2<;>cases b3<;>cases aside<;>rfl
  ·simp only[decide_eq_false hT];generalize Eh (nt,nb)=b1;cases b1<;>rfl
 ·have o1:Di (key,(ot,ob),(nt,nb),2,aside)=some false:=congrArg some (show iEq (Av .i64 2 1) 1=false by decide +kernel);have o2:Cx (key,(ot,ob),(nt,nb),2,aside)=some true:=congrArg some (show iEq (Av .i64 2 2) 2=true by decide +kernel);simp only[o1,o2,n2,n3,n4,n5,n6,n7,nT,Ab,Bd,Cp,Ag,Ae,Zdb];rw[show iNe 2 3=true from rfl,Ag];unfold Hh Hg;rw[if_pos rfl,if_neg (by decide)];have e0:iNe nt 0=!decide (nt=0):=by
   by_cases h:nt=0
   ·subst h;rfl
   ·rw[Oa h,decide_eq_false h];rfl
  rw[e0];generalize Eh (ot,ob)=b1;generalize decide (nt=0)=b2;generalize (Dj (nt,nb)).isSome=b3;cases b1<;>cases b2<;>cases b3<;>rfl
 ·have o1:Di (key,(ot,ob),(nt,nb),3,aside)=some true:=congrArg some (show iEq (Av .i64 3 1) 1=true by decide +kernel);have o2:Cx (key,(ot,ob),(nt,nb),3,aside)=some true:=congrArg some (show iEq (Av .i64 3 2) 2=true by decide +kernel);simp only[o1,o2,n2,n3,n4,n5,n6,n7,nT,Ab,Bd,Cp,Ag,Ae,Zdb];rw[show iNe 3 3=false from rfl];simp only[Ae];unfold Hh Hg;rw[if_neg (by decide),if_neg (by decide)];have e0:iNe nt 0=!decide (nt=0):=by
   by_cases h:nt=0
   ·subst h;rfl
   ·rw[Oa h,decide_eq_false h];rfl
  rw[e0];by_cases hT:1<=ot/\ot<=5
  ·rw[Zge (o:=(ot,ob)) hT];simp only[decide_eq_true hT];generalize decide (nt=0)=b1;generalize decide (ob.length<=20)=b2;generalize (Dj (ot,ob)).isSome=b3;generalize (Dj (nt,nb)).isSome=b4;generalize O2 (ot,ob) (nt,nb)=b5;cases b1<;>cases b2<;>cases b3<;>cases b4<;>cases b5<;>cases aside<;>rfl
  ·simp only[decide_eq_false hT];generalize decide (nt=0)=b1;generalize (Dj (nt,nb)).isSome=b4;cases b1<;>cases b4<;>rfl
theorem Zh3 {r:Row}(hl:r.1.length<9223372036854775807):L0 r=some (C3 r):=by
 obtain⟨key,⟨ot,ob⟩,⟨nt,nb⟩,has,aside⟩:=r;have n1:Uz key=some (Fk key):=Zqn hl;have n2:=Zh1 (ot,ob);have n3:=Zh1 (nt,nb);have n4:I6 ((ot,ob),(0,[]))=some (Eh (ot,ob)):=Zci (ot,ob);have n5:I6 ((nt,nb),(0,[]))=some (Eh (nt,nb)):=Zci (nt,nb);have n6:=Yha (ot,ob) (nt,nb);have n7:=Zql (ot,ob);have nI:De (has,(1,3))=some (decide (1<=has/\has<=3)):=K6 _ _ _;unfold L0 C3
 dsimp only
 rw[n1,Ab];cases hn:Fk key with
 | false=>rfl
 | true =>
 rw[Bd,Ae,nI,Ab];by_cases hh:1<=has/\has<=3
 case neg=>rw[decide_eq_false hh];rfl
 rw[decide_eq_true hh,Bd,Ae];simp only[n2,n3,n4,n5,n6,n7,Ab,Zdb];have e0:iEq nt 0=decide (nt=0):=by
  by_cases h:nt=0
  ·subst h;rfl
  ·rw[Ep h,decide_eq_false h]
 have eC:cnd (Fq (ot,ob)) (cnd (iNe ot 0) (cnd (Dj (ot,ob)).isSome (some (Sum.inl (β:=Bool) true)) (cnd aside (some (.inl (iEq has 1))) (some (.inl false)))) (some (.inl false))) (some (.inl false))=some (.inl (decide (1<=ot/\ot<=5)&&decide (ob.length<=20)&&((Dj (ot,ob)).isSome||(aside&&iEq has 1)))):=by
  by_cases hT:1<=ot/\ot<=5
  ·rw[Zge (o:=(ot,ob)) hT,decide_eq_true hT,Oa (by omega)];generalize decide (ob.length<=20)=b2;generalize (Dj (ot,ob)).isSome=b3;generalize iEq has 1=b4;cases b2<;>cases b3<;>cases b4<;>cases aside<;>rfl
  ·rw[decide_eq_false hT];by_cases h0:ot=0
   ·subst h0;rw[show iNe 0 0=false from rfl];cases Fq (0,ob)<;>rfl
   ·have:Fq (ot,ob)=false:=by
     unfold Fq;rw[decide_eq_false (by simp only;omega)];rfl
    rw[this];rfl
 rw[eC,e0];rcases (show has=1\/has=2\/has=3 by omega) with rfl|rfl|rfl
 ·unfold Hh Hg;rw[if_neg (by decide),if_pos rfl,show iNe 1 2=true from rfl,show iNe 1 1=false from rfl,show iNe 1 3=true from rfl,show iEq 1 1=true from rfl];generalize (decide (1<=ot/\ot<=5))=b0;generalize Eh (nt,nb)=b1;generalize decide (ob.length<=20)=b2;generalize (Dj (ot,ob)).isSome=b3;cases b0<;>cases b1<;>cases b2<;>cases b3<;>cases aside<;>rfl
 ·unfold Hh Hg;rw[if_pos rfl,if_neg (by decide),show iNe 2 2=false from rfl,show iNe 2 1=true from rfl,show iNe 2 3=true from rfl];generalize Eh (ot,ob)=b1;generalize decide (nt=0)=b2;generalize (Dj (nt,nb)).isSome=b3;cases b1<;>cases b2<;>cases b3<;>rfl
 ·unfold Hh Hg;rw[if_neg (by decide),if_neg (by decide),show iNe 3 2=true from rfl,show iNe 3 1=true from rfl,show iNe 3 3=false from rfl,show iEq 3 1=false from rfl];generalize (decide (1<=ot/\ot<=5))=b0;generalize decide (nt=0)=b1;generalize decide (ob.length<=20)=b2;generalize (Dj (ot,ob)).isSome=b3;generalize (Dj (nt,nb)).isSome=b4;generalize O2 (ot,ob) (nt,nb)=b5;cases b0<;>cases b1<;>cases b2<;>cases b3<;>cases b4<;>cases b5<;>cases aside<;>rfl
theorem K4 (a b:Int):iEq a b=decide (a=b):=by simp only[iEq];rfl
abbrev Rec:=Int×Row×List UInt8×Int×Int×Int×Int
def Ei (r:Row):Bool:=r.1.isEmpty&&Eh r.2.1&&Eh r.2.2.1&&decide (r.2.2.2.1=0)&&!r.2.2.2.2
theorem Zc6 {r:Row}(h:Ei r=true):r=([],(0,[]),(0,[]),0,false):=by
 obtain⟨k,o,n,z,a⟩:=r;simp only[Ei,Ke,decide_eq_true_eq,Kpd,Kjb]at h;obtain⟨⟨⟨⟨h1,h2⟩,h3⟩,h4⟩,h5⟩:=h;rw[h1,Qr h2,Qr h3,h4,h5]
def I8 (k:Int) (R:Row) (key:List UInt8) (n:Int):Bool :=
 if k=1 then C3 R&&key.isEmpty&&decide (n=0)
 else if k=2 then Ei R&&Fk key&&decide (n=0)
 else if k=3 then Ei R&&key.isEmpty&&decide (0<=n/\n<=7)
 else if k=4 then Ei R&&key.isEmpty&&decide (n=0)
 else false
def Rj (k who seq code:Int):Bool:=if who=0 then decide (seq=0/\code=0/\k≠4) else decide (1<=who/\who<=9/\0<=seq/\seq<=65535/\0<=code/\code<=6)
def Dc (r:Rec):Bool:=I8 r.1 r.2.1 r.2.2.1 r.2.2.2.1&&Rj r.1 r.2.2.2.2.1 r.2.2.2.2.2.1 r.2.2.2.2.2.2
def V5 (k:Int) (R:Row) (key:List UInt8) (n:Int):List UInt8:=if k=1 then T6 R else if k=2 then M4 key else if k=3 then [yN n.toNat] else []
def Oy (gen place:Int) (r:Rec):List UInt8:=Em gen++(Em place++(yN r.1.toNat::(V5 r.1 r.2.1 r.2.2.1 r.2.2.2.1++(yN r.2.2.2.2.1.toNat::yN r.2.2.2.2.2.2.toNat::Em r.2.2.2.2.2.1))))
def Zu4 (b:List UInt8):List UInt8:=b++Em (crc b)
def Zjv (gen place:Int) (r:Rec):List UInt8:=if Dc r=true/\0<=gen/\gen<=65535/\0<=place/\place<=65535 then Zu4 (Oy gen place r) else []
def Xm (k:Int) (l:List UInt8):Option ((Row×List UInt8×Int)×List UInt8) :=
 if k=1 then (match Ex l with
  | none=>none
  | some (r,l)=>some ((r,[],0),l))
 else if k=2 then (match Dl l with
  | none=>none
  | some (s,l)=>some ((([],(0,[]),(0,[]),0,false),s,0),l))
 else if k=3 then (match Bn l with
  | none=>none
  | some (n,l)=>some ((([],(0,[]),(0,[]),0,false),[],n),l))
 else some ((([],(0,[]),(0,[]),0,false),[],0),l)
def Hx (l:List UInt8):Option ((Int×Int×Rec)×List UInt8):=match Cd l with
 | none=>none
 | some (gen,l)=>match Cd l with
  | none=>none
  | some (place,l)=>match Bn l with
   | none=>none
   | some (k,l)=>match Xm k l with
    | none=>none
    | some ((R,key,n),l)=>match Bn l with
     | none=>none
     | some (who,l)=>match Bn l with
      | none=>none
      | some (code,l)=>match Cd l with
       | none=>none
       | some (seq,l)=>some ((gen,place,(k,R,key,n,who,seq,code)),l)
def Fv (b:List UInt8):Option (Int×Int×Rec):=match Hx b with
 | none=>none
 | some (x,l)=>if l=Em (crc (b.take (b.length-2)))/\l.length=2/\Dc x.2.2=true then some x else none
theorem Zww (n:Int):(Em n).length=2:=rfl
theorem Zsf {k:Int}{R:Row}{key:List UInt8}{n:Int}(h:I8 k R key n=true) (l:List UInt8):Xm k (V5 k R key n++l)=some ((R,key,n),l)/\1<=k/\k<=4:=by
 unfold I8 at h;unfold Xm V5;split at h
 ·rename_i hk;simp only[Ke,decide_eq_true_eq,Kpd]at h;obtain⟨⟨h1,rfl⟩,rfl⟩:=h;rw[if_pos hk,if_pos hk,Yjj h1];exact⟨rfl,by omega,by omega⟩
 split at h
 ·rename_i h1 hk;simp only[Ke,decide_eq_true_eq]at h;obtain⟨⟨h2,h3⟩,rfl⟩:=h;rw[if_neg h1,if_pos hk,if_neg h1,if_pos hk,Zjm (by have:=Xf h3;omega),Zc6 h2];exact⟨rfl,by omega,by omega⟩
 split at h
 ·rename_i h1 h2 hk;simp only[Ke,decide_eq_true_eq,Kpd]at h;obtain⟨⟨h3,rfl⟩,h4⟩:=h;rw[if_neg h1,if_neg h2,if_pos hk,if_neg h1,if_neg h2,if_pos hk,Zc6 h3];simp only[Kq,Ks,Bn,E2 (n:=n.toNat) (by omega),Ksd h4.1];exact⟨trivial,by omega,by omega⟩
 split at h
 ·rename_i h1 h2 h3 hk;simp only[Ke,decide_eq_true_eq,Kpd]at h;obtain⟨⟨h4,rfl⟩,rfl⟩:=h;rw[if_neg h1,if_neg h2,if_neg h3,if_neg h1,if_neg h2,if_neg h3,Zc6 h4];exact⟨rfl,by omega,by omega⟩
 ·cases h
theorem Zx7 {k:Int}{x:Row×List UInt8×Int}{l q:List UInt8}(h:Xm k l=some (x,q)):l=V5 k x.1 x.2.1 x.2.2++q:=by
 unfold Xm at h;unfold V5;split at h
 ·rename_i hk;rw[if_pos hk];split at h
  ·cases h
  ·rename_i r l2 h2;simp only[Ka,Kb]at h;obtain⟨rfl,rfl⟩:=h;exact (Ztf h2).1
 split at h
 ·rename_i h1 hk;rw[if_neg h1,if_pos hk];split at h
  ·cases h
  ·rename_i r l2 h2;simp only[Ka,Kb]at h;obtain⟨rfl,rfl⟩:=h;exact (Re h2).1
 split at h
 ·rename_i h1 h2 hk;rw[if_neg h1,if_neg h2,if_pos hk]
  match l,h with
  | [],h=>simp [Bn]at h
  | y::l,h =>
   simp only[Bn,Ka,Kb]at h;obtain⟨rfl,rfl⟩:=h;simp only[Kxb,D0 rfl,Kq,Ks]
 ·rename_i h1 h2 h3;rw[if_neg h1,if_neg h2,if_neg h3];simp only[Ka,Kb]at h;exact h.2
theorem Zwr {k who seq code:Int}(h:Rj k who seq code=true):0<=who/\who<=9/\0<=seq/\seq<=65535/\0<=code/\code<=6:=by
 unfold Rj at h;split at h
 ·simp only[decide_eq_true_eq]at h;omega
 ·simp only[decide_eq_true_eq]at h;omega
theorem Zsi {gen place:Int}{r:Rec}(h:Dc r=true) (g0:0<=gen) (g1:gen<=65535) (p0:0<=place) (p1:place<=65535) (l:List UInt8):Hx (Oy gen place r++l)=some ((gen,place,r),l):=by
 obtain⟨k,R,key,n,who,seq,code⟩:=r;simp only[Dc,Ke]at h;obtain⟨h1,h2⟩:=h;have hw:=Zwr h2;obtain⟨_,hk1,hk2⟩:=Zsf h1 [];unfold Oy Hx;simp only[Klb,Kq];rw[Qz g0 (by omega)];simp only;rw[Qz p0 (by omega)];simp only[Bn,E2 (n:=k.toNat) (by omega),Ksd (show 0<=k by omega)];rw[(Zsf h1 _).1];simp only[E2 (n:=who.toNat) (by omega),Ksd (show 0<=who by omega),E2 (n:=code.toNat) (by omega),Ksd (show 0<=code by omega)];rw[Qz (by omega) (by omega)]
theorem Zj2 {l q:List UInt8}{x:Int×Int×Rec}(h:Hx l=some (x,q)):l=Oy x.1 x.2.1 x.2.2++q/\0<=x.1/\x.1<=65535/\0<=x.2.1/\x.2.1<=65535:=by
 unfold Hx at h;split at h
 ·cases h
 rename_i gen l1 h1;obtain⟨rfl,g0,g1⟩:=Pd h1;split at h
 ·cases h
 rename_i place l2 h2;obtain⟨rfl,p0,p1⟩:=Pd h2
 match l2,h with
 | [],h=>simp [Bn]at h
 | kb::l2,h =>
 simp only[Bn]at h;split at h
 ·cases h
 rename_i R key n l3 h3;have e3:=Zx7 h3
 match l3,h,e3 with
 | [],h,_=>simp at h
 | [_],h,_=>simp at h
 | w::c::l3,h,e3 =>
 simp only at h;split at h
 ·cases h
 rename_i seq l4 h4;obtain⟨rfl,s0,s1⟩:=Pd h4;simp only[Ka,Kb]at h;obtain⟨rfl,rfl⟩:=h;refine⟨?_,g0,by simp only;omega,p0,by simp only;omega⟩;simp only at e3;unfold Oy;simp only[Klb,Kq,Kxb];rw[D0 (b:=kb) rfl,D0 (b:=w) rfl,D0 (b:=c) rfl,<-e3]
theorem Yjr {b:List UInt8}{x:Int×Int×Rec}(h:Fv b=some x):Zjv x.1 x.2.1 x.2.2=b/\Dc x.2.2=true/\0<=x.1/\x.1<=65535/\0<=x.2.1/\x.2.1<=65535:=by
 unfold Fv at h;split at h
 ·cases h
 rename_i y l h1;split at h
 case isFalse=>cases h
 rename_i hc;simp only[Ka]at h;subst h;obtain⟨h2,h3,h4⟩:=hc;obtain⟨h5,a,b',c,d⟩:=Zj2 h1;refine⟨?_,h4,a,b',c,d⟩;unfold Zjv Zu4;rw[if_pos ⟨h4,a,b',c,d⟩];have e:b.take (b.length-2)=Oy y.1 y.2.1 y.2.2:=by
  rw[h5,Kab,h3,Nat.add_sub_cancel,List.take_left]
 rw[e]at h2;rw[<-h2,<-h5]
theorem Si (a b:Bool):cnd a (some b) (some false)=some (a&&b):=by cases a<;>rfl
theorem Zyn {ρ:Type}(a b:Bool):cnd a (some (.inl b)) (some (.inl false))=(some (.inl (a&&b)):Option (Bool ⊕ ρ)):=by cases a<;>rfl
theorem Zds (l:List UInt8):sEq l []=l.isEmpty:=by cases l<;>rfl
theorem Yk8 (r:Row):Z6 r=some (Ei r):=by
 obtain⟨key,⟨ot,ob⟩,⟨nt,nb⟩,has,aside⟩:=r;unfold Z6 Ei;have e1:=Zdv (ot,ob);have e2:=Zdv (nt,nb);simp only[e1,e2,Ab,Si,Zds,K4];congr 1;cases aside<;>simp [Ah,Kre]
theorem Yhk (r:Row):Za ((r.1,((r.2.1.1,r.2.1.2),((r.2.2.1.1,r.2.2.1.2),(r.2.2.2.1,r.2.2.2.2)))),([],((0,[]),((0,[]),(0,false)))))=some (Ei r):=by
 obtain⟨key,⟨ot,ob⟩,⟨nt,nb⟩,has,aside⟩:=r;unfold Za Ei;have e1:I6 ((ot,ob),(0,[]))=_:=Zci (ot,ob);have e2:I6 ((nt,nb),(0,[]))=_:=Zci (nt,nb);simp only[e1,e2,Ab,Si,Zds,K4];congr 1;cases aside<;>simp [bEq,Kre]
theorem Ynm (k w sq cd:Int):cnd (decide (w=0)) (some (decide (sq=0)&&(decide (cd=0)&&iNe k 4))) (some (decide (1<=w/\w<=9)&&(decide (0<=sq/\sq<=65535)&&decide (0<=cd/\cd<=6))))=some (Rj k w sq cd):=by
 unfold Rj;by_cases h:w=0
 ·rw[decide_eq_true h,Ag,if_pos h];simp only[iNe];congr 1;rw[Klc];simp
 ·rw[decide_eq_false h,Ae,if_neg h];congr 1;rw[Klc];simp only[Ke,decide_eq_true_eq];omega
theorem Zx9 (k n:Int) (R:Row) (key:List UInt8) (f:Bool):(Aq (cnd (decide (k=1)) (some (.inl (C3 R,(key.isEmpty,decide (n=0))))) (cnd (decide (k=2)) (some (.inl (Ei R,(Fk key,decide (n=0))))) (cnd (decide (k=3)) (some (.inl (Ei R,(key.isEmpty,decide (0<=n/\n<=7))))) (some (.inl (Ei R,(key.isEmpty,decide (n=0))))))):Option ((Bool×Bool×Bool) ⊕ Bool)) fun z=>some (decide (1<=k/\k<=4)&&(z.1&&(z.2.1&&(z.2.2&&f)))))=some (I8 k R key n&&f):=by
 unfold I8;rcases (show k=1\/k=2\/k=3\/k=4\/¬(1<=k/\k<=4) by omega) with rfl|rfl|rfl|rfl|h
 ·generalize C3 R=a;generalize key.isEmpty=b;generalize decide (n=0)=c;cases a<;>cases b<;>cases c<;>cases f<;>rfl
 ·generalize Ei R=a;generalize Fk key=b;generalize decide (n=0)=c;cases a<;>cases b<;>cases c<;>cases f<;>rfl
 ·generalize Ei R=a;generalize key.isEmpty=b;generalize decide (0<=n/\n<=7)=c;cases a<;>cases b<;>cases c<;>cases f<;>rfl
 ·generalize Ei R=a;generalize key.isEmpty=b;generalize decide (n=0)=c;cases a<;>cases b<;>cases c<;>cases f<;>rfl
 ·rw[decide_eq_false h,decide_eq_false (show ¬k=1 by omega),decide_eq_false (show ¬k=2 by omega),decide_eq_false (show ¬k=3 by omega),if_neg (by omega),if_neg (by omega),if_neg (by omega),if_neg (by omega)];rfl
theorem Zt6 {r:Rec}(h1:r.2.1.1.length<9223372036854775807) (h2:r.2.2.1.length<9223372036854775807):Rw r=some (Dc r):=by
 obtain⟨k,⟨key,⟨ot,ob⟩,⟨nt,nb⟩,has,aside⟩,name,n,w,sq,cd⟩:=r;simp only at h1 h2;have e1:=Yk8 (key,((ot,ob),((nt,nb),(has,aside))));have e2:Pr (key,((ot,ob),((nt,nb),(has,aside))))=_:=Zt7 (by simp only;omega);have e3:=Zkl h2;have e4:∀x l h:Int,B0 (x,(l,h))=some (decide (l<=x/\x<=h)):=Ee;unfold Rw Dc Ze2 Vg;simp only[e1,e2,e3,e4,Ab,Si,Zds,K4,Ynm,Zx9]
theorem Zx8 (k n w:Int) (R:Row) (key:List UInt8):cnd (decide (k=1)) (some (.inl (C3 R&&(key.isEmpty&&decide (n=0))))) (cnd (decide (k=2)) (some (.inl (Ei R&&(Fk key&&decide (n=0))))) (cnd (decide (k=3)) (some (.inl (Ei R&&(key.isEmpty&&decide (0<=n/\n<=7))))) (some (.inl (decide (k=4)&&(Ei R&&(key.isEmpty&&(decide (n=0)&&iNe w 0))))))))=(some (.inl (I8 k R key n&&!(decide (k=4/\w=0)))):Option (Bool ⊕ Bool)):=by
 unfold I8;rcases (show k=1\/k=2\/k=3\/k=4\/¬(1<=k/\k<=4) by omega) with rfl|rfl|rfl|rfl|h
 ·generalize C3 R=a;generalize key.isEmpty=b;generalize decide (n=0)=c;rw[decide_eq_false (show ¬((1:Int)=4/\w=0) by omega)];cases a<;>cases b<;>cases c<;>rfl
 ·generalize Ei R=a;generalize Fk key=b;generalize decide (n=0)=c;rw[decide_eq_false (show ¬((2:Int)=4/\w=0) by omega)];cases a<;>cases b<;>cases c<;>rfl
 ·generalize Ei R=a;generalize key.isEmpty=b;generalize decide (0<=n/\n<=7)=c;rw[decide_eq_false (show ¬((3:Int)=4/\w=0) by omega)];cases a<;>cases b<;>cases c<;>rfl
 ·generalize Ei R=a;generalize key.isEmpty=b;generalize decide (n=0)=c;rw[show decide ((4:Int)=4/\w=0)=!iNe w 0 by rw[Klc];simp [iNe]];generalize iNe w 0=d;cases a<;>cases b<;>cases c<;>cases d<;>rfl
 ·rw[decide_eq_false (show ¬k=1 by omega),decide_eq_false (show ¬k=2 by omega),decide_eq_false (show ¬k=3 by omega),decide_eq_false (show ¬k=4 by omega),if_neg (by omega),if_neg (by omega),if_neg (by omega),if_neg (by omega)];rfl
theorem Ynl (k w sq cd:Int) (b:Bool):cnd (decide (w=0)) (some ((b&&!(decide (k=4/\w=0)))&&(decide (sq=0)&&decide (cd=0)))) (some ((b&&!(decide (k=4/\w=0)))&&(decide (1<=w/\w<=9)&&(decide (0<=sq/\sq<=65535)&&decide (0<=cd/\cd<=6)))))=some (b&&Rj k w sq cd):=by
 unfold Rj;by_cases h:w=0
 ·rw[decide_eq_true h,Ag,if_pos h];congr 1;rw[Kre];congr 1;rw[Klc];simp only[Ke,decide_eq_true_eq,Kjb,decide_eq_false_iff_not];omega
 ·rw[decide_eq_false h,Ae,if_neg h];congr 1;rw[Kre];congr 1;rw[Klc];simp only[Ke,decide_eq_true_eq,Kjb,decide_eq_false_iff_not];omega
theorem Zqo {r:Rec}(h1:r.2.1.1.length<9223372036854775807) (h2:r.2.2.1.length<9223372036854775807):Rn r=some (Dc r):=by
 obtain⟨k,⟨key,⟨ot,ob⟩,⟨nt,nb⟩,has,aside⟩,name,n,w,sq,cd⟩:=r;simp only at h1 h2;have e1:=Yhk (key,((ot,ob),((nt,nb),(has,aside))));have e2:L0 (key,((ot,ob),((nt,nb),(has,aside))))=_:=Zh3 (by simp only;omega);have e3:=Zqn h2;have e4:∀x l h:Int,De (x,(l,h))=some (decide (l<=x/\x<=h)):=K6;simp only at e1;unfold Rn Dc U3;simp only[e1,e2,e3,e4,Ab,Si,Zyn,Zds,K4,Zx8,A2,Ynl]
def smC (B:Nat) (r:Rec):Prop:=smR B r.2.1/\r.2.2.1.length<=B
theorem smC.mono {A B:Nat}{r:Rec}(h:smC A r) (hab:A<=B):smC B r:=⟨h.1.mono hab,Kja h.2 hab⟩
end
end Go.Vs
