import Derived.Test.YtmfmjngkbddenaaGreatDoorVsW5
import Derived.Test.YtmfmjngkbddenaaGreatDoorVsQo2
set_option linter.all false
namespace Go.Vs
noncomputable section
theorem Yix (ls:List (List UInt8)) (i:Nat):(ls.take i).flatten.length<=ls.flatten.length:=by
 have h:=congrArg (fun l:List (List UInt8)=>l.flatten.length) (Ksc i ls);simp only[List.flatten_append,Kz]at h;omega
theorem Yph {ls:List (List UInt8)}(hn:ls.length<4611686018427387904) (h:ls.flatten.length<=140737488355328):F4 ls=some ls.flatten:=by
 unfold F4;rw[Gn (fun i=>((ls.take i).flatten,(i:Int))) ls.length (.inl ls.flatten)]
 ·rfl
 ·intro i hi;have e:(ls.take (i+1)).flatten=(ls.take i).flatten++ls[i]:=Yiy hi;have hr:=Yix ls (i+1);rw[e,Kz]at hr;unfold Rn;rw[A5 (by simp only[Ai];omega),Ad];simp only[Bp hi,Aa];rw[Bq (by omega),Av,e,C3 (by omega) (by omega)];rfl
 ·unfold Rn;rw[A3 (by simp only[Ai];omega),Ac,Kdc]
 ·rfl
theorem Zvv {a b:List UInt8}(hb:a.length+b.length<=140737488355328):F4 [a,b]=some (a++b):=by
 have e:[a,b].flatten=a++b:=by simp
 rw[Yph (by simp only[Ke,Ki];omega) (by rw[e,Kz];omega),e]
theorem Zoq (a b:List UInt8):sEq a b=(a==b):=rfl
theorem Zc (a b:Int):iEq a b=decide (a=b):=by simp only[iEq];rfl
def Bn (n:Int):List UInt8:=[yN (n.toNat / 256),yN (n.toNat%256)]
def Hi (s:List UInt8):List UInt8:=if s.length<=60 then Bn s.length++s else []
def Fa (c:Ce):List UInt8:=yN c.1.toNat::Hi c.2
def P3 (b:Bool):Nat:=if b then 1 else 0
def J2 (r:Row):List UInt8:=Hi r.1++(yN r.2.2.2.1.toNat::yN (P3 r.2.2.2.2)::((if r.2.2.2.1=2 then [] else Fa r.2.1)++(if r.2.2.2.1=1 then [] else Fa r.2.2.1)))
def Bu:List UInt8->Option (Int×List UInt8)
 | []=>none
 | x::l=>some ((x.toNat:Int),l)
def Bw:List UInt8->Option (Int×List UInt8)
 | x::y::l=>some (((x.toNat*256+y.toNat:Nat):Int),l)
 | _=>none
def D5 (l:List UInt8):Option (List UInt8×List UInt8):=match Bw l with
 | none=>none
 | some (n,r)=>if n<=60/\n<=r.length then some (r.take n.toNat,r.drop n.toNat) else none
def E3 (l:List UInt8):Option (Ce×List UInt8):=match Bu l with
 | none=>none
 | some (t,r)=>match D5 r with
  | none=>none
  | some (s,r)=>some ((t,s),r)
def V5 (has:Int) (l:List UInt8):Option (Ce×List UInt8):=if has.toNat%2=1 then E3 l else some ((0,[]),l)
def V4 (has:Int) (l:List UInt8):Option (Ce×List UInt8):=if has.toNat / 2%2=1 then E3 l else some ((0,[]),l)
def Eu (l:List UInt8):Option (Row×List UInt8):=match D5 l with
 | none=>none
 | some (key,l)=>match Bu l with
  | none=>none
  | some (has,l)=>match Bu l with
   | none=>none
   | some (aside,l)=>if 1<aside then none else match V5 has l with
    | none=>none
    | some (old,l)=>match V4 has l with
     | none=>none
     | some (new,l)=>some ((key,old,new,has,decide (aside=1)),l)
def Fk (l:List UInt8):Option (Row×List UInt8):=match Eu l with
 | none=>none
 | some (r,l)=>if Ci r then some (r,l) else none
theorem Sz {n:Int}(h0:0<=n) (h1:n<65536) (r:List UInt8):Bw (Bn n++r)=some (n,r):=by
 have e0:=Fo (n:=n.toNat / 256) (by omega);have e1:=Fo (n:=n.toNat%256) (by omega);simp only[Bn,Kl,Kj,Bw,e0,e1];congr 2;omega
theorem O6 {l r:List UInt8}{n:Int}(h:Bw l=some (n,r)):l=Bn n++r/\0<=n/\n<65536:=by
 match l,h with
 | [],h=>simp [Bw]at h
 | [_],h=>simp [Bw]at h
 | x::y::l,h =>
  simp only[Bw,Ka,Kb]at h;obtain⟨rfl,rfl⟩:=h;have h0:=Bv x;have h1:=Bv y;refine⟨?_,by omega,by omega⟩;rw[Bn,Ef (b:=x) (by omega),Ef (b:=y) (by omega)];rfl
theorem Znw {s:List UInt8}(h:s.length<=60) (r:List UInt8):D5 (Hi s++r)=some (s,r):=by
 unfold Hi D5;rw[if_pos h,Kxa,Sz (by omega) (by omega)];simp only;rw[if_pos (by simp only[Kz];omega)];simp
theorem Tl {l s r:List UInt8}(h:D5 l=some (s,r)):l=Hi s++r/\s.length<=60:=by
 unfold D5 at h;split at h
 ·cases h
 ·rename_i n q hq;obtain⟨rfl,h0,h1⟩:=O6 hq;split at h
  ·rename_i hn;simp only[Ka,Kb]at h;obtain⟨rfl,rfl⟩:=h;have hl:(q.take n.toNat).length=n.toNat:=by rw[Kab];omega
   refine⟨?_,by omega⟩;unfold Hi;rw[if_pos (by omega),hl,Kxa,Ksc,Kvd h0]
  ·cases h
theorem Zxj {c:Ce}(h0:0<=c.1) (h1:c.1<256) (h:c.2.length<=60) (r:List UInt8):E3 (Fa c++r)=some (c,r):=by
 simp only[Fa,Kl,E3,Bu,Znw h,Fo (n:=c.1.toNat) (by omega)];rw[Kvd h0]
theorem Zr3 {l r:List UInt8}{c:Ce}(h:E3 l=some (c,r)):l=Fa c++r/\0<=c.1/\c.1<256/\c.2.length<=60:=by
 unfold E3 at h
 match l,h with
 | [],h=>simp [Bu]at h
 | x::l,h =>
  simp only[Bu]at h;split at h
  ·cases h
  ·rename_i s q hq;obtain⟨rfl,hs⟩:=Tl hq;simp only[Ka,Kb]at h;obtain⟨rfl,rfl⟩:=h;have:=Bv x;refine⟨?_,by simp only;omega,by simp only;omega,hs⟩;simp only[Fa,Kl,Kxb,Ef rfl]
theorem Zgo {o:Ce}{has:Int}{aside:Bool}(h:Im o has aside=true) (h2:has≠2):1<=o.1/\o.1<=5/\o.2.length<=20/\((D1 o).isSome=true\/(aside=true/\has=1)):=by
 simp only[Im,if_neg h2,Kd,Kbb,decide_eq_true_eq]at h;exact⟨h.1.1.1,h.1.1.2,h.1.2,h.2⟩
theorem Zgn {n:Ce}{has:Int}(h:Il n has=true) (h2:has≠1):n.1=0/\(D1 n).isSome=true/\n.2.length<=20:=by
 simp only[Il,if_neg h2,Kd,decide_eq_true_eq]at h;refine⟨h.1,h.2, ?_⟩;obtain⟨t,ht⟩:=Option.isSome_iff_exists.1 h.2;have:=(Yd6 ht).1;simp only[Gf,Kd,decide_eq_true_eq]at this;exact this.2
theorem Yq6 {r:Row}(h:Ci r=true) (l:List UInt8):Fk (J2 r++l)=some (r,l):=by
 obtain⟨a,b1,b2,c,d,e⟩:=Mw h;have hk:=Zw a;obtain⟨key,old,new,has,aside⟩:=r;simp only at a b1 b2 c d e hk;have key1:Eu (J2 (key,old,new,has,aside)++l)=some ((key,old,new,has,aside),l):=by
  unfold J2 Eu;simp only[Kxa,Kl];rw[Znw (by omega)];simp only[Bu,Fo (n:=has.toNat) (by omega),Fo (n:=P3 aside) (by unfold P3;split<;>omega),Kvd (show 0<=has by omega)]
  rw[if_neg (by unfold P3;split<;>omega)]
  have ea:decide (((P3 aside:Nat):Int)=1)=aside:=by cases aside<;>rfl
  have eo:V5 has ((if has=2 then [] else Fa old)++((if has=1 then [] else Fa new)++l))=some (old,(if has=1 then [] else Fa new)++l):=by
   unfold V5;by_cases h2:has=2
   ·subst h2;have hn:E1 old=true:=by simpa [Im] using c
    rw[if_neg (by decide),if_pos rfl,Sp hn];rfl
   ·obtain⟨o1,o2,o3,_⟩:=Zgo c h2;rw[if_pos (by omega),if_neg h2,Zxj (by omega) (by omega) (by omega)]
  have en:V4 has ((if has=1 then [] else Fa new)++l)=some (new,l):=by
   unfold V4;by_cases h2:has=1
   ·subst h2;have hn:E1 new=true:=by simpa [Il] using d
    rw[if_neg (by decide),if_pos rfl,Sp hn];rfl
   ·obtain⟨n1,n2,n3⟩:=Zgn d h2;rw[if_pos (by omega),if_neg h2,Zxj (by omega) (by omega) (by omega)]
  rw[eo];simp only[en,ea]
 unfold Fk;rw[key1];simp only[h,if_true]
theorem Zyo {l q:List UInt8}{r:Row}(h:Fk l=some (r,q)):l=J2 r++q/\Ci r=true:=by
 unfold Fk at h;split at h
 ·cases h
 rename_i r' q' h0;split at h
 case isFalse=>cases h
 rename_i hok;simp only[Ka,Kb]at h;obtain⟨rfl,rfl⟩:=h;refine⟨?_,hok⟩;unfold Eu at h0;split at h0
 ·cases h0
 rename_i key l1 h1;obtain⟨rfl,_⟩:=Tl h1
 match l1,h0 with
 | [],h0=>simp [Bu]at h0
 | [_],h0=>simp [Bu]at h0
 | x::y::l1,h0 =>
 have hx:=Bv x;have hy:=Bv y;simp only[Bu]at h0;split at h0
 ·cases h0
 rename_i hy1;split at h0
 ·cases h0
 rename_i old l2 h2;split at h0
 ·cases h0
 rename_i new l3 h3;simp only[Ka,Kb]at h0;obtain⟨rfl,rfl⟩:=h0;obtain⟨_,b1,b2,_⟩:=Mw hok;simp only at b1 b2;unfold J2;simp only[Kxa,Kl,Kxb];rw[Ef (b:=x) rfl,Ef (b:=y) (by unfold P3;split<;>(rename_i hd;simp only[decide_eq_true_eq]at hd;omega))]
 congr 3;have eo:l1=(if (x.toNat:Int)=2 then [] else Fa old)++l2:=by
  unfold V5 at h2;by_cases h4:(x.toNat:Int)=2
  ·rw[if_pos h4];rw[if_neg (by omega)]at h2;simp only[Ka,Kb]at h2;exact h2.2
  ·rw[if_neg h4];rw[if_pos (by omega)]at h2;exact (Zr3 h2).1
 have en:l2=(if (x.toNat:Int)=1 then [] else Fa new)++l3:=by
  unfold V4 at h3;by_cases h4:(x.toNat:Int)=1
  ·rw[if_pos h4];rw[if_neg (by omega)]at h3;simp only[Ka,Kb]at h3;exact h3.2
  ·rw[if_neg h4];rw[if_pos (by omega)]at h3;exact (Zr3 h3).1
 rw[<-en,<-eo]
theorem Zg7 (c:Ce):Pk c=some (E1 c):=by
 obtain⟨t,b⟩:=c;unfold Pk E1;simp only[iEq,Ai];by_cases h:t=0
 ·subst h;rw[show ((0:Int)==0)=true from rfl,Ad,decide_eq_true rfl,Kqc];cases b with
  | nil=>rfl
  | cons x l =>
   have:(((x::l).length:Int)==0)=false:=by simp;omega
   rw[this];rfl
 ·have:(t==0)=false:=by simpa using h
  rw[this,Ac,decide_eq_false h];rfl
theorem Zfo (c:Ce):K5 ((c.1,c.2),(0,[]))=some (E1 c):=by
 obtain⟨t,b⟩:=c;unfold K5 E1;simp only[iEq,sEq];by_cases h:t=0
 ·subst h;rw[show ((0:Int)==0)=true from rfl,Ad,decide_eq_true rfl,Kqc];cases b<;>rfl
 ·have:(t==0)=false:=by simpa using h
  rw[this,Ac,decide_eq_false h];rfl
theorem Zgj (o:Option (List UInt8)):(Jw o).2=o.isSome:=by cases o<;>rfl
theorem Zj3 {o:Ce}(h:1<=o.1/\o.1<=5):Gf o=decide (o.2.length<=20):=by
 unfold Gf;rw[decide_eq_true (show 0<=o.1/\o.1<=5 by omega),Kqc]
theorem Zox {r:Row}(hl:r.1.length<9223372036854775807):Nf r=some (Ci r):=by
 obtain⟨key,⟨ot,ob⟩,⟨nt,nb⟩,has,aside⟩:=r;have n1:T9 key=some (Fw key):=Zou hl;have n2:=Zot (ot,ob);have n3:=Zot (nt,nb);have n4:=Zg7 (ot,ob);have n5:=Zg7 (nt,nb);have n6:=Yst (ot,ob) (nt,nb);have n7:=Zos (ot,ob);have nI:Br (has,(1,3))=some (decide (1<=has/\has<=3)):=D0 _ _ _;have nT:Br (ot,(1,5))=some (decide (1<=ot/\ot<=5)):=D0 _ _ _;unfold Nf Ci
 dsimp only
 rw[n1,Aa];cases hn:Fw key with
 | false=>rfl
 | true =>
 rw[Az,Ac,nI,Aa];by_cases hh:1<=has/\has<=3
 case neg=>rw[decide_eq_false hh];rfl
 rw[decide_eq_true hh,Az,Ac];rcases (show has=1\/has=2\/has=3 by omega) with rfl|rfl|rfl
 ·have o1:Dh (key,(ot,ob),(nt,nb),1,aside)=some true:=congrArg some (show iEq (Aw .i64 1 1) 1=true by decide +kernel);have o2:C0 (key,(ot,ob),(nt,nb),1,aside)=some false:=congrArg some (show iEq (Aw .i64 1 2) 2=false by decide +kernel);simp only[o1,o2,n2,n3,n4,n5,n6,n7,nT,Aa,Az,Bd,Ad,Ac,Zgj];rw[show iNe 1 3=true from rfl,Ad];unfold Im Il;rw[if_neg (by decide),if_pos rfl];by_cases hT:1<=ot/\ot<=5
  ·rw[Zj3 (o:=(ot,ob)) hT];generalize E1 (nt,nb)=b1;generalize decide (ob.length<=20)=b2;generalize (D1 (ot,ob)).isSome=b3;simp only[decide_eq_true hT];cases b1<;>cases b2<;>cases b3<;>cases aside<;>rfl
  ·simp only[decide_eq_false hT];generalize E1 (nt,nb)=b1;cases b1<;>rfl
 ·have o1:Dh (key,(ot,ob),(nt,nb),2,aside)=some false:=congrArg some (show iEq (Aw .i64 2 1) 1=false by decide +kernel);have o2:C0 (key,(ot,ob),(nt,nb),2,aside)=some true:=congrArg some (show iEq (Aw .i64 2 2) 2=true by decide +kernel);simp only[o1,o2,n2,n3,n4,n5,n6,n7,nT,Aa,Az,Bd,Ad,Ac,Zgj];rw[show iNe 2 3=true from rfl,Ad];unfold Im Il;rw[if_pos rfl,if_neg (by decide)];have e0:iNe nt 0=!decide (nt=0):=by
   by_cases h:nt=0
   ·subst h;rfl
   ·rw[Jq h,decide_eq_false h];rfl
  rw[e0];generalize E1 (ot,ob)=b1;generalize decide (nt=0)=b2;generalize (D1 (nt,nb)).isSome=b3;cases b1<;>cases b2<;>cases b3<;>rfl
 ·have o1:Dh (key,(ot,ob),(nt,nb),3,aside)=some true:=congrArg some (show iEq (Aw .i64 3 1) 1=true by decide +kernel);have o2:C0 (key,(ot,ob),(nt,nb),3,aside)=some true:=congrArg some (show iEq (Aw .i64 3 2) 2=true by decide +kernel);simp only[o1,o2,n2,n3,n4,n5,n6,n7,nT,Aa,Az,Bd,Ad,Ac,Zgj];rw[show iNe 3 3=false from rfl];simp only[Ac];unfold Im Il;rw[if_neg (by decide),if_neg (by decide)];have e0:iNe nt 0=!decide (nt=0):=by
   by_cases h:nt=0
   ·subst h;rfl
   ·rw[Jq h,decide_eq_false h];rfl
  rw[e0];by_cases hT:1<=ot/\ot<=5
  ·rw[Zj3 (o:=(ot,ob)) hT];simp only[decide_eq_true hT];generalize decide (nt=0)=b1;generalize decide (ob.length<=20)=b2;generalize (D1 (ot,ob)).isSome=b3;generalize (D1 (nt,nb)).isSome=b4;generalize Qx (ot,ob) (nt,nb)=b5;cases b1<;>cases b2<;>cases b3<;>cases b4<;>cases b5<;>cases aside<;>rfl
  ·simp only[decide_eq_false hT];generalize decide (nt=0)=b1;generalize (D1 (nt,nb)).isSome=b4;cases b1<;>cases b4<;>rfl
theorem Zfl {r:Row}(hl:r.1.length<9223372036854775807):K3 r=some (Ci r):=by
 obtain⟨key,⟨ot,ob⟩,⟨nt,nb⟩,has,aside⟩:=r;have n1:W9 key=some (Fw key):=Zvg hl;have n2:=Zl7 (ot,ob);have n3:=Zl7 (nt,nb);have n4:K5 ((ot,ob),(0,[]))=some (E1 (ot,ob)):=Zfo (ot,ob);have n5:K5 ((nt,nb),(0,[]))=some (E1 (nt,nb)):=Zfo (nt,nb);have n6:=You (ot,ob) (nt,nb);have n7:=Zve (ot,ob);have nI:Cu (has,(1,3))=some (decide (1<=has/\has<=3)):=G9 _ _ _;unfold K3 Ci
 dsimp only
 rw[n1,Aa];cases hn:Fw key with
 | false=>rfl
 | true =>
 rw[Az,Ac,nI,Aa];by_cases hh:1<=has/\has<=3
 case neg=>rw[decide_eq_false hh];rfl
 rw[decide_eq_true hh,Az,Ac];simp only[n2,n3,n4,n5,n6,n7,Aa,Zgj];have e0:iEq nt 0=decide (nt=0):=by
  by_cases h:nt=0
  ·subst h;rfl
  ·rw[Eg h,decide_eq_false h]
 have eC:cnd (Gf (ot,ob)) (cnd (iNe ot 0) (cnd (D1 (ot,ob)).isSome (some (Sum.inl (β:=Bool) true)) (cnd aside (some (.inl (iEq has 1))) (some (.inl false)))) (some (.inl false))) (some (.inl false))=some (.inl (decide (1<=ot/\ot<=5)&&decide (ob.length<=20)&&((D1 (ot,ob)).isSome||(aside&&iEq has 1)))):=by
  by_cases hT:1<=ot/\ot<=5
  ·rw[Zj3 (o:=(ot,ob)) hT,decide_eq_true hT,Jq (by omega)];generalize decide (ob.length<=20)=b2;generalize (D1 (ot,ob)).isSome=b3;generalize iEq has 1=b4;cases b2<;>cases b3<;>cases b4<;>cases aside<;>rfl
  ·rw[decide_eq_false hT];by_cases h0:ot=0
   ·subst h0;rw[show iNe 0 0=false from rfl];cases Gf (0,ob)<;>rfl
   ·have:Gf (ot,ob)=false:=by
     unfold Gf;rw[decide_eq_false (by simp only;omega)];rfl
    rw[this];rfl
 rw[eC,e0];rcases (show has=1\/has=2\/has=3 by omega) with rfl|rfl|rfl
 ·unfold Im Il;rw[if_neg (by decide),if_pos rfl,show iNe 1 2=true from rfl,show iNe 1 1=false from rfl,show iNe 1 3=true from rfl,show iEq 1 1=true from rfl];generalize (decide (1<=ot/\ot<=5))=b0;generalize E1 (nt,nb)=b1;generalize decide (ob.length<=20)=b2;generalize (D1 (ot,ob)).isSome=b3;cases b0<;>cases b1<;>cases b2<;>cases b3<;>cases aside<;>rfl
 ·unfold Im Il;rw[if_pos rfl,if_neg (by decide),show iNe 2 2=false from rfl,show iNe 2 1=true from rfl,show iNe 2 3=true from rfl];generalize E1 (ot,ob)=b1;generalize decide (nt=0)=b2;generalize (D1 (nt,nb)).isSome=b3;cases b1<;>cases b2<;>cases b3<;>rfl
 ·unfold Im Il;rw[if_neg (by decide),if_neg (by decide),show iNe 3 2=true from rfl,show iNe 3 1=true from rfl,show iNe 3 3=false from rfl,show iEq 3 1=false from rfl];generalize (decide (1<=ot/\ot<=5))=b0;generalize decide (nt=0)=b1;generalize decide (ob.length<=20)=b2;generalize (D1 (ot,ob)).isSome=b3;generalize (D1 (nt,nb)).isSome=b4;generalize Qx (ot,ob) (nt,nb)=b5;cases b0<;>cases b1<;>cases b2<;>cases b3<;>cases b4<;>cases b5<;>cases aside<;>rfl
theorem I4 (a b:Int):iEq a b=decide (a=b):=by simp only[iEq];rfl
theorem Ys7 (r:Row) (h:Ci r=true):C0 r=some (decide (r.2.2.2.1≠1)):=by
 obtain⟨_,h1,h3,_⟩:=Mw h;unfold C0;rcases (show r.2.2.2.1=1\/r.2.2.2.1=2\/r.2.2.2.1=3 by omega) with e|e|e<;>rw[e]
 ·exact congrArg some (show iEq (Aw .i64 1 2) 2=false by decide +kernel)
 ·exact congrArg some (show iEq (Aw .i64 2 2) 2=true by decide +kernel)
 ·exact congrArg some (show iEq (Aw .i64 3 2) 2=true by decide +kernel)
theorem Ys8 (r:Row) (h:Ci r=true):Dh r=some (decide (r.2.2.2.1≠2)):=by
 obtain⟨_,h1,h3,_⟩:=Mw h;unfold Dh;rcases (show r.2.2.2.1=1\/r.2.2.2.1=2\/r.2.2.2.1=3 by omega) with e|e|e<;>rw[e]
 ·exact congrArg some (show iEq (Aw .i64 1 1) 1=true by decide +kernel)
 ·exact congrArg some (show iEq (Aw .i64 2 1) 1=false by decide +kernel)
 ·exact congrArg some (show iEq (Aw .i64 3 1) 1=true by decide +kernel)
theorem Yn8 {n:Nat}(h:n<65536):u8 (Ak .u8 (B2 .i64 (n:Int) 8))=yN (n / 256)/\u8 (Ak .u8 (n:Int))=yN (n%256):=by
 have e:B2 .i64 (n:Int) (8:Nat)=_:=Zas (n:=n) (s:=8) (by omega);refine⟨?_, ?_⟩
 ·rw[show B2 .i64 (n:Int) 8=((n / 2^8:Nat):Int) from e,Gz]
 ·rw[Gz];exact UInt8.toNat_inj.1 (by simp [yN])
theorem Ta {l:List UInt8}{n:Int}(hl:l.length<=1099511627776) (h0:0<=n) (h1:n<65536):Ji (l,n)=some (l++Bn n):=by
 obtain⟨k,rfl⟩:=Kpc h0;obtain⟨e1,e2⟩:=Yn8 (n:=k) (by omega);unfold Ji;simp only[e1,e2];rw[Bq (by omega),Av,Bq (by simp only[Al,Kj];omega),Av];rfl
theorem Sj {l:List UInt8}{n:Int}(hl:l.length<=1099511627776) (h0:0<=n) (h1:n<65536):Jg (l,n)=some (l++Bn n):=by
 obtain⟨k,rfl⟩:=Kpc h0;have e:B2 .i64 (k:Int) 8=((k / 2^8:Nat):Int):=Zas (n:=k) (s:=8) (by omega);have a1:Aw .i64 ((k / 2^8:Nat):Int) 255=((k / 2^8%256:Nat):Int):=by
  rw[show (255:Int)=((255:Nat):Int) from rfl,N4 (k:=.i64) (by show _<2^63;omega) (by show _<2^63;omega),L3 (j:=8) rfl]
 have a2:Aw .i64 (k:Int) 255=((k%256:Nat):Int):=by
  rw[show (255:Int)=((255:Nat):Int) from rfl,N4 (k:=.i64) (by show _<2^63;omega) (by show _<2^63;omega),L3 (j:=8) rfl]
 unfold Jg;simp only[e,a1,a2,Gz];rw[Zvv (by simp only[Ke,Ki];omega),Aa];rw[show k / 2^8%256=k / 256 by omega];rfl
theorem Tj (s:List UInt8):(Hi s).length<=62:=by
 unfold Hi;split<;>simp [Bn]<;>omega
theorem Zv3 {s:List UInt8}(h:¬s.length<=60):iGt (Ae s) 60=true:=Df (by simp only[Ai];omega)
theorem Zov {l s:List UInt8}(hl:l.length<=1048576000) (hs:s.length<=1048576000):Ri (l,s)=some (l++Hi s):=by
 unfold Ri Hi;simp only;by_cases h:s.length<=60
 ·rw[Dx (by simp only[Ai];omega),Ac,if_pos h,Ai,Ta (by omega) (by omega) (by omega),Aa];rw[Bq (by simp only[Kz,Bn,Ke,Ki];omega),Av];simp only[Al,Kxa]
 ·rw[Zv3 h,Ad,if_neg h,Bq (by omega),Av,Kq];rfl
theorem Zl8 {l s:List UInt8}(hl:l.length<=1048576000) (hs:s.length<=1048576000):M7 (l,s)=some (l++Hi s):=by
 unfold M7 Hi;simp only;by_cases h:s.length<=60
 ·rw[Dx (by simp only[Ai];omega),Ac,if_pos h,Ai,Sj (by omega) (by omega) (by omega),Aa];rw[Zvv (by simp only[Kz,Bn,Ke,Ki];omega),Aa,Kxa]
 ·rw[Zv3 h,Ad,if_neg h,Mg (by omega),Aa,Kq]
theorem Zd4 (c:Ce):(Fa c).length<=63:=by
 have:=Tj c.2;unfold Fa;simp only[Ke];omega
theorem Nu {t:Int}(h0:0<=t):u8 (Ak .u8 t)=yN t.toNat:=by
 obtain⟨k,rfl⟩:=Kpc h0;rw[Gz];rfl
def V9 (l:List UInt8) (r:Row):List UInt8:=if Ci r=true then l++J2 r else l
theorem Zoh (r:Row):(J2 r).length<=190:=by
 have h1:=Tj r.1;have h2:=Zd4 r.2.1;have h3:=Zd4 r.2.2.1;unfold J2;simp only[Kz,Ke];split<;>split<;>first|omega|(simp only[Ki];omega)
theorem Ys1 {l:List UInt8}{c:Ce}(hl:l.length<=104857600) (hs:c.2.length<=1048576000) (h0:0<=c.1):Uf (l,(c.1,c.2))=some (l++Fa c):=by
 unfold Uf;simp only[Nu h0];rw[Bq (by omega),Av,Zov (by simp only[Al,Kz,Ke,Ki];omega) hs,Aa];simp only[Al,Kxa,Fa,Kl,Kj]
theorem Yiw (b:Bool):Zil b=some (yN (P3 b)):=by cases b<;>rfl
theorem Yiv (b:Bool):Zih b=some (yN (P3 b)):=by cases b<;>rfl
theorem Zyq {r:Row}(h:Ci r=true) (h2:r.2.2.2.1≠2):0<=r.2.1.1:=by
 obtain⟨_,a,b,c,d⟩:=Mw h;have:=Zgo c h2;omega
theorem Zyp {r:Row}(h:Ci r=true) (h2:r.2.2.2.1≠1):0<=r.2.2.1.1:=by
 have d:=(Mw h).2.2.2.2;have:=Zgn d.1 h2;omega
theorem Ysq {l:List UInt8}{r:Row}(hl:l.length<=1048576) (hr:smR 1048576 r):Xp (l,r)=some (V9 l r):=by
 obtain⟨key,⟨ot,ob⟩,⟨nt,nb⟩,has,aside⟩:=r;obtain⟨k1,k2,k3⟩:=hr;simp only at k1 k2 k3;have e0:Nf (key,((ot,ob),((nt,nb),(has,aside))))=some (Ci (key,((ot,ob),((nt,nb),(has,aside))))):=Zox (by simp only;omega);unfold Xp V9;simp only[e0,Aa,Yiw];rw[Bq (by omega),Av];cases hk:Ci (key,((ot,ob),((nt,nb),(has,aside)))) with
 | false=>rw[Bd,Ad];rfl
 | true =>
 have b1:=Mw hk;have eo:Dh (key,((ot,ob),((nt,nb),(has,aside))))=some (decide (has≠2)):=Ys8 _ hk;have en:C0 (key,((ot,ob),((nt,nb),(has,aside))))=some (decide (has≠1)):=Ys7 _ hk;have t1:=Tj key;have t2:=Zd4 (ot,ob);have o0:=Zyq hk;have n0:=Zyp hk;simp only at b1 o0 n0;rw[Az,Ac,show Al [] l=l from rfl,Zov (by omega) (by omega),Aa,Bq (by simp only[Kz];omega),Av];simp only[eo,en,Aa,Nu (show 0<=has by omega),if_true,J2,Al];have step:∀(q:List UInt8) (c:Ce) (k:Int),q.length<=2097152->c.2.length<=1048576->(has≠k->0<=c.1)->cnd (decide (has≠k)) (bnd (Uf (q,(c.1,c.2))) (fun z5=>(some (.inl z5)))) (some (.inl q))=some (.inl (q++if has=k then [] else Fa c):List UInt8 ⊕ List UInt8):=by
  intro q c k hq hc h0;by_cases h:has=k
  ·rw[if_pos h,decide_eq_false (by simpa using h),Ac,Kq]
  ·rw[if_neg h,decide_eq_true h,Ad,Ys1 (by omega) (by omega) (h0 h)];rfl
 rw[step _ (ot,ob) 2 (by simp only[Kz,Ke,Ki];omega) k2 o0,Ax];have t3:(if has=2 then [] else Fa (ot,ob)).length<=63:=by split<;>first|omega|(simp only[Ki];omega)
 rw[step _ (nt,nb) 1 (by simp only[Kz,Ke,Ki];omega) k3 n0,Ax];simp only[Kxa,Kl,Kj]
theorem Yor {l:List UInt8}{r:Row}(hl:l.length<=1048576) (hr:smR 1048576 r):Xc (l,r)=some (V9 l r):=by
 obtain⟨key,⟨ot,ob⟩,⟨nt,nb⟩,has,aside⟩:=r;obtain⟨k1,k2,k3⟩:=hr;simp only at k1 k2 k3;have e0:K3 (key,((ot,ob),((nt,nb),(has,aside))))=some (Ci (key,((ot,ob),((nt,nb),(has,aside))))):=Zfl (by simp only;omega);unfold Xc V9;simp only[Mg (show l.length<=140737488355328 by omega),e0,Aa,Yiv];cases hk:Ci (key,((ot,ob),((nt,nb),(has,aside)))) with
 | false=>rw[Bd,Ad];rfl
 | true =>
 have b1:=Mw hk;have t1:=Tj key;have t2:=Zd4 (ot,ob);have o0:=Zyq hk;have n0:=Zyp hk;simp only at b1 o0 n0;rw[Az,Ac,Zl8 (by omega) (by omega),Aa,Bq (by simp only[Kz];omega),Av];simp only[Aa,Nu (show 0<=has by omega),if_true,J2,Al];have step:∀(q:List UInt8) (c:Ce) (k:Int),q.length<=2097152->c.2.length<=1048576->(has≠k->0<=c.1)->cnd (iNe has k) (chk (A6 (q.length+1) 1) (bnd (M7 (q++[u8 (Ak .u8 c.1)],c.2)) (fun z5=>(some (.inl z5))))) (some (.inl q))=some (.inl (q++if has=k then [] else Fa c):List UInt8 ⊕ List UInt8):=by
  intro q c k hq hc h0;by_cases h:has=k
  ·rw[if_pos h,h,Eo,Ac,Kq]
  ·rw[if_neg h,Jq h,Ad,Bq (by omega),Av,Zl8 (by simp only[Kz,Ke,Ki];omega) (by omega),Nu (h0 h)];simp only[Aa,Fa,Kxa,Kl,Kj]
 rw[step _ (ot,ob) 2 (by simp only[Kz,Ke,Ki];omega) k2 o0,Ax];have t3:(if has=2 then [] else Fa (ot,ob)).length<=63:=by split<;>first|omega|(simp only[Ki];omega)
 rw[step _ (nt,nb) 1 (by simp only[Kz,Ke,Ki];omega) k3 n0,Ax];simp only[Kxa,Kl,Kj]
abbrev Rec:=Int×Row×List UInt8×Int×Int×Int×Int
def E2 (r:Row):Bool:=r.1.isEmpty&&E1 r.2.1&&E1 r.2.2.1&&decide (r.2.2.2.1=0)&&!r.2.2.2.2
theorem Zgc {r:Row}(h:E2 r=true):r=([],(0,[]),(0,[]),0,false):=by
 obtain⟨k,o,n,z,a⟩:=r;simp only[E2,Kd,decide_eq_true_eq,Ksd,Kjb]at h;obtain⟨⟨⟨⟨h1,h2⟩,h3⟩,h4⟩,h5⟩:=h;rw[h1,Sp h2,Sp h3,h4,h5]
def I1 (k:Int) (R:Row) (key:List UInt8) (n:Int):Bool :=
 if k=1 then Ci R&&key.isEmpty&&decide (n=0)
 else if k=2 then E2 R&&Fw key&&decide (n=0)
 else if k=3 then E2 R&&key.isEmpty&&decide (0<=n/\n<=7)
 else if k=4 then E2 R&&key.isEmpty&&decide (n=0)
 else false
def Ts (k who seq code:Int):Bool:=if who=0 then decide (seq=0/\code=0/\k≠4) else decide (1<=who/\who<=9/\0<=seq/\seq<=65535/\0<=code/\code<=6)
def C6 (r:Rec):Bool:=I1 r.1 r.2.1 r.2.2.1 r.2.2.2.1&&Ts r.1 r.2.2.2.2.1 r.2.2.2.2.2.1 r.2.2.2.2.2.2
def I0 (k:Int) (R:Row) (key:List UInt8) (n:Int):List UInt8:=if k=1 then J2 R else if k=2 then Hi key else if k=3 then [yN n.toNat] else []
def Io (gen place:Int) (r:Rec):List UInt8:=Bn gen++(Bn place++(yN r.1.toNat::(I0 r.1 r.2.1 r.2.2.1 r.2.2.2.1++(yN r.2.2.2.2.1.toNat::yN r.2.2.2.2.2.2.toNat::Bn r.2.2.2.2.2.1))))
def Zav (b:List UInt8):List UInt8:=b++Bn (crc b)
def Fy (gen place:Int) (r:Rec):List UInt8:=if C6 r=true/\0<=gen/\gen<=65535/\0<=place/\place<=65535 then Zav (Io gen place r) else []
def Z3 (k:Int) (l:List UInt8):Option ((Row×List UInt8×Int)×List UInt8) :=
 if k=1 then (match Fk l with
  | none=>none
  | some (r,l)=>some ((r,[],0),l))
 else if k=2 then (match D5 l with
  | none=>none
  | some (s,l)=>some ((([],(0,[]),(0,[]),0,false),s,0),l))
 else if k=3 then (match Bu l with
  | none=>none
  | some (n,l)=>some ((([],(0,[]),(0,[]),0,false),[],n),l))
 else some ((([],(0,[]),(0,[]),0,false),[],0),l)
def I6 (l:List UInt8):Option ((Int×Int×Rec)×List UInt8):=match Bw l with
 | none=>none
 | some (gen,l)=>match Bw l with
  | none=>none
  | some (place,l)=>match Bu l with
   | none=>none
   | some (k,l)=>match Z3 k l with
    | none=>none
    | some ((R,key,n),l)=>match Bu l with
     | none=>none
     | some (who,l)=>match Bu l with
      | none=>none
      | some (code,l)=>match Bw l with
       | none=>none
       | some (seq,l)=>some ((gen,place,(k,R,key,n,who,seq,code)),l)
def Gj (b:List UInt8):Option (Int×Int×Rec):=match I6 b with
 | none=>none
 | some (x,l)=>if l=Bn (crc (b.take (b.length-2)))/\l.length=2/\C6 x.2.2=true then some x else none
theorem Tv (n:Int):(Bn n).length=2:=rfl
theorem Zgk {k:Int}{R:Row}{key:List UInt8}{n:Int}(h:I1 k R key n=true) (l:List UInt8):Z3 k (I0 k R key n++l)=some ((R,key,n),l)/\1<=k/\k<=4:=by
 unfold I1 at h;unfold Z3 I0;split at h
 ·rename_i hk;simp only[Kd,decide_eq_true_eq,Ksd]at h;obtain⟨⟨h1,rfl⟩,rfl⟩:=h;rw[if_pos hk,if_pos hk,Yq6 h1];exact⟨rfl,by omega,by omega⟩
 split at h
 ·rename_i h1 hk;simp only[Kd,decide_eq_true_eq]at h;obtain⟨⟨h2,h3⟩,rfl⟩:=h;rw[if_neg h1,if_pos hk,if_neg h1,if_pos hk,Znw (by have:=Zw h3;omega),Zgc h2];exact⟨rfl,by omega,by omega⟩
 split at h
 ·rename_i h1 h2 hk;simp only[Kd,decide_eq_true_eq,Ksd]at h;obtain⟨⟨h3,rfl⟩,h4⟩:=h;rw[if_neg h1,if_neg h2,if_pos hk,if_neg h1,if_neg h2,if_pos hk,Zgc h3];simp only[Kl,Kj,Bu,Fo (n:=n.toNat) (by omega),Kvd h4.1];exact⟨trivial,by omega,by omega⟩
 split at h
 ·rename_i h1 h2 h3 hk;simp only[Kd,decide_eq_true_eq,Ksd]at h;obtain⟨⟨h4,rfl⟩,rfl⟩:=h;rw[if_neg h1,if_neg h2,if_neg h3,if_neg h1,if_neg h2,if_neg h3,Zgc h4];exact⟨rfl,by omega,by omega⟩
 ·cases h
theorem Ydx {k:Int}{x:Row×List UInt8×Int}{l q:List UInt8}(h:Z3 k l=some (x,q)):l=I0 k x.1 x.2.1 x.2.2++q:=by
 unfold Z3 at h;unfold I0;split at h
 ·rename_i hk;rw[if_pos hk];split at h
  ·cases h
  ·rename_i r l2 h2;simp only[Ka,Kb]at h;obtain⟨rfl,rfl⟩:=h;exact (Zyo h2).1
 split at h
 ·rename_i h1 hk;rw[if_neg h1,if_pos hk];split at h
  ·cases h
  ·rename_i r l2 h2;simp only[Ka,Kb]at h;obtain⟨rfl,rfl⟩:=h;exact (Tl h2).1
 split at h
 ·rename_i h1 h2 hk;rw[if_neg h1,if_neg h2,if_pos hk]
  match l,h with
  | [],h=>simp [Bu]at h
  | y::l,h =>
   simp only[Bu,Ka,Kb]at h;obtain⟨rfl,rfl⟩:=h;simp only[Kxb,Ef rfl,Kl,Kj]
 ·rename_i h1 h2 h3;rw[if_neg h1,if_neg h2,if_neg h3];simp only[Ka,Kb]at h;exact h.2
theorem Zh6 {k who seq code:Int}(h:Ts k who seq code=true):0<=who/\who<=9/\0<=seq/\seq<=65535/\0<=code/\code<=6:=by
 unfold Ts at h;split at h
 ·simp only[decide_eq_true_eq]at h;omega
 ·simp only[decide_eq_true_eq]at h;omega
theorem Zxl {gen place:Int}{r:Rec}(h:C6 r=true) (g0:0<=gen) (g1:gen<=65535) (p0:0<=place) (p1:place<=65535) (l:List UInt8):I6 (Io gen place r++l)=some ((gen,place,r),l):=by
 obtain⟨k,R,key,n,who,seq,code⟩:=r;simp only[C6,Kd]at h;obtain⟨h1,h2⟩:=h;have hw:=Zh6 h2;obtain⟨_,hk1,hk2⟩:=Zgk h1 [];unfold Io I6;simp only[Kxa,Kl];rw[Sz g0 (by omega)];simp only;rw[Sz p0 (by omega)];simp only[Bu,Fo (n:=k.toNat) (by omega),Kvd (show 0<=k by omega)];rw[(Zgk h1 _).1];simp only[Fo (n:=who.toNat) (by omega),Kvd (show 0<=who by omega),Fo (n:=code.toNat) (by omega),Kvd (show 0<=code by omega)];rw[Sz (by omega) (by omega)]
theorem Zoa {l q:List UInt8}{x:Int×Int×Rec}(h:I6 l=some (x,q)):l=Io x.1 x.2.1 x.2.2++q/\0<=x.1/\x.1<=65535/\0<=x.2.1/\x.2.1<=65535:=by
 unfold I6 at h;split at h
 ·cases h
 rename_i gen l1 h1;obtain⟨rfl,g0,g1⟩:=O6 h1;split at h
 ·cases h
 rename_i place l2 h2;obtain⟨rfl,p0,p1⟩:=O6 h2
 match l2,h with
 | [],h=>simp [Bu]at h
 | kb::l2,h =>
 simp only[Bu]at h;split at h
 ·cases h
 rename_i R key n l3 h3;have e3:=Ydx h3
 match l3,h,e3 with
 | [],h,_=>simp at h
 | [_],h,_=>simp at h
 | w::c::l3,h,e3 =>
 simp only at h;split at h
 ·cases h
 rename_i seq l4 h4;obtain⟨rfl,s0,s1⟩:=O6 h4;simp only[Ka,Kb]at h;obtain⟨rfl,rfl⟩:=h;refine⟨?_,g0,by simp only;omega,p0,by simp only;omega⟩;simp only at e3;unfold Io;simp only[Kxa,Kl,Kxb];rw[Ef (b:=kb) rfl,Ef (b:=w) rfl,Ef (b:=c) rfl,<-e3]
theorem Yre {b:List UInt8}{x:Int×Int×Rec}(h:Gj b=some x):Fy x.1 x.2.1 x.2.2=b/\C6 x.2.2=true/\0<=x.1/\x.1<=65535/\0<=x.2.1/\x.2.1<=65535:=by
 unfold Gj at h;split at h
 ·cases h
 rename_i y l h1;split at h
 case isFalse=>cases h
 rename_i hc;simp only[Ka]at h;subst h;obtain⟨h2,h3,h4⟩:=hc;obtain⟨h5,a,b',c,d⟩:=Zoa h1;refine⟨?_,h4,a,b',c,d⟩;unfold Fy Zav;rw[if_pos ⟨h4,a,b',c,d⟩];have e:b.take (b.length-2)=Io y.1 y.2.1 y.2.2:=by
  rw[h5,Kz,h3,Nat.add_sub_cancel,List.take_left]
 rw[e]at h2;rw[<-h2,<-h5]
theorem Px (a b:Bool):cnd a (some b) (some false)=some (a&&b):=by cases a<;>rfl
theorem Yed {ρ:Type}(a b:Bool):cnd a (some (.inl b)) (some (.inl false))=(some (.inl (a&&b)):Option (Bool ⊕ ρ)):=by cases a<;>rfl
theorem Zg3 (l:List UInt8):sEq l []=l.isEmpty:=by cases l<;>rfl
theorem Ys9 (r:Row):Zcs r=some (E2 r):=by
 obtain⟨key,⟨ot,ob⟩,⟨nt,nb⟩,has,aside⟩:=r;unfold Zcs E2;have e1:=Zg7 (ot,ob);have e2:=Zg7 (nt,nb);simp only[e1,e2,Aa,Px,Zg3,I4];congr 1;cases aside<;>simp [Ah,Kwe]
theorem Yo4 (r:Row):Zbu ((r.1,((r.2.1.1,r.2.1.2),((r.2.2.1.1,r.2.2.1.2),(r.2.2.2.1,r.2.2.2.2)))),([],((0,[]),((0,[]),(0,false)))))=some (E2 r):=by
 obtain⟨key,⟨ot,ob⟩,⟨nt,nb⟩,has,aside⟩:=r;unfold Zbu E2;have e1:K5 ((ot,ob),(0,[]))=_:=Zfo (ot,ob);have e2:K5 ((nt,nb),(0,[]))=_:=Zfo (nt,nb);simp only[e1,e2,Aa,Px,Zg3,I4];congr 1;cases aside<;>simp [bEq,Kwe]
theorem Yvl (k w sq cd:Int):cnd (decide (w=0)) (some (decide (sq=0)&&(decide (cd=0)&&iNe k 4))) (some (decide (1<=w/\w<=9)&&(decide (0<=sq/\sq<=65535)&&decide (0<=cd/\cd<=6))))=some (Ts k w sq cd):=by
 unfold Ts;by_cases h:w=0
 ·rw[decide_eq_true h,Ad,if_pos h];simp only[iNe];congr 1;rw[Ktc];simp
 ·rw[decide_eq_false h,Ac,if_neg h];congr 1;rw[Ktc];simp only[Kd,decide_eq_true_eq];omega
theorem Ydz (k n:Int) (R:Row) (key:List UInt8) (f:Bool):(Ao (cnd (decide (k=1)) (some (.inl (Ci R,(key.isEmpty,decide (n=0))))) (cnd (decide (k=2)) (some (.inl (E2 R,(Fw key,decide (n=0))))) (cnd (decide (k=3)) (some (.inl (E2 R,(key.isEmpty,decide (0<=n/\n<=7))))) (some (.inl (E2 R,(key.isEmpty,decide (n=0))))))):Option ((Bool×Bool×Bool) ⊕ Bool)) fun z=>some (decide (1<=k/\k<=4)&&(z.1&&(z.2.1&&(z.2.2&&f)))))=some (I1 k R key n&&f):=by
 unfold I1;rcases (show k=1\/k=2\/k=3\/k=4\/¬(1<=k/\k<=4) by omega) with rfl|rfl|rfl|rfl|h
 ·generalize Ci R=a;generalize key.isEmpty=b;generalize decide (n=0)=c;cases a<;>cases b<;>cases c<;>cases f<;>rfl
 ·generalize E2 R=a;generalize Fw key=b;generalize decide (n=0)=c;cases a<;>cases b<;>cases c<;>cases f<;>rfl
 ·generalize E2 R=a;generalize key.isEmpty=b;generalize decide (0<=n/\n<=7)=c;cases a<;>cases b<;>cases c<;>cases f<;>rfl
 ·generalize E2 R=a;generalize key.isEmpty=b;generalize decide (n=0)=c;cases a<;>cases b<;>cases c<;>cases f<;>rfl
 ·rw[decide_eq_false h,decide_eq_false (show ¬k=1 by omega),decide_eq_false (show ¬k=2 by omega),decide_eq_false (show ¬k=3 by omega),if_neg (by omega),if_neg (by omega),if_neg (by omega),if_neg (by omega)];rfl
theorem Zow {r:Rec}(h1:r.2.1.1.length<9223372036854775807) (h2:r.2.2.1.length<9223372036854775807):Pf r=some (C6 r):=by
 obtain⟨k,⟨key,⟨ot,ob⟩,⟨nt,nb⟩,has,aside⟩,name,n,w,sq,cd⟩:=r;simp only at h1 h2;have e1:=Ys9 (key,((ot,ob),((nt,nb),(has,aside))));have e2:Nf (key,((ot,ob),((nt,nb),(has,aside))))=_:=Zox (by simp only;omega);have e3:=Zou h2;have e4:∀x l h:Int,Br (x,(l,h))=some (decide (l<=x/\x<=h)):=D0;unfold Pf C6 Zim Ni;simp only[e1,e2,e3,e4,Aa,Px,Zg3,I4,Yvl,Ydz]
theorem Ydy (k n w:Int) (R:Row) (key:List UInt8):cnd (decide (k=1)) (some (.inl (Ci R&&(key.isEmpty&&decide (n=0))))) (cnd (decide (k=2)) (some (.inl (E2 R&&(Fw key&&decide (n=0))))) (cnd (decide (k=3)) (some (.inl (E2 R&&(key.isEmpty&&decide (0<=n/\n<=7))))) (some (.inl (decide (k=4)&&(E2 R&&(key.isEmpty&&(decide (n=0)&&iNe w 0))))))))=(some (.inl (I1 k R key n&&!(decide (k=4/\w=0)))):Option (Bool ⊕ Bool)):=by
 unfold I1;rcases (show k=1\/k=2\/k=3\/k=4\/¬(1<=k/\k<=4) by omega) with rfl|rfl|rfl|rfl|h
 ·generalize Ci R=a;generalize key.isEmpty=b;generalize decide (n=0)=c;rw[decide_eq_false (show ¬((1:Int)=4/\w=0) by omega)];cases a<;>cases b<;>cases c<;>rfl
 ·generalize E2 R=a;generalize Fw key=b;generalize decide (n=0)=c;rw[decide_eq_false (show ¬((2:Int)=4/\w=0) by omega)];cases a<;>cases b<;>cases c<;>rfl
 ·generalize E2 R=a;generalize key.isEmpty=b;generalize decide (0<=n/\n<=7)=c;rw[decide_eq_false (show ¬((3:Int)=4/\w=0) by omega)];cases a<;>cases b<;>cases c<;>rfl
 ·generalize E2 R=a;generalize key.isEmpty=b;generalize decide (n=0)=c;rw[show decide ((4:Int)=4/\w=0)=!iNe w 0 by rw[Ktc];simp [iNe]];generalize iNe w 0=d;cases a<;>cases b<;>cases c<;>cases d<;>rfl
 ·rw[decide_eq_false (show ¬k=1 by omega),decide_eq_false (show ¬k=2 by omega),decide_eq_false (show ¬k=3 by omega),decide_eq_false (show ¬k=4 by omega),if_neg (by omega),if_neg (by omega),if_neg (by omega),if_neg (by omega)];rfl
theorem Yvk (k w sq cd:Int) (b:Bool):cnd (decide (w=0)) (some ((b&&!(decide (k=4/\w=0)))&&(decide (sq=0)&&decide (cd=0)))) (some ((b&&!(decide (k=4/\w=0)))&&(decide (1<=w/\w<=9)&&(decide (0<=sq/\sq<=65535)&&decide (0<=cd/\cd<=6)))))=some (b&&Ts k w sq cd):=by
 unfold Ts;by_cases h:w=0
 ·rw[decide_eq_true h,Ad,if_pos h];congr 1;rw[Kwe];congr 1;rw[Ktc];simp only[Kd,decide_eq_true_eq,Kjb,decide_eq_false_iff_not];omega
 ·rw[decide_eq_false h,Ac,if_neg h];congr 1;rw[Kwe];congr 1;rw[Ktc];simp only[Kd,decide_eq_true_eq,Kjb,decide_eq_false_iff_not];omega
theorem Zl9 {r:Rec}(h1:r.2.1.1.length<9223372036854775807) (h2:r.2.2.1.length<9223372036854775807):Pc r=some (C6 r):=by
 obtain⟨k,⟨key,⟨ot,ob⟩,⟨nt,nb⟩,has,aside⟩,name,n,w,sq,cd⟩:=r;simp only at h1 h2;have e1:=Yo4 (key,((ot,ob),((nt,nb),(has,aside))));have e2:K3 (key,((ot,ob),((nt,nb),(has,aside))))=_:=Zfl (by simp only;omega);have e3:=Zvg h2;have e4:∀x l h:Int,Cu (x,(l,h))=some (decide (l<=x/\x<=h)):=G9;simp only at e1;unfold Pc C6 M9;simp only[e1,e2,e3,e4,Aa,Px,Yed,Zg3,I4,Ydy,Ax,Yvk]
def smC (B:Nat) (r:Rec):Prop:=smR B r.2.1/\r.2.2.1.length<=B
theorem smC.mono {A B:Nat}{r:Rec}(h:smC A r) (hab:A<=B):smC B r:=⟨h.1.mono hab,Kqa h.2 hab⟩
end
end Go.Vs
