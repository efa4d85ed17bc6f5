import Derived.Test.YtmfmjngkbddenaaGreatDoorVsW5
import Derived.Test.YtmfmjngkbddenaaGreatDoorVsQo2
set_option linter.all false
namespace Go.Vs
noncomputable section
theorem Yfn (ls:List (List UInt8)) (i:Nat):(ls.take i).flatten.length<=ls.flatten.length:=by
 have h:=congrArg (fun l:List (List UInt8)=>l.flatten.length) (Kkc i ls);simp only[List.flatten_append,Ky]at h;omega
theorem Yly {ls:List (List UInt8)}(hn:ls.length<4611686018427387904) (h:ls.flatten.length<=140737488355328):Gg ls=some ls.flatten:=by
 unfold Gg;rw[Hv (fun i=>((ls.take i).flatten,(i:Int))) ls.length (.inl ls.flatten)]
 ·rfl
 ·intro i hi;have e:(ls.take (i+1)).flatten=(ls.take i).flatten++ls[i]:=Yfo hi;have hr:=Yfn ls (i+1);rw[e,Ky]at hr;unfold Qh;rw[A4 (by simp only[Aj];omega),Ag];simp only[Bt hi,Ab];rw[Bk (by omega),Av,e,C8 (by omega) (by omega)];rfl
 ·unfold Qh;rw[A0 (by simp only[Aj];omega),Ac,Khc]
 ·rfl
theorem Ztc {a b:List UInt8}(hb:a.length+b.length<=140737488355328):Gg [a,b]=some (a++b):=by
 have e:[a,b].flatten=a++b:=by simp
 rw[Yly (by simp only[Kg,Ki];omega) (by rw[e,Ky];omega),e]
theorem Zl7 (a b:List UInt8):sEq a b=(a==b):=rfl
theorem Q8 (a b:Int):iEq a b=decide (a=b):=by simp only[iEq];rfl
def B2 (n:Int):List UInt8:=[yN (n.toNat / 256),yN (n.toNat%256)]
def H3 (s:List UInt8):List UInt8:=if s.length<=60 then B2 s.length++s else []
def F2 (c:Ca):List UInt8:=yN c.1.toNat::H3 c.2
def Qz (b:Bool):Nat:=if b then 1 else 0
def Lu (r:Row):List UInt8:=H3 r.1++(yN r.2.2.2.1.toNat::yN (Qz r.2.2.2.2)::((if r.2.2.2.1=2 then [] else F2 r.2.1)++(if r.2.2.2.1=1 then [] else F2 r.2.2.1)))
def I4:List UInt8->Option (Int×List UInt8)
 | []=>none
 | x::l=>some ((x.toNat:Int),l)
def Lr:List UInt8->Option (Int×List UInt8)
 | x::y::l=>some (((x.toNat*256+y.toNat:Nat):Int),l)
 | _=>none
def Ng (l:List UInt8):Option (List UInt8×List UInt8):=match Lr l with
 | none=>none
 | some (n,r)=>if n<=60/\n<=r.length then some (r.take n.toNat,r.drop n.toNat) else none
def Zej (l:List UInt8):Option (Ca×List UInt8):=match I4 l with
 | none=>none
 | some (t,r)=>match Ng r with
  | none=>none
  | some (s,r)=>some ((t,s),r)
def Zle (has:Int) (l:List UInt8):Option (Ca×List UInt8):=if has.toNat%2=1 then Zej l else some ((0,[]),l)
def Zld (has:Int) (l:List UInt8):Option (Ca×List UInt8):=if has.toNat / 2%2=1 then Zej l else some ((0,[]),l)
def Zlg (l:List UInt8):Option (Row×List UInt8):=match Ng l with
 | none=>none
 | some (key,l)=>match I4 l with
  | none=>none
  | some (has,l)=>match I4 l with
   | none=>none
   | some (aside,l)=>if 1<aside then none else match Zle has l with
    | none=>none
    | some (old,l)=>match Zld has l with
     | none=>none
     | some (new,l)=>some ((key,old,new,has,decide (aside=1)),l)
def Zlf (l:List UInt8):Option (Row×List UInt8):=match Zlg l with
 | none=>none
 | some (r,l)=>if Cu r then some (r,l) else none
theorem Ynk {n:Int}(h0:0<=n) (h1:n<65536) (r:List UInt8):Lr (B2 n++r)=some (n,r):=by
 have e0:=Gf (n:=n.toNat / 256) (by omega);have e1:=Gf (n:=n.toNat%256) (by omega);simp only[B2,Ks,Kp,Lr,e0,e1];congr 2;omega
theorem Yr0 {l r:List UInt8}{n:Int}(h:Lr l=some (n,r)):l=B2 n++r/\0<=n/\n<65536:=by
 match l,h with
 | [],h=>simp [Lr]at h
 | [_],h=>simp [Lr]at h
 | x::y::l,h =>
  simp only[Lr,Ka,Kb]at h;obtain⟨rfl,rfl⟩:=h;have h0:=Cn x;have h1:=Cn y;refine⟨?_,by omega,by omega⟩;rw[B2,Fv (b:=x) (by omega),Fv (b:=y) (by omega)];rfl
theorem Zlh {s:List UInt8}(h:s.length<=60) (r:List UInt8):Ng (H3 s++r)=some (s,r):=by
 unfold H3 Ng;rw[if_pos h,Kwa,Ynk (by omega) (by omega)];simp only;rw[if_pos (by simp only[Ky];omega)];simp
theorem Yqo {l s r:List UInt8}(h:Ng l=some (s,r)):l=H3 s++r/\s.length<=60:=by
 unfold Ng at h;split at h
 ·cases h
 ·rename_i n q hq;obtain⟨rfl,h0,h1⟩:=Yr0 hq;split at h
  ·rename_i hn;simp only[Ka,Kb]at h;obtain⟨rfl,rfl⟩:=h;have hl:(q.take n.toNat).length=n.toNat:=by rw[Kbb];omega
   refine⟨?_,by omega⟩;unfold H3;rw[if_pos (by omega),hl,Kwa,Kkc,Kqf h0]
  ·cases h
theorem Zuy {c:Ca}(h0:0<=c.1) (h1:c.1<256) (h:c.2.length<=60) (r:List UInt8):Zej (F2 c++r)=some (c,r):=by
 simp only[F2,Ks,Zej,I4,Zlh h,Gf (n:=c.1.toNat) (by omega)];rw[Kqf h0]
theorem Zu8 {o:Ca}{has:Int}{aside:Bool}(h:J8 o has aside=true) (h2:has≠2):1<=o.1/\o.1<=5/\o.2.length<=20/\((Di o).isSome=true\/(aside=true/\has=1)):=by
 simp only[J8,if_neg h2,Ke,Knb,decide_eq_true_eq]at h;exact⟨h.1.1.1,h.1.1.2,h.1.2,h.2⟩
theorem Zu7 {n:Ca}{has:Int}(h:J7 n has=true) (h2:has≠1):n.1=0/\(Di n).isSome=true/\n.2.length<=20:=by
 simp only[J7,if_neg h2,Ke,decide_eq_true_eq]at h;refine⟨h.1,h.2, ?_⟩;obtain⟨t,ht⟩:=Option.isSome_iff_exists.1 h.2;have:=(Yap ht).1;simp only[F3,Ke,decide_eq_true_eq]at this;exact this.2
theorem Ynj {r:Row}(h:Cu r=true) (l:List UInt8):Zlf (Lu r++l)=some (r,l):=by
 obtain⟨a,b1,b2,c,d,e⟩:=Rr h;have hk:=Zuc a;obtain⟨key,old,new,has,aside⟩:=r;simp only at a b1 b2 c d e hk;have key1:Zlg (Lu (key,old,new,has,aside)++l)=some ((key,old,new,has,aside),l):=by
  unfold Lu Zlg;simp only[Kwa,Ks];rw[Zlh (by omega)];simp only[I4,Gf (n:=has.toNat) (by omega),Gf (n:=Qz aside) (by unfold Qz;split<;>omega),Kqf (show 0<=has by omega)]
  rw[if_neg (by unfold Qz;split<;>omega)]
  have ea:decide (((Qz aside:Nat):Int)=1)=aside:=by cases aside<;>rfl
  have eo:Zle has ((if has=2 then [] else F2 old)++((if has=1 then [] else F2 new)++l))=some (old,(if has=1 then [] else F2 new)++l):=by
   unfold Zle;by_cases h2:has=2
   ·subst h2;have hn:Fe old=true:=by simpa [J8] using c
    rw[if_neg (by decide),if_pos rfl,Zea hn];rfl
   ·obtain⟨o1,o2,o3,_⟩:=Zu8 c h2;rw[if_pos (by omega),if_neg h2,Zuy (by omega) (by omega) (by omega)]
  have en:Zld has ((if has=1 then [] else F2 new)++l)=some (new,l):=by
   unfold Zld;by_cases h2:has=1
   ·subst h2;have hn:Fe new=true:=by simpa [J7] using d
    rw[if_neg (by decide),if_pos rfl,Zea hn];rfl
   ·obtain⟨n1,n2,n3⟩:=Zu7 d h2;rw[if_pos (by omega),if_neg h2,Zuy (by omega) (by omega) (by omega)]
  rw[eo];simp only[en,ea]
 unfold Zlf;rw[key1];simp only[h,if_true]
theorem Zez (c:Ca):N6 c=some (Fe c):=by
 obtain⟨t,b⟩:=c;unfold N6 Fe;simp only[iEq,Aj];by_cases h:t=0
 ·subst h;rw[show ((0:Int)==0)=true from rfl,Ag,decide_eq_true rfl,Knc];cases b with
  | nil=>rfl
  | cons x l =>
   have:(((x::l).length:Int)==0)=false:=by simp;omega
   rw[this];rfl
 ·have:(t==0)=false:=by simpa using h
  rw[this,Ac,decide_eq_false h];rfl
theorem Zdp (c:Ca):Jf ((c.1,c.2),(0,[]))=some (Fe c):=by
 obtain⟨t,b⟩:=c;unfold Jf Fe;simp only[iEq,sEq];by_cases h:t=0
 ·subst h;rw[show ((0:Int)==0)=true from rfl,Ag,decide_eq_true rfl,Knc];cases b<;>rfl
 ·have:(t==0)=false:=by simpa using h
  rw[this,Ac,decide_eq_false h];rfl
theorem Zei (o:Option (List UInt8)):(I3 o).2=o.isSome:=by cases o<;>rfl
theorem Zho {o:Ca}(h:1<=o.1/\o.1<=5):F3 o=decide (o.2.length<=20):=by
 unfold F3;rw[decide_eq_true (show 0<=o.1/\o.1<=5 by omega),Knc]
theorem Zme {r:Row}(hl:r.1.length<9223372036854775807):Mb r=some (Cu r):=by
 obtain⟨key,⟨ot,ob⟩,⟨nt,nb⟩,has,aside⟩:=r;have n1:Sj key=some (Fd key):=Zmc hl;have n2:=Zmb (ot,ob);have n3:=Zmb (nt,nb);have n4:=Zez (ot,ob);have n5:=Zez (nt,nb);have n6:=Yow (ot,ob) (nt,nb);have n7:=Zma (ot,ob);have nI:Bv (has,(1,3))=some (decide (1<=has/\has<=3)):=En _ _ _;have nT:Bv (ot,(1,5))=some (decide (1<=ot/\ot<=5)):=En _ _ _;unfold Mb Cu
 dsimp only
 rw[n1,Ab];cases hn:Fd key with
 | false=>rfl
 | true =>
 rw[A5,Ac,nI,Ab];by_cases hh:1<=has/\has<=3
 case neg=>rw[decide_eq_false hh];rfl
 rw[decide_eq_true hh,A5,Ac];rcases (show has=1\/has=2\/has=3 by omega) with rfl|rfl|rfl
 ·have o1:Da (key,(ot,ob),(nt,nb),1,aside)=some true:=congrArg some (show iEq (Ax .i64 1 1) 1=true by decide +kernel);have o2:Cq (key,(ot,ob),(nt,nb),1,aside)=some false:=congrArg some (show iEq (Ax .i64 1 2) 2=false by decide +kernel);simp only[o1,o2,n2,n3,n4,n5,n6,n7,nT,Ab,A5,B6,Ag,Ac,Zei];rw[show iNe 1 3=true from rfl,Ag];unfold J8 J7;rw[if_neg (by decide),if_pos rfl];by_cases hT:1<=ot/\ot<=5
  ·rw[Zho (o:=(ot,ob)) hT];generalize Fe (nt,nb)=b1;generalize decide (ob.length<=20)=b2;generalize (Di (ot,ob)).isSome=b3;simp only[decide_eq_true hT];cases b1<;>cases b2<;>cases b3<;>cases aside<;>rfl
  ·simp only[decide_eq_false hT];generalize Fe (nt,nb)=b1;cases b1<;>rfl
 ·have o1:Da (key,(ot,ob),(nt,nb),2,aside)=some false:=congrArg some (show iEq (Ax .i64 2 1) 1=false by decide +kernel);have o2:Cq (key,(ot,ob),(nt,nb),2,aside)=some true:=congrArg some (show iEq (Ax .i64 2 2) 2=true by decide +kernel);simp only[o1,o2,n2,n3,n4,n5,n6,n7,nT,Ab,A5,B6,Ag,Ac,Zei];rw[show iNe 2 3=true from rfl,Ag];unfold J8 J7;rw[if_pos rfl,if_neg (by decide)];have e0:iNe nt 0=!decide (nt=0):=by
   by_cases h:nt=0
   ·subst h;rfl
   ·rw[Xk h,decide_eq_false h];rfl
  rw[e0];generalize Fe (ot,ob)=b1;generalize decide (nt=0)=b2;generalize (Di (nt,nb)).isSome=b3;cases b1<;>cases b2<;>cases b3<;>rfl
 ·have o1:Da (key,(ot,ob),(nt,nb),3,aside)=some true:=congrArg some (show iEq (Ax .i64 3 1) 1=true by decide +kernel);have o2:Cq (key,(ot,ob),(nt,nb),3,aside)=some true:=congrArg some (show iEq (Ax .i64 3 2) 2=true by decide +kernel);simp only[o1,o2,n2,n3,n4,n5,n6,n7,nT,Ab,A5,B6,Ag,Ac,Zei];rw[show iNe 3 3=false from rfl];simp only[Ac];unfold J8 J7;rw[if_neg (by decide),if_neg (by decide)];have e0:iNe nt 0=!decide (nt=0):=by
   by_cases h:nt=0
   ·subst h;rfl
   ·rw[Xk h,decide_eq_false h];rfl
  rw[e0];by_cases hT:1<=ot/\ot<=5
  ·rw[Zho (o:=(ot,ob)) hT];simp only[decide_eq_true hT];generalize decide (nt=0)=b1;generalize decide (ob.length<=20)=b2;generalize (Di (ot,ob)).isSome=b3;generalize (Di (nt,nb)).isSome=b4;generalize Ps (ot,ob) (nt,nb)=b5;cases b1<;>cases b2<;>cases b3<;>cases b4<;>cases b5<;>cases aside<;>rfl
  ·simp only[decide_eq_false hT];generalize decide (nt=0)=b1;generalize (Di (nt,nb)).isSome=b4;cases b1<;>cases b4<;>rfl
theorem Zjl {r:Row}(hl:r.1.length<9223372036854775807):L5 r=some (Cu r):=by
 obtain⟨key,⟨ot,ob⟩,⟨nt,nb⟩,has,aside⟩:=r;have n1:Vk key=some (Fd key):=Zsz hl;have n2:=Zjh (ot,ob);have n3:=Zjh (nt,nb);have n4:Jf ((ot,ob),(0,[]))=some (Fe (ot,ob)):=Zdp (ot,ob);have n5:Jf ((nt,nb),(0,[]))=some (Fe (nt,nb)):=Zdp (nt,nb);have n6:=Yld (ot,ob) (nt,nb);have n7:=Zsy (ot,ob);have nI:Cw (has,(1,3))=some (decide (1<=has/\has<=3)):=Ix _ _ _;unfold L5 Cu
 dsimp only
 rw[n1,Ab];cases hn:Fd key with
 | false=>rfl
 | true =>
 rw[A5,Ac,nI,Ab];by_cases hh:1<=has/\has<=3
 case neg=>rw[decide_eq_false hh];rfl
 rw[decide_eq_true hh,A5,Ac];simp only[n2,n3,n4,n5,n6,n7,Ab,Zei];have e0:iEq nt 0=decide (nt=0):=by
  by_cases h:nt=0
  ·subst h;rfl
  ·rw[Dp h,decide_eq_false h]
 have eC:cnd (F3 (ot,ob)) (cnd (iNe ot 0) (cnd (Di (ot,ob)).isSome (some (Sum.inl (β:=Bool) true)) (cnd aside (some (.inl (iEq has 1))) (some (.inl false)))) (some (.inl false))) (some (.inl false))=some (.inl (decide (1<=ot/\ot<=5)&&decide (ob.length<=20)&&((Di (ot,ob)).isSome||(aside&&iEq has 1)))):=by
  by_cases hT:1<=ot/\ot<=5
  ·rw[Zho (o:=(ot,ob)) hT,decide_eq_true hT,Xk (by omega)];generalize decide (ob.length<=20)=b2;generalize (Di (ot,ob)).isSome=b3;generalize iEq has 1=b4;cases b2<;>cases b3<;>cases b4<;>cases aside<;>rfl
  ·rw[decide_eq_false hT];by_cases h0:ot=0
   ·subst h0;rw[show iNe 0 0=false from rfl];cases F3 (0,ob)<;>rfl
   ·have:F3 (ot,ob)=false:=by
     unfold F3;rw[decide_eq_false (by simp only;omega)];rfl
    rw[this];rfl
 rw[eC,e0];rcases (show has=1\/has=2\/has=3 by omega) with rfl|rfl|rfl
 ·unfold J8 J7;rw[if_neg (by decide),if_pos rfl,show iNe 1 2=true from rfl,show iNe 1 1=false from rfl,show iNe 1 3=true from rfl,show iEq 1 1=true from rfl];generalize (decide (1<=ot/\ot<=5))=b0;generalize Fe (nt,nb)=b1;generalize decide (ob.length<=20)=b2;generalize (Di (ot,ob)).isSome=b3;cases b0<;>cases b1<;>cases b2<;>cases b3<;>cases aside<;>rfl
 ·unfold J8 J7;rw[if_pos rfl,if_neg (by decide),show iNe 2 2=false from rfl,show iNe 2 1=true from rfl,show iNe 2 3=true from rfl];generalize Fe (ot,ob)=b1;generalize decide (nt=0)=b2;generalize (Di (nt,nb)).isSome=b3;cases b1<;>cases b2<;>cases b3<;>rfl
 ·unfold J8 J7;rw[if_neg (by decide),if_neg (by decide),show iNe 3 2=true from rfl,show iNe 3 1=true from rfl,show iNe 3 3=false from rfl,show iEq 3 1=false from rfl];generalize (decide (1<=ot/\ot<=5))=b0;generalize decide (nt=0)=b1;generalize decide (ob.length<=20)=b2;generalize (Di (ot,ob)).isSome=b3;generalize (Di (nt,nb)).isSome=b4;generalize Ps (ot,ob) (nt,nb)=b5;cases b0<;>cases b1<;>cases b2<;>cases b3<;>cases b4<;>cases b5<;>cases aside<;>rfl
theorem O5 (a b:Int):iEq a b=decide (a=b):=by simp only[iEq];rfl
theorem Ypc (r:Row) (h:Cu r=true):Cq r=some (decide (r.2.2.2.1≠1)):=by
 obtain⟨_,h1,h3,_⟩:=Rr h;unfold Cq;rcases (show r.2.2.2.1=1\/r.2.2.2.1=2\/r.2.2.2.1=3 by omega) with e|e|e<;>rw[e]
 ·exact congrArg some (show iEq (Ax .i64 1 2) 2=false by decide +kernel)
 ·exact congrArg some (show iEq (Ax .i64 2 2) 2=true by decide +kernel)
 ·exact congrArg some (show iEq (Ax .i64 3 2) 2=true by decide +kernel)
theorem Ypd (r:Row) (h:Cu r=true):Da r=some (decide (r.2.2.2.1≠2)):=by
 obtain⟨_,h1,h3,_⟩:=Rr h;unfold Da;rcases (show r.2.2.2.1=1\/r.2.2.2.1=2\/r.2.2.2.1=3 by omega) with e|e|e<;>rw[e]
 ·exact congrArg some (show iEq (Ax .i64 1 1) 1=true by decide +kernel)
 ·exact congrArg some (show iEq (Ax .i64 2 1) 1=false by decide +kernel)
 ·exact congrArg some (show iEq (Ax .i64 3 1) 1=true by decide +kernel)
theorem Ykv {n:Nat}(h:n<65536):u8 (Ak .u8 (Bp .i64 (n:Int) 8))=yN (n / 256)/\u8 (Ak .u8 (n:Int))=yN (n%256):=by
 have e:Bp .i64 (n:Int) (8:Nat)=_:=Yu (n:=n) (s:=8) (by omega);refine⟨?_, ?_⟩
 ·rw[show Bp .i64 (n:Int) 8=((n / 2^8:Nat):Int) from e,Gj]
 ·rw[Gj];exact UInt8.toNat_inj.1 (by simp [yN])
theorem Rs {l:List UInt8}{n:Int}(hl:l.length<=1099511627776) (h0:0<=n) (h1:n<65536):Io (l,n)=some (l++B2 n):=by
 obtain⟨k,rfl⟩:=Kid h0;obtain⟨e1,e2⟩:=Ykv (n:=k) (by omega);unfold Io;simp only[e1,e2];rw[Bk (by omega),Av,Bk (by simp only[Al,Kp];omega),Av];rfl
theorem Q9 {l:List UInt8}{n:Int}(hl:l.length<=1099511627776) (h0:0<=n) (h1:n<65536):Im (l,n)=some (l++B2 n):=by
 obtain⟨k,rfl⟩:=Kid h0;have e:Bp .i64 (k:Int) 8=((k / 2^8:Nat):Int):=Yu (n:=k) (s:=8) (by omega);have a1:Ax .i64 ((k / 2^8:Nat):Int) 255=((k / 2^8%256:Nat):Int):=by
  rw[show (255:Int)=((255:Nat):Int) from rfl,Q7 (k:=.i64) (by show _<2^63;omega) (by show _<2^63;omega),Ml (j:=8) rfl]
 have a2:Ax .i64 (k:Int) 255=((k%256:Nat):Int):=by
  rw[show (255:Int)=((255:Nat):Int) from rfl,Q7 (k:=.i64) (by show _<2^63;omega) (by show _<2^63;omega),Ml (j:=8) rfl]
 unfold Im;simp only[e,a1,a2,Gj];rw[Ztc (by simp only[Kg,Ki];omega),Ab];rw[show k / 2^8%256=k / 256 by omega];rfl
theorem Rz (s:List UInt8):(H3 s).length<=62:=by
 unfold H3;split<;>simp [B2]<;>omega
theorem Ztk {s:List UInt8}(h:¬s.length<=60):iGt (Ae s) 60=true:=Dq (by simp only[Aj];omega)
theorem Zmd {l s:List UInt8}(hl:l.length<=1048576000) (hs:s.length<=1048576000):Qf (l,s)=some (l++H3 s):=by
 unfold Qf H3;simp only;by_cases h:s.length<=60
 ·rw[Ej (by simp only[Aj];omega),Ac,if_pos h,Aj,Rs (by omega) (by omega) (by omega),Ab];rw[Bk (by simp only[Ky,B2,Kg,Ki];omega),Av];simp only[Al,Kwa]
 ·rw[Ztk h,Ag,if_neg h,Bk (by omega),Av,Kw];rfl
theorem Zjk {l s:List UInt8}(hl:l.length<=1048576000) (hs:s.length<=1048576000):L4 (l,s)=some (l++H3 s):=by
 unfold L4 H3;simp only;by_cases h:s.length<=60
 ·rw[Ej (by simp only[Aj];omega),Ac,if_pos h,Aj,Q9 (by omega) (by omega) (by omega),Ab];rw[Ztc (by simp only[Ky,B2,Kg,Ki];omega),Ab,Kwa]
 ·rw[Ztk h,Ag,if_neg h,Pa (by omega),Ab,Kw]
theorem Zcb (c:Ca):(F2 c).length<=63:=by
 have:=Rz c.2;unfold F2;simp only[Kg];omega
theorem Mr {t:Int}(h0:0<=t):u8 (Ak .u8 t)=yN t.toNat:=by
 obtain⟨k,rfl⟩:=Kid h0;rw[Gj];rfl
def Un (l:List UInt8) (r:Row):List UInt8:=if Cu r=true then l++Lu r else l
theorem Zl0 (r:Row):(Lu r).length<=190:=by
 have h1:=Rz r.1;have h2:=Zcb r.2.1;have h3:=Zcb r.2.2.1;unfold Lu;simp only[Ky,Kg];split<;>split<;>first|omega|(simp only[Ki];omega)
theorem Yo5 {l:List UInt8}{c:Ca}(hl:l.length<=104857600) (hs:c.2.length<=1048576000) (h0:0<=c.1):Sp (l,(c.1,c.2))=some (l++F2 c):=by
 unfold Sp;simp only[Mr h0];rw[Bk (by omega),Av,Zmd (by simp only[Al,Ky,Kg,Ki];omega) hs,Ab];simp only[Al,Kwa,F2,Ks,Kp]
theorem Yfm (b:Bool):Zf6 b=some (yN (Qz b)):=by cases b<;>rfl
theorem Yfl (b:Bool):Zf0 b=some (yN (Qz b)):=by cases b<;>rfl
theorem Zvu {r:Row}(h:Cu r=true) (h2:r.2.2.2.1≠2):0<=r.2.1.1:=by
 obtain⟨_,a,b,c,d⟩:=Rr h;have:=Zu8 c h2;omega
theorem Zvt {r:Row}(h:Cu r=true) (h2:r.2.2.2.1≠1):0<=r.2.2.1.1:=by
 have d:=(Rr h).2.2.2.2;have:=Zu7 d.1 h2;omega
theorem You {l:List UInt8}{r:Row}(hl:l.length<=1048576) (hr:smR 1048576 r):V4 (l,r)=some (Un l r):=by
 obtain⟨key,⟨ot,ob⟩,⟨nt,nb⟩,has,aside⟩:=r;obtain⟨k1,k2,k3⟩:=hr;simp only at k1 k2 k3;have e0:Mb (key,((ot,ob),((nt,nb),(has,aside))))=some (Cu (key,((ot,ob),((nt,nb),(has,aside))))):=Zme (by simp only;omega);unfold V4 Un;simp only[e0,Ab,Yfm];rw[Bk (by omega),Av];cases hk:Cu (key,((ot,ob),((nt,nb),(has,aside)))) with
 | false=>rw[B6,Ag];rfl
 | true =>
 have b1:=Rr hk;have eo:Da (key,((ot,ob),((nt,nb),(has,aside))))=some (decide (has≠2)):=Ypd _ hk;have en:Cq (key,((ot,ob),((nt,nb),(has,aside))))=some (decide (has≠1)):=Ypc _ hk;have t1:=Rz key;have t2:=Zcb (ot,ob);have o0:=Zvu hk;have n0:=Zvt hk;simp only at b1 o0 n0;rw[A5,Ac,show Al [] l=l from rfl,Zmd (by omega) (by omega),Ab,Bk (by simp only[Ky];omega),Av];simp only[eo,en,Ab,Mr (show 0<=has by omega),if_true,Lu,Al];have step:∀(q:List UInt8) (c:Ca) (k:Int),q.length<=2097152->c.2.length<=1048576->(has≠k->0<=c.1)->cnd (decide (has≠k)) (bnd (Sp (q,(c.1,c.2))) (fun z5=>(some (.inl z5)))) (some (.inl q))=some (.inl (q++if has=k then [] else F2 c):List UInt8 ⊕ List UInt8):=by
  intro q c k hq hc h0;by_cases h:has=k
  ·rw[if_pos h,decide_eq_false (by simpa using h),Ac,Kw]
  ·rw[if_neg h,decide_eq_true h,Ag,Yo5 (by omega) (by omega) (h0 h)];rfl
 rw[step _ (ot,ob) 2 (by simp only[Ky,Kg,Ki];omega) k2 o0,A3];have t3:(if has=2 then [] else F2 (ot,ob)).length<=63:=by split<;>first|omega|(simp only[Ki];omega)
 rw[step _ (nt,nb) 1 (by simp only[Ky,Kg,Ki];omega) k3 n0,A3];simp only[Kwa,Ks,Kp]
theorem Ylb {l:List UInt8}{r:Row}(hl:l.length<=1048576) (hr:smR 1048576 r):Vl (l,r)=some (Un l r):=by
 obtain⟨key,⟨ot,ob⟩,⟨nt,nb⟩,has,aside⟩:=r;obtain⟨k1,k2,k3⟩:=hr;simp only at k1 k2 k3;have e0:L5 (key,((ot,ob),((nt,nb),(has,aside))))=some (Cu (key,((ot,ob),((nt,nb),(has,aside))))):=Zjl (by simp only;omega);unfold Vl Un;simp only[Pa (show l.length<=140737488355328 by omega),e0,Ab,Yfl];cases hk:Cu (key,((ot,ob),((nt,nb),(has,aside)))) with
 | false=>rw[B6,Ag];rfl
 | true =>
 have b1:=Rr hk;have t1:=Rz key;have t2:=Zcb (ot,ob);have o0:=Zvu hk;have n0:=Zvt hk;simp only at b1 o0 n0;rw[A5,Ac,Zjk (by omega) (by omega),Ab,Bk (by simp only[Ky];omega),Av];simp only[Ab,Mr (show 0<=has by omega),if_true,Lu,Al];have step:∀(q:List UInt8) (c:Ca) (k:Int),q.length<=2097152->c.2.length<=1048576->(has≠k->0<=c.1)->cnd (iNe has k) (chk (A1 (q.length+1) 1) (bnd (L4 (q++[u8 (Ak .u8 c.1)],c.2)) (fun z5=>(some (.inl z5))))) (some (.inl q))=some (.inl (q++if has=k then [] else F2 c):List UInt8 ⊕ List UInt8):=by
  intro q c k hq hc h0;by_cases h:has=k
  ·rw[if_pos h,h,Fo,Ac,Kw]
  ·rw[if_neg h,Xk h,Ag,Bk (by omega),Av,Zjk (by simp only[Ky,Kg,Ki];omega) (by omega),Mr (h0 h)];simp only[Ab,F2,Kwa,Ks,Kp]
 rw[step _ (ot,ob) 2 (by simp only[Ky,Kg,Ki];omega) k2 o0,A3];have t3:(if has=2 then [] else F2 (ot,ob)).length<=63:=by split<;>first|omega|(simp only[Ki];omega)
 rw[step _ (nt,nb) 1 (by simp only[Ky,Kg,Ki];omega) k3 n0,A3];simp only[Kwa,Ks,Kp]
abbrev Rec:=Int×Row×List UInt8×Int×Int×Int×Int
def Et (r:Row):Bool:=r.1.isEmpty&&Fe r.2.1&&Fe r.2.2.1&&decide (r.2.2.2.1=0)&&!r.2.2.2.2
theorem Zk0 {r:Row}(h:Et r=true):r=([],(0,[]),(0,[]),0,false):=by
 obtain⟨k,o,n,z,a⟩:=r;simp only[Et,Ke,decide_eq_true_eq,Kld,Kxb]at h;obtain⟨⟨⟨⟨h1,h2⟩,h3⟩,h4⟩,h5⟩:=h;rw[h1,Zea h2,Zea h3,h4,h5]
def Mo (k:Int) (R:Row) (key:List UInt8) (n:Int):Bool :=
 if k=1 then Cu R&&key.isEmpty&&decide (n=0)
 else if k=2 then Et R&&Fd key&&decide (n=0)
 else if k=3 then Et R&&key.isEmpty&&decide (0<=n/\n<=7)
 else if k=4 then Et R&&key.isEmpty&&decide (n=0)
 else false
def R7 (k who seq code:Int):Bool:=if who=0 then decide (seq=0/\code=0/\k≠4) else decide (1<=who/\who<=9/\0<=seq/\seq<=65535/\0<=code/\code<=6)
def Gb (r:Rec):Bool:=Mo r.1 r.2.1 r.2.2.1 r.2.2.2.1&&R7 r.1 r.2.2.2.2.1 r.2.2.2.2.2.1 r.2.2.2.2.2.2
def Jk (k:Int) (R:Row) (key:List UInt8) (n:Int):List UInt8:=if k=1 then Lu R else if k=2 then H3 key else if k=3 then [yN n.toNat] else []
def Rp (gen place:Int) (r:Rec):List UInt8:=B2 gen++(B2 place++(yN r.1.toNat::(Jk r.1 r.2.1 r.2.2.1 r.2.2.2.1++(yN r.2.2.2.2.1.toNat::yN r.2.2.2.2.2.2.toNat::B2 r.2.2.2.2.2.1))))
def Zfd (b:List UInt8):List UInt8:=b++B2 (crc b)
def Ek (gen place:Int) (r:Rec):List UInt8:=if Gb r=true/\0<=gen/\gen<=65535/\0<=place/\place<=65535 then Zfd (Rp gen place r) else []
def Zlc (k:Int) (l:List UInt8):Option ((Row×List UInt8×Int)×List UInt8) :=
 if k=1 then (match Zlf l with
  | none=>none
  | some (r,l)=>some ((r,[],0),l))
 else if k=2 then (match Ng l with
  | none=>none
  | some (s,l)=>some ((([],(0,[]),(0,[]),0,false),s,0),l))
 else if k=3 then (match I4 l with
  | none=>none
  | some (n,l)=>some ((([],(0,[]),(0,[]),0,false),[],n),l))
 else some ((([],(0,[]),(0,[]),0,false),[],0),l)
def Yni (l:List UInt8):Option ((Int×Int×Rec)×List UInt8):=match Lr l with
 | none=>none
 | some (gen,l)=>match Lr l with
  | none=>none
  | some (place,l)=>match I4 l with
   | none=>none
   | some (k,l)=>match Zlc k l with
    | none=>none
    | some ((R,key,n),l)=>match I4 l with
     | none=>none
     | some (who,l)=>match I4 l with
      | none=>none
      | some (code,l)=>match Lr l with
       | none=>none
       | some (seq,l)=>some ((gen,place,(k,R,key,n,who,seq,code)),l)
def Ysj (b:List UInt8):Option (Int×Int×Rec):=match Yni b with
 | none=>none
 | some (x,l)=>if l=B2 (crc (b.take (b.length-2)))/\l.length=2/\Gb x.2.2=true then some x else none
theorem Zh (n:Int):(B2 n).length=2:=rfl
theorem Zux {k:Int}{R:Row}{key:List UInt8}{n:Int}(h:Mo k R key n=true) (l:List UInt8):Zlc k (Jk k R key n++l)=some ((R,key,n),l)/\1<=k/\k<=4:=by
 unfold Mo at h;unfold Zlc Jk;split at h
 ·rename_i hk;simp only[Ke,decide_eq_true_eq,Kld]at h;obtain⟨⟨h1,rfl⟩,rfl⟩:=h;rw[if_pos hk,if_pos hk,Ynj h1];exact⟨rfl,by omega,by omega⟩
 split at h
 ·rename_i h1 hk;simp only[Ke,decide_eq_true_eq]at h;obtain⟨⟨h2,h3⟩,rfl⟩:=h;rw[if_neg h1,if_pos hk,if_neg h1,if_pos hk,Zlh (by have:=Zuc h3;omega),Zk0 h2];exact⟨rfl,by omega,by omega⟩
 split at h
 ·rename_i h1 h2 hk;simp only[Ke,decide_eq_true_eq,Kld]at h;obtain⟨⟨h3,rfl⟩,h4⟩:=h;rw[if_neg h1,if_neg h2,if_pos hk,if_neg h1,if_neg h2,if_pos hk,Zk0 h3];simp only[Ks,Kp,I4,Gf (n:=n.toNat) (by omega),Kqf h4.1];exact⟨trivial,by omega,by omega⟩
 split at h
 ·rename_i h1 h2 h3 hk;simp only[Ke,decide_eq_true_eq,Kld]at h;obtain⟨⟨h4,rfl⟩,rfl⟩:=h;rw[if_neg h1,if_neg h2,if_neg h3,if_neg h1,if_neg h2,if_neg h3,Zk0 h4];exact⟨rfl,by omega,by omega⟩
 ·cases h
theorem Zn1 {k who seq code:Int}(h:R7 k who seq code=true):0<=who/\who<=9/\0<=seq/\seq<=65535/\0<=code/\code<=6:=by
 unfold R7 at h;split at h
 ·simp only[decide_eq_true_eq]at h;omega
 ·simp only[decide_eq_true_eq]at h;omega
theorem Oi (a b:Bool):cnd a (some b) (some false)=some (a&&b):=by cases a<;>rfl
theorem Yaw {ρ:Type}(a b:Bool):cnd a (some (.inl b)) (some (.inl false))=(some (.inl (a&&b)):Option (Bool ⊕ ρ)):=by cases a<;>rfl
theorem Zew (l:List UInt8):sEq l []=l.isEmpty:=by cases l<;>rfl
theorem Ype (r:Row):Za3 r=some (Et r):=by
 obtain⟨key,⟨ot,ob⟩,⟨nt,nb⟩,has,aside⟩:=r;unfold Za3 Et;have e1:=Zez (ot,ob);have e2:=Zez (nt,nb);simp only[e1,e2,Ab,Oi,Zew,O5];congr 1;cases aside<;>simp [Ah,Kle]
theorem Yln (r:Row):Zw ((r.1,((r.2.1.1,r.2.1.2),((r.2.2.1.1,r.2.2.1.2),(r.2.2.2.1,r.2.2.2.2)))),([],((0,[]),((0,[]),(0,false)))))=some (Et r):=by
 obtain⟨key,⟨ot,ob⟩,⟨nt,nb⟩,has,aside⟩:=r;unfold Zw Et;have e1:Jf ((ot,ob),(0,[]))=_:=Zdp (ot,ob);have e2:Jf ((nt,nb),(0,[]))=_:=Zdp (nt,nb);simp only[e1,e2,Ab,Oi,Zew,O5];congr 1;cases aside<;>simp [bEq,Kle]
theorem Yrx (k w sq cd:Int):cnd (decide (w=0)) (some (decide (sq=0)&&(decide (cd=0)&&iNe k 4))) (some (decide (1<=w/\w<=9)&&(decide (0<=sq/\sq<=65535)&&decide (0<=cd/\cd<=6))))=some (R7 k w sq cd):=by
 unfold R7;by_cases h:w=0
 ·rw[decide_eq_true h,Ag,if_pos h];simp only[iNe];congr 1;rw[Klc];simp
 ·rw[decide_eq_false h,Ac,if_neg h];congr 1;rw[Klc];simp only[Ke,decide_eq_true_eq];omega
theorem Yaj (k n:Int) (R:Row) (key:List UInt8) (f:Bool):(Ao (cnd (decide (k=1)) (some (.inl (Cu R,(key.isEmpty,decide (n=0))))) (cnd (decide (k=2)) (some (.inl (Et R,(Fd key,decide (n=0))))) (cnd (decide (k=3)) (some (.inl (Et R,(key.isEmpty,decide (0<=n/\n<=7))))) (some (.inl (Et R,(key.isEmpty,decide (n=0))))))):Option ((Bool×Bool×Bool) ⊕ Bool)) fun z=>some (decide (1<=k/\k<=4)&&(z.1&&(z.2.1&&(z.2.2&&f)))))=some (Mo k R key n&&f):=by
 unfold Mo;rcases (show k=1\/k=2\/k=3\/k=4\/¬(1<=k/\k<=4) by omega) with rfl|rfl|rfl|rfl|h
 ·generalize Cu R=a;generalize key.isEmpty=b;generalize decide (n=0)=c;cases a<;>cases b<;>cases c<;>cases f<;>rfl
 ·generalize Et R=a;generalize Fd key=b;generalize decide (n=0)=c;cases a<;>cases b<;>cases c<;>cases f<;>rfl
 ·generalize Et R=a;generalize key.isEmpty=b;generalize decide (0<=n/\n<=7)=c;cases a<;>cases b<;>cases c<;>cases f<;>rfl
 ·generalize Et R=a;generalize key.isEmpty=b;generalize decide (n=0)=c;cases a<;>cases b<;>cases c<;>cases f<;>rfl
 ·rw[decide_eq_false h,decide_eq_false (show ¬k=1 by omega),decide_eq_false (show ¬k=2 by omega),decide_eq_false (show ¬k=3 by omega),if_neg (by omega),if_neg (by omega),if_neg (by omega),if_neg (by omega)];rfl
theorem Zwi {r:Rec}(h1:r.2.1.1.length<9223372036854775807) (h2:r.2.2.1.length<9223372036854775807):Sm r=some (Gb r):=by
 obtain⟨k,⟨key,⟨ot,ob⟩,⟨nt,nb⟩,has,aside⟩,name,n,w,sq,cd⟩:=r;simp only at h1 h2;have e1:=Ype (key,((ot,ob),((nt,nb),(has,aside))));have e2:Mb (key,((ot,ob),((nt,nb),(has,aside))))=_:=Zme (by simp only;omega);have e3:=Zmc h2;have e4:∀x l h:Int,Bv (x,(l,h))=some (decide (l<=x/\x<=h)):=En;unfold Sm Gb Zf7 Md;simp only[e1,e2,e3,e4,Ab,Oi,Zew,O5,Yrx,Yaj]
theorem Yai (k n w:Int) (R:Row) (key:List UInt8):cnd (decide (k=1)) (some (.inl (Cu R&&(key.isEmpty&&decide (n=0))))) (cnd (decide (k=2)) (some (.inl (Et R&&(Fd key&&decide (n=0))))) (cnd (decide (k=3)) (some (.inl (Et R&&(key.isEmpty&&decide (0<=n/\n<=7))))) (some (.inl (decide (k=4)&&(Et R&&(key.isEmpty&&(decide (n=0)&&iNe w 0))))))))=(some (.inl (Mo k R key n&&!(decide (k=4/\w=0)))):Option (Bool ⊕ Bool)):=by
 unfold Mo;rcases (show k=1\/k=2\/k=3\/k=4\/¬(1<=k/\k<=4) by omega) with rfl|rfl|rfl|rfl|h
 ·generalize Cu R=a;generalize key.isEmpty=b;generalize decide (n=0)=c;rw[decide_eq_false (show ¬((1:Int)=4/\w=0) by omega)];cases a<;>cases b<;>cases c<;>rfl
 ·generalize Et R=a;generalize Fd key=b;generalize decide (n=0)=c;rw[decide_eq_false (show ¬((2:Int)=4/\w=0) by omega)];cases a<;>cases b<;>cases c<;>rfl
 ·generalize Et R=a;generalize key.isEmpty=b;generalize decide (0<=n/\n<=7)=c;rw[decide_eq_false (show ¬((3:Int)=4/\w=0) by omega)];cases a<;>cases b<;>cases c<;>rfl
 ·generalize Et R=a;generalize key.isEmpty=b;generalize decide (n=0)=c;rw[show decide ((4:Int)=4/\w=0)=!iNe w 0 by rw[Klc];simp [iNe]];generalize iNe w 0=d;cases a<;>cases b<;>cases c<;>cases d<;>rfl
 ·rw[decide_eq_false (show ¬k=1 by omega),decide_eq_false (show ¬k=2 by omega),decide_eq_false (show ¬k=3 by omega),decide_eq_false (show ¬k=4 by omega),if_neg (by omega),if_neg (by omega),if_neg (by omega),if_neg (by omega)];rfl
theorem Yrw (k w sq cd:Int) (b:Bool):cnd (decide (w=0)) (some ((b&&!(decide (k=4/\w=0)))&&(decide (sq=0)&&decide (cd=0)))) (some ((b&&!(decide (k=4/\w=0)))&&(decide (1<=w/\w<=9)&&(decide (0<=sq/\sq<=65535)&&decide (0<=cd/\cd<=6)))))=some (b&&R7 k w sq cd):=by
 unfold R7;by_cases h:w=0
 ·rw[decide_eq_true h,Ag,if_pos h];congr 1;rw[Kle];congr 1;rw[Klc];simp only[Ke,decide_eq_true_eq,Kxb,decide_eq_false_iff_not];omega
 ·rw[decide_eq_false h,Ac,if_neg h];congr 1;rw[Kle];congr 1;rw[Klc];simp only[Ke,decide_eq_true_eq,Kxb,decide_eq_false_iff_not];omega
theorem Zs0 {r:Rec}(h1:r.2.1.1.length<9223372036854775807) (h2:r.2.2.1.length<9223372036854775807):Sc r=some (Gb r):=by
 obtain⟨k,⟨key,⟨ot,ob⟩,⟨nt,nb⟩,has,aside⟩,name,n,w,sq,cd⟩:=r;simp only at h1 h2;have e1:=Yln (key,((ot,ob),((nt,nb),(has,aside))));have e2:L5 (key,((ot,ob),((nt,nb),(has,aside))))=_:=Zjl (by simp only;omega);have e3:=Zsz h2;have e4:∀x l h:Int,Cw (x,(l,h))=some (decide (l<=x/\x<=h)):=Ix;simp only at e1;unfold Sc Gb L7;simp only[e1,e2,e3,e4,Ab,Oi,Yaw,Zew,O5,Yai,A3,Yrw]
def smC (B:Nat) (r:Rec):Prop:=smR B r.2.1/\r.2.2.1.length<=B
theorem smC.mono {A B:Nat}{r:Rec}(h:smC A r) (hab:A<=B):smC B r:=⟨h.1.mono hab,Kka h.2 hab⟩
theorem Yqi {r:Rec}{k:Int}(h0:0<=k) (hk:k<=1048576) (hl:smC 9223372036854775807 r):SzR (Zak (r,k)) k (smC 1048576 r):=by
 unfold Zak;refine SzR.seq h0 (Zxn (r:=r.2.1) h0 hk hl.1) fun z hz hz2=>?_;have e:A6 .i64 z (Ae r.2.2.1)=z-r.2.2.1.length:=Er (by have:=hl.2;simp only[Aj];omega) (by simp only[Aj];omega);refine (SzR.sub (P:=True) hz (by omega) hl.2 fun h=>by simp only[e];exact SzR.done).mono (Klb _) fun h=>by have:=h.1;omega
theorem Yqt {r:Rec}(h:smC 140737488355328 r):Qb r=some r:=by
 unfold Qb;rw[show Qc (r.2.1.1,((r.2.1.2.1.1,r.2.1.2.1.2),((r.2.1.2.2.1.1,r.2.1.2.2.1.2),(r.2.1.2.2.2.1,r.2.1.2.2.2.2))))=some r.2.1 from Zx1 h.1];rfl
theorem Ye7 {r:Rec}(h:smC 9223372036854775806 r):Z1 (r,r)=some true:=by
 have e:P7 ((r.2.1.1,((r.2.1.2.1.1,r.2.1.2.1.2),((r.2.1.2.2.1.1,r.2.1.2.2.1.2),(r.2.1.2.2.2.1,r.2.1.2.2.2.2)))),(r.2.1.1,((r.2.1.2.1.1,r.2.1.2.1.2),((r.2.1.2.2.1.1,r.2.1.2.2.1.2),(r.2.1.2.2.2.1,r.2.1.2.2.2.2)))))=some true:=Zrk h.1;unfold Z1;simp only[Fo,Ac,Zl8,A5,e,Ab]
end
end Go.Vs
