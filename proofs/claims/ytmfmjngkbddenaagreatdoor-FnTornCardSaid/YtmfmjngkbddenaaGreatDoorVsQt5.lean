import Derived.Test.YtmfmjngkbddenaaGreatDoorVsQt4
set_option linter.all false
namespace Go.Vs
noncomputable section
abbrev Row:=List UInt8×Bb×Bb×Int×Bool
def smR (B:Nat) (r:Row):Prop:=r.1.length<=B/\r.2.1.2.length<=B/\r.2.2.1.2.length<=B
theorem smR.mono {A B:Nat}{r:Row}(h:smR A r) (hab:A<=B):smR B r:=⟨Kla h.1 hab,Kla h.2.1 hab,Kla h.2.2 hab⟩
def Ex (c:Bb):Bool:=decide (c.1=0)&&c.2.isEmpty
def Wn (c:UInt8):Bool:=decide (97<=c.toNat/\c.toNat<=122)||decide (48<=c.toNat/\c.toNat<=57)
def Ek (s:List UInt8):Bool:=s.all Wn&&decide (1<=s.length/\s.length<=6)
def Fp (o:Bb) (has:Int) (aside:Bool):Bool:=if has=2 then Ex o else decide (1<=o.1/\o.1<=5)&&decide (o.2.length<=20)&&((Bz o).isSome||(aside&&decide (has=1)))
def Gi (n:Bb) (has:Int):Bool:=if has=1 then Ex n else decide (n.1=0)&&(Bz n).isSome
def Bo (r:Row):Bool:=Ek r.1&&decide (1<=r.2.2.2.1/\r.2.2.2.1<=3)&&Fp r.2.1 r.2.2.2.1 r.2.2.2.2&&Gi r.2.2.1 r.2.2.2.1&&(decide (r.2.2.2.1≠3)||Ju r.2.1 r.2.2.1)
theorem Q9 {c:Bb}(h:Ex c=true):c=(0,[]):=by
 obtain⟨a,b⟩:=c;simp only[Ex,Kd,decide_eq_true_eq,Kkd]at h;rw[h.1,h.2]
def Bh (n:Int):List UInt8:=[yN (n.toNat / 256),yN (n.toNat%256)]
def Gl (s:List UInt8):List UInt8:=if s.length<=60 then Bh s.length++s else []
def Eg (c:Bb):List UInt8:=yN c.1.toNat::Gl c.2
def Qo (b:Bool):Nat:=if b then 1 else 0
def I8 (r:Row):List UInt8:=Gl r.1++(yN r.2.2.2.1.toNat::yN (Qo r.2.2.2.2)::((if r.2.2.2.1=2 then [] else Eg r.2.1)++(if r.2.2.2.1=1 then [] else Eg r.2.2.1)))
def Ci:List UInt8->Option (Int×List UInt8)
 | []=>none
 | x::l=>some ((x.toNat:Int),l)
def Cu:List UInt8->Option (Int×List UInt8)
 | x::y::l=>some (((x.toNat*256+y.toNat:Nat):Int),l)
 | _=>none
def Ez (l:List UInt8):Option (List UInt8×List UInt8):=match Cu l with
 | none=>none
 | some (n,r)=>if n<=60/\n<=r.length then some (r.take n.toNat,r.drop n.toNat) else none
def F3 (l:List UInt8):Option (Bb×List UInt8):=match Ci l with
 | none=>none
 | some (t,r)=>match Ez r with
  | none=>none
  | some (s,r)=>some ((t,s),r)
def Zay (has:Int) (l:List UInt8):Option (Bb×List UInt8):=if has.toNat%2=1 then F3 l else some ((0,[]),l)
def Zax (has:Int) (l:List UInt8):Option (Bb×List UInt8):=if has.toNat / 2%2=1 then F3 l else some ((0,[]),l)
def Zaz (l:List UInt8):Option (Row×List UInt8):=match Ez l with
 | none=>none
 | some (key,l)=>match Ci l with
  | none=>none
  | some (has,l)=>match Ci l with
   | none=>none
   | some (aside,l)=>if 1<aside then none else match Zay has l with
    | none=>none
    | some (old,l)=>match Zax has l with
     | none=>none
     | some (new,l)=>some ((key,old,new,has,decide (aside=1)),l)
def Md (l:List UInt8):Option (Row×List UInt8):=match Zaz l with
 | none=>none
 | some (r,l)=>if Bo r then some (r,l) else none
theorem Tr {n:Int}(h0:0<=n) (h1:n<65536) (r:List UInt8):Cu (Bh n++r)=some (n,r):=by
 have e0:=D3 (n:=n.toNat / 256) (by omega);have e1:=D3 (n:=n.toNat%256) (by omega);simp only[Bh,Kn,Km,Cu,e0,e1];congr 2;omega
theorem Rq {l r:List UInt8}{n:Int}(h:Cu l=some (n,r)):l=Bh n++r/\0<=n/\n<65536:=by
 match l,h with
 | [],h=>simp [Cu]at h
 | [_],h=>simp [Cu]at h
 | x::y::l,h =>
  simp only[Cu,Ka,Kb]at h;obtain⟨rfl,rfl⟩:=h;have h0:=B1 x;have h1:=B1 y;refine⟨?_,by omega,by omega⟩;rw[Bh,Em (b:=x) (by omega),Em (b:=y) (by omega)];rfl
theorem Zo1 {s:List UInt8}(h:s.length<=60) (r:List UInt8):Ez (Gl s++r)=some (s,r):=by
 unfold Gl Ez;rw[if_pos h,Kva,Tr (by omega) (by omega)];simp only;rw[if_pos (by simp only[Kt];omega)];simp
theorem Xk {l s r:List UInt8}(h:Ez l=some (s,r)):l=Gl s++r/\s.length<=60:=by
 unfold Ez at h;split at h
 ·cases h
 rename_i n q hq;obtain⟨rfl,h0,h1⟩:=Rq hq;split at h
 ·rename_i hn;simp only[Ka,Kb]at h;obtain⟨rfl,rfl⟩:=h;have hl:(q.take n.toNat).length=n.toNat:=by rw[Kua];omega
  refine⟨?_,by omega⟩;unfold Gl;rw[if_pos (by omega),hl,Kva,Knc,Krd h0]
 cases h
theorem Zy6 {c:Bb}(h0:0<=c.1) (h1:c.1<256) (h:c.2.length<=60) (r:List UInt8):F3 (Eg c++r)=some (c,r):=by
 simp only[Eg,Kn,F3,Ci,Zo1 h,D3 (n:=c.1.toNat) (by omega)];rw[Krd h0]
theorem Zs8 {l r:List UInt8}{c:Bb}(h:F3 l=some (c,r)):l=Eg c++r/\0<=c.1/\c.1<256/\c.2.length<=60:=by
 unfold F3 at h
 match l,h with
 | [],h=>simp [Ci]at h
 | x::l,h =>
  simp only[Ci]at h;split at h
  ·cases h
  rename_i s q hq;obtain⟨rfl,hs⟩:=Xk hq;simp only[Ka,Kb]at h;obtain⟨rfl,rfl⟩:=h;have:=B1 x;refine⟨?_,by simp only;omega,by simp only;omega,hs⟩;simp only[Eg,Kn,Knb,Em rfl]
theorem I9 {r:Row}(h:Bo r=true):Ek r.1=true/\1<=r.2.2.2.1/\r.2.2.2.1<=3/\Fp r.2.1 r.2.2.2.1 r.2.2.2.2=true/\Gi r.2.2.1 r.2.2.2.1=true/\(r.2.2.2.1=3->Ju r.2.1 r.2.2.1=true):=by
 simp only[Bo,Kd,Kmb,decide_eq_true_eq]at h;obtain⟨⟨⟨⟨a,b⟩,c⟩,d⟩,e⟩:=h;exact⟨a,b.1,b.2,c,d,fun h3=>e.elim (fun k=>(k h3).elim) id⟩
theorem O3 {s:List UInt8}(h:Ek s=true):1<=s.length/\s.length<=6:=by
 simp only[Ek,Kd,decide_eq_true_eq]at h;exact h.2
theorem Tw {o:Bb}{has:Int}{aside:Bool}(h:Fp o has aside=true) (h2:has≠2):1<=o.1/\o.1<=5/\o.2.length<=20/\((Bz o).isSome=true\/(aside=true/\has=1)):=by
 simp only[Fp,if_neg h2,Kd,Kmb,decide_eq_true_eq]at h;exact⟨h.1.1.1,h.1.1.2,h.1.2,h.2⟩
theorem Za5 {n:Bb}{has:Int}(h:Gi n has=true) (h2:has≠1):n.1=0/\(Bz n).isSome=true/\n.2.length<=20:=by
 simp only[Gi,if_neg h2,Kd,decide_eq_true_eq]at h;refine⟨h.1,h.2, ?_⟩;obtain⟨t,ht⟩:=Kcg.1 h.2;have:=(Zta ht).1;simp only[Fw,Kd,decide_eq_true_eq]at this;exact this.2
theorem Ysh {r:Row}(h:Bo r=true) (l:List UInt8):Md (I8 r++l)=some (r,l):=by
 obtain⟨a,b1,b2,c,d,e⟩:=I9 h;have hk:=O3 a;obtain⟨key,old,new,has,aside⟩:=r;simp only at a b1 b2 c d e hk;have key1:Zaz (I8 (key,old,new,has,aside)++l)=some ((key,old,new,has,aside),l):=by
  unfold I8 Zaz;simp only[Kva,Kn];rw[Zo1 (by omega)];simp only[Ci,D3 (n:=has.toNat) (by omega),D3 (n:=Qo aside) (by unfold Qo;split<;>omega),Krd (show 0<=has by omega)]
  rw[if_neg (by unfold Qo;split<;>omega)]
  have ea:decide (((Qo aside:Nat):Int)=1)=aside:=by cases aside<;>rfl
  have eo:Zay has ((if has=2 then [] else Eg old)++((if has=1 then [] else Eg new)++l))=some (old,(if has=1 then [] else Eg new)++l):=by
   unfold Zay;by_cases h2:has=2
   ·subst h2;have hn:Ex old=true:=by simpa [Fp] using c
    rw[if_neg (by decide),if_pos rfl,Q9 hn];rfl
   obtain⟨o1,o2,o3,_⟩:=Tw c h2;rw[if_pos (by omega),if_neg h2,Zy6 (by omega) (by omega) (by omega)]
  have en:Zax has ((if has=1 then [] else Eg new)++l)=some (new,l):=by
   unfold Zax;by_cases h2:has=1
   ·subst h2;have hn:Ex new=true:=by simpa [Gi] using d
    rw[if_neg (by decide),if_pos rfl,Q9 hn];rfl
   obtain⟨n1,n2,n3⟩:=Za5 d h2;rw[if_pos (by omega),if_neg h2,Zy6 (by omega) (by omega) (by omega)]
  rw[eo];simp only[en,ea]
 unfold Md;rw[key1];simp only[h,if_true]
theorem Zz9 {l q:List UInt8}{r:Row}(h:Md l=some (r,q)):l=I8 r++q/\Bo r=true:=by
 unfold Md at h;split at h
 ·cases h
 rename_i r' q' h0;split at h
 case isFalse=>cases h
 rename_i hok;simp only[Ka,Kb]at h;obtain⟨rfl,rfl⟩:=h;refine⟨?_,hok⟩;unfold Zaz at h0;split at h0
 ·cases h0
 rename_i key l1 h1;obtain⟨rfl,_⟩:=Xk h1
 match l1,h0 with
 | [],h0=>simp [Ci]at h0
 | [_],h0=>simp [Ci]at h0
 | x::y::l1,h0 =>
 have hx:=B1 x;have hy:=B1 y;simp only[Ci]at h0;split at h0
 ·cases h0
 rename_i hy1;split at h0
 ·cases h0
 rename_i old l2 h2;split at h0
 ·cases h0
 rename_i new l3 h3;simp only[Ka,Kb]at h0;obtain⟨rfl,rfl⟩:=h0;obtain⟨_,b1,b2,_⟩:=I9 hok;simp only at b1 b2;unfold I8;simp only[Kva,Kn,Knb];rw[Em (b:=x) rfl,Em (b:=y) (by unfold Qo;split<;>(rename_i hd;simp only[decide_eq_true_eq]at hd;omega))]
 congr 3;have eo:l1=(if (x.toNat:Int)=2 then [] else Eg old)++l2:=by
  unfold Zay at h2;by_cases h4:(x.toNat:Int)=2
  ·rw[if_pos h4];rw[if_neg (by omega)]at h2;simp only[Ka,Kb]at h2;exact h2.2
  rw[if_neg h4];rw[if_pos (by omega)]at h2;exact (Zs8 h2).1
 have en:l2=(if (x.toNat:Int)=1 then [] else Eg new)++l3:=by
  unfold Zax at h3;by_cases h4:(x.toNat:Int)=1
  ·rw[if_pos h4];rw[if_neg (by omega)]at h3;simp only[Ka,Kb]at h3;exact h3.2
  rw[if_neg h4];rw[if_pos (by omega)]at h3;exact (Zs8 h3).1
 rw[<-en,<-eo]
theorem Zhy {s : List UInt8} (hl : s.length < 9223372036854775807) : R4 s = some (Ek s) := by
  unfold R4;have stp : ∀ i (h : i < s.length), Y4 s (i : Int) = if Wn s[i] then some (.inl ((i + 1 : Nat) : Int)) else some (.inr (.inr false)) := by
    intro i h;unfold Y4;rw [A3 (by rw [Ak]; omega), Ad, Bp h];simp only [Aa, N9, E4, C4 (show i < 9223372036854775807 by omega)];unfold Wn;by_cases h1 : 97 ≤ s[i].toNat ∧ s[i].toNat ≤ 122
    · rw [decide_eq_true (show (97 : Int) ≤ (s[i].toNat : Int) ∧ (s[i].toNat : Int) ≤ 122 by omega), decide_eq_true h1]; rfl
    rw [decide_eq_false (show ¬ ((97 : Int) ≤ (s[i].toNat : Int) ∧ (s[i].toNat : Int) ≤ 122) by omega), decide_eq_false h1];by_cases h2 : 48 ≤ s[i].toNat ∧ s[i].toNat ≤ 57
    · rw [decide_eq_true (show (48 : Int) ≤ (s[i].toNat : Int) ∧ (s[i].toNat : Int) ≤ 57 by omega), decide_eq_true h2]; rfl
    rw [decide_eq_false (show ¬ ((48 : Int) ≤ (s[i].toNat : Int) ∧ (s[i].toNat : Int) ≤ 57) by omega), decide_eq_false h2]; rfl
  obtain ⟨r, h1, h2⟩ := M7 (step := Y4 s) (fun i z => z = (i : Int) ∧ i ≤ s.length ∧ s.all Wn = (s.drop i).all Wn) s.length
    (fun r => Ao (some r) (fun (z1 : Unit) => (bnd (B8 ((Ah s), (1, 6))) (fun z2 => (some z2)))) = some (Ek s)) (by
      rintro i z hi ⟨rfl, _, hp⟩;rw [stp i hi];rw [Kwb hi, List.all_cons] at hp;cases hb : Wn s[i] with
      | true =>
        left;rw [hb, Kec] at hp;exact ⟨_, by rw [if_pos rfl], rfl, hi, hp⟩
      | false =>
        right;rw [hb, Knd] at hp;exact ⟨_, by rw [if_neg (by decide)], by rw [L4, Ek, hp]; rfl⟩)
    (by
      rintro z ⟨rfl, _, hp⟩;refine ⟨.inl (), ?_, ?_⟩
      · unfold Y4
        rw [A6 (by rw [Ak]; exact Koc _), Ac]
      · rw [Ar, E4, Aa, Ek, hp, Kvg]
        simp only [List.all_nil, Kec, Ak];exact congrArg some (decide_eq_decide.2 (by omega))) 0 ⟨rfl, Kda _, by rw [Kja]⟩
  rw [h1, h2]
theorem Zww {s:List UInt8}(hl:s.length<9223372036854775807):X8 s=some (Ek s):=Zhy hl
def T3 (r:Row):Option (List UInt8):=if Aq .i64 r.2.2.2.1 2=2 then Bz r.2.2.1 else Bz r.2.1
theorem Zbj {r:Row}(h:smR 1048576 r):J5 r=some r:=by
 have e:∀c:Bb,c.2.length<=1048576->N0 c=some c:=fun c h=>by
  unfold N0;rw[Bj (by omega)];rfl
 unfold J5;rw[e (r.2.1.1,r.2.1.2) h.2.1,Aa,e (r.2.2.1.1,r.2.2.1.2) h.2.2];rfl
theorem Zmy {r:Row}(h:smR 1048576 r):P1 r=some r:=by
 have e:∀c:Bb,c.2.length<=1048576->Yd c=some c:=fun c h=>by
  unfold Yd;rw[L5 (by omega)];rfl
 unfold P1;rw[e (r.2.1.1,r.2.1.2) h.2.1,Aa,e (r.2.2.1.1,r.2.2.1.2) h.2.2];rfl
theorem K4 (a b:Int):iEq a b=decide (a=b):=by simp only[iEq];rfl
def Ni (ph:Int) (key:List UInt8) (cs:Int) (t:List UInt8):Row×Int :=
 if (0<=ph/\ph<=7)/\Ek key=true/\(1<=cs/\cs<=5) then
  match Dm 0 t with
  | none=>(([],((0,[]),((0,[]),(0,false)))),1)
  | some n =>
   if ph=0\/ph=7 then (match Dm cs t with
    | none=>(([],((0,[]),((0,[]),(0,false)))),3)
    | some o=>((key,(o,((0,[]),(1,false)))),0))
   else if ph=4\/ph=5 then ((key,((0,[]),(n,(2,false)))),0)
   else if ph=6 then (match Dm cs t with
    | none=>((key,((0,[]),(n,(2,true)))),0)
    | some o=>((key,(o,((0,[]),(1,false)))),0))
   else (match Dm cs t with
    | none=>((key,((0,[]),(n,(2,true)))),0)
    | some o=>((key,(o,(n,(3,false)))),0))
 else (([],((0,[]),((0,[]),(0,false)))),1)
theorem Zp0 {ph cs:Int}{key t:List UInt8}(hk:key.length<9223372036854775807) (ht:t.length<=1048576):U1 (ph,(key,(cs,t)))=some (Ni ph key cs t):=by
 unfold U1 Ni;simp only[Zpx ht,Aa,E4,Zhy hk,K4];by_cases h1:0<=ph/\ph<=7
 case neg=>rw[decide_eq_false h1,if_neg (fun h=>h1 h.1)];rfl
 rw[decide_eq_true h1,Av,Ac];cases h2:Ek key with
 | false=>rw[if_neg (fun h=>by cases h.2.1)];rfl
 | true =>
 rw[Av,Ac];by_cases h3:1<=cs/\cs<=5
 case neg=>rw[decide_eq_false h3,if_neg (fun h=>h3 h.2.2)];rfl
 rw[decide_eq_true h3,Av,Ac,if_pos ⟨h1,rfl,h3⟩];cases h4:Dm 0 t with
 | none=>rfl
 | some n =>
 simp only[cR,Av,Ac];by_cases p0:ph=0
 ·subst p0;cases Dm cs t<;>rfl
 by_cases p7:ph=7
 ·subst p7;cases Dm cs t<;>rfl
 by_cases p4:ph=4
 ·subst p4;cases Dm cs t<;>rfl
 by_cases p5:ph=5
 ·subst p5;cases Dm cs t<;>rfl
 by_cases p6:ph=6
 ·subst p6;cases Dm cs t<;>rfl
 rw[decide_eq_false p0,decide_eq_false p7,decide_eq_false p4,decide_eq_false p5,decide_eq_false p6,if_neg (by omega),if_neg (by omega),if_neg p6];cases Dm cs t<;>rfl
theorem Zh2 (c:Bb):P3 c=some (Ex c):=by
 obtain⟨t,b⟩:=c;unfold P3 Ex;simp only[iEq,Ak];by_cases h:t=0
 ·subst h;rw[show ((0:Int)==0)=true from rfl,Ad,decide_eq_true rfl,Kec];cases b with
  | nil=>rfl
  | cons x l =>
   have:(((x::l).length:Int)==0)=false:=by simp;omega
   rw[this];rfl
 have:(t==0)=false:=by simpa using h
 rw[this,Ac,decide_eq_false h];rfl
theorem Zgb (c:Bb):Lo ((c.1,c.2),(0,[]))=some (Ex c):=by
 obtain⟨t,b⟩:=c;unfold Lo Ex;simp only[iEq,sEq];by_cases h:t=0
 ·subst h;rw[show ((0:Int)==0)=true from rfl,Ad,decide_eq_true rfl,Kec];cases b<;>rfl
 have:(t==0)=false:=by simpa using h
 rw[this,Ac,decide_eq_false h];rfl
theorem Zg6 (o:Option (List UInt8)):(Fh o).2=o.isSome:=by cases o<;>rfl
theorem Zkv {o:Bb}(h:1<=o.1/\o.1<=5):Fw o=decide (o.2.length<=20):=by
 unfold Fw;rw[decide_eq_true (show 0<=o.1/\o.1<=5 by omega),Kec]
theorem Zbl {r:Row}(hl:r.1.length<9223372036854775807):Jj r=some (Bo r):=by
 obtain⟨key,⟨ot,ob⟩,⟨nt,nb⟩,has,aside⟩:=r;have n1:R4 key=some (Ek key):=Zhy hl;have n2:=Zhx (ot,ob);have n3:=Zhx (nt,nb);have n4:=Zh2 (ot,ob);have n5:=Zh2 (nt,nb);have n6:=Yt9 (ot,ob) (nt,nb);have n7:=Zpy (ot,ob);have nI:B8 (has,(1,3))=some (decide (1<=has/\has<=3)):=E4 _ _ _;have nT:B8 (ot,(1,5))=some (decide (1<=ot/\ot<=5)):=E4 _ _ _;unfold Jj Bo
 dsimp only
 rw[n1,Aa];cases hn:Ek key with
 | false=>rfl
 | true =>
 rw[Av,Ac,nI,Aa];by_cases hh:1<=has/\has<=3
 case neg=>rw[decide_eq_false hh];rfl
 rw[decide_eq_true hh,Av,Ac];rcases (show has=1\/has=2\/has=3 by omega) with rfl|rfl|rfl
 ·have o1:Dl (key,(ot,ob),(nt,nb),1,aside)=some true:=congrArg some (show iEq (Aq .i64 1 1) 1=true by decide +kernel);have o2:Cr (key,(ot,ob),(nt,nb),1,aside)=some false:=congrArg some (show iEq (Aq .i64 1 2) 2=false by decide +kernel);simp only[o1,o2,n2,n3,n4,n5,n6,n7,nT,Aa,Av,A5,Ad,Ac,Zg6];rw[show iNe 1 3=true from rfl,Ad];unfold Fp Gi;rw[if_neg (by decide),if_pos rfl];by_cases hT:1<=ot/\ot<=5
  ·rw[Zkv (o:=(ot,ob)) hT];generalize Ex (nt,nb)=b1;generalize decide (ob.length<=20)=b2;generalize (Bz (ot,ob)).isSome=b3;simp only[decide_eq_true hT];cases b1<;>cases b2<;>cases b3<;>cases aside<;>rfl
  simp only[decide_eq_false hT];generalize Ex (nt,nb)=b1;cases b1<;>rfl
 ·have o1:Dl (key,(ot,ob),(nt,nb),2,aside)=some false:=congrArg some (show iEq (Aq .i64 2 1) 1=false by decide +kernel);have o2:Cr (key,(ot,ob),(nt,nb),2,aside)=some true:=congrArg some (show iEq (Aq .i64 2 2) 2=true by decide +kernel);simp only[o1,o2,n2,n3,n4,n5,n6,n7,nT,Aa,Av,A5,Ad,Ac,Zg6];rw[show iNe 2 3=true from rfl,Ad];unfold Fp Gi;rw[if_pos rfl,if_neg (by decide)];have e0:iNe nt 0=!decide (nt=0):=by
   by_cases h:nt=0
   ·subst h;rfl
   rw[Iz h,decide_eq_false h];rfl
  rw[e0];generalize Ex (ot,ob)=b1;generalize decide (nt=0)=b2;generalize (Bz (nt,nb)).isSome=b3;cases b1<;>cases b2<;>cases b3<;>rfl
 have o1:Dl (key,(ot,ob),(nt,nb),3,aside)=some true:=congrArg some (show iEq (Aq .i64 3 1) 1=true by decide +kernel);have o2:Cr (key,(ot,ob),(nt,nb),3,aside)=some true:=congrArg some (show iEq (Aq .i64 3 2) 2=true by decide +kernel);simp only[o1,o2,n2,n3,n4,n5,n6,n7,nT,Aa,Av,A5,Ad,Ac,Zg6];rw[show iNe 3 3=false from rfl];simp only[Ac];unfold Fp Gi;rw[if_neg (by decide),if_neg (by decide)];have e0:iNe nt 0=!decide (nt=0):=by
  by_cases h:nt=0
  ·subst h;rfl
  rw[Iz h,decide_eq_false h];rfl
 rw[e0];by_cases hT:1<=ot/\ot<=5
 ·rw[Zkv (o:=(ot,ob)) hT];simp only[decide_eq_true hT];generalize decide (nt=0)=b1;generalize decide (ob.length<=20)=b2;generalize (Bz (ot,ob)).isSome=b3;generalize (Bz (nt,nb)).isSome=b4;generalize Ju (ot,ob) (nt,nb)=b5;cases b1<;>cases b2<;>cases b3<;>cases b4<;>cases b5<;>cases aside<;>rfl
 simp only[decide_eq_false hT];generalize decide (nt=0)=b1;generalize (Bz (nt,nb)).isSome=b4;cases b1<;>cases b4<;>rfl
theorem Zf8 {r:Row}(hl:r.1.length<9223372036854775807):Ln r=some (Bo r):=by
 obtain⟨key,⟨ot,ob⟩,⟨nt,nb⟩,has,aside⟩:=r;have n1:X8 key=some (Ek key):=Zww hl;have n2:=Zm0 (ot,ob);have n3:=Zm0 (nt,nb);have n4:Lo ((ot,ob),(0,[]))=some (Ex (ot,ob)):=Zgb (ot,ob);have n5:Lo ((nt,nb),(0,[]))=some (Ex (nt,nb)):=Zgb (nt,nb);have n6:=Ypo (ot,ob) (nt,nb);have n7:=Zws (ot,ob);have nI:Cq (has,(1,3))=some (decide (1<=has/\has<=3)):=G1 _ _ _;unfold Ln Bo
 dsimp only
 rw[n1,Aa];cases hn:Ek key with
 | false=>rfl
 | true =>
 rw[Av,Ac,nI,Aa];by_cases hh:1<=has/\has<=3
 case neg=>rw[decide_eq_false hh];rfl
 rw[decide_eq_true hh,Av,Ac];simp only[n2,n3,n4,n5,n6,n7,Aa,Zg6];have e0:iEq nt 0=decide (nt=0):=by
  by_cases h:nt=0
  ·subst h;rfl
  rw[Dp h,decide_eq_false h]
 have eC:cnd (Fw (ot,ob)) (cnd (iNe ot 0) (cnd (Bz (ot,ob)).isSome (some (Sum.inl (β:=Bool) true)) (cnd aside (some (.inl (iEq has 1))) (some (.inl false)))) (some (.inl false))) (some (.inl false))=some (.inl (decide (1<=ot/\ot<=5)&&decide (ob.length<=20)&&((Bz (ot,ob)).isSome||(aside&&iEq has 1)))):=by
  by_cases hT:1<=ot/\ot<=5
  ·rw[Zkv (o:=(ot,ob)) hT,decide_eq_true hT,Iz (by omega)];generalize decide (ob.length<=20)=b2;generalize (Bz (ot,ob)).isSome=b3;generalize iEq has 1=b4;cases b2<;>cases b3<;>cases b4<;>cases aside<;>rfl
  rw[decide_eq_false hT];by_cases h0:ot=0
  ·subst h0;rw[show iNe 0 0=false from rfl];cases Fw (0,ob)<;>rfl
  have:Fw (ot,ob)=false:=by
   unfold Fw;rw[decide_eq_false (by simp only;omega)];rfl
  rw[this];rfl
 rw[eC,e0];rcases (show has=1\/has=2\/has=3 by omega) with rfl|rfl|rfl
 ·unfold Fp Gi;rw[if_neg (by decide),if_pos rfl,show iNe 1 2=true from rfl,show iNe 1 1=false from rfl,show iNe 1 3=true from rfl,show iEq 1 1=true from rfl];generalize (decide (1<=ot/\ot<=5))=b0;generalize Ex (nt,nb)=b1;generalize decide (ob.length<=20)=b2;generalize (Bz (ot,ob)).isSome=b3;cases b0<;>cases b1<;>cases b2<;>cases b3<;>cases aside<;>rfl
 ·unfold Fp Gi;rw[if_pos rfl,if_neg (by decide),show iNe 2 2=false from rfl,show iNe 2 1=true from rfl,show iNe 2 3=true from rfl];generalize Ex (ot,ob)=b1;generalize decide (nt=0)=b2;generalize (Bz (nt,nb)).isSome=b3;cases b1<;>cases b2<;>cases b3<;>rfl
 unfold Fp Gi;rw[if_neg (by decide),if_neg (by decide),show iNe 3 2=true from rfl,show iNe 3 1=true from rfl,show iNe 3 3=false from rfl,show iEq 3 1=false from rfl];generalize (decide (1<=ot/\ot<=5))=b0;generalize decide (nt=0)=b1;generalize decide (ob.length<=20)=b2;generalize (Bz (ot,ob)).isSome=b3;generalize (Bz (nt,nb)).isSome=b4;generalize Ju (ot,ob) (nt,nb)=b5;cases b0<;>cases b1<;>cases b2<;>cases b3<;>cases b4<;>cases b5<;>cases aside<;>rfl
theorem Zp1 (r:Row) (h:Bo r=true):Cr r=some (decide (r.2.2.2.1≠1)):=by
 obtain⟨_,h1,h3,_⟩:=I9 h;unfold Cr;rcases (show r.2.2.2.1=1\/r.2.2.2.1=2\/r.2.2.2.1=3 by omega) with e|e|e<;>rw[e]
 ·exact congrArg some (show iEq (Aq .i64 1 2) 2=false by decide +kernel)
 ·exact congrArg some (show iEq (Aq .i64 2 2) 2=true by decide +kernel)
 exact congrArg some (show iEq (Aq .i64 3 2) 2=true by decide +kernel)
theorem Ya6 (r:Row) (h:Bo r=true):Dl r=some (decide (r.2.2.2.1≠2)):=by
 obtain⟨_,h1,h3,_⟩:=I9 h;unfold Dl;rcases (show r.2.2.2.1=1\/r.2.2.2.1=2\/r.2.2.2.1=3 by omega) with e|e|e<;>rw[e]
 ·exact congrArg some (show iEq (Aq .i64 1 1) 1=true by decide +kernel)
 ·exact congrArg some (show iEq (Aq .i64 2 1) 1=false by decide +kernel)
 exact congrArg some (show iEq (Aq .i64 3 1) 1=true by decide +kernel)
def Zft (r:Row):Row:=if Bo r=true/\r.2.2.2.1=1 then (match Rp r.2.1 0 with
 | (_,false)=>(r.1,r.2.1,r.2.2.1,r.2.2.2.1,true)
 | (d,true)=>(r.1,r.2.1,d,3,r.2.2.2.2)) else r
theorem Ytz {r:Row}(h:smR 1048576 r):Yi r=some (Zft r):=by
 have hk:=h.1;have e0:J5 (r.1,((r.2.1.1,r.2.1.2),((r.2.2.1.1,r.2.2.1.2),(r.2.2.2.1,r.2.2.2.2))))=some r:=Zbj h;have e1:Jj (r.1,((r.2.1.1,r.2.1.2),((r.2.2.1.1,r.2.2.1.2),(r.2.2.2.1,r.2.2.2.2))))=some (Bo r):=Zbl (r:=r) (by omega);have e2:Yp ((r.2.1.1,r.2.1.2),0)=some (Rp r.2.1 0):=Yue (c:=r.2.1) h.2.1;unfold Yi Zft;simp only[e0,e1,e2,Aa];cases hr:Bo r with
 | false=>rw[if_neg (fun k=>by cases k.1)];rfl
 | true =>
  rw[Av,Ac,show Cr (r.1,((r.2.1.1,r.2.1.2),((r.2.2.1.1,r.2.2.1.2),(r.2.2.2.1,r.2.2.2.2))))=some (decide (r.2.2.2.1≠1)) from Zp1 r hr,Aa];by_cases h1:r.2.2.2.1=1
  ·rw[decide_eq_false (by simpa using h1),Ac,if_pos ⟨rfl,h1⟩];cases hv:Rp r.2.1 0 with
   | mk d ok =>
    cases ok with
    | false=>rfl
    | true=>rfl
  rw[decide_eq_true h1,Ad,if_neg (fun k=>h1 k.2)]
def Xv:Bb:=(0,[])
def Zej (r:Row):Row:=if Bo r=true then (if r.2.2.2.1=3 then (r.1,r.2.1,Xv,1,false) else if r.2.2.2.1=2 then (r.1,r.2.1,r.2.2.1,r.2.2.2.1,true) else r) else r
theorem Ytu {r:Row}(h:smR 1048576 r):Yh r=some (Zej r):=by
 have hk:=h.1;unfold Yh Zej;rw[show J5 (r.1,((r.2.1.1,r.2.1.2),((r.2.2.1.1,r.2.2.1.2),(r.2.2.2.1,r.2.2.2.2))))=some r from Zbj h,Aa,
  show Jj (r.1,((r.2.1.1,r.2.1.2),((r.2.2.1.1,r.2.2.1.2),(r.2.2.2.1,r.2.2.2.2))))=some (Bo r) from Zbl (r:=r) (by omega),Aa]
 cases hr:Bo r with
 | false=>rw[if_neg (by simp)];rfl
 | true =>
  obtain⟨_,g1,g3,_⟩:=I9 hr;rw[Av,Ac,show Cr (r.1,((r.2.1.1,r.2.1.2),((r.2.2.1.1,r.2.2.1.2),(r.2.2.2.1,r.2.2.2.2))))=some (decide (r.2.2.2.1≠1)) from Zp1 r hr,Aa,if_pos rfl];have eo:Dl (r.1,((r.2.1.1,r.2.1.2),((r.2.2.1.1,r.2.2.1.2),(r.2.2.2.1,r.2.2.2.2))))=some (decide (r.2.2.2.1≠2)):=Ya6 r hr;by_cases h1:r.2.2.2.1=1
  ·rw[decide_eq_false (by simpa using h1),if_neg (by omega),if_neg (by omega)];rfl
  rw[decide_eq_true h1,Av,Ac,eo,Aa];by_cases h2:r.2.2.2.1=2
  ·rw[decide_eq_false (by simpa using h2),if_neg (by omega),if_pos h2];rfl
  rw[decide_eq_true h2,if_pos (by omega)];rfl
end
end Go.Vs
