import Derived.Test.YtmfmjngkbddenaaGreatDoorVsW5
import Derived.Test.YtmfmjngkbddenaaGreatDoorVsQt4
set_option linter.all false
namespace Go.Vs
noncomputable section
abbrev Row:=List UInt8×Ba×Ba×Int×Bool
def smR (B:Nat) (r:Row):Prop:=r.1.length<=B/\r.2.1.2.length<=B/\r.2.2.1.2.length<=B
theorem smR.mono {A B:Nat}{r:Row}(h:smR A r) (hab:A<=B):smR B r:=⟨Kka h.1 hab,Kka h.2.1 hab,Kka h.2.2 hab⟩
def Ey (c:Ba):Bool:=decide (c.1=0)&&c.2.isEmpty
def Wd (c:UInt8):Bool:=decide (97<=c.toNat/\c.toNat<=122)||decide (48<=c.toNat/\c.toNat<=57)
def Ej (s:List UInt8):Bool:=s.all Wd&&decide (1<=s.length/\s.length<=6)
def Fp (o:Ba) (has:Int) (aside:Bool):Bool:=if has=2 then Ey o else decide (1<=o.1/\o.1<=5)&&decide (o.2.length<=20)&&((Bx o).isSome||(aside&&decide (has=1)))
def Gh (n:Ba) (has:Int):Bool:=if has=1 then Ey n else decide (n.1=0)&&(Bx n).isSome
def Bn (r:Row):Bool:=Ej r.1&&decide (1<=r.2.2.2.1/\r.2.2.2.1<=3)&&Fp r.2.1 r.2.2.2.1 r.2.2.2.2&&Gh r.2.2.1 r.2.2.2.1&&(decide (r.2.2.2.1≠3)||Jt r.2.1 r.2.2.1)
theorem Q4 {c:Ba}(h:Ey c=true):c=(0,[]):=by
 obtain⟨a,b⟩:=c;simp only[Ey,Kd,decide_eq_true_eq,Kjd]at h;rw[h.1,h.2]
def Bg (n:Int):List UInt8:=[yN (n.toNat / 256),yN (n.toNat%256)]
def Gk (s:List UInt8):List UInt8:=if s.length<=60 then Bg s.length++s else []
def Ee (c:Ba):List UInt8:=yN c.1.toNat::Gk c.2
def Qk (b:Bool):Nat:=if b then 1 else 0
def I6 (r:Row):List UInt8:=Gk r.1++(yN r.2.2.2.1.toNat::yN (Qk r.2.2.2.2)::((if r.2.2.2.1=2 then [] else Ee r.2.1)++(if r.2.2.2.1=1 then [] else Ee r.2.2.1)))
def Cf:List UInt8->Option (Int×List UInt8)
 | []=>none
 | x::l=>some ((x.toNat:Int),l)
def Cp:List UInt8->Option (Int×List UInt8)
 | x::y::l=>some (((x.toNat*256+y.toNat:Nat):Int),l)
 | _=>none
def E1 (l:List UInt8):Option (List UInt8×List UInt8):=match Cp l with
 | none=>none
 | some (n,r)=>if n<=60/\n<=r.length then some (r.take n.toNat,r.drop n.toNat) else none
def F3 (l:List UInt8):Option (Ba×List UInt8):=match Cf l with
 | none=>none
 | some (t,r)=>match E1 r with
  | none=>none
  | some (s,r)=>some ((t,s),r)
def Zao (has:Int) (l:List UInt8):Option (Ba×List UInt8):=if has.toNat%2=1 then F3 l else some ((0,[]),l)
def Zan (has:Int) (l:List UInt8):Option (Ba×List UInt8):=if has.toNat / 2%2=1 then F3 l else some ((0,[]),l)
def Zap (l:List UInt8):Option (Row×List UInt8):=match E1 l with
 | none=>none
 | some (key,l)=>match Cf l with
  | none=>none
  | some (has,l)=>match Cf l with
   | none=>none
   | some (aside,l)=>if 1<aside then none else match Zao has l with
    | none=>none
    | some (old,l)=>match Zan has l with
     | none=>none
     | some (new,l)=>some ((key,old,new,has,decide (aside=1)),l)
def Mb (l:List UInt8):Option (Row×List UInt8):=match Zap l with
 | none=>none
 | some (r,l)=>if Bn r then some (r,l) else none
theorem Td {n:Int}(h0:0<=n) (h1:n<65536) (r:List UInt8):Cp (Bg n++r)=some (n,r):=by
 have e0:=D0 (n:=n.toNat / 256) (by omega);have e1:=D0 (n:=n.toNat%256) (by omega);simp only[Bg,Kn,Kl,Cp,e0,e1];congr 2;omega
theorem Rk {l r:List UInt8}{n:Int}(h:Cp l=some (n,r)):l=Bg n++r/\0<=n/\n<65536:=by
 match l,h with
 | [],h=>simp [Cp]at h
 | [_],h=>simp [Cp]at h
 | x::y::l,h =>
  simp only[Cp,Ka,Kb]at h;obtain⟨rfl,rfl⟩:=h;have h0:=B0 x;have h1:=B0 y;refine⟨?_,by omega,by omega⟩;rw[Bg,El (b:=x) (by omega),El (b:=y) (by omega)];rfl
theorem Zoj {s:List UInt8}(h:s.length<=60) (r:List UInt8):E1 (Gk s++r)=some (s,r):=by
 unfold Gk E1;rw[if_pos h,Kva,Td (by omega) (by omega)];simp only;rw[if_pos (by simp only[Kt];omega)];simp
theorem W9 {l s r:List UInt8}(h:E1 l=some (s,r)):l=Gk s++r/\s.length<=60:=by
 unfold E1 at h;split at h
 ·cases h
 ·rename_i n q hq;obtain⟨rfl,h0,h1⟩:=Rk hq;split at h
  ·rename_i hn;simp only[Ka,Kb]at h;obtain⟨rfl,rfl⟩:=h;have hl:(q.take n.toNat).length=n.toNat:=by rw[Kua];omega
   refine⟨?_,by omega⟩;unfold Gk;rw[if_pos (by omega),hl,Kva,Klc,Kpd h0]
  ·cases h
theorem Zyt {c:Ba}(h0:0<=c.1) (h1:c.1<256) (h:c.2.length<=60) (r:List UInt8):F3 (Ee c++r)=some (c,r):=by
 simp only[Ee,Kn,F3,Cf,Zoj h,D0 (n:=c.1.toNat) (by omega)];rw[Kpd h0]
theorem Zsq {l r:List UInt8}{c:Ba}(h:F3 l=some (c,r)):l=Ee c++r/\0<=c.1/\c.1<256/\c.2.length<=60:=by
 unfold F3 at h
 match l,h with
 | [],h=>simp [Cf]at h
 | x::l,h =>
  simp only[Cf]at h;split at h
  ·cases h
  ·rename_i s q hq;obtain⟨rfl,hs⟩:=W9 hq;simp only[Ka,Kb]at h;obtain⟨rfl,rfl⟩:=h;have:=B0 x;refine⟨?_,by simp only;omega,by simp only;omega,hs⟩;simp only[Ee,Kn,Knb,El rfl]
theorem I7 {r:Row}(h:Bn r=true):Ej r.1=true/\1<=r.2.2.2.1/\r.2.2.2.1<=3/\Fp r.2.1 r.2.2.2.1 r.2.2.2.2=true/\Gh r.2.2.1 r.2.2.2.1=true/\(r.2.2.2.1=3->Jt r.2.1 r.2.2.1=true):=by
 simp only[Bn,Kd,Kmb,decide_eq_true_eq]at h;obtain⟨⟨⟨⟨a,b⟩,c⟩,d⟩,e⟩:=h;exact⟨a,b.1,b.2,c,d,fun h3=>e.elim (fun k=>(k h3).elim) id⟩
theorem O0 {s:List UInt8}(h:Ej s=true):1<=s.length/\s.length<=6:=by
 simp only[Ej,Kd,decide_eq_true_eq]at h;exact h.2
theorem Ti {o:Ba}{has:Int}{aside:Bool}(h:Fp o has aside=true) (h2:has≠2):1<=o.1/\o.1<=5/\o.2.length<=20/\((Bx o).isSome=true\/(aside=true/\has=1)):=by
 simp only[Fp,if_neg h2,Kd,Kmb,decide_eq_true_eq]at h;exact⟨h.1.1.1,h.1.1.2,h.1.2,h.2⟩
theorem Zav {n:Ba}{has:Int}(h:Gh n has=true) (h2:has≠1):n.1=0/\(Bx n).isSome=true/\n.2.length<=20:=by
 simp only[Gh,if_neg h2,Kd,decide_eq_true_eq]at h;refine⟨h.1,h.2, ?_⟩;obtain⟨t,ht⟩:=Kcg.1 h.2;have:=(Zss ht).1;simp only[Fw,Kd,decide_eq_true_eq]at this;exact this.2
theorem Yrx {r:Row}(h:Bn r=true) (l:List UInt8):Mb (I6 r++l)=some (r,l):=by
 obtain⟨a,b1,b2,c,d,e⟩:=I7 h;have hk:=O0 a;obtain⟨key,old,new,has,aside⟩:=r;simp only at a b1 b2 c d e hk;have key1:Zap (I6 (key,old,new,has,aside)++l)=some ((key,old,new,has,aside),l):=by
  unfold I6 Zap;simp only[Kva,Kn];rw[Zoj (by omega)];simp only[Cf,D0 (n:=has.toNat) (by omega),D0 (n:=Qk aside) (by unfold Qk;split<;>omega),Kpd (show 0<=has by omega)]
  rw[if_neg (by unfold Qk;split<;>omega)]
  have ea:decide (((Qk aside:Nat):Int)=1)=aside:=by cases aside<;>rfl
  have eo:Zao has ((if has=2 then [] else Ee old)++((if has=1 then [] else Ee new)++l))=some (old,(if has=1 then [] else Ee new)++l):=by
   unfold Zao;by_cases h2:has=2
   ·subst h2;have hn:Ey old=true:=by simpa [Fp] using c
    rw[if_neg (by decide),if_pos rfl,Q4 hn];rfl
   ·obtain⟨o1,o2,o3,_⟩:=Ti c h2;rw[if_pos (by omega),if_neg h2,Zyt (by omega) (by omega) (by omega)]
  have en:Zan has ((if has=1 then [] else Ee new)++l)=some (new,l):=by
   unfold Zan;by_cases h2:has=1
   ·subst h2;have hn:Ey new=true:=by simpa [Gh] using d
    rw[if_neg (by decide),if_pos rfl,Q4 hn];rfl
   ·obtain⟨n1,n2,n3⟩:=Zav d h2;rw[if_pos (by omega),if_neg h2,Zyt (by omega) (by omega) (by omega)]
  rw[eo];simp only[en,ea]
 unfold Mb;rw[key1];simp only[h,if_true]
theorem Zzv {l q:List UInt8}{r:Row}(h:Mb l=some (r,q)):l=I6 r++q/\Bn r=true:=by
 unfold Mb at h;split at h
 ·cases h
 rename_i r' q' h0;split at h
 case isFalse=>cases h
 rename_i hok;simp only[Ka,Kb]at h;obtain⟨rfl,rfl⟩:=h;refine⟨?_,hok⟩;unfold Zap at h0;split at h0
 ·cases h0
 rename_i key l1 h1;obtain⟨rfl,_⟩:=W9 h1
 match l1,h0 with
 | [],h0=>simp [Cf]at h0
 | [_],h0=>simp [Cf]at h0
 | x::y::l1,h0 =>
 have hx:=B0 x;have hy:=B0 y;simp only[Cf]at h0;split at h0
 ·cases h0
 rename_i hy1;split at h0
 ·cases h0
 rename_i old l2 h2;split at h0
 ·cases h0
 rename_i new l3 h3;simp only[Ka,Kb]at h0;obtain⟨rfl,rfl⟩:=h0;obtain⟨_,b1,b2,_⟩:=I7 hok;simp only at b1 b2;unfold I6;simp only[Kva,Kn,Knb];rw[El (b:=x) rfl,El (b:=y) (by unfold Qk;split<;>(rename_i hd;simp only[decide_eq_true_eq]at hd;omega))]
 congr 3;have eo:l1=(if (x.toNat:Int)=2 then [] else Ee old)++l2:=by
  unfold Zao at h2;by_cases h4:(x.toNat:Int)=2
  ·rw[if_pos h4];rw[if_neg (by omega)]at h2;simp only[Ka,Kb]at h2;exact h2.2
  ·rw[if_neg h4];rw[if_pos (by omega)]at h2;exact (Zsq h2).1
 have en:l2=(if (x.toNat:Int)=1 then [] else Ee new)++l3:=by
  unfold Zan at h3;by_cases h4:(x.toNat:Int)=1
  ·rw[if_pos h4];rw[if_neg (by omega)]at h3;simp only[Ka,Kb]at h3;exact h3.2
  ·rw[if_neg h4];rw[if_pos (by omega)]at h3;exact (Zsq h3).1
 rw[<-en,<-eo]
theorem Zhm {s : List UInt8} (hl : s.length < 9223372036854775807) : Rt s = some (Ej s) := by
  unfold Rt;have stp : ∀ i (h : i < s.length), Ys s (i : Int) = if Wd s[i] then some (.inl ((i + 1 : Nat) : Int)) else some (.inr (.inr false)) := by
    intro i h;unfold Ys;rw [A5 (by rw [Ak]; omega), Ad, Br h];simp only [Aa, N8, E5, Cz (show i < 9223372036854775807 by omega)];unfold Wd;by_cases h1 : 97 ≤ s[i].toNat ∧ s[i].toNat ≤ 122
    · rw [decide_eq_true (show (97 : Int) ≤ (s[i].toNat : Int) ∧ (s[i].toNat : Int) ≤ 122 by omega), decide_eq_true h1]; rfl
    · rw [decide_eq_false (show ¬ ((97 : Int) ≤ (s[i].toNat : Int) ∧ (s[i].toNat : Int) ≤ 122) by omega), decide_eq_false h1]
      by_cases h2 : 48 ≤ s[i].toNat ∧ s[i].toNat ≤ 57
      · rw [decide_eq_true (show (48 : Int) ≤ (s[i].toNat : Int) ∧ (s[i].toNat : Int) ≤ 57 by omega), decide_eq_true h2]; rfl
      · rw [decide_eq_false (show ¬ ((48 : Int) ≤ (s[i].toNat : Int) ∧ (s[i].toNat : Int) ≤ 57) by omega), decide_eq_false h2]; rfl
  obtain ⟨r, h1, h2⟩ := M5 (step := Ys s) (fun i z => z = (i : Int) ∧ i ≤ s.length ∧ s.all Wd = (s.drop i).all Wd) s.length
    (fun r => Ao (some r) (fun (z1 : Unit) => (bnd (B6 ((Ah s), (1, 6))) (fun z2 => (some z2)))) = some (Ej s)) (by
      rintro i z hi ⟨rfl, _, hp⟩;rw [stp i hi];rw [Kwb hi, List.all_cons] at hp;cases hb : Wd s[i] with
      | true =>
        left;rw [hb, Kec] at hp;exact ⟨_, by rw [if_pos rfl], rfl, hi, hp⟩
      | false =>
        right;rw [hb, Kld] at hp;exact ⟨_, by rw [if_neg (by decide)], by rw [L3, Ej, hp]; rfl⟩)
    (by
      rintro z ⟨rfl, _, hp⟩;refine ⟨.inl (), ?_, ?_⟩
      · unfold Ys
        rw [A6 (by rw [Ak]; exact Ktd _), Ac]
      · rw [Ar, E5, Aa, Ej, hp, Kug]
        simp only [List.all_nil, Kec, Ak];exact congrArg some (decide_eq_decide.2 (by omega))) 0 ⟨rfl, Kca _, by rw [Kja]⟩
  rw [h1, h2]
theorem Zwj {s:List UInt8}(hl:s.length<9223372036854775807):Xt s=some (Ej s):=Zhm hl
def Tq (r:Row):Option (List UInt8):=if Aq .i64 r.2.2.2.1 2=2 then Bx r.2.2.1 else Bx r.2.1
theorem Zba {r:Row}(h:smR 1048576 r):J3 r=some r:=by
 have e:∀c:Ba,c.2.length<=1048576->Ny c=some c:=fun c h=>by
  unfold Ny;rw[Bi (by omega)];rfl
 unfold J3;rw[e (r.2.1.1,r.2.1.2) h.2.1,Aa,e (r.2.2.1.1,r.2.2.1.2) h.2.2];rfl
theorem Zmi {r:Row}(h:smR 1048576 r):Pz r=some r:=by
 have e:∀c:Ba,c.2.length<=1048576->Xx c=some c:=fun c h=>by
  unfold Xx;rw[L4 (by omega)];rfl
 unfold Pz;rw[e (r.2.1.1,r.2.1.2) h.2.1,Aa,e (r.2.2.1.1,r.2.2.1.2) h.2.2];rfl
theorem K3 (a b:Int):iEq a b=decide (a=b):=by simp only[iEq];rfl
def Ng (ph:Int) (key:List UInt8) (cs:Int) (t:List UInt8):Row×Int :=
 if (0<=ph/\ph<=7)/\Ej key=true/\(1<=cs/\cs<=5) then
  match Di 0 t with
  | none=>(([],((0,[]),((0,[]),(0,false)))),1)
  | some n =>
   if ph=0\/ph=7 then (match Di cs t with
    | none=>(([],((0,[]),((0,[]),(0,false)))),3)
    | some o=>((key,(o,((0,[]),(1,false)))),0))
   else if ph=4\/ph=5 then ((key,((0,[]),(n,(2,false)))),0)
   else if ph=6 then (match Di cs t with
    | none=>((key,((0,[]),(n,(2,true)))),0)
    | some o=>((key,(o,((0,[]),(1,false)))),0))
   else (match Di cs t with
    | none=>((key,((0,[]),(n,(2,true)))),0)
    | some o=>((key,(o,(n,(3,false)))),0))
 else (([],((0,[]),((0,[]),(0,false)))),1)
theorem Zpj {ph cs:Int}{key t:List UInt8}(hk:key.length<9223372036854775807) (ht:t.length<=1048576):Ur (ph,(key,(cs,t)))=some (Ng ph key cs t):=by
 unfold Ur Ng;simp only[Zpg ht,Aa,E5,Zhm hk,K3];by_cases h1:0<=ph/\ph<=7
 case neg=>rw[decide_eq_false h1,if_neg (fun h=>h1 h.1)];rfl
 rw[decide_eq_true h1,Au,Ac];cases h2:Ej key with
 | false=>rw[if_neg (fun h=>by cases h.2.1)];rfl
 | true =>
 rw[Au,Ac];by_cases h3:1<=cs/\cs<=5
 case neg=>rw[decide_eq_false h3,if_neg (fun h=>h3 h.2.2)];rfl
 rw[decide_eq_true h3,Au,Ac,if_pos ⟨h1,rfl,h3⟩];cases h4:Di 0 t with
 | none=>rfl
 | some n =>
 simp only[cR,Au,Ac];by_cases p0:ph=0
 ·subst p0;cases Di cs t<;>rfl
 by_cases p7:ph=7
 ·subst p7;cases Di cs t<;>rfl
 by_cases p4:ph=4
 ·subst p4;cases Di cs t<;>rfl
 by_cases p5:ph=5
 ·subst p5;cases Di cs t<;>rfl
 by_cases p6:ph=6
 ·subst p6;cases Di cs t<;>rfl
 rw[decide_eq_false p0,decide_eq_false p7,decide_eq_false p4,decide_eq_false p5,decide_eq_false p6,if_neg (by omega),if_neg (by omega),if_neg p6];cases Di cs t<;>rfl
theorem Zhq (c:Ba):P1 c=some (Ey c):=by
 obtain⟨t,b⟩:=c;unfold P1 Ey;simp only[iEq,Ak];by_cases h:t=0
 ·subst h;rw[show ((0:Int)==0)=true from rfl,Ad,decide_eq_true rfl,Kec];cases b with
  | nil=>rfl
  | cons x l =>
   have:(((x::l).length:Int)==0)=false:=by simp;omega
   rw[this];rfl
 ·have:(t==0)=false:=by simpa using h
  rw[this,Ac,decide_eq_false h];rfl
theorem Zf1 (c:Ba):Lo ((c.1,c.2),(0,[]))=some (Ey c):=by
 obtain⟨t,b⟩:=c;unfold Lo Ey;simp only[iEq,sEq];by_cases h:t=0
 ·subst h;rw[show ((0:Int)==0)=true from rfl,Ad,decide_eq_true rfl,Kec];cases b<;>rfl
 ·have:(t==0)=false:=by simpa using h
  rw[this,Ac,decide_eq_false h];rfl
theorem Zgx (o:Option (List UInt8)):(Fh o).2=o.isSome:=by cases o<;>rfl
theorem Zkk {o:Ba}(h:1<=o.1/\o.1<=5):Fw o=decide (o.2.length<=20):=by
 unfold Fw;rw[decide_eq_true (show 0<=o.1/\o.1<=5 by omega),Kec]
theorem Zbc {r:Row}(hl:r.1.length<9223372036854775807):Ji r=some (Bn r):=by
 obtain⟨key,⟨ot,ob⟩,⟨nt,nb⟩,has,aside⟩:=r;have n1:Rt key=some (Ej key):=Zhm hl;have n2:=Zhl (ot,ob);have n3:=Zhl (nt,nb);have n4:=Zhq (ot,ob);have n5:=Zhq (nt,nb);have n6:=Yts (ot,ob) (nt,nb);have n7:=Zph (ot,ob);have nI:B6 (has,(1,3))=some (decide (1<=has/\has<=3)):=E5 _ _ _;have nT:B6 (ot,(1,5))=some (decide (1<=ot/\ot<=5)):=E5 _ _ _;unfold Ji Bn
 dsimp only
 rw[n1,Aa];cases hn:Ej key with
 | false=>rfl
 | true =>
 rw[Au,Ac,nI,Aa];by_cases hh:1<=has/\has<=3
 case neg=>rw[decide_eq_false hh];rfl
 rw[decide_eq_true hh,Au,Ac];rcases (show has=1\/has=2\/has=3 by omega) with rfl|rfl|rfl
 ·have o1:Dh (key,(ot,ob),(nt,nb),1,aside)=some true:=congrArg some (show iEq (Aq .i64 1 1) 1=true by decide +kernel);have o2:Cn (key,(ot,ob),(nt,nb),1,aside)=some false:=congrArg some (show iEq (Aq .i64 1 2) 2=false by decide +kernel);simp only[o1,o2,n2,n3,n4,n5,n6,n7,nT,Aa,Au,A3,Ad,Ac,Zgx];rw[show iNe 1 3=true from rfl,Ad];unfold Fp Gh;rw[if_neg (by decide),if_pos rfl];by_cases hT:1<=ot/\ot<=5
  ·rw[Zkk (o:=(ot,ob)) hT];generalize Ey (nt,nb)=b1;generalize decide (ob.length<=20)=b2;generalize (Bx (ot,ob)).isSome=b3;simp only[decide_eq_true hT];cases b1<;>cases b2<;>cases b3<;>cases aside<;>rfl
  ·simp only[decide_eq_false hT];generalize Ey (nt,nb)=b1;cases b1<;>rfl
 ·have o1:Dh (key,(ot,ob),(nt,nb),2,aside)=some false:=congrArg some (show iEq (Aq .i64 2 1) 1=false by decide +kernel);have o2:Cn (key,(ot,ob),(nt,nb),2,aside)=some true:=congrArg some (show iEq (Aq .i64 2 2) 2=true by decide +kernel);simp only[o1,o2,n2,n3,n4,n5,n6,n7,nT,Aa,Au,A3,Ad,Ac,Zgx];rw[show iNe 2 3=true from rfl,Ad];unfold Fp Gh;rw[if_pos rfl,if_neg (by decide)];have e0:iNe nt 0=!decide (nt=0):=by
   by_cases h:nt=0
   ·subst h;rfl
   ·rw[Iw h,decide_eq_false h];rfl
  rw[e0];generalize Ey (ot,ob)=b1;generalize decide (nt=0)=b2;generalize (Bx (nt,nb)).isSome=b3;cases b1<;>cases b2<;>cases b3<;>rfl
 ·have o1:Dh (key,(ot,ob),(nt,nb),3,aside)=some true:=congrArg some (show iEq (Aq .i64 3 1) 1=true by decide +kernel);have o2:Cn (key,(ot,ob),(nt,nb),3,aside)=some true:=congrArg some (show iEq (Aq .i64 3 2) 2=true by decide +kernel);simp only[o1,o2,n2,n3,n4,n5,n6,n7,nT,Aa,Au,A3,Ad,Ac,Zgx];rw[show iNe 3 3=false from rfl];simp only[Ac];unfold Fp Gh;rw[if_neg (by decide),if_neg (by decide)];have e0:iNe nt 0=!decide (nt=0):=by
   by_cases h:nt=0
   ·subst h;rfl
   ·rw[Iw h,decide_eq_false h];rfl
  rw[e0];by_cases hT:1<=ot/\ot<=5
  ·rw[Zkk (o:=(ot,ob)) hT];simp only[decide_eq_true hT];generalize decide (nt=0)=b1;generalize decide (ob.length<=20)=b2;generalize (Bx (ot,ob)).isSome=b3;generalize (Bx (nt,nb)).isSome=b4;generalize Jt (ot,ob) (nt,nb)=b5;cases b1<;>cases b2<;>cases b3<;>cases b4<;>cases b5<;>cases aside<;>rfl
  ·simp only[decide_eq_false hT];generalize decide (nt=0)=b1;generalize (Bx (nt,nb)).isSome=b4;cases b1<;>cases b4<;>rfl
theorem Zfy {r:Row}(hl:r.1.length<9223372036854775807):Ln r=some (Bn r):=by
 obtain⟨key,⟨ot,ob⟩,⟨nt,nb⟩,has,aside⟩:=r;have n1:Xt key=some (Ej key):=Zwj hl;have n2:=Zmk (ot,ob);have n3:=Zmk (nt,nb);have n4:Lo ((ot,ob),(0,[]))=some (Ey (ot,ob)):=Zf1 (ot,ob);have n5:Lo ((nt,nb),(0,[]))=some (Ey (nt,nb)):=Zf1 (nt,nb);have n6:=Yo6 (ot,ob) (nt,nb);have n7:=Zwg (ot,ob);have nI:Cm (has,(1,3))=some (decide (1<=has/\has<=3)):=Gz _ _ _;unfold Ln Bn
 dsimp only
 rw[n1,Aa];cases hn:Ej key with
 | false=>rfl
 | true =>
 rw[Au,Ac,nI,Aa];by_cases hh:1<=has/\has<=3
 case neg=>rw[decide_eq_false hh];rfl
 rw[decide_eq_true hh,Au,Ac];simp only[n2,n3,n4,n5,n6,n7,Aa,Zgx];have e0:iEq nt 0=decide (nt=0):=by
  by_cases h:nt=0
  ·subst h;rfl
  ·rw[Dk h,decide_eq_false h]
 have eC:cnd (Fw (ot,ob)) (cnd (iNe ot 0) (cnd (Bx (ot,ob)).isSome (some (Sum.inl (β:=Bool) true)) (cnd aside (some (.inl (iEq has 1))) (some (.inl false)))) (some (.inl false))) (some (.inl false))=some (.inl (decide (1<=ot/\ot<=5)&&decide (ob.length<=20)&&((Bx (ot,ob)).isSome||(aside&&iEq has 1)))):=by
  by_cases hT:1<=ot/\ot<=5
  ·rw[Zkk (o:=(ot,ob)) hT,decide_eq_true hT,Iw (by omega)];generalize decide (ob.length<=20)=b2;generalize (Bx (ot,ob)).isSome=b3;generalize iEq has 1=b4;cases b2<;>cases b3<;>cases b4<;>cases aside<;>rfl
  ·rw[decide_eq_false hT];by_cases h0:ot=0
   ·subst h0;rw[show iNe 0 0=false from rfl];cases Fw (0,ob)<;>rfl
   ·have:Fw (ot,ob)=false:=by
     unfold Fw;rw[decide_eq_false (by simp only;omega)];rfl
    rw[this];rfl
 rw[eC,e0];rcases (show has=1\/has=2\/has=3 by omega) with rfl|rfl|rfl
 ·unfold Fp Gh;rw[if_neg (by decide),if_pos rfl,show iNe 1 2=true from rfl,show iNe 1 1=false from rfl,show iNe 1 3=true from rfl,show iEq 1 1=true from rfl];generalize (decide (1<=ot/\ot<=5))=b0;generalize Ey (nt,nb)=b1;generalize decide (ob.length<=20)=b2;generalize (Bx (ot,ob)).isSome=b3;cases b0<;>cases b1<;>cases b2<;>cases b3<;>cases aside<;>rfl
 ·unfold Fp Gh;rw[if_pos rfl,if_neg (by decide),show iNe 2 2=false from rfl,show iNe 2 1=true from rfl,show iNe 2 3=true from rfl];generalize Ey (ot,ob)=b1;generalize decide (nt=0)=b2;generalize (Bx (nt,nb)).isSome=b3;cases b1<;>cases b2<;>cases b3<;>rfl
 ·unfold Fp Gh;rw[if_neg (by decide),if_neg (by decide),show iNe 3 2=true from rfl,show iNe 3 1=true from rfl,show iNe 3 3=false from rfl,show iEq 3 1=false from rfl];generalize (decide (1<=ot/\ot<=5))=b0;generalize decide (nt=0)=b1;generalize decide (ob.length<=20)=b2;generalize (Bx (ot,ob)).isSome=b3;generalize (Bx (nt,nb)).isSome=b4;generalize Jt (ot,ob) (nt,nb)=b5;cases b0<;>cases b1<;>cases b2<;>cases b3<;>cases b4<;>cases b5<;>cases aside<;>rfl
theorem Zpk (r:Row) (h:Bn r=true):Cn r=some (decide (r.2.2.2.1≠1)):=by
 obtain⟨_,h1,h3,_⟩:=I7 h;unfold Cn;rcases (show r.2.2.2.1=1\/r.2.2.2.1=2\/r.2.2.2.1=3 by omega) with e|e|e<;>rw[e]
 ·exact congrArg some (show iEq (Aq .i64 1 2) 2=false by decide +kernel)
 ·exact congrArg some (show iEq (Aq .i64 2 2) 2=true by decide +kernel)
 ·exact congrArg some (show iEq (Aq .i64 3 2) 2=true by decide +kernel)
theorem Yas (r:Row) (h:Bn r=true):Dh r=some (decide (r.2.2.2.1≠2)):=by
 obtain⟨_,h1,h3,_⟩:=I7 h;unfold Dh;rcases (show r.2.2.2.1=1\/r.2.2.2.1=2\/r.2.2.2.1=3 by omega) with e|e|e<;>rw[e]
 ·exact congrArg some (show iEq (Aq .i64 1 1) 1=true by decide +kernel)
 ·exact congrArg some (show iEq (Aq .i64 2 1) 1=false by decide +kernel)
 ·exact congrArg some (show iEq (Aq .i64 3 1) 1=true by decide +kernel)
def Zfk (r:Row):Row:=if Bn r=true/\r.2.2.2.1=1 then (match Rj r.2.1 0 with
 | (_,false)=>(r.1,r.2.1,r.2.2.1,r.2.2.2.1,true)
 | (d,true)=>(r.1,r.2.1,d,3,r.2.2.2.2)) else r
theorem Yti {r:Row}(h:smR 1048576 r):X6 r=some (Zfk r):=by
 have hk:=h.1;have e0:J3 (r.1,((r.2.1.1,r.2.1.2),((r.2.2.1.1,r.2.2.1.2),(r.2.2.2.1,r.2.2.2.2))))=some r:=Zba h;have e1:Ji (r.1,((r.2.1.1,r.2.1.2),((r.2.2.1.1,r.2.2.1.2),(r.2.2.2.1,r.2.2.2.2))))=some (Bn r):=Zbc (r:=r) (by omega);have e2:Yd ((r.2.1.1,r.2.1.2),0)=some (Rj r.2.1 0):=Ytx (c:=r.2.1) h.2.1;unfold X6 Zfk;simp only[e0,e1,e2,Aa];cases hr:Bn r with
 | false=>rw[if_neg (fun k=>by cases k.1)];rfl
 | true =>
  rw[Au,Ac,show Cn (r.1,((r.2.1.1,r.2.1.2),((r.2.2.1.1,r.2.2.1.2),(r.2.2.2.1,r.2.2.2.2))))=some (decide (r.2.2.2.1≠1)) from Zpk r hr,Aa];by_cases h1:r.2.2.2.1=1
  ·rw[decide_eq_false (by simpa using h1),Ac,if_pos ⟨rfl,h1⟩];cases hv:Rj r.2.1 0 with
   | mk d ok =>
    cases ok with
    | false=>rfl
    | true=>rfl
  ·rw[decide_eq_true h1,Ad,if_neg (fun k=>h1 k.2)]
def Xk:Ba:=(0,[])
def Zd9 (r:Row):Row:=if Bn r=true then (if r.2.2.2.1=3 then (r.1,r.2.1,Xk,1,false) else if r.2.2.2.1=2 then (r.1,r.2.1,r.2.2.1,r.2.2.2.1,true) else r) else r
theorem Ytd {r:Row}(h:smR 1048576 r):X5 r=some (Zd9 r):=by
 have hk:=h.1;unfold X5 Zd9;rw[show J3 (r.1,((r.2.1.1,r.2.1.2),((r.2.2.1.1,r.2.2.1.2),(r.2.2.2.1,r.2.2.2.2))))=some r from Zba h,Aa,
  show Ji (r.1,((r.2.1.1,r.2.1.2),((r.2.2.1.1,r.2.2.1.2),(r.2.2.2.1,r.2.2.2.2))))=some (Bn r) from Zbc (r:=r) (by omega),Aa]
 cases hr:Bn r with
 | false=>rw[if_neg (by simp)];rfl
 | true =>
  obtain⟨_,g1,g3,_⟩:=I7 hr;rw[Au,Ac,show Cn (r.1,((r.2.1.1,r.2.1.2),((r.2.2.1.1,r.2.2.1.2),(r.2.2.2.1,r.2.2.2.2))))=some (decide (r.2.2.2.1≠1)) from Zpk r hr,Aa,if_pos rfl];have eo:Dh (r.1,((r.2.1.1,r.2.1.2),((r.2.2.1.1,r.2.2.1.2),(r.2.2.2.1,r.2.2.2.2))))=some (decide (r.2.2.2.1≠2)):=Yas r hr;by_cases h1:r.2.2.2.1=1
  ·rw[decide_eq_false (by simpa using h1),if_neg (by omega),if_neg (by omega)];rfl
  ·rw[decide_eq_true h1,Au,Ac,eo,Aa];by_cases h2:r.2.2.2.1=2
   ·rw[decide_eq_false (by simpa using h2),if_neg (by omega),if_pos h2];rfl
   ·rw[decide_eq_true h2,if_pos (by omega)];rfl
end
end Go.Vs
