import Derived.Test.YteaoaehkkcbmbaaGreatDoorVsQv4
set_option linter.all false
namespace Go.Vs
noncomputable section
abbrev A8:=List UInt8×BI×BI×Int×Bool
def Fz(B:Nat)(r:A8):Prop:=r.1.length<=B/\r.2.1.2.length<=B/\r.2.2.1.2.length<=B
def Fz.mono{A B:Nat}{r:A8}(h:Fz A r)(a:A<=B):Fz B r:=⟨CW h.1 a,CW h.2.1 a,CW h.2.2 a⟩
def FV(c:BI):Bool:=decide (c.1=0)&&c.2.isEmpty
def SS(c:UInt8):Bool:=decide (97<=c.toNat/\c.toNat<=122)||decide (48<=c.toNat/\c.toNat<=57)
def F7(s:List UInt8):Bool:=s.all SS&&decide (1<=s.length/\s.length<=6)
def GF(o:BI)(b:Int)(a:Bool):Bool:=if b=2 then FV o else decide (1<=o.1/\o.1<=5)&&decide (o.2.length<=20)&&((C0 o).isSome||(a&&decide (b=1)))
def Hr(n:BI)(a:Int):Bool:=if a=1 then FV n else decide (n.1=0)&&(C0 n).isSome
def Co(r:A8):Bool:=F7 r.1&&decide (1<=r.2.2.2.1/\r.2.2.2.1<=3)&&GF r.2.1 r.2.2.2.1 r.2.2.2.2&&Hr r.2.2.1 r.2.2.2.1&&(decide (r.2.2.2.1≠3)||JN r.2.1 r.2.2.1)
def OV{c:BI}(h:FV c=true):c=(0,[]):=by
 obtain⟨a,b⟩:=c;simp only[FV,A6,AA,Oj]at h;rw[h.1,h.2]
def Ci(n:Int):List UInt8:=[yN (n.toNat / 256),yN (n.toNat%256)]
def I2(s:List UInt8):List UInt8:=if s.length<=60 then Ci s.length++s else []
def Gt(c:BI):List UInt8:=yN c.1.toNat::I2 c.2
def O8(b:Bool):Nat:=if b then 1 else 0
def Ky(r:A8):List UInt8:=I2 r.1++(yN r.2.2.2.1.toNat::yN (O8 r.2.2.2.2)::((if r.2.2.2.1=2 then [] else Gt r.2.1)++(if r.2.2.2.1=1 then [] else Gt r.2.2.1)))
def Cw:List UInt8->Option (Int×List UInt8)
 |[]=>none
 |x::l=>some ((x.toNat:Int),l)
def Cy:List UInt8->Option (Int×List UInt8)
 |x::y::l=>some (((x.toNat*256+y.toNat:Nat):Int),l)
 |_=>none
def Fl(l:List UInt8):Option (List UInt8×List UInt8):=match Cy l with
 |none=>none
 |some (n,r)=>if n<=60/\n<=r.length then some (r.take n.toNat,r.drop n.toNat) else none
def Gi(l:List UInt8):Option (BI×List UInt8):=match Cw l with
 |none=>none
 |some (t,r)=>match Fl r with
  |none=>none
  |some (s,r)=>some ((t,s),r)
def Tc(a:Int)(l:List UInt8):Option (BI×List UInt8):=if a.toNat%2=1 then Gi l else some ((0,[]),l)
def Tb(a:Int)(l:List UInt8):Option (BI×List UInt8):=if a.toNat / 2%2=1 then Gi l else some ((0,[]),l)
def FX(l:List UInt8):Option (A8×List UInt8):=match Fl l with
 |none=>none
 |some (c,l)=>match Cw l with
  |none=>none
  |some (b,l)=>match Cw l with
   |none=>none
   |some (a,l)=>if 1<a then none else match Tc b l with
    |none=>none
    |some (d,l)=>match Tb b l with
     |none=>none
     |some (new,l)=>some ((c,d,new,b,decide (a=1)),l)
def GD(l:List UInt8):Option (A8×List UInt8):=match FX l with
 |none=>none
 |some (r,l)=>if Co r then some (r,l) else none
def QF{n:Int}(c:0<=n)(d:n<65536)(r:List UInt8):Cy (Ci n++r)=some (n,r):=by
 have a:=F1 (n:=n.toNat / 256) (by omega);have b:=F1 (n:=n.toNat%256) (by omega);simp only[Ci,A1,A0,Cy,a,b];congr 2;omega
def NM{l r:List UInt8}{n:Int}(h:Cy l=some (n,r)):l=Ci n++r/\0<=n/\n<65536:=by
 match l,h with
 |[],h=>simp[Cy]at h
 |[_],h=>simp[Cy]at h
 |x::y::l,h=>
  simp only[Cy,Ac,A5]at h;obtain⟨rfl,rfl⟩:=h;have a:=Cx x;have c:=Cx y;refine⟨?_,by omega,by omega⟩;rw[Ci,FG (b:=x) (by omega),FG (b:=y) (by omega)];rfl
def j_{s:List UInt8}(h:s.length<=60)(r:List UInt8):Fl (I2 s++r)=some (s,r):=by
 unfold I2 Fl;rw[Af h,EG,QF (by omega) (by omega)];simp only;rw[Af (by simp only[Cb];omega)];simp
def Rc{l s r:List UInt8}(h:Fl l=some (s,r)):l=I2 s++r/\s.length<=60:=by
 unfold Fl at h;split at h
 .cases h
 rename_i n q c;obtain⟨rfl,a,d⟩:=NM c;split at h
 .rename_i e;simp only[Ac,A5]at h;obtain⟨rfl,rfl⟩:=h;have b:(q.take n.toNat).length=n.toNat:=by rw[EF];omega
  refine⟨?_,by omega⟩;unfold I2;rw[Af (by omega),b,EG,Jg,PM a]
 cases h
def sj{c:BI}(a:0<=c.1)(b:c.1<256)(h:c.2.length<=60)(r:List UInt8):Gi (Gt c++r)=some (c,r):=by
 simp only[Gt,A1,Gi,Cw,j_ h,F1 (n:=c.1.toNat) (by omega)];rw[PM a]
def oF{l r:List UInt8}{c:BI}(h:Gi l=some (c,r)):l=Gt c++r/\0<=c.1/\c.1<256/\c.2.length<=60:=by
 unfold Gi at h
 match l,h with
 |[],h=>simp[Cw]at h
 |x::l,h=>
  simp only[Cw]at h;split at h
  .cases h
  rename_i s q a;obtain⟨rfl,b⟩:=Rc a;simp only[Ac,A5]at h;obtain⟨rfl,rfl⟩:=h;have:=Cx x;refine⟨?_,by simp only;omega,by simp only;omega,b⟩;simp only[Gt,A1,Gn,FG rfl]
def JL{r:A8}(h:Co r=true):F7 r.1=true/\1<=r.2.2.2.1/\r.2.2.2.1<=3/\GF r.2.1 r.2.2.2.1 r.2.2.2.2=true/\Hr r.2.2.1 r.2.2.2.1=true/\(r.2.2.2.1=3->JN r.2.1 r.2.2.1=true):=by
 simp only[Co,A6,CE,AA]at h;obtain⟨⟨⟨⟨a,b⟩,c⟩,d⟩,e⟩:=h;exact⟨a,b.1,b.2,c,d,λf=>e.elim (λk=>(k f).elim) id⟩
def Q8{s:List UInt8}(h:F7 s=true):1<=s.length/\s.length<=6:=by
 simp only[F7,A6,AA]at h;exact h.2
def Ti{o:BI}{b:Int}{a:Bool}(h:GF o b a=true)(c:b≠2):1<=o.1/\o.1<=5/\o.2.length<=20/\((C0 o).isSome=true\/(a=true/\b=1)):=by
 simp only[GF,Ae c,A6,CE,AA]at h;exact⟨h.1.1.1,h.1.1.2,h.1.2,h.2⟩
def bZ{n:BI}{a:Int}(h:Hr n a=true)(b:a≠1):n.1=0/\(C0 n).isSome=true/\n.2.length<=20:=by
 simp only[Hr,Ae b,A6,AA]at h;refine⟨h.1,h.2, ?_⟩;obtain⟨t,c⟩:=dY.1 h.2;have:=(oI c).1;simp only[GQ,A6,AA]at this;exact this.2
def Zkz{r:A8}(h:Co r=true)(l:List UInt8):GD (Ky r++l)=some (r,l):=by
 obtain⟨a,o,p,c,d,e⟩:=JL h;have u:=Q8 a;obtain⟨j,g,new,f,b⟩:=r;simp only at a o p c d e u;have k:FX (Ky (j,g,new,f,b)++l)=some ((j,g,new,f,b),l):=by
  unfold Ky FX;simp only[EG,A1];rw[j_ (by omega)];simp only[Cw,F1 (n:=f.toNat) (by omega),F1 (n:=O8 b) (by unfold O8;split<;>omega),PM (show 0<=f by omega)]
  rw[Ae (by unfold O8;split<;>omega)]
  have q:decide (((O8 b:Nat):Int)=1)=b:=by cases b<;>rfl
  have t:Tc f ((if f=2 then [] else Gt g)++((if f=1 then [] else Gt new)++l))=some (g,(if f=1 then [] else Gt new)++l):=by
   unfold Tc;by_cases i:f=2
   .subst i;have m:FV g=true:=by simpa[GF] using c
    rw[Ae (by decide),Af rfl,OV m];rfl
   obtain⟨y,z,A,_⟩:=Ti c i;rw[Af (by omega),Ae i,sj (by omega) (by omega) (by omega)]
  have s:Tb f ((if f=1 then [] else Gt new)++l)=some (new,l):=by
   unfold Tb;by_cases i:f=1
   .subst i;have m:FV new=true:=by simpa[Hr] using d
    rw[Ae (by decide),Af rfl,OV m];rfl
   obtain⟨v,w,x⟩:=bZ d i;rw[Af (by omega),Ae i,sj (by omega) (by omega) (by omega)]
  rw[t];simp only[s,q]
 unfold GD;rw[k];simp only[h,BF]
def ta{l q:List UInt8}{r:A8}(h:GD l=some (r,q)):l=Ky r++q/\Co r=true:=by
 unfold GD at h;split at h
 .cases h
 rename_i z w a;split at h
 case isFalse=>cases h
 rename_i f;simp only[Ac,A5]at h;obtain⟨rfl,rfl⟩:=h;refine⟨?_,f⟩;unfold FX at a;split at a
 .cases a
 rename_i s g o;obtain⟨rfl,_⟩:=Rc o
 match g,a with
 |[],a=>simp[Cw]at a
 |[_],a=>simp[Cw]at a
 |x::y::g,a=>
 have u:=Cx x;have v:=Cx y;simp only[Cw]at a;split at a
 .cases a
 rename_i p;split at a
 .cases a
 rename_i i l2 c;split at a
 .cases a
 rename_i new t d;simp only[Ac,A5]at a;obtain⟨rfl,rfl⟩:=a;obtain⟨_,j,k,_⟩:=JL f;simp only at j k;unfold Ky;simp only[EG,A1,Gn];rw[FG (b:=x) rfl,FG (b:=y) (by unfold O8;split<;>(rename_i hd;simp only[AA]at hd;omega))]
 congr 3;have n:g=(if (x.toNat:Int)=2 then [] else Gt i)++l2:=by
  unfold Tc at c;by_cases e:(x.toNat:Int)=2
  .rw[Af e];rw[Ae (by omega)]at c;simp only[Ac,A5]at c;exact c.2
  rw[Ae e];rw[Af (by omega)]at c;exact (oF c).1
 have m:l2=(if (x.toNat:Int)=1 then [] else Gt new)++t:=by
  unfold Tb at d;by_cases e:(x.toNat:Int)=1
  .rw[Af e];rw[Ae (by omega)]at d;simp only[Ac,A5]at d;exact d.2
  rw[Ae e];rw[Af (by omega)]at d;exact (oF d).1
 rw[<-m,<-n]
def bw{s : List UInt8}(g : s.length < 9223372036854775807) : P8 s = some (F7 s) := by
  unfold P8;have WM : ∀ i (h : i < s.length), UR s (i : Int) = if SS s[i] then some (.inl ((i + 1 : Nat) : Int)) else some (.inr (.inr false)) := by
    intro i h;unfold UR;rw[Bw (by rw[Av]; omega), Ah, BK h];simp only[Ad, MX, Ef, CX (show i < 9223372036854775807 by omega)];unfold SS;by_cases b : 97 ≤ s[i].toNat ∧ s[i].toNat ≤ 122
    · rw[AF (show (97 : Int) ≤ (s[i].toNat : Int) ∧ (s[i].toNat : Int) ≤ 122 by omega), AF b]; rfl
    rw[AG (show ¬ ((97 : Int) ≤ (s[i].toNat : Int) ∧ (s[i].toNat : Int) ≤ 122) by omega), AG b];by_cases c : 48 ≤ s[i].toNat ∧ s[i].toNat ≤ 57
    · rw[AF (show (48 : Int) ≤ (s[i].toNat : Int) ∧ (s[i].toNat : Int) ≤ 57 by omega), AF c]; rfl
    rw[AG (show ¬ ((48 : Int) ≤ (s[i].toNat : Int) ∧ (s[i].toNat : Int) ≤ 57) by omega), AG c]; rfl
  obtain ⟨r, b, c⟩ := IO (step := UR s) (λi z => z = (i : Int) ∧ i ≤ s.length ∧ s.all SS = (s.drop i).all SS) s.length
    (λr => AC (some r) (λ(j : Unit) => (Aa (BU ((Am s), (1, 6))) (λf => (some f)))) = some (F7 s)) (by
      rintro i z d ⟨rfl, _, a⟩;rw[WM i d];rw[H1 d, dk] at a;cases e : SS s[i] with
      |true=>
        left;rw[e, I7] at a;exact ⟨_, by rw[Af rfl], rfl, d, a⟩
      |false=>
        right;rw[e, M7] at a;exact ⟨_, by rw[Ae (by decide)], by rw[Lb, F7, a]; rfl⟩)
    (by
      rintro z ⟨rfl, _, a⟩;refine ⟨.inl (), ?_, ?_⟩
      · unfold UR
        rw[B1 (by rw[Av]; exact RI _), Ag]
      · rw[A4, Ef, Ad, F7, a, eA]
        simp only[List.all_nil, I7, Av];exact DU some (decide_eq_decide.2 (by omega))) 0 ⟨rfl, Cq _, by rw[AJ]⟩
  rw[b, c]
def qt{s:List UInt8}(a:s.length<9223372036854775807):TP s=some (F7 s):=bw a
def QO(r:A8):Option (List UInt8):=if Bg .i64 r.2.2.2.1 2=2 then C0 r.2.2.1 else C0 r.2.1
def WC{r:A8}(h:Fz 1048576 r):Kc r=some r:=by
 have e:∀c:BI,c.2.length<=1048576->M5 c=some c:=λc h=>by
  unfold M5;rw[B8 (by omega)];rfl
 unfold Kc;rw[e (r.2.1.1,r.2.1.2) h.2.1,Ad,e (r.2.2.1.1,r.2.2.1.2) h.2.2];rfl
def iI{r:A8}(h:Fz 1048576 r):NU r=some r:=by
 have e:∀c:BI,c.2.length<=1048576->TT c=some c:=λc h=>by
  unfold TT;rw[LQ (by omega)];rfl
 unfold NU;rw[e (r.2.1.1,r.2.1.2) h.2.1,Ad,e (r.2.2.1.1,r.2.2.1.2) h.2.2];rfl
def Jq(a b:Int):Ak a b=decide (a=b):=by simp only[Ak];rfl
def Mj(b:Int)(a:List UInt8)(c:Int)(t:List UInt8):A8×Int:=
 if (0<=b/\b<=7)/\F7 a=true/\(1<=c/\c<=5) then
  match E5 0 t with
  |none=>(([],((0,[]),((0,[]),(0,false)))),1)
  |some n=>
   if b=0\/b=7 then (match E5 c t with
    |none=>(([],((0,[]),((0,[]),(0,false)))),3)
    |some o=>((a,(o,((0,[]),(1,false)))),0))
   else if b=4\/b=5 then ((a,((0,[]),(n,(2,false)))),0)
   else if b=6 then (match E5 c t with
    |none=>((a,((0,[]),(n,(2,true)))),0)
    |some o=>((a,(o,((0,[]),(1,false)))),0))
   else (match E5 c t with
    |none=>((a,((0,[]),(n,(2,true)))),0)
    |some o=>((a,(o,(n,(3,false)))),0))
 else (([],((0,[]),((0,[]),(0,false)))),1)
def kZ{c a:Int}{b t:List UInt8}(l:b.length<9223372036854775807)(m:t.length<=1048576):R7 (c,(b,(a,t)))=some (Mj c b a t):=by
 unfold R7 Mj;simp only[br m,Ad,Ef,bw l,Jq];by_cases d:0<=c/\c<=7
 case neg=>rw[AG d,Ae (λh=>d h.1)];rfl
 rw[AF d,Bf,Ag];cases o:F7 b with
 |false=>rw[Ae (λh=>by cases h.2.1)];rfl
 |true=>
 rw[Bf,Ag];by_cases e:1<=a/\a<=5
 case neg=>rw[AG e,Ae (λh=>e h.2.2)];rfl
 rw[AF e,Bf,Ag,Af ⟨d,rfl,e⟩];cases p:E5 0 t with
 |none=>rfl
 |some n=>
 simp only[cR,Bf,Ag];by_cases g:c=0
 .subst g;cases E5 a t<;>rfl
 by_cases k:c=7
 .subst k;cases E5 a t<;>rfl
 by_cases i:c=4
 .subst i;cases E5 a t<;>rfl
 by_cases j:c=5
 .subst j;cases E5 a t<;>rfl
 by_cases f:c=6
 .subst f;cases E5 a t<;>rfl
 rw[AG g,AG k,AG i,AG j,AG f,Ae (by omega),Ae (by omega),Ae f];cases E5 a t<;>rfl
def cG(c:BI):Ob c=some (FV c):=by
 obtain⟨t,b⟩:=c;unfold Ob FV;simp only[Ak,Av];by_cases h:t=0
 .subst h;rw[show ((0:Int)==0)=true from rfl,Ah,AF rfl,I7];cases b with
  |nil=>rfl
  |cons x l=>
   have:(((x::l).length:Int)==0)=false:=by simp;omega
   rw[this];rfl
 have:(t==0)=false:=by simpa using h
 rw[this,Ag,AG h];rfl
def aZ(c:BI):KC ((c.1,c.2),(0,[]))=some (FV c):=by
 obtain⟨t,b⟩:=c;unfold KC FV;simp only[Ak,Dc];by_cases h:t=0
 .subst h;rw[show ((0:Int)==0)=true from rfl,Ah,AF rfl,I7];cases b<;>rfl
 have:(t==0)=false:=by simpa using h
 rw[this,Ag,AG h];rfl
def bP(o:Option (List UInt8)):(F8 o).2=o.isSome:=by cases o<;>rfl
def fQ{o:BI}(h:1<=o.1/\o.1<=5):GQ o=decide (o.2.length<=20):=by
 unfold GQ;rw[AF (show 0<=o.1/\o.1<=5 by omega),I7]
def WF{r:A8}(z:r.1.length<9223372036854775807):J6 r=some (Co r):=by
 obtain⟨c,⟨ot,d⟩,⟨b,f⟩,e,a⟩:=r;have A:P8 c=some (F7 c):=bw z;have p:=bt (ot,d);have q:=bt (b,f);have s:=cG (ot,d);have t:=cG (b,f);have u:=Zmo (ot,d) (b,f);have v:=kV (ot,d);have B:BU (e,(1,3))=some (decide (1<=e/\e<=3)):=Ef _ _ _;have w:BU (ot,(1,5))=some (decide (1<=ot/\ot<=5)):=Ef _ _ _;unfold J6 Co
 dsimp only
 rw[A,Ad];cases C:F7 c with
 |false=>rfl
 |true=>
 rw[Bf,Ag,B,Ad];by_cases x:1<=e/\e<=3
 case neg=>rw[AG x];rfl
 rw[AF x,Bf,Ag];rcases (show e=1\/e=2\/e=3 by omega) with rfl|rfl|rfl
 .have k:Ea (c,(ot,d),(b,f),1,a)=some true:=DU some (show Ak (Bg .i64 1 1) 1=true by decide +kernel);have l:Df (c,(ot,d),(b,f),1,a)=some false:=DU some (show Ak (Bg .i64 1 2) 2=false by decide +kernel);simp only[k,l,p,q,s,t,u,v,w,Ad,Bf,B2,Ah,Ag,bP];rw[show AI 1 3=true from rfl,Ah];unfold GF Hr;rw[Ae (by decide),Af rfl];by_cases hT:1<=ot/\ot<=5
  .rw[fQ (o:=(ot,d)) hT];generalize FV (b,f)=g;generalize decide (d.length<=20)=i;generalize (C0 (ot,d)).isSome=j;simp only[AF hT];cases g<;>cases i<;>cases j<;>cases a<;>rfl
  simp only[AG hT];generalize FV (b,f)=g;cases g<;>rfl
 .have k:Ea (c,(ot,d),(b,f),2,a)=some false:=DU some (show Ak (Bg .i64 2 1) 1=false by decide +kernel);have l:Df (c,(ot,d),(b,f),2,a)=some true:=DU some (show Ak (Bg .i64 2 2) 2=true by decide +kernel);simp only[k,l,p,q,s,t,u,v,w,Ad,Bf,B2,Ah,Ag,bP];rw[show AI 2 3=true from rfl,Ah];unfold GF Hr;rw[Af rfl,Ae (by decide)];have n:AI b 0=!decide (b=0):=by
   by_cases h:b=0
   .subst h;rfl
   rw[Hl h,AG h];rfl
  rw[n];generalize FV (ot,d)=g;generalize decide (b=0)=i;generalize (C0 (b,f)).isSome=j;cases g<;>cases i<;>cases j<;>rfl
 have k:Ea (c,(ot,d),(b,f),3,a)=some true:=DU some (show Ak (Bg .i64 3 1) 1=true by decide +kernel);have l:Df (c,(ot,d),(b,f),3,a)=some true:=DU some (show Ak (Bg .i64 3 2) 2=true by decide +kernel);simp only[k,l,p,q,s,t,u,v,w,Ad,Bf,B2,Ah,Ag,bP];rw[show AI 3 3=false from rfl];simp only[Ag];unfold GF Hr;rw[Ae (by decide),Ae (by decide)];have n:AI b 0=!decide (b=0):=by
  by_cases h:b=0
  .subst h;rfl
  rw[Hl h,AG h];rfl
 rw[n];by_cases hT:1<=ot/\ot<=5
 .rw[fQ (o:=(ot,d)) hT];simp only[AF hT];generalize decide (b=0)=g;generalize decide (d.length<=20)=i;generalize (C0 (ot,d)).isSome=j;generalize (C0 (b,f)).isSome=m;generalize JN (ot,d) (b,f)=y;cases g<;>cases i<;>cases j<;>cases m<;>cases y<;>cases a<;>rfl
 simp only[AG hT];generalize decide (b=0)=g;generalize (C0 (b,f)).isSome=m;cases g<;>cases m<;>rfl
def aW{r:A8}(s:r.1.length<9223372036854775807):KB r=some (Co r):=by
 obtain⟨i,⟨ot,c⟩,⟨d,e⟩,b,a⟩:=r;have t:TP i=some (F7 i):=qt s;have u:=iJ (ot,c);have v:=iJ (d,e);have w:KC ((ot,c),(0,[]))=some (FV (ot,c)):=aZ (ot,c);have x:KC ((d,e),(0,[]))=some (FV (d,e)):=aZ (d,e);have y:=Zie (ot,c) (d,e);have z:=qr (ot,c);have A:D0 (b,(1,3))=some (decide (1<=b/\b<=3)):=HD _ _ _;unfold KB Co
 dsimp only
 rw[t,Ad];cases B:F7 i with
 |false=>rfl
 |true=>
 rw[Bf,Ag,A,Ad];by_cases m:1<=b/\b<=3
 case neg=>rw[AG m];rfl
 rw[AF m,Bf,Ag];simp only[u,v,w,x,y,z,Ad,bP];have p:Ak d 0=decide (d=0):=by
  by_cases h:d=0
  .subst h;rfl
  rw[E7 h,AG h]
 have eC:Ab (GQ (ot,c)) (Ab (AI ot 0) (Ab (C0 (ot,c)).isSome (some (Sum.inl (β:=Bool) true)) (Ab a (some (.inl (Ak b 1))) (some (.inl false)))) (some (.inl false))) (some (.inl false))=some (.inl (decide (1<=ot/\ot<=5)&&decide (c.length<=20)&&((C0 (ot,c)).isSome||(a&&Ak b 1)))):=by
  by_cases hT:1<=ot/\ot<=5
  .rw[fQ (o:=(ot,c)) hT,AF hT,Hl (by omega)];generalize decide (c.length<=20)=f;generalize (C0 (ot,c)).isSome=g;generalize Ak b 1=l;cases f<;>cases g<;>cases l<;>cases a<;>rfl
  rw[AG hT];by_cases q:ot=0
  .subst q;rw[show AI 0 0=false from rfl];cases GQ (0,c)<;>rfl
  have:GQ (ot,c)=false:=by
   unfold GQ;rw[AG (by simp only;omega)];rfl
  rw[this];rfl
 rw[eC,p];rcases (show b=1\/b=2\/b=3 by omega) with rfl|rfl|rfl
 .unfold GF Hr;rw[Ae (by decide),Af rfl,show AI 1 2=true from rfl,show AI 1 1=false from rfl,show AI 1 3=true from rfl,show Ak 1 1=true from rfl];generalize (decide (1<=ot/\ot<=5))=k;generalize FV (d,e)=j;generalize decide (c.length<=20)=f;generalize (C0 (ot,c)).isSome=g;cases k<;>cases j<;>cases f<;>cases g<;>cases a<;>rfl
 .unfold GF Hr;rw[Af rfl,Ae (by decide),show AI 2 2=false from rfl,show AI 2 1=true from rfl,show AI 2 3=true from rfl];generalize FV (ot,c)=j;generalize decide (d=0)=f;generalize (C0 (d,e)).isSome=g;cases j<;>cases f<;>cases g<;>rfl
 unfold GF Hr;rw[Ae (by decide),Ae (by decide),show AI 3 2=true from rfl,show AI 3 1=true from rfl,show AI 3 3=false from rfl,show Ak 3 1=false from rfl];generalize (decide (1<=ot/\ot<=5))=k;generalize decide (d=0)=j;generalize decide (c.length<=20)=f;generalize (C0 (ot,c)).isSome=g;generalize (C0 (d,e)).isSome=l;generalize JN (ot,c) (d,e)=n;cases k<;>cases j<;>cases f<;>cases g<;>cases l<;>cases n<;>cases a<;>rfl
def ka(r:A8)(h:Co r=true):Df r=some (decide (r.2.2.2.1≠1)):=by
 obtain⟨_,a,b,_⟩:=JL h;unfold Df;rcases (show r.2.2.2.1=1\/r.2.2.2.1=2\/r.2.2.2.1=3 by omega) with e|e|e<;>rw[e]
 .exact DU some (show Ak (Bg .i64 1 2) 2=false by decide +kernel)
 .exact DU some (show Ak (Bg .i64 2 2) 2=true by decide +kernel)
 exact DU some (show Ak (Bg .i64 3 2) 2=true by decide +kernel)
def ua(r:A8)(h:Co r=true):Ea r=some (decide (r.2.2.2.1≠2)):=by
 obtain⟨_,a,b,_⟩:=JL h;unfold Ea;rcases (show r.2.2.2.1=1\/r.2.2.2.1=2\/r.2.2.2.1=3 by omega) with e|e|e<;>rw[e]
 .exact DU some (show Ak (Bg .i64 1 1) 1=true by decide +kernel)
 .exact DU some (show Ak (Bg .i64 2 1) 1=false by decide +kernel)
 exact DU some (show Ak (Bg .i64 3 1) 1=true by decide +kernel)
def aE(r:A8):A8:=if Co r=true/\r.2.2.2.1=1 then (match Ps r.2.1 0 with
 |(_,false)=>(r.1,r.2.1,r.2.2.1,r.2.2.2.1,true)
 |(d,true)=>(r.1,r.2.1,d,3,r.2.2.2.2)) else r
def Zmc{r:A8}(h:Fz 1048576 r):Ud r=some (aE r):=by
 have j:=h.1;have b:Kc (r.1,((r.2.1.1,r.2.1.2),((r.2.2.1.1,r.2.2.1.2),(r.2.2.2.1,r.2.2.2.2))))=some r:=WC h;have e:J6 (r.1,((r.2.1.1,r.2.1.2),((r.2.2.1.1,r.2.2.1.2),(r.2.2.2.1,r.2.2.2.2))))=some (Co r):=WF (r:=r) (by omega);have f:Um ((r.2.1.1,r.2.1.2),0)=some (Ps r.2.1 0):=Zmt (c:=r.2.1) h.2.1;unfold Ud aE;simp only[b,e,f,Ad];cases g:Co r with
 |false=>rw[Ae (λk=>by cases k.1)];rfl
 |true=>
  rw[Bf,Ag,show Df (r.1,((r.2.1.1,r.2.1.2),((r.2.2.1.1,r.2.2.1.2),(r.2.2.2.1,r.2.2.2.2))))=some (decide (r.2.2.2.1≠1)) from ka r g,Ad];by_cases a:r.2.2.2.1=1
  .rw[AG (by simpa using a),Ag,Af ⟨rfl,a⟩];cases l:Ps r.2.1 0 with
   |mk d i=>
    cases i with
    |false=>rfl
    |true=>rfl
  rw[AF a,Ah,Ae (λk=>a k.2)]
def TF:BI:=(0,[])
def Zk(r:A8):A8:=if Co r=true then (if r.2.2.2.1=3 then (r.1,r.2.1,TF,1,false) else if r.2.2.2.1=2 then (r.1,r.2.1,r.2.2.1,r.2.2.2.1,true) else r) else r
def Zl8{r:A8}(h:Fz 1048576 r):TZ r=some (Zk r):=by
 have g:=h.1;unfold TZ Zk;rw[show Kc (r.1,((r.2.1.1,r.2.1.2),((r.2.2.1.1,r.2.2.1.2),(r.2.2.2.1,r.2.2.2.2))))=some r from WC h,Ad,
  show J6 (r.1,((r.2.1.1,r.2.1.2),((r.2.2.1.1,r.2.2.1.2),(r.2.2.2.1,r.2.2.2.2))))=some (Co r) from WF (r:=r) (by omega),Ad]
 cases b:Co r with
 |false=>rw[Ae (by simp)];rfl
 |true=>
  obtain⟨_,e,f,_⟩:=JL b;rw[Bf,Ag,show Df (r.1,((r.2.1.1,r.2.1.2),((r.2.2.1.1,r.2.2.1.2),(r.2.2.2.1,r.2.2.2.2))))=some (decide (r.2.2.2.1≠1)) from ka r b,Ad,Af rfl];have d:Ea (r.1,((r.2.1.1,r.2.1.2),((r.2.2.1.1,r.2.2.1.2),(r.2.2.2.1,r.2.2.2.2))))=some (decide (r.2.2.2.1≠2)):=ua r b;by_cases c:r.2.2.2.1=1
  .rw[AG (by simpa using c),Ae (by omega),Ae (by omega)];rfl
  rw[AF c,Bf,Ag,d,Ad];by_cases a:r.2.2.2.1=2
  .rw[AG (by simpa using a),Ae (by omega),Af a];rfl
  rw[AF a,Af (by omega)];rfl
end
end Go.Vs
