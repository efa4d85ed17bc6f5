import Derived.Test.YteaoaehkkcbmbaaGreatDoorVsQvg
set_option linter.all false
namespace Go.Vs
noncomputable section
def FE(l:List UInt8)(a:Int):List UInt8:=if a<0 then [] else l.drop a.toNat
def NE(l:List UInt8)(k:Nat):FE l (k:Int)=l.drop k:=by
 unfold FE;rw[Ae (by omega)];rfl
def lJ{l:List UInt8}{a:Int}(h:a<0):FE l a=[]:=Af h
def ja{t:List UInt8}(h:t.length<2):Cy t=none:=by
 match t,h with
 |[],_=>rfl
 |[_],_=>rfl
def wx(x y:UInt8):BM .i64 (C9 .i64 (Az .i64 (Aj x)) 8) (Az .i64 (Aj y))=((x.toNat*256+y.toNat:Nat):Int):=by
 have a:=Cx x;have b:=Cx y;simp only[Dz];rw[Jp (k:=.i64) (by show _<2^63;omega),Jp (k:=.i64) (by show _<2^63;omega)];rw[show C9 .i64 (x.toNat:Int) 8=((x.toNat*2^8:Nat):Int) from SD (k:=.i64) (s:=8) (by decide) (by show _<2^63;omega)];rw[N3 (c:=x.toNat*2^8) (q:=x.toNat) (j:=8) rfl (by omega) (by omega) (by omega)]
def og{l:List UInt8}{k:Nat}(h:k+2<=l.length):l.drop k=l[k]'(by omega)::l[k+1]'(by omega)::l.drop (k+2):=by
 rw[H1 (by omega),H1 (by omega)]
def WE{l:List UInt8}{a:Int}(c:l.length<=1048576000):M1 (l,a)=some (match Cy (FE l a) with|none=>(0,(0,false))|some (n,_)=>(n,(a+2,true))):=by
 unfold M1;have e:Br .i64 (Am l) 2=(l.length:Int)-2:=E8 (by simp only[Av];omega) (by simp only[Av];omega);simp only[e,Ef,Ad];by_cases h:0<=a/\a<=(l.length:Int)-2
 .obtain⟨k,rfl⟩:=Gb h.1;rw[AF h,Bf,Ag,BK (show k<l.length by omega),Ad,CS (by omega) (by omega),show (k:Int)+1=((k+1:Nat):Int) by omega,BK (show k+1<l.length by omega),Ad,wx,CS (by omega) (by omega)];rw[NE,og (by omega)];rfl
 rw[AG h,B2,Ah];by_cases b:a<0
 .rw[lJ b];rfl
 obtain⟨k,rfl⟩:=Gb (show 0<=a by omega);rw[NE,ja (by rw[Di];omega)]
def VD{l:List UInt8}{a:Int}(c:l.length<=1048576000):TN (l,a)=some (match Cy (FE l a) with|none=>(0,(0,false))|some (n,_)=>(n,(a+2,true))):=by
 unfold TN;have e:Br .i64 (Am l) 2=(l.length:Int)-2:=E8 (by simp only[Av];omega) (by simp only[Av];omega);simp only[e];by_cases b:a<0
 .rw[Bw b,Ah,lJ b];rfl
 rw[B1 (by omega),Ag];obtain⟨k,rfl⟩:=Gb (show 0<=a by omega);by_cases h:(k:Int)<=(l.length:Int)-2
 .rw[Ee (by omega),Ag,BK (show k<l.length by omega),Ad,CS (by omega) (by omega),show (k:Int)+1=((k+1:Nat):Int) by omega,BK (show k+1<l.length by omega),Ad,wx,CS (by omega) (by omega)];rw[NE,og (by omega)];rfl
 rw[D4 (by omega),Ah,NE,ja (by rw[Di];omega)]
def vZ{F:List UInt8×Int->Option (Int×Int×Bool)}{l:List UInt8}{a:Int}(t:l.length<=1048576000)(j:F (l,a)=some (match Cy (FE l a) with|none=>(0,(0,false))|some (n,_)=>(n,(a+2,true)))):(Aa (F (l,a)) (λb=>(Ab (Ap
 b.2.2) (some ([],(0,false))) (Ab (Cr b.1 60) (some ([],(0,false))) (Ab (Cr b.1 (Br .i64 (Am l) b.2.1)) (some ([],(0,false))) (A3 (De b.2.1 (Au .i64
 b.2.1 b.1) (Am l)) (some ((BA ((A9 (Au .i64 b.2.1 b.1))-(A9 b.2.1)) (E9 (A9 b.2.1) l)),((Au .i64 b.2.1 b.1),true)))))))):Option (List UInt8×Int×Bool))=some (match Fl (FE l a) with|none=>([],(0,false))|some (s,_)=>(s,(a+2+s.length,true))):=by
 rw[j];cases c:Cy (FE l a) with
 |none=>unfold Fl;rw[c];rfl
 |some v=>
  obtain⟨n,q⟩:=v;have p:¬a<0:=λh=>by rw[lJ h]at c;cases c
  obtain⟨k,rfl⟩:=Gb (show 0<=a by omega);obtain⟨e,u,w⟩:=NM c;rw[NE]at e;have r:k+2+q.length=l.length:=by
   have:=DU List.length e;simp only[Di,Cb,Ci,Aq,Ay]at this;omega
  have o:q=l.drop (k+2):=by
   have:=DU (List.drop 2) e;rw[MC]at this;rw[this];rfl
  unfold Fl;simp only[c,Ad,Bf,Ag];by_cases i:n<=60
  .rw[Ee (by omega),Ag,E8 (by simp only[Av];omega) (by simp only[Av];omega)];by_cases m:n<=q.length
   .rw[Ee (by simp only[Av];omega),Ag,Af ⟨i,m⟩,CS (by omega) (by omega),show De ((k:Int)+2) ((k:Int)+2+n) (Am l)=true from AF (by simp only[Av];omega),AY];have d:A9 ((k:Int)+2+n)-A9 ((k:Int)+2)=n.toNat:=by unfold A9;omega
    have f:A9 ((k:Int)+2)=k+2:=by unfold A9;omega
    have g:((q.take n.toNat).length:Int)=n:=by rw[EF];omega
    rw[d,f];simp only[BA,E9,<-o,g]
   rw[D4 (by simp only[Av];omega),Ah,Ae (by omega)]
  rw[D4 (by omega),Ah,Ae (by omega)]
def u0{l:List UInt8}{a:Int}(b:l.length<=1048576000):XI (l,a)=some (match Fl (FE l a) with|none=>([],(0,false))|some (s,_)=>(s,(a+2+s.length,true))):=vZ b (WE b)
def qs{l:List UInt8}{a:Int}(b:l.length<=1048576000):Xy (l,a)=some (match Fl (FE l a) with|none=>([],(0,false))|some (s,_)=>(s,(a+2+s.length,true))):=vZ b (VD b)
def Rd(l:List UInt8)(a:Int)(t:List UInt8):Prop:=0<=a/\a<=l.length/\FE l a=t
def Rd.nat{l t:List UInt8}{a:Int}(h:Rd l a t):∃k:Nat,a=k/\k<=l.length/\t=l.drop k:=by
 obtain⟨b,d,c⟩:=h;obtain⟨k,rfl⟩:=Gb b;exact⟨k,rfl,by omega,by rw[<-c,NE]⟩
def Rd.mk{l:List UInt8}{k:Nat}(h:k<=l.length):Rd l k (l.drop k):=⟨by omega,by omega,NE l k⟩
def Rd.len{l t:List UInt8}{a:Int}(h:Rd l a t):a+t.length=l.length:=by
 obtain⟨k,rfl,b,rfl⟩:=h.nat;rw[Di];omega
def Rd.app{l u t:List UInt8}{a:Int}(h:Rd l a (u++t)):Rd l (a+u.length) t:=by
 have c:=h.len;obtain⟨k,rfl,d,b⟩:=h.nat;have:t=l.drop (k+u.length):=by
  rw[<-MC,<-b,U5]
 rw[this,show (k:Int)+(u.length:Int)=((k+u.length:Nat):Int) by omega];refine Rd.mk ?_;rw[Cb]at c;omega
def ML{α:Type}(l:List UInt8)(z:α)(o:Option (α×Int×Bool))(p:Option (α×List UInt8))(a:Int):Prop:=match p with
 |none=>o=some (z,(a,true))
 |some (v,q)=>∃b,o=some (v,(b,false))/\Rd l b q
def Zof{s:List UInt8}(h:s.length<=60):((I2 s).length:Int)=2+s.length:=by
 unfold I2;rw[Af h];simp[Ci];omega
def v0{F:List UInt8×Int->Option (List UInt8×Int×Bool)}{l t:List UInt8}{a:Int}(c:F (l,a)=some (match Fl (FE l a) with|none=>([],(0,false))|some (s,_)=>(s,(a+2+s.length,true))))(h:Rd l a t):
  ML l [] (Aa (F (l,a)) (λb=>(Ab false (some ([],(a,true))) (Ab (Ap b.2.2) (some ([],(a,true))) (some (b.1,(b.2.1,false))))))) (Fl t) a:=by
 rw[c,h.2.2];cases d:Fl t with
 |none=>rfl
 |some v=>
  obtain⟨s,q⟩:=v;obtain⟨e,f⟩:=Rc d;subst e;refine⟨_,rfl, ?_⟩;have:=h.app;rw[Zof f]at this;show Rd l (a+2+(s.length:Int)) q;rw[show a+2+(s.length:Int)=a+(2+s.length) by omega];exact this
def kc{l t:List UInt8}{a:Int}(b:l.length<=1048576000)(h:Rd l a t):ML l [] (L1 (l,(a,false))) (Fl t) a:=v0 (F:=XI) (u0 b) h
def iQ{l t:List UInt8}{a:Int}(b:l.length<=1048576000)(h:Rd l a t):ML l [] (Ly (l,(a,false))) (Fl t) a:=v0 (F:=Xy) (qs b) h
def kd{l:List UInt8}{a:Int}(b:l.length<=1048576000):L1 (l,(a,true))=some ([],(a,true)):=by
 unfold L1;simp only[u0 b,Ad];rfl
def a_{l:List UInt8}{a:Int}(b:l.length<=1048576000):Ly (l,(a,true))=some ([],(a,true)):=by
 unfold Ly;simp only[qs b,Ad];rfl
def QR{l t:List UInt8}{a:Int}(i:l.length<=1048576000)(h:Rd l a t):ML l 0 (Gl (l,(a,false))) (Cw t) a:=by
 have d:=h.len;unfold Gl;cases t with
 |nil=>
  show _=_;simp only[Ag];simp only[Ay]at d;rw[OJ (by simp only[Av];omega)];rfl
 |cons x q=>
  simp only[Aq]at d;have e:Rd l (a+1) q:=(show Rd l a ([x]++q) from h).app;refine⟨a+1, ?_,e⟩;obtain⟨k,rfl,g,b⟩:=h.nat;have c:k<l.length:=by omega
  rw[H1 c]at b;have f:x=l[k]:=(List.cons.inj b).1;simp only[Ag];rw[Nj (by simp only[Av];omega),Ag,CS (by omega) (by omega),E8 (by omega) (by omega),show (k:Int)+1-1=k by omega,BK c,Ad,<-f,Dz,Jp (k:=.i64) (by have:=Cx x;show _<2^63;omega)]
def Tl{l:List UInt8}{a:Int}:Gl (l,(a,true))=some (0,(a,true)):=rfl
def aY{l t:List UInt8}{a:Int}(b:l.length<=1048576000)(h:Rd l a t):ML l 0 (HP (l,(a,false))) (Cw t) a:=by
 have e:HP (l,(a,false))=Gl (l,(a,false)):=by
  unfold HP Gl;simp only[Ag];rw[B1 h.1,Ag]
 rw[e];exact QR b h
def VG{l:List UInt8}{a:Int}:HP (l,(a,true))=some (0,(a,true)):=rfl
def L7{α:Type}(l:List UInt8)(o:Option (α×Int×Bool))(p:Option (α×List UInt8)):Prop:=match p with
 |none=>∃v b,o=some (v,(b,true))
 |some (v,q)=>∃b,o=some (v,(b,false))/\Rd l b q
def oK{F:List UInt8×Int×Bool->Option (Int×Int×Bool)}{G:List UInt8×Int×Bool->Option (List UInt8×Int×Bool)}{l t:List UInt8}{a:Int}(x:∀{a:Int}{t:List UInt8},Rd l a t->ML l 0 (F (l,(a,false))) (Cw t) a)(y:∀{a:Int}{t:List UInt8},Rd l a t->ML l [] (G (l,(a,false))) (Fl t) a)(s:∀{a:Int},G (l,(a,true))=some ([],(a,true)))(h:Rd l a t):
  L7 l (Aa (F (l,(a,false))) (λf=>(Aa (G (l,(f.2.1,f.2.2))) (λg=>(some ((f.1,g.1),(g.2.1,g.2.2))))))) (Gi t):=by
 have d:=x h;unfold Gi;cases i:Cw t with
 |none=>
  rw[i]at d;rw[show F (l,(a,false))=some (0,(a,true)) from d];exact⟨(0,[]),a,by simp only[Ad,s]⟩
 |some v=>
  obtain⟨n,q⟩:=v;rw[i]at d;obtain⟨b,k,m⟩:=d;have e:=y m;rw[k];simp only[Ad];cases j:Fl q with
  |none=>
   rw[j]at e;rw[show G (l,(b,false))=some ([],(b,true)) from e];exact⟨(n,[]),b,rfl⟩
  |some w=>
   obtain⟨u,r⟩:=w;rw[j]at e;obtain⟨c,o,p⟩:=e;rw[o];exact⟨c,rfl,p⟩
def u_{l t:List UInt8}{a:Int}(b:l.length<=1048576000)(h:Rd l a t):L7 l (RB (l,(a,false))) (Gi t):=oK (F:=Gl) (G:=L1) (QR b) (kc b) (kd b) h
def aX{l t:List UInt8}{a:Int}(b:l.length<=1048576000)(h:Rd l a t):L7 l (JY (l,(a,false))) (Gi t):=oK (F:=HP) (G:=Ly) (aY b) (iQ b) (a_ b) h
def qx{l:List UInt8}{a:Int}(b:l.length<=1048576000):JY (l,(a,true))=some ((0,[]),(a,true)):=by
 unfold JY;simp only[VG,Ad,a_ b]
def HY(C:List UInt8×Int×Bool->Option (BI×Int×Bool))(l:List UInt8)(b:Int)(a d:Bool):Option ((Int×Bool×Int×List UInt8) ⊕ (A8×Int×Bool)):=Ab d (Aa (C (l,(b,a))) λc=>some (.inl (c.2.1,(c.2.2,(c.1.1,c.1.2))))) (some (.inl (b,(a,(0,[])))))
def xz{C:List UInt8×Int×Bool->Option (BI×Int×Bool)}{l t:List UInt8}{b:Int}(c:L7 l (C (l,(b,false))) (Gi t))(g:Rd l b t)(a:Bool):match (if a=true then Gi t else some ((0,[]),t)) with
  |none=>∃v p,HY C l b false a=some (.inl (p,(true,v)))
  |some (v,q)=>∃p,HY C l b false a=some (.inl (p,(false,v)))/\Rd l p q:=by
 unfold HY;cases a with
 |false=>exact⟨b,rfl,g⟩
 |true=>
  rw[Af rfl];simp only[Ah];cases d:Gi t with
  |none=>
   rw[d]at c;obtain⟨v,p,h⟩:=c;exact⟨v,p,by rw[h];rfl⟩
  |some w=>
   obtain⟨v,q⟩:=w;rw[d]at c;obtain⟨p,e,f⟩:=c;exact⟨p,by rw[e];rfl,f⟩
def oE{C:List UInt8×Int×Bool->Option (BI×Int×Bool)}{l:List UInt8}{b:Int}(c:C (l,(b,true))=some ((0,[]),(b,true)))(a:Bool):HY C l b true a=some (.inl (b,(true,(0,[])))):=by
 unfold HY;cases a with
 |false=>rfl
 |true=>rw[c];rfl
def xo(n:Nat)(h:n<256):Bg .i64 (n:Int) 1=((n%2:Nat):Int):=by
 rw[show (1:Int)=((1:Nat):Int) from rfl,Ni (k:=.i64) (by show _<2^63;omega) (by show _<2^63;omega),L8 (j:=1) rfl]
def xp(n:Nat)(h:n<256):Bg .i64 (n:Int) 2=((n / 2%2*2:Nat):Int):=by
 rw[show (2:Int)=((2:Nat):Int) from rfl,Ni (k:=.i64) (by show _<2^63;omega) (by show _<2^63;omega)];congr 1;have:∀m:Fin 256,m.val&&&2=m.val / 2%2*2:=by decide +kernel
 exact this ⟨n,h⟩
def nd{n:Nat}(h:n<256):Ak (Bg .i64 (n:Int) 1) 1=decide ((n:Int).toNat%2=1)/\AI (Bg .i64 (n:Int) 1) 0=decide ((n:Int).toNat%2=1)/\Ak (Bg .i64 (n:Int) 2) 2=decide ((n:Int).toNat / 2%2=1)/\AI (Bg .i64 (n:Int) 2) 0=decide ((n:Int).toNat / 2%2=1):=by
 rw[xo n h,xp n h];simp only[Ak,AI,Gn];refine⟨?_, ?_, ?_, ?_⟩<;>rw[J7]<;>simp<;>omega
def bS{t q:List UInt8}{n:Int}(h:Cw t=some (n,q)):∃m:Nat,n=m/\m<256:=by
 cases t with
 |nil=>cases h
 |cons x l=>
  simp only[Cw,Ac,A5]at h;exact⟨x.toNat,h.1.symm,Cx x⟩
def Vg{C:List UInt8×Int×Bool->Option (BI×Int×Bool)}{l t:List UInt8}{b:Int}{P:Prop}[Decidable P](a:L7 l (C (l,(b,false))) (Gi t))(c:Rd l b t):((if P then Gi t else some ((0,[]),t))=none->∃v p,HY C l b false (decide P)=some (.inl (p,(true,v))))/\(∀v q,(if P then Gi t else some ((0,[]),t))=some (v,q)->∃p,HY C l b false (decide P)=some (.inl (p,(false,v)))/\Rd l p q):=by
 have:=xz a c (decide P);simp only[AA]at this;refine⟨λh=>?_,λv q h=>?_⟩<;>rw[h]at this<;>exact this
def Zm4{l t:List UInt8}{a:Int}(d:l.length<=1048576000)(h:Rd l a t):L7 l (PD (l,(a,false))) (FX t):=by
 unfold PD FX;have f:=kc d h;cases B:Fl t with
 |none=>
  rw[B]at f;have j:L1 (l,(a,false))=some ([],(a,true)):=f;exact⟨_,_,by simp only[j,Ad,Tl,Ah];rfl⟩
 |some v=>
  obtain⟨L,N⟩:=v;rw[B]at f;obtain⟨x,j,Q⟩:=f;simp only[j,Ad];have g:=QR d Q;cases c:Cw N with
  |none=>
   rw[c]at g;have k:Gl (l,(x,false))=some (0,(x,true)):=g;exact⟨_,_,by simp only[k,Ad,Tl,Ah];rfl⟩
  |some w=>
   obtain⟨J,O⟩:=w;rw[c]at g;obtain⟨y,k,R⟩:=g;simp only[k,Ad];have i:=QR d R;cases e:Cw O with
   |none=>
    rw[e]at i;have n:Gl (l,(y,false))=some (0,(y,true)):=i;exact⟨_,_,by simp only[n,Ad,Ah];rfl⟩
   |some u=>
    obtain⟨b,D⟩:=u;rw[e]at i;obtain⟨X,n,F⟩:=i;simp only[n,Ad,Ag];obtain⟨m,rfl,K⟩:=bS c;obtain⟨T,t2,U,t4⟩:=nd K;have I:Ak b 1=decide (b=1):=Jq _ _;by_cases s:1<b
    .rw[Af s];exact⟨_,_,by simp only[D4 s,Bf,Ag,A4];rfl⟩
    rw[Ae s];have r:=Vg (C:=RB) (P:=(m:Int).toNat%2=1) (u_ d F) F;unfold HY at r;simp only[Ee (show b<=1 by omega),B2,Ah,Ea,Df,Ad,T,U,I];unfold Tc;cases A:(if (m:Int).toNat%2=1 then Gi D else some ((0,[]),D)) with
    |none=>
     obtain⟨v4,Z,o⟩:=r.1 A;exact⟨_,_,by simp only[o,A4,Bf,Ag];rfl⟩
    |some V=>
     obtain⟨M,E⟩:=V;obtain⟨Y,o,G⟩:=r.2 _ _ A;have q:=Vg (C:=RB) (P:=(m:Int).toNat / 2%2=1) (u_ d G) G;unfold HY at q;simp only[o,A4,B2,Ah];unfold Tb;cases z:(if (m:Int).toNat / 2%2=1 then Gi E else some ((0,[]),E)) with
     |none=>
      obtain⟨v5,p5,p⟩:=q.1 z;exact⟨_,_,by simp only[p,A4];rfl⟩
     |some W=>
      obtain⟨new,q5⟩:=W;obtain⟨H,p,S⟩:=q.2 _ _ z;exact⟨H,by simp only[p,A4],S⟩
def Zm5{l:List UInt8}{a:Int}(b:l.length<=1048576000):PD (l,(a,true))=some (([],((0,[]),((0,[]),(0,false)))),(a,true)):=by
 unfold PD;simp only[kd b,Tl,Ad,Ah];rfl
def fD:AI (Bg .i64 0 1) 0=false/\AI (Bg .i64 0 2) 0=false:=by decide +kernel
def oD{C:List UInt8×Int×Bool->Option (BI×Int×Bool)}{l t:List UInt8}{b:Int}{P:Prop}[Decidable P](c:L7 l (C (l,(b,false))) (Gi t))(d:Rd l b t):∃p f v,HY C l b false (decide P)=some (.inl (p,(f,v)))/\(f=false->∃q,Rd l p q):=by
 have h:=Vg (P:=P) c d;cases a:(if P then Gi t else some ((0,[]),t)) with
 |none=>
  obtain⟨v,p,e⟩:=h.1 a;exact⟨p,true,v,e,λh=>by cases h⟩
 |some w=>
  obtain⟨p,e,r⟩:=h.2 w.1 w.2 a;exact⟨p,false,w.1,e,λ_=>⟨_,r⟩⟩
def Zio{l t:List UInt8}{a:Int}(g:l.length<=1048576000)(h:Rd l a t):L7 l (P3 (l,(a,false))) (GD t):=by
 unfold P3 GD FX;have p:=iQ g h;cases F:Fl t with
 |none=>
  rw[F]at p;have y:Ly (l,(a,false))=some ([],(a,true)):=p;exact⟨_,_,by simp only[y,Ad,VG,fD,Ag,A4,Ah];rfl⟩
 |some v=>
  obtain⟨d,Z⟩:=v;rw[F]at p;obtain⟨H,y,r1⟩:=p;simp only[y,Ad];have q:=aY g r1;cases i:Cw Z with
  |none=>
   rw[i]at q;have z:HP (l,(H,false))=some (0,(H,true)):=q;exact⟨_,_,by simp only[z,Ad,VG,fD,Ag,A4,Ah];rfl⟩
  |some w=>
   obtain⟨T,q2⟩:=w;rw[i]at q;obtain⟨I,z,r2⟩:=q;simp only[z,Ad];obtain⟨m,rfl,V⟩:=bS i;obtain⟨t1,M,t3,N⟩:=nd V;have f:∀b,_:=λb=>oE (C:=JY) (l:=l) (b:=b) (qx g);unfold HY at f;have s:=aY g r2;cases n:Cw q2 with
   |none=>
    rw[n]at s;have A:HP (l,(I,false))=some (0,(I,true)):=s;exact⟨_,_,by simp only[A,Ad,M,N,f,A4,Ah];rfl⟩
   |some u=>
    obtain⟨c,L⟩:=u;rw[n]at s;obtain⟨b3,A,x⟩:=s;simp only[A,Ad,M,N];by_cases E:1<c
    .rw[Af E];obtain⟨X,R,v4,j,W⟩:=oD (C:=JY) (P:=(m:Int).toNat%2=1) (aX g x) x;unfold HY at j;simp only[j,A4];cases R with
     |true=>exact⟨_,_,by simp only[f,A4,Ah];rfl⟩
     |false=>
      obtain⟨G,o⟩:=W rfl;obtain⟨Y,S,v5,k,k5⟩:=oD (C:=JY) (P:=(m:Int).toNat / 2%2=1) (aX g o) o;unfold HY at k;simp only[k,A4,D4 E,Ah];cases S with
      |true=>exact⟨_,_,rfl⟩
      |false=>exact⟨_,_,rfl⟩
    rw[Ae E];have D:=Vg (C:=JY) (P:=(m:Int).toNat%2=1) (aX g x) x;unfold HY at D;unfold Tc;cases K:(if (m:Int).toNat%2=1 then Gi L else some ((0,[]),L)) with
    |none=>
     obtain⟨v4,X,j⟩:=D.1 K;exact⟨_,_,by simp only[j,A4,f,Ah];rfl⟩
    |some w4=>
     obtain⟨e,G⟩:=w4;obtain⟨b4,j,o⟩:=D.2 _ _ K;have B:=Vg (C:=JY) (P:=(m:Int).toNat / 2%2=1) (aX g o) o;unfold HY at B;simp only[j,A4];unfold Tb;cases J:(if (m:Int).toNat / 2%2=1 then Gi G else some ((0,[]),G)) with
     |none=>
      obtain⟨v5,Y,k⟩:=B.1 J;exact⟨_,_,by simp only[k,A4,Ah];rfl⟩
     |some w5=>
      obtain⟨new,q5⟩:=w5;obtain⟨O,k,r5⟩:=B.2 _ _ J;have U:d.length<9223372036854775807:=by have:=(Rc F).2;omega
      have Q:KB (d,((e.1,e.2),((new.1,new.2),((m:Int),decide (c=1)))))=some (Co (d,e,new,(m:Int),decide (c=1))):=aW (r:=(d,e,new,(m:Int),decide (c=1))) U;simp only[k,A4,Ag,Ee (show c<=1 by omega),Jq,Q,Ad];cases hr:Co (d,e,new,(m:Int),decide (c=1)) with
      |false=>exact⟨_,_,rfl⟩
      |true=>exact⟨O,rfl,r5⟩
end
end Go.Vs
