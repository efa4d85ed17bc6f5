import Derived.Test.YteaoaehkkcbmbaaGreatDoorVsQvc
set_option linter.all false
namespace Go.Vs
noncomputable section
def Za{α σ ρ:Type}{step:σ->Option (σ ⊕ ρ)}(c:Nat->σ)(x:List α)(p:α->Bool)(no b:ρ)
  (n:∀(i:Nat) (h:i<x.length),step (c i)=if p x[i]=true then some (.inl (c (i+1))) else some (.inr no)) (l:step (c x.length)=some (.inr b)) (e:σ) (g:e=c 0):
  Bd step e=some (if x.all p=true then b else no):=by
 rw[gq (step:=step) c x (λa=>!p a) (λ_=>no) b (λi m=>by
  rw[n i m];cases p x[i]<;>rfl) l e g]
 cases d:x.findIdx? (λa=>!p a) with
 |none=>
  rw[Y1]at d;rw[Af (DE.2 λa k=>by simpa using d a k)]
 |some i=>
  rw[Y0]at d;obtain⟨j,f,_⟩:=d;rw[Ae (λh=>by
   have:=DE.1 h _ (EN j);rw[this]at f;cases f)]
def ic{ρ:Type}(c:Prop)[Decidable c](r:ρ)(k:Unit->Option ρ):AC (some (if c then (Sum.inl ():Unit ⊕ ρ) else .inr r)) k=if c then k () else some r:=by
 split<;>rfl
def Pf(b:List UInt8):Bool:=decide (b.length<=120)
def Pu(m:Int)(w:Wr):Bool:=decide (0<=w.1/\w.1<=m)&&decide (w.2.length<=120)
def ob(f:List (List UInt8))(g:List Wr)(h:Int):CH f g h=(decide (1<=(f.length:Int)/\(f.length:Int)<=64)&&decide ((g.length:Int)<=40)&&decide (-1<=h/\h<=1000)&&f.all Pf&&g.all (Pu ((f.length:Int)-1))):=by
 rw[J7];simp only[CH,A6,AA,DE,Pf,Pu];constructor
 .rintro ⟨a,b,c,d,e⟩;exact⟨⟨⟨⟨⟨by omega,by omega⟩,by omega⟩,c⟩,d⟩,λw i=>⟨⟨(e w i).1,(e w i).2.1⟩,(e w i).2.2⟩⟩
 rintro ⟨⟨⟨⟨a,b⟩,c⟩,d⟩,e⟩;exact⟨⟨by omega,by omega⟩,by omega,c,d,λw i=>⟨(e w i).1.1,(e w i).1.2,(e w i).2⟩⟩
def aV{x:Dv}(h:GP x):K9 x=some (CH x.1 x.2.1 x.2.2.1):=by
 obtain⟨a,b,c,e⟩:=x;obtain⟨l,m,n,o⟩:=h;simp only at l m n o;have k:Br .i64 (Am a) 1=(a.length:Int)-1:=E8 (by simp only[Av];omega) (by simp only[Av];omega);unfold K9;simp only[Av];rw[HD,Ad,ob];by_cases f:1<=(a.length:Int)/\(a.length:Int)<=64
 case neg=>rw[AG f,B2,Ah];simp
 rw[AF f,Bf,Ag];by_cases d:(b.length:Int)<=40
 case neg=>rw[D4 (by omega),Ah,AG d];simp
 rw[Ee d,Ag,AF d,HD,Ad];by_cases j:-1<=c/\c<=1000
 case neg=>rw[AG j,B2,Ah];simp
 rw[AF j,Bf,Ag];rw[Za (step:=Y4 (a,(b,(c,e)))) (λi=>(i:Int)) a Pf (.inr false) (.inl ()) (λi g=>by
  unfold Y4;simp only;rw[Bw (by simp only[Av];omega),Ah,BK g,Ad,CX (by omega)];unfold Pf;by_cases d:a[i].length<=120
  .rw[Ee (by simp only[Av];omega),Ag,AF d,Af (by simp)]
  .rw[D4 (by simp only[Av];omega),Ah,AG d,Ae (by simp)]) (by
  unfold Y4;simp only;rw[B1 (by simp only[Av];omega),Ag]) (0:Int) rfl,ic]
 split
 case isFalse hn=>
  have:a.all Pf=false:=by simpa using hn
  rw[this];simp
 rename_i p;rw[Za (step:=Y5 (a,(b,(c,e)))) (λi=>(i:Int)) b (Pu ((a.length:Int)-1)) false true (λi g=>by
  unfold Y5;simp only;rw[Bw (by simp only[Av];omega),Ah,BK g,Ad,k,HD,Ad,CX (by omega)];unfold Pu;by_cases f:0<=b[i].1/\b[i].1<=(a.length:Int)-1
  .rw[AF f,Bf,Ag];by_cases d:b[i].2.length<=120
   .rw[Ee (by simp only[Av];omega),Ag,AF d,Af (by simp)]
   rw[D4 (by simp only[Av];omega),Ah,AG d,Ae (by simp)]
  .rw[AG f,B2,Ah,Ae (by simp)]) (by
  unfold Y5;simp only;rw[B1 (by simp only[Av];omega),Ag]) (0:Int) rfl,p]
 cases b.all (Pu ((a.length:Int)-1))<;>simp
def kW{x:Dv}(h:GP x):P7 x=some (CH x.1 x.2.1 x.2.2.1):=by
 obtain⟨a,b,e,d⟩:=x;obtain⟨k,l,m,n⟩:=h;simp only at k l m n;have j:Br .i64 (Am a) 1=(a.length:Int)-1:=E8 (by simp only[Av];omega) (by simp only[Av];omega);unfold P7;simp only;rw[Za (step:=YJ (a,(b,(e,d)))) (λi=>(i:Int)) a Pf (.inr false) (.inl ()) (λi g=>by
  unfold YJ;simp only;rw[Bw (by simp only[Av];omega),Ah,BK g,Ad,CX (by omega)];unfold Pf;by_cases c:a[i].length<=120
  .rw[Ee (by simp only[Av];omega),Ag,AF c,Af (by simp)]
  .rw[D4 (by simp only[Av];omega),Ah,AG c,Ae (by simp)]) (by
  unfold YJ;simp only;rw[B1 (by simp only[Av];omega),Ag]) (0:Int) rfl,ic]
 rw[ob];split
 case isFalse hn=>
  have:a.all Pf=false:=by simpa using hn
  rw[this];simp
 rename_i o;rw[Za (step:=YK (a,(b,(e,d)))) (λi=>(i:Int)) b (Pu ((a.length:Int)-1)) (.inr false) (.inl ()) (λi g=>by
  unfold YK;simp only;rw[Bw (by simp only[Av];omega),Ah,BK g,Ad,j,Ef,Ad,Ad,CX (by omega)];unfold Pu;by_cases f:0<=b[i].1/\b[i].1<=(a.length:Int)-1
  .rw[AF f,Bf,Ag];by_cases c:b[i].2.length<=120
   .rw[Ee (by simp only[Av];omega),Ag,AF c,Af (by simp)]
   rw[D4 (by simp only[Av];omega),Ah,AG c,Ae (by simp)]
  .rw[AG f,B2,Ah,Ae (by simp)]) (by
  unfold YK;simp only;rw[B1 (by simp only[Av];omega),Ag]) (0:Int) rfl,ic]
 split
 case isFalse hn=>
  have:b.all (Pu ((a.length:Int)-1))=false:=by simpa using hn
  rw[this];simp
 rename_i p;simp only[Av];rw[Ef,Ad,o,p];simp only[PL];by_cases f:1<=(a.length:Int)/\(a.length:Int)<=64
 case neg=>rw[AG f,Ag];simp
 rw[AF f,Ah];by_cases c:(b.length:Int)<=40
 case neg=>rw[JC (by omega),Ag,AG c];simp
 rw[HC c,Ah,Ef,Ad,AF c];simp
def VC{x:Dv}(h:GP x):Lx x=some x:=by
 obtain⟨c,a,e,d⟩:=x;obtain⟨n,k,o,m⟩:=h;simp only at n k o m;unfold Lx;simp only;rw[MS (step:=YC (c,(a,(e,d)))) (x:=c) (f:=λb=>b) (l0:=[]) (λl i g j=>by
  have:=k _ (EN g);simp only[Ay,A7]at j;unfold YC;simp only;rw[Bw (by simp only[Av];omega),Ah,BK g,Ad,LQ (by omega),Ad,B8 (by omega),AY,CX (by omega)];rfl) (λl=>by
  unfold YC;simp only;rw[B1 (by simp only[Av];omega),Ag]),A4]
 rw[MS (step:=YD (c,(a,(e,d)))) (x:=a) (f:=λb=>b) (l0:=[]) (λl i g j=>by
  have:=m _ (EN g);simp only[Ay,A7]at j;unfold YD;simp only;rw[Bw (by simp only[Av];omega),Ah,BK g,Ad,LQ (by omega),Ad,B8 (by omega),AY,CX (by omega)];rfl) (λl=>by
  unfold YD;simp only;rw[B1 (by simp only[Av];omega),Ag]),A4]
 simp
def bu{x:Dv}(h:GP x):PC x=some x:=by
 obtain⟨c,a,e,d⟩:=x;obtain⟨n,k,o,m⟩:=h;simp only at n k o m;unfold PC;simp only;rw[MS (step:=YO (c,(a,(e,d)))) (x:=c) (f:=λb=>b) (l0:=[]) (λl i g j=>by
  have:=k _ (EN g);simp only[Ay,A7]at j;unfold YO;simp only;rw[Bw (by simp only[Av];omega),Ah,BK g,Ad,B8 (by omega),AY,B8 (by omega),AY,CX (by omega)];rfl) (λl=>by
  unfold YO;simp only;rw[B1 (by simp only[Av];omega),Ag]),A4]
 rw[MS (step:=YP (c,(a,(e,d)))) (x:=a) (f:=λb=>b) (l0:=[]) (λl i g j=>by
  have:=m _ (EN g);simp only[Ay,A7]at j;unfold YP;simp only;rw[Bw (by simp only[Av];omega),Ah,BK g,Ad,Ad,B8 (by omega),AY,B8 (by omega),AY,CX (by omega)];rfl) (λl=>by
  unfold YP;simp only;rw[B1 (by simp only[Av];omega),Ag]),A4]
 simp
def mD(x:Dv)(n:Int)(b:List UInt8):Dv:=(x.1,dJ x.1 x.2.1 x.2.2.1 x.2.2.2 n b)
def EQ(x:Dv):Bool:=CH x.1 x.2.1 x.2.2.1
def gt(x:Dv):Dv:=aK x.1 x.2.1 x.2.2.1 x.2.2.2
def Zmi{e:List (List UInt8)}{c:List Wr}{a:Int}{b:Bool}(g:-1<=a/\a<=1000):R9 (e,(c,(a,b)))=some (Kr a,(Gx a,N1 a b)):=by
 unfold R9 Kr Gx N1;simp only[Eu];by_cases d:a=0
 .subst d;rfl
 rw[AG d,Ag,Ae d,Ae d,show (a==0)=false by simp[d]];by_cases f:0<a
 .rw[D4 f,Ah,Af f,E8 (by omega) (by omega)];rfl
 rw[Ee (by omega),Ag,Ae f];rfl
def qw{x:Dv}(g:-1<=x.2.2.1/\x.2.2.1<=1000):TS x=some ((x.1,x.2.1,Gx x.2.2.1,N1 x.2.2.1 x.2.2.2),Kr x.2.2.1):=by
 obtain⟨f,c,a,e⟩:=x;simp only at g;unfold TS Kr Gx N1;simp only[Eu];by_cases b:a=0
 .subst b;rfl
 rw[AG b,Ag,Ae b,Ae b,show (a==0)=false by simp[b]];by_cases d:0<a
 .rw[D4 d,Ah,Af d,A4,E8 (by omega) (by omega)];rfl
 rw[Ee (by omega),Ag,Ae d,A4];rfl
def u9{x:Dv}{n:Int}{b:List UInt8}(h:GP x)(l:-1<=x.2.2.1/\x.2.2.1<=1000)(t:b.length<=1048576):KE (x,(n,b))=some (Ff x.1 x.2.1 x.2.2.1 x.2.2.2 n b):=by
 obtain⟨a,c,e,d⟩:=x;obtain⟨p,q,r,s⟩:=h;simp only at p q r s l;have o:Br .i64 (Am a) 1=(a.length:Int)-1:=E8 (by simp only[Av];omega) (by simp only[Av];omega);unfold KE;simp only[o];cases d with
 |true=>rw[Ah,Pv (.inl rfl)]
 |false=>
 rw[Ag,Ef,Ad];by_cases i:0<=n/\n<=(a.length:Int)-1
 case neg=>rw[AG i,B2,Ah,Pv (.inr (.inl i))]
 rw[AF i,Bf,Ag];by_cases u:b.length<=120
 case neg=>rw[D4 (by simp only[Av];omega),Ah,Pv (.inr (.inr (.inl (by omega))))]
 rw[Ee (by simp only[Av];omega),Ag];by_cases hd:c.length<40
 case neg=>rw[OJ (by simp only[Av];omega),Ah,Pv (.inr (.inr (.inr (by omega))))]
 rw[Nj (by simp only[Av];omega),Ag,Zmi l,Ad];have f:¬(false=true\/¬(0<=n/\n<=(a.length:Int)-1)\/120<b.length\/40<=c.length):=by
  rintro (h|h|h|h)
  .cases h
  .exact h i
  .omega
  omega
 by_cases g:e=0
 .obtain⟨m,j,k⟩:=bN (down:=false) g;simp only[m,j,k,B2,Ah];rw[wy f g]
 obtain⟨j,k⟩:=bM (down:=false) g;simp only[j,k,Bf,Ag];rw[B8 (by omega),AY,B8 (by omega),AY,mC f g];rfl
def Qh{x:Dv}(h:EQ x=true):GP x:=by
 obtain⟨⟨a,b⟩,c,d,e,f⟩:=Hk h;exact⟨by omega,λb g=>by have:=e b g;omega,by omega,λw i=>by have:=(f w i).2.2;omega⟩
def Zii{x:Dv}{n:Int}{b:List UInt8}(h:GP x)(r:b.length<=1048576):J5 (x,(n,b))=some (mD x n b):=by
 have p:=h.1;have q:=h.2.2.1;have l:Br .i64 (Am x.1) 1=(x.1.length:Int)-1:=E8 (by simp only[Av];omega) (by simp only[Av];omega);unfold J5 mD;simp only[l];rw[show Lx (x.1,(x.2.1,(x.2.2.1,x.2.2.2)))=some x from VC h,Ad,show K9 (x.1,(x.2.1,(x.2.2.1,x.2.2.2)))=some (CH x.1 x.2.1 x.2.2.1) from aV h,Ad];cases g:CH x.1 x.2.1 x.2.2.1 with
 |false=>rw[B2,Ah,Zp5 g]
 |true=>
  obtain⟨_,o,i,_,_⟩:=Hk g;rw[Bf,Ag,wz g];cases m:x.2.2.2 with
  |true=>rw[Ah,Pv (.inl rfl)]
  |false=>
  rw[Ag,HD,Ad];by_cases d:0<=n/\n<=(x.1.length:Int)-1
  case neg=>rw[AG d,B2,Ah,Pv (.inr (.inl d))]
  rw[AF d,Bf,Ag];by_cases s:b.length<=120
  case neg=>rw[D4 (by simp only[Av];omega),Ah,Pv (.inr (.inr (.inl (by omega))))]
  rw[Ee (by simp only[Av];omega),Ag,Eu];by_cases hd:x.2.1.length=40
  .rw[AF (by simp only[Av];omega),Ah,Pv (.inr (.inr (.inr (by omega))))]
  rw[AG (by simp only[Av];omega),Ag];have a:¬(false=true\/¬(0<=n/\n<=(x.1.length:Int)-1)\/120<b.length\/40<=x.2.1.length):=by
   rintro (h|h|h|h)
   .cases h
   .exact h d
   .omega
   omega
  have k:=qw (x:=(x.1,(x.2.1,(x.2.2.1,false)))) i;rw[k,Ad];simp only;by_cases c:x.2.2.1=0
  .obtain⟨j,e,f⟩:=bN (down:=false) c;simp only[j,e,f,Ag,A4];rw[wy a c]
  obtain⟨e,f⟩:=bM (down:=false) c;simp only[e,f,Ah];rw[LQ (by omega),Ad,B8 (by omega),AY,A4,mC a c];rfl
def uX{x:Dv}(h:GP x)(b:-1<=x.2.2.1/\x.2.2.1<=1000)(a:∀w∈x.2.1,0<=w.1/\w.1<=(x.1.length:Int)-1):Ka x=some (E6 x.1 x.2.1 x.2.2.1 x.2.2.2):=by
 unfold Ka;have c:=h.1;have d:=h.2.2.1;rw[AF (by exact⟨b,by omega,by omega,a⟩),AY]
def Zh0{x:Dv}(h:GP x):KA x=some (gt x):=by
 have t:=h.2.2.1;unfold KA gt;rw[show Lx (x.1,(x.2.1,(x.2.2.1,x.2.2.2)))=some x from VC h,Ad,show K9 (x.1,(x.2.1,(x.2.2.1,x.2.2.2)))=some (CH x.1 x.2.1 x.2.2.1) from aV h,Ad];cases a:CH x.1 x.2.1 x.2.2.1 with
 |false=>rw[B2,Ah,Zbr a]
 |true=>
  obtain⟨_,p,g,q,j⟩:=Hk a;rw[Bf,Ag,qK a];cases o:x.2.2.2 with
  |true=>rw[Ah,qI rfl]
  |false=>
  rw[Ag];have m:=qw (x:=(x.1,(x.2.1,(x.2.2.1,false)))) g;rw[m,Ad];simp only;by_cases b:x.2.2.1=0
  .obtain⟨l,c,d⟩:=bN (down:=false) b;simp only[l,c,d,B2,Ah];rw[b,qJ rfl]
  obtain⟨c,d⟩:=bM (down:=false) b;simp only[c,d,Bf,Ag];rw[show Bd (Y6 ((x.1,(x.2.1,(Gx x.2.2.1,false))),true)) (x.1,0)=some (.inl (JA x.1 x.2.1)) from HI (λi=>(JA x.1 (x.2.1.take i),(i:Int))) x.2.1.length _ (λi e=>by
   obtain⟨n,r,s⟩:=j _ (EN e);obtain⟨k,a⟩:=Gb n;have f:k<(JA x.1 (x.2.1.take i)).length:=by rw[qL];omega
   unfold Y6;simp only;rw[Bw (by simp only[Av];omega),Ah,BK e,Ad,LQ (by omega),Ad,a,BK (i:=k) f,Ad,CX (by omega),qM e a];rfl) (by
   unfold Y6;simp only;rw[B1 (by simp only[Av];omega),Ag,Jd]) (x.1,0) rfl,A4,aJ b]
def O1{x:Dv}(a:1<=x.1.length/\x.1.length<=64)(c:x.2.1.length<=40)(d:-1<=x.2.2.1/\x.2.2.1<=1000)(e:∀b∈x.1,b.length<=120)(f:∀w∈x.2.1,0<=w.1/\w.1<=(x.1.length:Int)-1/\w.2.length<=120):EQ x=true:=by
 unfold EQ CH;exact AF ⟨a,c,d,e,f⟩
def Zhk(g n:Int):List UInt8:=(Ci g++Ci n)++Ci (EP (Ci g++Ci n))
def Qx(g n:Int):Bool:=decide (1<=g/\g<=60000)&&decide (0<=n/\n<=30)
def GV(g n:Int):List UInt8:=if Qx g n=true then Zhk g n else []
def Zmh{g n:Int}:XJ (g,n)=some (GV g n):=by
 unfold XJ GV Qx;simp only[Ef,Ad];by_cases a:1<=g/\g<=60000
 case neg=>rw[AG a,B2,Ah];rfl
 rw[AF a,Bf,Ag];by_cases b:0<=n/\n<=30
 case neg=>rw[AG b,B2,Ah];rfl
 rw[AF b,Bf,Ag];have c:=Na (Ci g++Ci n);rw[QQ (by simp) (by omega) (by omega),Ad,QQ (by simp[Ci]) (by omega) (by omega),Ad];simp only[A0];rw[cE (by simp[Ci]),Ad,QQ (by simp[Ci]) (by omega) (by omega)];rfl
def Zh7{g n:Int}:TO (g,n)=some (GV g n):=by
 unfold TO GV Qx;simp only[HD,Ad];by_cases a:1<=g/\g<=60000
 case neg=>rw[AG a,B2,Ah];rfl
 rw[AF a,Bf,Ag];by_cases b:0<=n/\n<=30
 case neg=>rw[AG b,B2,Ah];rfl
 rw[AF b,Bf,Ag];have c:=Na (Ci g++Ci n);rw[Qz (by simp) (by omega) (by omega),Ad,Qz (by simp[Ci]) (by omega) (by omega),Ad];simp only[A0];rw[VF (by simp[Ci]),Ad,Qz (by simp[Ci]) (by omega) (by omega)];rfl
def Zhl{g n:Int}:(GV g n).length=if Qx g n=true then 6 else 0:=by
 unfold GV;split<;>rfl
def Sz(x:Dv)(n:Int):Dv:=Nd x.1 x.2.1 x.2.2.1 x.2.2.2 n
def Ha(x:Dv)(n:Int):List UInt8:=Pb x.1 x.2.1 x.2.2.1 n
def Zmb{x:Dv}{n:Int}(h:GP x):Uc (x,n)=some (Sz x n):=by
 unfold Uc Sz;simp only;have d:=h.1;have e:=h.2.2.1;rw[bu h,Zb,Ad,kW h,Zb,Ad,AF (by exact⟨by omega,by omega,λb a=>by have:=h.2.1 b a;omega,λw c=>by have:=h.2.2.2 w c;omega⟩),AY]
def u6{x:Dv}{n:Int}(h:GP x):PA (x,n)=some (Ha x n):=by
 unfold PA Ha;simp only;have d:=h.1;have e:=h.2.2.1;rw[kW h,Zb,Ad,AF (by exact⟨by omega,by omega,λb a=>by have:=h.2.1 b a;omega,λw c=>by have:=h.2.2.2 w c;omega⟩),AY]
def qu{x : Dv}{n : Int}(h : GP x) : Ru (x, n) = some (Ha x n) := by
  have A := h.1;have B := h.2.2.1;have u : Br .i64 (Am x.1) 1 = (x.1.length : Int) - 1 := E8 (by simp only[Av]; omega) (by simp only[Av]; omega);have t : Br .i64 (Am x.2.1) 1 = (x.2.1.length : Int) - 1 := E8 (by simp only[Av]; omega) (by simp only[Av]; omega);unfold Ru Ha;simp only[u, t];rw[show K9 (x.1, (x.2.1, (x.2.2.1, x.2.2.2))) = some (CH x.1 x.2.1 x.2.2.1) from aV h, Ad];cases l : CH x.1 x.2.1 x.2.2.1 with
  |false => rw[B2, Ah, ba (λh => by rw[l] at h; cases h.1)]
  |true=>
    obtain ⟨_, y, z, m, o⟩ := Hk l;rw[Bf, Ag, HD, Ad];by_cases d : 0 ≤ n ∧ n ≤ (x.1.length : Int) - 1
    case neg => rw[AG d, B2, Ah, ba (λh => d h.2)]
    rw[AF d, Bf, Ag];obtain ⟨k, rfl⟩ := Gb d.1;have c : k < x.1.length := by omega
    have v := m _ (EN c);rw[tH l c];obtain ⟨r, q, i⟩ := IO (step := Y8 (x, (k : Int))) (λj (s : Int) => s = ((x.2.1.length - j : Nat) : Int) - 1 ∧ Iv x.2.1 k x.1[k] = Iv (x.2.1.take (x.2.1.length - j)) k x.1[k]) x.2.1.length (λr => (r = .inl () ∧ Iv x.2.1 k x.1[k] = x.1[k]) ∨ r = .inr (Iv x.2.1 k x.1[k]))
      (fun j s C a => by
        obtain ⟨rfl, f⟩ := a;have e : x.2.1.length - j - 1 < x.2.1.length := by omega
        have w := (o _ (EN e)).2.2;have p : ((x.2.1.length - j : Nat) : Int) - 1 = ((x.2.1.length - j - 1 : Nat) : Int) := by omega
        unfold Y8;simp only;rw[p, OJ (by omega), Ah, BK e, Ad, Eu];by_cases g : x.2.1[x.2.1.length - j - 1].1 = (k : Int)
        · rw[AF g, Ah, Ad, LQ (by omega), Ad]
          refine .inr ⟨_, rfl, .inr ?_⟩;have := tF (b := x.1[k]) e g;rw[show x.2.1.length - j - 1 + 1 = x.2.1.length - j by omega] at this;rw[f, this]
        · rw[AG g, Ag]
          refine .inl ⟨_, rfl, ?_, ?_⟩
          · rw[E8 (by omega) (by omega)]; omega
          · have := tG (b := x.1[k]) e g
            rw[show x.2.1.length - j - 1 + 1 = x.2.1.length - j by omega] at this;rw[f, this, show x.2.1.length - (j + 1) = x.2.1.length - j - 1 by omega])
      (fun s a => by
        obtain ⟨rfl, f⟩ := a;refine ⟨.inl (), ?_, .inl ⟨rfl, ?_⟩⟩
        · unfold Y8
          simp only;rw[Nj (by omega), Ag]
        · rw[f, UG]; rfl)
      ((x.2.1.length : Int) - 1) ⟨by simp, by simp⟩
    rw[q];rcases i with ⟨rfl, i⟩ | rfl
    · rw[A4, BK c, Ad, LQ (by omega), Ad, i]
    rfl
def Jt(n:Int):Dv:=if 1<=n/\n<=64 then (List.replicate n.toNat [],[],-1,false) else ([],[],0,false)
def uV{n:Int}:Ua n=some (Jt n):=by
 unfold Ua Jt;rw[Ef,Ad];by_cases h:1<=n/\n<=64
 case neg=>rw[AG h,B2,Ah,Ae h]
 rw[AF h,Bf,Ag,Af h];obtain⟨k,rfl⟩:=Gb (show 0<=n by omega);rw[show Bd (YI (k:Int)) ([],0)=some (.inl (List.replicate k [])) from HI (λi=>(List.replicate i [],(i:Int))) k _ (λi a=>by
  unfold YI;simp only;rw[Bw (by omega),Ah,B8 (by simp;omega),AY,CX (by omega)];rw[show Ax (List.replicate i ([]:List UInt8)) [[]]=List.replicate (i+1) [] from by rw[Ax,List.replicate_succ']]) (by
  unfold YI;simp only;rw[B1 (by omega),Ag]) ([],0) rfl,A4]
 rfl
def Zhy{n:Int}:Xu n=some (Jt n):=by
 unfold Xu Jt;rw[HD,Ad];by_cases h:1<=n/\n<=64
 case neg=>rw[AG h,B2,Ah,Ae h]
 rw[AF h,Bf,Ag,Af h,LM,AY];obtain⟨k,rfl⟩:=Gb (show 0<=n by omega);rw[jQ (by omega) (by omega),AY];rfl
end
end Go.Vs
