import Derived.Test.YteaoaehkkcbmbaaGreatDoorVsQvi
set_option linter.all false
namespace Go.Vs
noncomputable section
structure Reader {α:Type} (l:List UInt8) (F:List UInt8×Int×Bool->Option (α×Int×Bool)) (p:List UInt8->Option (α×List UInt8)):Prop where
 good:∀{a:Int} {t:List UInt8},Rd l a t->L7 l (F (l,(a,false))) (p t)
 bad:∀a:Int,∃v b,F (l,(a,true))=some (v,(b,true))
def ML.w{α:Type}{l:List UInt8}{z:α}{o:Option (α×Int×Bool)}{p:Option (α×List UInt8)}{a:Int}(h:ML l z o p a):L7 l o p:=by
 cases p with
 |none=>exact⟨z,a,h⟩
 |some v=>exact h
def EE{β:Type}(l:List UInt8)(z:β)(P:Prop)(K:Int×Bool->Option β)(f:List UInt8->β):Prop:=(∀b,K (b,true)=some z)/\(P->∀b t,Rd l b t->K (b,false)=some (f t))
def pb{α β:Type}(z:β)(p:List UInt8->Option (α×List UInt8))(f:α->List UInt8->β)(t:List UInt8):β:=match p t with
 |none=>z
 |some (v,q)=>f v q
def EE.bind{α β:Type}{l:List UInt8}{z:β}{P:Prop}{F:List UInt8×Int×Bool->Option (α×Int×Bool)}{p:List UInt8->Option (α×List UInt8)}{K:α×Int×Bool->Option β}{f:α->List UInt8->β}(g:Reader l F p)(Q:α->Prop)(j:∀t v q,p t=some (v,q)->Q v)(a:∀v,EE l z (P/\Q v) (λs=>K (v,s)) (f v)):EE l z P (λs=>Aa (F (l,(s.1,s.2))) K) (pb z p f):=by
 refine⟨λb=>?_,λi b t h=>?_⟩
 .obtain⟨v,c,e⟩:=g.bad b;simp only[e,Ad];exact (a v).1 c
 have:=g.good h;unfold pb;simp only;cases d:p t with
 |none=>
  rw[d]at this;obtain⟨v,c,e⟩:=this;rw[e];exact (a v).1 c
 |some w=>
  obtain⟨v,q⟩:=w;rw[d]at this;obtain⟨c,e,r⟩:=this;rw[e];exact (a v).2 ⟨i,j _ _ _ d⟩ c q r
def EE.bind0{α β:Type}{l:List UInt8}{z:β}{P:Prop}{F:List UInt8×Int×Bool->Option (α×Int×Bool)}{p:List UInt8->Option (α×List UInt8)}{K:α×Int×Bool->Option β}{f:α->List UInt8->β}(b:Reader l F p)(a:∀v,EE l z P (λs=>K (v,s)) (f v)):EE l z P (λs=>Aa (F (l,(s.1,s.2))) K) (pb z p f):=
 EE.bind b (λ_=>True) (λ_ _ _ _=>trivial) λv=>⟨(a v).1,λh=>(a v).2 h.1⟩
def bk{l:List UInt8}(b:l.length<=1048576000):Reader l Gl Cw:=⟨λh=>(QR b h).w,λa=>⟨0,a,Tl⟩⟩
def bi{l:List UInt8}(b:l.length<=1048576000):Reader l HP Cw:=⟨λh=>(aY b h).w,λa=>⟨0,a,VG⟩⟩
def Zlu{l:List UInt8}(b:l.length<=1048576000):Reader l L1 Fl:=⟨λh=>(kc b h).w,λa=>⟨[],a,kd b⟩⟩
def Zln{l:List UInt8}(b:l.length<=1048576000):Reader l Ly Fl:=⟨λh=>(iQ b h).w,λa=>⟨[],a,a_ b⟩⟩
def Zlt{l:List UInt8}(b:l.length<=1048576000):Reader l PD FX:=⟨λh=>Zm4 b h,λa=>⟨_,a,Zm5 b⟩⟩
def Zip{l:List UInt8}{a:Int}(d:l.length<=1048576000):P3 (l,(a,true))=some (Hv,(a,true)):=by
 have c:∀b,_:=λb=>oE (C:=JY) (l:=l) (b:=b) (qx d);unfold HY at c;unfold P3;simp only[a_ d,VG,Ad,fD,Ag,A4,Ah];rfl
def Zlm{l:List UInt8}(b:l.length<=1048576000):Reader l P3 GD:=⟨λh=>Zio b h,λa=>⟨_,a,Zip b⟩⟩
def Zk0(t:List UInt8):Cy t=match Cw t with|none=>none|some (x,t)=>match Cw t with|none=>none|some (y,t)=>some (x*256+y,t):=by
 match t with
 |[]=>rfl
 |[_]=>rfl
 |x::y::l=>simp only[Cy,Cw];congr 2
def kH{l:List UInt8}(p:l.length<=1048576000):Reader l PE Cy:=by
 refine⟨λ{a t} h=>?_,λa=>⟨_,a,by unfold PE;simp only[Tl,Ad];rfl⟩⟩;rw[Zk0];unfold PE;have d:=QR p h;cases i:Cw t with
 |none=>
  rw[i]at d;have f:Gl (l,(a,false))=some (0,(a,true)):=d;simp only[f,Ad,Tl];exact⟨_,_,rfl⟩
 |some v=>
  obtain⟨x,q⟩:=v;rw[i]at d;obtain⟨b,f,r⟩:=d;simp only[f,Ad];have e:=QR p r;cases o:Cw q with
  |none=>
   rw[o]at e;have g:Gl (l,(b,false))=some (0,(b,true)):=e;simp only[g,Ad];exact⟨_,_,rfl⟩
  |some w=>
   obtain⟨y,u⟩:=w;rw[o]at e;obtain⟨c,g,z⟩:=e;obtain⟨m,rfl,A⟩:=bS i;obtain⟨n,rfl,B⟩:=bS o;simp only[g,Ad];refine⟨c, ?_,z⟩;rw[show C9 .i64 (m:Int) 8=((m*2^8:Nat):Int) from SD (k:=.i64) (s:=8) (by decide) (by show _<2^63;omega),N3 (c:=m*2^8) (q:=m) (j:=8) rfl (by omega) (by omega) (by omega)];rw[show ((m*2^8+n:Nat):Int)=(m:Int)*256+n by omega]
def W2{l:List UInt8}(b:l.length<=1048576000):Reader l Jb Cy:=by
 refine⟨λ{a t} h=>?_,λa=>⟨_,a,by unfold Jb;simp only[VD b,Ad,Ah];rfl⟩⟩;unfold Jb;simp only[VD b,Ad,Ag,h.2.2];cases c:Cy t with
 |none=>exact⟨_,_,rfl⟩
 |some w=>
  obtain⟨n,q⟩:=w;refine⟨a+2,rfl, ?_⟩;obtain⟨rfl,_⟩:=NM c;exact h.app (u:=Ci n)
def UZ{β:Type}(z:β)(a:List UInt8->Option (A8×List UInt8))(k:Int)(g:A8->List UInt8->Int->List UInt8->β):List UInt8->β:=if k=1 then pb z a (λR=>g R [] 0) else if k=2 then pb z Fl (λs=>g Hv s 0) else if k=3 then pb z Cw (λn=>g Hv [] n) else g Hv [] 0
def Sc{β:Type}(z:β)(f:List UInt8->Option (A8×List UInt8))(c:Int×Int×Bo->List UInt8->β):List UInt8->β:=pb z Cy λgen=>pb z Cy λa=>pb z Cw λk=>UZ z f k λR d n=>pb z Cw λe=>pb z Cw λb=>pb z Cy λseq q=>c (gen,a,(k,R,d,n,e,seq,b)) q
abbrev xZ:=List UInt8×Int×List UInt8×Int×List UInt8×Int×Bool×List UInt8×Int×Int×Bool
def ia{α σ ρ:Type}(o:Option α)(f:α->σ)(K:σ->Option ρ):AC (Aa o λz=>some (.inl (f z))) K=Aa o λz=>K (f z):=by cases o<;>rfl
def EE.body{β:Type}{l:List UInt8}{z:β}{P:Prop}{m:List UInt8×Int×Bool->Option (A8×Int×Bool)}{o:List UInt8×Int×Bool->Option (List UInt8×Int×Bool)}{j:List UInt8×Int×Bool->Option (Int×Int×Bool)}{i:List UInt8->Option (A8×List UInt8)}{k:Int}{K:xZ->Option β}{g:A8->List UInt8->Int->List UInt8->β}
  (u:Reader l m i) (hT:Reader l o Fl) (p:Reader l j Cw) (r:∀t v q,i t=some (v,q)->v.1.length<=60) (c:∀R d n,EE l z (P/\R.1.length<=60/\d.length<=60) (λs=>K (R.1,(R.2.1.1,(R.2.1.2,(R.2.2.1.1,(R.2.2.1.2,(R.2.2.2.1,(R.2.2.2.2,(d,(n,(s.1,s.2))))))))))) (g R d n)):
  EE l z P (λs=>AC (Ab (Ak k 1) (Aa (m (l,(s.1,s.2))) (λa=>(some (.inl (a.1.1,(a.1.2.1.1,(a.1.2.1.2,(a.1.2.2.1.1,
 (a.1.2.2.1.2,(a.1.2.2.2.1,(a.1.2.2.2.2,([],(0,(a.2.1,a.2.2)))))))))))))) (Ab (Ak k 2) (Aa (o (l,(s.1,s.2))) (λa=>(some (.inl ([],(0,([],(0,([],(0,(false,(a.1,(0,(a.2.1,a.2.2)))))))))))))) (Ab (Ak k 3) (Aa (j (l,(s.1,s.2))) (λa=>(some (.inl ([],(0,([],(0,([],(0,(false,([],(a.1,(a.2.1,
 a.2.2)))))))))))))) (some (.inl ([],(0,([],(0,([],(0,(false,([],(0,(s.1,s.2))))))))))))))) K) (UZ z i k g):=by
 unfold UZ;simp only[Jq];by_cases b:k=1
 .simp only[AF b,Ah,Af b,ia];exact EE.bind (K:=λa=>K (a.1.1,(a.1.2.1.1,(a.1.2.1.2,(a.1.2.2.1.1,(a.1.2.2.1.2,(a.1.2.2.2.1,(a.1.2.2.2.2,([],(0,(a.2.1,a.2.2))))))))))) u (λR=>R.1.length<=60) r λR=>⟨(c R [] 0).1,λh=>(c R [] 0).2 ⟨h.1,h.2,Cq _⟩⟩
 by_cases e:k=2
 .simp only[AG b,AF e,Ah,Ag,Ae b,Af e,ia];exact EE.bind (K:=λa=>K ([],(0,([],(0,([],(0,(false,(a.1,(0,(a.2.1,a.2.2))))))))))) hT (λs=>s.length<=60) (λt v q h=>(Rc h).2) λR=>⟨(c Hv R 0).1,λh=>(c Hv R 0).2 ⟨h.1,Cq _,h.2⟩⟩
 by_cases f:k=3
 .simp only[AG b,AG e,AF f,Ah,Ag,Ae b,Ae e,Af f,ia];exact EE.bind0 (K:=λa=>K ([],(0,([],(0,([],(0,(false,([],(a.1,(a.2.1,a.2.2))))))))))) p λR=>⟨(c Hv [] R).1,λh=>(c Hv [] R).2 ⟨h,Cq _,Cq _⟩⟩
 simp only[AG b,AG e,AG f,Ag,Ae b,Ae e,Ae f,A4];exact⟨(c Hv [] 0).1,λh=>(c Hv [] 0).2 ⟨h,Cq _,Cq _⟩⟩
def xC:Bo:=(0,(Hv,([],(0,(0,(0,0))))))
def Pc(o:Option (Int×Int×Bo)):Int×Int×Bo×Bool:=match o with
 |none=>(0,(0,(xC,false)))
 |some (g,p,r)=>(g,(p,(r,true)))
def zV:Int×Int×Bo×Bool:=(0,(0,(xC,false)))
def Qm(l:List UInt8)(x:Int×Int×Bo)(q:List UInt8):Int×Int×Bo×Bool:=match Cy q with
 |none=>zV
 |some (w,a)=>if w=(EP (l.take (l.length-q.length)):Nat)/\a=[]/\Dn x.2.2=true then Pc (some x) else zV
def EE.start{α β:Type}{l:List UInt8}{z:β}{F:List UInt8×Int×Bool->Option (α×Int×Bool)}{p:List UInt8->Option (α×List UInt8)}{K:α×Int×Bool->Option β}{f:α->List UInt8->β}(a:Reader l F p)(b:∀v,EE l z True (λs=>K (v,s)) (f v)):Aa (F (l,(0,false))) K=some (pb z p f l):=(EE.bind0 a b).2 trivial 0 l (Rd.mk (l:=l) (k:=0) (by omega))
def Zkx(t:List UInt8)(v:A8)(q:List UInt8)(h:GD t=some (v,q)):v.1.length<=60:=(te (ta h).2).1
def Rd.take{l t:List UInt8}{b:Int}(h:Rd l b t):b.toNat=l.length-t.length/\BA (A9 b-0) l=l.take (l.length-t.length):=by
 have:=h.len;have a:=h.1;have e:b.toNat=l.length-t.length:=by omega
 exact⟨e,by unfold BA A9;rw[e];rfl⟩
def qE{l q a:List UInt8}{w:Int}{x:Int×Int×Bo}(h:Cy q=some (w,a)):Qm l x q=if w=(EP (l.take (l.length-q.length)):Nat)/\a=[]/\Dn x.2.2=true then Pc (some x) else zV:=by
 unfold Qm;rw[h]
def qD{l q:List UInt8}{x:Int×Int×Bo}(h:Cy q=none):Qm l x q=zV:=by
 unfold Qm;rw[h]
def Zh5{l:List UInt8}(d:l.length<=1048576000):TM l=some (Sc zV GD (Qm l) l):=by
 unfold TM Sc;refine EE.start (W2 d) λgen=>?_
 dsimp only
 refine EE.bind0 (W2 d) λi=>?_
 dsimp only
 refine EE.bind0 (bi d) λk=>?_
 dsimp only
 refine EE.body (Zlm d) (Zln d) (bi d) Zkx λR f n=>?_
 dsimp only
 refine EE.bind0 (bi d) λg=>?_
 dsimp only
 refine EE.bind0 (bi d) λa=>?_
 dsimp only
 refine EE.bind0 (W2 d) λseq=>?_
 dsimp only
 refine⟨λb=>?_,λs b q h=>?_⟩
 .obtain⟨v,c,e⟩:=(W2 d).bad b;unfold Mz;simp only[e,Ad,Bf,Ag,B2,Ah];rfl
 have A:=h.len;have z:=h.1;have y:NT (k,((R.1,((R.2.1.1,R.2.1.2),((R.2.2.1.1,R.2.2.1.2),(R.2.2.2.1,R.2.2.2.2)))),(f,(n,(g,(seq,a))))))=some (Dn (k,R,f,n,g,seq,a)):=iN (r:=(k,R,f,n,g,seq,a)) (by have:=s.2.1;simp only;omega) (by have:=s.2.2;simp only;omega);have p:=(W2 d).good h;show _=some (Qm l (gen,i,k,R,f,n,g,seq,a) q);unfold Mz;cases j:Cy q with
 |none=>
  rw[j]at p;obtain⟨v,c,e⟩:=p;simp only[e,Ad,Bf,Ag,B2,Ah,qD j];rfl
 |some u=>
  obtain⟨w,x⟩:=u;rw[j]at p;obtain⟨c,e,r⟩:=p;have t:=r.len;rw[qE j];simp only[e,Ad,B2,Ah];rw[show De 0 b (Am l)=true from AF (by simp only[Av];omega),AY,(h.take).2,VF (by rw[EF];omega),Ad];by_cases o:w=((EP (l.take (l.length-q.length)):Nat):Int)
  .rw[Jq,AF o,Ah];simp only[Ad,Jq,y];by_cases m:x=[]
   .rw[show decide (c=Am l)=true from AF (by simp only[Av];rw[m]at t;simp only[Ay]at t;omega),Bf,Ag];cases B:Dn (k,R,f,n,g,seq,a) with
    |true=>rw[Af ⟨o,m,rfl⟩];rfl
    |false=>rw[Ae (λh=>by cases h.2.2)];rfl
   rw[show decide (c=Am l)=false from AG (by
    simp only[Av];have:x.length≠0:=λh=>m (RK h);omega),B2,Ah,Ae (λh=>m h.2.1)];rfl
  rw[Jq,AG o,Ag];simp only[Ad,B2,Ah];rw[Ae (λh=>o h.1)];rfl
def Qn(l t:List UInt8)(x:Int×Int×Bo)(q:List UInt8):Int×Int×Bo×Bool:=if q=[]/\l.drop (l.length-2)=Ci (EP t:Nat)/\Dn x.2.2=true then Pc (some x) else zV
def ww{m n:Int}(c:0<=m)(d:m<65536)(e:0<=n)(f:n<65536)(h:Ci m=Ci n):m=n:=by
 have a:=QF c d [];have b:=QF e f [];rw[h,b]at a;simp only[Ac,A5,PK]at a;exact a.symm
def Zmg{l:List UInt8}(D:l.length<=1048576000)(H:2<=l.length):R3 l=some (Sc zV FX (Qn l (l.take (l.length-2))) (l.take (l.length-2))):=by
 have v:Br .i64 (Am l) 2=((l.length-2:Nat):Int):=by
  rw[E8 (by simp only[Av];omega) (by simp only[Av];omega)];simp only[Av];omega
 have C:BA (A9 ((l.length-2:Nat):Int)-0) l=l.take (l.length-2):=rfl;have E:(l.take (l.length-2)).length=l.length-2:=by rw[EF];omega
 have a:(l.take (l.length-2)).length<=1048576000:=by omega
 have hd:(l.drop (l.length-2)).length=2:=by rw[Di];omega
 obtain⟨w,o,u⟩:∃w o,Cy (l.drop (l.length-2))=some (w,o):=by
  match l.drop (l.length-2),hd with
  |[x,y],_=>exact⟨_,_,rfl⟩
 obtain⟨g,F,G⟩:=NM u;have m:o=[]:=by
  have:=DU List.length g;rw[hd,Cb,Rp]at this;exact RK (by omega)
 rw[m,AB]at g;have A:M1 (l,((l.length-2:Nat):Int))=some (w,(((l.length-2:Nat):Int)+2,true)):=by
  rw[WE D,NE,u]
 have B:NX (l.take (l.length-2))=some ((EP (l.take (l.length-2)):Nat):Int):=cE a;unfold R3 Sc;simp only[v,C,A,B];rw[B1 (by omega),Ag,show De 0 ((l.length-2:Nat):Int) (Am l)=true from AF (by simp only[Av];omega),AY];generalize hT:l.take (l.length-2)=t at E a;refine EE.start (kH a) λgen=>?_
 dsimp only
 refine EE.bind0 (kH a) λf=>?_
 dsimp only
 refine EE.bind0 (bk a) λk=>?_
 dsimp only
 refine EE.body (Zlt a) (Zlu a) (bk a) (λ_ _ _ h=>Zkw h) λR d n=>?_
 dsimp only
 refine EE.bind0 (bk a) λe=>?_
 dsimp only
 refine EE.bind0 (bk a) λc=>?_
 dsimp only
 refine EE.bind0 (kH a) λseq=>?_
 dsimp only
 refine⟨λb=>?_,λp b q h=>?_⟩
 .simp only[Ad,Ah];rfl
 have s:=h.len;have z:NV (k,((R.1,((R.2.1.1,R.2.1.2),((R.2.2.1.1,R.2.2.1.2),(R.2.2.2.1,R.2.2.2.2)))),(d,(n,(e,(seq,c))))))=some (Dn (k,R,d,n,e,seq,c)):=kY (r:=(k,R,d,n,e,seq,c)) (by have:=p.2.1;simp only;omega) (by have:=p.2.2;simp only;omega);show _=some (Qn l t (gen,f,k,R,d,n,e,seq,c) q);simp only[Ad,Ag,AY];by_cases i:q=[]
 .have:b=((l.length-2:Nat):Int):=by rw[i]at s;simp only[Ay]at s;omega
  rw[this,Jr,Ag];have I:=Na t;by_cases j:w=((EP t:Nat):Int)
  .rw[j,Jr,Ag,z,Ad];unfold Qn;cases K:Dn (k,R,d,n,e,seq,c) with
   |true=>rw[Af ⟨i,by rw[g,j],rfl⟩];rfl
   |false=>rw[Ae (λh=>by cases h.2.2)];rfl
  rw[Hl j,Ah];unfold Qn;rw[Ae (λh=>j (ww F G (by omega) (by omega) (by rw[<-g];exact h.2.1)))];rfl
 have:b≠((l.length-2:Nat):Int):=λJ=>i (RK (by omega));rw[Hl this,Ah];unfold Qn;rw[Ae (λh=>i h.1)];rfl
def Kt(a:List UInt8->Option (A8×List UInt8))(k:Int)(l:List UInt8):Option ((A8×List UInt8×Int)×List UInt8):=
 if k=1 then (match a l with
  |none=>none
  |some (r,l)=>some ((r,[],0),l))
 else if k=2 then (match Fl l with
  |none=>none
  |some (s,l)=>some ((([],(0,[]),(0,[]),0,false),s,0),l))
 else if k=3 then (match Cw l with
  |none=>none
  |some (n,l)=>some ((([],(0,[]),(0,[]),0,false),[],n),l))
 else some ((([],(0,[]),(0,[]),0,false),[],0),l)
def Ku(e:List UInt8->Option (A8×List UInt8))(l:List UInt8):Option ((Int×Int×Bo)×List UInt8):=match Cy l with
 |none=>none
 |some (gen,l)=>match Cy l with
  |none=>none
  |some (a,l)=>match Cw l with
   |none=>none
   |some (k,l)=>match Kt e k l with
    |none=>none
    |some ((R,c,n),l)=>match Cw l with
     |none=>none
     |some (d,l)=>match Cw l with
      |none=>none
      |some (b,l)=>match Cy l with
       |none=>none
       |some (seq,l)=>some ((gen,a,(k,R,c,n,d,seq,b)),l)
def sk:Ku GD=JH:=rfl
def x6{β:Type}(z:β)(d:List UInt8->Option (A8×List UInt8))(k:Int)(g:A8->List UInt8->Int->List UInt8->β)(t:List UInt8):UZ z d k g t=match Kt d k t with
  |none=>z
  |some ((R,c,n),q)=>g R c n q:=by
 unfold UZ Kt;by_cases a:k=1
 .simp only[Af a,pb];cases d t<;>rfl
 by_cases b:k=2
 .simp only[Ae a,Af b,pb];cases Fl t<;>rfl
 by_cases e:k=3
 .simp only[Ae a,Ae b,Af e,pb];cases Cw t<;>rfl
 simp only[Ae a,Ae b,Ae e];rfl
def Td{α β:Type}{z:β}{p:List UInt8->Option (α×List UInt8)}{f:α->List UInt8->β}{t:List UInt8}(h:p t=none):pb z p f t=z:=by unfold pb;rw[h]
def Te{α β:Type}{z:β}{p:List UInt8->Option (α×List UInt8)}{f:α->List UInt8->β}{t q:List UInt8}{v:α}(h:p t=some (v,q)):pb z p f t=f v q:=by unfold pb;rw[h]
def nQ{β:Type}(z:β)(c:List UInt8->Option (A8×List UInt8))(a:Int×Int×Bo->List UInt8->β)(t:List UInt8):Sc z c a t=match Ku c t with
  |none=>z
  |some (x,q)=>a x q:=by
 unfold Sc Ku;cases e:Cy t with
 |none=>rw[Td e]
 |some v=>
  obtain⟨gen,m⟩:=v;rw[Te e];simp only;cases f:Cy m with
  |none=>rw[Td f]
  |some v=>
   obtain⟨b,o⟩:=v;rw[Te f];simp only;cases g:Cw o with
   |none=>rw[Td g]
   |some v=>
    obtain⟨k,p⟩:=v;rw[Te g];simp only[x6];cases Kt c k p with
    |none=>rfl
    |some v=>
     obtain⟨⟨R,l,n⟩,r⟩:=v;simp only;cases h:Cw r with
     |none=>rw[Td h]
     |some v=>
      obtain⟨w,s⟩:=v;rw[Te h];simp only;cases i:Cw s with
      |none=>rw[Td i]
      |some v=>
       obtain⟨d,u⟩:=v;rw[Te i];simp only;cases j:Cy u with
       |none=>rw[Td j]
       |some v=>rw[Te j]
def Zp3{w:Int}{c:Nat}(a:0<=w)(b:w<65536)(d:c<65536):Ci w=Ci (c:Int) ↔ w=c:=⟨ww a b (by omega) (by omega),λh=>by rw[h]⟩
def aL{l q:List UInt8}{x:Int×Int×Bo}(h:JH l=some (x,q)):HB l=if q=Ci (EP (l.take (l.length-2)))/\q.length=2/\Dn x.2.2=true then some x else none:=by
 unfold HB;rw[h]
def hJ{l:List UInt8}(h:JH l=none):HB l=none:=by
 unfold HB;rw[h]
def Zh4{l:List UInt8}(p:l.length<=1048576000):TM l=some (Pc (HB l)):=by
 rw[Zh5 p,nQ,sk];cases i:JH l with
 |none=>rw[hJ i];rfl
 |some v=>
  obtain⟨x,q⟩:=v;rw[aL i];show some (Qm l x q)=_;congr 1;cases b:Cy q with
  |none=>
   rw[qD b,Ae]
   .rfl
   rintro ⟨m,t,_⟩;have:=QF (n:=(EP (l.take (l.length-2)):Nat)) (by omega) (by have:=Na (l.take (l.length-2));omega) [];rw[AB,<-m,b]at this;cases this
  |some u=>
   obtain⟨w,j⟩:=u;rw[qE b];obtain⟨e,r,s⟩:=NM b;have o:=Na (l.take (l.length-2));by_cases a:j=[]
   .have d:q=Ci w:=by rw[e,a,AB]
    have f:q.length=2:=by rw[d];rfl
    have g:=Zp3 (c:=EP (l.take (l.length-2))) r s o;rw[f];by_cases h:w=((EP (l.take (l.length-2)):Nat):Int)/\Dn x.2.2=true
    .rw[Af ⟨h.1,a,h.2⟩,Af ⟨by rw[d];exact g.2 h.1,rfl,h.2⟩]
    rw[Ae (λk=>h ⟨k.1,k.2.2⟩),Ae (λk=>h ⟨g.1 (by rw[<-d];exact k.1),k.2.2⟩)];rfl
   have f:q.length≠2:=by
    have:j.length≠0:=λh=>a (RK h);rw[e,Cb,Rp];omega
   rw[Ae (λk=>a k.2.1),Ae (λk=>f k.2.1)];rfl
def Zkt{k n:Int}{t q:List UInt8}{R:A8}{a:List UInt8}(h:Kt FX k t=some ((R,a,n),q))(b:Hj k R a n=true):Kt GD k t=some ((R,a,n),q):=by
 unfold Kt at h ⊢;by_cases c:k=1
 .rw[Af c]at h ⊢;cases d:FX t with
  |none=>rw[d]at h;cases h
  |some v=>
   obtain⟨r,e⟩:=v;rw[d]at h;simp only[Ac,A5]at h;obtain⟨⟨rfl,rfl,rfl⟩,rfl⟩:=h;unfold Hj at b;rw[Af c]at b;simp only[A6]at b;rw[sn d,Af b.1.1]
 rw[Ae c]at h ⊢;exact h
def Zks{k:Int}{t q:List UInt8}{v:A8×List UInt8×Int}(h:Kt GD k t=some (v,q)):Kt FX k t=some (v,q):=by
 unfold Kt at h ⊢;by_cases a:k=1
 .rw[Af a]at h ⊢;cases c:FX t with
  |none=>rw[Zky c]at h;cases h
  |some w=>
   obtain⟨r,d⟩:=w;rw[sn c]at h;by_cases b:Co r=true
   .rw[Af b]at h;exact h
   rw[Ae b]at h;cases h
 rw[Ae a]at h ⊢;exact h
def Zkv{t q:List UInt8}{x:Int×Int×Bo}(h:Ku FX t=some (x,q))(g:Dn x.2.2=true):Ku GD t=some (x,q):=by
 unfold Ku at h ⊢;cases d:Cy t with
 |none=>rw[d]at h;cases h
 |some v=>
  obtain⟨gen,j⟩:=v;rw[d]at h;simp only at h ⊢;cases e:Cy j with
  |none=>rw[e]at h;cases h
  |some v=>
   obtain⟨c,l⟩:=v;rw[e]at h;simp only at h ⊢;cases f:Cw l with
   |none=>rw[f]at h;cases h
   |some v=>
    obtain⟨k,m⟩:=v;rw[f]at h;simp only at h ⊢;cases a:Kt FX k m with
    |none=>rw[a]at h;cases h
    |some v=>
     obtain⟨⟨R,b,n⟩,o⟩:=v;rw[a]at h;simp only at h;have i:Hj k R b n=true:=by
      split at h
      .cases h
      split at h
      .cases h
      split at h
      .cases h
      simp only[Ac,A5]at h;obtain⟨rfl,_⟩:=h;simp only[Dn,A6]at g;exact g.1
     rw[Zkt a i];exact h
def Zku{t q:List UInt8}{x:Int×Int×Bo}(h:Ku GD t=some (x,q)):Ku FX t=some (x,q):=by
 unfold Ku at h ⊢;cases c:Cy t with
 |none=>rw[c]at h;cases h
 |some v=>
  obtain⟨gen,f⟩:=v;rw[c]at h;simp only at h ⊢;cases d:Cy f with
  |none=>rw[d]at h;cases h
  |some v=>
   obtain⟨b,g⟩:=v;rw[d]at h;simp only at h ⊢;cases e:Cw g with
   |none=>rw[e]at h;cases h
   |some v=>
    obtain⟨k,i⟩:=v;rw[e]at h;simp only at h ⊢;cases a:Kt GD k i with
    |none=>rw[a]at h;cases h
    |some v=>
     rw[a]at h;rw[Zks a];exact h
def Zmf{l:List UInt8}(u:l.length<=1048576000):R3 l=some (Pc (HB l)):=by
 by_cases t:2<=l.length
 .rw[Zmg u t,nQ];congr 1;have hd:(l.drop (l.length-2)).length=2:=by rw[Di];omega
  have n:l.take (l.length-2)++l.drop (l.length-2)=l:=Jg _ _;have up:∀x,Ku FX (l.take (l.length-2))=some (x,[])->Dn x.2.2=true->JH l=some (x,l.drop (l.length-2)):=λx f i=>by
   have k:=Zkv f i;rw[sk]at k;obtain⟨e,a,b,c,d⟩:=ju k;rw[AB]at e;have:=sm i a b c d (l.drop (l.length-2));rw[<-e,n]at this;exact this
  have o:∀x q,JH l=some (x,q)->q.length=2->Dn x.2.2=true->Ku FX (l.take (l.length-2))=some (x,[]):=λx q f w i=>by
   obtain⟨e,a,b,c,d⟩:=ju f;have s:l.take (l.length-2)=Jw x.1 x.2.1 x.2.2:=by
    have:l.length-2=(Jw x.1 x.2.1 x.2.2).length:=by
     have:=DU List.length e;rw[Cb,w]at this;omega
    rw[this]
    conv=>lhs;arg 2;rw[e]
    rw[db]
   have:=sm i a b c d [];rw[AB,<-s]at this;exact Zku this
  by_cases p:∃x,HB l=some x
  .obtain⟨x,m⟩:=p;cases f:JH l with
   |none=>rw[hJ f]at m;cases m
   |some v=>
    obtain⟨y,q⟩:=v;rw[aL f]at m;by_cases g:q=Ci (EP (l.take (l.length-2)):Nat)/\q.length=2/\Dn y.2.2=true
    .rw[aL f,Af g];rw[o y q f g.2.1 g.2.2];have j:=up y (o y q f g.2.1 g.2.2) g.2.2;rw[f]at j;simp only[Ac,A5,H3]at j;simp only[Qn];rw[Af ⟨trivial,by rw[<-j];exact g.1,g.2.2⟩]
    rw[Ae g]at m;cases m
  have r:HB l=none:=by
   cases h:HB l with
   |none=>rfl
   |some x=>exact (p ⟨x,h⟩).elim
  rw[r];cases f:Ku FX (l.take (l.length-2)) with
  |none=>rfl
  |some v=>
   obtain⟨x,q⟩:=v;simp only[Qn];rw[Ae]
   .rfl
   rintro ⟨rfl,z,i⟩;have k:=aL (up x f i);rw[Af ⟨z,hd,i⟩,r]at k;cases k
 have j:Br .i64 (Am l) 2=(l.length:Int)-2:=E8 (by simp only[Av];omega) (by simp only[Av];omega);unfold R3;simp only[j];rw[Bw (by omega),Ah];have:HB l=none:=hJ (by unfold JH;rw[ja (by omega)]);rw[this];rfl
def Zb2(l:List UInt8):FM 60 (Pc (HB l)).2.2.1:=by
 cases h:HB l with
 |none=>exact⟨⟨by decide,by decide,by decide⟩,by decide⟩
 |some x=>
  have c:=(Zk7 h).2.1;obtain⟨g,p,k,R,b,n,w,sq,cd⟩:=x;simp only[Dn,A6]at c;have a:=c.1;show Fz 60 R/\b.length<=60;unfold Hj at a;have z:Gh R=true->Fz 60 R:=λh=>by rw[bG h];exact⟨by decide,by decide,by decide⟩
  have e:b.isEmpty=true->b.length<=60:=λh=>by rw[Oj.1 h];exact Cq _
  split at a
  .simp only[A6]at a;exact⟨te a.1.1,e a.1.2⟩
  split at a
  .simp only[A6]at a;exact⟨z a.1.1,by have:=(Q8 a.1.2).2;omega⟩
  split at a
  .simp only[A6]at a;exact⟨z a.1.1,e a.1.2⟩
  split at a
  .simp only[A6]at a;exact⟨z a.1.1,e a.1.2⟩
  cases a
end
end Go.Vs
