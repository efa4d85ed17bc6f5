import Derived.Test.YteaoaehkkcbmbaaGreatDoorVsQv8
set_option linter.all false
namespace Go.Vs
noncomputable section
def Q6(m:CF)(s:List CF×Bool)(x:CF):List CF×Bool:=
 let a:=if (!s.2&&Dk x.1 m.1)=true then (s.1++[m],true) else s
 if AI x.1 m.1=true then (a.1++[x],a.2) else a
def IQ(l:List CF)(m:CF)(i:Nat):List CF×Bool:=(l.take i).foldl (Q6 m) ([],false)
def OS(l:List CF)(m:CF):List CF:=if (IQ l m l.length).2=true then (IQ l m l.length).1 else (IQ l m l.length).1++[m]
def sC{l:List CF}{m:CF}{i:Nat}(h:i<l.length):IQ l m (i+1)=Q6 m (IQ l m i) l[i]:=by
 unfold IQ;rw[I8 h,RO];rfl
def au(l:List CF)(m:CF):∀i,i<=l.length->(IQ l m i).1.length+(if (IQ l m i).2=true then 0 else 1)<=i+1
 |0,_=>by simp[IQ]
 |i+1,h=>by
  have a:=au l m i (by omega);rw[sC (by omega)];generalize IQ l m i=s at a;obtain⟨o,p⟩:=s;unfold Q6;cases p<;>cases Dk l[i].1 m.1<;>cases AI l[i].1 m.1<;>simp at a ⊢<;>omega
def Zj9(l:List CF)(m:CF):(OS l m).length<=l.length+1:=by
 have:=au l m l.length (AE _);unfold OS;split
 .omega
 rename_i h;rw[Ae h]at this;simp;omega
def sE{l:List CF}{m:CF}(h:l.length<=1048576){step:List CF×Bool×Int->Option ((List CF×Bool×Int) ⊕ ((List CF×Bool) ⊕ List CF))}
  (f:∀(o:List CF) (p:Bool) (i:Nat) (c:i<l.length),o.length<=i+1->(p=false->o.length<=i)->step (o,(p,(i:Int)))=some (.inl ((Q6 m (o,p) l[i]).1,((Q6 m (o,p) l[i]).2,((i+1:Nat):Int))))) (e:∀o p,step (o,(p,(l.length:Int)))=some (.inr (.inl (o,p)))):
  (AC (Bd step ([],(false,0))) (λ(b:(List CF×Bool))=>(AC (Ab (Ap b.2) (A3 (Bk (b.1.length+1) 24) (some (.inl (Ax b.1 [m])))) (some (.inl b.1))) (λ(g:List CF)=>(some g)))))=some (OS l m):=by
 have lp:Bd step ([],(false,0))=some (.inl (IQ l m l.length)):=by
  refine HI (λi=>((IQ l m i).1,((IQ l m i).2,(i:Int)))) l.length _ (λi c=>?_) (e _ _) _ (by simp[IQ]);have a:=au l m i (by omega);rw[f _ _ i c (by split at a<;>omega) (λd=>by rw[d]at a;simp at a;exact a),sC c]
 rw[lp,A4];have a:=au l m l.length (AE _);unfold OS;cases d:(IQ l m l.length).2 with
 |true=>rw[Bf,Ag,A4,Af rfl]
 |false=>
  rw[d]at a;rw[B2,Ah,B8 (by simp at a;omega),AY,A4,Ae (by simp)];rfl
def Zir{l:List CF}{m:CF}(b:l.length<=1048576):R1 (l,m)=some (OS l m):=by
 rw[R1];refine sE b (λo p i a e f=>?_) λo p=>?_
 .rw[eN];simp only[Q6];rw[Bw (by rw[Av];omega),Ah,BK a,Ad];have c:Bk (o.length+1) 24=true:=B8 (by omega);have d:Bk ((Ax o [m]).length+1) 24=true:=B8 (by simp[Ax];omega);cases p<;>cases Dk l[i].1 m.1<;>cases AI l[i].1 m.1<;>simp only[Bf,B2,Ah,Ag,c,d,AY,A4,Od,RH,PL,PN,BF,C6,BC,CX (show i<9223372036854775807 by omega)]<;>rfl
 rw[eN];simp only;rw[B1 (by rw[Av];omega),Ag]
def Zm0{l:List CF}{m:CF}(b:l.length<=1048576):Uo (l,m)=some (OS l m):=by
 rw[Uo];refine sE b (λo p i a e f=>?_) λo p=>?_
 .rw[eZ];simp only[Q6];rw[Bw (by rw[Av];omega),Ah];simp only[BK a,Ad];have c:Bk (o.length+1) 24=true:=B8 (by omega);have d:Bk ((Ax o [m]).length+1) 24=true:=B8 (by simp[Ax];omega);cases p<;>cases Dk l[i].1 m.1<;>cases AI l[i].1 m.1<;>simp only[Bf,B2,Ah,Ag,c,d,AY,A4,Od,RH,PL,PN,BF,C6,BC,CX (show i<9223372036854775807 by omega)]<;>rfl
 rw[eZ];simp only;rw[B1 (by rw[Av];omega),Ag]
def fT{α:Type}{b:α->Bool}{lt:α->α->Bool}{l:List α}(h:IF b lt l=true){i:Nat}(a:i<l.length):b l[i]=true:=by
 have:=DE.1 h i (Hz.2 a);cases i with
 |zero=>rwa[Vi a]at this
 |succ j=>rw[Sl a,A6]at this;exact this.1
def fU{α:Type}{b:α->Bool}{lt:α->α->Bool}{l:List α}(h:IF b lt l=true){i:Nat}(a:i+1<l.length):lt l[i] l[i+1]=true:=by
 have:=DE.1 h (i+1) (Hz.2 a);rw[Sl a,A6]at this;exact this.2
def oL{α:Type}{g:α->Bool}{lt:α->α->Bool}(tr:∀a b c,lt a b=true->lt b c=true->lt a c=true){l:List α}(h:IF g lt l=true):∀(j i:Nat) (d:i<j) (f:j<l.length),lt (l[i]'(by omega)) l[j]=true
 |0,i,d,_=>H4 d (U9 _)
 |j+1,i,d,f=>by
  by_cases e:i=j
  .subst e;exact fU h f
  exact tr _ _ _ (oL tr h j i (by omega) (by omega)) (fU h f)
def Zj8{l:List CF}(h:IF IP OQ l=true):l.length<=9:=by
 have c:∀i (a:i<l.length),((i:Int)+1)<=l[i].1:=by
  intro i
  induction i with
  |zero=>
   intro a;have:=fT h a;simp only[IP,A6,AA]at this;omega
  |succ i f=>
   intro a;have d:=f (by omega);have b:=fU h a;simp only[OQ,AA]at b;omega
 by_cases e:l.length<=9
 .exact e
 have d:=c 9 (by omega);have b:=fT h (show 9<l.length by omega);simp only[IP,A6,AA]at b;omega
def Zlr{l:List A8}(h:IF Co Mi l=true){d:List UInt8}{k:Nat}(m:k<l.length)(f:(l[k].1==d)=true):HZ l d=l.take k++l.drop (k+1):=by
 have f:l[k].1=d:=by simpa using f
 have mono:=oL (lt:=Mi) (λa b c r s=>Zl6 r s) h;have n:l=l.take k++(l[k]::l.drop (k+1)):=by rw[<-H1 m,Jg]
 have o:(l.take k).filter (HF d)=l.take k:=UN.2 λx i=>by
  obtain⟨j,g,rfl⟩:=MI i;rw[EF]at g;rw[dy];have:=mono k j (by omega) m;simp only[Mi]at this;simp only[HF];by_cases e:l[j].1=d
  .rw[e,f,kR]at this;cases this
  simpa using e
 have p:(l.drop (k+1)).filter (HF d)=l.drop (k+1):=UN.2 λx i=>by
  obtain⟨j,g,rfl⟩:=MI i;rw[Di]at g;rw[List.getElem_drop];have:=mono (k+1+j) k (by omega) (by omega);simp only[Mi]at this;simp only[HF];by_cases e:l[k+1+j].1=d
  .rw[e,f,kR]at this;cases this
  simpa using e
 have q:HF d l[k]=false:=by simp[HF,f]
 unfold HZ
 conv=>lhs;rw[n]
 rw[RS,MH,q,o,p];rfl
def Zls{l:List A8}{a:List UInt8}(h:l.findIdx? (λx=>x.1==a)=none):HZ l a=l:=by
 rw[Y1]at h;exact UN.2 λx b=>by simp[HF,h x b]
def Jm(t:B9)(r:Bo):List A8×Int:=if r.1=1 then (NN t.1 r.2.1,t.2.1) else if r.1=2 then (HZ t.1 r.2.2.1,t.2.1) else if r.1=3 then (t.1,r.2.2.2.1) else (t.1,t.2.1)
def Nv(t:B9)(r:Bo):List CF:=if r.2.2.2.2.1=0 then t.2.2 else OS t.2.2 r.2.2.2.2
def Lf(t:B9)(r:Bo):B9:=((Jm t r).1,((Jm t r).2,Nv t r))
def Hi(t:B9)(r:Bo):B9×Bool:=if (Dw t&&(Dn r&&Dw (Lf t r)))=true then (Lf t r,true) else (t,false)
def cb{t:B9}(h:Dw t=true):IF Co Mi t.1=true/\IF IP OQ t.2.2=true/\t.1.length<=8/\0<=t.2.1/\t.2.1<=7/\t.2.2.length<=9:=by
 simp only[Dw,A6,AA]at h;exact⟨h.1,h.2.1,h.2.2.1,h.2.2.2.1,h.2.2.2.2,Zj8 h.2.1⟩
def jX{t:B9}{r:Bo}(g:EU 1048576 t)(f:FM 1048576 r)(e:Dw t=true):EU 1048576 (Lf t r):=by
 obtain⟨j,k,l,m,n,o⟩:=cb e;obtain⟨c,b,i⟩:=g;have d:(Nv t r).length<=1048576:=by
  unfold Nv;split
  .exact i
  have:=Zj9 t.2.2 r.2.2.2.2;omega
 refine⟨?_, ?_,d⟩
 .simp only[Lf,Jm];split
  .have:=Zp6 t.1 r.2.1;simp only;omega
  split
  .simp only;exact CW (Yr _ _) c
  split<;>exact c
 intro x a;simp only[Lf,Jm]at a;split at a
 .rcases Zp7 a with rfl|h
  .exact f.1
  exact b x h
 split at a
 .exact b x (Oi.1 a).1
 split at a<;>exact b x a
def x9{t:B9}{r:Bo}(a:EU 1048576 t)(b:FM 1048576 r):EU 1048576 (Hi t r).1:=by
 unfold Hi;split
 .rename_i h;simp only[A6]at h;exact jX a b h.1
 exact a
def tK{r:Bo}(h:Dn r=true):0<=r.2.2.2.2.1:=by
 simp only[Dn,A6]at h;exact (dH h.2).1
def MS{α β ρ:Type}{step:List β×Int->Option ((List β×Int) ⊕ (List β ⊕ ρ))}{x:List α}{f:α->β}{l0:List β}(c:∀(l:List β) (i:Nat) (h:i<x.length),l.length=l0.length+i->step (l,(i:Int))=some (.inl (l++[f x[i]],(i:Int)+1)))(b:∀l,step (l,(x.length:Int))=some (.inr (.inl l))):Bd step (l0,0)=some (.inl (l0++x.map f)):=by
 refine HI (λi=>(l0++(x.take i).map f,(i:Int))) x.length _ ?_ ?_ _ (by simp)
 .intro i a;rw[c _ i a (by simp;omega)];have e:(x.take (i+1)).map f=(x.take i).map f++[f x[i]]:=by
   rw[I8 a,C2];rfl
  rw[e,<-EG];rfl
 rw[b];simp
def yO{F:A8->Option A8}(c:∀r,Fz 1048576 r->F r=some r){x:List A8}(k:x.length<=1048576)(e:∀r∈x,Fz 1048576 r){step:List A8×Int->Option ((List A8×Int) ⊕ (List A8 ⊕ B9))}
  (g:∀(l:List A8) (i:Nat),i<x.length->step (l,(i:Int))=Aa (idx x (i:Int)) λh=>Aa (F h) λj=>A3 (Bk (l.length+1) 96) (some (.inl (Ax l [j],Au .i64 (i:Int) 1)))) (d:∀l,step (l,(x.length:Int))=some (.inr (.inl l))):Bd step ([],0)=some (.inl x):=by
 have:=MS (step:=step) (x:=x) (f:=λr=>r) (l0:=[]) (λl i a b=>by
  simp only[Ay,A7]at b;rw[g l i a,BK a,Ad,c _ (e _ (EN a)),Ad,B8 (by omega),AY,CX (by omega)];rfl) d
 rw[this];simp
def oR{F:A8->Option A8}(b:∀r,Fz 1048576 r->F r=some r){t:B9}(h:EU 1048576 t){step:List A8×Int->Option ((List A8×Int) ⊕ (List A8 ⊕ B9))}
  (a:∀(l:List A8) (i:Int),step (l,i)=Ab (Bb i (Am t.1)) (Aa (idx t.1 i) λd=>Aa (F d) λe=>A3 (Bk (l.length+1) 96) (some (.inl (Ax l [e],Au .i64 i 1)))) (some (.inr (.inl l)))):
  (A3 (Bk (0+t.2.2.length) 24) (AC (Bd step ([],0)) (λ(c:(List A8))=>(some (c,(t.2.1,(Ax [] t.2.2)))))))=some t:=by
 have f:=h.2.2;rw[B8 (by omega),AY,yO b h.1 h.2.1 (λl i g=>by rw[a,Bw (by rw[Av];omega),Ah]) (λl=>by rw[a,B1 (by rw[Av];omega),Ag]),A4];rfl
def iP{t:B9}(h:EU 1048576 t):Rz t=some t:=by
 rw[Rz];rw[MQ];exact (oR (F:=NU) (λr h=>iI h) h λl i=>rfl)
def k8{t:B9}(h:EU 1048576 t):RC t=some t:=by
 rw[RC];rw[MQ];exact (oR (F:=Kc) (λr h=>WC h) h λl i=>rfl)
def qq{t:B9}{r:Bo}(b:EU 1048576 t)(c:FM 1048576 r):TI (t,r)=some (Hi t r):=by
 rw[TI];simp only;have p:=iP b;have u:=iN (r:=r) (by have:=c.1.1;omega) (by have:=c.2;omega);rw[p,Ad,u,Ad];unfold Hi;cases l:Dn r with
 |false=>rw[B2,Ah];cases Dw t<;>simp
 |true=>
  rw[Bf,Ag,iO b,Ad];cases m:Dw t with
  |false=>rw[B2,Ah];simp
  |true=>
   rw[Bf,Ag];have s:=jX b c m;have x:=tK l;have v:=b.2.2
   -- what is done to the rows
   have o:((Ab (Ak r.1 1) (Aa (Ge J1 Mr t.1) (λg=>(Aa (TV (g,r.2.1)) (λa=>(some (.inl (r.1,(r.2.1.1,(r.2.1.2.1.1,(r.2.1.2.2.1.1,(r.2.1.2.2.2.1,(r.2.1.2.2.2.2,(r.2.2.1,(r.2.2.2.1,(r.2.2.2.2.1,(r.2.2.2.2.2.1,(r.2.2.2.2.2.2,(a,t.2.1)))))))))))))))))) (Ab (Ak r.1 2) (Aa (Ge J1 Mr t.1) (λg=>(Aa (Uz (g,r)) (λa=>(some (.inl (a.2.1,(a.2.2.1,(a.2.2.2.1,(a.2.2.2.2.1,(a.2.2.2.2.2.1,(a.2.2.2.2.2.2.1,(a.2.2.2.2.2.2.2.1,(a.2.2.2.2.2.2.2.2.1,(a.2.2.2.2.2.2.2.2.2.1,(a.2.2.2.2.2.2.2.2.2.2.1,(a.2.2.2.2.2.2.2.2.2.2.2,(a.1,t.2.1)))))))))))))))))) (Ab (Ak r.1 3) (some (.inl (r.1,(r.2.1.1,(r.2.1.2.1.1,(r.2.1.2.2.1.1,(r.2.1.2.2.2.1,(r.2.1.2.2.2.2,(r.2.2.1,(r.2.2.2.1,(r.2.2.2.2.1,(r.2.2.2.2.2.1,(r.2.2.2.2.2.2,(t.1,r.2.2.2.1)))))))))))))) (some (.inl (r.1,(r.2.1.1,(r.2.1.2.1.1,(r.2.1.2.2.1.1,(r.2.1.2.2.2.1,(r.2.1.2.2.2.2,(r.2.2.1,(r.2.2.2.1,(r.2.2.2.2.1,(r.2.2.2.2.2.1,(r.2.2.2.2.2.2,(t.1,t.2.1))))))))))))))))):Option ((Int×List UInt8×Int×Int×Int×Bool×List UInt8×Int×Int×Int×Int×List A8×Int) ⊕ (B9×Bool)))=some (.inl (r.1,(r.2.1.1,(r.2.1.2.1.1,(r.2.1.2.2.1.1,(r.2.1.2.2.2.1,(r.2.1.2.2.2.2,(r.2.2.1,(r.2.2.2.1,(r.2.2.2.2.1,(r.2.2.2.2.2.1,(r.2.2.2.2.2.2,((Jm t r).1,(Jm t r).2))))))))))))):=by
    unfold Jm;by_cases d:r.1=1
    .have h:Ak r.1 1=true:=by rw[d];rfl
     rw[h,Ah,ZA,Ad,Zis b.1 c.1,Ad,Af d]
    rw[E7 d,Ag,Ae d];by_cases e:r.1=2
    .have i:Ak r.1 2=true:=by rw[e];rfl
     rw[i,Ah,ZA,Ad,Zhx b.1,Ad,Af e];rfl
    rw[E7 e,Ag,Ae e];by_cases f:r.1=3
    .have j:Ak r.1 3=true:=by rw[f];rfl
     rw[j,Ah,Af f]
    rw[E7 f,Ag,Ae f]
   rw[o,A4];simp only;have q:(Ab (Cr r.2.2.2.2.1 0) (Aa (R1 (t.2.2,(r.2.2.2.2.1,(r.2.2.2.2.2.1,r.2.2.2.2.2.2)))) λa=>some (.inl a)) (some (.inl t.2.2)):Option (List CF ⊕ (B9×Bool)))=some (.inl (Nv t r)):=by
    unfold Nv;by_cases k:r.2.2.2.2.1=0
    .rw[Ee (by omega),Ag,Af k]
    rw[D4 (by omega),Ah,show R1 (t.2.2,(r.2.2.2.2.1,(r.2.2.2.2.2.1,r.2.2.2.2.2.2)))=some (OS t.2.2 r.2.2.2.2) from Zir v,Ad,Ae k]
   rw[q,A4];have n:Mx ((Jm t r).1,((Jm t r).2,Nv t r))=some (Dw (Lf t r)):=iO s;rw[n,Ad];cases w:Dw (Lf t r) with
   |false=>rw[B2,Ah,Ad];simp
   |true=>rw[Bf,Ag];simp[Lf]
def kT{t:B9}{r:Bo}(a:EU 1048576 t)(b:FM 1048576 r):P5 (t,r)=some (Hi t r):=by
 rw[P5];simp only;have u:=k8 a;have B:=kY (r:=r) (by have:=b.1.1;omega) (by have:=b.2;omega);rw[u,Ad,k7 a,Ad];unfold Hi;cases l:Dw t with
 |false=>rw[B2,Ah];simp
 |true=>
  rw[Bf,Ag,B,Ad];cases p:Dn r with
  |false=>rw[B2,Ah];simp
  |true=>
   rw[Bf,Ag];have A:=jX a b l;have F:=tK p;have G:=a.1;have C:=a.2.2;have f:=(cb l).1;have s:∀(k:(List A8×Int)->Option (B9×Bool)) (e:Option ((List A8×Int) ⊕ (B9×Bool))),e=some (.inl (HZ t.1 r.2.2.1,t.2.1))->AC (Ab (Ak r.1 1) (Aa (Ge J1 Mr t.1) λD=>Aa (Up (D,r.2.1)) λj=>some (.inl (j,t.2.1))) (Ab (Ak r.1 2) e (Ab (Ak r.1 3) (some (.inl (t.1,r.2.2.2.1))) (some (.inl (t.1,t.2.1)))))) k=k ((Jm t r).1,(Jm t r).2):=by
    intro k e v;unfold Jm;by_cases i:r.1=1
    .simp only[i,LM,Ah,ZA,Ad,Zm1 a.1 b.1,A4,BF]
    rw[E7 i,Ag,Ae i];by_cases c:r.1=2
    .have m:Ak r.1 2=true:=by rw[c];rfl
     rw[m,Ah,v,A4,Af c]
    rw[E7 c,Ag,Ae c];by_cases d:r.1=3
    .have n:Ak r.1 3=true:=by rw[d];rfl
     rw[n,Ah,A4,Af d]
    rw[E7 d,Ag,A4,Ae d]
   rw[s]
   rotate_left
   .rw[show Ul (t,r.2.2.1)=some (bj t.1 r.2.2.1) from Zmn (by omega),Ad];unfold bj;cases g:t.1.findIdx? (λx=>x.1==r.2.2.1) with
    |none=>rw[show Dk (-1) 0=false from rfl,Ag,Zls g]
    |some k=>
     rw[Y0]at g;obtain⟨w,h,y⟩:=g;simp only;rw[OJ (by omega),Ah,Zlr f w h];simp only[Gv,M8,Av,Zke t.1 k (by omega),CX (show k<9223372036854775807 by omega)];rw[show De 0 (k:Int) (t.1.length:Int)=true by simp[De];omega,AY,show IJ 0 k t.1.length=true by simp[IJ];omega,AY,B8 (by simp[BA];omega),AY,show De ((k+1:Nat):Int) (t.1.length:Int) (t.1.length:Int)=true by simp[De];omega,AY,show IJ (k+1) (t.1.length-(k+1)) t.1.length=true by simp[IJ];omega,AY];refine (DU (λo=>Aa o _) (Zkc t.1 k (t.1.length-(k+1)))).trans ?_;simp only[Ad];rw[B8 (by simp[Ax,BA];omega),AY,F3 (by simp)];simp[Ax,BA]
   simp only;have z:(Ab (AI r.2.2.2.2.1 0) (Aa (Uo (t.2.2,r.2.2.2.2)) λj=>some (.inl j)) (some (.inl t.2.2)):Option (List CF ⊕ (B9×Bool)))=some (.inl (Nv t r)):=by
    unfold Nv;by_cases k:r.2.2.2.2.1=0
    .rw[k,Jr,Ag,Af rfl]
    rw[Hl k,Ah,Zm0 C,Ad,Ae k]
   rw[z,A4];have q:M3 ((Jm t r).1,((Jm t r).2,Nv t r))=some (Dw (Lf t r)):=k7 A;rw[q,Ad];cases E:Dw (Lf t r) with
   |false=>rw[B2,Ah,Ad];simp
   |true=>rw[Bf,Ag];simp[Lf]
end
end Go.Vs
