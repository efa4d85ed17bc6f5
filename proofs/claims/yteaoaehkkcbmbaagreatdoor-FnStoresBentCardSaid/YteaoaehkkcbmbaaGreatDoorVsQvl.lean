import Derived.Test.YteaoaehkkcbmbaaGreatDoorVsQvk
set_option linter.all false
namespace Go.Vs
noncomputable section
abbrev RY:=List A8×Int×List CF×B9
abbrev RZ:=List A8×Int×List CF×List A8×Int×List CF×Int
def tQ(c:Int×Int->Option Int)(f:Dv×Int->Option (List UInt8))(d:List UInt8->Option (Int×Int×Bo×Bool))(e:B9×Bo->Option (B9×Bool))(x:Dv×Int)(z:RZ):Option (RZ ⊕ (RY ⊕ (B9×Int))):=
 Aa (c (x.2,z.2.2.2.2.2.2)) λg=>Aa (f (x.1,g)) λh=>Aa (d h) λa=>Ab (Ap a.2.2.2) (some (.inr (.inr ((z.2.2.2.1,(z.2.2.2.2.1,z.2.2.2.2.2.1)),z.2.2.2.2.2.2)))) (Ab (AI a.1 x.2) (some (.inr (.inr ((z.2.2.2.1,(z.2.2.2.2.1,z.2.2.2.2.2.1)),z.2.2.2.2.2.2)))) (Ab (AI a.2.1 z.2.2.2.2.2.2) (some (.inr (.inr ((z.2.2.2.1,(z.2.2.2.2.1,z.2.2.2.2.2.1)),z.2.2.2.2.2.2)))) (Aa (e ((z.2.2.2.1,(z.2.2.2.2.1,z.2.2.2.2.2.1)),a.2.2.1)) λb=>Ab (Ap b.2) (some (.inr (.inr ((z.2.2.2.1,(z.2.2.2.2.1,z.2.2.2.2.2.1)),z.2.2.2.2.2.2)))) (some (.inl (z.1,(z.2.1,(z.2.2.1,(b.1.1,(b.1.2.1,(b.1.2.2,(Au .i64 z.2.2.2.2.2.2 1))))))))))))
def QM(d:Dv)(g:Int)(i:Nat)(t:B9):Option B9:=match HB (Ha d (ET g i)) with
 |none=>none
 |some x=>if x.1=g/\x.2.1=(i:Int)/\(Hi t x.2.2).2=true then some (Hi t x.2.2).1 else none
def JJ(d:Dv)(g:Int):Nat->Nat->B9->B9×Int
 |0,i,t=>(t,(i:Int))
 |k+1,i,t=>match QM d g i t with
  |none=>(t,(i:Int))
  |some a=>JJ d g k (i+1) a
def IW:B9:=([],(0,[]))
def JK(d:Dv)(g:Int):B9×Int:=if 1<=g/\g<=60000 then JJ d g 30 0 IW else (IW,0)
def tE{d:Dv}(h:GP d)(n:Int):(Ha d n).length<=1048576:=Zlh h.2.1 h.2.2.2
def tT{FA:Int×Int->Option Int}{j:Dv×Int->Option (List UInt8)}{f:List UInt8->Option (Int×Int×Bo×Bool)}{h:B9×Bo->Option (B9×Bool)}{d:Dv}{g:Int}(hd:GP d)(m:∀i,FA (g,i)=some (ET g i))(s:∀n,j (d,n)=some (Ha d n))(o:∀l:List UInt8,l.length<=1048576000->f l=some (Pc (HB l)))(q:∀(t:B9) (r:Bo),EU 1048576 t->FM 1048576 r->h (t,r)=some (Hi t r)){y:RY}{n:Nat}(z:n<30)(v:Dw y.2.2.2=true):
  tQ FA j f h (d,g) (y.1,(y.2.1,(y.2.2.1,(y.2.2.2.1,(y.2.2.2.2.1,(y.2.2.2.2.2,(n:Int)))))))=match QM d g n y.2.2.2 with
   |none=>some (.inr (.inr (y.2.2.2,(n:Int))))
   |some e=>some (.inl (y.1,(y.2.1,(y.2.2.1,(e.1,(e.2.1,(e.2.2,((n+1:Nat):Int)))))))):=by
 have a:=Zb2 (Ha d (ET g n));unfold tQ QM;simp only;rw[m,Ad,s,Ad,o _ (by have:=tE hd (ET g n);omega),Ad];cases u:HB (Ha d (ET g n)) with
 |none=>rfl
 |some x=>
  rw[u]at a;obtain⟨k,p,r⟩:=x;simp only[Pc,Bf,Ag]at a ⊢;by_cases b:k=g
  .rw[b,Jr,Ag];by_cases c:p=(n:Int)
   .rw[c,Jr,Ag,show ((y.2.2.2.1,(y.2.2.2.2.1,y.2.2.2.2.2)),r)=(y.2.2.2,r) from rfl,q _ _ ((Pj v).mono (by decide)) ⟨a.1.mono (by decide),by have:=a.2;omega⟩,Ad];cases w:(Hi y.2.2.2 r).2 with
    |false=>rw[B2,Ah];simp
    |true=>rw[Bf,Ag,CX (by omega)];simp
   rw[Hl c,Ah];simp[c]
  rw[Hl b,Ah];simp[b]
def tS{d:Dv}{g:Int}{i:Nat}{t a:B9}(b:Dw t=true)(h:QM d g i t=some a):Dw a=true:=by
 unfold QM at h;split at h
 .cases h
 split at h
 .simp only[Ac]at h;rw[<-h];exact ek b
 cases h
def tR{d:Dv}{g:Int}:∀(k i:Nat) (t:B9),Dw t=true->Dw (JJ d g k i t).1=true/\0<=(JJ d g k i t).2/\(JJ d g k i t).2<=(i+k:Nat)
 |0,i,t,h=>⟨h,by simp only[JJ];omega,by simp only[JJ];omega⟩
 |k+1,i,t,h=>by
  unfold JJ;split
  .exact⟨h,by simp only;omega,by simp only;omega⟩
  rename_i f e;obtain⟨a,b,c⟩:=tR (d:=d) (g:=g) k (i+1) f (tS h e);exact⟨a,b,by omega⟩
def Tx:Dw IW=true:=by decide
def tX(d:Dv)(g:Int):Dw (JK d g).1=true/\0<=(JK d g).2/\(JK d g).2<=30:=by
 unfold JK;split
 .exact tR 30 0 IW Tx
 exact⟨Tx,by simp only;omega,by simp only;omega⟩
def tW{d:Dv}{g:Int}{step:RZ->Option (RZ ⊕ (RY ⊕ (B9×Int)))}(f:∀(y:RY) (n:Nat),n<30->Dw y.2.2.2=true->step (y.1,(y.2.1,(y.2.2.1,(y.2.2.2.1,(y.2.2.2.2.1,(y.2.2.2.2.2,(n:Int)))))))=match QM d g n y.2.2.2 with
   |none=>some (.inr (.inr (y.2.2.2,(n:Int))))
   |some b=>some (.inl (y.1,(y.2.1,(y.2.2.1,(b.1,(b.2.1,(b.2.2,((n+1:Nat):Int)))))))))
  (h:∀y:RY,step (y.1,(y.2.1,(y.2.2.1,(y.2.2.2.1,(y.2.2.2.2.1,(y.2.2.2.2.2,30))))))=some (.inr (.inl y))):
  ∃r,Bd step ([],(0,([],([],(0,([],0))))))=some r/\((∃y:RY,r=.inl y/\JJ d g 30 0 IW=(y.2.2.2,30))\/r=.inr (JJ d g 30 0 IW)):=by
 generalize i:JJ d g 30 0 IW=R;refine IO (λn z=>∃y:RY,z=(y.1,(y.2.1,(y.2.2.1,(y.2.2.2.1,(y.2.2.2.2.1,(y.2.2.2.2.2,(n:Int)))))))/\Dw y.2.2.2=true/\JJ d g (30-n) n y.2.2.2=R) 30 _ ?_ ?_ _ ⟨([],0,[],[],0,[]),rfl,Tx,i⟩
 .rintro n z j ⟨y,rfl,e,a⟩;rw[f y n j e];rw[show 30-n=(30-(n+1))+1 by omega]at a;unfold JJ at a;cases c:QM d g n y.2.2.2 with
  |none=>rw[c]at a;exact .inr ⟨_,rfl,.inr (by rw[<-a])⟩
  |some b=>rw[c]at a;exact .inl ⟨_,rfl,(y.1,y.2.1,y.2.2.1,b),rfl,tS e c,a⟩
 rintro z ⟨y,rfl,e,a⟩;exact⟨_,h y,.inl ⟨y,rfl,by rw[<-a];rfl⟩⟩
def qv{d:Dv}{g:Int}(hd:GP d):Rw (d,g)=some (JK d g):=by
 rw[Rw];simp only;rw[HD,Ad];unfold JK;by_cases h:1<=g/\g<=60000
 case neg=>rw[AG h,B2,Ah,Ae h];rfl
 rw[AF h,Bf,Ag,Af h];obtain⟨r,e,c⟩:=tW (d:=d) (g:=g) (step:=Y9 (d,g)) (λy n b f=>by
  rw[Y9];simp only[MQ];rw[Bw (by omega),Ah];exact tT (FA:=Lz) hd (λi=>rfl) (λn=>qu hd) (λl a=>Zh4 a) (λt r=>qq) b f) (λy=>by
  rw[Y9];simp only;rw[B1 (by omega),Ag])
 rw[e];rcases c with ⟨y,rfl,j⟩|rfl
 .rw[A4,j]
 rfl
def u7{d:Dv}{g:Int}(hd:GP d):R6 (d,g)=some (JK d g):=by
 rw[R6];unfold JK;simp only;by_cases h:1<=g/\g<=60000
 case neg=>
  rw[show Bd (RX (d,g)) ([],(0,([],([],(0,([],0))))))=some (.inl ([],0,[],IW)) from HI (λ_=>([],(0,([],([],(0,([],0))))))) 0 _ (λi k=>by omega) (by
   rw[RX];simp only;rw[Bw (by omega),Ah,Ef,Ad,AG h,Ag];rfl) _ rfl,A4,Ef,Ad,AG h,B2,Ah,Ae h]
 obtain⟨r,e,c⟩:=tW (d:=d) (g:=g) (step:=RX (d,g)) (λy n b f=>by
  rw[RX];simp only[MQ];rw[Bw (by omega),Ah,Ef,Ad,AF h,Ah];exact tT (FA:=L2) hd (λi=>rfl) (λn=>u6 hd) (λl a=>Zmf a) (λt r=>kT) b f) (λy=>by
  rw[RX];simp only;rw[B1 (by omega),Ag])
 rw[e,Af h];rcases c with ⟨y,rfl,j⟩|rfl
 .rw[A4,Ef,Ad,AF h,Bf,Ag,j]
 rfl
def IU(u:BN)(r:Bo):Dv:=
 let d:Dv:=(u.1.1,Ff u.1.1 u.1.2.1 u.1.2.2.1 u.1.2.2.2 (ET u.2.2.1 u.2.2.2) (FK u.2.2.1 u.2.2.2 r))
 E6 d.1 d.2.1 d.2.2.1 d.2.2.2
def Lm(u:BN)(t:B9)(r:Bo):BN×Bool:=if u.1.2.2.2=true\/u.2.2.2=30 then (u,false) else if (IU u r).2.2.2=true then ((IU u r,u.2),false) else ((IU u r,(t,(u.2.2.1,Au .i64 u.2.2.2 1))),true)
def Fs(s:BN):BN:=if s.2.2.2=30 then IN s else s
def HV(s:BN)(r:Bo):BN×Bool:=if GH s=true/\s.1.2.2.2=false/\(Hi s.2.1 r).2=true then Lm (Fs s) (Hi s.2.1 r).1 r else (s,false)
def ae{σ ρ:Type}{o:Option (σ ⊕ ρ)}{f:σ->Option ρ}{a:σ}{r:Option ρ}(h:o=some (.inl a))(b:f a=r):AC o f=r:=by rw[h,A4,b]
def yI{α:Type}{b:Bool}{x y:Option α}(h:b=false):Ab b x y=y:=by rw[h];rfl
def yJ{α:Type}{b:Bool}{x y:Option α}(h:b=true):Ab b x y=x:=by rw[h];rfl
def Zjo{s:BN}(h:EQ s.1=true):EQ (IN s).1=true:=by
 unfold IN;split
 .exact VV h
 exact h
def hB{s:BN}(h:EQ s.1=true):EQ (Fs s).1=true:=by
 unfold Fs;split
 .exact Zjo h
 exact h
def bX{u:BN}{r:Bo}(h:EQ u.1=true):EQ (IU u r)=true:=V4 (Rq h)
def Zla{u:BN}{t:B9}{r:Bo}(h:EQ u.1=true)(d:FM 1048576 r):
  (Ab u.1.2.2.2 (some (u,false)) (Ab (Ak u.2.2.2 30) (some (u,false)) (Aa (Lz u.2.2) λe=>Aa (P2 (u.2.2.1,(u.2.2.2,r))) λg=>Aa (J5 (u.1,(e,g))) λi=>Aa (KA i) λc=>Ab c.2.2.2 (some ((c,u.2),false)) (some ((c,(t,(u.2.2.1,Au .i64 u.2.2.2 1))),true)))))=some (Lm u t r):=by
 have w:=TC (n:=ET u.2.2.1 u.2.2.2) (b:=FK u.2.2.1 u.2.2.2 r) h (bY _ _ _);have k:=Rq (n:=ET u.2.2.1 u.2.2.2) (b:=FK u.2.2.1 u.2.2.2 r) h;have f:=S4 k;unfold Lm;cases hd:u.1.2.2.2 with
 |true=>rw[Ah,Af (.inl rfl)]
 |false=>
  rw[Ag];by_cases a:u.2.2.2=30
  .rw[Eu,AF a,Ah,Af (.inr a)]
  rw[E7 a,Ag,Ae (by simp[a]),show Lz u.2.2=some (ET u.2.2.1 u.2.2.2) from rfl,Ad,iL d,Ad,w.1,Ad,f.1,Ad]
  change Ab (IU u r).2.2.2 (some ((IU u r,u.2),false)) _=_
  cases j:(IU u r).2.2.2 with
  |true=>rw[Ah,Af rfl]
  |false=>rw[Ag];rfl
def Zlb{u:BN}{t:B9}{r:Bo}(h:EQ u.1=true)(d:FM 1048576 r):
  (Ab u.1.2.2.2 (some (false,u)) (Ab (Ak u.2.2.2 30) (some (false,u)) (Aa (L2 u.2.2) λe=>Aa (R5 (u.2.2.1,(u.2.2.2,r))) λg=>Aa (KE (u.1,(e,g))) λi=>Aa (Ka (u.1.1,i)) λc=>Ab c.2.2.2 (some (false,(c,u.2))) (some (true,(c,(t,(u.2.2.1,Au .i64 u.2.2.2 1))))))))=some ((Lm u t r).2,(Lm u t r).1):=by
 have w:=TC (n:=ET u.2.2.1 u.2.2.2) (b:=FK u.2.2.1 u.2.2.2 r) h (bY _ _ _);have k:=Rq (n:=ET u.2.2.1 u.2.2.2) (b:=FK u.2.2.1 u.2.2.2 r) h;have f:=S4 k;unfold Lm;cases hd:u.1.2.2.2 with
 |true=>rw[Ah,Af (.inl rfl)]
 |false=>
  rw[Ag];by_cases a:u.2.2.2=30
  .rw[Eu,AF a,Ah,Af (.inr a)]
  rw[E7 a,Ag,Ae (by simp[a]),show L2 u.2.2=some (ET u.2.2.1 u.2.2.2) from rfl,Ad,u5 d,Ad,w.2,Ad,f.2,Ad]
  change Ab (IU u r).2.2.2 (some (false,(IU u r,u.2))) _=_
  cases j:(IU u r).2.2.2 with
  |true=>rw[Ah,Af rfl]
  |false=>rw[Ag];rfl
def Zhu{s:BN}{r:Bo}(h:FD 1048576 s)(e:FM 1048576 r):Xs (s,r)=some (HV s r):=by
 rw[Xs];simp only;have f:Ry s=some s:=by rw[Ry,VC (Lq h.1),Ad,iP h.2,Ad]
 rw[f,Ad,qq h.2 e,Ad,VE h,Ad];unfold HV;cases i:GH s with
 |false=>rw[B2,Ah,Ae (by simp)]
 |true=>
  obtain⟨hd,j,k⟩:=Ph i;rw[Bf,Ag];rcases mz s.1.2.2.2 with a|a
  .rw[yJ a,Ae (by simp[a])]
  rw[yI a];rcases mz (Hi s.2.1 r).2 with c|c
  case inr=>rw[c,B2,Ah,Ae (by simp)]
  rw[show Ap (Hi s.2.1 r).2=false by rw[c];rfl,Ag,Af ⟨rfl,a,c⟩];have g:(Ab (Ak s.2.2.2 30) (Aa (NS s) (λb=>(some (.inl (b.1.1,(b.1.2.1,(b.1.2.2.1,(b.1.2.2.2,(b.2.1.1,(b.2.1.2.1,(b.2.1.2.2,b.2.2))))))))))) (some (.inl (s.1.1,(s.1.2.1,(s.1.2.2.1,(s.1.2.2.2,(s.2.1.1,(s.2.1.2.1,(s.2.1.2.2,s.2.2))))))))):Option (_ ⊕ (BN×Bool)))=some (.inl ((Fs s).1.1,((Fs s).1.2.1,((Fs s).1.2.2.1,((Fs s).1.2.2.2,((Fs s).2.1.1,((Fs s).2.1.2.1,((Fs s).2.1.2.2,(Fs s).2.2)))))))):=by
   unfold Fs;by_cases d:s.2.2.2=30
   .rw[Eu,AF d,Ah,iK h,Ad,Af d]
   rw[E7 d,Ag,Ae d]
  exact ae g (Zla (hB hd) e)
def k9{s:BN}{r:Bo}(h:FD 1048576 s)(k:FM 1048576 r)(f:GH s=true)(a:s.1.2.2.2=false):NY (s,r)=some ((HV s r).2,(HV s r).1):=by
 obtain⟨hd,n,o⟩:=Ph f;have i:=Wx h.2;rw[NY];simp only[MQ];rw[kT h.2 k,Ad];unfold HV;cases p:(Hi s.2.1 r).2 with
 |false=>rw[B2,Ah,Ae (by simp)]
 |true=>
  rw[Bf,Ag,Af ⟨f,a,rfl⟩];have d:(Ab (Ak s.2.2.2 30) (Ab (Bb s.2.2.1 60000) (Aa (L3 (s,(Au .i64 s.2.2.1 1))) (λm=>(some (.inl m)))) (some (.inl (s.1.1,(s.1.2.1,(s.1.2.2.1,(s.1.2.2.2,(s.2.1.2.1,s.2.2)))))))) (some (.inl (s.1.1,(s.1.2.1,(s.1.2.2.1,(s.1.2.2.2,(s.2.1.2.1,s.2.2))))))):Option (_ ⊕ (Bool×BN)))=some (.inl ((Fs s).1.1,((Fs s).1.2.1,((Fs s).1.2.2.1,((Fs s).1.2.2.2,((Fs s).2.1.2.1,(Fs s).2.2))))))/\(Fs s).2.1=s.2.1:=by
   unfold Fs;by_cases b:s.2.2.2=30
   .rw[Eu,AF b,Ah,Af b];unfold IN;by_cases j:s.2.2.1=60000
    .rw[B1 (by omega),Ag,Ae (c:=GH s=true/\s.1.2.2.2=false/\s.2.2.1≠60000) (by simp[j])];exact⟨rfl,rfl⟩
    rw[Bw (by omega),Ah,CS (by omega) (by omega)];have e:=k_ (D:=s.1) (T:=s.2.1) (gp:=s.2.2) (g:=s.2.2.1+1) hd (kS h.2) i.1 i.2;rw[show L3 (s,s.2.2.1+1)=_ from e,Ad,Af (c:=GH s=true/\s.1.2.2.2=false/\s.2.2.1≠60000) ⟨f,a,j⟩];exact⟨rfl,rfl⟩
   rw[E7 b,Ag,Ae b];exact⟨rfl,rfl⟩
  obtain⟨d,l⟩:=d;refine ae d ?_;rw[<-l];exact Zlb (hB hd) k
def Zl7{s:BN}{r:Bo}(h:FD 1048576 s)(c:FM 1048576 r):X7 (s,r)=some (HV s r):=by
 rw[X7];simp only;rw[Uq,bu (Lq h.1),Ad,k8 h.2,Ad,Ad,cD h,Ad];cases b:GH s with
 |false=>rw[B2,Ah];unfold HV;rw[Ae (by simp[b])]
 |true=>
  rw[Bf,Ag];cases a:s.1.2.2.2 with
  |true=>rw[Ah];unfold HV;rw[Ae (by simp[a])]
  |false=>rw[Ag];rw[show NY (s,r)=_ from k9 h c b a,Ad]
def vL:BN:=(([],([],(0,false))),(IW,(0,0)))
def Wk(d:Dv)(i:Int)(s:BN):BN:=if (Ih (Ha d i)).2.2=true/\EX (Ih (Ha d i)).1 2=i/\s.2.2.1<(Ih (Ha d i)).1/\(Ih (Ha d i)).2.1<=(JK d (Ih (Ha d i)).1).2 then (d,((JK d (Ih (Ha d i)).1).1,((Ih (Ha d i)).1,(JK d (Ih (Ha d i)).1).2))) else s
def C1(d:Dv):Nat->BN
 |0=>vL
 |i+1=>Wk d i (C1 d i)
def N2(d:Dv):BN×Bool:=if GH (C1 d 2)=true then (IN (C1 d 2),true) else (vL,false)
abbrev O9:=List (List UInt8)×List Wr×Int×Bool×List A8×Int×List CF×Int×Int
abbrev OZ:=List (List UInt8)×List Wr×Int×Bool×List A8×Int×List CF×Int×Int×Int
def o9(s:BN):O9:=(s.1.1,(s.1.2.1,(s.1.2.2.1,(s.1.2.2.2,(s.2.1.1,(s.2.1.2.1,(s.2.1.2.2,(s.2.2.1,s.2.2.2))))))))
def oZ(s:BN)(i:Int):OZ:=(s.1.1,(s.1.2.1,(s.1.2.2.1,(s.1.2.2.2,(s.2.1.1,(s.2.1.2.1,(s.2.1.2.2,(s.2.2.1,(s.2.2.2,i)))))))))
def s_{ρ:Type}{FR:Dv×Int->Option (List UInt8)}{FH:List UInt8->Option (Int×Int×Bool)}{FP:Dv×Int->Option (B9×Int)}{FC:Dv->Option Dv}{d:Dv}{i:Int}{s:BN}(hd:GP d)(p:FR (d,i)=some (Ha d i))(m:∀l:List UInt8,l.length<=1048576->FH l=some (Ih l))(o:∀g,FP (d,g)=some (JK d g))(k:FC d=some d):
  (Aa (FR (d,i)) λr=>Aa (FH r) λa=>Ab (Ap a.2.2) (some (.inl (o9 s))) (Ab (AI (EX a.1 2) i) (some (.inl (o9 s))) (Ab (Ck a.1 s.2.2.1) (some (.inl (o9 s))) (Aa (FP (d,a.1)) λb=>Ab (Dk b.2 a.2.1) (Aa (FC d) λc=>some (.inl (c.1,(c.2.1,(c.2.2.1,(c.2.2.2,(b.1.1,(b.1.2.1,(b.1.2.2,(a.1,b.2)))))))))) (some (.inl (o9 s)))))))=(some (.inl (o9 (Wk d i s))):Option (O9 ⊕ ρ)):=by
 rw[p,Ad,m _ (tE hd i),Ad];unfold Wk;generalize Ih (Ha d i)=h;obtain⟨g,n,q⟩:=h;simp only;cases q with
 |false=>rw[B2,Ah,Ae (by simp)]
 |true=>
  rw[Bf,Ag];by_cases e:EX g 2=i
  case neg=>rw[Hl e,Ah,Ae (by simp[e])]
  rw[e,Jr,Ag];by_cases j:g<=s.2.2.1
  .rw[HC j,Ah,Ae (by intro h;omega)]
  rw[JC (by omega),Ag,o,Ad];by_cases f:n<=(JK d g).2
  .rw[OJ f,Ah,k,Ad,Af ⟨rfl,rfl,by omega,f⟩];rfl
  rw[Nj (by omega),Ag,Ae (by intro h;omega)]
def bJ{d:Dv}(h:HN 1048576 d):∀n,FD 1048576 (C1 d n):=by
 intro n
 induction n with
 |zero=>exact⟨⟨Cq _,λs a=>(by cases a),Cq _,λs a=>(by cases a)⟩,(Pj Tx).mono (by decide)⟩
 |succ n b=>
  show FD 1048576 (Wk d n (C1 d n));unfold Wk;split
  .exact⟨h,(Pj (tX d _).1).mono (by decide)⟩
  exact b
def Zia{d:Dv}(h:HN 1048576 d):TQ d=some (N2 d):=by
 have hd:=Lq h;have a:=bJ h;rw[TQ];rw[show Bd (Y7 d) ([],([],(0,(false,([],(0,([],(0,(0,0)))))))))=some (.inl (o9 (C1 d 2))) from HI (λn=>oZ (C1 d n) (n:Int)) 2 _ (λn j=>by
  rw[Y7];have e:=s_ (ρ:=OZ ⊕ (O9 ⊕ (BN×Bool))) (FR:=Ru) (FH:=TL) (FP:=Rw) (FC:=Lx) (i:=(n:Int)) (s:=C1 d n) hd (qu hd) (λl=>Zh3) (λg=>qv hd) (VC hd);simp only[oZ];rw[Bw (by omega),Ah];refine ae e ?_;rw[CX (by omega)];rfl) (by
  rw[Y7];simp only[oZ];rw[B1 (by omega),Ag];rfl) _ rfl,A4]
 have f:=VE (a 2);have c:=iK (a 2);simp only[o9];rw[show Mw (((C1 d 2).1.1,((C1 d 2).1.2.1,((C1 d 2).1.2.2.1,(C1 d 2).1.2.2.2))),(((C1 d 2).2.1.1,((C1 d 2).2.1.2.1,(C1 d 2).2.1.2.2)),((C1 d 2).2.2.1,(C1 d 2).2.2.2)))=_ from f,Ad,show NS (((C1 d 2).1.1,((C1 d 2).1.2.1,((C1 d 2).1.2.2.1,(C1 d 2).1.2.2.2))),(((C1 d 2).2.1.1,((C1 d 2).2.1.2.1,(C1 d 2).2.1.2.2)),((C1 d 2).2.2.1,(C1 d 2).2.2.2)))=_ from c,Ad];unfold N2;cases b:GH (C1 d 2) with
 |false=>rw[B2,Ah,Ae (by simp)];cases Ak (C1 d 2).2.2.1 0<;>rfl
 |true=>rw[E7 (by have:=Ph b;omega),Ag,Bf,Ag,Af rfl]
def Zmj{d:Dv}(h:HN 1048576 d):Uh d=some (N2 d):=by
 have hd:=Lq h;have a:=bJ h;rw[Uh];rw[show Bd (YL d) ([],([],(0,(false,([],(0,([],(0,(0,0)))))))))=some (.inl (o9 (C1 d 2))) from HI (λn=>oZ (C1 d n) (n:Int)) 2 _ (λn j=>by
  rw[YL];have e:=s_ (ρ:=OZ ⊕ (O9 ⊕ (BN×Bool))) (FR:=PA) (FH:=Uf) (FP:=R6) (FC:=PC) (i:=(n:Int)) (s:=C1 d n) hd (u6 hd) (λl=>Zme) (λg=>u7 hd) (bu hd);simp only[oZ];rw[Bw (by omega),Ah];refine ae e ?_;rw[CX (by omega)];rfl) (by
  rw[YL];simp only[oZ];rw[B1 (by omega),Ag];rfl) _ rfl,A4]
 have c:=cD (a 2);have b:=u3 (a 2);simp only[o9];rw[show NW (((C1 d 2).1.1,((C1 d 2).1.2.1,((C1 d 2).1.2.2.1,(C1 d 2).1.2.2.2))),(((C1 d 2).2.1.1,((C1 d 2).2.1.2.1,(C1 d 2).2.1.2.2)),((C1 d 2).2.2.1,(C1 d 2).2.2.2)))=_ from c,Ad,show R4 (((C1 d 2).1.1,((C1 d 2).1.2.1,((C1 d 2).1.2.2.1,(C1 d 2).1.2.2.2))),(((C1 d 2).2.1.1,((C1 d 2).2.1.2.1,(C1 d 2).2.1.2.2)),((C1 d 2).2.2.1,(C1 d 2).2.2.2)))=_ from b,Ad];unfold N2;cases f:GH (C1 d 2) with
 |false=>rw[B2,Ah,Ae (by simp)];rfl
 |true=>rw[Bf,Ag,Af rfl]
def Zkq{d:Dv}(h:HN 1048576 d):FD 1048576 (N2 d).1:=by
 unfold N2;split
 .exact iy (bJ h 2)
 exact bJ h 0
def Zh9{d:Dv}(h:HN 1048576 d):TQ d=some (N2 d)/\Uh d=some (N2 d)/\FD 1048576 (N2 d).1:=⟨Zia h,Zmj h,Zkq h⟩
end
end Go.Vs
