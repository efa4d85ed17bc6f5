import Derived.Test.YtmfmjngkbddenaaGreatDoorVsW3
set_option linter.all false
namespace Go.Vs
variable [Glb]
section
variable {β:Type} {X:XSt} {S:St} {out:β}
theorem Zg1 {α β:Type}{R:α->β->Prop}:∀{as as':List α}{bs:List β},Aa R (as++as') bs->Aa R as (bs.take as.length)/\Aa R as' (bs.drop as.length)
 | [],as',bs,h=>⟨by simp [Aa],by simpa using h⟩
 | a::as,as',b::bs,h=>by
  obtain⟨h1,h2⟩:=Zg1 (as:=as) h.2;exact⟨⟨h.1,h1⟩,h2⟩
 | _::_,_,[],h=>h.elim
theorem Zpg {R:XRs}{c:XC}{d d':D}(h:CD R c d) (h':CD R c d'):d=d':=by
 rcases h with ⟨v,h1,rfl⟩|⟨n,rfl,rfl⟩|⟨t,ws,r,p,lo,l,h1,h2,h3,h4,rfl,h6⟩
 ·rcases h' with ⟨v',g1,rfl⟩|⟨n',rfl,rfl⟩|⟨t',ws',r',p',lo',l',g1,g2,g3,g4,rfl,g6⟩
  ·rw[h1]at g1;simp only[C.lf.injEq]at g1;rw[g1]
  ·simp [cC]at h1
  ·rw[h1]at g1;simp at g1
 ·rcases h' with ⟨v',g1,rfl⟩|⟨n',g1,rfl⟩|⟨t',ws',r',p',lo',l',g1,g2,g3,g4,rfl,g6⟩
  ·simp [cC]at g1
  ·simp only[XC.nl.injEq]at g1;rw[g1]
  ·simp [cC]at g1
 ·rcases h' with ⟨v',g1,rfl⟩|⟨n',rfl,rfl⟩|⟨t',ws',r',p',lo',l',g1,g2,g3,g4,rfl,g6⟩
  ·rw[h1]at g1;simp at g1
  ·simp [cC]at h1
  ·rw[h1]at g1;simp only[C.rf.injEq]at g1;obtain⟨rfl,rfl,e3,rfl,e5⟩:=g1;rw[h2]at g2;simp only[Ka,Kb]at g2;obtain⟨_,rfl⟩:=g2;rw[<-h4,<-g4,e3,e5]
theorem Zhn {R:XRs}:∀{cs:List XC}{ds ds':List D},Aa (CD R) cs ds->Aa (CD R) cs ds'->ds=ds'
 | [],[],[],_,_=>rfl
 | c::cs,d::ds,d'::ds',h,h'=>by rw[Zpg h.1 h'.1,Zhn h.2 h'.2]
 | [],_::_,_,h,_=>h.elim
 | [],_,_::_,_,h=>h.elim
 | _::_,[],_,h,_=>h.elim
 | _::_,_,[],_,h=>h.elim
theorem Zch {R:XRs}{r v:Nat}{p:Af}{i sz:Nat}{l:List (List D)}{e:List D}(hv:B9 R r v=true) (hn:Ce R r p=some (sz,l)) (hi:l[i]? = some e):∀(t:Ty) (x:t.den) (c j:Nat) (y:XC) (d:D),((hsL t x)[j]?).getD true=true->(B7 r v p i t x c)[j]? = some y->(Ad t x)[j]? = some d->(∀(j:Nat) (d:D),(Ad t x)[j]? = some d->e[c+j]? = some d)->CD R y d
 | .I _,_,_,0,_,_,_,hy,hd,_=>by
  simp only[B7,Ad,Ku,Ka]at hy hd;subst hy hd;exact .inl ⟨_,rfl,rfl⟩
 | .Y,_,_,0,_,_,_,hy,hd,_=>by
  simp only[B7,Ad,Ku,Ka]at hy hd;subst hy hd;exact .inl ⟨_,rfl,rfl⟩
 | .B,_,_,0,_,_,_,hy,hd,_=>by
  simp only[B7,Ad,Ku,Ka]at hy hd;subst hy hd;exact .inl ⟨_,rfl,rfl⟩
 | .S,_,_,0,_,_,_,hy,hd,_=>by
  simp only[B7,Ad,Ku,Ka]at hy hd;subst hy hd;exact .inl ⟨_,rfl,rfl⟩
 | .L t,xs,c,0,_,_,_,hy,hd,he=>by
  simp only[B7,Ad,Ku,Ka]at hy hd;subst hy hd;have h3:=X7 hn i c;simp only[hi,Kqa]at h3;rw[show e[c]? = some (.sl t.n (xs.map (Ad t))) from he 0 _ rfl]at h3;exact .inr (.inr ⟨t,xs,r,p++[(i,c)],0,_,by simp [cC,hv],h3,by simp,by rw[Kha,Kob (by simp)],rfl,.inl rfl⟩)
 | .H t,none,c,0,_,_,h,_,_,_=>by simp [hsL,Gq]at h
 | .H t,some xs,c,0,_,_,_,hy,hd,he=>by
  simp only[B7,Ad,Ku,Ka]at hy hd;subst hy hd;have h3:=X7 hn i c;simp only[hi,Kqa]at h3;rw[show e[c]? = some (.sl t.n (xs.map (Ad t))) from he 0 _ rfl]at h3;exact .inr (.inr ⟨t,xs,r,p++[(i,c)],0,_,by simp [cC,hv],h3,by simp,by rw[Kha,Kob (by simp)],rfl,.inl rfl⟩)
 | .I _,_,_,_+1,_,_,_,hy,_,_=>by simp [B7]at hy
 | .Y,_,_,_+1,_,_,_,hy,_,_=>by simp [B7]at hy
 | .B,_,_,_+1,_,_,_,hy,_,_=>by simp [B7]at hy
 | .S,_,_,_+1,_,_,_,hy,_,_=>by simp [B7]at hy
 | .L _,_,_,_+1,_,_,_,hy,_,_=>by simp [B7]at hy
 | .H _,_,_,_+1,_,_,_,hy,_,_=>by simp [B7]at hy
 | .P a b,x,c,j,y,d,h,hy,hd,he=>by
  simp only[B7,Ad,hsL]at h hy hd;by_cases hj:j<a.n
  ·rw[Ksa (by rw[O4];exact hj)]at h;rw[Ksa (by rw[Iq];exact hj)]at hy;rw[Ksa (by rw[Bm];exact hj)]at hd;refine Zch hv hn hi a x.1 c j y d h hy hd fun k z hz=>he k z ?_;simp only[Ad];rw[Ksa (Kea.1 hz).1];exact hz
  ·rw[Kga (by rw[O4];omega),O4]at h;rw[Kga (by rw[Iq];omega),Iq]at hy;rw[Kga (by rw[Bm];omega),Bm]at hd;refine Zch hv hn hi b x.2 _ _ y d h hy hd fun k z hz=>?_;rw[show c+a.n+k=c+(a.n+k) by omega];refine he _ z ?_;simp only[Ad];rw[Kga (by rw[Bm];omega),Bm,Kbg];exact hz
theorem Zg0 {α β:Type}{R:α->β->Prop}:∀{as:List α}{bs:List β},as.length=bs.length->(∀(j:Nat) (a:α) (b:β),as[j]? = some a->bs[j]? = some b->R a b)->Aa R as bs
 | [],[],_,_=>trivial
 | a::as,b::bs,hl,h=>⟨h 0 a b rfl rfl,Zg0 (by simpa using hl) fun j a b ha hb=>h (j+1) a b (by simpa using ha) (by simpa using hb)⟩
 | [],_::_,hl,_=>by simp at hl
 | _::_,[],hl,_=>by simp at hl
theorem Zth {r:Nat}{Y:XSt}{c':XC}{nx:Nat}{m:List (Nat×Af)}{t:Ty}{xs:List t.den}(hm:Sv r m){X:XSt}(hroot:cC (Y.setR r (.tr t xs)).roots c'=cC X.roots c') (ho:okC Y.roots nx Y.stamp c'):cC (Y.setR r (.tr t xs)).roots c'=.un\/cC (Y.setR r (.tr t xs)).roots c'=A8 m (cC X.roots c'):=by
 have hnv:∀v2,v2<Y.stamp->B9 (Y.setR r (.tr t xs)).roots r v2=false:=by
  intro v2 hv2;simp only[B9,XSt.setR,Ba,if_true];cases hbb:Nat.beq Y.stamp v2 with
  | false=>rfl
  | true=>have:=Km hbb;omega
 by_cases hun:cC X.roots c'=.un
 ·left;rw[hroot,hun]
 ·right;rw[hroot];symm;refine Zj5 ?_ ?_ hm
  ·intro q p s lo n' hq;cases c' with
   | rw q'=>simp only[cC]at hq;split at hq<;>simp at hq<;>exact .inr (by first|exact hq.2.1|exact hq.2.1.symm)
   | rv q' _ _=>simp only[cC]at hq;split at hq<;>simp at hq<;>exact .inr (by first|exact hq.2.1|exact hq.2.1.symm)
   | rf q' v2 p' lo' t2 ws' =>
    left;intro hqr;simp only[cC]at hq;split at hq
    ·simp only[C.rf.injEq]at hq;have:q'=r:=hq.1.trans hqr;subst this;have:cC (Y.setR q' (.tr t xs)).roots (.rf q' v2 p' lo' t2 ws')=.un:=by simp only[cC,hnv v2 ho.2.1]
     rw[hroot]at this;exact hun this
    ·simp at hq
   | pe _ _ _ _ _ _ _=>simp only[cC]at hq;split at hq<;>simp at hq
   | pb _ _=>simp only[cC]at hq;split at hq<;>simp at hq
   | _=>simp [cC]at hq
  ·intro q p i' c2 hq;cases c' with
   | pe q' v2 p' i2 c2' t2 x2 =>
    left;intro hqr;simp only[cC]at hq;split at hq
    ·simp only[C.pe.injEq]at hq;have:q'=r:=hq.1.trans hqr;subst this;have:cC (Y.setR q' (.tr t xs)).roots (.pe q' v2 p' i2 c2' t2 x2)=.un:=by simp only[cC,hnv v2 ho.2.1]
     rw[hroot]at this;exact hun this
    ·simp at hq
   | rw q'=>simp only[cC]at hq;split at hq<;>simp at hq
   | rv q' _ _=>simp only[cC]at hq;split at hq<;>simp at hq
   | rf _ _ _ _ _ _=>simp only[cC]at hq;split at hq<;>simp at hq
   | pb _ _=>simp only[cC]at hq;split at hq<;>simp at hq
   | _=>simp [cC]at hq
theorem Zcj {R:XRs}{nx st:Nat}{x:XV}(ho:okV R nx st x){cs:List XC}(hc:G5 x=some cs):∀c∈cs,okC R nx st c:=by
 cases x with
 | a x=>cases x with
  | c x=>simp only[G5,Ka]at hc;subst hc;intro c hc;simp only[Kna]at hc;subst hc;exact ho
  | ag xs=>simp only[G5,Ka]at hc;subst hc;exact ho
 | _=>simp [G5]at hc
theorem Ztp {R:XRs}:∀{ys:List XC},(∀y∈ys,I0 y=true)->Ds R ys=some []
 | [],_=>rfl
 | y::ys,h=>by
  have h0:=h y Kn;have h1:=Ztp (R:=R) (ys:=ys) fun y hy=>h y (Kl _ hy);simp only[Ds,h1];cases y<;>simp [I0]at h0<;>rfl
theorem Zti {R:XRs}:∀{cs:List XC}{ys:List C},(∀c∈cs,cC R c≠.un)->Aa WkC ys (cs.map (cC R))->ys=cs.map (cC R)
 | [],[],_,_=>rfl
 | c::cs,y::ys,h,hw=>by
  simp only[Kc];rw[<-Zti (fun c hc=>h c (Kl _ hc)) hw.2,hw.1.eq (h c Kn)]
 | [],_::_,_,h=>h.elim
 | _::_,[],_,h=>h.elim
theorem Yp2 (hX:XOk X) (hS:SimX X S){n:Nat}{x v:Opd}{k:XV->XSt->Option β}(h:Zm2 X n (X.opd x) (X.opd v) k=some out):Wo X S (.store n x v) k out:=by
 have hpo:=Eu hX x;have hvo:=Eu hX v;have hnx:S.next=X.next:=hS.next;unfold Zm2 at h;split at h
 ·-- a variable
  rename_i r c ys hp hys;rw[hp]at hpo;obtain⟨zs,v1,v2,_⟩:=Wz (Ga hS v) hys;split at h
  ·rename_i s cs hl;split at h
   ·rename_i hb;simp only[Ke]at hb;have hb1:=Km hb.1;have hb2:=Kba hb.2;obtain⟨bs,g1,g2⟩:=Ob hS hl;have lz:=v2.length;have lb:=g2.length;simp only[Ko]at lz lb;have hcells:=Zcj hvo hys;obtain⟨a,b⟩:=K5 hX (x:=.bx (cs.take c++(ys.map (fun y=>(X.stamp,y))++cs.drop (c+n)))) (Kd _) hpo (by
     intro cs' e j en hj;simp only[XR.bx.injEq]at e;subst e;have hlt:(cs.take c).length=c:=by simp;omega
     by_cases h1:j<c
     ·rw[Ksa (by omega),Kua,if_pos h1]at hj;exact⟨.inr ⟨s,cs,hl,hj⟩,(hX.box r s cs hl en (Kz hj)).2⟩
     ·rw[Kga (by omega),hlt]at hj;by_cases h2:j-c<ys.length
      ·rw[Ksa (by simpa using h2),Kaa,Kt]at hj;obtain⟨y,hy,rfl⟩:=hj;exact⟨.inl rfl,hcells y (Kz hy)⟩
      ·rw[Kga (by simp;omega),Kva]at hj;simp only[Ko]at hj;rw[show c+n+(j-c-ys.length)=j by omega]at hj;exact⟨.inr ⟨s,cs,hl,hj⟩,(hX.box r s cs hl en (Kz hj)).2⟩)
    have key:∀c',okC X.roots X.next X.stamp c'->cC ((r,X.stamp,.bx (cs.take c++(ys.map (fun y=>(X.stamp,y))++cs.drop (c+n))))::X.roots) c'=.un\/cC ((r,X.stamp,.bx (cs.take c++(ys.map (fun y=>(X.stamp,y))++cs.drop (c+n))))::X.roots) c'=A8 [] (cC X.roots c'):=fun c' hc=>Jm (.inr (.inr (.inl ⟨_,_,_,rfl,hl⟩))) hc;have hsim:=Nl (X':=X.setR r (.bx (cs.take c++(ys.map (fun y=>(X.stamp,y))++cs.drop (c+n))))) (ks:=[]) (roots:=put S.roots r (.bx (bs.take c++(zs++bs.drop (c+n))))) hX hS rfl rfl key (by
     intro q s' z hq;simp only[XSt.setR]at hq;rw[Ba]at hq;split at hq
     ·rename_i e;simp only at e;subst e;simp only[Ka,Kb]at hq;obtain⟨_,rfl⟩:=hq;right;intro y hy;simp only[cRt,Ka]at hy;subst hy;refine⟨_,by rw[Aw,if_pos rfl], ?_⟩;have w1:Aa WkC bs ((cs.map (·.2)).map (cC X.roots)):=by rw[Kpb];exact g2
      have w2:Aa WkC (bs.take c++(zs++bs.drop (c+n))) (((cs.map (·.2)).take c++(ys++(cs.map (·.2)).drop (c+n))).map (cC X.roots)):=by
       simp only[Kv,Kdb,Keb];exact L2 (Il w1) (L2 v2 (H5 w1))
      have w3:=Vc (ks:=[]) key (by
       intro c' hc';simp only[Kda]at hc';rcases hc' with hc'|hc'|hc'
       ·obtain⟨e,he,rfl⟩:=Kx.1 (Kkb hc');exact (hX.box r s cs hl e he).2
       ·exact hcells c' hc'
       ·obtain⟨e,he,rfl⟩:=Kx.1 (Kib hc');exact (hX.box r s cs hl e he).2) w2
      have e3:(bs.take c++(zs++bs.drop (c+n))).map (A8 [])=bs.take c++(zs++bs.drop (c+n)):=by
       have:A8 []=fun c=>c:=by funext c;rfl
       rw[this];simp
      rw[e3]at w3;simp only[WkR,Kv,Kpb,Kdb,Keb]at w3 ⊢;exact w3
     ·rename_i e;left;exact⟨hq,by rw[J1,Aw,if_neg e]⟩)
    have hpS:S.opd x=.a (.c (.pb r c)):=by rw[Be hS hp (by simp [cC,hl])];simp only[cC,hl]
    refine⟨_,_,h,a,b,trivial,rfl,.un,[],_,trivial,hsim,fun _=>⟨rfl,fun q s' z hq hs=>?_⟩,fun K hK=>?_⟩
    ·simp only[XSt.setR]at hq;rw[Ba]at hq;split at hq
     ·simp only[Ka,Kb]at hq;omega
     ·rename_i e;rw[Aw,if_neg e]
    simp only[wr,hpS];refine⟨zs,v1,by omega,bs,g1,by omega, ?_⟩;rw[hnx];exact hK
   ·simp at h
  ·simp at h
 ·-- an element
  rename_i r v' i c t e ys hp hys;rw[hp]at hpo;obtain⟨p1,p2,p3⟩:=hpo;split at h
  ·rename_i v'' t' xs hl;split at h
   ·rename_i ht;subst ht;split at h
    ·rename_i ids hb hids;simp only[Ke]at hb;have hb1:=Km hb.1.1;have hb2:=Km hb.1.2;have hb3:=Kba hb.2;subst hb1;split at h
     ·rename_i hc;simp only[Ke,Knb,Kxb,Kld,Koa]at hc;obtain⟨⟨hnd,hnr⟩,hfx⟩:=hc;have hnd:=Pm hnd;have hnr:r ∉ ids:=fun hm=>by rw[Xe.2 hm]at hnr;simp at hnr
      have hv:B9 X.roots r v''=true:=K2 hl;have hnode:Ce X.roots r []=some (t'.n,xs.map (Ad t')):=by simp only[Ce,hl];rfl
      obtain⟨l,q1,q2⟩:=p3 hv;rw[hnode]at q1;simp only[Ka,Kb]at q1;obtain⟨_,rfl⟩:=q1;have hcells:=Zcj hvo hys;obtain⟨hh1,h⟩:=Tc h;obtain⟨hh2,h⟩:=Tc h;have hh1:Sz ((hsL t' e).take c)=true:=by rw[<-Zdl,<-Kdb];exact hh1
      rw[Zjc]at hh2;have r1:(Hs r v'' [] i t' e 0).take c=(B7 r v'' [] i t' e 0).take c:=by
       have:=Zhp r v'' [] i t' e 0 0 c (by rw[Kha];exact hh1)
       rwa [Kha,Kha]at this
      have r2:(Hs r v'' [] i t' e 0).drop (c+n)=(B7 r v'' [] i t' e 0).drop (c+n):=by
       have:=Zhp r v'' [] i t' e 0 (c+n) t'.n hh2
       rwa [Kob (by rw[Kra,Ta];omega),Kob (by rw[Kra,Iq];omega)]at this
      rw[r1,r2]at h;have heo:=Zci (nx:=X.next) (st:=X.stamp) p1 p2 (fun _=>⟨hnode,q2⟩) t' e 0 (fun j d hd=>by simpa using hd);have hel:=Iq r v'' [] i t' e 0;obtain⟨e',c0,rest,hcs,h,hcd⟩:=Ls (nx:=X.next) (st:=X.stamp) t' _ _ out (by
       intro y hy;simp only[Kda]at hy;rcases hy with hy|hy|hy
       ·exact heo y (Kkb hy)
       ·exact hcells y hy
       ·exact heo y (Kib hy)) h
      split at h
      ·rw[Kw]at hcs;subst hcs;obtain⟨s1,s2⟩:=Zg1 hcd;obtain⟨s2,s3⟩:=Zg1 s2;have l1:((B7 r v'' [] i t' e 0).take c).length=c:=by simp;omega
       rw[l1]at s1 s2 s3
       -- what stays
       have t1:(Ad t' e').take c=(Ad t' e).take c:=by
        refine Zhn s1 (Zg0 (by rw[l1,Kbb,Bm];omega) fun j y d hy hd=>?_);rw[Kua]at hy hd;have hjc:j<c:=by
         rcases Kac j c with h|h
         ·exact h
         ·rw[if_neg (by omega)]at hy;simp at hy
        rw[if_pos hjc]at hy hd;have hb:=Wq hh1 j;rw[Kdg hjc]at hb;exact Zch hv hnode q2 t' e 0 j y d hb hy hd (fun j d hd=>by simpa using hd)
       have t3:((Ad t' e').drop c).drop ys.length=(Ad t' e).drop (c+n):=by
        refine Zhn s3 (Zg0 (by rw[Kra,Kra,Iq,Bm]) fun j y d hy hd=>?_);rw[Kva]at hy hd;have hjc:c+n+j<t'.n:=by
         have:=(Kea.1 hy).1
         rwa [Iq]at this
        have hb:=Wq hh2 j;rw[Kdg (by omega),Kva]at hb;exact Zch hv hnode q2 t' e 0 _ y d hb hy hd (fun j d hd=>by simpa using hd)
       have hds:(((Ad t' e').drop c).take ys.length).length=ys.length:=s2.length.symm;have henc:Ad t' e'=(Ad t' e).take c++(((Ad t' e').drop c).take ys.length++(Ad t' e).drop (c+n)):=by
        rw[<-t1,<-t3,Kkc,Kkc]
       obtain⟨z,z1,z2⟩:=hS.roots r v'' _ hl _ rfl;have hg:get S.roots r=some (.tr t'.n (xs.map (Ad t'))):=by
        cases z with
        | tr _ _=>obtain⟨rfl,rfl⟩:=z2;exact z1
        | _=>exact z2.elim
       obtain⟨roots',m,f1,f2,f3,f4,f5⟩:=Zm1 hS S.fix ys _ ids S.roots _ (Ad t' e) c [] s2 hids hnd hnr (by
        rcases hfx with ⟨h1,h2⟩|h1
        ·left;refine⟨h1,fun y hy=>?_⟩;have:=h2 y hy;subst h1
         -- it takes no root,and is no nil
         have key:∀(ys:List XC),Ds X.roots ys=some []->y∈ys->C4 X.roots y=some none:=by
          intro ys
          induction ys with
          | nil=>intro _ hy;simp at hy
          | cons a ys ih =>
           intro hi hy;simp only[Ds]at hi;split at hi
           ·simp at hi
           ·rename_i l h1 h2;rcases Kh.1 hy with rfl|hy
            ·exact h1
            ·simp only[Ka]at hi;subst hi;exact ih h2 hy
           ·simp at hi
         have ho:=key ys hids hy;cases y<;>simp only[C4,reduceCtorEq]at ho<;>first
          | exact⟨_,rfl⟩
          | (simp at this;done)
          | (split at ho<;>simp at ho;done)
          | (split at ho<;>(try split at ho)<;>simp at ho;done)
        ·right;rw[hS.fix];exact Kba h1) hg q2 (by rw[Bm];omega) (fun k hk=>by simp at hk) (fun q _=>by rw[J1])
       rw[Kp]at f1;obtain⟨a,b,c3⟩:=W7 ids hX hS (Rj hX hids);obtain⟨e1,e2,e3,e4⟩:=W6 ids X;have hlr:lk (X.delRs ids).roots r=some (v'',.tr t' xs):=by rw[(Iv ids X r).2 hnr];exact hl
       obtain⟨a',b'⟩:=K5 a (x:=.tr t' (Ap xs i e')) (Kd _) (show r<(X.delRs ids).next by rw[e2];exact p1) (fun cs hcs=>by simp at hcs);have hilt:i<xs.length:=by
        have:=(Kea.1 q2).1;simpa using this
       have Bo:(Ap xs i e').map (Ad t')=(xs.map (Ad t')).set i (Ad t' e'):=by simp [Ap,Kvd]
       have keyC:∀c',okC X.roots X.next X.stamp c'->cC ((X.delRs ids).setR r (.tr t' (Ap xs i e'))).roots c'=.un\/cC ((X.delRs ids).setR r (.tr t' (Ap xs i e'))).roots c'=A8 m (cC X.roots c'):=by
        intro c' hc';have hc2:okC (X.delRs ids).roots (X.delRs ids).next (X.delRs ids).stamp c':=okC.ext b.next b.stamp b.roots hc';rcases Jm (r:=r) (x:=.tr t' (Ap xs i e')) (.inr (.inr (.inr ⟨t',_,xs,v'',rfl,hlr,by simp [Ap]⟩))) hc2 with h|h
        ·exact .inl h
        ·-- below,it may be dead;else it is as it was
         have hd:cC (X.delRs ids).roots c'=.un\/cC (X.delRs ids).roots c'=cC X.roots c':=by
          clear h f1 f3 f4 c3;have key2:∀(l:List Nat) (Y:XSt),XOk Y->(∀q∈l,q<Y.next)->okC Y.roots Y.next Y.stamp c'->cC (Y.delRs l).roots c'=.un\/cC (Y.delRs l).roots c'=cC Y.roots c':=by
           intro l
           induction l with
           | nil=>intro Y _ _ _;exact .inr rfl
           | cons q l ih =>
            intro Y hY hl hc;obtain⟨y1,y2⟩:=K5 hY (x:=.gone) (Kd _) (hl q Kn) (fun cs h=>by simp at h);have hc1:=okC.ext y2.next y2.stamp y2.roots hc;rcases ih (Y.setR q .gone) y1 (fun z hz=>hl z (Kl _ hz)) hc1 with h|h
            ·exact .inl h
            ·rcases Jm (r:=q) (x:=.gone) (.inr (.inl rfl)) hc with g|g
             ·exact .inl (h.trans g)
             ·exact .inr (h.trans g)
          exact key2 ids X hX (Rj hX hids) hc'
         rcases hd with hd|hd
         ·exact .inl (h.trans hd)
         ·exact Zth f2 (h.trans hd) hc2
       have hsim:=Nl (X':=(X.delRs ids).setR r (.tr t' (Ap xs i e'))) (ks:=m) (roots:=roots') hX hS e1 e3 keyC (by
        intro q s z hq;simp only[XSt.setR]at hq;rw[Ba]at hq;split at hq
        ·rename_i eq;simp only at eq;subst eq;simp only[Ka,Kb]at hq;obtain⟨_,rfl⟩:=hq;right;intro y hy;simp only[cRt,Ka]at hy;subst hy;refine⟨_,f3,rfl, ?_⟩;rw[hb2]at henc;rw[Bo,hds,hb2];exact congrArg _ henc.symm
        ·rename_i eq;by_cases hm:q∈ids
         ·obtain⟨s',hs'⟩:=(Iv ids X q).1 hm;rw[hs']at hq;simp only[Ka,Kb]at hq;obtain⟨_,rfl⟩:=hq;exact .inr fun y hy=>by simp [cRt]at hy
         ·rw[(Iv ids X q).2 hm]at hq;exact .inl ⟨hq,f4 q (fun e=>eq e.symm) hm⟩)
       have hpS:S.opd x=.a (.c (.pe r [] i c)):=by rw[Be hS hp (by simp [cC,hv])];simp only[cC,hv]
       obtain⟨zs,v1,v2,_⟩:=Wz (Ga hS v) hys;have hz:=Jo s2 v2;refine⟨_,_,h,a',b.trans b',trivial,e1,.un,m,roots',trivial,hsim,fun hpl=>?_,fun K hK=>?_⟩
       ·have hall:∀y∈ys,∃v,cC X.roots y=.lf v:=by
         intro y hy;simp only[Ye,hp,hys,Koa]at hpl;have:=hpl y hy;cases y<;>first|exact⟨_,rfl⟩|simp [I0]at this
        have hm:=f5 hall;refine⟨hm,fun q s z hq hs=>?_⟩;simp only[XSt.setR]at hq;rw[Ba]at hq;split at hq
        ·simp only[Ka,Kb]at hq;omega
        ·rename_i eq;by_cases hm2:q∈ids
         ·have hids0:ids=[]:=by
           have key:∀(ys:List XC) (ids:List Nat),Ds X.roots ys=some ids->(∀y∈ys,I0 y=true)->ids=[]:=by
            intro ys
            induction ys with
            | nil=>intro ids h _;simp only[Ds,Ka]at h;exact h.symm
            | cons y ys ih =>
             intro ids h hl;have h0:=hl y Kn;simp only[Ds]at h;split at h
             ·rename_i h1 h2;cases y<;>simp [I0]at h0<;>simp [C4]at h1
             ·rename_i h1 h2;simp only[Ka]at h;subst h;exact ih _ h2 fun y hy=>hl y (Kl _ hy)
             ·simp at h
           refine key ys ids hids fun y hy=>?_;simp only[Ye,hp,hys,Koa]at hpl;exact hpl y hy
          rw[hids0]at hm2;simp at hm2
         ·rw[f4 q (fun e=>eq e.symm) hm2,hm,J1]
       simp only[wr,hpS];refine⟨zs,v1,by rw[hz];simpa using hb2,Ad t' e, ?_,by rw[Bm];omega,⟨_,_,hg⟩,(roots',m),by rw[hz];exact f1, ?_⟩
       ·simp only[St.node,hg,Am,Kqa];exact q2
       ·rw[hnx,<-e2];exact hK
      ·simp at h
     ·simp at h
    ·rename_i hb hids;simp only[Ke]at hb;have hb1:=Km hb.1.1;have hb2:=Km hb.1.2;subst hb1;split at h
     ·rename_i hc;simp only[Ke]at hc;obtain⟨hc0,hcn,hnl,hfx⟩:=hc;have hc0:=Km hc0;have hcn:=Km hcn;have hfx:=Kba hfx;subst hc0;split at h
      ·rename_i j hfj;obtain⟨hij,h⟩:=C5 h;simp only[nNe,decide_eq_true_eq]at hij;obtain⟨ej,hej,h⟩:=F0 h;have hv:B9 X.roots r v''=true:=K2 hl;have hnode:Ce X.roots r []=some (t'.n,xs.map (Ad t')):=by simp only[Ce,hl];rfl
       obtain⟨l,q1,q2⟩:=p3 hv;rw[hnode]at q1;simp only[Ka,Kb]at q1;obtain⟨_,rfl⟩:=q1;have hejx:xs[j]? = some ej:=by simpa [idx] using hej
       have hejd:(xs.map (Ad t'))[j]? = some (Ad t' ej):=by rw[Kaa,hejx];rfl
       have hcells:=Zcj hvo hys;obtain⟨e',ys0,rest,hye,h,g1,g2,g3,g4⟩:=Zkx (nx:=X.next) (st:=X.stamp) hv hnode hejd t' 0 ys _ hcells h;split at h
       ·rw[Kw]at hye;subst hye;obtain⟨z,z1,z2⟩:=hS.roots r v'' _ hl _ rfl;have hg:get S.roots r=some (.tr t'.n (xs.map (Ad t'))):=by
         cases z with
         | tr _ _=>obtain⟨rfl,rfl⟩:=z2;exact z1
         | _=>exact z2.elim
        obtain⟨roots',m,f1,f2,f3,f4⟩:=Zmz hij (show S.fix<=r by rw[hS.fix];exact hfx) (ys.map (cC X.roots)) (Ad t' e') 0 S.roots _ (Ad t' e) (Ad t' ej) [] g1 hg q2 hejd (by rw[Ko,Bm];omega) (by rw[Ko,Bm];omega) (fun k hk=>by simp at hk);rw[Kp]at f1;obtain⟨a',b'⟩:=K5 hX (x:=.tr t' (Ap (Ap xs i e') j (J0 t' ej))) (Kd _) p1 (fun cs h=>by simp at h);have Bo:(Ap (Ap xs i e') j (J0 t' ej)).map (Ad t')=((xs.map (Ad t')).set i (Ad t' e')).set j ((Ad t' ej).map O3):=by simp only[Ap,Kvd,Zk2 t' hnl]
        rw[Kxa,Kxa,Kp,Kp,Kha,g4,Kof (by rw[Bm,Bm];omega),Kw,<-Bo]at f3;have keyC:∀c',okC X.roots X.next X.stamp c'->cC (X.setR r (.tr t' (Ap (Ap xs i e') j (J0 t' ej)))).roots c'=.un\/cC (X.setR r (.tr t' (Ap (Ap xs i e') j (J0 t' ej)))).roots c'=A8 m (cC X.roots c'):=by
         intro c' hc';rcases Jm (r:=r) (x:=.tr t' (Ap (Ap xs i e') j (J0 t' ej))) (.inr (.inr (.inr ⟨t',_,xs,v'',rfl,hl,by simp [Ap]⟩))) hc' with h|h
         ·exact .inl h
         ·exact Zth f2.in_ h hc'
        have hsim:=Nl (X':=X.setR r (.tr t' (Ap (Ap xs i e') j (J0 t' ej)))) (ks:=m) (roots:=roots') hX hS rfl rfl keyC (by
         intro q s z hq;simp only[XSt.setR]at hq;rw[Ba]at hq;split at hq
         ·rename_i eq;simp only at eq;subst eq;simp only[Ka,Kb]at hq;obtain⟨_,rfl⟩:=hq;right;intro y hy;simp only[cRt,Ka]at hy;subst hy;exact⟨_,f3,rfl,rfl⟩
         ·rename_i eq;exact .inl ⟨hq,f4 q (fun e=>eq e.symm)⟩)
        have hpS:S.opd x=.a (.c (.pe r [] i 0)):=by rw[Be hS hp (by simp [cC,hv])];simp only[cC,hv]
        obtain⟨zs,v1,v2,_⟩:=Wz (Ga hS v) hys;have hz:=Zti g3 v2;refine⟨_,_,h,a',b',trivial,rfl,.un,m,roots',trivial,hsim,fun hpl=>?_,fun K hK=>?_⟩
        ·exfalso;simp only[Ye,hp,hys,Koa]at hpl;rw[Ztp hpl]at hids;simp at hids
        ·simp only[wr,hpS];refine⟨zs,v1,by rw[hz];simpa using hb2,Ad t' e, ?_,by rw[Bm];omega,⟨_,_,hg⟩,(roots',m),by rw[hz];exact f1, ?_⟩
         ·simp only[St.node,hg,Am,Kqa];exact q2
         ·rw[hnx];exact hK
       ·simp at h
      ·simp at h
     ·simp at h
    ·simp at h
   ·simp at h
  ·simp at h
 ·simp at h
theorem Zhd (hX:XOk X) (hS:SimX X S){x:Opd}{h:Hn}{t:Ty}{xs:List t.den}{ro:Option Nat}(hb:Zb3 X (X.opd x) h=some ⟨t,xs,ro⟩){sz:Nat}(hz:sz=t.n) (hn:∀n,X.opd x=.a (.c (.nl n))->n=sz) :
  Ql S.roots (S.opd x)=some (sz,xs.map (Ad t),ro)/\(∀r∈Ea ro,r<X.next)/\∀q,q ∉ Ea ro->get (Dj S.roots ro) q=get S.roots q:=by
 unfold Zb3 at hb;split at hb
 ·rename_i n hx;split at hb
  ·simp only[Ka,Sigma.mk.injEq]at hb;obtain⟨rfl,hb⟩:=hb;have hb:=eq_of_heq hb;simp only[Kb]at hb;obtain⟨rfl,rfl⟩:=hb;refine⟨?_,by simp [Ea],fun q _=>rfl⟩;rw[Be hS hx (by simp [cC])];simp only[cC,Ql,hn n hx];rfl
  ·simp at hb
 ·rename_i r hx;split at hb
  ·rename_i s t' xs' hl;simp only[Ka,Sigma.mk.injEq]at hb;obtain⟨rfl,hb⟩:=hb;have hb:=eq_of_heq hb;simp only[Kb]at hb;obtain⟨rfl,rfl⟩:=hb;obtain⟨z,z1,z2⟩:=hS.roots r s _ hl _ rfl;have hg:get S.roots r=some (.tr t'.n (xs'.map (Ad t'))):=by
    cases z with
    | tr _ _=>obtain⟨rfl,rfl⟩:=z2;exact z1
    | _=>exact z2.elim
   have hxS:S.opd x=.a (.c (.rf r [] t'.n 0 xs'.length)):=by rw[Be hS hx (by simp [cC,hl])];simp only[cC,hl]
   refine⟨?_, ?_, ?_⟩
   ·rw[hxS];simp only[Ql,hg,hz,Ko,and_self,if_true]
   ·intro q hq;simp only[Ea,Kna]at hq;subst hq;exact (hX.ids _ _ _ hl).1
   ·intro q hq;simp only[Ea,Kna]at hq;simp only[Dj];rw[Gn,if_neg (fun e=>hq e.symm)]
  ·simp at hb
 ·simp at hb
theorem Zi0:∀(t:Ty),t.flat=true->∀x:t.den,(Ad t x).all Zds=true
 | .I _,_,_=>rfl
 | .Y,_,_=>rfl
 | .B,_,_=>rfl
 | .S,_,_=>rfl
 | .L t,h,_=>by simp [Ty.flat]at h
 | .H t,h,_=>by simp [Ty.flat]at h
 | .P a b,h,x=>by
  simp only[Ty.flat,Ke]at h;simp only[Ad,List.all_append,Zi0 a h.1,Zi0 b h.2,Bool.and_self]
theorem Yn2 {R:XRs}{c:XC}{ry q:Nat}{p:Af}{s lo n:Nat}(h:Ni c=some ry) (hc:cC R c=.rf q p s lo n):ry=q:=by
 cases c with
 | rw r=>simp only[Ni,Ka]at h;subst h;simp only[cC]at hc;split at hc<;>simp at hc<;>exact hc.1
 | rv r _ _=>simp only[Ni,Ka]at h;subst h;simp only[cC]at hc;split at hc<;>simp at hc<;>exact hc.1
 | rf r v p lo t ws=>simp only[Ni,Ka]at h;subst h;simp only[cC]at hc;split at hc<;>simp at hc;exact hc.1
 | _=>simp [Ni]at h
theorem Zxe (l:List UInt8):H2 ⟨l.toArray⟩=l.map (Ad .Y):=rfl
theorem Zht {t:Ty}:∀(xs:List t.den),Eh t.n xs.length (xs.map (Ad t)).flatten=xs.map (Ad t)
 | []=>rfl
 | x::xs=>by
  simp only[Kg,Eh,Kc,Kzc];rw[Kxc (Bm t x),Kjc (Bm t x),Zht xs]
theorem Yn0 (n:Nat){l:List C}(h:l.all Lf=true):(rep n l).all Lf=true:=by
 induction n with
 | zero=>rfl
 | succ n ih=>simp only[rep,List.all_append,h,ih,Bool.and_self]
theorem Yo {n sz:Nat}(h:A1 n sz=true):n*sz<=140737488355328:=by simpa [A1] using h
theorem Zja:∀T:Ty,noL T=true->Ad T (Tz T)=(zc T).map Zfw
 | .I _,_=>rfl
 | .Y,_=>rfl
 | .B,_=>rfl
 | .S,_=>rfl
 | .L _,h=>by simp [noL]at h
 | .H _,_=>rfl
 | .P a b,h=>by
  simp only[noL,Ke]at h;simp only[Tz,Ad,Zja a h.1,Zja b h.2,zc,Kv]
theorem Ybf (hX:XOk X) (hS:SimX X S){ids:List Nat}(hi:∀r∈ids,r<X.next){roots:List (Nat×Root)}(hr:∀r,r ∉ ids->get roots r=get S.roots r) :
  XOk (X.delRs ids)/\Ext X (X.delRs ids)/\SimX (X.delRs ids) ⟨S.env,roots,S.next,S.fix⟩/\∀r s x,lk (X.delRs ids).roots r=some (s,x)->s<X.stamp->get roots r=get S.roots r:=by
 obtain⟨a,b,c⟩:=W7 ids hX hS hi;refine⟨a,b, ?_,fun r s x hl hs=>?_⟩
 ·refine Uw (R:=S.roots) c ?_;intro r s x hl hx;by_cases hm:r∈ids
  ·obtain⟨s',hg⟩:=(Iv ids X r).1 hm;rw[hl]at hg;simp only[Ka,Kb]at hg;exact (hx hg.2).elim
  ·exact hr r hm
 ·by_cases hm:r∈ids
  ·exfalso;have h0:=b.roots r s x hl hs;obtain⟨s',hg⟩:=(Iv ids X r).1 hm;rw[hl]at hg;simp only[Ka,Kb]at hg;have key:∀(l:List Nat) (Y:XSt),r∈l->∀s x,lk (Y.delRs l).roots r=some (s,x)->Y.stamp<=s:=by
    intro l
    induction l with
    | nil=>intro Y h;simp at h
    | cons q l ih =>
     intro Y h s x hl;by_cases hq:r∈l
     ·have:=ih (Y.setR q .gone) hq s x hl;have e:(Y.setR q .gone).stamp=Y.stamp+1:=rfl;omega
     ·have hq':=(Kh.1 h).resolve_right hq;subst hq';have h2:lk ((Y.setR r .gone).delRs l).roots r=some (s,x):=hl;rw[(Iv l (Y.setR r .gone) r).2 hq]at h2;simp only[XSt.setR]at h2;rw[Ba,if_pos rfl]at h2;simp only[Ka,Kb]at h2;omega
   have:=key ids X hm s x hl;omega
  ·exact hr r hm
theorem Zy8 (hX:XOk X) (hS:SimX X S){h:Hn}{j:W}{k:XV->XSt->Option β}(hr:wrX X h j k=some out):Wo X S j k out:=by
 have hnx:S.next=X.next:=hS.next;cases j with
 | alloc zero =>
  simp only[wrX]at hr;split at hr
  ·rename_i hz;have e:(zero.map fun c=>(X.stamp,ofC c))=((zero.map ofC).map fun c=>(X.stamp,c)):=by simp
   rw[e]at hr;exact Zhh hX hS (X9 X.roots hz) (by
    intro c hc;obtain⟨c',_,rfl⟩:=Kx.1 hc;exact X8 _ _ _ c') (v:=.a (.c (.pb S.next 0))) (Zlj hnx) (Kma _) hr (fun K hK=>hK)
  ·simp at hr
 | box x =>
  simp only[wrX]at hr;split at hr
  ·rename_i cs hc;obtain⟨ys,y1,y2,_⟩:=Wz (Ga hS x) hc;exact Zhh hX hS y2 (Zcj (Eu hX x) hc) (v:=.a (.c (.pb S.next 0))) (Zlj hnx) (Kma _) hr (fun K hK=>by simp only[wr];exact⟨ys,y1,hK⟩)
  ·simp at hr
 | store n x v=>exact Yp2 hX hS hr
 | mks sz bytes zero l c =>
  simp only[wrX]at hr;split at hr
  ·rename_i t z z' hl hc;split at hr
   ·rename_i hb;simp only[Ke]at hb;have hz:=Zis hb.1;have hsz:=Km hb.2;subst hz hsz;obtain⟨h1,hr⟩:=C5 hr;obtain⟨h2,hr⟩:=C5 hr;simp only[iEq,beq_iff_eq]at h1;simp only[Lm,decide_eq_true_eq]at h2;subst h1;obtain⟨k1,e1⟩:=M1 hS hl;obtain⟨k2,e2⟩:=M1 hS hc;refine Q3 (ids:=[]) hX hS (by simp) (fun r _=>rfl) hr (n:=z'.toNat) (by simp [Es,nOf]) (fun K hK=>?_);simp only[wr,e1,e2];refine⟨trivial,h2.1,h2.2.1,h2.2.2,Zoa t, ?_⟩;simp only[Es,nOf,List.map_replicate,<-Zn9]at hK;exact hK
   ·simp at hr
  ·simp at hr
 | lit sz len zero parts =>
  simp only[wrX]at hr;split at hr
  ·rename_i hz;split at hr
   ·rename_i cs hf;obtain⟨zs,e1,e2,e3⟩:=Zix hX hS (parts.map fun x=>(x.1*sz,sz,x.2)) _ (rep len zero) cs (X9 X.roots (Yn0 len hz)) (by
     intro c hc;obtain⟨c',_,rfl⟩:=Kx.1 hc;exact X8 _ _ _ c') hf
    split at hr
    ·exact Zhh hX hS e2 e3 (v:=.sb S.next len) (by simp only[cV,Ph,hnx];exact⟨rfl,rfl⟩) (Kma _) hr (fun K hK=>by simp only[wr];exact .inr ⟨zs,e1,hK⟩)
    ·rename_i t;split at hr
     ·rename_i ids hids;split at hr
      ·rename_i hb;simp only[Ke]at hb;have hnd:=Pm hb.1;have hsz:=Km hb.2;subst hsz;obtain⟨xs,hr,hxl,hcd⟩:=Zeo (nx:=X.next) (st:=X.stamp) len cs _ out e3 hr;have hzs:=Jo hcd e2;obtain⟨rt,f1,f2⟩:=Uz hS cs _ ids S.roots hcd hids hnd (fun _ _=>rfl);refine Q3 (roots:=rt) hX hS (Rj hX hids) (fun r hr=>by rw[f2 r,if_neg hr]) hr (n:=len) hxl.symm (fun K hK=>?_);simp only[wr];refine .inl ⟨zs,e1,_,by rw[hzs];exact f1, ?_⟩;rw[<-hxl,Zht];rw[<-hxl]at hK;exact hK
      ·simp at hr
     ·split at hr
      ·rename_i tks htks;split at hr
       ·rename_i hb;simp only[Ke]at hb;have hsz:=Km hb.2;subst hsz;obtain⟨xs,hr,hxl,hcd⟩:=Zeo (nx:=X.next) (st:=X.stamp) len cs _ out e3 hr;have hzs:=Jo hcd e2;obtain⟨X2,rt,c1,c2,c3,c4,c5,c6,c7,c8⟩:=Zfh hX hS cs _ tks X S.roots hcd htks hb.1 hX hS (Znb hS htks) hr;refine Zr9 hX hS c3 c4 c5 c6 c7 c8 c1 (n:=len) hxl.symm (fun K hK=>?_);simp only[wr];refine .inl ⟨zs,e1,_,by rw[hzs];exact c2, ?_⟩;rw[<-hxl,Zht];rw[<-hxl]at hK;exact hK
       ·simp at hr
      ·simp at hr
    ·simp at hr
   ·simp at hr
  ·simp at hr
 | s2b x =>
  simp only[wrX]at hr;split at hr
  ·rename_i l hx;refine Q3 (ids:=[]) (t:=.Y) hX hS (by simp) (fun r _=>rfl) hr (n:=l.length) rfl (fun K hK=>?_);simp only[wr,Be hS hx (by simp [cC]),cC,Zxe,Ry];exact hK
  ·simp at hr
 | app sz bytes zero x y =>
  simp only[wrX]at hr;split at hr
  ·rename_i t xs ro n hb hy;split at hr
   ·rename_i hz;simp only[Ke]at hz;have hsz:=Km hz.1;have hnl:∀n,X.opd x=.a (.c (.nl n))->n=sz:=by
     intro n hn;have:=hz.2;rw[hn]at this;exact Km this
    obtain⟨h1,hr⟩:=C5 hr;obtain⟨b1,b2,b3⟩:=Zhd hX hS hb hsz hnl;refine Q3 (roots:=Dj S.roots ro) hX hS b2 b3 hr (n:=xs.length) rfl (fun K hK=>?_);simp only[wr,b1,Be hS hy (by simp [cC]),cC];refine⟨_,rfl,rfl, ?_, ?_⟩
    ·rw[Ko];exact Yo h1
    ·rw[Ko,hsz];exact hK
   ·simp at hr
  ·rename_i t xs ro c hne hb hy;have hyo:=Eu hX y;rw[hy]at hyo;split at hr
   ·rename_i hz;simp only[Ke]at hz;have hsz:=Km hz.1;have hnl:∀n,X.opd x=.a (.c (.nl n))->n=sz:=by
     intro n hn;have:=hz.2;rw[hn]at this;exact Km this
    split at hr
    ·rename_i ry hry;split at hr
     ·simp at hr
     ·rename_i hno;have hno:ry ∉ Ea ro:=fun hm=>by rw[Xe.2 hm]at hno;simp at hno
      obtain⟨t',ws0,r,p,lo,l,hq1,w2,w3,w4,w5,w6⟩:=Zn3 hyo hr;clear hr;obtain⟨ws,hq2,ht,w7,w8⟩:=Zpf hq1;clear hq1;rw[ht]at w3 w4;obtain⟨h1,hr⟩:=C5 hq2;clear hq2;rw[w7]at w6;rw[<-w8]at w3 w5 w6;have hrr:=Yn2 hry w3;subst hrr;obtain⟨b1,b2,b3⟩:=Zhd hX hS hb hsz hnl;have hyS:S.opd y=.a (.c (.rf ry p t.n lo ws.length)):=by rw[Be hS hy (by rw[w3];simp),w3]
      have hro:some ry≠ro:=fun e=>hno (by subst e;simp [Ea]);have hnode:S.node ry p=some (sz,l):=by rw[Pk,Uh hS w4,hsz]
      have happ:∀K:KW,K (.a (.c (.rf S.next [] t.n 0 (xs.length+ws.length)))) [] ((S.next,.tr t.n ((Al xs ws).map (Ad t)))::Dj S.roots ro) (S.next+1)->Zg3 (ws.map (Ad t))=true->wr S K (.app sz bytes zero x y):=by
       intro K hK hlf;simp only[wr,b1,hyS];refine⟨_,rfl,rfl,hsz.symm,hro, ?_,l,hnode,w5,.inl ⟨by rw[w6];exact hlf, ?_⟩⟩
       ·rw[Ko];exact Yo h1
       ·rw[Ko,hsz,w6];simp only[Al,Kv]at hK;exact hK
      split at hr
      ·rename_i hfl;refine Q3 (roots:=Dj S.roots ro) hX hS b2 b3 hr (n:=xs.length+ws.length) (by simp [Al]) (fun K hK=>happ K hK ?_);simp only[Zg3,List.all_map,Koa,Function.comp];exact fun z _=>Koa.1 (Zi0 t hfl z)
      ·split at hr
       ·rename_i r0 lo0 m0 hrv;have hc0:c=.rv r0 lo0 m0:=by
         cases c<;>simp [Zv4]at hrv
         obtain⟨rfl,rfl,rfl⟩:=hrv;rfl
        subst hc0;simp only[Ni,Ka]at hry;subst hry;split at hr
        ·rename_i s T0 xs0 hl;have hcc:cC X.roots (.rv r0 lo0 m0)=.rf r0 [] T0.n lo0 m0:=by simp only[cC,hl]
         rw[hcc]at w3;simp only[C.rf.injEq]at w3;obtain⟨_,rfl,e3,rfl,rfl⟩:=w3;obtain⟨z,z1,z2⟩:=hS.roots r0 s _ hl _ rfl;have hg:get S.roots r0=some (.tr T0.n (xs0.map (Ad T0))):=by
          cases z with
          | tr _ _=>obtain⟨rfl,rfl⟩:=z2;exact z1
          | _=>exact z2.elim
         have hl0:l=xs0.map (Ad T0):=by
          simp only[Ce,hl,Am,Ka,Kb]at w4;exact w4.2.symm
         subst hl0;rw[Ko]at w5;obtain⟨d1,d2,d3,d4⟩:=Ybf hX hS b2 b3;obtain⟨v1,v2,v3,v4⟩:=W6 (Ea ro) X;have hlr:lk (X.delRs (Ea ro)).roots r0=some (s,.tr T0 xs0):=by rw[(Iv (Ea ro) X r0).2 hno];exact hl
         obtain⟨k1,k2,k3⟩:=Zmk (t:=hT T0) (xs:=mvW T0 lo0 ws.length xs0) d1 d3 hlr (Zdi T0) (Zt9 T0 lo0 ws.length xs0 w5);refine Zr9 hX hS k1 (d2.trans k2) k3 v1 v2 (fun q s' z' hq hs=>?_) (by rw[show ((X.delRs (Ea ro)).setR r0 (.tr (hT T0) (mvW T0 lo0 ws.length xs0))).next=X.next from v2];exact hr) (n:=xs.length+ws.length) (by simp [Al]) (fun K hK=>?_)
         ·simp only[XSt.setR]at hq;rw[Ba]at hq;split at hq
          ·simp only[Ka,Kb]at hq;omega
          ·rename_i e;simp only at e;rw[Aw,if_neg e];exact d4 q s' z' hq hs
         ·simp only[wr,b1,hyS];refine⟨_,rfl,rfl,hsz.symm,hro, ?_,_,hnode,by rw[Ko];exact w5,.inr ⟨_,_,hg, ?_⟩⟩
          ·rw[Ko];exact Yo h1
          ·rw[Ko,hsz,w6];simp only[Al,Kv,Ym5,Zdi]at hK;exact hK
        ·simp at hr
       ·split at hr
        ·rename_i r' hown
         -- the elements are moved
         have hrr:r'=ry/\∃s t2 xs2,lk X.roots ry=some (s,.tr t2 xs2):=by
          cases c<;>simp only[C4,reduceCtorEq,Ka]at hown
          ·simp only[Ni,Ka]at hry;subst hry;split at hown
           ·rename_i hl;simp only[Ka]at hown;exact⟨hown.symm,_,_,_,hl⟩
           ·simp at hown
          ·simp only[Ni,Ka]at hry;subst hry;split at hown
           ·rename_i hl;split at hown
            ·simp only[Ka]at hown;exact⟨hown.symm,_,_,_,hl⟩
            ·simp at hown
           ·simp at hown
         obtain⟨rfl,s,t2,xs2,hl⟩:=hrr;obtain⟨z,z1,z2⟩:=hS.roots r' s _ hl _ rfl;have hg:get S.roots r'=some (.tr t2.n (xs2.map (Ad t2))):=by
          cases z with
          | tr _ _=>obtain⟨rfl,rfl⟩:=z2;exact z1
          | _=>exact z2.elim
         refine Q3 (roots:=put (Dj S.roots ro) r' (.tr t2.n (Dg (xs2.map (Ad t2)) p (Lb lo ws.length)))) (ids:=r'::Ea ro) hX hS (by
          intro q hq;rcases Kh.1 hq with rfl|hq
          ·exact (hX.ids _ _ _ hl).1
          ·exact b2 q hq) (by
          intro q hq;rw[Kh,not_or]at hq;rw[Aw,if_neg (fun e=>hq.1 e.symm)];exact b3 q hq.2) hr (n:=xs.length+ws.length) (by simp [Al]) (fun K hK=>?_)
         simp only[wr,b1,hyS];refine⟨_,rfl,rfl,hsz.symm,hro, ?_,l,hnode,w5,.inr ⟨_,_,hg, ?_⟩⟩
         ·rw[Ko];exact Yo h1
         ·rw[Ko,hsz,w6];simp only[Al,Kv]at hK;exact hK
        ·simp at hr
    ·simp at hr
   ·simp at hr
  ·simp at hr
 | aps zero x y =>
  simp only[wrX]at hr;split at hr
  ·rename_i xs ro l hb hy;split at hr
   ·rename_i hz;have hnl:∀n,X.opd x=.a (.c (.nl n))->n=1:=by
     intro n hn;rw[hn]at hz;exact Km hz
    obtain⟨h1,hr⟩:=C5 hr;obtain⟨b1,b2,b3⟩:=Zhd hX hS hb (sz:=1) rfl hnl;refine Q3 (t:=.Y) (roots:=Dj S.roots ro) hX hS b2 b3 hr (n:=xs.length+l.length) (by simp [Al]) (fun K hK=>?_);simp only[wr,b1,Be hS hy (by simp [cC]),cC,Ry,Zxe];refine⟨_,rfl,rfl, ?_, ?_⟩
    ·rw[Ko];have:=Yo h1;omega
    ·rw[Ko];simp only[Al,Kv]at hK;exact hK
   ·simp at hr
  ·simp at hr
 | clr sz zero x =>
  simp only[wrX]at hr;split at hr
  ·rename_i n hx;refine⟨_,_,hr,hX,Ext.refl X,trivial,rfl,.un,[],S.roots,trivial, ?_,fun _=>⟨rfl,fun _ _ _ _ _=>rfl⟩,fun K hK=>?_⟩
   ·rw[M5,<-hnx];exact hS
   ·simp only[wr,Be hS hx (by simp [cC]),cC];rw[hnx];exact hK
  ·rename_i r lo n hx;split at hr
   ·rename_i s T xs hl;split at hr
    ·rename_i hb;simp only[Ke]at hb;have hsz:=Km hb.1;have hz:=Zis hb.2.1;subst hsz hz;obtain⟨hn,hr⟩:=C5 hr;simp only[nEq,decide_eq_true_eq]at hn;obtain⟨z,z1,z2⟩:=hS.roots r s _ hl _ rfl;have hg:get S.roots r=some (.tr T.n (xs.map (Ad T))):=by
      cases z with
      | tr _ _=>obtain⟨rfl,rfl⟩:=z2;exact z1
      | _=>exact z2.elim
     have hS':SimX X ⟨S.env,S.roots,S.next,S.fix⟩:=hS;obtain⟨k1,k2,k3⟩:=Zmk (t:=T) (xs:=Al (Bq lo xs) (Es n (Tz T))) hX hS' hl rfl (by simp [Al,Bq,Es];omega);refine⟨_,_,hr,k1,k2,trivial,rfl,.un,[],_,trivial,by rw[M5];rw[hnx]at k3;exact k3,fun _=>⟨rfl,fun q s' z' hq hs=>?_⟩,fun K hK=>?_⟩
     ·simp only[XSt.setR]at hq;rw[Ba]at hq;split at hq
      ·simp only[Ka,Kb]at hq;omega
      ·rename_i e;simp only at e;rw[Aw,if_neg e]
     ·have hxS:S.opd x=.a (.c (.rf r [] T.n lo n)):=by rw[Be hS hx (by simp [cC,hl])];simp only[cC,hl]
      simp only[wr,hxS];refine⟨trivial,_,hg,by rw[Ko];exact hn, ?_⟩;rw[hnx];simp only[Al,Bq,Es,Kv,Kdb,List.map_replicate,Zja T hb.2.2]at hK;exact hK
    ·simp at hr
   ·simp at hr
  ·simp at hr
 | call f args=>simp [wrX]at hr
 | calv f args=>simp [wrX]at hr
end
end Go.Vs
namespace Go.Vs
variable [Glb]
@[reducible] def Tp:List Ty->Type
 | []=>Unit
 | [t]=>t.den
 | t::u::ts=>t.den×Tp (u::ts)
def Tp.hd:(t:Ty)->(ts:List Ty)->Tp (t::ts)->t.den
 | _,[],x=>x
 | _,_::_,x=>x.1
def Tp.tl:(t:Ty)->(ts:List Ty)->Tp (t::ts)->Tp ts
 | _,[],_=>()
 | _,_::_,x=>x.2
def Tp.mk:(t:Ty)->(ts:List Ty)->t.den->Tp ts->Tp (t::ts)
 | _,[],x,_=>x
 | _,_::_,x,y=>(x,y)
theorem Tp.hd_mk {t:Ty}:∀{ts:List Ty}(x:t.den) (y:Tp ts),Tp.hd t ts (Tp.mk t ts x y)=x
 | [],_,_=>rfl
 | _::_,_,_=>rfl
theorem Tp.tl_mk {t:Ty}:∀{ts:List Ty}(x:t.den) (y:Tp ts),Tp.tl t ts (Tp.mk t ts x y)=y
 | [],_,_=>rfl
 | _::_,_,_=>rfl
inductive XD where
 | lf (c:XC)
 | sl (t:Ty) (xs:List t.den)
def C1:XD->D
 | .lf (.i k z)=>.lf (.int k z)
 | .lf (.y b)=>.lf (.int .u8 b.toNat)
 | .lf (.b x)=>.lf (.bool x)
 | .lf (.s l)=>.lf (.string ⟨l.toArray⟩)
 | .lf _=>.hole
 | .sl t xs=>.sl t.n (xs.map (Ad t))
def Nq:(t:Ty)->t.den->List XD
 | .I k,z=>[.lf (.i k z)]
 | .Y,b=>[.lf (.y b)]
 | .B,x=>[.lf (.b x)]
 | .S,l=>[.lf (.s l)]
 | .L t,xs=>[.sl t xs]
 | .H t,o=>[match o with|some xs=>.sl t xs|none=>.lf .un]
 | .P a b,x=>Nq a x.1++Nq b x.2
theorem Y0:∀(t:Ty) (x:t.den),(Nq t x).map C1=Ad t x
 | .I _,_=>rfl
 | .Y,_=>rfl
 | .B,_=>rfl
 | .S,_=>rfl
 | .L _,_=>rfl
 | .H _,none=>rfl
 | .H _,some _=>rfl
 | .P a b,x=>by simp only[Nq,Kv,Y0 a,Y0 b,Ad]
def Zdw:XC->XC
 | .i k z=>.i k z
 | .y b=>.y b
 | .b x=>.b x
 | .s l=>.s l
 | _=>.un
def Cl:List XD->XSt->List XC×XSt
 | [],X=>([],X)
 | .lf c::l,X=>(Zdw c::(Cl l X).1,(Cl l X).2)
 | .sl t xs::l,X=>(.rw X.next::(Cl l (X.newR (.tr t xs))).1,(Cl l (X.newR (.tr t xs))).2)
def Fg:(rs:List (Bool×Ty))->Tp (rs.map (·.2))->List XD
 | [],_=>[]
 | (_,t)::rs,y=>Nq t (Tp.hd t _ y)++Fg rs (Tp.tl t _ y)
def J9:List (Bool×Ty)->List XC->List XA
 | [],_=>[]
 | (ag,t)::rs,cs=>(match ag with
  | true=>.ag (cs.take t.n)
  | false=>match cs.take t.n with
   | [c]=>.c c
   | _=>.ag [])::J9 rs (cs.drop t.n)
def Zes:List XA->XV
 | [x]=>.a x
 | xs=>.tp xs
def Bl:(as:List (Bool×Ty))->Tp (as.map (·.2))->List (Bool×List D)
 | [],_=>[]
 | (ag,t)::as,x=>(ag,Ad t (Tp.hd t _ x))::Bl as (Tp.tl t _ x)
structure SEnt (P:Program) where
 f:FuncId
 args:List (Bool×Ty)
 res:List (Bool×Ty)
 F:Tp (args.map (·.2))->Option (Tp (res.map (·.2)))
 ok:∀x y,F x=some y->Hq P f ((Bl args x).map B1) ⟨Bl res y,[],[]⟩
def Zg5 {β:Type}(R:XRs) (ag:Bool) (t:Ty) (v:XV) (f:t.den->Option β):Option β:=match ag,v with
 | false,.a (.c c)=>D2 R t [c] fun x rest=>match rest with
  | []=>f x
  | _=>none
 | true,.a (.ag cs)=>D2 R t cs fun x rest=>match rest with
  | []=>f x
  | _=>none
 | false,.sb r n=>match t,f with
  | .L t',f=>match lk R r with
   | some (_,.bx cs)=>match Nat.beq t'.n 1&&Nat.beq cs.length n with
    | true=>Ro R t' n (cs.map (·.2)) f
    | false=>none
   | _=>none
  | _,_=>none
 | _,_=>none
def Tt {β:Type}(R:XRs):(as:List (Bool×Ty))->List XV->(Tp (as.map (·.2))->Option β)->Option β
 | [],[],k=>k ()
 | (ag,t)::as,v::vs,k=>Zg5 R ag t v fun x=>Tt R as vs fun xs=>k (Tp.mk t _ x xs)
 | _,_,_=>none
def Ur {P:Program}{β:Type}(X:XSt) (e:SEnt P) (vs:List XV) (k:XV->XSt->Option β):Option β :=
 Tt X.roots e.args vs fun x=>bnd (e.F x) fun y=>k (Zes (J9 e.res (Cl (Fg e.res y) X).1)) (Cl (Fg e.res y) X).2
theorem Zd9 : ∀ (l : List XD) {X : XSt} {E : List (Nat × V)} {R : List (Nat × Root)} {f : Nat}, XOk X → SimX X ⟨E, R, X.next, f⟩ →
    XOk (Cl l X).2 ∧ Ext X (Cl l X).2 ∧ (Cl l X).2.env = X.env ∧ (Cl l X).2.next = (Aq (l.map C1) X.next).2.2 ∧ SimX (Cl l X).2 ⟨E, (Aq (l.map C1) X.next).2.1 ++ R, (Cl l X).2.next, f⟩ ∧
    Aa WkC (Aq (l.map C1) X.next).1 ((Cl l X).1.map (cC (Cl l X).2.roots)) ∧ ∀ c ∈ (Cl l X).1, okC (Cl l X).2.roots (Cl l X).2.next (Cl l X).2.stamp c
  | [], X, E, R, f, hX, hS => ⟨hX, Ext.refl X, rfl, rfl, hS, trivial, by simp [Cl]⟩
  | .lf c :: l, X, E, R, f, hX, hS => by
    obtain ⟨a, b, e, n, s, w, o⟩ := Zd9 l hX hS;cases c <;> refine ⟨a, b, e, n, s, ?_, ?_⟩ <;> first
      | exact ⟨WkC.refl _, w⟩
      | exact ⟨.inr rfl, w⟩
      | (intro c hc
         simp only [Cl, Kh] at hc;rcases hc with rfl | hc
         · trivial
         · exact o c hc)
  | .sl t xs :: l, X, E, R, f, hX, hS => by
    obtain ⟨a1, b1, s1⟩ := Pj (x := .tr t xs) (y := .tr t.n (xs.map (Ad t))) hX hS (fun cs h => by simp at h) ⟨_, rfl, rfl, rfl⟩;obtain ⟨a, b, e, n, s, w, o⟩ := Zd9 l a1 s1;have hlt : ∀ q y, get (Aq (l.map C1) (X.next + 1)).2.1 q = some y → X.next + 1 ≤ q := fun q y h => (Gu _ _).2 _ (Ll h) |>.1;refine ⟨a, b1.trans b, e, n, ?_, ⟨?_, w⟩, ?_⟩
    · refine Uw s ?_
      intro r st x hl hx;have e1 : (Aq ((XD.sl t xs :: l).map C1) X.next).2.1 = (X.next, .tr t.n (xs.map (Ad t))) :: (Aq (l.map C1) (X.next + 1)).2.1 := rfl;rw [e1];have e2 : (X.newR (.tr t xs)).next = X.next + 1 := rfl;rw [e2];simp only [Ks, get];split
      · rename_i h
        subst h;rw [Dn];cases hg : get (Aq (l.map C1) (X.next + 1)).2.1 X.next with
        | some y => have := hlt _ _ hg; omega
        | none => simp only [get, if_true]
      · rename_i h
        rw [Dn, Dn];cases hg : get (Aq (l.map C1) (X.next + 1)).2.1 r with
        | some y => rfl
        | none => simp only [get]; rw [if_neg h]
    · have hk := Ph X (.tr t xs)
      -- the new root may only stay
      left;have : lk (Cl l (X.newR (.tr t xs))).2.roots X.next = some (X.stamp, .tr t xs) := by
        have key : ∀ (l : List XD) (Y : XSt) (q : Nat), q < Y.next → lk (Cl l Y).2.roots q = lk Y.roots q := by
          intro l
          induction l with
          | nil => intro Y q _; rfl
          | cons d l ih =>
            intro Y q hq;cases d with
            | lf c => exact ih Y q hq
            | sl t' ys =>
              show lk (Cl l (Y.newR (.tr t' ys))).2.roots q = _;rw [ih (Y.newR (.tr t' ys)) q (Kmb hq)];simp only [XSt.newR]; rw [Ba, if_neg (by simp only; omega)]
        rw [key l _ _ (Kma X.next)];exact hk
      show cC (Cl l (X.newR (.tr t xs))).2.roots (.rw X.next) = .rf X.next [] t.n 0 (xs.map (Ad t)).length;simp only [cC, this, Ko]
    · intro c hc
      have e3 : (Cl (.sl t xs :: l) X).1 = .rw X.next :: (Cl l (X.newR (.tr t xs))).1 := rfl;rw [e3] at hc;rcases Kh.1 hc with rfl | hc
      · show X.next < _
        exact Kfa (Kma X.next) b.next
      · exact o c hc
theorem Zeq:∀(rs:List (Bool×Ty)) (y:Tp (rs.map (·.2))),(Fg rs y).map C1=(Bl rs y).flatMap (·.2)
 | [],_=>rfl
 | (ag,t)::rs,y=>by simp only[Fg,Kv,Y0,Zeq rs,Bl,Kya]
theorem Zlw {R:XRs}:∀(rs:List (Bool×Ty)) (y:Tp (rs.map (·.2))) (us:List C) (cs:List XC),Aa WkC us (cs.map (cC R))->cs.length=((Bl rs y).flatMap (·.2)).length->Aa WkA (Ft (Bl rs y) us) ((J9 rs cs).map (cA R))
 | [],_,_,_,_,_=>trivial
 | (ag,t)::rs,y,us,cs,h,hl=>by
  simp only[Bl,Ft,J9,Kc];have hn:=Bm t (Tp.hd t _ y);refine⟨?_, ?_⟩
  ·rw[hn];have ht:=Il (n:=t.n) h;rw[<-Kdb]at ht;cases ag with
   | true=>simp only[Nb,if_true];exact ht
   | false =>
    simp only[Nb,Kja,if_false]
    match h1:us.take t.n,h2:cs.take t.n with
    | [],[]=>trivial
    | [u],[c]=>rw[h1,h2]at ht;exact ht.1
    | [],_::_=>rw[h1,h2]at ht;exact ht.elim
    | _::_,[]=>rw[h1,h2]at ht;exact ht.elim
    | [_],_::_::_=>rw[h1,h2]at ht;exact ht.2.elim
    | _::_::_,[_]=>rw[h1,h2]at ht;exact ht.2.elim
    | _::_::_,_::_::_=>trivial
  ·rw[hn];have hd:=H5 (n:=t.n) h;rw[<-Keb]at hd;refine Zlw rs _ _ _ hd ?_;simp only[Bl,Kya,Ky,hn]at hl;rw[Kra,hl];omega
theorem Zvn {R:XRs}{ys:List A}{xs:List XA}(h:Aa WkA ys (xs.map (cA R))):WkV (Em ys) (cV R (Zes xs)):=by
 match ys,xs,h with
 | [],[],_=>exact trivial
 | [y],[x],h=>exact h.1
 | y::y'::ys,x::x'::xs,h=>exact h
 | [_],_::_::_,h=>exact h.2.elim
 | _::_::_,[_],h=>exact h.2.elim
theorem Ym {R:XRs}{nx st:Nat}:∀(rs:List (Bool×Ty)) (cs:List XC),(∀c∈cs,okC R nx st c)->∀x∈J9 rs cs,okA R nx st x
 | [],_,_,x,hx=>by simp [J9]at hx
 | (ag,t)::rs,cs,h,x,hx=>by
  simp only[J9,Kh]at hx;rcases hx with rfl|hx
  ·cases ag with
   | true=>exact fun c hc=>h c (Kkb hc)
   | false =>
    simp only;split
    ·rename_i c hc;exact h c (Kkb (i:=t.n) (by rw[hc];exact Kn))
    ·exact fun c hc=>by simp at hc
  ·exact Ym rs _ (fun c hc=>h c (Kib hc)) x hx
theorem Zlx {R:XRs}{nx st:Nat}{xs:List XA}(h:∀x∈xs,okA R nx st x):okV R nx st (Zes xs):=by
 match xs,h with
 | [],_=>exact fun x hx=>by simp at hx
 | [x],h=>exact h x Kn
 | x::y::l,h=>exact h
section
variable {β:Type} {X:XSt} {S:St} {out:β} {P:Program}
theorem Zca (hS:SimX X S){c:XC}{d:D}(h:CD X.roots c d):Gv S.roots (cC X.roots c) d:=by
 rcases h with ⟨v,h1,rfl⟩|⟨n,rfl,rfl⟩|⟨t,ws,r,p,lo,l,h1,h2,h3,h4,rfl,h6⟩
 ·rw[h1];rfl
 ·exact⟨rfl,rfl⟩
 ·rw[h1];exact⟨rfl,h6,l,Uh hS h2,h3,h4.symm⟩
theorem Zpi (hS:SimX X S):∀{cs:List XC}{ds:List D},Aa (CD X.roots) cs ds->Aa (Gv S.roots) (cs.map (cC X.roots)) ds
 | [],[],_=>trivial
 | _::_,_::_,h=>⟨Zca hS h.1,Zpi hS h.2⟩
 | [],_::_,h=>h.elim
 | _::_,[],h=>h.elim
theorem Yaa (hX:XOk X) (hS:SimX X S){ag:Bool}{t:Ty}{v:XV}{y:V}{f:t.den->Option β}(hw:WkV y (cV X.roots v)) (ho:okV X.roots X.next X.stamp v) (h:Zg5 X.roots ag t v f=some out):∃x,f x=some out/\Us S.roots y (ag,Ad t x):=by
 unfold Zg5 at h;split at h
 ·rename_i c;obtain⟨x,c0,rest,hc,h,hcd⟩:=Ls (nx:=X.next) (st:=X.stamp) t [c] _ out (fun c' hc=>by simp only[Kna]at hc;subst hc;exact ho) h;split at h
  ·rw[Kw]at hc;subst hc;refine⟨x,h, ?_⟩
   match hd:Ad t x,hcd with
   | [d],hcd =>
    rw[hw.c hcd.1.ne];exact Zca hS hcd.1
  ·simp at h
 ·rename_i cs;obtain⟨x,c0,rest,hc,h,hcd⟩:=Ls (nx:=X.next) (st:=X.stamp) t cs _ out ho h;split at h
  ·rw[Kw]at hc;subst hc;refine⟨x,h, ?_⟩;cases y with
   | a z=>cases z with
    | ag ys =>
     have:=Jo hcd hw;subst this;exact Zpi hS hcd
    | c _=>exact hw.elim
   | _=>exact hw.elim
  ·simp at h
 ·rename_i r n;split at h
  ·rename_i t' f;split at h
   ·rename_i s cs hl;split at h
    ·rename_i hb;simp only[Ke]at hb;have hb1:=Km hb.1;have hb2:=Km hb.2;obtain⟨xs,h,hxl,hcd⟩:=Zeo (nx:=X.next) (st:=X.stamp) n _ _ out (by
      intro c hc;obtain⟨e,he,rfl⟩:=Kx.1 hc;exact (hX.box r s cs hl e he).2) h
     refine⟨xs,h, ?_⟩;simp only[cV,hl]at hw;cases y with
     | sb r' n' =>
      obtain⟨rfl,rfl⟩:=hw;obtain⟨bs,g1,g2⟩:=Ob hS hl;have g3:Aa WkC bs ((cs.map (·.2)).map (cC X.roots)):=by rw[Kpb];exact g2
      have:=Jo hcd g3;subst this;simp only[Ad,hb1];refine⟨_,g1,by simpa using hb2,by simp [hxl], ?_⟩;clear h g1 g2 g3 hl hb2 hxl hb ho;have key:∀(us:List XC) (xs:List t'.den),Aa (CD X.roots) us (xs.map (Ad t')).flatten->Aa (fun c e=>∃d,e=[d]/\Gv S.roots c d) (us.map (cC X.roots)) (xs.map (Ad t')):=by
       intro us xs
       induction xs generalizing us with
       | nil=>intro h;cases us with
        | nil=>trivial
        | cons _ _=>exact h.elim
       | cons x xs ih =>
        intro h;simp only[Kc,Kzc]at h ⊢;have hx:=Bm t' x;rw[hb1]at hx
        match he:Ad t' x,hx with
        | [d],_ =>
         rw[he]at h
         match us,h with
         | u::us,h=>exact⟨⟨d,rfl,Zca hS h.1⟩,ih us h.2⟩
      exact key _ _ hcd
     | _=>exact hw.elim
    ·simp at h
   ·simp at h
  ·simp at h
 ·simp at h
theorem Zsb (hX:XOk X) (hS:SimX X S):∀(as:List (Bool×Ty)) (vs:List XV) (ys:List V) (k:Tp (as.map (·.2))->Option β),Aa (fun y v=>WkV y (cV X.roots v)/\okV X.roots X.next X.stamp v) ys vs->Tt X.roots as vs k=some out ->
  ∃x,k x=some out/\Aa (Us S.roots) ys (Bl as x)
 | [],[],[],k,_,h=>⟨(),h,trivial⟩
 | (ag,t)::as,v::vs,y::ys,k,hw,h=>by
  simp only[Tt]at h;obtain⟨x,h,h1⟩:=Yaa hX hS hw.1.1 hw.1.2 h;obtain⟨xs,h,h2⟩:=Zsb hX hS as vs ys _ hw.2 h;refine⟨_,h, ?_⟩;simp only[Bl,Tp.hd_mk,Tp.tl_mk];exact⟨h1,h2⟩
 | [],_::_,_,_,_,h=>by simp [Tt]at h
 | _::_,[],_,_,_,h=>by simp [Tt]at h
 | [],[],_::_,_,h,_=>h.elim
 | _::_,_::_,[],_,h,_=>h.elim
def ClT {β:Type}(X:XSt) (S:St) (T:KW->Prop) (k:XV->XSt->Option β) (out:β):Prop :=
 ∃xv X',k xv X'=some out/\XOk X'/\Ext X X'/\okV X'.roots X'.next X'.stamp xv/\X'.env=X.env /\
  ∃v ks roots,WkV v (cV X'.roots xv)/\SimX X' ⟨Cj ks S.env,roots,X'.next,S.fix⟩/\(ks=[]/\∀r s x,lk X'.roots r=some (s,x)->s<X.stamp->get roots r=get S.roots r)/\∀K:KW,K v ks roots X'.next->T K
theorem ClT.mono {β:Type}{X:XSt}{S:St}{T T':KW->Prop}{k:XV->XSt->Option β}{out:β}(h:ClT X S T k out) (ht:∀K,T K->T' K):ClT X S T' k out:=by
 obtain⟨a,b,c,d,e,f,g,h1,h2,h3,h4,h5,h6,h7⟩:=h;exact⟨a,b,c,d,e,f,g,h1,h2,h3,h4,h5,h6,fun K hK=>ht K (h7 K hK)⟩
abbrev Zm {β:Type} (P:Program) (X:XSt) (S:St) (f:FuncId) (args:List Opd) (k:XV->XSt->Option β) (out:β):Prop:=ClT X S (fun K=>evJ P S K (.wr (.call f args))) k out
theorem S5 (hX:XOk X) (hS:SimX X S):∀args:List Opd,Aa (fun y v=>WkV y (cV X.roots v)/\okV X.roots X.next X.stamp v) (args.map S.opd) (args.map X.opd)
 | []=>trivial
 | x::l=>⟨⟨Ga hS x,Eu hX x⟩,S5 hX hS l⟩
theorem Zou (rs:List (Bool×Ty)) (y:Tp (rs.map (·.2))):((Fg rs y).map C1).length=((Bl rs y).flatMap (·.2)).length:=by rw[Zeq]
theorem Zd8:∀(l:List XD) (X:XSt),(Cl l X).1.length=l.length
 | [],_=>rfl
 | .lf c::l,X=>by simp only[Cl,Kg,Zd8 l]
 | .sl t xs::l,X=>by simp only[Cl,Kg,Zd8 l]
theorem Zwr (hX:XOk X) (hS:SimX X S){e:SEnt P}{vs:List XV}{ys:List V}(hv:Aa (fun y v=>WkV y (cV X.roots v)/\okV X.roots X.next X.stamp v) ys vs){k:XV->XSt->Option β}(h:Ur X e vs k=some out):ClT X S (fun K=>Zhm P S e.f ys K) k out:=by
 unfold Ur at h;obtain⟨x,h,h1⟩:=Zsb hX hS e.args _ _ _ hv h;obtain⟨y,hy,h⟩:=F0 h;have hnx:S.next=X.next:=hS.next;have hS':SimX X ⟨S.env,S.roots,X.next,S.fix⟩:=⟨rfl,hS.fix,hS.env,hS.roots⟩;obtain⟨a,b,c,d,s,w,o⟩:=Zd9 (Fg e.res y) hX hS';rw[Zeq]at d s w;refine⟨_,_,h,a,b,Zlx (Ym _ _ o),c,Em (Ft (Bl e.res y) (Aq ((Bl e.res y).flatMap (·.2)) S.next).1),[],(Aq ((Bl e.res y).flatMap (·.2)) S.next).2.1++S.roots, ?_, ?_,⟨rfl,fun r st z hl hs=>?_⟩, ?_⟩
 ·rw[hnx];exact Zvn (Zlw _ _ _ _ w (by rw[Zd8,<-Zou,Ko]))
 ·rw[M5,hnx];exact s
 ·have h0:=b.roots r st z hl hs;have hlt:=(hX.ids r st z h0).1;rw[Dn];cases hg:get (Aq ((Bl e.res y).flatMap (·.2)) S.next).2.1 r with
  | none=>rfl
  | some w'=>have:=((Gu _ _).2 _ (Ll hg)).1;simp only at this;omega
 ·intro K hK;refine⟨_,_,e.ok x y hy,h1, ?_⟩;rw[hnx];rw[hnx,d]at hK;exact hK
theorem Zws (hX:XOk X) (hS:SimX X S){e:SEnt P}{args:List Opd}{k:XV->XSt->Option β}(h:Ur X e (args.map X.opd) k=some out):Zm P X S e.f args k out :=
 (Zwr hX hS (S5 hX hS args) h).mono fun K h=>.inr (.inl h)
end
end Go.Vs
namespace Go.Vs
variable [Glb]
def W2 (R:XRs):XRs->List (Nat×Root)
 | []=>[]
 | e::l=>match cRt R e.2.2 with
  | some y=>(e.1,y)::W2 R l
  | none=>del (W2 R l) e.1
def Mp (X:XSt):St:=⟨X.env.map fun e=>(e.1,cV X.roots e.2.2),W2 X.roots X.roots,X.next,X.fix⟩
theorem Zde (R:XRs):∀(l:XRs) (r:Nat),get (W2 R l) r=match lk l r with|some (_,x)=>cRt R x|none=>none
 | [],r=>rfl
 | (q,s,x)::l,r=>by
  simp only[W2,Ba];cases hx:cRt R x with
  | some y =>
   simp only[get];split
   ·simp only[hx]
   ·exact Zde R l r
  | none =>
   rw[Gn];split
   ·simp only[hx]
   ·exact Zde R l r
theorem Zi4 (R:XRs):∀(l:List (Nat×Nat×XV)) (t:Nat),get (l.map fun e=>(e.1,cV R e.2.2)) t=(lk l t).map fun e=>cV R e.2
 | [],t=>rfl
 | (q,s,x)::l,t=>by
  simp only[Kc,get,Ba];split
  ·rfl
  ·exact Zi4 R l t
theorem WkR.refl:∀x:Root,(∀cs,x≠.ib cs)->WkR x x
 | .tr _ _,_=>⟨rfl,rfl⟩
 | .im _ _,_=>⟨rfl,rfl⟩
 | .bx cs,_=>Aa.refl WkC.refl cs
 | .ib cs,h=>(h cs rfl).elim
theorem Zmn (X:XSt):SimX X (Mp X):=by
 refine⟨rfl,rfl, ?_, ?_⟩
 ·intro t s v hl;exact .inr ⟨cV X.roots v,by simp only[Mp,Zi4,hl];rfl,WkV.refl _⟩
 ·intro r s x hl y hy;refine⟨y,by simp only[Mp,Zde,hl];exact hy,WkR.refl y fun cs e=>?_⟩;subst e;cases x<;>simp [cRt]at hy
theorem crW {pl:Pls}{nx:Nat}{y x:C}{v:Value}(h:CR pl nx y v) (w:WkC y x):CR pl nx x v:=by
 rcases w with rfl|rfl
 ·exact h
 ·exact CR.one h
theorem Zpv {pl:Pls}{nx:Nat}:∀{ys xs:List C}{vs:List Value},Aa (CR pl nx) ys vs->Aa WkC ys xs->Aa (CR pl nx) xs vs
 | [],[],[],_,_=>trivial
 | _::_,_::_,_::_,h,w=>⟨crW h.1 w.1,Zpv h.2 w.2⟩
 | [],[],_::_,h,_=>h.elim
 | [],_::_,_,_,w=>w.elim
 | _::_,[],_,_,w=>w.elim
 | _::_,_::_,[],h,_=>h.elim
theorem arW {pl:Pls}{nx:Nat}{y x:A}{v:Value}(h:AR pl nx y v) (w:WkA y x):AR pl nx x v:=by
 cases y with
 | c y=>cases x with
  | c x=>exact crW h w
  | ag _=>exact w.elim
 | ag ys=>cases x with
  | c _=>exact w.elim
  | ag xs=>obtain⟨vs,rfl,h⟩:=h;exact⟨vs,rfl,Zpv h w⟩
theorem Zg8 {pl:Pls}{nx:Nat}:∀{ys xs:List A}{vs:List Value},Aa (AR pl nx) ys vs->Aa WkA ys xs->Aa (AR pl nx) xs vs
 | [],[],[],_,_=>trivial
 | _::_,_::_,_::_,h,w=>⟨arW h.1 w.1,Zg8 h.2 w.2⟩
 | [],[],_::_,h,_=>h.elim
 | [],_::_,_,_,w=>w.elim
 | _::_,[],_,_,w=>w.elim
 | _::_,_::_,[],h,_=>h.elim
theorem vrW {pl:Pls}{nx:Nat}{y x:V}{v:Value}(h:VR pl nx y v) (w:WkV y x):VR pl nx x v:=by
 cases x with
 | un=>trivial
 | a x=>cases y with
  | a y=>exact arW h w
  | _=>exact w.elim
 | tp xs=>cases y with
  | tp ys=>obtain⟨vs,rfl,h⟩:=h;exact⟨vs,rfl,Zg8 h w⟩
  | _=>exact w.elim
 | fn f c=>cases y with
  | fn g d=>obtain⟨rfl,w⟩:=w;obtain⟨vs,rfl,h⟩:=h;exact⟨vs,rfl,Zg8 h w⟩
  | _=>exact w.elim
 | sb r n=>cases y with
  | sb r' n'=>obtain⟨rfl,rfl⟩:=w;exact h
  | _=>exact w.elim
theorem Yn3 {st:Nat->Nat->Prop}{w:World}{g:Lab}{pl:Pls}{nx r:Nat}{y x:Root}(h:Db st w g pl nx r y) (k:WkR y x):Db st w g pl nx r x:=by
 cases y with
 | tr s e=>cases x with
  | tr _ _=>obtain⟨rfl,rfl⟩:=k;exact h
  | _=>exact k.elim
 | im s e=>cases x with
  | im _ _=>obtain⟨rfl,rfl⟩:=k;exact h
  | _=>exact k.elim
 | bx ys=>cases x with
  | bx xs =>
   intro c x hx;obtain⟨y,hy,hw⟩:=R9 k hx;obtain⟨v,a,b,l,f⟩:=h c y hy;exact⟨v,a,crW b hw,l,f⟩
  | _=>exact k.elim
 | ib _=>cases x<;>exact k.elim
theorem Le.ren2 {S T:St}(s:List (Nat×Nat)) (hf:T.fix=S.fix) (hok:Nf s T.next S.fix=true) (he:∀t x,get T.env t=some x->x=.un\/∃y,get S.env t=some y/\WkV (y.map (C9 s)) x)
  (hr:∀r x,get T.roots r=some x->∃r0 y,get S.roots r0=some y/\get s r0=some r/\WkR (Pq s y) x):Le S T:=⟨hf,fun N w0 own0 pl0 g pl a w hR=>by
 simp only[Nf,Ke,decide_eq_true_eq,Koa,Knb,beq_iff_eq]at hok;obtain⟨⟨hnd,hall⟩,hle⟩:=hok;obtain⟨h1,h2,h3,h4⟩:=hR;obtain⟨a1,a2,a3,a4,a5,a6⟩:=h1;have hk:∀r r',get s r=some r'->r'<T.next/\∀p,(fun r p=>pl (Jx s r) p) r' p=pl r p:=fun r r' h=>⟨(hall _ (Zdf h)).1,fun p=>by simp only[Xr hnd h]⟩;refine⟨fun b o=>(g b o).bind fun x=>(get s x.1).map fun r'=>(r',x.2),fun r p=>pl (Jx s r) p,⟨⟨a1, ?_, ?_, ?_,Kd _, ?_⟩,h2,h3, ?_⟩⟩
 ·intro b o x hx;simp only[Kf,Kt]at hx;obtain⟨y,hy,r',hr',rfl⟩:=hx;obtain⟨b1,b2,_⟩:=a2 b o y hy;exact⟨b1,b2,(hk _ _ hr').1⟩
 ·intro r p hlt;rw[hf]at hlt;have:Jx s r=r:=Zjx fun x hx e=>by
   rcases (hall x hx).2 with h|h
   ·omega
   ·omega
  simp only[this];exact a3 r p hlt
 ·rw[hf];exact hle
 ·intro r x hx;obtain⟨r0,y,h5,h6,h7⟩:=hr r x hx;refine⟨(hk _ _ h6).1,Yn3 ((a6 r0 y h5).2.ren hk ?_ h6) h7⟩;intro b o r1 p r2 h7 h8;simp only[h7,Kqa,h8,Kia]
 ·intro t x hx;rcases he t x hx with rfl|⟨y,hy,hw⟩
  ·trivial
  ·exact vrW (VR.killed (fun z u hz=>hz.ren hk) (h4 t y hy)) hw⟩
inductive Bc where
 | K
 | U
 | L (t:Ty)
 | O (t:Ty)
inductive It where
 | kt (t:Nat)
 | lt (t:Nat) (ty:Ty)
 | ot (t:Nat) (ty:Ty)
 | bx (t:Nat) (cs:List Bc)
 | sr (t:Nat) (ty:Ty)
def Bc.tys:List Bc->List Ty
 | []=>[]
 | .K::m=>Bc.tys m
 | .U::m=>Bc.tys m
 | .L t::m=>t::Bc.tys m
 | .O t::m=>Ty.L t::Bc.tys m
def G2:List Ty->List Ty->List Ty
 | [],m=>m
 | t::l,m=>t::G2 l m
def It.tys:List It->List Ty
 | []=>[]
 | .kt _::l=>It.tys l
 | .lt _ t::l=>t::It.tys l
 | .ot _ t::l=>.L t::It.tys l
 | .bx _ cs::l=>G2 (Bc.tys cs) (It.tys l)
 | .sr _ t::l=>.L t::It.tys l
abbrev Sg:=(t:Ty)×t.den
def De:(ts:List Ty)->Tp ts->List Sg
 | [],_=>[]
 | t::ts,x=>⟨t,Tp.hd t ts x⟩::De ts (Tp.tl t ts x)
def Qq {β:Type}:(ts:List Ty)->List Sg->(Tp ts->Option β)->Option β
 | [],[],k=>k ()
 | t::ts,x::l,k=>if h:x.1=t then Qq ts l fun xs=>k (Tp.mk t ts (h ▸ x.2) xs) else none
 | _,_,_=>none
theorem Zhv {β:Type}{out:β}:∀(ts:List Ty) (l:List Sg) (k:Tp ts->Option β),Qq ts l k=some out->∃x,k x=some out/\De ts x=l
 | [],[],k,h=>⟨(),h,rfl⟩
 | t::ts,x::l,k,h=>by
  simp only[Qq]at h;split at h
  ·rename_i e;obtain⟨xs,h,h1⟩:=Zhv ts l _ h;refine⟨_,h, ?_⟩;obtain⟨t',x⟩:=x;simp only at e;subst e;simp only[De,Tp.hd_mk,Tp.tl_mk,h1]
  ·simp at h
 | [],_::_,_,h=>by simp [Qq]at h
 | _::_,[],_,h=>by simp [Qq]at h
def Ub:Sg->XC
 | ⟨.I k,z⟩=>.i k z
 | ⟨.Y,b⟩=>.y b
 | ⟨.B,x⟩=>.b x
 | ⟨.S,l⟩=>.s l
 | ⟨_,_⟩=>.un
def pkL (c:XC) (ty:Ty):Option Sg:=match ty,c with
 | .I k,.i k' z=>match kEq k k' with
  | true=>some ⟨.I k,z⟩
  | false=>none
 | .Y,.y b=>some ⟨.Y,b⟩
 | .B,.b x=>some ⟨.B,x⟩
 | .S,.s l=>some ⟨.S,l⟩
 | _,_=>none
def pkO (R:XRs) (c:XC):Option (Sg×Nat):=match c with
 | .rw r=>match lk R r with
  | some (_,.tr t xs)=>some (⟨.L t,xs⟩,r)
  | _=>none
 | _=>none
def XSt.tmp (X:XSt) (t:Nat):XV:=X.opd (.t t)
def Yal:XV->Option Nat
 | .a (.c (.pb r _))=>some r
 | .fn _ cs=>match cs with
  | .c (.pb r _)::_=>some r
  | _=>none
 | _=>none
def Oa (X:XSt) (t:Nat):Option (Nat×List (Nat×XC)):=match Yal (X.tmp t) with
 | some r=>match lk X.roots r with
  | some (_,.bx cs)=>some (r,cs)
  | _=>none
 | none=>none
def Zb (X:XSt) (t:Nat):Option Nat:=match X.tmp t with
 | .a (.c (.rw r))=>some r
 | _=>none
def Rt (X X':XSt) (t:Nat):Bool:=match lk X.env t,lk X'.env t with
 | some (s,_),some (s',_)=>Nat.beq s s'
 | _,_=>false
def pkB (R:XRs):List Bc->List (Nat×XC)->List (Nat×XC)->Nat->Option (List Sg×List (Nat×Nat)×Nat)
 | [],[],[],n=>some ([],[],n)
 | .K::bs,e::es,e'::es',n=>match Nat.beq e.1 e'.1 with
  | true=>pkB R bs es es' n
  | false=>none
 | .U::bs,_::es,_::es',n=>pkB R bs es es' n
 | .L ty::bs,_::es,e'::es',n=>match pkL e'.2 ty,pkB R bs es es' n with
  | some v,some (vs,s,m)=>some (v::vs,s,m)
  | _,_=>none
 | .O _::bs,_::es,e'::es',n=>match pkO R e'.2,pkB R bs es es' (n+1) with
  | some (v,r),some (vs,s,m)=>some (v::vs,(r,n)::s,m)
  | _,_=>none
 | _,_,_,_=>none
def pk (X X':XSt):List It->Nat->Option (List Sg×List (Nat×Nat)×Nat)
 | [],n=>some ([],[],n)
 | .kt t::l,n=>match Rt X X' t with
  | true=>pk X X' l n
  | false=>none
 | .lt t ty::l,n=>match X'.tmp t with
  | .a (.c c)=>match pkL c ty,pk X X' l n with
   | some v,some (vs,s,m)=>some (v::vs,s,m)
   | _,_=>none
  | _=>none
 | .ot t ty::l,n=>match X'.tmp t with
  | .a (.c c)=>match pkO X'.roots c,pk X X' l (n+1) with
   | some (v,r),some (vs,s,m)=>some (v::vs,(r,n)::s,m)
   | _,_=>none
  | _=>none
 | .bx t cs::l,n=>match Rt X X' t,Oa X t,Oa X' t with
  | true,some (r,es),some (r',es')=>match Nat.beq r r',pkB X'.roots cs es es' n with
   | true,some (vs,s,m)=>match pk X X' l m with
    | some (vs2,s2,m2)=>some (vs++vs2,s++s2,m2)
    | none=>none
   | _,_=>none
  | _,_,_=>none
 | .sr t ty::l,n=>match Rt X X' t,Zb X t with
  | true,some r=>match lk X'.roots r with
   | some (_,.tr t xs)=>match pk X X' l n with
    | some (vs,s,m)=>some (⟨.L t,xs⟩::vs,s,m)
    | none=>none
   | _=>none
  | _,_=>none
def Pb:List It->List Nat
 | []=>[]
 | .kt t::l=>t::Pb l
 | .bx t _::l=>t::Pb l
 | .sr t _::l=>t::Pb l
 | _::l=>Pb l
def E8 (X:XSt):List It->List Nat
 | []=>[]
 | .bx t _::l=>match Oa X t with
  | some (r,_)=>r::E8 X l
  | none=>E8 X l
 | .sr t _::l=>match Zb X t with
  | some r=>r::E8 X l
  | none=>E8 X l
 | _::l=>E8 X l
def Lt:XC->List Nat
 | .rw r=>[r]
 | .rv r _ _=>[r]
 | .rf r _ _ _ _ _=>[r]
 | .pe r _ _ _ _ _ _=>[r]
 | .pb r _=>[r]
 | _=>[]
def Zlu:List XC->List Nat
 | []=>[]
 | c::l=>Lt c++Zlu l
def Yk:List XA->List Nat
 | []=>[]
 | .c c::l=>Lt c++Yk l
 | .ag cs::l=>Zlu cs++Yk l
def Yny:XV->List Nat
 | .a x=>Yk [x]
 | .tp xs=>Yk xs
 | .sb r _=>[r]
 | .fn _ cs=>Yk cs
 | _=>[]
def Zj4:List Bc->List (Nat×XC)->List Nat
 | .K::bs,e::es=>Lt e.2++Zj4 bs es
 | _::bs,_::es=>Zj4 bs es
 | _,_=>[]
def Yl (X:XSt):List It->List Nat
 | []=>[]
 | .kt t::l=>Yny (X.tmp t)++Yl X l
 | .bx t cs::l=>match Oa X t with
  | some (_,es)=>Zj4 cs es++Yl X l
  | none=>Yl X l
 | _::l=>Yl X l
def Zpn (X:XSt):Nat->List Nat->List Nat
 | 0,_=>[]
 | n+1,l=>l++Zpn X n (l.flatMap fun r=>match lk X.roots r with
  | some (_,.bx cs)=>Zlu (cs.map (·.2))
  | _=>[])
def Zgz (l:List Nat):List Nat->List Nat
 | []=>l
 | r::m=>match La r l with
  | true=>Zgz l m
  | false=>Zgz (r::l) m
def Zdu (X:XSt) (its:List It):List Nat:=(Zgz [] (Zpn X 3 (Yl X its))).filter fun r=>!La r (E8 X its)
def M4 (X:XSt):List Nat->List (Nat×Nat×XV)
 | []=>[]
 | t::l=>match lk X.env t with
  | some e=>(t,e)::M4 X l
  | none=>M4 X l
def Ra (X:XSt):List Nat->XRs
 | []=>[]
 | r::l=>match lk X.roots r with
  | some e=>(r,e)::Ra X l
  | none=>Ra X l
def Yr (X X':XSt):List Nat->Bool
 | []=>true
 | r::l=>match lk X.roots r,lk X'.roots r with
  | some (s,_),some (s',_)=>Nat.beq s s'&&Yr X X' l
  | none,_=>Yr X X' l
  | _,_=>false
def upB:List Bc->List (Nat×XC)->XSt->List Sg->List ((Nat×XC) ⊕ XC)×XSt×List Sg
 | .K::bs,e::es,A,vs=>let r:=upB bs es A vs;(.inl e::r.1,r.2)
 | .U::bs,_::es,A,vs=>let r:=upB bs es A vs;(.inr .un::r.1,r.2)
 | .L _::bs,_::es,A,v::vs=>let r:=upB bs es A vs;(.inr (Ub v)::r.1,r.2)
 | .O _::bs,_::es,A,v::vs=>match v with
  | ⟨.L t,xs⟩=>let r:=upB bs es (A.newR (.tr t xs)) vs;(.inr (.rw A.next)::r.1,r.2)
  | _=>([],A,[])
 | _,_,A,vs=>([],A,vs)
def H0 (s:Nat):List ((Nat×XC) ⊕ XC)->List (Nat×XC)
 | []=>[]
 | .inl e::l=>e::H0 s l
 | .inr c::l=>(s,c)::H0 s l
def up (X:XSt):List It->XSt->List Sg->XSt
 | [],A,_=>A
 | .kt _::l,A,vs=>up X l A vs
 | .lt t _::l,A,v::vs=>up X l (A.put (some t) (.a (.c (Ub v)))) vs
 | .ot t _::l,A,v::vs=>match v with
  | ⟨.L ty,xs⟩=>up X l ((A.newR (.tr ty xs)).put (some t) (.a (.c (.rw A.next)))) vs
  | _=>A
 | .bx t cs::l,A,vs=>match Oa X t with
  | some (r,es)=>let q:=upB cs es A vs;up X l (q.2.1.setR r (.bx (H0 q.2.1.stamp q.1))) q.2.2
  | none=>A
 | .sr t _::l,A,v::vs=>match v,Zb X t with
  | ⟨.L ty,xs⟩,some r=>up X l (A.setR r (.tr ty xs)) vs
  | _,_=>A
 | _,A,_=>A
def Qk (X:XSt) (its:List It):XSt:=⟨M4 X (Pb its),Ra X (Zdu X its),X.next,X.stamp,X.fix⟩
def H4 (X:XSt) (its:List It) (s:Tp (It.tys its)):XSt:=up X its (Qk X its) (De _ s)
def Ol (l:List Nat):List Nat->Bool
 | []=>true
 | r::m=>match La r l with
  | true=>false
  | false=>Ol l m
def Zli {β:Type}(X X':XSt) (its:List It) (k:Tp (It.tys its)->Option β):Option β:=match Yr X X' (Zdu X its),pk X X' its X.next with
 | true,some (vs,s,_)=>match Lp (s.map (·.1))&&(Ol (s.map (·.1)) (Zdu X its)&&Ol (s.map (·.1)) (E8 X its)) with
  | true=>Qq (It.tys its) vs k
  | false=>none
 | _,_=>none
end Go.Vs
namespace Go.Vs
variable [Glb]
theorem Zhs {X A:XSt}(hX:XOk X) (h:XOk A) (hE:Ext X A){r nx:Nat}{x:XR}(hn:A.next<=nx) (hr:r<nx)
  (hb:∀cs,x=.bx cs->∀(c:Nat) (e:Nat×XC),cs[c]? = some e->(e.1=A.stamp\/∃s0 cs0,lk X.roots r=some (s0,.bx cs0)/\cs0[c]? = some e)/\okC A.roots A.next A.stamp e.2) :
  XOk ⟨A.env,(r,A.stamp,x)::A.roots,nx,A.stamp+1,A.fix⟩/\Ext X ⟨A.env,(r,A.stamp,x)::A.roots,nx,A.stamp+1,A.fix⟩:=by
 have old:∀q s y,lk ((r,A.stamp,x)::A.roots) q=some (s,y)->s<A.stamp->lk A.roots q=some (s,y):=by
  intro q s y hl hs;rw[Ba]at hl;split at hl
  ·simp only[Ka,Kb]at hl;omega
  ·exact hl
 have le:=Kzb A.stamp;refine⟨⟨?_, ?_, ?_,Kka h.fixle hn⟩,⟨Kka hE.next hn,Kka hE.stamp le,hE.fix, ?_,hE.env, ?_⟩⟩
 ·intro q s y hl;rw[Ba]at hl;split at hl
  ·rename_i e;simp only[Ka,Kb]at hl;simp only at e;obtain⟨rfl,_⟩:=hl;exact⟨by show q<nx;omega,Kma _⟩
  ·obtain⟨a,b⟩:=h.ids q s y hl;exact⟨by show q<nx;omega,Kmb b⟩
 ·intro t s w hl;obtain⟨a,b⟩:=h.env t s w hl;exact⟨Kmb a,okV.ext hn le old b⟩
 ·intro q s cs hl e he;rw[Ba]at hl;split at hl
  ·simp only[Ka,Kb]at hl;obtain⟨c,hc,he'⟩:=Khd he;obtain⟨a,b⟩:=hb cs hl.2 c e (by rw[Kq hc,he']);refine⟨?_,okC.ext hn le old b⟩;rcases a with a|⟨s0,cs0,a1,a2⟩
   ·rw[a];exact Kma _
   ·have h1:=(hX.box _ _ _ a1 e (Kz a2)).1;have h2:=hE.stamp;show e.1<A.stamp+1;omega
  ·obtain⟨a,b⟩:=h.box q s cs hl e he;exact⟨Kmb a,okC.ext hn le old b⟩
 ·intro q s y hl hs;exact hE.roots q s y (old q s y hl (Kfa hs hE.stamp)) hs
 ·intro q s cs hl c e hc hs;have h2:=hE.stamp;rw[Ba]at hl;split at hl
  ·rename_i eq;simp only at eq;subst eq;simp only[Ka,Kb]at hl;rcases (hb cs hl.2 c e hc).1 with a|a
   ·omega
   ·exact a
  ·exact hE.cells q s cs hl c e hc hs
theorem Xt {X:XSt}:∀{l:List Nat}{t:Nat}{e:Nat×XV},lk (M4 X l) t=some e->lk X.env t=some e
 | [],t,e,h=>by simp [M4,lk]at h
 | q::l,t,e,h=>by
  simp only[M4]at h;split at h
  ·rename_i e' he;rw[Ba]at h;split at h
   ·rename_i hq;simp only at hq;subst hq;simp only[Ka]at h;rw[<-h];exact he
   ·exact Xt h
  ·exact Xt h
theorem Rb {X:XSt}:∀{l:List Nat}{t:Nat}{e:Nat×XR},lk (Ra X l) t=some e->lk X.roots t=some e/\t∈l
 | [],t,e,h=>by simp [Ra,lk]at h
 | q::l,t,e,h=>by
  simp only[Ra]at h;split at h
  ·rename_i e' he;rw[Ba]at h;split at h
   ·rename_i hq;simp only at hq;subst hq;simp only[Ka]at h;rw[<-h];exact⟨he,Kn⟩
   ·obtain⟨a,b⟩:=Rb h;exact⟨a,Kl _ b⟩
  ·obtain⟨a,b⟩:=Rb h;exact⟨a,Kl _ b⟩
theorem Zoz {X:XSt}(h:XOk X) (its:List It):XOk (Qk X its)/\Ext X (Qk X its):=by
 have hr:∀r s x,lk (Ra X (Zdu X its)) r=some (s,x)->s<X.stamp->lk X.roots r=some (s,x):=fun r s x hl _=>(Rb hl).1;refine⟨⟨fun r s x hl=>h.ids r s x (Rb hl).1, ?_, ?_,h.fixle⟩,⟨Kd _,Kd _,rfl,hr,fun t s v hl _=>Xt hl, ?_⟩⟩
 ·intro t s v hl;obtain⟨a,b⟩:=h.env t s v (Xt hl);exact⟨a,okV.ext (Kd _) (Kd _) hr b⟩
 ·intro r s cs hl e he;obtain⟨a,b⟩:=h.box r s cs (Rb hl).1 e he;exact⟨a,okC.ext (Kd _) (Kd _) hr b⟩
 ·intro r s cs hl c e hc _;exact⟨s,cs,(Rb hl).1,hc⟩
theorem Ztn {R:XRs}{nx st:Nat}(v:Sg):okC R nx st (Ub v):=by
 obtain⟨t,x⟩:=v;cases t<;>trivial
theorem Zb4 {X:XSt}{t r:Nat}{es:List (Nat×XC)}(h:Oa X t=some (r,es)):∃s,lk X.roots r=some (s,.bx es):=by
 unfold Oa at h;split at h
 ·split at h
  ·rename_i s cs hl;simp only[Ka,Kb]at h;obtain⟨rfl,rfl⟩:=h;exact⟨s,hl⟩
  ·simp at h
 ·simp at h
theorem Znt {X:XSt}(hX:XOk X){t r:Nat}(h:Zb X t=some r):r<X.next:=by
 unfold Zb at h;have hok:=Eu hX (.t t);simp only[XSt.tmp]at h;split at h
 ·rename_i r' hx;simp only[Ka]at h;subst h;rw[hx]at hok;exact hok
 ·simp at h
theorem Zue {X A:XSt}(hX:XOk X) (hA:XOk A) (hE:Ext X A){t:Ty}{xs:List t.den}:XOk (A.newR (.tr t xs))/\Ext X (A.newR (.tr t xs)) :=
 Zhs hX hA hE (Kzb _) (Kma _) (fun cs h=>by simp at h)
theorem Zc {X:XSt}(hX:XOk X):∀(bs:List Bc) (es:List (Nat×XC)) (A:XSt) (vs:List Sg),XOk A->Ext X A->(∀e∈es,okC X.roots X.next X.stamp e.2) ->
  XOk (upB bs es A vs).2.1/\Ext X (upB bs es A vs).2.1/\A.next<=(upB bs es A vs).2.1.next/\(∀(c:Nat) (z:(Nat×XC) ⊕ XC),(upB bs es A vs).1[c]? = some z->match z with
   | .inl e=>es[c]? = some e
   | .inr x=>okC (upB bs es A vs).2.1.roots (upB bs es A vs).2.1.next (upB bs es A vs).2.1.stamp x)
 | [],es,A,vs,hA,hE,_=>by simp only[upB];exact⟨hA,hE,Kd _,by simp⟩
 | .K::bs,e::es,A,vs,hA,hE,ho=>by
  obtain⟨a,b,c,d⟩:=Zc hX bs es A vs hA hE fun e he=>ho e (Kl _ he);refine⟨a,b,c, ?_⟩;intro j z hz;cases j with
  | zero=>simp only[upB,Ku,Ka]at hz;subst hz;rfl
  | succ j=>exact d j z (by simpa [upB] using hz)
 | .U::bs,e::es,A,vs,hA,hE,ho=>by
  obtain⟨a,b,c,d⟩:=Zc hX bs es A vs hA hE fun e he=>ho e (Kl _ he);refine⟨a,b,c, ?_⟩;intro j z hz;cases j with
  | zero=>simp only[upB,Ku,Ka]at hz;subst hz;trivial
  | succ j=>exact d j z (by simpa [upB] using hz)
 | .L ty::bs,e::es,A,v::vs,hA,hE,ho=>by
  obtain⟨a,b,c,d⟩:=Zc hX bs es A vs hA hE fun e he=>ho e (Kl _ he);refine⟨a,b,c, ?_⟩;intro j z hz;cases j with
  | zero=>simp only[upB,Ku,Ka]at hz;subst hz;exact Ztn v
  | succ j=>exact d j z (by simpa [upB] using hz)
 | .O ty::bs,e::es,A,⟨t,x⟩::vs,hA,hE,ho=>by
  cases t with
  | L t =>
   obtain⟨a1,b1⟩:=Zue (t:=t) (xs:=x) hX hA hE;obtain⟨a,b,c,d⟩:=Zc hX bs es (A.newR (.tr t x)) vs a1 b1 fun e he=>ho e (Kl _ he);refine⟨a,b,Kka (Kzb _) c, ?_⟩;intro j z hz;cases j with
   | zero =>
    simp only[upB,Ku,Ka]at hz;subst hz;exact Kfa (Kma A.next) c
   | succ j=>exact d j z (by simpa [upB] using hz)
  | _=>simp only[upB];exact⟨hA,hE,Kd _,by simp⟩
 | .K::bs,[],A,vs,hA,hE,_=>by simp only[upB];exact⟨hA,hE,Kd _,by simp⟩
 | .U::bs,[],A,vs,hA,hE,_=>by simp only[upB];exact⟨hA,hE,Kd _,by simp⟩
 | .L _::bs,[],A,vs,hA,hE,_=>by simp only[upB];exact⟨hA,hE,Kd _,by simp⟩
 | .O _::bs,[],A,vs,hA,hE,_=>by simp only[upB];exact⟨hA,hE,Kd _,by simp⟩
 | .L _::bs,_::_,A,[],hA,hE,_=>by simp only[upB];exact⟨hA,hE,Kd _,by simp⟩
 | .O _::bs,_::_,A,[],hA,hE,_=>by simp only[upB];exact⟨hA,hE,Kd _,by simp⟩
theorem Zw9 {s:Nat}:∀{l:List ((Nat×XC) ⊕ XC)}{c:Nat}{e:Nat×XC},(H0 s l)[c]? = some e->∃z,l[c]? = some z/\(z=.inl e\/∃x,z=.inr x/\e=(s,x))
 | [],c,e,h=>by simp [H0]at h
 | z::l,0,e,h=>by
  cases z with
  | inl e'=>simp only[H0,Ku,Ka]at h;subst h;exact⟨_,rfl,.inl rfl⟩
  | inr x=>simp only[H0,Ku,Ka]at h;subst h;exact⟨_,rfl,.inr ⟨x,rfl,rfl⟩⟩
 | z::l,c+1,e,h=>by
  have:(H0 s l)[c]? = some e:=by cases z<;>simpa [H0] using h
  simpa using Zw9 this
theorem U9 {X:XSt}(hX:XOk X):∀(its:List It) (A:XSt) (vs:List Sg),XOk A->Ext X A->XOk (up X its A vs)/\Ext X (up X its A vs)
 | [],A,vs,hA,hE=>⟨hA,hE⟩
 | .kt t::l,A,vs,hA,hE=>by simp only[up];exact U9 hX l A vs hA hE
 | .lt t ty::l,A,v::vs,hA,hE=>by
  obtain⟨a,b⟩:=Ig hA (d:=some t) (v:=.a (.c (Ub v))) (Ztn v);simp only[up];exact U9 hX l _ vs a (hE.trans b)
 | .ot t ty::l,A,⟨t',x⟩::vs,hA,hE=>by
  cases t' with
  | L t' =>
   obtain⟨a1,b1⟩:=Zue (t:=t') (xs:=x) hX hA hE;obtain⟨a,b⟩:=Ig a1 (d:=some t) (v:=.a (.c (.rw A.next))) (Kma A.next);simp only[up];exact U9 hX l _ vs a (b1.trans b)
  | _=>exact⟨hA,hE⟩
 | .bx t cs::l,A,vs,hA,hE=>by
  simp only[up];split
  ·rename_i r es hb;obtain⟨s,hl⟩:=Zb4 hb;obtain⟨a,b,c,d⟩:=Zc hX cs es A vs hA hE (fun e he=>(hX.box r s es hl e he).2);have hr:=(hX.ids r s _ hl).1;obtain⟨a',b'⟩:=Zhs hX a b (x:=.bx (H0 (upB cs es A vs).2.1.stamp (upB cs es A vs).1)) (Kd _) (Kfa hr b.next) (by
    intro cs' e j en hj;simp only[XR.bx.injEq]at e;subst e;obtain⟨z,hz,h⟩:=Zw9 hj;have hd:=d j z hz;rcases h with rfl|⟨x,rfl,rfl⟩
    ·exact⟨.inr ⟨s,es,hl,hd⟩,okC.ext b.next b.stamp b.roots (hX.box r s es hl en (Kz hd)).2⟩
    ·exact⟨.inl rfl,hd⟩)
   exact U9 hX l _ _ a' b'
  ·exact⟨hA,hE⟩
 | .sr t ty::l,A,⟨t',x⟩::vs,hA,hE=>by
  simp only[up];split
  ·rename_i t2 x2 r hv ht;obtain⟨a,b⟩:=Zhs hX hA hE (x:=.tr t2 x2) (Kd _) (Kfa (Znt hX ht) hE.next) (fun cs h=>by simp at h);exact U9 hX l _ vs a b
  ·exact⟨hA,hE⟩
 | .lt _ _::_,A,[],hA,hE=>⟨hA,hE⟩
 | .ot _ _::_,A,[],hA,hE=>⟨hA,hE⟩
 | .sr _ _::_,A,[],hA,hE=>by simp only[up];exact⟨hA,hE⟩
theorem Zfr {X:XSt}(hX:XOk X) (its:List It) (s:Tp (It.tys its)):XOk (H4 X its s)/\Ext X (H4 X its s):=by
 obtain⟨a,b⟩:=Zoz hX its;exact U9 hX its _ _ a b
end Go.Vs
namespace Go.Vs
variable [Glb]
def Jc (σ:List (Nat×Nat)) (X:XSt) (c c':XC):Prop :=
 c=.un\/(c=c'/\okC X.roots X.next X.stamp c)\/(∃v,(∀R,cC R c=.lf v)/\∀R,cC R c'=.lf v)\/∃id r',c=.rw id/\c'=.rw r'/\X.next<=id/\get σ r'=some id
def G1 (σ:List (Nat×Nat)) (X X' A:XSt):Prop:=∀r st x,lk A.roots r=some (st,x) ->
 (r<X.next/\get σ r=some r/\((st<X.stamp/\lk X'.roots r=some (st,x))\/(X.stamp<=st/\((∃(ty:Ty) (xs:List ty.den) (st':Nat),x=.tr ty xs/\lk X'.roots r=some (st',.tr ty xs))\/∃cs cs' st',x=.bx cs/\lk X'.roots r=some (st',.bx cs')/\Aa (fun (e e':Nat×XC)=>Jc σ X e.2 e'.2) cs cs')))) \/
 (X.next<=r/\∃(r':Nat) (ty:Ty) (xs:List ty.den) (st':Nat),x=.tr ty xs/\lk X'.roots r'=some (st',.tr ty xs)/\get σ r'=some r)
def P2 (σ:List (Nat×Nat)) (X X' A:XSt):Prop:=∀t st v,lk A.env t=some (st,v) ->
 (lk X'.env t=some (st,v)/\okV X.roots X.next X.stamp v)\/∃st' c c',v=.a (.c c)/\lk X'.env t=some (st',.a (.c c'))/\Jc σ X c c'
section
variable {σ:List (Nat×Nat)} {X X' A:XSt}
theorem Zfi {X:XSt}{t:Nat}{v:XV}(h:X.tmp t=v) (hv:v≠.un):∃s,lk X.env t=some (s,v):=by
 simp only[XSt.tmp,XSt.opd]at h;split at h
 ·rename_i s w hl;subst h;exact⟨s,hl⟩
 ·exact (hv h.symm).elim
theorem Ypg (hX:XOk X) (hE:Ext X X'){t:Nat}(h:Rt X X' t=true):∃s v,lk X.env t=some (s,v)/\lk X'.env t=some (s,v):=by
 unfold Rt at h;split at h
 ·rename_i s v s' v' h1 h2;have:=Km h;subst this;have h3:=hE.env t s v' h2 (hX.env t s v h1).1;rw[h1]at h3;simp only[Ka,Kb,true_and]at h3;subst h3;exact⟨s,v,h1,h2⟩
 ·simp at h
theorem Zu1 {c:XC}{ty:Ty}{v:Sg}(h:pkL c ty=some v):Jc σ X (Ub v) c:=by
 right;right;left;unfold pkL at h;split at h
 ·split at h
  ·rename_i hk;simp only[kEq,decide_eq_true_eq]at hk;subst hk;simp only[Ka]at h;subst h;exact⟨_,fun _=>rfl,fun _=>rfl⟩
  ·simp at h
 ·simp only[Ka]at h;subst h;exact⟨_,fun _=>rfl,fun _=>rfl⟩
 ·simp only[Ka]at h;subst h;exact⟨_,fun _=>rfl,fun _=>rfl⟩
 ·simp only[Ka]at h;subst h;exact⟨_,fun _=>rfl,fun _=>rfl⟩
 ·simp at h
theorem Zu2 {R:XRs}{c:XC}{v:Sg}{r:Nat}(h:pkO R c=some (v,r)):c=.rw r/\∃(t:Ty) (xs:List t.den) (st:Nat),v=⟨.L t,xs⟩/\lk R r=some (st,.tr t xs):=by
 unfold pkO at h;split at h
 ·split at h
  ·rename_i st t xs hl;simp only[Ka,Kb]at h;obtain⟨rfl,rfl⟩:=h;exact⟨rfl,t,xs,st,rfl,hl⟩
  ·simp at h
 ·simp at h
theorem Zvr (h:G1 σ X X' A){d:Option Nat}{v:XV}:G1 σ X X' (A.put d v):=by
 cases d<;>exact h
theorem Zrb (h:P2 σ X X' A){t:Nat}{c c':XC}{st':Nat}(hl:lk X'.env t=some (st',.a (.c c'))) (hc:Jc σ X c c'):P2 σ X X' (A.put (some t) (.a (.c c))):=by
 intro q st v hv;simp only[XSt.put]at hv;rw[Ba]at hv;split at hv
 ·rename_i e;simp only at e;subst e;simp only[Ka,Kb]at hv;obtain⟨_,rfl⟩:=hv;exact .inr ⟨st',c,c',rfl,hl,hc⟩
 ·exact h q st v hv
theorem Zvq (h:G1 σ X X' A) (hn:X.next<=A.next){r' st':Nat}{t:Ty}{xs:List t.den}(hl:lk X'.roots r'=some (st',.tr t xs)) (hs:get σ r'=some A.next):G1 σ X X' (A.newR (.tr t xs)):=by
 intro q st v hv;simp only[XSt.newR]at hv;rw[Ba]at hv;split at hv
 ·rename_i e;simp only at e;subst e;simp only[Ka,Kb]at hv;obtain⟨_,rfl⟩:=hv;exact .inr ⟨hn,r',t,xs,st',rfl,hl,hs⟩
 ·exact h q st v hv
theorem Zvs (h:G1 σ X X' A){r:Nat}{x:XR}(hr:r<X.next) (hg:get σ r=some r) (hst:X.stamp<=A.stamp) (hx:(∃(ty:Ty) (xs:List ty.den) (st':Nat),x=.tr ty xs/\lk X'.roots r=some (st',.tr ty xs))\/∃cs cs' st',x=.bx cs/\lk X'.roots r=some (st',.bx cs')/\Aa (fun (e e':Nat×XC)=>Jc σ X e.2 e'.2) cs cs'):G1 σ X X' (A.setR r x):=by
 intro q st v hv;simp only[XSt.setR]at hv;rw[Ba]at hv;split at hv
 ·rename_i e;simp only at e;subst e;simp only[Ka,Kb]at hv;obtain⟨rfl,rfl⟩:=hv;exact .inl ⟨hr,hg,.inr ⟨hst,hx⟩⟩
 ·exact h q st v hv
theorem Zd (hX:XOk X) (hE:Ext X X'):∀(bs:List Bc) (es es':List (Nat×XC)) (A:XSt) (n:Nat) (vs:List Sg) (s:List (Nat×Nat)) (m:Nat) (rest:List Sg),pkB X'.roots bs es es' n=some (vs,s,m)->A.next=n->X.next<=n->X.stamp<=A.stamp->(∀p∈s,get σ p.1=some p.2) ->
  (∀e∈es,e.1<X.stamp/\okC X.roots X.next X.stamp e.2)->(∀(c:Nat) (e':Nat×XC),es'[c]? = some e'->e'.1<X.stamp->es[c]? = some e')->G1 σ X X' A ->
  ∃us B,upB bs es A (vs++rest)=(us,B,rest)/\G1 σ X X' B/\B.env=A.env/\B.next=m/\n<=m/\X.stamp<=B.stamp/\s.map (·.2)=List.range' n (m-n)/\Aa (fun z (e':Nat×XC)=>Jc σ X (match z with|.inl e=>e.2|.inr x=>x) e'.2) us es'
 | [],[],[],A,n,vs,s,m,rest,h,hn,hx,hst,_,_,_,hR=>by
  simp only[pkB,Ka,Kb]at h;obtain⟨rfl,rfl,rfl⟩:=h;exact⟨[],A,rfl,hR,rfl,hn,Kd _,hst,by simp,trivial⟩
 | .K::bs,e::es,e'::es',A,n,vs,s,m,rest,h,hn,hx,hst,hs,ho,hold,hR=>by
  simp only[pkB]at h;split at h
  ·rename_i hb;have hb:=Km hb;obtain⟨us,B,h1,h2,h3,h4,h5,h6,h7,h8⟩:=Zd hX hE bs es es' A n vs s m rest h hn hx hst hs (fun e he=>ho e (Kl _ he)) (fun c e' he hlt=>by simpa using hold (c+1) e' (by simpa using he) hlt) hR;have h0:=hold 0 e' rfl (by rw[<-hb];exact (ho e Kn).1);simp only[Ku,Ka]at h0;refine⟨.inl e::us,B,by simp only[upB,h1],h2,h3,h4,h5,h6,h7,.inr (.inl ⟨by rw[h0],(ho e Kn).2⟩),h8⟩
  ·simp at h
 | .U::bs,e::es,e'::es',A,n,vs,s,m,rest,h,hn,hx,hst,hs,ho,hold,hR=>by
  simp only[pkB]at h;obtain⟨us,B,h1,h2,h3,h4,h5,h6,h7,h8⟩:=Zd hX hE bs es es' A n vs s m rest h hn hx hst hs (fun e he=>ho e (Kl _ he)) (fun c e' he hlt=>by simpa using hold (c+1) e' (by simpa using he) hlt) hR;exact⟨.inr .un::us,B,by simp only[upB,h1],h2,h3,h4,h5,h6,h7,.inl rfl,h8⟩
 | .L ty::bs,e::es,e'::es',A,n,vs,s,m,rest,h,hn,hx,hst,hs,ho,hold,hR=>by
  simp only[pkB]at h;split at h
  ·rename_i v vs0 s0 m0 hv hp;simp only[Ka,Kb]at h;obtain⟨rfl,rfl,rfl⟩:=h;obtain⟨us,B,h1,h2,h3,h4,h5,h6,h7,h8⟩:=Zd hX hE bs es es' A n vs0 s0 m0 rest hp hn hx hst hs (fun e he=>ho e (Kl _ he)) (fun c e' he hlt=>by simpa using hold (c+1) e' (by simpa using he) hlt) hR;exact⟨.inr (Ub v)::us,B,by simp only[Ks,upB,h1],h2,h3,h4,h5,h6,h7,Zu1 hv,h8⟩
  ·simp at h
 | .O ty::bs,e::es,e'::es',A,n,vs,s,m,rest,h,hn,hx,hst,hs,ho,hold,hR=>by
  simp only[pkB]at h;split at h
  ·rename_i v r0 vs0 s0 m0 hv hp;simp only[Ka,Kb]at h;obtain⟨rfl,rfl,rfl⟩:=h;obtain⟨hc,t,xs,st,rfl,hl⟩:=Zu2 hv;have hg:=hs (r0,n) Kn;simp only at hg;have hR':=Zvq hR (by omega) hl (by rw[hn];exact hg);obtain⟨us,B,h1,h2,h3,h4,h5,h6,h7,h8⟩:=Zd hX hE bs es es' (A.newR (.tr t xs)) (n+1) vs0 s0 m0 rest hp (by show A.next+1=_;rw[hn]) (by omega) (by show X.stamp<=A.stamp+1;omega) (fun p hp=>hs p (Kl _ hp)) (fun e he=>ho e (Kl _ he)) (fun c e' he hlt=>by simpa using hold (c+1) e' (by simpa using he) hlt) hR';refine⟨.inr (.rw A.next)::us,B,by simp only[Ks,upB,h1],h2,h3,h4,by omega,h6, ?_,.inr (.inr (.inr ⟨_,_,rfl,hc,by omega,by rw[hn];exact hg⟩)),h8⟩;simp only[Kc,h7];rw[show m0-n=(m0-(n+1))+1 by omega,Khf]
  ·simp at h
 | [],_::_,_,_,_,_,_,_,_,h,_,_,_,_,_,_,_=>by simp [pkB]at h
 | [],[],_::_,_,_,_,_,_,_,h,_,_,_,_,_,_,_=>by simp [pkB]at h
 | .K::_,[],_,_,_,_,_,_,_,h,_,_,_,_,_,_,_=>by simp [pkB]at h
 | .U::_,[],_,_,_,_,_,_,_,h,_,_,_,_,_,_,_=>by simp [pkB]at h
 | .L _::_,[],_,_,_,_,_,_,_,h,_,_,_,_,_,_,_=>by simp [pkB]at h
 | .O _::_,[],_,_,_,_,_,_,_,h,_,_,_,_,_,_,_=>by simp [pkB]at h
 | .K::_,_::_,[],_,_,_,_,_,_,h,_,_,_,_,_,_,_=>by simp [pkB]at h
 | .U::_,_::_,[],_,_,_,_,_,_,h,_,_,_,_,_,_,_=>by simp [pkB]at h
 | .L _::_,_::_,[],_,_,_,_,_,_,h,_,_,_,_,_,_,_=>by simp [pkB]at h
 | .O _::_,_::_,[],_,_,_,_,_,_,h,_,_,_,_,_,_,_=>by simp [pkB]at h
theorem Zms {σ:List (Nat×Nat)}{X:XSt}{s:Nat}:∀{us:List ((Nat×XC) ⊕ XC)}{es':List (Nat×XC)},Aa (fun z (e':Nat×XC)=>Jc σ X (match z with|.inl e=>e.2|.inr x=>x) e'.2) us es'->Aa (fun (e e':Nat×XC)=>Jc σ X e.2 e'.2) (H0 s us) es'
 | [],[],_=>trivial
 | .inl e::us,e'::es',h=>⟨h.1,Zms h.2⟩
 | .inr x::us,e'::es',h=>⟨h.1,Zms h.2⟩
 | [],_::_,h=>h.elim
 | .inl _::_,[],h=>h.elim
 | .inr _::_,[],h=>h.elim
theorem Va (hX:XOk X) (hE:Ext X X'):∀(its:List It) (A:XSt) (n:Nat) (vs:List Sg) (s:List (Nat×Nat)) (m:Nat),pk X X' its n=some (vs,s,m)->A.next=n->X.next<=n->X.stamp<=A.stamp->(∀p∈s,get σ p.1=some p.2)->(∀r∈E8 X its,get σ r=some r) ->
  G1 σ X X' A->P2 σ X X' A->G1 σ X X' (up X its A vs)/\P2 σ X X' (up X its A vs)/\(up X its A vs).next=m/\n<=m/\s.map (·.2)=List.range' n (m-n)
 | [],A,n,vs,s,m,h,hn,hx,hst,hs,hc,hR,hEn=>by
  simp only[pk,Ka,Kb]at h;obtain⟨rfl,rfl,rfl⟩:=h;exact⟨hR,hEn,hn,Kd _,by simp⟩
 | .kt t::l,A,n,vs,s,m,h,hn,hx,hst,hs,hc,hR,hEn=>by
  simp only[pk]at h;split at h
  ·simp only[up];exact Va hX hE l A n vs s m h hn hx hst hs hc hR hEn
  ·simp at h
 | .lt t ty::l,A,n,vs,s,m,h,hn,hx,hst,hs,hc,hR,hEn=>by
  simp only[pk]at h;split at h
  ·rename_i c ht;split at h
   ·rename_i v vs0 s0 m0 hv hp;simp only[Ka,Kb]at h;obtain⟨rfl,rfl,rfl⟩:=h;obtain⟨st',hl⟩:=Zfi ht (by simp);simp only[up];exact Va hX hE l _ n vs0 s0 m0 hp hn hx (by show X.stamp<=A.stamp+1;omega) hs hc (Zvr hR) (Zrb hEn hl (Zu1 hv))
   ·simp at h
  ·simp at h
 | .ot t ty::l,A,n,vs,s,m,h,hn,hx,hst,hs,hc,hR,hEn=>by
  simp only[pk]at h;split at h
  ·rename_i c ht;split at h
   ·rename_i v r0 vs0 s0 m0 hv hp;simp only[Ka,Kb]at h;obtain⟨rfl,rfl,rfl⟩:=h;obtain⟨st',hl⟩:=Zfi ht (by simp);obtain⟨rfl,t',xs,st,rfl,hl2⟩:=Zu2 hv;have hg:=hs (r0,n) Kn;simp only at hg;have hR':=Zvq hR (by omega) hl2 (by rw[hn];exact hg);simp only[up];obtain⟨a,b,c,d,e⟩:=Va hX hE l ((A.newR (.tr t' xs)).put (some t) (.a (.c (.rw A.next)))) (n+1) vs0 s0 m0 hp (by show A.next+1=_;rw[hn]) (by omega) (by show X.stamp<=A.stamp+1+1;omega) (fun p hp=>hs p (Kl _ hp)) hc (Zvr hR') (Zrb (A:=A.newR (.tr t' xs)) hEn hl (.inr (.inr (.inr ⟨_,_,rfl,rfl,by omega,by rw[hn];exact hg⟩))));refine⟨a,b,c,by omega, ?_⟩;simp only[Kc,e];rw[show m0-n=(m0-(n+1))+1 by omega,Khf]
   ·simp at h
  ·simp at h
 | .bx t cs::l,A,n,vs,s,m,h,hn,hx,hst,hs,hc,hR,hEn=>by
  simp only[pk]at h;split at h
  ·rename_i r es r' es' hsame hb hb';split at h
   ·rename_i vs0 s0 m0 hrr hp;have hrr:=Km hrr;subst hrr;split at h
    ·rename_i vs2 s2 m2 hp2;simp only[Ka,Kb]at h;obtain⟨rfl,rfl,rfl⟩:=h;obtain⟨st,hl⟩:=Zb4 hb;obtain⟨st',hl'⟩:=Zb4 hb';have hcr:E8 X (.bx t cs::l)=r::E8 X l:=by simp only[E8,hb]
     rw[hcr]at hc;obtain⟨us,B,h1,h2,h3,h4,h5,h6,h7,h8⟩:=Zd (σ:=σ) hX hE cs es es' A n vs0 s0 m0 vs2 hp hn hx hst (fun p hp=>hs p (Kud _ hp)) (fun e he=>hX.box r st es hl e he) (fun c e' he hlt=>by
      obtain⟨q1,q2,q3,q4⟩:=hE.cells r st' es' hl' c e' he hlt;rw[hl]at q3;simp only[Ka,Kb,XR.bx.injEq]at q3;rw[q3.2];exact q4) hR
     have hup:up X (.bx t cs::l) A (vs0++vs2)=up X l (B.setR r (.bx (H0 B.stamp us))) vs2:=by simp only[up,hb,h1]
     rw[hup];have hE2:P2 σ X X' (B.setR r (.bx (H0 B.stamp us))):=by
      intro q st v hv;have:lk B.env q=some (st,v):=hv;rw[h3]at this;exact hEn q st v this
     obtain⟨a,b,c,d,e⟩:=Va hX hE l (B.setR r (.bx (H0 B.stamp us))) m0 vs2 s2 m2 hp2 h4 (by omega) (by show X.stamp<=B.stamp+1;omega) (fun p hp=>hs p (Kdc _ hp)) (fun q hq=>hc q (Kl _ hq))
      (Zvs h2 (hX.ids r st _ hl).1 (hc r Kn) h6 (.inr ⟨_,es',st',rfl,hl',Zms h8⟩)) hE2
     refine⟨a,b,c,by omega, ?_⟩;rw[Kv,h7,e,show m2-n=(m0-n)+(m2-m0) by omega];have:m0=n+(m0-n):=by omega
     rw[show List.range' m0 (m2-m0)=List.range' (n+1*(m0-n)) (m2-m0) by rw[Nat.one_mul,<-this]];rw[List.range'_append]
    ·simp at h
   ·simp at h
  ·simp at h
 | .sr t ty::l,A,n,vs,s,m,h,hn,hx,hst,hs,hc,hR,hEn=>by
  simp only[pk]at h;split at h
  ·rename_i r hsame ht;split at h
   ·rename_i st' t' xs hl;split at h
    ·rename_i vs0 s0 m0 hp;simp only[Ka,Kb]at h;obtain⟨rfl,rfl,rfl⟩:=h;have hcr:E8 X (.sr t ty::l)=r::E8 X l:=by simp only[E8,ht]
     rw[hcr]at hc;have hup:up X (.sr t ty::l) A (⟨.L t',xs⟩::vs0)=up X l (A.setR r (.tr t' xs)) vs0:=by simp only[up,ht]
     rw[hup];exact Va hX hE l (A.setR r (.tr t' xs)) n vs0 s0 m0 hp hn hx (by show X.stamp<=A.stamp+1;omega) hs (fun q hq=>hc q (Kl _ hq)) (Zvs hR (Znt hX ht) (hc r Kn) hst (.inl ⟨_,_,_,rfl,hl⟩)) hEn
    ·simp at h
   ·simp at h
  ·simp at h
theorem Zj3 (hr:G1 σ X X' A){R0:XRs}{c:XC}(hc:okC R0 X.next X.stamp c):cC A.roots c=.un\/cC A.roots c=C9 σ (cC X'.roots c):=by
 have root:∀{r:Nat},r<X.next->∀{st:Nat} {x:XR},lk A.roots r=some (st,x)->get σ r=some r/\((st<X.stamp/\lk X'.roots r=some (st,x))\/(X.stamp<=st/\((∃(ty:Ty) (xs:List ty.den) (st':Nat),x=.tr ty xs/\lk X'.roots r=some (st',.tr ty xs))\/∃cs cs' st',x=.bx cs/\lk X'.roots r=some (st',.bx cs')/\Aa (fun (e e':Nat×XC)=>Jc σ X e.2 e'.2) cs cs'))):=by
  intro r hlt st x hl;rcases hr r st x hl with ⟨_,a,b⟩|⟨a,_⟩
  ·exact⟨a,b⟩
  ·omega
 cases c with
 | un=>exact .inl rfl
 | nl sz=>exact .inr rfl
 | lf v=>exact .inr rfl
 | i k z=>exact .inr rfl
 | y b=>exact .inr rfl
 | b x=>exact .inr rfl
 | s l=>exact .inr rfl
 | rw r =>
  cases hl:lk A.roots r with
  | none=>left;simp only[cC,hl]
  | some e =>
   obtain⟨st,x⟩:=e;obtain⟨g,h|⟨_,h|h⟩⟩:=root hc hl
   ·cases x with
    | tr t xs=>right;simp only[cC,hl,h.2,C9,g]
    | im t xs=>right;simp only[cC,hl,h.2,C9,g]
    | _=>left;simp only[cC,hl]
   ·obtain⟨ty,xs,st',rfl,h⟩:=h;right;simp only[cC,hl,h,C9,g]
   ·obtain⟨cs,cs',st',rfl,h,_⟩:=h;left;simp only[cC,hl]
 | rv r lo n =>
  cases hl:lk A.roots r with
  | none=>left;simp only[cC,hl]
  | some e =>
   obtain⟨st,x⟩:=e;obtain⟨g,h|⟨_,h|h⟩⟩:=root hc hl
   ·cases x with
    | tr t xs=>right;simp only[cC,hl,h.2,C9,g]
    | im t xs=>right;simp only[cC,hl,h.2,C9,g]
    | _=>left;simp only[cC,hl]
   ·obtain⟨ty,xs,st',rfl,h⟩:=h;right;simp only[cC,hl,h,C9,g]
   ·obtain⟨cs,cs',st',rfl,h,_⟩:=h;left;simp only[cC,hl]
 | rf r v p lo t ws =>
  cases hv:B9 A.roots r v with
  | false=>left;simp only[cC,hv]
  | true =>
   obtain⟨x,hl⟩:=Ze hv;obtain⟨g,h|⟨h,_⟩⟩:=root hc.1 hl
   ·right;simp only[cC,hv,K2 h.2,C9,g]
   ·have:=hc.2.1;omega
 | pe r v p i c t y =>
  cases hv:B9 A.roots r v with
  | false=>left;simp only[cC,hv]
  | true =>
   obtain⟨x,hl⟩:=Ze hv;obtain⟨g,h|⟨h,_⟩⟩:=root hc.1 hl
   ·right;simp only[cC,hv,K2 h.2,C9,g]
   ·have:=hc.2.1;omega
 | pb r c =>
  cases hl:lk A.roots r with
  | none=>left;simp only[cC,hl]
  | some e =>
   obtain⟨st,x⟩:=e;obtain⟨g,h|⟨_,h|h⟩⟩:=root hc hl
   ·cases x with
    | bx cs=>right;simp only[cC,hl,h.2,C9,g]
    | _=>left;simp only[cC,hl]
   ·obtain⟨ty,xs,st',rfl,h⟩:=h;left;simp only[cC,hl]
   ·obtain⟨cs,cs',st',rfl,h,_⟩:=h;right;simp only[cC,hl,h,C9,g]
theorem Zvg (hn:(σ.map (·.2)).Nodup) (hr:G1 σ X X' A){c c':XC}(hc:Jc σ X c c'){y:C}(hy:WkC y (cC X'.roots c')):WkC (C9 σ y) (cC A.roots c):=by
 rcases hc with rfl|⟨rfl,ho⟩|⟨v,h1,h2⟩|⟨id,r',rfl,rfl,hid,hg⟩
 ·exact .inr rfl
 ·exact Zn7 (κ:=C9 σ) rfl hy (Zj3 hr ho)
 ·rw[h2]at hy;rw[h1,hy.eq (by simp)];exact .inl rfl
 ·cases hl:lk A.roots id with
  | none=>right;simp only[cC,hl]
  | some e =>
   obtain⟨st,x⟩:=e;rcases hr id st x hl with ⟨a,_⟩|⟨_,r2,ty,xs,st',rfl,h1,h2⟩
   ·omega
   ·have:r2=r':=by rw[<-Xr hn h2,<-Xr hn hg]
    subst this;simp only[cC,h1]at hy;rw[hy.eq (by simp)];left;simp only[cC,hl,C9,hg]
theorem Zvh (hn:(σ.map (·.2)).Nodup) (hr:G1 σ X X' A):∀{es es':List (Nat×XC)}{ys:List C},Aa (fun (e e':Nat×XC)=>Jc σ X e.2 e'.2) es es'->Aa WkC ys (es'.map fun e=>cC X'.roots e.2)->Aa WkC (ys.map (C9 σ)) (es.map fun e=>cC A.roots e.2)
 | [],[],[],_,_=>trivial
 | e::es,e'::es',y::ys,h,w=>⟨Zvg hn hr h.1 w.1,Zvh hn hr h.2 w.2⟩
 | [],_::_,_,h,_=>h.elim
 | _::_,[],_,h,_=>h.elim
 | [],[],_::_,_,w=>w.elim
 | _::_,_::_,[],_,w=>w.elim
theorem Ymc {S':St}(hX:XOk X) (hX':XOk X') (hE:Ext X X') (hS:SimX X' S') (hok:Nf σ A.next S'.fix=true) (hf:A.fix=X'.fix) (hR:G1 σ X X' A) (hEn:P2 σ X X' A):Le S' (Mp A):=by
 have hn:(σ.map (·.2)).Nodup:=by
  simp only[Nf,Ke,decide_eq_true_eq]at hok;exact hok.1.1
 refine Le.ren2 σ (by rw[hS.fix];exact hf) hok ?_ ?_
 ·intro t x hx;simp only[Mp,Zi4]at hx;cases hl:lk A.env t with
  | none=>rw[hl]at hx;simp at hx
  | some e =>
   obtain⟨st,v⟩:=e;rw[hl]at hx;simp only[Kia,Ka]at hx;subst hx;rcases hEn t st v hl with ⟨h1,h2⟩|⟨st',c,c',rfl,h1,h2⟩
   ·rcases hS.env t st v h1 with rfl|⟨y,g1,g2⟩
    ·exact .inl rfl
    ·exact .inr ⟨y,g1,Zy4 (κ:=C9 σ) rfl (fun c hc=>Zj3 hR hc) (okV.ext (Kd _) (Kd _) hE.roots h2) g2⟩
   ·rcases hS.env t st' _ h1 with h|⟨y,g1,g2⟩
    ·simp at h
    ·refine .inr ⟨y,g1, ?_⟩;cases y with
     | a y=>cases y with
      | c y=>exact Zvg hn hR h2 g2
      | ag _=>exact g2.elim
     | _=>exact g2.elim
 ·intro r x hx;simp only[Mp,Zde]at hx;split at hx
  ·rename_i st z hl;rcases hR r st z hl with ⟨a,b,c⟩|⟨a,r',ty,xs,st',rfl,h1,h2⟩
   ·have same:∀{st':Nat} {z':XR},lk X'.roots r=some (st',z')->(∀y,cRt X'.roots z'=some y->∀y',WkR y' y->WkR (Pq σ y') x)->(∃y,cRt X'.roots z'=some y)->∃r0 y,get S'.roots r0=some y/\get σ r0=some r/\WkR (Pq σ y) x:=by
     intro st' z' hl' hw ⟨y,hy⟩;obtain⟨y',g1,g2⟩:=hS.roots r st' z' hl' y hy;exact⟨r,y',g1,b,hw y hy y' g2⟩
    rcases c with ⟨c1,c2⟩|⟨c1,⟨ty,xs,st',rfl,c2⟩|⟨cs,cs',st',rfl,c2,c3⟩⟩
    ·refine same c2 ?_ ?_
     ·intro y hy y' hw;cases z with
      | tr t xs =>
       simp only[cRt,Ka]at hx hy;subst hx hy;cases y'<;>first|exact hw|exact hw.elim
      | im t xs =>
       simp only[cRt,Ka]at hx hy;subst hx hy;cases y'<;>first|exact hw|exact hw.elim
      | bx cs =>
       simp only[cRt,Ka]at hx hy;subst hx hy;cases y' with
       | bx ys =>
        have h1:Aa WkC ys ((cs.map (·.2)).map (cC X'.roots)):=by rw[Kpb];exact hw
        have h2:=Zft (κ:=C9 σ) rfl (fun c hc=>Zj3 hR hc) (fun c hc=>by
         obtain⟨e,he,rfl⟩:=Kx.1 hc;exact okC.ext (Kd _) (Kd _) hE.roots (hX.box r st cs (hE.roots r st _ c2 c1) e he).2) h1
        rw[Kpb]at h2;exact h2
       | _=>exact hw.elim
      | gone=>simp [cRt]at hx
     ·cases z with
      | gone=>simp [cRt]at hx
      | _=>exact⟨_,rfl⟩
    ·refine same c2 ?_ ⟨_,rfl⟩;intro y hy y' hw;simp only[cRt,Ka]at hx hy;subst hx hy;cases y'<;>first|exact hw|exact hw.elim
    ·refine same c2 ?_ ⟨_,rfl⟩;intro y hy y' hw;simp only[cRt,Ka]at hx hy;subst hx hy;cases y' with
     | bx ys=>exact Zvh hn hR c3 hw
     | _=>exact hw.elim
   ·obtain⟨y',g1,g2⟩:=hS.roots r' st' _ h1 _ rfl;simp only[cRt,Ka]at hx;subst hx;refine⟨r',y',g1,h2, ?_⟩;cases y'<;>first|exact g2|exact g2.elim
  ·simp at hx
theorem Th {l:List Nat}:∀{m:List Nat},Ol l m=true->∀r∈m,r ∉ l
 | [],_,r,hr=>by simp at hr
 | q::m,h,r,hr=>by
  simp only[Ol]at h;split at h
  ·simp at h
  ·rename_i hq;rcases Kh.1 hr with rfl|hr
   ·exact fun hm=>by rw[Xe.2 hm]at hq;simp at hq
   ·exact Th h r hr
theorem Zmh (hX:XOk X) (hE:Ext X X'):∀{l:List Nat},Yr X X' l=true->∀r∈l,∀e,lk X.roots r=some e->lk X'.roots r=some e
 | [],_,r,hr,_,_=>by simp at hr
 | q::l,h,r,hr,e,he=>by
  simp only[Yr]at h;split at h
  ·rename_i s x s' x' h1 h2;simp only[Ke]at h;have hs:=Km h.1;subst hs;rcases Kh.1 hr with rfl|hr
   ·have h3:=hE.roots r s x' h2 (hX.ids r s x h1).2;rw[h1]at h3 he;simp only[Ka,Kb,true_and]at h3 he;rw[h2,<-h3];exact congrArg some he
   ·exact Zmh hX hE h.2 r hr e he
  ·rename_i h1;rcases Kh.1 hr with rfl|hr
   ·rw[h1]at he;simp at he
   ·exact Zmh hX hE h r hr e he
  ·simp at h
theorem Zsd:∀{s:List (Nat×Nat)}{σ:List (Nat×Nat)},(s.map (·.1)).Nodup->∀p∈s,get (s++σ) p.1=some p.2
 | [],σ,_,p,hp=>by simp at hp
 | q::s,σ,hn,p,hp=>by
  simp only[Kc,Kta]at hn;simp only[Ks,get];rcases Kh.1 hp with rfl|hp
  ·rw[if_pos rfl]
  ·rw[if_neg (fun e=>hn.1 (by rw[e];exact Kx.2 ⟨p,hp,rfl⟩))];exact Zsd hn.2 p hp
theorem Yft (n r:Nat) (h:r<n):get ((List.range n).map fun r=>(r,r)) r=some r:=by
 have key:∀l:List Nat,r∈l->get (l.map fun r=>(r,r)) r=some r:=by
  intro l
  induction l with
  | nil=>intro h;simp at h
  | cons a l ih =>
   intro h;simp only[Kc,get];split
   ·rename_i e;rw[e]
   ·rename_i e;exact ih ((Kh.1 h).resolve_left fun e'=>e e'.symm)
 exact key _ (Kvb.2 h)
theorem Yfu {s σ:List (Nat×Nat)}{r:Nat}(h:r ∉ s.map (·.1)):get (s++σ) r=get σ r:=by
 induction s with
 | nil=>rfl
 | cons q s ih =>
  simp only[Kc,Kh,not_or]at h;simp only[Ks,get];rw[if_neg (fun e=>h.1 e.symm)];exact ih h.2
theorem Ynl {β:Type}{out:β}{S':St}{its:List It}{k:Tp (It.tys its)->Option β}(hX:XOk X) (hX':XOk X') (hE:Ext X X') (hS:SimX X' S') (h:Zli X X' its k=some out) :
  ∃s,k s=some out/\Le S' (Mp (H4 X its s)):=by
 unfold Zli at h;split at h
 ·rename_i vs s m hsame hp;split at h
  ·rename_i hc;simp only[Ke]at hc;obtain⟨hnd,hd1,hd2⟩:=hc;have hnd:=Pm hnd;obtain⟨x,hk,hsp⟩:=Zhv _ _ _ h;refine⟨x,hk, ?_⟩;have hps:∀p∈s,get (s++(List.range X.next).map fun r=>(r,r)) p.1=some p.2:=Zsd hnd;have hdiag:∀r,r<X.next->r ∉ s.map (·.1)->get (s++(List.range X.next).map fun r=>(r,r)) r=some r:=fun r h1 h2=>by rw[Yfu h2,Yft _ _ h1]
   have hchg:∀r∈E8 X its,r<X.next:=by
    intro r hr;have key:∀l:List It,r∈E8 X l->r<X.next:=by
     intro l
     induction l with
     | nil=>intro h;simp [E8]at h
     | cons i l ih =>
      intro h;cases i with
      | bx t cs =>
       simp only[E8]at h;split at h
       ·rename_i q es hb;rcases Kh.1 h with rfl|h
        ·obtain⟨st,hl⟩:=Zb4 hb;exact (hX.ids _ _ _ hl).1
        ·exact ih h
       ·exact ih h
      | sr t ty =>
       simp only[E8]at h;split at h
       ·rename_i q hb;rcases Kh.1 h with rfl|h
        ·exact Znt hX hb
        ·exact ih h
       ·exact ih h
      | _=>exact ih h
    exact key its hr
   obtain⟨hb0,hb1⟩:=Zoz hX its;have R0:G1 (s++(List.range X.next).map fun r=>(r,r)) X X' (Qk X its):=by
    intro r st z hl;obtain⟨h1,h2⟩:=Rb hl;have h3:=hX.ids r st z h1;exact .inl ⟨h3.1,hdiag r h3.1 (Th hd1 r h2),.inl ⟨h3.2,Zmh hX hE hsame r h2 _ h1⟩⟩
   have E0:P2 (s++(List.range X.next).map fun r=>(r,r)) X X' (Qk X its):=by
    intro t st v hl;have h1:=Xt hl;have ht:t∈Pb its:=by
     have key:∀(l:List Nat),(∃e,lk (M4 X l) t=some e)->t∈l:=by
      intro l
      induction l with
      | nil=>rintro ⟨e,he⟩;simp [M4,lk]at he
      | cons q l ih =>
       rintro ⟨e,he⟩;simp only[M4]at he;split at he
       ·rw[Ba]at he;split at he
        ·rename_i e;exact Kh.2 (.inl e.symm)
        ·exact Kl _ (ih ⟨e,he⟩)
       ·exact Kl _ (ih ⟨e,he⟩)
     exact key _ ⟨_,hl⟩
    have hsameT:Rt X X' t=true:=by
     have key:∀(l:List It) (n:Nat) (r:List Sg×List (Nat×Nat)×Nat),pk X X' l n=some r->t∈Pb l->Rt X X' t=true:=by
      intro l
      induction l with
      | nil=>intro n r _ h;simp [Pb]at h
      | cons i l ih =>
       intro n r hr h;cases i with
       | kt q =>
        simp only[pk]at hr;split at hr
        ·rename_i hq;rcases Kh.1 h with rfl|h
         ·exact hq
         ·exact ih _ _ hr h
        ·simp at hr
       | lt q ty =>
        simp only[pk]at hr;split at hr
        ·split at hr
         ·rename_i h1 h2;exact ih _ _ h2 h
         ·simp at hr
        ·simp at hr
       | ot q ty =>
        simp only[pk]at hr;split at hr
        ·split at hr
         ·rename_i h1 h2;exact ih _ _ h2 h
         ·simp at hr
        ·simp at hr
       | bx q cs =>
        simp only[pk]at hr;split at hr
        ·rename_i hq hb1 hb2;split at hr
         ·split at hr
          ·rename_i h3;rcases Kh.1 h with rfl|h
           ·exact hq
           ·exact ih _ _ h3 h
          ·simp at hr
         ·simp at hr
        ·simp at hr
       | sr q ty =>
        simp only[pk]at hr;split at hr
        ·rename_i hq hb1;split at hr
         ·split at hr
          ·rename_i h3;rcases Kh.1 h with rfl|h
           ·exact hq
           ·exact ih _ _ h3 h
          ·simp at hr
         ·simp at hr
        ·simp at hr
     exact key its _ _ hp ht
    obtain⟨s',v',g1,g2⟩:=Ypg hX hE hsameT;rw[h1]at g1;simp only[Ka,Kb]at g1;obtain⟨rfl,rfl⟩:=g1;exact .inl ⟨g2,(hX.env _ _ _ h1).2⟩
   obtain⟨hR,hEn,hnx,hle,hrng⟩:=Va hX hE its (Qk X its) X.next vs s m hp rfl (Kd _) (Kd _) hps (fun r hr=>hdiag r (hchg r hr) (Th hd2 r hr)) R0 E0;obtain⟨hU1,hU2⟩:=Zfr hX its x;have hun:H4 X its x=up X its (Qk X its) vs:=by simp only[H4,hsp]
   rw[hun]at hU2 ⊢;refine Ymc hX hX' hE hS ?_ (by rw[hU2.fix,hE.fix]) hR hEn;simp only[Nf,Ke,decide_eq_true_eq,Koa,Knb,beq_iff_eq];refine⟨⟨?_, ?_⟩, ?_⟩
   ·rw[Kv,hrng,Kpb];rw[Kwc];refine⟨List.nodup_range', ?_, ?_⟩
    ·have:(List.range X.next).map ((fun x:Nat×Nat=>x.2) ∘ fun r=>(r,r))=List.range X.next:=by simp [Function.comp_def]
     rw[this];exact List.nodup_range
    ·intro a ha b hb e;subst e;have h1:=(List.mem_range'_1.1 ha).1;simp only[Kx,Function.comp_def,Kvb]at hb;obtain⟨q,hq,rfl⟩:=hb;omega
   ·intro p hp';rcases Kda.1 hp' with h1|h1
    ·have:p.2∈s.map (·.2):=Kx.2 ⟨p,h1,rfl⟩;rw[hrng,List.mem_range'_1]at this;have hfx:=hX.fixle;have hf2:S'.fix=X.fix:=by rw[hS.fix,hE.fix]
     exact⟨by rw[hnx];omega,.inl (by rw[hf2];omega)⟩
    ·obtain⟨q,hq,rfl⟩:=Kx.1 h1;rw[Kvb]at hq;exact⟨by rw[hnx];simp only;omega,.inr rfl⟩
   ·have hf2:S'.fix=X.fix:=by rw[hS.fix,hE.fix]
    rw[hf2,hnx];exact Kka hX.fixle hle
  ·simp at h
 ·simp at h
end
end Go.Vs
namespace Go.Vs
variable [Glb]
theorem Ymb {E:List (Nat×V)}{R:List (Nat×Root)}{n f sz:Nat}(t:Nat) (ht:get E t=some (.a (.c (.nl sz)))):Le ⟨E,R,n,f⟩ ⟨put E t (.a (.c (.rf n [] sz 0 0))),(n,.tr sz [])::R,n+1,f⟩:=by
 refine⟨rfl, ?_⟩;intro N w0 own0 pl0 g pl a w hR;have h4:=hR.env t _ ht;obtain⟨b1,b2,b3,b4⟩:=Zvi sz hR;refine⟨_,_,⟨b1,b2,b3, ?_⟩⟩;intro u x hx;rw[Aw]at hx;split at hx
 ·rename_i e;subst e;simp only[Ka]at hx;subst hx;exact Zpt h4
 ·exact b4 u x hx
theorem Yma {E:List (Nat×V)}{R:List (Nat×Root)}{n f sz:Nat}{cs:List C}(r c:Nat) (hr:get R r=some (.bx cs)) (hc:cs[c]? = some (.nl sz)):Le ⟨E,R,n,f⟩ ⟨E,(n,.tr sz [])::put R r (.bx (cs.set c (.rf n [] sz 0 0))),n+1,f⟩:=by
 refine⟨rfl, ?_⟩;intro N w0 own0 pl0 g pl a w hR;have hlt:=(hR.hp.roots r _ hr).1;have hold:=(hR.hp.roots r _ hr).2;obtain⟨b1,b2,b3,b4⟩:=Zvi sz hR;obtain⟨c1,c2,c3,c4,c5,c6⟩:=b1;refine⟨_,_,⟨⟨c1,c2,c3,c4,c5, ?_⟩,b2,b3,b4⟩⟩;intro u x hx;simp only[get]at hx;split at hx
 ·rename_i e;exact c6 u x (by simp only[get,if_pos e];exact hx)
 ·rename_i e;rw[Aw]at hx;split at hx
  ·rename_i e2;subst e2;simp only[Ka]at hx;subst hx;have hb:=c6 r (.bx cs) (by simp only[get,if_neg e];exact hr);refine⟨hb.1, ?_⟩;intro k y hy;rw[Kcb]at hy;split at hy
   ·rename_i e3;subst e3;split at hy
    ·simp only[Ka]at hy;subst hy;obtain⟨v,d1,d2,d3,d4⟩:=hb.2 c _ hc;obtain⟨v',e1,e2,_,_⟩:=hold c _ hc;have hp:Eb pl n (fun _=>⟨true,0,0,0,sz,none⟩) r []=pl r []:=Cf pl n _ r [] hlt;rw[hp]at d1 d3 d4 ⊢;exact⟨v,d1,Zpt d2,d3,d4⟩
    ·simp at hy
   ·exact hb.2 k y hy
  ·exact c6 u x (by simp only[get,if_neg e];exact hx)
theorem Le.refl (S:St):Le S S:=⟨rfl,fun N w0 own0 pl0 g pl a w h=>⟨g,pl,h⟩⟩
theorem Le.trans {S T U:St}(h1:Le S T) (h2:Le T U):Le S U:=⟨h2.1.trans h1.1,fun N w0 own0 pl0 g pl a w h=>by
 obtain⟨g',pl',h'⟩:=h1.2 N w0 own0 pl0 g pl a w h;exact h2.2 N w0 own0 pl0 g' pl' a w h'⟩
theorem Lx {X:XSt}{E:List (Nat×V)}{R:List (Nat×Root)}{n f:Nat}(hS:SimX X ⟨E,R,n,f⟩){d:Option Nat}{v:V}{xv:XV}(h:WkV v (cV X.roots xv)):SimX (X.put d xv) ⟨Bj d v E,R,n,f⟩:=by
 cases d with
 | none=>exact hS
 | some d =>
  refine⟨hS.next,hS.fix, ?_,hS.roots⟩;intro t s w hl;simp only[XSt.put]at hl;rw[Ba]at hl;simp only[Bj,Aw];split at hl
  ·rename_i e;simp only at e;simp only[Ka,Kb]at hl;obtain⟨_,rfl⟩:=hl;rw[if_pos e];exact .inr ⟨v,rfl,h⟩
  ·rename_i e;rw[if_neg e];exact hS.env t s w hl
theorem Ypq {X:XSt}{E:List (Nat×V)}{R:List (Nat×Root)}{n f r c s:Nat}{cs:List (Nat×XC)}{ys:List C}{x:XC}{y:C}(hX:XOk X) (hS:SimX X ⟨E,R,n,f⟩) (hl:lk X.roots r=some (s,.bx cs)) (hy:get R r=some (.bx ys)) (hw:Aa WkC ys (cs.map fun e=>cC X.roots e.2)) (hx:okC X.roots X.next X.stamp x) (hxy:WkC y (cC X.roots x)) :
  XOk (X.setR r (.bx (cs.set c (X.stamp,x))))/\Ext X (X.setR r (.bx (cs.set c (X.stamp,x))))/\SimX (X.setR r (.bx (cs.set c (X.stamp,x)))) ⟨E,put R r (.bx (ys.set c y)),n,f⟩:=by
 obtain⟨a,b⟩:=K5 hX (x:=.bx (cs.set c (X.stamp,x))) (Kd _) (hX.ids r s _ hl).1 (by
  intro cs' e j en hj;simp only[XR.bx.injEq]at e;subst e;rw[Kcb]at hj;split at hj
  ·split at hj
   ·simp only[Ka]at hj;subst hj;exact⟨.inl rfl,hx⟩
   ·simp at hj
  ·exact⟨.inr ⟨s,cs,hl,hj⟩,(hX.box r s cs hl en (Kz hj)).2⟩)
 refine⟨a,b, ?_⟩;have key:∀c',okC X.roots X.next X.stamp c'->cC ((r,X.stamp,.bx (cs.set c (X.stamp,x)))::X.roots) c'=.un\/cC ((r,X.stamp,.bx (cs.set c (X.stamp,x)))::X.roots) c'=A8 [] (cC X.roots c'):=fun c' hc=>Jm (.inr (.inr (.inl ⟨_,_,_,rfl,hl⟩))) hc;have hn:n=X.next:=hS.next;subst hn;refine Nl (X':=X.setR r (.bx (cs.set c (X.stamp,x)))) (ks:=[]) (roots:=put R r (.bx (ys.set c y))) hX hS rfl rfl key ?_;intro q s' z hq;simp only[XSt.setR]at hq;rw[Ba]at hq;split at hq
 ·rename_i e;simp only at e;subst e;simp only[Ka,Kb]at hq;obtain⟨_,rfl⟩:=hq;right;intro y' hy';simp only[cRt,Ka]at hy';subst hy';refine⟨_,by rw[Aw,if_pos rfl], ?_⟩;have w1:Aa WkC (ys.set c y) (((cs.map (·.2)).set c x).map (cC X.roots)):=by
   have w0:Aa WkC ys ((cs.map (·.2)).map (cC X.roots)):=by rw[Kpb];exact hw
   clear key a b hl hy hw;generalize cs.map (·.2)=us at w0
   induction us generalizing ys c with
   | nil=>cases ys with
    | nil=>trivial
    | cons _ _=>exact w0.elim
   | cons u us ih=>cases ys with
    | nil=>exact w0.elim
    | cons y0 ys=>cases c with
     | zero=>exact⟨hxy,w0.2⟩
     | succ c=>exact⟨w0.1,ih w0.2⟩
  have w2:=Vc (ks:=[]) key (by
   intro c' hc';rcases List.mem_or_eq_of_mem_set hc' with h|h
   ·obtain⟨e,he,rfl⟩:=Kx.1 h;exact (hX.box r s cs hl e he).2
   ·rw[h];exact hx) w1
  have e3:(ys.set c y).map (A8 [])=ys.set c y:=by
   have:A8 []=fun c=>c:=by funext c;rfl
   rw[this];simp
  rw[e3]at w2;simp only[WkR];have e4:(cs.map (·.2)).set c x=(cs.set c (X.stamp,x)).map (·.2):=by simp [Kvd]
  rw[e4,Kpb]at w2;exact w2
 ·rename_i e;left;exact⟨hq,by rw[J1,Aw,if_neg e]⟩
def Pn (r:Nat):List Bc->Nat->XSt->XSt
 | [],_,X=>X
 | .O ty::bs,c,X=>match lk X.roots r with
  | some (_,.bx cs)=>match cs[c]? with
   | some (_,.nl n)=>match Nat.beq n ty.n with
    | true=>Pn r bs (c+1) ((X.newR (.tr ty [])).setR r (.bx (cs.set c (X.stamp+1,.rw X.next))))
    | false=>Pn r bs (c+1) X
   | _=>Pn r bs (c+1) X
  | _=>Pn r bs (c+1) X
 | _::bs,c,X=>Pn r bs (c+1) X
def nrm:List It->XSt->XSt
 | [],X=>X
 | .ot t ty::l,X=>match X.tmp t with
  | .a (.c (.nl n))=>match Nat.beq n ty.n with
   | true=>nrm l ((X.newR (.tr ty [])).put (some t) (.a (.c (.rw X.next))))
   | false=>nrm l X
  | _=>nrm l X
 | .bx t cs::l,X=>match Oa X t with
  | some (r,_)=>nrm l (Pn r cs 0 X)
  | none=>nrm l X
 | _::l,X=>nrm l X
def Zoi (X X':XSt) (S:St):Prop:=XOk X'/\Ext X X'/\∃S',Le S S'/\SimX X' S'
theorem Po {r:Nat}:∀(bs:List Bc) (c:Nat){X:XSt}{S:St},XOk X->SimX X S->Zoi X (Pn r bs c X) S
 | [],c,X,S,hX,hS=>⟨hX,Ext.refl X,S,Le.refl S,hS⟩
 | .K::bs,c,X,S,hX,hS=>Po bs _ hX hS
 | .U::bs,c,X,S,hX,hS=>Po bs _ hX hS
 | .L _::bs,c,X,S,hX,hS=>Po bs _ hX hS
 | .O ty::bs,c,X,S,hX,hS=>by
  simp only[Pn];split
  ·rename_i s cs hl;split
   ·rename_i sc n hc;split
    ·rename_i hn;have hn:=Km hn;subst hn;obtain⟨E,R,nx,f⟩:=S;have hnx:nx=X.next:=hS.next;subst hnx;obtain⟨ys,g1,g2⟩:=Ob hS hl;obtain⟨y,y1,y2⟩:=R9 (i:=c) (x:=C.nl ty.n) g2 (by rw[Kaa,hc];rfl);have y3:=y2.eq (by simp);subst y3;obtain⟨a,b,d⟩:=Pj (x:=.tr ty []) (y:=.tr ty.n []) hX hS (fun cs h=>by simp at h) ⟨_,rfl,rfl,rfl⟩;have hlt:=(hX.ids r s _ hl).1;have hl2:lk (X.newR (.tr ty [])).roots r=some (s,.bx cs):=by simp only[XSt.newR];rw[Ba,if_neg (by simp only;omega)];exact hl
     obtain⟨ys2,g3,g4⟩:=Ob d hl2;have e1:ys2=ys:=by
      simp only[get]at g3;rw[if_neg (by omega),g1]at g3;simp only[Ka,Root.bx.injEq]at g3;exact g3.symm
     subst e1;obtain⟨a',b',d'⟩:=Ypq (c:=c) (x:=.rw X.next) (y:=.rf X.next [] ty.n 0 0) a d hl2 g3 g4 (Kma _) (by
      left;simp only[cC,Ph];rfl)
     have hput:put ((X.next,Root.tr ty.n [])::R) r (.bx (ys2.set c (.rf X.next [] ty.n 0 0)))=(X.next,Root.tr ty.n [])::put R r (.bx (ys2.set c (.rf X.next [] ty.n 0 0))):=by
      simp only[put];rw[if_neg (by omega)]
     rw[hput]at d';obtain⟨r1,r2,S',r3,r4⟩:=Po bs (c+1) a' d';exact⟨r1,(b.trans b').trans r2,S',(Yma r c g1 y1).trans r3,r4⟩
    ·exact Po bs _ hX hS
   ·exact Po bs _ hX hS
  ·exact Po bs _ hX hS
theorem Nd:∀(its:List It){X:XSt}{S:St},XOk X->SimX X S->Zoi X (nrm its X) S
 | [],X,S,hX,hS=>⟨hX,Ext.refl X,S,Le.refl S,hS⟩
 | .kt _::l,X,S,hX,hS=>Nd l hX hS
 | .lt _ _::l,X,S,hX,hS=>Nd l hX hS
 | .sr _ _::l,X,S,hX,hS=>Nd l hX hS
 | .bx t cs::l,X,S,hX,hS=>by
  simp only[nrm];split
  ·rename_i r es hb;obtain⟨a,b,S1,c,d⟩:=Po cs 0 hX hS;obtain⟨a',b',S2,c',d'⟩:=Nd l a d;exact⟨a',b.trans b',S2,c.trans c',d'⟩
  ·exact Nd l hX hS
 | .ot t ty::l,X,S,hX,hS=>by
  simp only[nrm];split
  ·rename_i n ht;split
   ·rename_i hn;have hn:=Km hn;subst hn;obtain⟨E,R,nx,f⟩:=S;have hnx:nx=X.next:=hS.next;subst hnx;obtain⟨s,hl⟩:=Zfi ht (by simp);rcases hS.env t s _ hl with h|⟨y,y1,y2⟩
    ·simp at h
    ·have y3:=y2.c (by simp [cC]);subst y3;obtain⟨a,b,d⟩:=Pj (x:=.tr ty []) (y:=.tr ty.n []) hX hS (fun cs h=>by simp at h) ⟨_,rfl,rfl,rfl⟩;obtain⟨a',b'⟩:=Ig a (d:=some t) (v:=.a (.c (.rw X.next))) (Kma X.next);have d':=Lx d (d:=some t) (v:=.a (.c (.rf X.next [] ty.n 0 0))) (xv:=.a (.c (.rw X.next))) (Zl5 (Ph _ _) rfl);obtain⟨r1,r2,S',r3,r4⟩:=Nd l a' d';exact⟨r1,(b.trans b').trans r2,S',(Ymb t y1).trans r3,r4⟩
   ·exact Nd l hX hS
  ·exact Nd l hX hS
def J4 {β:Type}(X X':XSt) (its:List It) (k:Tp (It.tys its)->Option β):Option β:=Zli X (nrm its X') its k
theorem Zek {β:Type}{out:β}{X X':XSt}{S':St}{its:List It}{k:Tp (It.tys its)->Option β}(hX:XOk X) (hX':XOk X') (hE:Ext X X') (hS:SimX X' S') (h:J4 X X' its k=some out) :
  ∃s,k s=some out/\Le S' (Mp (H4 X its s)):=by
 obtain⟨a,b,S2,c,d⟩:=Nd its hX' hS;obtain⟨s,h1,h2⟩:=Ynl hX a (hE.trans b) d h;exact⟨s,h1,c.trans h2⟩
def Gs {σ ρ:Type}(step:σ->Option (σ ⊕ ρ)):Nat->σ->Option ρ
 | 0,_=>none
 | n+1,s=>match step s with
  | some (.inl s')=>Gs step n s'
  | some (.inr r)=>some r
  | none=>none
open Classical in
noncomputable def Ar {σ ρ:Type}(step:σ->Option (σ ⊕ ρ)) (s:σ):Option ρ:=if h:∃r n,Gs step n s=some r then some (Classical.choose h) else none
theorem Zkn {σ ρ:Type}{step:σ->Option (σ ⊕ ρ)}{s:σ}{r:ρ}(h:Ar step s=some r):∃n,Gs step n s=some r:=by
 unfold Ar at h;split at h
 ·rename_i hx;simp only[Ka]at h;subst h;exact Classical.choose_spec hx
 ·simp at h
theorem Zj0 {σ ρ:Type}{step:σ->Option (σ ⊕ ρ)}{r:ρ}:∀{n:Nat}{s:σ},Gs step n s=some r->∀m,n<=m->Gs step m s=some r
 | 0,s,h,m,_=>by simp [Gs]at h
 | n+1,s,h,m,hm=>by
  obtain⟨m,rfl⟩:∃k,m=k+1:=⟨m-1,by omega⟩;simp only[Gs]at h ⊢;split at h
  ·exact Zj0 h m (by omega)
  ·exact h
  ·simp at h
theorem Zkm {σ ρ:Type}{step:σ->Option (σ ⊕ ρ)}{s:σ}{r:ρ}{n:Nat}(h:Gs step n s=some r):Ar step s=some r:=by
 unfold Ar;have hx:∃r n,Gs step n s=some r:=⟨r,n,h⟩;rw[dif_pos hx];obtain⟨m,hm⟩:=Classical.choose_spec hx;have h1:=Zj0 h (max n m) (Nat.le_max_left _ _);have h2:=Zj0 hm (max n m) (Nat.le_max_right _ _);rw[h1]at h2;rw[<-h2]
theorem Pd {σ ρ:Type}(step:σ->Option (σ ⊕ ρ)) (s:σ):Ar step s=match step s with
  | some (.inl s')=>Ar step s'
  | some (.inr r)=>some r
  | none=>none:=by
 have key:∀r,Ar step s=some r ↔ (match step s with
  | some (.inl s')=>Ar step s'
  | some (.inr r)=>some r
  | none=>none)=some r:=by
  intro r;constructor
  ·intro h;obtain⟨n,hn⟩:=Zkn h;cases n with
   | zero=>simp [Gs]at hn
   | succ n =>
    simp only[Gs]at hn;split at hn
    ·exact Zkm hn
    ·exact hn
    ·simp at hn
  ·intro h;split at h
   ·rename_i s' hs;obtain⟨n,hn⟩:=Zkn h;exact Zkm (n:=n+1) (by simp only[Gs,hs];exact hn)
   ·rename_i r' hs;exact Zkm (n:=1) (by simp only[Gs,hs];exact h)
   ·simp at h
 cases h:Ar step s with
 | some r=>exact ((key r).1 h).symm
 | none =>
  cases h2:(match step s with
   | some (.inl s')=>Ar step s'
   | some (.inr r)=>some r
   | none=>none) with
  | none=>rfl
  | some r=>rw[(key r).2 h2]at h;simp at h
def Ao {σ ρ:Type}(o:Option (σ ⊕ ρ)) (f:σ->Option ρ):Option ρ:=match o with
 | some (.inl s)=>f s
 | some (.inr r)=>some r
 | none=>none
def J3 {σ ρ:Type}(o:Option ρ):Option (σ ⊕ ρ):=match o with
 | some r=>some (.inr r)
 | none=>none
theorem Zus {σ ρ:Type}{o:Option ρ}{z:σ ⊕ ρ}(h:J3 o=some z):∃r,z=.inr r/\o=some r:=by
 cases o with
 | none=>simp [J3]at h
 | some r=>simp only[J3,Ka]at h;exact⟨r,h.symm,rfl⟩
end Go.Vs
namespace Go.Vs
variable [Glb]
structure GArg where
 ptr:Bool
 ag:Bool
 t:Ty
 ms:List M
 o:Option Ty
def Ri:Option Ty->List Ty
 | none=>[]
 | some t=>[t]
def cts:Ty->List Ty
 | .P a b=>G2 (cts a) (cts b)
 | t=>[t]
def Ln:Ty->Bool
 | .H _=>false
 | .P a b=>match Ln a with
  | true=>Ln b
  | false=>false
 | _=>true
def Lg:Ty->Bool
 | .L _=>true
 | _=>false
def Zjy:List M->List Ty->List Ty
 | m::ms,t::ts=>match m,Lg t with
  | .io,true=>t::Zjy ms ts
  | _,_=>Zjy ms ts
 | _,_=>[]
def Ha:List GArg->List Ty
 | []=>[]
 | a::as=>G2 (Zjy a.ms (cts a.t)) (Ha as)
def F1:List GArg->List Ty
 | []=>[]
 | a::as=>match a.ptr with
  | true=>G2 (Ri a.o) (F1 as)
  | false=>F1 as
def Co:List GArg->List Ty
 | []=>[]
 | a::as=>a.t::Co as
def Fu:List (Bool×Ty)->List Ty
 | []=>[]
 | r::rs=>r.2::Fu rs
def E4 (as:List GArg) (rs:List (Bool×Ty)):List Ty:=G2 (Fu rs) (G2 (Ha as) (F1 as))
def A2 {α:Type}:List α->Nat
 | []=>0
 | _::l=>Nat.succ (A2 l)
def F5 (v:Sg):List D:=Ad v.1 v.2
def mkG (a:GArg) (x:a.t.den):Arg:=match a.ptr with
 | true=>.ptr (a.ms.zip (Ad a.t x))
 | false=>.val a.ag (a.ms.zip (Ad a.t x))
def Ay:(as:List GArg)->Tp (Co as)->List Arg
 | [],_=>[]
 | a::as,x=>mkG a (Tp.hd a.t _ x)::Ay as (Tp.tl a.t _ x)
def El:List (Bool×Ty)->List Sg->List (Bool×List D)
 | (ag,_)::rs,v::vs=>(ag,F5 v)::El rs vs
 | _,_=>[]
def ioG:Sg->Nat×List (List D)
 | ⟨.L t,xs⟩=>(t.n,xs.map (Ad t))
 | _=>(0,[])
def bxG:List GArg->List Sg->List (List D)
 | [],_=>[]
 | a::as,vs=>match a.ptr with
  | true=>match a.o,vs with
   | none,vs=>[]::bxG as vs
   | some _,v::vs=>F5 v::bxG as vs
   | some _,[]=>[]
  | false=>bxG as vs
def J2 (as:List GArg) (rs:List (Bool×Ty)) (vs:List Sg):Out :=
 ⟨El rs (vs.take (A2 rs)),((vs.drop (A2 rs)).take (A2 (Ha as))).map ioG,bxG as ((vs.drop (A2 rs)).drop (A2 (Ha as)))⟩
structure GEnt (P:Program) where
 f:FuncId
 args:List GArg
 res:List (Bool×Ty)
 F:Tp (Co args)->Option (Tp (E4 args res))
 ok:∀x y,F x=some y->Hq P f (Ay args x) (J2 args res (De _ y))
structure GC where
 a:GArg
 cs:List XC
 at?:Option (Nat×Nat)
def Oy (X:XSt) (a:GArg) (v:XV):Option GC:=match a.ptr,a.ag,v with
 | false,false,.a (.c c)=>some ⟨a,[c],none⟩
 | false,true,.a (.ag cs)=>some ⟨a,cs,none⟩
 | true,_,.a (.c (.pb r c))=>match lk X.roots r with
  | some (_,.bx es)=>match Nat.ble (c+A2 a.ms) es.length with
   | true=>some ⟨a,((es.drop c).take (A2 a.ms)).map (·.2),some (r,c)⟩
   | false=>none
  | _=>none
 | _,_,_=>none
def F6 (X:XSt):List GArg->List XV->Option (List GC)
 | [],[]=>some []
 | a::as,v::vs=>match Oy X a v,F6 X as vs with
  | some g,some gs=>match Nat.beq (A2 g.cs) a.t.n&&Nat.beq (A2 a.ms) a.t.n with
   | true=>some (g::gs)
   | false=>none
  | _,_=>none
 | _,_=>none
def P1:List GC->List (M×XC)
 | []=>[]
 | g::gs=>g.a.ms.zip g.cs++P1 gs
def owZ:List (M×XC)->List XC
 | []=>[]
 | (m,c)::l=>match m with
  | .ow=>c::owZ l
  | _=>owZ l
def ioZ (R:XRs):List (M×XC)->Option (List Nat)
 | []=>some []
 | (m,c)::l=>match m with
  | .io=>match c with
   | .rw r=>match lk R r,ioZ R l with
    | some (_,.tr _ _),some ids=>some (r::ids)
    | _,_=>none
   | .rf r _ [(_,_)] 0 _ _=>match lk R r,ioZ R l with
    | some (_,.tr _ _),some ids=>some (r::ids)
    | _,_=>none
   | .nl _=>ioZ R l
   | c=>match I0 c with
    | true=>ioZ R l
    | false=>none
  | _=>ioZ R l
def rdZ:List (M×XC)->List Nat
 | []=>[]
 | (m,c)::l=>match m with
  | .rd=>Lt c++rdZ l
  | .rx=>Lt c++rdZ l
  | _=>rdZ l
def bxZ:List GC->List Nat
 | []=>[]
 | g::gs=>match g.at? with
  | some (r,_)=>r::bxZ gs
  | none=>bxZ gs
def Zen {β:Type}(R:XRs):(as:List GArg)->List GC->(Tp (Co as)->Option β)->Option β
 | [],_,k=>k ()
 | a::as,gs,k=>match gs with
  | g::gs=>D2 R a.t g.cs fun x rest=>match rest with
   | []=>Zen R as gs fun xs=>k (Tp.mk a.t _ x xs)
   | _=>none
  | []=>none
def K8 {β:Type}:(T:Ty)->Nat->(t:Ty)->T.den->(List t.den->Option β)->Option β
 | .L t0,c,t,e,f=>match c with
  | 0=>Oc t0 t e f
  | _=>none
 | .P a b,c,t,e,f=>match Nat.blt c a.n with
  | true=>K8 a c t e.1 f
  | false=>K8 b (c-a.n) t e.2 f
 | _,_,_,_,_=>none
def Lw {β:Type}:(T:Ty)->Nat->(t:Ty)->List t.den->T.den->(T.den->Option β)->Option β
 | .L t0,c,t,ws,e,f=>match c with
  | 0=>Oc t t0 ws f
  | _=>none
 | .P a b,c,t,ws,e,f=>match Nat.blt c a.n with
  | true=>Lw a c t ws e.1 fun x=>f (x,e.2)
  | false=>Lw b (c-a.n) t ws e.2 fun x=>f (e.1,x)
 | _,_,_,_,_,_=>none
def R8 {β:Type}(R:XRs):List (M×XC)->Option β->Option β
 | [],k=>k
 | (m,c)::l,k=>match m with
  | .io=>match c with
   | .rf r v [(i,j)] 0 t ws=>match lk R r with
    | some (v',.tr T xs)=>match Nat.beq v' v with
     | true=>bnd (idx xs (Int.ofNat i)) fun e=>K8 T j t e fun o=>chk (nEq o.length ws.length) (R8 R l k)
     | false=>none
    | _=>none
   | _=>R8 R l k
  | _=>R8 R l k
def ioX {β:Type}:List (M×XC)->List Sg->XSt->(XSt->Option β)->Option β
 | [],[],X,k=>k X
 | (m,c)::l,vs,X,k=>match m with
  | .io=>match c with
   | .rw r=>match vs with
    | ⟨.L t',xs'⟩::vs=>match lk X.roots r with
     | some (_,.tr t xs)=>Oc t' t xs' fun xs'=>chk (nEq xs'.length xs.length) (ioX l vs (X.setR r (.tr t xs')) k)
     | _=>none
    | _=>none
   | .rf r _ [(i,j)] 0 t ws=>match vs with
    | ⟨.L t',xs'⟩::vs=>match lk X.roots r with
     | some (_,.tr T xs)=>Oc t' t xs' fun xs'=>chk (nEq xs'.length ws.length) (bnd (idx xs (Int.ofNat i)) fun e=>Lw T j t xs' e fun e'=>ioX l vs (X.setR r (.tr T (Ap xs i e'))) k)
     | _=>none
    | _=>none
   | .nl _=>match vs with
    | _::vs=>ioX l vs X k
    | []=>none
   | _=>ioX l vs X k
  | _=>ioX l vs X k
 | [],_::_,_,_=>none
def Dr (s:Nat):List M->List Ty->List (Nat×XC)->List XC->List (Nat×XC)
 | m::ms,t::ts,e::es,ys=>match m,Lg t with
  | .rx,true=>e::Dr s ms ts es ys
  | _,_=>match ys with
   | y::ys=>(s,y)::Dr s ms ts es ys
   | []=>e::Dr s ms ts es []
 | _,_,_,_=>[]
def Ev:Option Ty->Nat
 | none=>0
 | some t=>t.n
def bxX:List GC->List XC->XSt->Option XSt
 | [],_,X=>some X
 | g::gs,ys,X=>match g.at? with
  | some (r,c)=>match lk X.roots r with
   | some (_,.bx es)=>match Nat.ble (c+A2 g.a.ms) es.length&&Ln g.a.t with
    | true=>bxX gs (ys.drop (Ev g.a.o)) (X.setR r (.bx (es.take c++(Dr X.stamp g.a.ms (cts g.a.t) ((es.drop c).take (A2 g.a.ms)) (ys.take (Ev g.a.o))++es.drop (c+A2 g.a.ms)))))
    | false=>none
   | _=>none
  | none=>bxX gs ys X
def E5:List Sg->List XD
 | []=>[]
 | v::vs=>Nq v.1 v.2++E5 vs
def Zb7 {β:Type}(X:XSt) (as:List GArg) (rs:List (Bool×Ty)) (F:Tp (Co as)->Option (Tp (E4 as rs))) (vs:List XV) (k:XV->XSt->Option β):Option β:=match F6 X as vs with
 | some gs=>match Ds X.roots (owZ (P1 gs)),ioZ X.roots (P1 gs) with
  | some ow,some io=>match Lp ow&&(Lp (io++bxZ gs)&&(Ol ow io&&Ol (ow++(io++bxZ gs)) (rdZ (P1 gs)))) with
   | true=>R8 X.roots (P1 gs) <| Zen X.roots as gs fun x=>bnd (F x) fun y =>
    ioX (P1 gs) (((De _ y).drop (A2 rs)).take (A2 (Ha as))) (X.delRs ow) fun X2 =>
     match bxX gs ((Cl (E5 ((De _ y).take (A2 rs)++((De _ y).drop (A2 rs)).drop (A2 (Ha as)))) X2).1.drop (A2 (E5 ((De _ y).take (A2 rs))))) (Cl (E5 ((De _ y).take (A2 rs)++((De _ y).drop (A2 rs)).drop (A2 (Ha as)))) X2).2 with
     | some X4=>k (Zes (J9 rs (Cl (E5 ((De _ y).take (A2 rs)++((De _ y).drop (A2 rs)).drop (A2 (Ha as)))) X2).1)) X4
     | none=>none
   | false=>none
  | _,_=>none
 | none=>none
def Zb6 {P:Program}{β:Type}(X:XSt) (e:GEnt P) (vs:List XV) (k:XV->XSt->Option β):Option β:=Zb7 X e.args e.res e.F vs k
end Go.Vs
namespace Go.Vs
variable [Glb]
theorem F9 {α:Type}:∀l:List α,A2 l=l.length
 | []=>rfl
 | _::l=>by simp only[A2,Kg,F9 l]
theorem Ws:∀(a b:List Ty),G2 a b=a++b
 | [],b=>rfl
 | t::a,b=>by simp only[G2,Ks,Ws a b]
theorem Qr:∀t:Ty,(cts t).length=t.n
 | .I _=>rfl
 | .Y=>rfl
 | .B=>rfl
 | .S=>rfl
 | .L _=>rfl
 | .H _=>rfl
 | .P a b=>by simp only[cts,Ws,Ky,Qr a,Qr b,Ty.n]
theorem Zmr:∀(ts:List Ty) (y:Tp ts),(De ts y).map (·.1)=ts
 | [],_=>rfl
 | t::ts,y=>by simp only[De,Kc,Zmr ts]
def Fw:List M->List XC->List D->List (M×XC×D)
 | m::ms,c::cs,d::ds=>(m,c,d)::Fw ms cs ds
 | _,_,_=>[]
def toV (R:XRs) (w:M×XC×D):M×C×D:=(w.1,cC R w.2.1,w.2.2)
def Ji:(as:List GArg)->List GC->Tp (Co as)->List (M×XC×D)
 | [],_,_=>[]
 | a::as,g::gs,x=>Fw a.ms g.cs (Ad a.t (Tp.hd a.t _ x))++Ji as gs (Tp.tl a.t _ x)
 | _,[],_=>[]
section
variable {β:Type} {X:XSt} {S:St} {out:β} {P:Program}
theorem Zze {R:XRs}:∀(ms:List M) (cs:List XC) (ds:List D),ms.length=cs.length->cs.length=ds.length->Jb (cs.map (cC R)) (ms.zip ds)=some ((Fw ms cs ds).map (toV R))
 | [],[],[],_,_=>rfl
 | m::ms,c::cs,d::ds,h1,h2=>by
  simp only[Kg,Kqe]at h1 h2;simp only[Kc,Kcc,Jb,Zze ms cs ds h1 h2,Kia,Fw];rfl
 | [],_::_,_,h,_=>by simp at h
 | _::_,[],_,h,_=>by simp at h
 | [],[],_::_,_,h=>by simp at h
 | _::_,_::_,[],_,h=>by simp at h
theorem Zzc {R:XRs}:∀{ms:List M}{cs:List XC}{ds:List D},Aa (CD R) cs ds->∀w∈Fw ms cs ds,CD R w.2.1 w.2.2
 | [],_,_,_,w,hw=>by simp [Fw]at hw
 | m::ms,[],_,_,w,hw=>by simp [Fw]at hw
 | m::ms,c::cs,[],h,w,hw=>h.elim
 | m::ms,c::cs,d::ds,h,w,hw=>by
  simp only[Fw,Kh]at hw;rcases hw with rfl|hw
  ·exact h.1
  ·exact Zzc h.2 w hw
theorem Zzd:∀{ms:List M}{cs:List XC}{ds:List D},cs.length=ds.length->(Fw ms cs ds).map (fun w=>(w.1,w.2.1))=ms.zip cs
 | [],_,_,_=>by simp [Fw]
 | m::ms,[],[],_=>by simp [Fw]
 | m::ms,c::cs,d::ds,h=>by
  simp only[Kg,Kqe]at h;simp only[Fw,Kc,Kcc,Zzd h]
 | m::ms,c::cs,[],h=>by simp at h
 | m::ms,[],_::_,h=>by simp at h
theorem Yfq (hX:XOk X) (hS:SimX X S){a:GArg}{v:XV}{y:V}{g:GC}{x:a.t.den}(hw:WkV y (cV X.roots v)) (ho:okV X.roots X.next X.stamp v) (h:Oy X a v=some g) (hl:g.cs.length=a.t.n) (hm:a.ms.length=a.t.n) (hcd:Aa (CD X.roots) g.cs (Ad a.t x)) :
  Ow S.roots y (mkG a x)=some ((Fw a.ms g.cs (Ad a.t x)).map (toV X.roots)):=by
 have hen:=Bm a.t x;have hz:=Zze (R:=X.roots) a.ms g.cs (Ad a.t x) (by omega) (by omega);have hlen:(a.ms.zip (Ad a.t x)).length=a.ms.length:=by rw[List.length_zip];omega
 unfold Oy at h;split at h
 ·rename_i c hp hag;simp only[Ka]at h;subst h;simp only at hcd hz hl
  match hd:Ad a.t x,hcd with
  | [d],hcd =>
   rw[hd]at hz;rw[hw.c hcd.1.ne];simp only[mkG,hp,hag,Ow,hd];exact hz
 ·rename_i cs hp hag;simp only[Ka]at h;subst h;simp only at hcd hz hl;cases y with
  | a z=>cases z with
   | ag ys =>
    have:=Jo hcd hw;subst this;simp only[mkG,hp,hag,Ow];exact hz
   | c _=>exact hw.elim
  | _=>exact hw.elim
 ·rename_i r c hp;split at h
  ·rename_i s es hle;split at h
   ·rename_i hb;simp only[Ka]at h;subst h;simp only at hcd hz hl;have hb:=Kba hb;rw[F9]at hb hcd hz hl;simp only[cV,cA,cC,hle]at hw;have hy:=hw.c (by simp);subst hy;obtain⟨bs,g1,g2⟩:=Ob hS hle;have hbl:=g2.length;rw[Ko]at hbl;have g3:Aa WkC ((bs.drop c).take a.ms.length) ((((es.drop c).take a.ms.length).map (·.2)).map (cC X.roots)):=by
     have:=Il (n:=a.ms.length) (H5 (n:=c) g2);rw[Kpb,Kdb,Keb];exact this
    have g4:=Jo hcd g3;simp only[mkG,hp,Ow,g1,hlen];rw[if_pos (by omega),g4,F9];exact hz
   ·simp at h
  ·simp at h
 ·simp at h
theorem Zsa (hX:XOk X) (hS:SimX X S):∀(as:List GArg) (vs:List XV) (ys:List V) (gs:List GC) (k:Tp (Co as)->Option β),Aa (fun y v=>WkV y (cV X.roots v)/\okV X.roots X.next X.stamp v) ys vs->F6 X as vs=some gs->Zen X.roots as gs k=some out ->
  ∃x,k x=some out/\Gm S.roots ys (Ay as x)=some ((Ji as gs x).map (toV X.roots))/\(∀w∈Ji as gs x,CD X.roots w.2.1 w.2.2/\okC X.roots X.next X.stamp w.2.1)/\(Ji as gs x).map (fun w=>(w.1,w.2.1))=P1 gs/\(Bd ys (Ay as x)).map (·.1)=bxZ gs
 | [],[],[],gs,k,_,hg,h=>by
  simp only[F6,Ka]at hg;subst hg;exact⟨(),h,rfl,by simp [Ji],rfl,rfl⟩
 | a::as,v::vs,y::ys,gs,k,hw,hg,h=>by
  simp only[F6]at hg;split at hg
  ·rename_i g gs' h1 h2;split at hg
   ·rename_i hb;simp only[Ka]at hg;subst hg;simp only[Ke,F9]at hb;have hb1:=Km hb.1;have hb2:=Km hb.2;simp only[Zen]at h;have hok:∀c∈g.cs,okC X.roots X.next X.stamp c:=by
     have h1':=h1;unfold Oy at h1';have ho:=hw.1.2;split at h1'
     ·simp only[Ka]at h1';subst h1';intro c hc;simp only[Kna]at hc;subst hc;exact ho
     ·simp only[Ka]at h1';subst h1';exact ho
     ·split at h1'
      ·rename_i s es hle;split at h1'
       ·simp only[Ka]at h1';subst h1';intro c hc;obtain⟨e,he,rfl⟩:=Kx.1 hc;exact (hX.box _ s es hle e (Kib (Kkb he))).2
       ·simp at h1'
      ·simp at h1'
     ·simp at h1'
    obtain⟨x,c0,rest,hc,h,hcd⟩:=Ls a.t g.cs _ out hok h;split at h
    ·rw[Kw]at hc;subst hc;obtain⟨xs,h,f1,f2,f3,f4⟩:=Zsa hX hS as vs ys gs' _ hw.2 h2 h;have g1:=Yfq (x:=x) hX hS hw.1.1 hw.1.2 h1 hb1 hb2 hcd;refine⟨_,h, ?_, ?_, ?_, ?_⟩
     ·simp only[Ay,Tp.hd_mk,Tp.tl_mk,Gm,g1,f1,Ji,Kv]
     ·intro w hw';simp only[Ji,Tp.hd_mk,Tp.tl_mk,Kda]at hw';rcases hw' with hw'|hw'
      ·refine⟨Zzc hcd w hw', ?_⟩;have key:∀(ms:List M) (cs:List XC) (ds:List D),w∈Fw ms cs ds->w.2.1∈cs:=by
        intro ms
        induction ms with
        | nil=>intro cs ds h;simp [Fw]at h
        | cons m ms ih =>
         intro cs ds h;cases cs with
         | nil=>simp [Fw]at h
         | cons c cs=>cases ds with
          | nil=>simp [Fw]at h
          | cons d ds =>
           simp only[Fw,Kh]at h;rcases h with rfl|h
           ·exact Kn
           ·exact Kl _ (ih cs ds h)
       exact hok _ (key _ _ _ hw')
      ·exact f2 w hw'
     ·simp only[Ji,Tp.hd_mk,Tp.tl_mk,Kv,P1,f3];have hga:g.a=a:=by
       unfold Oy at h1;split at h1
       ·simp only[Ka]at h1;subst h1;rfl
       ·simp only[Ka]at h1;subst h1;rfl
       ·split at h1
        ·split at h1
         ·simp only[Ka]at h1;subst h1;rfl
         ·simp at h1
        ·simp at h1
       ·simp at h1
      rw[Zzd (by rw[Bm];exact hb1),hga]
     ·-- variables that are handed
      simp only[Ay,Tp.hd_mk,Tp.tl_mk];have h1':=h1;unfold Oy at h1';split at h1'
      ·rename_i c hp hag;simp only[Ka]at h1';subst h1';simp only[mkG,hp,bxZ,Bd,f4]
      ·rename_i cs hp hag;simp only[Ka]at h1';subst h1';simp only[mkG,hp,bxZ,Bd,f4]
      ·rename_i r c hp;split at h1'
       ·rename_i s es hle;split at h1'
        ·simp only[Ka]at h1';subst h1';have hy:y=.a (.c (.pb r c)):=by
          have:=hw.1.1;simp only[cV,cA,cC,hle]at this;exact this.c (by simp)
         subst hy;simp only[mkG,hp,bxZ,Bd,Kc,f4]
        ·simp at h1'
       ·simp at h1'
      ·simp at h1'
    ·simp at h
   ·simp at hg
  ·simp at hg
 | [],_::_,_,_,_,_,hg,_=>by simp [F6]at hg
 | _::_,[],_,_,_,_,hg,_=>by simp [F6]at hg
 | [],[],_::_,_,_,hw,_,_=>hw.elim
 | _::_,_::_,[],_,_,hw,_,_=>hw.elim
theorem Zuv {R:XRs}:∀(W:List (M×XC×D)),(∀w∈W,CD R w.2.1 w.2.2)->(((W.map (toV R)).filter Ie).map (·.2.1))=(owZ (W.map fun w=>(w.1,w.2.1))).map (cC R)/\Aa (CD R) (owZ (W.map fun w=>(w.1,w.2.1))) (((W.map (toV R)).filter Ie).map (·.2.2))
 | [],_=>⟨rfl,trivial⟩
 | (m,c,d)::W,h=>by
  obtain⟨a,b⟩:=Zuv W fun w hw=>h w (Kl _ hw);have hc:=h _ Kn;cases m with
  | ow =>
   have e:Ie (toV R (M.ow,c,d))=true:=rfl;simp only[Kc,Kyc,e,if_true,owZ];exact⟨by rw[a];rfl,⟨hc,b⟩⟩
  | rd =>
   have e:Ie (toV R (M.rd,c,d))=false:=rfl;simp only[Kc,Kyc,e,owZ];exact⟨a,b⟩
  | rx =>
   have e:Ie (toV R (M.rx,c,d))=false:=rfl;simp only[Kc,Kyc,e,owZ];exact⟨a,b⟩
  | io =>
   have e:Ie (toV R (M.io,c,d))=false:=rfl;simp only[Kc,Kyc,e,owZ];exact⟨a,b⟩
theorem Zph {R:XRs}{r s:Nat}{t:Ty}{xs:List t.den}{d:D}(hl:lk R r=some (s,.tr t xs)) (h:CD R (.rw r) d):d=.sl t.n (xs.map (Ad t)):=by
 refine Zpg h (.inr (.inr ⟨t,xs,r,[],0,xs.map (Ad t),by simp [cC,hl], ?_,by simp, ?_,rfl,.inl rfl⟩))
 ·simp only[Ce,hl];rfl
 ·rw[Kha,Kob (by simp)]
theorem Zto {R:XRs}{c:XC}{d:D}(hl:I0 c=true) (h:CD R c d):∃v,cC R c=.lf v/\d=.lf v:=by
 rcases h with h|⟨n,rfl,_⟩|⟨t,ws,r,p,lo,l,h1,_⟩
 ·exact h
 ·simp [I0]at hl
 ·exfalso;cases c<;>simp [I0]at hl<;>simp [cC]at h1
theorem Zvp {R:XRs}{r v lo:Nat}{p:Af}{t:Ty}{ws:List t.den}{d:D}(h:CD R (.rf r v p lo t ws) d):cC R (.rf r v p lo t ws)=.rf r p t.n lo ws.length/\∃(t':Ty) (ws':List t'.den),d=.sl t'.n (ws'.map (Ad t')):=by
 rcases h with ⟨v',h,_⟩|⟨n,h,_⟩|⟨t',ws',r',p',lo',l,h,_,_,_,hd,_⟩
 ·simp only[cC]at h;split at h<;>simp at h
 ·simp at h
 ·refine⟨?_,t',ws',hd⟩;simp only[cC]at h ⊢;split at h
  ·rfl
  ·simp at h
theorem Zi2 {β:Type}{out:β}:∀(T:Ty) (c:Nat) (t:Ty) (e:T.den) (f:List t.den->Option β),K8 T c t e f=some out->∃o,f o=some out/\(Ad T e)[c]? = some (.sl t.n (o.map (Ad t)))
 | .L t0,c,t,e,f,h=>by
  unfold K8 at h;cases c with
  | zero =>
   obtain⟨o,h1,rfl,h3,_⟩:=S9 h;exact⟨o,h1,by simp only[Ad,Ku,h3]⟩
  | succ c=>simp at h
 | .P a b,c,t,e,f,h=>by
  unfold K8 at h;split at h
  ·rename_i hb;obtain⟨o,h1,h2⟩:=Zi2 a c t e.1 f h;refine⟨o,h1, ?_⟩;have hb:c<a.n:=Kba hb;simp only[Ad];rw[Ksa (by rw[Bm];exact hb)];exact h2
  ·rename_i hb;obtain⟨o,h1,h2⟩:=Zi2 b (c-a.n) t e.2 f h;refine⟨o,h1, ?_⟩;have hb:a.n<=c:=by
    exact Nat.le_of_lt_succ (Keg (Kog (by rw[show (c+1).ble a.n=false from hb];simp)))
   simp only[Ad];rw[Kga (by rw[Bm];exact hb),Bm];exact h2
 | .I _,c,t,e,f,h=>by simp [K8]at h
 | .Y,c,t,e,f,h=>by simp [K8]at h
 | .B,c,t,e,f,h=>by simp [K8]at h
 | .S,c,t,e,f,h=>by simp [K8]at h
theorem Zmi {β:Type}{out:β}:∀(T:Ty) (c:Nat) (t:Ty) (ws:List t.den) (e:T.den) (f:T.den->Option β),Lw T c t ws e f=some out->∃e' o,f e'=some out/\Ad T e'=(Ad T e).set c (.sl t.n (ws.map (Ad t)))/\(Ad T e)[c]? = some (.sl t.n o)
 | .L t0,c,t,ws,e,f,h=>by
  unfold Lw at h;cases c with
  | zero =>
   obtain⟨o,h1,rfl,h3,_⟩:=S9 h;exact⟨o,e.map (Ad t),h1,by simp only[Ad,Kpf,h3],rfl⟩
  | succ c=>simp at h
 | .P a b,c,t,ws,e,f,h=>by
  unfold Lw at h;split at h
  ·rename_i hb;obtain⟨e',o,h1,h2,h3⟩:=Zmi a c t ws e.1 _ h;refine⟨(e',e.2),o,h1, ?_, ?_⟩
   ·have hb:c<a.n:=Kba hb;simp only[Ad];rw[List.set_append_left _ _ (by rw[Bm];exact hb),h2]
   ·have hb:c<a.n:=Kba hb;simp only[Ad];rw[Ksa (by rw[Bm];exact hb)];exact h3
  ·rename_i hb;obtain⟨e',o,h1,h2,h3⟩:=Zmi b (c-a.n) t ws e.2 _ h;have hb:a.n<=c:=by
    exact Nat.le_of_lt_succ (Keg (Kog (by rw[show (c+1).ble a.n=false from hb];simp)))
   refine⟨(e.1,e'),o,h1, ?_, ?_⟩
   ·simp only[Ad];rw[Kpe _ _ (by rw[Bm];exact hb),Bm,h2]
   ·simp only[Ad];rw[Kga (by rw[Bm];exact hb),Bm];exact h3
 | .I _,c,t,ws,e,f,h=>by simp [Lw]at h
 | .Y,c,t,ws,e,f,h=>by simp [Lw]at h
 | .B,c,t,ws,e,f,h=>by simp [Lw]at h
 | .S,c,t,ws,e,f,h=>by simp [Lw]at h
theorem Zn2 {β:Type}{out:β}{R:XRs}:∀(Z:List (M×XC)){k:Option β},R8 R Z k=some out->k=some out/\∀(r v i j:Nat) (t:Ty) (ws:List t.den),(M.io,XC.rf r v [(i,j)] 0 t ws)∈Z->∃(T:Ty) (xs:List T.den) (o:List t.den),lk R r=some (v,.tr T xs)/\Am T.n (xs.map (Ad T)) [(i,j)]=some (t.n,o.map (Ad t))/\o.length=ws.length
 | [],k,h=>⟨h,by simp⟩
 | (m,c)::Z,k,h=>by
  have skip:R8 R Z k=some out->(∀(r v i j:Nat) (t:Ty) (ws:List t.den),¬((m,c)=(M.io,XC.rf r v [(i,j)] 0 t ws)))->k=some out/\∀(r v i j:Nat) (t:Ty) (ws:List t.den),(M.io,XC.rf r v [(i,j)] 0 t ws)∈(m,c)::Z->∃(T:Ty) (xs:List T.den) (o:List t.den),lk R r=some (v,.tr T xs)/\Am T.n (xs.map (Ad T)) [(i,j)]=some (t.n,o.map (Ad t))/\o.length=ws.length:=by
   intro h hne;obtain⟨a,b⟩:=Zn2 Z h;exact⟨a,fun r v i j t ws hm=>b r v i j t ws ((Kh.1 hm).resolve_left fun e=>hne r v i j t ws e.symm)⟩
  simp only[R8]at h;cases m with
  | io =>
   simp only at h;split at h
   ·rename_i r v i j t ws;split at h
    ·rename_i v' T xs hl;split at h
     ·rename_i hb;have hb:=Km hb;subst hb;obtain⟨e,he,h⟩:=F0 h;obtain⟨o,h,ho⟩:=Zi2 T j t e _ h;obtain⟨hn,h⟩:=C5 h;simp only[nEq,decide_eq_true_eq]at hn;obtain⟨a,b⟩:=Zn2 Z h;refine⟨a,fun r2 v2 i2 j2 t2 ws2 hm=>?_⟩;rcases Kh.1 hm with e'|hm
      ·simp only[Kb,XC.rf.injEq,true_and,List.cons.injEq,and_true]at e';obtain⟨rfl,rfl,⟨rfl,rfl⟩,rfl,e5⟩:=e';have e5:=eq_of_heq e5;subst e5;refine⟨T,xs,o,hl, ?_,hn⟩;simp only[Am,Kaa];have he':xs[i2]? = some e:=by simpa [idx] using he
       rw[he'];simp only[Kia,Kqa,ho]
      ·exact b r2 v2 i2 j2 t2 ws2 hm
     ·simp at h
    ·simp at h
   ·rename_i hne;exact skip h fun r v i j t ws e=>by
     simp only[Kb,true_and]at e;exact hne r v i j t ws e
  | rd=>exact skip h fun r v i j t ws e=>by simp at e
  | rx=>exact skip h fun r v i j t ws e=>by simp at e
  | ow=>exact skip h fun r v i j t ws e=>by simp at e
theorem Zjz {R:XRs}:∀(W:List (M×XC×D)) (io:List Nat),(∀w∈W,CD R w.2.1 w.2.2)->ioZ R (W.map fun w=>(w.1,w.2.1))=some io->Bg (W.map (toV R))=io
 | [],io,_,h=>by simp only[Ksb,ioZ,Ka]at h;subst h;rfl
 | (m,c,d)::W,io,hc,h=>by
  have ih:=fun io h=>Zjz W io (fun w hw=>hc w (Kl _ hw)) h;have hcd:=hc _ Kn;simp only at hcd;simp only[Kc,ioZ]at h;cases m with
  | io =>
   simp only at h;split at h
   ·rename_i r;split at h
    ·rename_i s t xs ids hl hi;simp only[Ka]at h;subst h;have hd:=Zph hl hcd;subst hd;simp only[Kc,toV,cC,hl,Bg,ih ids hi]
    ·simp at h
   ·rename_i r v i j t ws;split at h
    ·rename_i s T xs ids hl hi;simp only[Ka]at h;subst h;obtain⟨e1,t1,ws1,rfl⟩:=Zvp hcd;simp only[Kc,toV,e1,Bg,ih ids hi]
    ·simp at h
   ·rename_i n;rcases hcd with ⟨v,h1,_⟩|⟨n',h1,rfl⟩|⟨t,ws,r,p,lo,l,h1,_⟩
    ·simp [cC]at h1
    ·simp only[Kc,toV,cC,Bg];exact ih io h
    ·simp [cC]at h1
   ·split at h
    ·rename_i hlf;obtain⟨v,h1,rfl⟩:=Zto hlf hcd;simp only[Kc,toV,h1,Bg];exact ih io h
    ·simp at h
  | rd=>simp only[Kc,toV,Bg];exact ih io h
  | rx=>simp only[Kc,toV,Bg];exact ih io h
  | ow=>simp only[Kc,toV,Bg];exact ih io h
theorem Ynz {R:XRs}{c:XC}{r:Nat}{p:Af}{s lo n:Nat}(h:cC R c=.rf r p s lo n):r∈Lt c:=by
 cases c with
 | rw q=>simp only[cC]at h;split at h<;>simp at h<;>simp [Lt,h.1]
 | rv q _ _=>simp only[cC]at h;split at h<;>simp at h<;>simp [Lt,h.1]
 | rf q v p' lo' t ws=>simp only[cC]at h;split at h<;>simp at h;simp [Lt,h.1]
 | pe _ _ _ _ _ _ _=>simp only[cC]at h;split at h<;>simp at h
 | pb _ _=>simp only[cC]at h;split at h<;>simp at h
 | _=>simp [cC]at h
theorem Yf:∀{Z:List (M×XC)}{m:M}{c:XC}{r:Nat},(m,c)∈Z->m=.rd\/m=.rx->r∈Lt c->r∈rdZ Z
 | [],m,c,r,h,_,_=>by simp at h
 | (m',c')::Z,m,c,r,h,hm,hr=>by
  rcases Kh.1 h with e|h'
  ·simp only[Kb]at e;obtain⟨rfl,rfl⟩:=e;rcases hm with rfl|rfl<;>(simp only[rdZ];exact Kud _ hr)
  ·cases m' with
   | rd=>simp only[rdZ];exact Kdc _ (Yf h' hm hr)
   | rx=>simp only[rdZ];exact Kdc _ (Yf h' hm hr)
   | ow=>simp only[rdZ];exact Yf h' hm hr
   | io=>simp only[rdZ];exact Yf h' hm hr
theorem O9 {R:XRs}:∀{Z:List (M×XC)}{io:List Nat}{c:XC},ioZ R Z=some io->(M.io,c)∈Z->(∃r s t xs,c=.rw r/\lk R r=some (s,.tr t xs)/\r∈io)\/((∃n,c=.nl n)\/I0 c=true)\/∃r v i j t ws s T xs,c=.rf r v [(i,j)] 0 t ws/\lk R r=some (s,.tr T xs)/\r∈io
 | [],io,c,_,hc=>by simp at hc
 | (m,c')::Z,io,c,h,hc=>by
  simp only[ioZ]at h;cases m with
  | io =>
   simp only at h;split at h
   ·rename_i r;split at h
    ·rename_i s t xs ids hl hi;simp only[Ka]at h;subst h;rcases Kh.1 hc with e|hc
     ·simp only[Kb,true_and]at e;subst e;exact .inl ⟨r,s,t,xs,rfl,hl,Kn⟩
     ·rcases O9 hi hc with ⟨r',s',t',xs',a,b,d⟩|h|h
      ·exact .inl ⟨r',s',t',xs',a,b,Kl _ d⟩
      ·exact .inr (.inl h)
      ·obtain⟨a1,a2,a3,a4,a5,a6,a7,a8,a9,b1,b2,b3⟩:=h;exact .inr (.inr ⟨a1,a2,a3,a4,a5,a6,a7,a8,a9,b1,b2,Kl _ b3⟩)
    ·simp at h
   ·rename_i r v i j t ws;split at h
    ·rename_i s T xs ids hl hi;simp only[Ka]at h;subst h;rcases Kh.1 hc with e|hc
     ·simp only[Kb,true_and]at e;subst e;exact .inr (.inr ⟨r,v,i,j,t,ws,s,T,xs,rfl,hl,Kn⟩)
     ·rcases O9 hi hc with ⟨r',s',t',xs',a,b,d⟩|h|h
      ·exact .inl ⟨r',s',t',xs',a,b,Kl _ d⟩
      ·exact .inr (.inl h)
      ·obtain⟨a1,a2,a3,a4,a5,a6,a7,a8,a9,b1,b2,b3⟩:=h;exact .inr (.inr ⟨a1,a2,a3,a4,a5,a6,a7,a8,a9,b1,b2,Kl _ b3⟩)
    ·simp at h
   ·rename_i n;rcases Kh.1 hc with e|hc
    ·simp only[Kb,true_and]at e;subst e;exact .inr (.inl (.inl ⟨n,rfl⟩))
    ·exact O9 h hc
   ·split at h
    ·rename_i hlf;rcases Kh.1 hc with e|hc
     ·simp only[Kb,true_and]at e;subst e;exact .inr (.inl (.inr hlf))
     ·exact O9 h hc
    ·simp at h
  | rd=>exact O9 h ((Kh.1 hc).resolve_left (by simp))
  | rx=>exact O9 h ((Kh.1 hc).resolve_left (by simp))
  | ow=>exact O9 h ((Kh.1 hc).resolve_left (by simp))
theorem Ypk (hS:SimX X S){W:List (M×XC×D)}{ow io hb:List Nat}{rt:List (Nat×Root)}(hW:∀w∈W,CD X.roots w.2.1 w.2.2) (hio:ioZ X.roots (W.map fun w=>(w.1,w.2.1))=some io) (hrt:∀r,get rt r=if r∈ow then none else get S.roots r) (hd1:∀r∈io,r ∉ ow) (hd2:∀r∈rdZ (W.map fun w=>(w.1,w.2.1)),r ∉ ow++(io++hb)) (hwh:∀(r v i j:Nat) (t:Ty) (ws:List t.den),(M.io,XC.rf r v [(i,j)] 0 t ws)∈W.map (fun w=>(w.1,w.2.1))->∃(T:Ty) (xs:List T.den) (o:List t.den),lk X.roots r=some (v,.tr T xs)/\Am T.n (xs.map (Ad T)) [(i,j)]=some (t.n,o.map (Ad t))/\o.length=ws.length):∀x∈W.map (toV X.roots),Yt rt (io++hb) x:=by
 intro x hx;obtain⟨⟨m,c,d⟩,hw,rfl⟩:=Kx.1 hx;have hcd:=hW _ hw;simp only at hcd;have hz:(m,c)∈W.map fun w=>(w.1,w.2.1):=Kx.2 ⟨_,hw,rfl⟩;simp only[toV];have rdcase:(m=.rd\/m=.rx)->∀{t:Ty} {ws:List t.den} {r:Nat} {p:Af} {lo:Nat} {l:List (List D)},cC X.roots c=.rf r p t.n lo ws.length->Ce X.roots r p=some (t.n,l)->lo+ws.length<=l.length->(l.drop lo).take ws.length=ws.map (Ad t)->(lo=0\/0<ws.length) ->
   t.n=t.n/\(lo=0\/0<ws.length)/\r ∉ io++hb/\∃l,C3 rt r p=some (t.n,l)/\lo+ws.length<=l.length/\ws.map (Ad t)=(l.drop lo).take ws.length:=by
  intro hm t ws r p lo l h1 h2 h3 h4 h5;have hr:=hd2 r (Yf hz hm (Ynz h1));rw[Kda,not_or]at hr;refine⟨rfl,h5,hr.2,l, ?_,h3,h4.symm⟩;have:=Uh hS h2;unfold C3 at this ⊢;rw[hrt r,if_neg hr.1];exact this
 rcases hcd with ⟨v,h1,rfl⟩|⟨n,rfl,rfl⟩|⟨t,ws,r,p,lo,l,h1,h2,h3,h4,rfl,h6⟩
 ·cases m<;>first|trivial|exact h1
 ·cases m<;>first|trivial|exact⟨rfl,rfl⟩
 ·cases m with
  | ow=>trivial
  | rd=>rw[h1];exact rdcase (.inl rfl) h1 h2 h3 h4 h6
  | rx=>rw[h1];exact rdcase (.inr rfl) h1 h2 h3 h4 h6
  | io =>
   rcases O9 hio hz with ⟨r',s,t',xs,rfl,hl,hin⟩|(⟨n,rfl⟩|hlf)|⟨r',v,i,j,t',ws',s,T,xs,rfl,hl,hin⟩
   ·simp only[cC,hl,C.rf.injEq]at h1;obtain⟨rfl,rfl,e3,rfl,e5⟩:=h1;obtain⟨y',y1,y2⟩:=hS.roots r' s _ hl _ rfl;have hg:get S.roots r'=some (.tr t'.n (xs.map (Ad t'))):=by
     cases y' with
     | tr _ _=>obtain⟨rfl,rfl⟩:=y2;exact y1
     | _=>exact y2.elim
    simp only[Ce,hl,Am,Ka,Kb]at h2;obtain⟨e6,rfl⟩:=h2;rw[Kha,<-e5,Kob (by simp)]at h4;simp only[cC,hl];refine⟨e3,rfl,by rw[Ko,e5],t'.n,xs.map (Ad t'),by rw[hrt r',if_neg (hd1 r' hin)];exact hg, ?_⟩;simp only[Am,Ka,Kb];exact⟨e3,h4⟩
   ·simp [cC]at h1
   ·exfalso;cases c<;>simp [I0]at hlf<;>simp [cC]at h1
   ·obtain⟨T',xs',o,w1,w2,w3⟩:=hwh _ _ _ _ _ _ hz;have hv:B9 X.roots r' v=true:=K2 w1;simp only[cC,hv,C.rf.injEq]at h1;obtain⟨rfl,rfl,e3,rfl,e5⟩:=h1;obtain⟨y',y1,y2⟩:=hS.roots r' _ _ w1 _ rfl;have hg:get S.roots r'=some (.tr T'.n (xs'.map (Ad T'))):=by
     cases y' with
     | tr _ _=>obtain⟨rfl,rfl⟩:=y2;exact y1
     | _=>exact y2.elim
    simp only[Ce,w1,w2,Ka,Kb]at h2;obtain⟨e6,rfl⟩:=h2;rw[Kha,<-e5,<-w3,Kob (by simp)]at h4;simp only[cC,hv];refine⟨e3,rfl,by rw[Ko,e5],T'.n,xs'.map (Ad T'),by rw[hrt r',if_neg (hd1 r' hin)];exact hg, ?_⟩;rw[w2,e3,h4]
end
end Go.Vs
namespace Go.Vs
variable [Glb]
section
variable {β:Type} {X:XSt} {S:St} {out:β} {P:Program}
theorem Zwy {E:List (Nat×V)}{R:List (Nat×Root)}{n f r s:Nat}{t:Ty}{xs xs':List t.den}(hX:XOk X) (hS:SimX X ⟨E,R,n,f⟩) (hl:lk X.roots r=some (s,.tr t xs)) (hn:xs'.length=xs.length) :
  XOk (X.setR r (.tr t xs'))/\Ext X (X.setR r (.tr t xs'))/\SimX (X.setR r (.tr t xs')) ⟨E,put R r (.tr t.n (xs'.map (Ad t))),n,f⟩:=by
 obtain⟨a,b⟩:=K5 hX (x:=.tr t xs') (Kd _) (hX.ids r s _ hl).1 (fun cs h=>by simp at h);refine⟨a,b, ?_⟩;have key:∀c',okC X.roots X.next X.stamp c'->cC ((r,X.stamp,.tr t xs')::X.roots) c'=.un\/cC ((r,X.stamp,.tr t xs')::X.roots) c'=A8 [] (cC X.roots c'):=fun c' hc=>Jm (.inr (.inr (.inr ⟨t,xs',xs,s,rfl,hl,hn⟩))) hc;have e:=hS.next;simp only at e;subst e;refine Nl (X':=X.setR r (.tr t xs')) (ks:=[]) (roots:=put R r (.tr t.n (xs'.map (Ad t)))) hX hS rfl rfl key ?_;intro q s' z hq;simp only[XSt.setR]at hq;rw[Ba]at hq;split at hq
 ·rename_i e;simp only at e;subst e;simp only[Ka,Kb]at hq;obtain⟨_,rfl⟩:=hq;right;intro y hy;simp only[cRt,Ka]at hy;subst hy;exact⟨.tr t.n (xs'.map (Ad t)),by rw[Aw,if_pos rfl],rfl,rfl⟩
 ·rename_i e;left;exact⟨hq,by rw[J1,Aw,if_neg e]⟩
def Gh (X X':XSt) (R R':List (Nat×Root)):Prop:=∀r s x,lk X'.roots r=some (s,x)->s<X.stamp->get R' r=get R r
theorem Gh.refl (X:XSt) (R:List (Nat×Root)):Gh X X R R:=fun _ _ _ _ _=>rfl
theorem Gh.trans {X Y Z:XSt}{R R' R2:List (Nat×Root)}(h1:Gh X Y R R') (h2:Gh Y Z R' R2) (e1:Ext X Y) (e2:Ext Y Z):Gh X Z R R2:=fun r s x hl hs=>by
 have hs':=Kfa hs e1.stamp;rw[h2 r s x hl hs'];exact h1 r s x (e2.roots r s x hl hs') hs
theorem Zwq {r:Nat}{x:XR}{R:List (Nat×Root)}{y:Root}:Gh X (X.setR r x) R (put R r y):=by
 intro q s z hq hs;simp only[XSt.setR]at hq;rw[Ba]at hq;split at hq
 ·simp only[Ka,Kb]at hq;omega
 ·rename_i e;rw[Aw,if_neg e]
theorem Xs {X0:XSt}:∀(W:List (M×XC×D)) (vs:List Sg){X:XSt}{E:List (Nat×V)}{R:List (Nat×Root)}{n f:Nat}(io:List Nat) (k:XSt->Option β),XOk X->SimX X ⟨E,R,n,f⟩->(∀w∈W,CD X0.roots w.2.1 w.2.2)->ioZ X0.roots (W.map fun w=>(w.1,w.2.1))=some io->ioX (W.map fun w=>(w.1,w.2.1)) vs X k=some out ->
  ∃X' R',k X'=some out/\XOk X'/\Ext X X'/\SimX X' ⟨E,R',n,f⟩/\Br R (W.map (toV X0.roots)) (vs.map ioG)=some R'/\Gh X X' R R'/\X'.env=X.env
 | [],vs,X,E,R,n,f,io,k,hX,hS,hW,hio,h=>by
  cases vs with
  | nil=>simp only[Ksb,ioX]at h;exact⟨X,R,h,hX,Ext.refl X,hS,rfl,Gh.refl X R,rfl⟩
  | cons v vs=>simp [ioX]at h
 | (m,c,d)::W,vs,X,E,R,n,f,io,k,hX,hS,hW,hio,h=>by
  have hcd:=hW _ Kn;have hW':=fun w hw=>hW w (Kl _ hw);simp only at hcd;simp only[Kc,ioZ]at hio;simp only[Kc,ioX]at h;have plain:∀(io':List Nat),ioZ X0.roots (W.map fun w=>(w.1,w.2.1))=some io'->ioX (W.map fun w=>(w.1,w.2.1)) vs X k=some out->(∀o,Br R (toV X0.roots (m,c,d)::W.map (toV X0.roots)) o=Br R (W.map (toV X0.roots)) o) ->
    ∃X' R',k X'=some out/\XOk X'/\Ext X X'/\SimX X' ⟨E,R',n,f⟩/\Br R (((m,c,d)::W).map (toV X0.roots)) (vs.map ioG)=some R'/\Gh X X' R R'/\X'.env=X.env:=by
   intro io' h1 h2 h3;obtain⟨X',R',q1,q2,q3,q4,q5,q6,q7⟩:=Xs W vs io' k hX hS hW' h1 h2;exact⟨X',R',q1,q2,q3,q4,by rw[Kc,h3];exact q5,q6,q7⟩
  cases m with
  | rd=>exact plain io hio h fun o=>by cases o<;>simp only[toV,Br]
  | rx=>exact plain io hio h fun o=>by cases o<;>simp only[toV,Br]
  | ow=>exact plain io hio h fun o=>by cases o<;>simp only[toV,Br]
  | io =>
   simp only at hio h;split at h
   ·rename_i r;simp only at hio;split at hio
    ·rename_i s0 t0 xs0 ids hl0 hi0;simp only[Ka]at hio;subst hio;split at h
     ·rename_i t' ys vs';split at h
      ·rename_i s t xs hl;obtain⟨xs',h,rfl,g3,g4⟩:=S9 h;obtain⟨hn,h⟩:=C5 h;simp only[nEq,decide_eq_true_eq]at hn;obtain⟨a,b,c'⟩:=Zwy (xs':=xs') hX hS hl hn;obtain⟨X',R',q1,q2,q3,q4,q5,q6,q7⟩:=Xs W vs' ids k a c' hW' hi0 h;have hd:=Zph hl0 hcd;subst hd;obtain⟨y',y1,y2⟩:=hS.roots r s _ hl _ rfl;have hg:get R r=some (.tr t'.n (xs.map (Ad t'))):=by
        cases y' with
        | tr _ _=>obtain⟨rfl,rfl⟩:=y2;exact y1
        | _=>exact y2.elim
       refine⟨X',R',q1,q2,b.trans q3,q4, ?_,Zwq.trans q6 b q3,q7⟩;simp only[Kc,toV,cC,hl0,ioG,Br,hg,Dg,g3];exact q5
      ·simp at h
     ·simp at h
    ·simp at hio
   ·rename_i r v i j t0 ws;simp only at hio;split at hio
    ·rename_i s0 T0 xs0 ids hl0 hi0;simp only[Ka]at hio;subst hio;split at h
     ·rename_i t' ys vs';split at h
      ·rename_i s T xs hl;obtain⟨xs',h,rfl,g3,g4⟩:=S9 h;obtain⟨hn,h⟩:=C5 h;obtain⟨e,he,h⟩:=F0 h;obtain⟨e',o,h,u1,u2⟩:=Zmi T j t' xs' e _ h;obtain⟨a,b,c'⟩:=Zwy (xs':=Ap xs i e') hX hS hl (by simp [Ap]);obtain⟨X',R',q1,q2,q3,q4,q5,q6,q7⟩:=Xs W vs' ids k a c' hW' hi0 h;obtain⟨e1,t1,ws1,rfl⟩:=Zvp hcd;obtain⟨y',y1,y2⟩:=hS.roots r s _ hl _ rfl;have hg:get R r=some (.tr T.n (xs.map (Ad T))):=by
        cases y' with
        | tr _ _=>obtain⟨rfl,rfl⟩:=y2;exact y1
        | _=>exact y2.elim
       refine⟨X',R',q1,q2,b.trans q3,q4, ?_,Zwq.trans q6 b q3,q7⟩;have he':xs[i]? = some e:=by simpa [idx] using he
       have hup:Dg (xs.map (Ad T)) [(i,j)] (fun _=>ys.map (Ad t'))=(Ap xs i e').map (Ad T):=by
        simp only[Dg,Kaa,he',Kia,u2,Ap,Kvd,u1,g3]
       simp only[Kc,toV,e1,ioG,Br,hg,hup];exact q5
      ·simp at h
     ·simp at h
    ·simp at hio
   ·rename_i nn;simp only at hio;split at h
    ·rename_i v vs';obtain⟨X',R',q1,q2,q3,q4,q5,q6,q7⟩:=Xs W vs' io k hX hS hW' hio h;refine⟨X',R',q1,q2,q3,q4, ?_,q6,q7⟩;rcases hcd with ⟨v',h1,_⟩|⟨n',h1,rfl⟩|⟨t,ws,r,p,lo,l,h1,_⟩
     ·simp [cC]at h1
     ·simp only[Kc,toV,cC,Br];exact q5
     ·simp [cC]at h1
    ·simp at h
   ·rename_i h1 h2 h3;split at hio
    ·exact (h1 _ rfl).elim
    ·exact (h2 _ _ _ _ _ _ rfl).elim
    ·exact (h3 _ rfl).elim
    ·split at hio
     ·rename_i hlf;obtain⟨v,h1,rfl⟩:=Zto hlf hcd;exact plain io hio h fun o=>by cases o<;>simp only[toV,h1,Br]
     ·simp at hio
theorem Ypm {E:List (Nat×V)}{A R:List (Nat×Root)}{n f r s:Nat}{es es':List (Nat×XC)}{bs':List C}(hX:XOk X) (hS:SimX X ⟨E,A++R,n,f⟩) (hA:get A r=none) (hl:lk X.roots r=some (s,.bx es)) (hc:∀(c:Nat) (e:Nat×XC),es'[c]? = some e->(e.1=X.stamp\/es[c]? = some e)/\okC X.roots X.next X.stamp e.2) (hw:Aa WkC bs' (es'.map fun e=>cC X.roots e.2)) :
  XOk (X.setR r (.bx es'))/\Ext X (X.setR r (.bx es'))/\SimX (X.setR r (.bx es')) ⟨E,A++put R r (.bx bs'),n,f⟩/\Gh X (X.setR r (.bx es')) (A++R) (A++put R r (.bx bs')):=by
 obtain⟨a,b⟩:=K5 hX (x:=.bx es') (Kd _) (hX.ids r s _ hl).1 (by
  intro cs h c e he;simp only[XR.bx.injEq]at h;subst h;obtain⟨h1,h2⟩:=hc c e he;exact⟨h1.imp id fun h=>⟨s,es,hl,h⟩,h2⟩)
 have key:∀c',okC X.roots X.next X.stamp c'->cC ((r,X.stamp,.bx es')::X.roots) c'=.un\/cC ((r,X.stamp,.bx es')::X.roots) c'=A8 [] (cC X.roots c'):=fun c' hc=>Jm (.inr (.inr (.inl ⟨_,_,_,rfl,hl⟩))) hc;have e:=hS.next;simp only at e;subst e;have hgo:∀q,r≠q->get (A++put R r (.bx bs')) q=get (A++R) q:=by
  intro q hq;rw[Dn,Dn,Aw,if_neg hq]
 refine⟨a,b, ?_, ?_⟩
 ·refine Nl (X':=X.setR r (.bx es')) (ks:=[]) (roots:=A++put R r (.bx bs')) hX hS rfl rfl key ?_;intro q s' z hq;simp only[XSt.setR]at hq;rw[Ba]at hq;split at hq
  ·rename_i e;simp only at e;subst e;simp only[Ka,Kb]at hq;obtain⟨_,rfl⟩:=hq;right;intro y hy;simp only[cRt,Ka]at hy;subst hy;refine⟨.bx bs',by rw[Dn,hA,Aw,if_pos rfl], ?_⟩;have w0:Aa WkC bs' ((es'.map (·.2)).map (cC X.roots)):=by rw[Kpb];exact hw
   have w1:=Vc (ks:=[]) key (fun c hc'=>by
    obtain⟨e,he,rfl⟩:=Kx.1 hc';obtain⟨i,hi⟩:=Kgc he;exact (hc i e hi).2) w0
   have e3:bs'.map (A8 [])=bs':=by
    have:A8 []=fun c=>c:=by funext c;rfl
    rw[this];simp
   rw[e3,Kpb]at w1;exact w1
  ·rename_i e;left;exact⟨hq,by rw[J1];exact hgo q e⟩
 ·intro q s' z hq hs;simp only[XSt.setR]at hq;rw[Ba]at hq;split at hq
  ·simp only[Ka,Kb]at hq;omega
  ·rename_i e;exact hgo q e
theorem Zdt:∀{t:Ty}{x:t.den}{j:Nat}{d:D}{ty:Ty}{m:M},Ln t=true->(Ad t x)[j]? = some d->(cts t)[j]? = some ty->D0 (m,d)=(match m,Lg ty with|.rx,true=>true|_,_=>false)
 | .I _,x,0,d,ty,m,hn,h,ht=>by simp [Ad,cts]at h ht;subst h ht;cases m<;>rfl
 | .Y,x,0,d,ty,m,hn,h,ht=>by simp [Ad,cts]at h ht;subst h ht;cases m<;>rfl
 | .B,x,0,d,ty,m,hn,h,ht=>by simp [Ad,cts]at h ht;subst h ht;cases m<;>rfl
 | .S,x,0,d,ty,m,hn,h,ht=>by simp [Ad,cts]at h ht;subst h ht;cases m<;>rfl
 | .L _,x,0,d,ty,m,hn,h,ht=>by simp [Ad,cts]at h ht;subst h ht;cases m<;>rfl
 | .I _,x,j+1,d,ty,m,hn,h,ht=>by simp [Ad]at h
 | .Y,x,j+1,d,ty,m,hn,h,ht=>by simp [Ad]at h
 | .B,x,j+1,d,ty,m,hn,h,ht=>by simp [Ad]at h
 | .S,x,j+1,d,ty,m,hn,h,ht=>by simp [Ad]at h
 | .L _,x,j+1,d,ty,m,hn,h,ht=>by simp [Ad]at h
 | .H _,x,j,d,ty,m,hn,h,ht=>by simp [Ln]at hn
 | .P a b,x,j,d,ty,m,hn,h,ht=>by
  have hn1:Ln a=true:=by
   simp only[Ln]at hn;split at hn
   ·assumption
   ·cases hn
  have hn2:Ln b=true:=by
   simp only[Ln,hn1]at hn;exact hn
  simp only[Ad,cts,Ws]at h ht;by_cases hj:j<a.n
  ·rw[Ksa (by rw[Bm];exact hj)]at h;rw[Ksa (by rw[Qr];exact hj)]at ht;exact Zdt hn1 h ht
  ·rw[Kga (by rw[Bm];omega),Bm]at h;rw[Kga (by rw[Qr];omega),Qr]at ht;exact Zdt hn2 h ht
theorem Zd1 {R:XRs}{nx st:Nat}:∀(ms:List M) (ts:List Ty) (ds:List D) (es:List (Nat×XC)) (bs:List C) (ys:List XC) (us:List C),(∀(j:Nat) (m:M) (d:D) (ty:Ty),ms[j]? = some m->ds[j]? = some d->ts[j]? = some ty->D0 (m,d)=(match m,Lg ty with|.rx,true=>true|_,_=>false))->ms.length=ds.length->ds.length=ts.length->es.length=ds.length ->
  Aa WkC bs (es.map fun e=>cC R e.2)->Aa WkC us (ys.map (cC R))->(∀e∈es,okC R nx st e.2)->(∀y∈ys,okC R nx st y) ->
  Aa WkC (Hd (ms.zip ds) bs us) ((Dr st ms ts es ys).map fun e=>cC R e.2)/\(Dr st ms ts es ys).length=ms.length/\∀(j:Nat) (e:Nat×XC),(Dr st ms ts es ys)[j]? = some e->(e.1=st\/es[j]? = some e)/\okC R nx st e.2
 | [],[],[],[],[],ys,us,_,_,_,_,_,_,_,_=>⟨trivial,rfl,by simp [Dr]⟩
 | m::ms,t::ts,d::ds,e::es,b::bs,ys,us,hr,h1,h2,h3,hb,hu,ho,hy=>by
  simp only[Kg,Kqe]at h1 h2 h3;have hr0:=hr 0 m d t rfl rfl rfl;have hr':∀(j:Nat) (m:M) (d:D) (ty:Ty),ms[j]? = some m->ds[j]? = some d->ts[j]? = some ty->D0 (m,d)=(match m,Lg ty with|.rx,true=>true|_,_=>false):=fun j m d ty a b c=>hr (j+1) m d ty (by simpa using a) (by simpa using b) (by simpa using c);have ho':=fun e he=>ho e (Kl _ he);have old:D0 (m,d)=true->Aa WkC (Hd ((m::ms).zip (d::ds)) (b::bs) us) (((e::Dr st ms ts es ys)).map fun e=>cC R e.2)/\(e::Dr st ms ts es ys).length=(m::ms).length/\∀(j:Nat) (e':Nat×XC),(e::Dr st ms ts es ys)[j]? = some e'->(e'.1=st\/(e::es)[j]? = some e')/\okC R nx st e'.2:=by
   intro hx;obtain⟨q1,q2,q3⟩:=Zd1 ms ts ds es bs ys us hr' h1 h2 h3 hb.2 hu ho' hy;refine⟨?_,by simp [q2], ?_⟩
   ·simp only[Kcc,Hd,hx,if_true,Kc];exact⟨hb.1,q1⟩
   ·intro j e' he;cases j with
    | zero=>simp only[Ku,Ka]at he;subst he;exact⟨.inr rfl,ho _ Kn⟩
    | succ j=>simpa using q3 j e' (by simpa using he)
  have new:D0 (m,d)=false->Aa WkC (Hd ((m::ms).zip (d::ds)) (b::bs) us) ((match ys with|y::ys=>(st,y)::Dr st ms ts es ys|[]=>e::Dr st ms ts es []:List (Nat×XC)).map fun e=>cC R e.2)/\(match ys with|y::ys=>(st,y)::Dr st ms ts es ys|[]=>e::Dr st ms ts es []).length=(m::ms).length/\∀(j:Nat) (e':Nat×XC),(match ys with|y::ys=>(st,y)::Dr st ms ts es ys|[]=>e::Dr st ms ts es [])[j]? = some e'->(e'.1=st\/(e::es)[j]? = some e')/\okC R nx st e'.2:=by
   intro hx;cases ys with
   | nil =>
    cases us with
    | cons u us=>exact hu.elim
    | nil =>
     obtain⟨q1,q2,q3⟩:=Zd1 ms ts ds es bs [] [] hr' h1 h2 h3 hb.2 trivial ho' (by simp);refine⟨?_,by simp [q2], ?_⟩
     ·simp only[Kcc,Hd,hx,Kja,if_false,Kc];exact⟨hb.1,q1⟩
     ·intro j e' he;cases j with
      | zero=>simp only[Ku,Ka]at he;subst he;exact⟨.inr rfl,ho _ Kn⟩
      | succ j=>simpa using q3 j e' (by simpa using he)
   | cons y ys =>
    cases us with
    | nil=>exact hu.elim
    | cons u us =>
     obtain⟨q1,q2,q3⟩:=Zd1 ms ts ds es bs ys us hr' h1 h2 h3 hb.2 hu.2 ho' (fun z hz=>hy z (Kl _ hz));refine⟨?_,by simp [q2], ?_⟩
     ·simp only[Kcc,Hd,hx,Kja,if_false,Kc];exact⟨hu.1,q1⟩
     ·intro j e' he;cases j with
      | zero=>simp only[Ku,Ka]at he;subst he;exact⟨.inl rfl,hy _ Kn⟩
      | succ j=>simpa using q3 j e' (by simpa using he)
  cases m with
  | rx =>
   cases hT:Lg t with
   | true =>
    simp only[hT]at hr0;simp only[Dr,hT];exact old hr0
   | false =>
    simp only[hT]at hr0;simp only[Dr,hT];exact new hr0
  | _=>simp only[Dr];exact new hr0
 | [],_::_,ds,_,_,_,_,_,h1,h2,_,_,_,_,_=>by rw[<-h1]at h2;simp at h2
 | _::_,[],ds,_,_,_,_,_,h1,h2,_,_,_,_,_=>by rw[Ki]at h2;rw[h2]at h1;simp at h1
 | [],[],_::_,_,_,_,_,_,h1,_,_,_,_,_,_=>by simp at h1
 | _::_,_::_,[],_,_,_,_,_,h1,_,_,_,_,_,_=>by simp at h1
 | [],[],[],_::_,_,_,_,_,_,_,h3,_,_,_,_=>by simp at h3
 | _::_,_::_,_::_,[],_,_,_,_,_,_,h3,_,_,_,_=>by simp at h3
 | [],[],[],[],_::_,_,_,_,_,_,_,hb,_,_,_=>hb.elim
 | _::_,_::_,_::_,_::_,[],_,_,_,_,_,_,hb,_,_,_=>hb.elim
end
end Go.Vs
