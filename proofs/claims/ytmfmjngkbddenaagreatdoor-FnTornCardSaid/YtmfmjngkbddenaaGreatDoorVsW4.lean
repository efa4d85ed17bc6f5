import Derived.Test.YtmfmjngkbddenaaGreatDoorVsW3
set_option linter.all false
namespace Go.Vs
variable [Glb]
section
variable {β:Type} {X:XSt} {S:St} {out:β}
theorem Zj4 {α β:Type}{R:α->β->Prop}:∀{as as':List α}{bs:List β},Ab R (as++as') bs->Ab R as (bs.take as.length)/\Ab R as' (bs.drop as.length)
 | [],as',bs,h=>⟨by simp [Ab],by simpa using h⟩
 | a::as,as',b::bs,h=>by
  obtain⟨h1,h2⟩:=Zj4 (as:=as) h.2;exact⟨⟨h.1,h1⟩,h2⟩
 | _::_,_,[],h=>h.elim
theorem Zs2 {R:XRs}{c:XC}{d d':D}(h:CD R c d) (h':CD R c d'):d=d':=by
 rcases h with ⟨v,h1,rfl⟩|⟨n,rfl,rfl⟩|⟨t,ws,r,p,lo,l,h1,h2,h3,h4,rfl,h6⟩
 ·rcases h' with ⟨v',g1,rfl⟩|⟨n',rfl,rfl⟩|⟨t',ws',r',p',lo',l',g1,g2,g3,g4,rfl,g6⟩
  ·rw[h1]at g1;simp only[C.lf.injEq]at g1;rw[g1]
  ·simp [cC]at h1
  rw[h1]at g1;simp at g1
 ·rcases h' with ⟨v',g1,rfl⟩|⟨n',g1,rfl⟩|⟨t',ws',r',p',lo',l',g1,g2,g3,g4,rfl,g6⟩
  ·simp [cC]at g1
  ·simp only[XC.nl.injEq]at g1;rw[g1]
  simp [cC]at g1
 rcases h' with ⟨v',g1,rfl⟩|⟨n',rfl,rfl⟩|⟨t',ws',r',p',lo',l',g1,g2,g3,g4,rfl,g6⟩
 ·rw[h1]at g1;simp at g1
 ·simp [cC]at h1
 rw[h1]at g1;simp only[C.rf.injEq]at g1;obtain⟨rfl,rfl,e3,rfl,e5⟩:=g1;rw[h2]at g2;simp only[Ka,Kb]at g2;obtain⟨_,rfl⟩:=g2;rw[<-h4,<-g4,e3,e5]
theorem Zkr {R:XRs}:∀{cs:List XC}{ds ds':List D},Ab (CD R) cs ds->Ab (CD R) cs ds'->ds=ds'
 | [],[],[],_,_=>rfl
 | c::cs,d::ds,d'::ds',h,h'=>by rw[Zs2 h.1 h'.1,Zkr h.2 h'.2]
 | [],_::_,_,h,_=>h.elim
 | [],_,_::_,_,h=>h.elim
 | _::_,[],_,h,_=>h.elim
 | _::_,_,[],_,h=>h.elim
theorem Zey {R:XRs}{r v:Nat}{p:Af}{i sz:Nat}{l:List (List D)}{e:List D}(hv:Cn R r v=true) (hn:Ct R r p=some (sz,l)) (hi:l[i]? = some e):∀(t:Ty) (x:t.den) (c j:Nat) (y:XC) (d:D),((hsL t x)[j]?).getD true=true->(Cl r v p i t x c)[j]? = some y->(Ae t x)[j]? = some d->(∀(j:Nat) (d:D),(Ae t x)[j]? = some d->e[c+j]? = some d)->CD R y d
 | .I _,_,_,0,_,_,_,hy,hd,_=>by
  simp only[Cl,Ae,Kv,Ka]at hy hd;subst hy hd;exact .inl ⟨_,rfl,rfl⟩
 | .Y,_,_,0,_,_,_,hy,hd,_=>by
  simp only[Cl,Ae,Kv,Ka]at hy hd;subst hy hd;exact .inl ⟨_,rfl,rfl⟩
 | .B,_,_,0,_,_,_,hy,hd,_=>by
  simp only[Cl,Ae,Kv,Ka]at hy hd;subst hy hd;exact .inl ⟨_,rfl,rfl⟩
 | .S,_,_,0,_,_,_,hy,hd,_=>by
  simp only[Cl,Ae,Kv,Ka]at hy hd;subst hy hd;exact .inl ⟨_,rfl,rfl⟩
 | .L t,xs,c,0,_,_,_,hy,hd,he=>by
  simp only[Cl,Ae,Kv,Ka]at hy hd;subst hy hd;have h3:=Zat hn i c;simp only[hi,Kra]at h3;rw[show e[c]? = some (.sl t.n (xs.map (Ae t))) from he 0 _ rfl]at h3;exact .inr (.inr ⟨t,xs,r,p++[(i,c)],0,_,by simp [cC,hv],h3,by simp,by rw[Kja,Kib (by simp)],rfl,.inl rfl⟩)
 | .H t,none,c,0,_,_,h,_,_,_=>by simp [hsL,Hl]at h
 | .H t,some xs,c,0,_,_,_,hy,hd,he=>by
  simp only[Cl,Ae,Kv,Ka]at hy hd;subst hy hd;have h3:=Zat hn i c;simp only[hi,Kra]at h3;rw[show e[c]? = some (.sl t.n (xs.map (Ae t))) from he 0 _ rfl]at h3;exact .inr (.inr ⟨t,xs,r,p++[(i,c)],0,_,by simp [cC,hv],h3,by simp,by rw[Kja,Kib (by simp)],rfl,.inl rfl⟩)
 | .I _,_,_,_+1,_,_,_,hy,_,_=>by simp [Cl]at hy
 | .Y,_,_,_+1,_,_,_,hy,_,_=>by simp [Cl]at hy
 | .B,_,_,_+1,_,_,_,hy,_,_=>by simp [Cl]at hy
 | .S,_,_,_+1,_,_,_,hy,_,_=>by simp [Cl]at hy
 | .L _,_,_,_+1,_,_,_,hy,_,_=>by simp [Cl]at hy
 | .H _,_,_,_+1,_,_,_,hy,_,_=>by simp [Cl]at hy
 | .P a b,x,c,j,y,d,h,hy,hd,he=>by
  simp only[Cl,Ae,hsL]at h hy hd;by_cases hj:j<a.n
  ·rw[Ksa (by rw[Qy];exact hj)]at h;rw[Ksa (by rw[J7];exact hj)]at hy;rw[Ksa (by rw[Bu];exact hj)]at hd;refine Zey hv hn hi a x.1 c j y d h hy hd fun k z hz=>he k z ?_;simp only[Ae];rw[Ksa (Kfa.1 hz).1];exact hz
  rw[Kia (by rw[Qy];omega),Qy]at h;rw[Kia (by rw[J7];omega),J7]at hy;rw[Kia (by rw[Bu];omega),Bu]at hd;refine Zey hv hn hi b x.2 _ _ y d h hy hd fun k z hz=>?_;rw[show c+a.n+k=c+(a.n+k) by omega];refine he _ z ?_;simp only[Ae];rw[Kia (by rw[Bu];omega),Bu,Kmg];exact hz
theorem Zj3 {α β:Type}{R:α->β->Prop}:∀{as:List α}{bs:List β},as.length=bs.length->(∀(j:Nat) (a:α) (b:β),as[j]? = some a->bs[j]? = some b->R a b)->Ab R as bs
 | [],[],_,_=>trivial
 | a::as,b::bs,hl,h=>⟨h 0 a b rfl rfl,Zj3 (by simpa using hl) fun j a b ha hb=>h (j+1) a b (by simpa using ha) (by simpa using hb)⟩
 | [],_::_,hl,_=>by simp at hl
 | _::_,[],hl,_=>by simp at hl
theorem Zxf {r:Nat}{Y:XSt}{c':XC}{nx:Nat}{m:List (Nat×Af)}{t:Ty}{xs:List t.den}(hm:U8 r m){X:XSt}(hroot:cC (Y.setR r (.tr t xs)).roots c'=cC X.roots c') (ho:okC Y.roots nx Y.stamp c'):cC (Y.setR r (.tr t xs)).roots c'=.un\/cC (Y.setR r (.tr t xs)).roots c'=A7 m (cC X.roots c'):=by
 have hnv:∀v2,v2<Y.stamp->Cn (Y.setR r (.tr t xs)).roots r v2=false:=by
  intro v2 hv2;simp only[Cn,XSt.setR,Bd,if_true];cases hbb:Nat.beq Y.stamp v2 with
  | false=>rfl
  | true=>have:=Kq hbb;omega
 by_cases hun:cC X.roots c'=.un
 ·left;rw[hroot,hun]
 right;rw[hroot];symm;refine Znq ?_ ?_ hm
 ·intro q p s lo n' hq;cases c' with
  | rw q'=>simp only[cC]at hq;split at hq<;>simp at hq<;>exact .inr (by first|exact hq.2.1|exact hq.2.1.symm)
  | rv q' _ _=>simp only[cC]at hq;split at hq<;>simp at hq<;>exact .inr (by first|exact hq.2.1|exact hq.2.1.symm)
  | rf q' v2 p' lo' t2 ws' =>
   left;intro hqr;simp only[cC]at hq;split at hq
   ·simp only[C.rf.injEq]at hq;have:q'=r:=hq.1.trans hqr;subst this;have:cC (Y.setR q' (.tr t xs)).roots (.rf q' v2 p' lo' t2 ws')=.un:=by simp only[cC,hnv v2 ho.2.1]
    rw[hroot]at this;exact hun this
   simp at hq
  | pe _ _ _ _ _ _ _=>simp only[cC]at hq;split at hq<;>simp at hq
  | pb _ _=>simp only[cC]at hq;split at hq<;>simp at hq
  | _=>simp [cC]at hq
 intro q p i' c2 hq;cases c' with
 | pe q' v2 p' i2 c2' t2 x2 =>
  left;intro hqr;simp only[cC]at hq;split at hq
  ·simp only[C.pe.injEq]at hq;have:q'=r:=hq.1.trans hqr;subst this;have:cC (Y.setR q' (.tr t xs)).roots (.pe q' v2 p' i2 c2' t2 x2)=.un:=by simp only[cC,hnv v2 ho.2.1]
   rw[hroot]at this;exact hun this
  simp at hq
 | rw q'=>simp only[cC]at hq;split at hq<;>simp at hq
 | rv q' _ _=>simp only[cC]at hq;split at hq<;>simp at hq
 | rf _ _ _ _ _ _=>simp only[cC]at hq;split at hq<;>simp at hq
 | pb _ _=>simp only[cC]at hq;split at hq<;>simp at hq
 | _=>simp [cC]at hq
theorem Ze0 {R:XRs}{nx st:Nat}{x:XV}(ho:okV R nx st x){cs:List XC}(hc:H5 x=some cs):∀c∈cs,okC R nx st c:=by
 cases x with
 | a x=>cases x with
  | c x=>simp only[H5,Ka]at hc;subst hc;intro c hc;simp only[Koa]at hc;subst hc;exact ho
  | ag xs=>simp only[H5,Ka]at hc;subst hc;exact ho
 | _=>simp [H5]at hc
theorem Zxt {R:XRs}:∀{ys:List XC},(∀y∈ys,K8 y=true)->Ed R ys=some []
 | [],_=>rfl
 | y::ys,h=>by
  have h0:=h y Kp;have h1:=Zxt (R:=R) (ys:=ys) fun y hy=>h y (Kj _ hy);simp only[Ed,h1];cases y<;>simp [K8]at h0<;>rfl
theorem Zxg {R:XRs}:∀{cs:List XC}{ys:List C},(∀c∈cs,cC R c≠.un)->Ab WkC ys (cs.map (cC R))->ys=cs.map (cC R)
 | [],[],_,_=>rfl
 | c::cs,y::ys,h,hw=>by
  simp only[Ke];rw[<-Zxg (fun c hc=>h c (Kj _ hc)) hw.2,hw.1.eq (h c Kp)]
 | [],_::_,_,h=>h.elim
 | _::_,[],_,h=>h.elim
theorem Yvn (hX:XOk X) (hS:SimX X S){n:Nat}{x v:Opd}{k:XV->XSt->Option β}(h:Zqr X n (X.opd x) (X.opd v) k=some out):Y7 X S (.store n x v) k out:=by
 have hpo:=Ff hX x;have hvo:=Ff hX v;have hnx:S.next=X.next:=hS.next;unfold Zqr at h;split at h
 ·-- a variable
  rename_i r c ys hp hys;rw[hp]at hpo;obtain⟨zs,v1,v2,_⟩:=Zi (G7 hS v) hys;split at h
  ·rename_i s cs hl;split at h
   ·rename_i hb;simp only[Kd]at hb;have hb1:=Kq hb.1;have hb2:=Kea hb.2;obtain⟨bs,g1,g2⟩:=P9 hS hl;have lz:=v2.length;have lb:=g2.length;simp only[Ko]at lz lb;have hcells:=Ze0 hvo hys;obtain⟨a,b⟩:=Mt hX (x:=.bx (cs.take c++(ys.map (fun y=>(X.stamp,y))++cs.drop (c+n)))) (Kc _) hpo (by
     intro cs' e j en hj;simp only[XR.bx.injEq]at e;subst e;have hlt:(cs.take c).length=c:=by simp;omega
     by_cases h1:j<c
     ·rw[Ksa (by omega),Kwa,if_pos h1]at hj;exact⟨.inr ⟨s,cs,hl,hj⟩,(hX.box r s cs hl en (Kaa hj)).2⟩
     ·rw[Kia (by omega),hlt]at hj;by_cases h2:j-c<ys.length
      ·rw[Ksa (by simpa using h2),Kba,Ks]at hj;obtain⟨y,hy,rfl⟩:=hj;exact⟨.inl rfl,hcells y (Kaa hy)⟩
      ·rw[Kia (by simp;omega),Kdb]at hj;simp only[Ko]at hj;rw[show c+n+(j-c-ys.length)=j by omega]at hj;exact⟨.inr ⟨s,cs,hl,hj⟩,(hX.box r s cs hl en (Kaa hj)).2⟩)
    have key:∀c',okC X.roots X.next X.stamp c'->cC ((r,X.stamp,.bx (cs.take c++(ys.map (fun y=>(X.stamp,y))++cs.drop (c+n))))::X.roots) c'=.un\/cC ((r,X.stamp,.bx (cs.take c++(ys.map (fun y=>(X.stamp,y))++cs.drop (c+n))))::X.roots) c'=A7 [] (cC X.roots c'):=fun c' hc=>Lu (.inr (.inr (.inl ⟨_,_,_,rfl,hl⟩))) hc;have hsim:=Pj (X':=X.setR r (.bx (cs.take c++(ys.map (fun y=>(X.stamp,y))++cs.drop (c+n))))) (ks:=[]) (roots:=put S.roots r (.bx (bs.take c++(zs++bs.drop (c+n))))) hX hS rfl rfl key (by
     intro q s' z hq;simp only[XSt.setR]at hq;rw[Bd]at hq;split at hq
     ·rename_i e;simp only at e;subst e;simp only[Ka,Kb]at hq;obtain⟨_,rfl⟩:=hq;right;intro y hy;simp only[cRt,Ka]at hy;subst hy;refine⟨_,by rw[Ax,if_pos rfl], ?_⟩;have w1:Ab WkC bs ((cs.map (·.2)).map (cC X.roots)):=by rw[Kqb];exact g2
      have w2:Ab WkC (bs.take c++(zs++bs.drop (c+n))) (((cs.map (·.2)).take c++(ys++(cs.map (·.2)).drop (c+n))).map (cC X.roots)):=by
       simp only[Kx,Keb,Kfb];exact Nr (Jz w1) (Nr v2 (Jg w1))
      have w3:=Xt (ks:=[]) key (by
       intro c' hc';simp only[Kca]at hc';rcases hc' with hc'|hc'|hc'
       ·obtain⟨e,he,rfl⟩:=Ky.1 (Kjb hc');exact (hX.box r s cs hl e he).2
       ·exact hcells c' hc'
       ·obtain⟨e,he,rfl⟩:=Ky.1 (Kkb hc');exact (hX.box r s cs hl e he).2) w2
      have e3:(bs.take c++(zs++bs.drop (c+n))).map (A7 [])=bs.take c++(zs++bs.drop (c+n)):=by
       have:A7 []=fun c=>c:=by funext c;rfl
       rw[this];simp
      rw[e3]at w3;simp only[WkR,Kx,Kqb,Keb,Kfb]at w3 ⊢;exact w3
     ·rename_i e;left;exact⟨hq,by rw[L9,Ax,if_neg e]⟩)
    have hpS:S.opd x=.a (.c (.pb r c)):=by rw[Bg hS hp (by simp [cC,hl])];simp only[cC,hl]
    refine⟨_,_,h,a,b,trivial,rfl,.un,[],_,trivial,hsim,fun _=>⟨rfl,fun q s' z hq hs=>?_⟩,fun K hK=>?_⟩
    ·simp only[XSt.setR]at hq;rw[Bd]at hq;split at hq
     ·simp only[Ka,Kb]at hq;omega
     rename_i e;rw[Ax,if_neg e]
    simp only[wr,hpS];refine⟨zs,v1,by omega,bs,g1,by omega, ?_⟩;rw[hnx];exact hK
   simp at h
  simp at h
 ·-- an element
  rename_i r v' i c t e ys hp hys;rw[hp]at hpo;obtain⟨p1,p2,p3⟩:=hpo;split at h
  ·rename_i v'' t' xs hl;split at h
   ·rename_i ht;subst ht;split at h
    ·rename_i ids hb hids;simp only[Kd]at hb;have hb1:=Kq hb.1.1;have hb2:=Kq hb.1.2;have hb3:=Kea hb.2;subst hb1;split at h
     ·rename_i hc;simp only[Kd,Kmb,Kzb,Kkd,Kna]at hc;obtain⟨⟨hnd,hnr⟩,hfx⟩:=hc;have hnd:=Rb hnd;have hnr:r ∉ ids:=fun hm=>by rw[Z4.2 hm]at hnr;simp at hnr
      have hv:Cn X.roots r v''=true:=Mj hl;have hnode:Ct X.roots r []=some (t'.n,xs.map (Ae t')):=by simp only[Ct,hl];rfl
      obtain⟨l,q1,q2⟩:=p3 hv;rw[hnode]at q1;simp only[Ka,Kb]at q1;obtain⟨_,rfl⟩:=q1;have hcells:=Ze0 hvo hys;obtain⟨hh1,h⟩:=Vk h;obtain⟨hh2,h⟩:=Vk h;have hh1:Va ((hsL t' e).take c)=true:=by rw[<-Zf6,<-Keb];exact hh1
      rw[Zmv]at hh2;have r1:(Iv r v'' [] i t' e 0).take c=(Cl r v'' [] i t' e 0).take c:=by
       have:=Zkw r v'' [] i t' e 0 0 c (by rw[Kja];exact hh1)
       rwa [Kja,Kja]at this
      have r2:(Iv r v'' [] i t' e 0).drop (c+n)=(Cl r v'' [] i t' e 0).drop (c+n):=by
       have:=Zkw r v'' [] i t' e 0 (c+n) t'.n hh2
       rwa [Kib (by rw[Kma,Vi];omega),Kib (by rw[Kma,J7];omega)]at this
      rw[r1,r2]at h;have heo:=Zez (nx:=X.next) (st:=X.stamp) p1 p2 (fun _=>⟨hnode,q2⟩) t' e 0 (fun j d hd=>by simpa using hd);have hel:=J7 r v'' [] i t' e 0;obtain⟨e',c0,rest,hcs,h,hcd⟩:=Ng (nx:=X.next) (st:=X.stamp) t' _ _ out (by
       intro y hy;simp only[Kca]at hy;rcases hy with hy|hy|hy
       ·exact heo y (Kjb hy)
       ·exact hcells y hy
       ·exact heo y (Kkb hy)) h
      split at h
      ·rw[Kw]at hcs;subst hcs;obtain⟨s1,s2⟩:=Zj4 hcd;obtain⟨s2,s3⟩:=Zj4 s2;have l1:((Cl r v'' [] i t' e 0).take c).length=c:=by simp;omega
       rw[l1]at s1 s2 s3
       -- what stays
       have t1:(Ae t' e').take c=(Ae t' e).take c:=by
        refine Zkr s1 (Zj3 (by rw[l1,Kua,Bu];omega) fun j y d hy hd=>?_);rw[Kwa]at hy hd;have hjc:j<c:=by
         rcases Kfc j c with h|h
         ·exact h
         rw[if_neg (by omega)]at hy;simp at hy
        rw[if_pos hjc]at hy hd;have hb:=Y9 hh1 j;rw[Kpg hjc]at hb;exact Zey hv hnode q2 t' e 0 j y d hb hy hd (fun j d hd=>by simpa using hd)
       have t3:((Ae t' e').drop c).drop ys.length=(Ae t' e).drop (c+n):=by
        refine Zkr s3 (Zj3 (by rw[Kma,Kma,J7,Bu]) fun j y d hy hd=>?_);rw[Kdb]at hy hd;have hjc:c+n+j<t'.n:=by
         have:=(Kfa.1 hy).1
         rwa [J7]at this
        have hb:=Y9 hh2 j;rw[Kpg (by omega),Kdb]at hb;exact Zey hv hnode q2 t' e 0 _ y d hb hy hd (fun j d hd=>by simpa using hd)
       have hds:(((Ae t' e').drop c).take ys.length).length=ys.length:=s2.length.symm;have henc:Ae t' e'=(Ae t' e).take c++(((Ae t' e').drop c).take ys.length++(Ae t' e).drop (c+n)):=by
        rw[<-t1,<-t3,Knc,Knc]
       obtain⟨z,z1,z2⟩:=hS.roots r v'' _ hl _ rfl;have hg:get S.roots r=some (.tr t'.n (xs.map (Ae t'))):=by
        cases z with
        | tr _ _=>obtain⟨rfl,rfl⟩:=z2;exact z1
        | _=>exact z2.elim
       obtain⟨roots',m,f1,f2,f3,f4,f5⟩:=Zqq hS S.fix ys _ ids S.roots _ (Ae t' e) c [] s2 hids hnd hnr (by
        rcases hfx with ⟨h1,h2⟩|h1
        ·left;refine⟨h1,fun y hy=>?_⟩;have:=h2 y hy;subst h1
         -- it takes no root,and is no nil
         have key:∀(ys:List XC),Ed X.roots ys=some []->y∈ys->Ds X.roots y=some none:=by
          intro ys
          induction ys with
          | nil=>intro _ hy;simp at hy
          | cons a ys ih =>
           intro hi hy;simp only[Ed]at hi;split at hi
           ·simp at hi
           ·rename_i l h1 h2;rcases Kh.1 hy with rfl|hy
            ·exact h1
            simp only[Ka]at hi;subst hi;exact ih h2 hy
           simp at hi
         have ho:=key ys hids hy;cases y<;>simp only[Ds,reduceCtorEq]at ho<;>first
          | exact⟨_,rfl⟩
          | (simp at this;done)
          | (split at ho<;>simp at ho;done)
          | (split at ho<;>(try split at ho)<;>simp at ho;done)
        ·right;rw[hS.fix];exact Kea h1) hg q2 (by rw[Bu];omega) (fun k hk=>by simp at hk) (fun q _=>by rw[L9])
       rw[Km]at f1;obtain⟨a,b,c3⟩:=Zp ids hX hS (Tq hX hids);obtain⟨e1,e2,e3,e4⟩:=Zo ids X;have hlr:lk (X.delRs ids).roots r=some (v'',.tr t' xs):=by rw[(K1 ids X r).2 hnr];exact hl
       obtain⟨a',b'⟩:=Mt a (x:=.tr t' (Bq xs i e')) (Kc _) (show r<(X.delRs ids).next by rw[e2];exact p1) (fun cs hcs=>by simp at hcs);have hilt:i<xs.length:=by
        have:=(Kfa.1 q2).1;simpa using this
       have B0:(Bq xs i e').map (Ae t')=(xs.map (Ae t')).set i (Ae t' e'):=by simp [Bq,Kbe]
       have keyC:∀c',okC X.roots X.next X.stamp c'->cC ((X.delRs ids).setR r (.tr t' (Bq xs i e'))).roots c'=.un\/cC ((X.delRs ids).setR r (.tr t' (Bq xs i e'))).roots c'=A7 m (cC X.roots c'):=by
        intro c' hc';have hc2:okC (X.delRs ids).roots (X.delRs ids).next (X.delRs ids).stamp c':=okC.ext b.next b.stamp b.roots hc';rcases Lu (r:=r) (x:=.tr t' (Bq xs i e')) (.inr (.inr (.inr ⟨t',_,xs,v'',rfl,hlr,by simp [Bq]⟩))) hc2 with h|h
        ·exact .inl h
        -- below,it may be dead;else it is as it was
        have hd:cC (X.delRs ids).roots c'=.un\/cC (X.delRs ids).roots c'=cC X.roots c':=by
         clear h f1 f3 f4 c3;have key2:∀(l:List Nat) (Y:XSt),XOk Y->(∀q∈l,q<Y.next)->okC Y.roots Y.next Y.stamp c'->cC (Y.delRs l).roots c'=.un\/cC (Y.delRs l).roots c'=cC Y.roots c':=by
          intro l
          induction l with
          | nil=>intro Y _ _ _;exact .inr rfl
          | cons q l ih =>
           intro Y hY hl hc;obtain⟨y1,y2⟩:=Mt hY (x:=.gone) (Kc _) (hl q Kp) (fun cs h=>by simp at h);have hc1:=okC.ext y2.next y2.stamp y2.roots hc;rcases ih (Y.setR q .gone) y1 (fun z hz=>hl z (Kj _ hz)) hc1 with h|h
           ·exact .inl h
           rcases Lu (r:=q) (x:=.gone) (.inr (.inl rfl)) hc with g|g
           ·exact .inl (h.trans g)
           exact .inr (h.trans g)
         exact key2 ids X hX (Tq hX hids) hc'
        rcases hd with hd|hd
        ·exact .inl (h.trans hd)
        exact Zxf f2 (h.trans hd) hc2
       have hsim:=Pj (X':=(X.delRs ids).setR r (.tr t' (Bq xs i e'))) (ks:=m) (roots:=roots') hX hS e1 e3 keyC (by
        intro q s z hq;simp only[XSt.setR]at hq;rw[Bd]at hq;split at hq
        ·rename_i eq;simp only at eq;subst eq;simp only[Ka,Kb]at hq;obtain⟨_,rfl⟩:=hq;right;intro y hy;simp only[cRt,Ka]at hy;subst hy;refine⟨_,f3,rfl, ?_⟩;rw[hb2]at henc;rw[B0,hds,hb2];exact congrArg _ henc.symm
        ·rename_i eq;by_cases hm:q∈ids
         ·obtain⟨s',hs'⟩:=(K1 ids X q).1 hm;rw[hs']at hq;simp only[Ka,Kb]at hq;obtain⟨_,rfl⟩:=hq;exact .inr fun y hy=>by simp [cRt]at hy
         ·rw[(K1 ids X q).2 hm]at hq;exact .inl ⟨hq,f4 q (fun e=>eq e.symm) hm⟩)
       have hpS:S.opd x=.a (.c (.pe r [] i c)):=by rw[Bg hS hp (by simp [cC,hv])];simp only[cC,hv]
       obtain⟨zs,v1,v2,_⟩:=Zi (G7 hS v) hys;have hz:=Lw s2 v2;refine⟨_,_,h,a',b.trans b',trivial,e1,.un,m,roots',trivial,hsim,fun hpl=>?_,fun K hK=>?_⟩
       ·have hall:∀y∈ys,∃v,cC X.roots y=.lf v:=by
         intro y hy;simp only[Za4,hp,hys,Kna]at hpl;have:=hpl y hy;cases y<;>first|exact⟨_,rfl⟩|simp [K8]at this
        have hm:=f5 hall;refine⟨hm,fun q s z hq hs=>?_⟩;simp only[XSt.setR]at hq;rw[Bd]at hq;split at hq
        ·simp only[Ka,Kb]at hq;omega
        rename_i eq;by_cases hm2:q∈ids
        ·have hids0:ids=[]:=by
          have key:∀(ys:List XC) (ids:List Nat),Ed X.roots ys=some ids->(∀y∈ys,K8 y=true)->ids=[]:=by
           intro ys
           induction ys with
           | nil=>intro ids h _;simp only[Ed,Ka]at h;exact h.symm
           | cons y ys ih =>
            intro ids h hl;have h0:=hl y Kp;simp only[Ed]at h;split at h
            ·rename_i h1 h2;cases y<;>simp [K8]at h0<;>simp [Ds]at h1
            ·rename_i h1 h2;simp only[Ka]at h;subst h;exact ih _ h2 fun y hy=>hl y (Kj _ hy)
            simp at h
          refine key ys ids hids fun y hy=>?_;simp only[Za4,hp,hys,Kna]at hpl;exact hpl y hy
         rw[hids0]at hm2;simp at hm2
        rw[f4 q (fun e=>eq e.symm) hm2,hm,L9]
       simp only[wr,hpS];refine⟨zs,v1,by rw[hz];simpa using hb2,Ae t' e, ?_,by rw[Bu];omega,⟨_,_,hg⟩,(roots',m),by rw[hz];exact f1, ?_⟩
       ·simp only[St.node,hg,Am,Kra];exact q2
       rw[hnx,<-e2];exact hK
      simp at h
     simp at h
    ·rename_i hb hids;simp only[Kd]at hb;have hb1:=Kq hb.1.1;have hb2:=Kq hb.1.2;subst hb1;split at h
     ·rename_i hc;simp only[Kd]at hc;obtain⟨hc0,hcn,hnl,hfx⟩:=hc;have hc0:=Kq hc0;have hcn:=Kq hcn;have hfx:=Kea hfx;subst hc0;split at h
      ·rename_i j hfj;obtain⟨hij,h⟩:=Dt h;simp only[nNe,decide_eq_true_eq]at hij;obtain⟨ej,hej,h⟩:=Gs h;have hv:Cn X.roots r v''=true:=Mj hl;have hnode:Ct X.roots r []=some (t'.n,xs.map (Ae t')):=by simp only[Ct,hl];rfl
       obtain⟨l,q1,q2⟩:=p3 hv;rw[hnode]at q1;simp only[Ka,Kb]at q1;obtain⟨_,rfl⟩:=q1;have hejx:xs[j]? = some ej:=by simpa [idx] using hej
       have hejd:(xs.map (Ae t'))[j]? = some (Ae t' ej):=by rw[Kba,hejx];rfl
       have hcells:=Ze0 hvo hys;obtain⟨e',ys0,rest,hye,h,g1,g2,g3,g4⟩:=Zog (nx:=X.next) (st:=X.stamp) hv hnode hejd t' 0 ys _ hcells h;split at h
       ·rw[Kw]at hye;subst hye;obtain⟨z,z1,z2⟩:=hS.roots r v'' _ hl _ rfl;have hg:get S.roots r=some (.tr t'.n (xs.map (Ae t'))):=by
         cases z with
         | tr _ _=>obtain⟨rfl,rfl⟩:=z2;exact z1
         | _=>exact z2.elim
        obtain⟨roots',m,f1,f2,f3,f4⟩:=Zqo hij (show S.fix<=r by rw[hS.fix];exact hfx) (ys.map (cC X.roots)) (Ae t' e') 0 S.roots _ (Ae t' e) (Ae t' ej) [] g1 hg q2 hejd (by rw[Ko,Bu];omega) (by rw[Ko,Bu];omega) (fun k hk=>by simp at hk);rw[Km]at f1;obtain⟨a',b'⟩:=Mt hX (x:=.tr t' (Bq (Bq xs i e') j (L8 t' ej))) (Kc _) p1 (fun cs h=>by simp at h);have B0:(Bq (Bq xs i e') j (L8 t' ej)).map (Ae t')=((xs.map (Ae t')).set i (Ae t' e')).set j ((Ae t' ej).map Qx):=by simp only[Bq,Kbe,Zon t' hnl]
        rw[Kza,Kza,Km,Km,Kja,g4,Kvf (by rw[Bu,Bu];omega),Kw,<-B0]at f3;have keyC:∀c',okC X.roots X.next X.stamp c'->cC (X.setR r (.tr t' (Bq (Bq xs i e') j (L8 t' ej)))).roots c'=.un\/cC (X.setR r (.tr t' (Bq (Bq xs i e') j (L8 t' ej)))).roots c'=A7 m (cC X.roots c'):=by
         intro c' hc';rcases Lu (r:=r) (x:=.tr t' (Bq (Bq xs i e') j (L8 t' ej))) (.inr (.inr (.inr ⟨t',_,xs,v'',rfl,hl,by simp [Bq]⟩))) hc' with h|h
         ·exact .inl h
         exact Zxf f2.in_ h hc'
        have hsim:=Pj (X':=X.setR r (.tr t' (Bq (Bq xs i e') j (L8 t' ej)))) (ks:=m) (roots:=roots') hX hS rfl rfl keyC (by
         intro q s z hq;simp only[XSt.setR]at hq;rw[Bd]at hq;split at hq
         ·rename_i eq;simp only at eq;subst eq;simp only[Ka,Kb]at hq;obtain⟨_,rfl⟩:=hq;right;intro y hy;simp only[cRt,Ka]at hy;subst hy;exact⟨_,f3,rfl,rfl⟩
         ·rename_i eq;exact .inl ⟨hq,f4 q (fun e=>eq e.symm)⟩)
        have hpS:S.opd x=.a (.c (.pe r [] i 0)):=by rw[Bg hS hp (by simp [cC,hv])];simp only[cC,hv]
        obtain⟨zs,v1,v2,_⟩:=Zi (G7 hS v) hys;have hz:=Zxg g3 v2;refine⟨_,_,h,a',b',trivial,rfl,.un,m,roots',trivial,hsim,fun hpl=>?_,fun K hK=>?_⟩
        ·exfalso;simp only[Za4,hp,hys,Kna]at hpl;rw[Zxt hpl]at hids;simp at hids
        simp only[wr,hpS];refine⟨zs,v1,by rw[hz];simpa using hb2,Ae t' e, ?_,by rw[Bu];omega,⟨_,_,hg⟩,(roots',m),by rw[hz];exact f1, ?_⟩
        ·simp only[St.node,hg,Am,Kra];exact q2
        rw[hnx];exact hK
       simp at h
      simp at h
     simp at h
    simp at h
   simp at h
  simp at h
 simp at h
theorem Zkg (hX:XOk X) (hS:SimX X S){x:Opd}{h:Hn}{t:Ty}{xs:List t.den}{ro:Option Nat}(hb:Zek X (X.opd x) h=some ⟨t,xs,ro⟩){sz:Nat}(hz:sz=t.n) (hn:∀n,X.opd x=.a (.c (.nl n))->n=sz) :
  Sf S.roots (S.opd x)=some (sz,xs.map (Ae t),ro)/\(∀r∈Ey ro,r<X.next)/\∀q,q ∉ Ey ro->get (D4 S.roots ro) q=get S.roots q:=by
 unfold Zek at hb;split at hb
 ·rename_i n hx;split at hb
  ·simp only[Ka,Sigma.mk.injEq]at hb;obtain⟨rfl,hb⟩:=hb;have hb:=eq_of_heq hb;simp only[Kb]at hb;obtain⟨rfl,rfl⟩:=hb;refine⟨?_,by simp [Ey],fun q _=>rfl⟩;rw[Bg hS hx (by simp [cC])];simp only[cC,Sf,hn n hx];rfl
  simp at hb
 ·rename_i r hx;split at hb
  ·rename_i s t' xs' hl;simp only[Ka,Sigma.mk.injEq]at hb;obtain⟨rfl,hb⟩:=hb;have hb:=eq_of_heq hb;simp only[Kb]at hb;obtain⟨rfl,rfl⟩:=hb;obtain⟨z,z1,z2⟩:=hS.roots r s _ hl _ rfl;have hg:get S.roots r=some (.tr t'.n (xs'.map (Ae t'))):=by
    cases z with
    | tr _ _=>obtain⟨rfl,rfl⟩:=z2;exact z1
    | _=>exact z2.elim
   have hxS:S.opd x=.a (.c (.rf r [] t'.n 0 xs'.length)):=by rw[Bg hS hx (by simp [cC,hl])];simp only[cC,hl]
   refine⟨?_, ?_, ?_⟩
   ·rw[hxS];simp only[Sf,hg,hz,Ko,and_self,if_true]
   ·intro q hq;simp only[Ey,Koa]at hq;subst hq;exact (hX.ids _ _ _ hl).1
   intro q hq;simp only[Ey,Koa]at hq;simp only[D4];rw[Hj,if_neg (fun e=>hq e.symm)]
  simp at hb
 simp at hb
theorem Zmg:∀(t:Ty),t.flat=true->∀x:t.den,(Ae t x).all Zgg=true
 | .I _,_,_=>rfl
 | .Y,_,_=>rfl
 | .B,_,_=>rfl
 | .S,_,_=>rfl
 | .L t,h,_=>by simp [Ty.flat]at h
 | .H t,h,_=>by simp [Ty.flat]at h
 | .P a b,h,x=>by
  simp only[Ty.flat,Kd]at h;simp only[Ae,List.all_append,Zmg a h.1,Zmg b h.2,Kqd]
theorem Yte {R:XRs}{c:XC}{ry q:Nat}{p:Af}{s lo n:Nat}(h:Pc c=some ry) (hc:cC R c=.rf q p s lo n):ry=q:=by
 cases c with
 | rw r=>simp only[Pc,Ka]at h;subst h;simp only[cC]at hc;split at hc<;>simp at hc<;>exact hc.1
 | rv r _ _=>simp only[Pc,Ka]at h;subst h;simp only[cC]at hc;split at hc<;>simp at hc<;>exact hc.1
 | rf r v p lo t ws=>simp only[Pc,Ka]at h;subst h;simp only[cC]at hc;split at hc<;>simp at hc;exact hc.1
 | _=>simp [Pc]at h
theorem Yb2 (l:List UInt8):Jb ⟨l.toArray⟩=l.map (Ae .Y):=rfl
theorem Zk1 {t:Ty}:∀(xs:List t.den),E7 t.n xs.length (xs.map (Ae t)).flatten=xs.map (Ae t)
 | []=>rfl
 | x::xs=>by
  simp only[Kf,E7,Ke,Kfd];rw[Ked (Bu t x),Kqc (Bu t x),Zk1 xs]
theorem Ys7 (n:Nat){l:List C}(h:l.all M2=true):(rep n l).all M2=true:=by
 induction n with
 | zero=>rfl
 | succ n ih=>simp only[rep,List.all_append,h,ih,Kqd]
theorem Zbg {n sz:Nat}(h:A0 n sz=true):n*sz<=140737488355328:=by simpa [A0] using h
theorem Zmt:∀T:Ty,noL T=true->Ae T (V7 T)=(zc T).map Zi4
 | .I _,_=>rfl
 | .Y,_=>rfl
 | .B,_=>rfl
 | .S,_=>rfl
 | .L _,h=>by simp [noL]at h
 | .H _,_=>rfl
 | .P a b,h=>by
  simp only[noL,Kd]at h;simp only[V7,Ae,Zmt a h.1,Zmt b h.2,zc,Kx]
theorem Yf9 (hX:XOk X) (hS:SimX X S){ids:List Nat}(hi:∀r∈ids,r<X.next){roots:List (Nat×Root)}(hr:∀r,r ∉ ids->get roots r=get S.roots r) :
  XOk (X.delRs ids)/\Ext X (X.delRs ids)/\SimX (X.delRs ids) ⟨S.env,roots,S.next,S.fix⟩/\∀r s x,lk (X.delRs ids).roots r=some (s,x)->s<X.stamp->get roots r=get S.roots r:=by
 obtain⟨a,b,c⟩:=Zp ids hX hS hi;refine⟨a,b, ?_,fun r s x hl hs=>?_⟩
 ·refine Xe (R:=S.roots) c ?_;intro r s x hl hx;by_cases hm:r∈ids
  ·obtain⟨s',hg⟩:=(K1 ids X r).1 hm;rw[hl]at hg;simp only[Ka,Kb]at hg;exact (hx hg.2).elim
  exact hr r hm
 by_cases hm:r∈ids
 ·exfalso;have h0:=b.roots r s x hl hs;obtain⟨s',hg⟩:=(K1 ids X r).1 hm;rw[hl]at hg;simp only[Ka,Kb]at hg;have key:∀(l:List Nat) (Y:XSt),r∈l->∀s x,lk (Y.delRs l).roots r=some (s,x)->Y.stamp<=s:=by
   intro l
   induction l with
   | nil=>intro Y h;simp at h
   | cons q l ih =>
    intro Y h s x hl;by_cases hq:r∈l
    ·have:=ih (Y.setR q .gone) hq s x hl;have e:(Y.setR q .gone).stamp=Y.stamp+1:=rfl;omega
    have hq':=(Kh.1 h).resolve_right hq;subst hq';have h2:lk ((Y.setR r .gone).delRs l).roots r=some (s,x):=hl;rw[(K1 l (Y.setR r .gone) r).2 hq]at h2;simp only[XSt.setR]at h2;rw[Bd,if_pos rfl]at h2;simp only[Ka,Kb]at h2;omega
  have:=key ids X hm s x hl;omega
 exact hr r hm
theorem Ydw (hX:XOk X) (hS:SimX X S){h:Hn}{j:W}{k:XV->XSt->Option β}(hr:wrX X h j k=some out):Y7 X S j k out:=by
 have hnx:S.next=X.next:=hS.next;cases j with
 | alloc zero =>
  simp only[wrX]at hr;split at hr
  ·rename_i hz;have e:(zero.map fun c=>(X.stamp,ofC c))=((zero.map ofC).map fun c=>(X.stamp,c)):=by simp
   rw[e]at hr;exact Zkl hX hS (Zav X.roots hz) (by
    intro c hc;obtain⟨c',_,rfl⟩:=Ky.1 hc;exact Zau _ _ _ c') (v:=.a (.c (.pb S.next 0))) (Zo3 hnx) (Kqa _) hr (fun K hK=>hK)
  simp at hr
 | box x =>
  simp only[wrX]at hr;split at hr
  ·rename_i cs hc;obtain⟨ys,y1,y2,_⟩:=Zi (G7 hS x) hc;exact Zkl hX hS y2 (Ze0 (Ff hX x) hc) (v:=.a (.c (.pb S.next 0))) (Zo3 hnx) (Kqa _) hr (fun K hK=>by simp only[wr];exact⟨ys,y1,hK⟩)
  simp at hr
 | store n x v=>exact Yvn hX hS hr
 | mks sz bytes zero l c =>
  simp only[wrX]at hr;split at hr
  ·rename_i t z z' hl hc;split at hr
   ·rename_i hb;simp only[Kd]at hb;have hz:=Zl7 hb.1;have hsz:=Kq hb.2;subst hz hsz;obtain⟨h1,hr⟩:=Dt hr;obtain⟨h2,hr⟩:=Dt hr;simp only[iEq,beq_iff_eq]at h1;simp only[Zyb,decide_eq_true_eq]at h2;subst h1;obtain⟨k1,e1⟩:=Ov hS hl;obtain⟨k2,e2⟩:=Ov hS hc;refine S6 (ids:=[]) hX hS (by simp) (fun r _=>rfl) hr (n:=z'.toNat) (by simp [I2,nOf]) (fun K hK=>?_);simp only[wr,e1,e2];refine⟨trivial,h2.1,h2.2.1,h2.2.2,Zru t, ?_⟩;simp only[I2,nOf,List.map_replicate,<-Zrt]at hK;exact hK
   simp at hr
  simp at hr
 | lit sz len zero parts =>
  simp only[wrX]at hr;split at hr
  ·rename_i hz;split at hr
   ·rename_i cs hf;obtain⟨zs,e1,e2,e3⟩:=Zmd hX hS (parts.map fun x=>(x.1*sz,sz,x.2)) _ (rep len zero) cs (Zav X.roots (Ys7 len hz)) (by
     intro c hc;obtain⟨c',_,rfl⟩:=Ky.1 hc;exact Zau _ _ _ c') hf
    split at hr
    ·exact Zkl hX hS e2 e3 (v:=.sb S.next len) (by simp only[cV,Q7,hnx];exact⟨rfl,rfl⟩) (Kqa _) hr (fun K hK=>by simp only[wr];exact .inr ⟨zs,e1,hK⟩)
    ·rename_i t;split at hr
     ·rename_i ids hids;split at hr
      ·rename_i hb;simp only[Kd]at hb;have hnd:=Rb hb.1;have hsz:=Kq hb.2;subst hsz;obtain⟨xs,hr,hxl,hcd⟩:=Zhi (nx:=X.next) (st:=X.stamp) len cs _ out e3 hr;have hzs:=Lw hcd e2;obtain⟨rt,f1,f2⟩:=Xh hS cs _ ids S.roots hcd hids hnd (fun _ _=>rfl);refine S6 (roots:=rt) hX hS (Tq hX hids) (fun r hr=>by rw[f2 r,if_neg hr]) hr (n:=len) hxl.symm (fun K hK=>?_);simp only[wr];refine .inl ⟨zs,e1,_,by rw[hzs];exact f1, ?_⟩;rw[<-hxl,Zk1];rw[<-hxl]at hK;exact hK
      simp at hr
     split at hr
     ·rename_i tks htks;split at hr
      ·rename_i hb;simp only[Kd]at hb;have hsz:=Kq hb.2;subst hsz;obtain⟨xs,hr,hxl,hcd⟩:=Zhi (nx:=X.next) (st:=X.stamp) len cs _ out e3 hr;have hzs:=Lw hcd e2;obtain⟨X2,rt,c1,c2,c3,c4,c5,c6,c7,c8⟩:=Zim hX hS cs _ tks X S.roots hcd htks hb.1 hX hS (Zqz hS htks) hr;refine Zvu hX hS c3 c4 c5 c6 c7 c8 c1 (n:=len) hxl.symm (fun K hK=>?_);simp only[wr];refine .inl ⟨zs,e1,_,by rw[hzs];exact c2, ?_⟩;rw[<-hxl,Zk1];rw[<-hxl]at hK;exact hK
      simp at hr
     simp at hr
    simp at hr
   simp at hr
  simp at hr
 | s2b x =>
  simp only[wrX]at hr;split at hr
  ·rename_i l hx;refine S6 (ids:=[]) (t:=.Y) hX hS (by simp) (fun r _=>rfl) hr (n:=l.length) rfl (fun K hK=>?_);simp only[wr,Bg hS hx (by simp [cC]),cC,Yb2,Ue];exact hK
  simp at hr
 | app sz bytes zero x y =>
  simp only[wrX]at hr;split at hr
  ·rename_i t xs ro n hb hy;split at hr
   ·rename_i hz;simp only[Kd]at hz;have hsz:=Kq hz.1;have hnl:∀n,X.opd x=.a (.c (.nl n))->n=sz:=by
     intro n hn;have:=hz.2;rw[hn]at this;exact Kq this
    obtain⟨h1,hr⟩:=Dt hr;obtain⟨b1,b2,b3⟩:=Zkg hX hS hb hsz hnl;refine S6 (roots:=D4 S.roots ro) hX hS b2 b3 hr (n:=xs.length) rfl (fun K hK=>?_);simp only[wr,b1,Bg hS hy (by simp [cC]),cC];refine⟨_,rfl,rfl, ?_, ?_⟩
    ·rw[Ko];exact Zbg h1
    rw[Ko,hsz];exact hK
   simp at hr
  ·rename_i t xs ro c hne hb hy;have hyo:=Ff hX y;rw[hy]at hyo;split at hr
   ·rename_i hz;simp only[Kd]at hz;have hsz:=Kq hz.1;have hnl:∀n,X.opd x=.a (.c (.nl n))->n=sz:=by
     intro n hn;have:=hz.2;rw[hn]at this;exact Kq this
    split at hr
    ·rename_i ry hry;split at hr
     ·simp at hr
     rename_i hno;have hno:ry ∉ Ey ro:=fun hm=>by rw[Z4.2 hm]at hno;simp at hno
     obtain⟨t',ws0,r,p,lo,l,hq1,w2,w3,w4,w5,w6⟩:=Zrk hyo hr;clear hr;obtain⟨ws,hq2,ht,w7,w8⟩:=Zs1 hq1;clear hq1;rw[ht]at w3 w4;obtain⟨h1,hr⟩:=Dt hq2;clear hq2;rw[w7]at w6;rw[<-w8]at w3 w5 w6;have hrr:=Yte hry w3;subst hrr;obtain⟨b1,b2,b3⟩:=Zkg hX hS hb hsz hnl;have hyS:S.opd y=.a (.c (.rf ry p t.n lo ws.length)):=by rw[Bg hS hy (by rw[w3];simp),w3]
     have hro:some ry≠ro:=fun e=>hno (by subst e;simp [Ey]);have hnode:S.node ry p=some (sz,l):=by rw[Ra,Wo hS w4,hsz]
     have happ:∀K:KW,K (.a (.c (.rf S.next [] t.n 0 (xs.length+ws.length)))) [] ((S.next,.tr t.n ((Al xs ws).map (Ae t)))::D4 S.roots ro) (S.next+1)->Zj6 (ws.map (Ae t))=true->wr S K (.app sz bytes zero x y):=by
      intro K hK hlf;simp only[wr,b1,hyS];refine⟨_,rfl,rfl,hsz.symm,hro, ?_,l,hnode,w5,.inl ⟨by rw[w6];exact hlf, ?_⟩⟩
      ·rw[Ko];exact Zbg h1
      rw[Ko,hsz,w6];simp only[Al,Kx]at hK;exact hK
     split at hr
     ·rename_i hfl;refine S6 (roots:=D4 S.roots ro) hX hS b2 b3 hr (n:=xs.length+ws.length) (by simp [Al]) (fun K hK=>happ K hK ?_);simp only[Zj6,List.all_map,Kna,Function.comp];exact fun z _=>Kna.1 (Zmg t hfl z)
     split at hr
     ·rename_i r0 lo0 m0 hrv;have hc0:c=.rv r0 lo0 m0:=by
       cases c<;>simp [Yan]at hrv
       obtain⟨rfl,rfl,rfl⟩:=hrv;rfl
      subst hc0;simp only[Pc,Ka]at hry;subst hry;split at hr
      ·rename_i s T0 xs0 hl;have hcc:cC X.roots (.rv r0 lo0 m0)=.rf r0 [] T0.n lo0 m0:=by simp only[cC,hl]
       rw[hcc]at w3;simp only[C.rf.injEq]at w3;obtain⟨_,rfl,e3,rfl,rfl⟩:=w3;obtain⟨z,z1,z2⟩:=hS.roots r0 s _ hl _ rfl;have hg:get S.roots r0=some (.tr T0.n (xs0.map (Ae T0))):=by
        cases z with
        | tr _ _=>obtain⟨rfl,rfl⟩:=z2;exact z1
        | _=>exact z2.elim
       have hl0:l=xs0.map (Ae T0):=by
        simp only[Ct,hl,Am,Ka,Kb]at w4;exact w4.2.symm
       subst hl0;rw[Ko]at w5;obtain⟨d1,d2,d3,d4⟩:=Yf9 hX hS b2 b3;obtain⟨v1,v2,v3,v4⟩:=Zo (Ey ro) X;have hlr:lk (X.delRs (Ey ro)).roots r0=some (s,.tr T0 xs0):=by rw[(K1 (Ey ro) X r0).2 hno];exact hl
       obtain⟨k1,k2,k3⟩:=Zp6 (t:=hT T0) (xs:=mvW T0 lo0 ws.length xs0) d1 d3 hlr (Zf3 T0) (Zye T0 lo0 ws.length xs0 w5);refine Zvu hX hS k1 (d2.trans k2) k3 v1 v2 (fun q s' z' hq hs=>?_) (by rw[show ((X.delRs (Ey ro)).setR r0 (.tr (hT T0) (mvW T0 lo0 ws.length xs0))).next=X.next from v2];exact hr) (n:=xs.length+ws.length) (by simp [Al]) (fun K hK=>?_)
       ·simp only[XSt.setR]at hq;rw[Bd]at hq;split at hq
        ·simp only[Ka,Kb]at hq;omega
        rename_i e;simp only at e;rw[Ax,if_neg e];exact d4 q s' z' hq hs
       simp only[wr,b1,hyS];refine⟨_,rfl,rfl,hsz.symm,hro, ?_,_,hnode,by rw[Ko];exact w5,.inr ⟨_,_,hg, ?_⟩⟩
       ·rw[Ko];exact Zbg h1
       rw[Ko,hsz,w6];simp only[Al,Kx,Yru,Zf3]at hK;exact hK
      simp at hr
     split at hr
     ·rename_i r' hown
      -- the elements are moved
      have hrr:r'=ry/\∃s t2 xs2,lk X.roots ry=some (s,.tr t2 xs2):=by
       cases c<;>simp only[Ds,reduceCtorEq,Ka]at hown
       ·simp only[Pc,Ka]at hry;subst hry;split at hown
        ·rename_i hl;simp only[Ka]at hown;exact⟨hown.symm,_,_,_,hl⟩
        simp at hown
       simp only[Pc,Ka]at hry;subst hry;split at hown
       ·rename_i hl;split at hown
        ·simp only[Ka]at hown;exact⟨hown.symm,_,_,_,hl⟩
        simp at hown
       simp at hown
      obtain⟨rfl,s,t2,xs2,hl⟩:=hrr;obtain⟨z,z1,z2⟩:=hS.roots r' s _ hl _ rfl;have hg:get S.roots r'=some (.tr t2.n (xs2.map (Ae t2))):=by
       cases z with
       | tr _ _=>obtain⟨rfl,rfl⟩:=z2;exact z1
       | _=>exact z2.elim
      refine S6 (roots:=put (D4 S.roots ro) r' (.tr t2.n (D0 (xs2.map (Ae t2)) p (M1 lo ws.length)))) (ids:=r'::Ey ro) hX hS (by
       intro q hq;rcases Kh.1 hq with rfl|hq
       ·exact (hX.ids _ _ _ hl).1
       ·exact b2 q hq) (by
       intro q hq;rw[Kh,not_or]at hq;rw[Ax,if_neg (fun e=>hq.1 e.symm)];exact b3 q hq.2) hr (n:=xs.length+ws.length) (by simp [Al]) (fun K hK=>?_)
      simp only[wr,b1,hyS];refine⟨_,rfl,rfl,hsz.symm,hro, ?_,l,hnode,w5,.inr ⟨_,_,hg, ?_⟩⟩
      ·rw[Ko];exact Zbg h1
      rw[Ko,hsz,w6];simp only[Al,Kx]at hK;exact hK
     simp at hr
    simp at hr
   simp at hr
  simp at hr
 | aps zero x y =>
  simp only[wrX]at hr;split at hr
  ·rename_i xs ro l hb hy;split at hr
   ·rename_i hz;have hnl:∀n,X.opd x=.a (.c (.nl n))->n=1:=by
     intro n hn;rw[hn]at hz;exact Kq hz
    obtain⟨h1,hr⟩:=Dt hr;obtain⟨b1,b2,b3⟩:=Zkg hX hS hb (sz:=1) rfl hnl;refine S6 (t:=.Y) (roots:=D4 S.roots ro) hX hS b2 b3 hr (n:=xs.length+l.length) (by simp [Al]) (fun K hK=>?_);simp only[wr,b1,Bg hS hy (by simp [cC]),cC,Ue,Yb2];refine⟨_,rfl,rfl, ?_, ?_⟩
    ·rw[Ko];have:=Zbg h1;omega
    rw[Ko];simp only[Al,Kx]at hK;exact hK
   simp at hr
  simp at hr
 | clr sz zero x =>
  simp only[wrX]at hr;split at hr
  ·rename_i n hx;refine⟨_,_,hr,hX,Ext.refl X,trivial,rfl,.un,[],S.roots,trivial, ?_,fun _=>⟨rfl,fun _ _ _ _ _=>rfl⟩,fun K hK=>?_⟩
   ·rw[Oz,<-hnx];exact hS
   simp only[wr,Bg hS hx (by simp [cC]),cC];rw[hnx];exact hK
  ·rename_i r lo n hx;split at hr
   ·rename_i s T xs hl;split at hr
    ·rename_i hb;simp only[Kd]at hb;have hsz:=Kq hb.1;have hz:=Zl7 hb.2.1;subst hsz hz;obtain⟨hn,hr⟩:=Dt hr;simp only[nEq,decide_eq_true_eq]at hn;obtain⟨z,z1,z2⟩:=hS.roots r s _ hl _ rfl;have hg:get S.roots r=some (.tr T.n (xs.map (Ae T))):=by
      cases z with
      | tr _ _=>obtain⟨rfl,rfl⟩:=z2;exact z1
      | _=>exact z2.elim
     have hS':SimX X ⟨S.env,S.roots,S.next,S.fix⟩:=hS;obtain⟨k1,k2,k3⟩:=Zp6 (t:=T) (xs:=Al (Br lo xs) (I2 n (V7 T))) hX hS' hl rfl (by simp [Al,Br,I2];omega);refine⟨_,_,hr,k1,k2,trivial,rfl,.un,[],_,trivial,by rw[Oz];rw[hnx]at k3;exact k3,fun _=>⟨rfl,fun q s' z' hq hs=>?_⟩,fun K hK=>?_⟩
     ·simp only[XSt.setR]at hq;rw[Bd]at hq;split at hq
      ·simp only[Ka,Kb]at hq;omega
      rename_i e;simp only at e;rw[Ax,if_neg e]
     have hxS:S.opd x=.a (.c (.rf r [] T.n lo n)):=by rw[Bg hS hx (by simp [cC,hl])];simp only[cC,hl]
     simp only[wr,hxS];refine⟨trivial,_,hg,by rw[Ko];exact hn, ?_⟩;rw[hnx];simp only[Al,Br,I2,Kx,Keb,List.map_replicate,Zmt T hb.2.2]at hK;exact hK
    simp at hr
   simp at hr
  simp at hr
 | call f args=>simp [wrX]at hr
 | calv f args=>simp [wrX]at hr
end
end Go.Vs
namespace Go.Vs
variable [Glb]
@[reducible] def Tp:List Ty->Type
 | []=>Unit
 | [t]=>t.den
 | t::u::ts=>t.den×Tp (u::ts)
def Tp.hd:(t:Ty)->(ts:List Ty)->Tp (t::ts)->t.den
 | _,[],x=>x
 | _,_::_,x=>x.1
def Tp.tl:(t:Ty)->(ts:List Ty)->Tp (t::ts)->Tp ts
 | _,[],_=>()
 | _,_::_,x=>x.2
def Tp.mk:(t:Ty)->(ts:List Ty)->t.den->Tp ts->Tp (t::ts)
 | _,[],x,_=>x
 | _,_::_,x,y=>(x,y)
theorem Tp.hd_mk {t:Ty}:∀{ts:List Ty}(x:t.den) (y:Tp ts),Tp.hd t ts (Tp.mk t ts x y)=x
 | [],_,_=>rfl
 | _::_,_,_=>rfl
theorem Tp.tl_mk {t:Ty}:∀{ts:List Ty}(x:t.den) (y:Tp ts),Tp.tl t ts (Tp.mk t ts x y)=y
 | [],_,_=>rfl
 | _::_,_,_=>rfl
inductive XD where
 | lf (c:XC)
 | sl (t:Ty) (xs:List t.den)
def Dk:XD->D
 | .lf (.i k z)=>.lf (.int k z)
 | .lf (.y b)=>.lf (.int .u8 b.toNat)
 | .lf (.b x)=>.lf (.bool x)
 | .lf (.s l)=>.lf (.string ⟨l.toArray⟩)
 | .lf _=>.hole
 | .sl t xs=>.sl t.n (xs.map (Ae t))
def Po:(t:Ty)->t.den->List XD
 | .I k,z=>[.lf (.i k z)]
 | .Y,b=>[.lf (.y b)]
 | .B,x=>[.lf (.b x)]
 | .S,l=>[.lf (.s l)]
 | .L t,xs=>[.sl t xs]
 | .H t,o=>[match o with|some xs=>.sl t xs|none=>.lf .un]
 | .P a b,x=>Po a x.1++Po b x.2
theorem Zby:∀(t:Ty) (x:t.den),(Po t x).map Dk=Ae t x
 | .I _,_=>rfl
 | .Y,_=>rfl
 | .B,_=>rfl
 | .S,_=>rfl
 | .L _,_=>rfl
 | .H _,none=>rfl
 | .H _,some _=>rfl
 | .P a b,x=>by simp only[Po,Kx,Zby a,Zby b,Ae]
def Zgk:XC->XC
 | .i k z=>.i k z
 | .y b=>.y b
 | .b x=>.b x
 | .s l=>.s l
 | _=>.un
def C2:List XD->XSt->List XC×XSt
 | [],X=>([],X)
 | .lf c::l,X=>(Zgk c::(C2 l X).1,(C2 l X).2)
 | .sl t xs::l,X=>(.rw X.next::(C2 l (X.newR (.tr t xs))).1,(C2 l (X.newR (.tr t xs))).2)
def F5:(rs:List (Bool×Ty))->Tp (rs.map (·.2))->List XD
 | [],_=>[]
 | (_,t)::rs,y=>Po t (Tp.hd t _ y)++F5 rs (Tp.tl t _ y)
def Mh:List (Bool×Ty)->List XC->List XA
 | [],_=>[]
 | (ag,t)::rs,cs=>(match ag with
  | true=>.ag (cs.take t.n)
  | false=>match cs.take t.n with
   | [c]=>.c c
   | _=>.ag [])::Mh rs (cs.drop t.n)
def Zhn:List XA->XV
 | [x]=>.a x
 | xs=>.tp xs
def Bt:(as:List (Bool×Ty))->Tp (as.map (·.2))->List (Bool×List D)
 | [],_=>[]
 | (ag,t)::as,x=>(ag,Ae t (Tp.hd t _ x))::Bt as (Tp.tl t _ x)
structure SEnt (P:Program) where
 f:FuncId
 args:List (Bool×Ty)
 res:List (Bool×Ty)
 F:Tp (args.map (·.2))->Option (Tp (res.map (·.2)))
 ok:∀x y,F x=some y->Ir P f ((Bt args x).map Cb) ⟨Bt res y,[],[]⟩
def Zj8 {β:Type}(R:XRs) (ag:Bool) (t:Ty) (v:XV) (f:t.den->Option β):Option β:=match ag,v with
 | false,.a (.c c)=>Er R t [c] fun x rest=>match rest with
  | []=>f x
  | _=>none
 | true,.a (.ag cs)=>Er R t cs fun x rest=>match rest with
  | []=>f x
  | _=>none
 | false,.sb r n=>match t,f with
  | .L t',f=>match lk R r with
   | some (_,.bx cs)=>match Nat.beq t'.n 1&&Nat.beq cs.length n with
    | true=>Tx R t' n (cs.map (·.2)) f
    | false=>none
   | _=>none
  | _,_=>none
 | _,_=>none
def V1 {β:Type}(R:XRs):(as:List (Bool×Ty))->List XV->(Tp (as.map (·.2))->Option β)->Option β
 | [],[],k=>k ()
 | (ag,t)::as,v::vs,k=>Zj8 R ag t v fun x=>V1 R as vs fun xs=>k (Tp.mk t _ x xs)
 | _,_,_=>none
def W7 {P:Program}{β:Type}(X:XSt) (e:SEnt P) (vs:List XV) (k:XV->XSt->Option β):Option β :=
 V1 X.roots e.args vs fun x=>bnd (e.F x) fun y=>k (Zhn (Mh e.res (C2 (F5 e.res y) X).1)) (C2 (F5 e.res y) X).2
theorem Zgx : ∀ (l : List XD) {X : XSt} {E : List (Nat × V)} {R : List (Nat × Root)} {f : Nat}, XOk X → SimX X ⟨E, R, X.next, f⟩ →
    XOk (C2 l X).2 ∧ Ext X (C2 l X).2 ∧ (C2 l X).2.env = X.env ∧ (C2 l X).2.next = (Ap (l.map Dk) X.next).2.2 ∧ SimX (C2 l X).2 ⟨E, (Ap (l.map Dk) X.next).2.1 ++ R, (C2 l X).2.next, f⟩ ∧
    Ab WkC (Ap (l.map Dk) X.next).1 ((C2 l X).1.map (cC (C2 l X).2.roots)) ∧ ∀ c ∈ (C2 l X).1, okC (C2 l X).2.roots (C2 l X).2.next (C2 l X).2.stamp c
  | [], X, E, R, f, hX, hS => ⟨hX, Ext.refl X, rfl, rfl, hS, trivial, by simp [C2]⟩
  | .lf c :: l, X, E, R, f, hX, hS => by
    obtain ⟨a, b, e, n, s, w, o⟩ := Zgx l hX hS;cases c <;> refine ⟨a, b, e, n, s, ?_, ?_⟩ <;> first
      | exact ⟨WkC.refl _, w⟩
      | exact ⟨.inr rfl, w⟩
      | (intro c hc
         simp only [C2, Kh] at hc;rcases hc with rfl | hc
         · trivial
         · exact o c hc)
  | .sl t xs :: l, X, E, R, f, hX, hS => by
    obtain ⟨a1, b1, s1⟩ := Q8 (x := .tr t xs) (y := .tr t.n (xs.map (Ae t))) hX hS (fun cs h => by simp at h) ⟨_, rfl, rfl, rfl⟩;obtain ⟨a, b, e, n, s, w, o⟩ := Zgx l a1 s1;have hlt : ∀ q y, get (Ap (l.map Dk) (X.next + 1)).2.1 q = some y → X.next + 1 ≤ q := fun q y h => (Hs _ _).2 _ (Na h) |>.1;refine ⟨a, b1.trans b, e, n, ?_, ⟨?_, w⟩, ?_⟩
    · refine Xe s ?_
      intro r st x hl hx;have e1 : (Ap ((XD.sl t xs :: l).map Dk) X.next).2.1 = (X.next, .tr t.n (xs.map (Ae t))) :: (Ap (l.map Dk) (X.next + 1)).2.1 := rfl;rw [e1];have e2 : (X.newR (.tr t xs)).next = X.next + 1 := rfl;rw [e2];simp only [Kn, get];split
      · rename_i h
        subst h;rw [Ea];cases hg : get (Ap (l.map Dk) (X.next + 1)).2.1 X.next with
        | some y => have := hlt _ _ hg; omega
        | none => simp only [get, if_true]
      rename_i h;rw [Ea, Ea];cases hg : get (Ap (l.map Dk) (X.next + 1)).2.1 r with
      | some y => rfl
      | none => simp only [get]; rw [if_neg h]
    · have hk := Q7 X (.tr t xs)
      -- the new root may only stay
      left;have : lk (C2 l (X.newR (.tr t xs))).2.roots X.next = some (X.stamp, .tr t xs) := by
        have key : ∀ (l : List XD) (Y : XSt) (q : Nat), q < Y.next → lk (C2 l Y).2.roots q = lk Y.roots q := by
          intro l
          induction l with
          | nil => intro Y q _; rfl
          | cons d l ih =>
            intro Y q hq;cases d with
            | lf c => exact ih Y q hq
            | sl t' ys =>
              show lk (C2 l (Y.newR (.tr t' ys))).2.roots q = _;rw [ih (Y.newR (.tr t' ys)) q (Kpb hq)];simp only [XSt.newR]; rw [Bd, if_neg (by simp only; omega)]
        rw [key l _ _ (Kqa X.next)];exact hk
      show cC (C2 l (X.newR (.tr t xs))).2.roots (.rw X.next) = .rf X.next [] t.n 0 (xs.map (Ae t)).length;simp only [cC, this, Ko]
    intro c hc;have e3 : (C2 (.sl t xs :: l) X).1 = .rw X.next :: (C2 l (X.newR (.tr t xs))).1 := rfl;rw [e3] at hc;rcases Kh.1 hc with rfl | hc
    · show X.next < _
      exact Kz (Kqa X.next) b.next
    exact o c hc
theorem Zhl:∀(rs:List (Bool×Ty)) (y:Tp (rs.map (·.2))),(F5 rs y).map Dk=(Bt rs y).flatMap (·.2)
 | [],_=>rfl
 | (ag,t)::rs,y=>by simp only[F5,Kx,Zby,Zhl rs,Bt,Kxa]
theorem Zpl {R:XRs}:∀(rs:List (Bool×Ty)) (y:Tp (rs.map (·.2))) (us:List C) (cs:List XC),Ab WkC us (cs.map (cC R))->cs.length=((Bt rs y).flatMap (·.2)).length->Ab WkA (Gh (Bt rs y) us) ((Mh rs cs).map (cA R))
 | [],_,_,_,_,_=>trivial
 | (ag,t)::rs,y,us,cs,h,hl=>by
  simp only[Bt,Gh,Mh,Ke];have hn:=Bu t (Tp.hd t _ y);refine⟨?_, ?_⟩
  ·rw[hn];have ht:=Jz (n:=t.n) h;rw[<-Keb]at ht;cases ag with
   | true=>simp only[O4,if_true];exact ht
   | false =>
    simp only[O4,Kka,if_false]
    match h1:us.take t.n,h2:cs.take t.n with
    | [],[]=>trivial
    | [u],[c]=>rw[h1,h2]at ht;exact ht.1
    | [],_::_=>rw[h1,h2]at ht;exact ht.elim
    | _::_,[]=>rw[h1,h2]at ht;exact ht.elim
    | [_],_::_::_=>rw[h1,h2]at ht;exact ht.2.elim
    | _::_::_,[_]=>rw[h1,h2]at ht;exact ht.2.elim
    | _::_::_,_::_::_=>trivial
  rw[hn];have hd:=Jg (n:=t.n) h;rw[<-Kfb]at hd;refine Zpl rs _ _ _ hd ?_;simp only[Bt,Kxa,Kt,hn]at hl;rw[Kma,hl];omega
theorem Zz3 {R:XRs}{ys:List A}{xs:List XA}(h:Ab WkA ys (xs.map (cA R))):WkV (Fc ys) (cV R (Zhn xs)):=by
 match ys,xs,h with
 | [],[],_=>exact trivial
 | [y],[x],h=>exact h.1
 | y::y'::ys,x::x'::xs,h=>exact h
 | [_],_::_::_,h=>exact h.2.elim
 | _::_::_,[_],h=>exact h.2.elim
theorem Zbd {R:XRs}{nx st:Nat}:∀(rs:List (Bool×Ty)) (cs:List XC),(∀c∈cs,okC R nx st c)->∀x∈Mh rs cs,okA R nx st x
 | [],_,_,x,hx=>by simp [Mh]at hx
 | (ag,t)::rs,cs,h,x,hx=>by
  simp only[Mh,Kh]at hx;rcases hx with rfl|hx
  ·cases ag with
   | true=>exact fun c hc=>h c (Kjb hc)
   | false =>
    simp only;split
    ·rename_i c hc;exact h c (Kjb (i:=t.n) (by rw[hc];exact Kp))
    exact fun c hc=>by simp at hc
  exact Zbd rs _ (fun c hc=>h c (Kkb hc)) x hx
theorem Zpm {R:XRs}{nx st:Nat}{xs:List XA}(h:∀x∈xs,okA R nx st x):okV R nx st (Zhn xs):=by
 match xs,h with
 | [],_=>exact fun x hx=>by simp at hx
 | [x],h=>exact h x Kp
 | x::y::l,h=>exact h
section
variable {β:Type} {X:XSt} {S:St} {out:β} {P:Program}
theorem Zer (hS:SimX X S){c:XC}{d:D}(h:CD X.roots c d):Hu S.roots (cC X.roots c) d:=by
 rcases h with ⟨v,h1,rfl⟩|⟨n,rfl,rfl⟩|⟨t,ws,r,p,lo,l,h1,h2,h3,h4,rfl,h6⟩
 ·rw[h1];rfl
 ·exact⟨rfl,rfl⟩
 rw[h1];exact⟨rfl,h6,l,Wo hS h2,h3,h4.symm⟩
theorem Zs4 (hS:SimX X S):∀{cs:List XC}{ds:List D},Ab (CD X.roots) cs ds->Ab (Hu S.roots) (cs.map (cC X.roots)) ds
 | [],[],_=>trivial
 | _::_,_::_,h=>⟨Zer hS h.1,Zs4 hS h.2⟩
 | [],_::_,h=>h.elim
 | _::_,[],h=>h.elim
theorem Yeu (hX:XOk X) (hS:SimX X S){ag:Bool}{t:Ty}{v:XV}{y:V}{f:t.den->Option β}(hw:WkV y (cV X.roots v)) (ho:okV X.roots X.next X.stamp v) (h:Zj8 X.roots ag t v f=some out):∃x,f x=some out/\W8 S.roots y (ag,Ae t x):=by
 unfold Zj8 at h;split at h
 ·rename_i c;obtain⟨x,c0,rest,hc,h,hcd⟩:=Ng (nx:=X.next) (st:=X.stamp) t [c] _ out (fun c' hc=>by simp only[Koa]at hc;subst hc;exact ho) h;split at h
  ·rw[Kw]at hc;subst hc;refine⟨x,h, ?_⟩
   match hd:Ae t x,hcd with
   | [d],hcd =>
    rw[hw.c hcd.1.ne];exact Zer hS hcd.1
  simp at h
 ·rename_i cs;obtain⟨x,c0,rest,hc,h,hcd⟩:=Ng (nx:=X.next) (st:=X.stamp) t cs _ out ho h;split at h
  ·rw[Kw]at hc;subst hc;refine⟨x,h, ?_⟩;cases y with
   | a z=>cases z with
    | ag ys =>
     have:=Lw hcd hw;subst this;exact Zs4 hS hcd
    | c _=>exact hw.elim
   | _=>exact hw.elim
  simp at h
 ·rename_i r n;split at h
  ·rename_i t' f;split at h
   ·rename_i s cs hl;split at h
    ·rename_i hb;simp only[Kd]at hb;have hb1:=Kq hb.1;have hb2:=Kq hb.2;obtain⟨xs,h,hxl,hcd⟩:=Zhi (nx:=X.next) (st:=X.stamp) n _ _ out (by
      intro c hc;obtain⟨e,he,rfl⟩:=Ky.1 hc;exact (hX.box r s cs hl e he).2) h
     refine⟨xs,h, ?_⟩;simp only[cV,hl]at hw;cases y with
     | sb r' n' =>
      obtain⟨rfl,rfl⟩:=hw;obtain⟨bs,g1,g2⟩:=P9 hS hl;have g3:Ab WkC bs ((cs.map (·.2)).map (cC X.roots)):=by rw[Kqb];exact g2
      have:=Lw hcd g3;subst this;simp only[Ae,hb1];refine⟨_,g1,by simpa using hb2,by simp [hxl], ?_⟩;clear h g1 g2 g3 hl hb2 hxl hb ho;have key:∀(us:List XC) (xs:List t'.den),Ab (CD X.roots) us (xs.map (Ae t')).flatten->Ab (fun c e=>∃d,e=[d]/\Hu S.roots c d) (us.map (cC X.roots)) (xs.map (Ae t')):=by
       intro us xs
       induction xs generalizing us with
       | nil=>intro h;cases us with
        | nil=>trivial
        | cons _ _=>exact h.elim
       | cons x xs ih =>
        intro h;simp only[Ke,Kfd]at h ⊢;have hx:=Bu t' x;rw[hb1]at hx
        match he:Ae t' x,hx with
        | [d],_ =>
         rw[he]at h
         match us,h with
         | u::us,h=>exact⟨⟨d,rfl,Zer hS h.1⟩,ih us h.2⟩
      exact key _ _ hcd
     | _=>exact hw.elim
    simp at h
   simp at h
  simp at h
 simp at h
theorem Zvy (hX:XOk X) (hS:SimX X S):∀(as:List (Bool×Ty)) (vs:List XV) (ys:List V) (k:Tp (as.map (·.2))->Option β),Ab (fun y v=>WkV y (cV X.roots v)/\okV X.roots X.next X.stamp v) ys vs->V1 X.roots as vs k=some out ->
  ∃x,k x=some out/\Ab (W8 S.roots) ys (Bt as x)
 | [],[],[],k,_,h=>⟨(),h,trivial⟩
 | (ag,t)::as,v::vs,y::ys,k,hw,h=>by
  simp only[V1]at h;obtain⟨x,h,h1⟩:=Yeu hX hS hw.1.1 hw.1.2 h;obtain⟨xs,h,h2⟩:=Zvy hX hS as vs ys _ hw.2 h;refine⟨_,h, ?_⟩;simp only[Bt,Tp.hd_mk,Tp.tl_mk];exact⟨h1,h2⟩
 | [],_::_,_,_,_,h=>by simp [V1]at h
 | _::_,[],_,_,_,h=>by simp [V1]at h
 | [],[],_::_,_,h,_=>h.elim
 | _::_,_::_,[],_,h,_=>h.elim
def ClT {β:Type}(X:XSt) (S:St) (T:KW->Prop) (k:XV->XSt->Option β) (out:β):Prop :=
 ∃xv X',k xv X'=some out/\XOk X'/\Ext X X'/\okV X'.roots X'.next X'.stamp xv/\X'.env=X.env /\
  ∃v ks roots,WkV v (cV X'.roots xv)/\SimX X' ⟨C0 ks S.env,roots,X'.next,S.fix⟩/\(ks=[]/\∀r s x,lk X'.roots r=some (s,x)->s<X.stamp->get roots r=get S.roots r)/\∀K:KW,K v ks roots X'.next->T K
theorem ClT.mono {β:Type}{X:XSt}{S:St}{T T':KW->Prop}{k:XV->XSt->Option β}{out:β}(h:ClT X S T k out) (ht:∀K,T K->T' K):ClT X S T' k out:=by
 obtain⟨a,b,c,d,e,f,g,h1,h2,h3,h4,h5,h6,h7⟩:=h;exact⟨a,b,c,d,e,f,g,h1,h2,h3,h4,h5,h6,fun K hK=>ht K (h7 K hK)⟩
abbrev Zcm {β:Type} (P:Program) (X:XSt) (S:St) (f:FuncId) (args:List Opd) (k:XV->XSt->Option β) (out:β):Prop:=ClT X S (fun K=>evJ P S K (.wr (.call f args))) k out
theorem Vd (hX:XOk X) (hS:SimX X S):∀args:List Opd,Ab (fun y v=>WkV y (cV X.roots v)/\okV X.roots X.next X.stamp v) (args.map S.opd) (args.map X.opd)
 | []=>trivial
 | x::l=>⟨⟨G7 hS x,Ff hX x⟩,Vd hX hS l⟩
theorem Zse (rs:List (Bool×Ty)) (y:Tp (rs.map (·.2))):((F5 rs y).map Dk).length=((Bt rs y).flatMap (·.2)).length:=by rw[Zhl]
theorem Zgw:∀(l:List XD) (X:XSt),(C2 l X).1.length=l.length
 | [],_=>rfl
 | .lf c::l,X=>by simp only[C2,Kf,Zgw l]
 | .sl t xs::l,X=>by simp only[C2,Kf,Zgw l]
theorem Ybf (hX:XOk X) (hS:SimX X S){e:SEnt P}{vs:List XV}{ys:List V}(hv:Ab (fun y v=>WkV y (cV X.roots v)/\okV X.roots X.next X.stamp v) ys vs){k:XV->XSt->Option β}(h:W7 X e vs k=some out):ClT X S (fun K=>Zkq P S e.f ys K) k out:=by
 unfold W7 at h;obtain⟨x,h,h1⟩:=Zvy hX hS e.args _ _ _ hv h;obtain⟨y,hy,h⟩:=Gs h;have hnx:S.next=X.next:=hS.next;have hS':SimX X ⟨S.env,S.roots,X.next,S.fix⟩:=⟨rfl,hS.fix,hS.env,hS.roots⟩;obtain⟨a,b,c,d,s,w,o⟩:=Zgx (F5 e.res y) hX hS';rw[Zhl]at d s w;refine⟨_,_,h,a,b,Zpm (Zbd _ _ o),c,Fc (Gh (Bt e.res y) (Ap ((Bt e.res y).flatMap (·.2)) S.next).1),[],(Ap ((Bt e.res y).flatMap (·.2)) S.next).2.1++S.roots, ?_, ?_,⟨rfl,fun r st z hl hs=>?_⟩, ?_⟩
 ·rw[hnx];exact Zz3 (Zpl _ _ _ _ w (by rw[Zgw,<-Zse,Ko]))
 ·rw[Oz,hnx];exact s
 ·have h0:=b.roots r st z hl hs;have hlt:=(hX.ids r st z h0).1;rw[Ea];cases hg:get (Ap ((Bt e.res y).flatMap (·.2)) S.next).2.1 r with
  | none=>rfl
  | some w'=>have:=((Hs _ _).2 _ (Na hg)).1;simp only at this;omega
 intro K hK;refine⟨_,_,e.ok x y hy,h1, ?_⟩;rw[hnx];rw[hnx,d]at hK;exact hK
theorem Ybg (hX:XOk X) (hS:SimX X S){e:SEnt P}{args:List Opd}{k:XV->XSt->Option β}(h:W7 X e (args.map X.opd) k=some out):Zcm P X S e.f args k out :=
 (Ybf hX hS (Vd hX hS args) h).mono fun K h=>.inr (.inl h)
end
end Go.Vs
namespace Go.Vs
variable [Glb]
def Zk (R:XRs):XRs->List (Nat×Root)
 | []=>[]
 | e::l=>match cRt R e.2.2 with
  | some y=>(e.1,y)::Zk R l
  | none=>del (Zk R l) e.1
def N8 (X:XSt):St:=⟨X.env.map fun e=>(e.1,cV X.roots e.2.2),Zk X.roots X.roots,X.next,X.fix⟩
theorem Zfz (R:XRs):∀(l:XRs) (r:Nat),get (Zk R l) r=match lk l r with|some (_,x)=>cRt R x|none=>none
 | [],r=>rfl
 | (q,s,x)::l,r=>by
  simp only[Zk,Bd];cases hx:cRt R x with
  | some y =>
   simp only[get];split
   ·simp only[hx]
   exact Zfz R l r
  | none =>
   rw[Hj];split
   ·simp only[hx]
   exact Zfz R l r
theorem Zml (R:XRs):∀(l:List (Nat×Nat×XV)) (t:Nat),get (l.map fun e=>(e.1,cV R e.2.2)) t=(lk l t).map fun e=>cV R e.2
 | [],t=>rfl
 | (q,s,x)::l,t=>by
  simp only[Ke,get,Bd];split
  ·rfl
  exact Zml R l t
theorem WkR.refl:∀x:Root,(∀cs,x≠.ib cs)->WkR x x
 | .tr _ _,_=>⟨rfl,rfl⟩
 | .im _ _,_=>⟨rfl,rfl⟩
 | .bx cs,_=>Ab.refl WkC.refl cs
 | .ib cs,h=>(h cs rfl).elim
theorem Zqb (X:XSt):SimX X (N8 X):=by
 refine⟨rfl,rfl, ?_, ?_⟩
 ·intro t s v hl;exact .inr ⟨cV X.roots v,by simp only[N8,Zml,hl];rfl,WkV.refl _⟩
 intro r s x hl y hy;refine⟨y,by simp only[N8,Zfz,hl];exact hy,WkR.refl y fun cs e=>?_⟩;subst e;cases x<;>simp [cRt]at hy
theorem crW {pl:Pls}{nx:Nat}{y x:C}{v:Value}(h:CR pl nx y v) (w:WkC y x):CR pl nx x v:=by
 rcases w with rfl|rfl
 ·exact h
 exact CR.one h
theorem Ztk {pl:Pls}{nx:Nat}:∀{ys xs:List C}{vs:List Value},Ab (CR pl nx) ys vs->Ab WkC ys xs->Ab (CR pl nx) xs vs
 | [],[],[],_,_=>trivial
 | _::_,_::_,_::_,h,w=>⟨crW h.1 w.1,Ztk h.2 w.2⟩
 | [],[],_::_,h,_=>h.elim
 | [],_::_,_,_,w=>w.elim
 | _::_,[],_,_,w=>w.elim
 | _::_,_::_,[],h,_=>h.elim
theorem arW {pl:Pls}{nx:Nat}{y x:A}{v:Value}(h:AR pl nx y v) (w:WkA y x):AR pl nx x v:=by
 cases y with
 | c y=>cases x with
  | c x=>exact crW h w
  | ag _=>exact w.elim
 | ag ys=>cases x with
  | c _=>exact w.elim
  | ag xs=>obtain⟨vs,rfl,h⟩:=h;exact⟨vs,rfl,Ztk h w⟩
theorem Zkb {pl:Pls}{nx:Nat}:∀{ys xs:List A}{vs:List Value},Ab (AR pl nx) ys vs->Ab WkA ys xs->Ab (AR pl nx) xs vs
 | [],[],[],_,_=>trivial
 | _::_,_::_,_::_,h,w=>⟨arW h.1 w.1,Zkb h.2 w.2⟩
 | [],[],_::_,h,_=>h.elim
 | [],_::_,_,_,w=>w.elim
 | _::_,[],_,_,w=>w.elim
 | _::_,_::_,[],h,_=>h.elim
theorem vrW {pl:Pls}{nx:Nat}{y x:V}{v:Value}(h:VR pl nx y v) (w:WkV y x):VR pl nx x v:=by
 cases x with
 | un=>trivial
 | a x=>cases y with
  | a y=>exact arW h w
  | _=>exact w.elim
 | tp xs=>cases y with
  | tp ys=>obtain⟨vs,rfl,h⟩:=h;exact⟨vs,rfl,Zkb h w⟩
  | _=>exact w.elim
 | fn f c=>cases y with
  | fn g d=>obtain⟨rfl,w⟩:=w;obtain⟨vs,rfl,h⟩:=h;exact⟨vs,rfl,Zkb h w⟩
  | _=>exact w.elim
 | sb r n=>cases y with
  | sb r' n'=>obtain⟨rfl,rfl⟩:=w;exact h
  | _=>exact w.elim
theorem Ytf {st:Nat->Nat->Prop}{w:World}{g:Lab}{pl:Pls}{nx r:Nat}{y x:Root}(h:Dj st w g pl nx r y) (k:WkR y x):Dj st w g pl nx r x:=by
 cases y with
 | tr s e=>cases x with
  | tr _ _=>obtain⟨rfl,rfl⟩:=k;exact h
  | _=>exact k.elim
 | im s e=>cases x with
  | im _ _=>obtain⟨rfl,rfl⟩:=k;exact h
  | _=>exact k.elim
 | bx ys=>cases x with
  | bx xs =>
   intro c x hx;obtain⟨y,hy,hw⟩:=Un k hx;obtain⟨v,a,b,l,f⟩:=h c y hy;exact⟨v,a,crW b hw,l,f⟩
  | _=>exact k.elim
 | ib _=>cases x<;>exact k.elim
theorem Le.ren2 {S T:St}(s:List (Nat×Nat)) (hf:T.fix=S.fix) (hok:O7 s T.next S.fix=true) (he:∀t x,get T.env t=some x->x=.un\/∃y,get S.env t=some y/\WkV (y.map (Dx s)) x)
  (hr:∀r x,get T.roots r=some x->∃r0 y,get S.roots r0=some y/\get s r0=some r/\WkR (Rf s y) x):Le S T:=⟨hf,fun N w0 own0 pl0 g pl a w hR=>by
 simp only[O7,Kd,decide_eq_true_eq,Kna,Kmb,beq_iff_eq]at hok;obtain⟨⟨hnd,hall⟩,hle⟩:=hok;obtain⟨h1,h2,h3,h4⟩:=hR;obtain⟨a1,a2,a3,a4,a5,a6⟩:=h1;have hk:∀r r',get s r=some r'->r'<T.next/\∀p,(fun r p=>pl (L3 s r) p) r' p=pl r p:=fun r r' h=>⟨(hall _ (Zf0 h)).1,fun p=>by simp only[Zaj hnd h]⟩;refine⟨fun b o=>(g b o).bind fun x=>(get s x.1).map fun r'=>(r',x.2),fun r p=>pl (L3 s r) p,⟨⟨a1, ?_, ?_, ?_,Kc _, ?_⟩,h2,h3, ?_⟩⟩
 ·intro b o x hx;simp only[Kg,Ks]at hx;obtain⟨y,hy,r',hr',rfl⟩:=hx;obtain⟨b1,b2,_⟩:=a2 b o y hy;exact⟨b1,b2,(hk _ _ hr').1⟩
 ·intro r p hlt;rw[hf]at hlt;have:L3 s r=r:=Zni fun x hx e=>by
   rcases (hall x hx).2 with h|h
   ·omega
   omega
  simp only[this];exact a3 r p hlt
 ·rw[hf];exact hle
 ·intro r x hx;obtain⟨r0,y,h5,h6,h7⟩:=hr r x hx;refine⟨(hk _ _ h6).1,Ytf ((a6 r0 y h5).2.ren hk ?_ h6) h7⟩;intro b o r1 p r2 h7 h8;simp only[h7,Kra,h8,Kha]
 ·intro t x hx;rcases he t x hx with rfl|⟨y,hy,hw⟩
  ·trivial
  ·exact vrW (VR.killed (fun z u hz=>hz.ren hk) (h4 t y hy)) hw⟩
inductive Bc where
 | K
 | U
 | L (t:Ty)
 | O (t:Ty)
inductive It where
 | kt (t:Nat)
 | lt (t:Nat) (ty:Ty)
 | ot (t:Nat) (ty:Ty)
 | bx (t:Nat) (cs:List Bc)
 | sr (t:Nat) (ty:Ty)
def Bc.tys:List Bc->List Ty
 | []=>[]
 | .K::m=>Bc.tys m
 | .U::m=>Bc.tys m
 | .L t::m=>t::Bc.tys m
 | .O t::m=>Ty.L t::Bc.tys m
def H1:List Ty->List Ty->List Ty
 | [],m=>m
 | t::l,m=>t::H1 l m
def It.tys:List It->List Ty
 | []=>[]
 | .kt _::l=>It.tys l
 | .lt _ t::l=>t::It.tys l
 | .ot _ t::l=>.L t::It.tys l
 | .bx _ cs::l=>H1 (Bc.tys cs) (It.tys l)
 | .sr _ t::l=>.L t::It.tys l
abbrev Sg:=(t:Ty)×t.den
def Dz:(ts:List Ty)->Tp ts->List Sg
 | [],_=>[]
 | t::ts,x=>⟨t,Tp.hd t ts x⟩::Dz ts (Tp.tl t ts x)
def Sn {β:Type}:(ts:List Ty)->List Sg->(Tp ts->Option β)->Option β
 | [],[],k=>k ()
 | t::ts,x::l,k=>if h:x.1=t then Sn ts l fun xs=>k (Tp.mk t ts (h ▸ x.2) xs) else none
 | _,_,_=>none
theorem Zk3 {β:Type}{out:β}:∀(ts:List Ty) (l:List Sg) (k:Tp ts->Option β),Sn ts l k=some out->∃x,k x=some out/\Dz ts x=l
 | [],[],k,h=>⟨(),h,rfl⟩
 | t::ts,x::l,k,h=>by
  simp only[Sn]at h;split at h
  ·rename_i e;obtain⟨xs,h,h1⟩:=Zk3 ts l _ h;refine⟨_,h, ?_⟩;obtain⟨t',x⟩:=x;simp only at e;subst e;simp only[Dz,Tp.hd_mk,Tp.tl_mk,h1]
  simp at h
 | [],_::_,_,h=>by simp [Sn]at h
 | _::_,[],_,h=>by simp [Sn]at h
def Wj:Sg->XC
 | ⟨.I k,z⟩=>.i k z
 | ⟨.Y,b⟩=>.y b
 | ⟨.B,x⟩=>.b x
 | ⟨.S,l⟩=>.s l
 | ⟨_,_⟩=>.un
def pkL (c:XC) (ty:Ty):Option Sg:=match ty,c with
 | .I k,.i k' z=>match kEq k k' with
  | true=>some ⟨.I k,z⟩
  | false=>none
 | .Y,.y b=>some ⟨.Y,b⟩
 | .B,.b x=>some ⟨.B,x⟩
 | .S,.s l=>some ⟨.S,l⟩
 | _,_=>none
def pkO (R:XRs) (c:XC):Option (Sg×Nat):=match c with
 | .rw r=>match lk R r with
  | some (_,.tr t xs)=>some (⟨.L t,xs⟩,r)
  | _=>none
 | _=>none
def XSt.tmp (X:XSt) (t:Nat):XV:=X.opd (.t t)
def Yfc:XV->Option Nat
 | .a (.c (.pb r _))=>some r
 | .fn _ cs=>match cs with
  | .c (.pb r _)::_=>some r
  | _=>none
 | _=>none
def P8 (X:XSt) (t:Nat):Option (Nat×List (Nat×XC)):=match Yfc (X.tmp t) with
 | some r=>match lk X.roots r with
  | some (_,.bx cs)=>some (r,cs)
  | _=>none
 | none=>none
def Zcc (X:XSt) (t:Nat):Option Nat:=match X.tmp t with
 | .a (.c (.rw r))=>some r
 | _=>none
def T8 (X X':XSt) (t:Nat):Bool:=match lk X.env t,lk X'.env t with
 | some (s,_),some (s',_)=>Nat.beq s s'
 | _,_=>false
def pkB (R:XRs):List Bc->List (Nat×XC)->List (Nat×XC)->Nat->Option (List Sg×List (Nat×Nat)×Nat)
 | [],[],[],n=>some ([],[],n)
 | .K::bs,e::es,e'::es',n=>match Nat.beq e.1 e'.1 with
  | true=>pkB R bs es es' n
  | false=>none
 | .U::bs,_::es,_::es',n=>pkB R bs es es' n
 | .L ty::bs,_::es,e'::es',n=>match pkL e'.2 ty,pkB R bs es es' n with
  | some v,some (vs,s,m)=>some (v::vs,s,m)
  | _,_=>none
 | .O _::bs,_::es,e'::es',n=>match pkO R e'.2,pkB R bs es es' (n+1) with
  | some (v,r),some (vs,s,m)=>some (v::vs,(r,n)::s,m)
  | _,_=>none
 | _,_,_,_=>none
def pk (X X':XSt):List It->Nat->Option (List Sg×List (Nat×Nat)×Nat)
 | [],n=>some ([],[],n)
 | .kt t::l,n=>match T8 X X' t with
  | true=>pk X X' l n
  | false=>none
 | .lt t ty::l,n=>match X'.tmp t with
  | .a (.c c)=>match pkL c ty,pk X X' l n with
   | some v,some (vs,s,m)=>some (v::vs,s,m)
   | _,_=>none
  | _=>none
 | .ot t ty::l,n=>match X'.tmp t with
  | .a (.c c)=>match pkO X'.roots c,pk X X' l (n+1) with
   | some (v,r),some (vs,s,m)=>some (v::vs,(r,n)::s,m)
   | _,_=>none
  | _=>none
 | .bx t cs::l,n=>match T8 X X' t,P8 X t,P8 X' t with
  | true,some (r,es),some (r',es')=>match Nat.beq r r',pkB X'.roots cs es es' n with
   | true,some (vs,s,m)=>match pk X X' l m with
    | some (vs2,s2,m2)=>some (vs++vs2,s++s2,m2)
    | none=>none
   | _,_=>none
  | _,_,_=>none
 | .sr t ty::l,n=>match T8 X X' t,Zcc X t with
  | true,some r=>match lk X'.roots r with
   | some (_,.tr t xs)=>match pk X X' l n with
    | some (vs,s,m)=>some (⟨.L t,xs⟩::vs,s,m)
    | none=>none
   | _=>none
  | _,_=>none
def Q3:List It->List Nat
 | []=>[]
 | .kt t::l=>t::Q3 l
 | .bx t _::l=>t::Q3 l
 | .sr t _::l=>t::Q3 l
 | _::l=>Q3 l
def Fy (X:XSt):List It->List Nat
 | []=>[]
 | .bx t _::l=>match P8 X t with
  | some (r,_)=>r::Fy X l
  | none=>Fy X l
 | .sr t _::l=>match Zcc X t with
  | some r=>r::Fy X l
  | none=>Fy X l
 | _::l=>Fy X l
def Nh:XC->List Nat
 | .rw r=>[r]
 | .rv r _ _=>[r]
 | .rf r _ _ _ _ _=>[r]
 | .pe r _ _ _ _ _ _=>[r]
 | .pb r _=>[r]
 | _=>[]
def Zpj:List XC->List Nat
 | []=>[]
 | c::l=>Nh c++Zpj l
def Zbb:List XA->List Nat
 | []=>[]
 | .c c::l=>Nh c++Zbb l
 | .ag cs::l=>Zpj cs++Zbb l
def Ys5:XV->List Nat
 | .a x=>Zbb [x]
 | .tp xs=>Zbb xs
 | .sb r _=>[r]
 | .fn _ cs=>Zbb cs
 | _=>[]
def Znp:List Bc->List (Nat×XC)->List Nat
 | .K::bs,e::es=>Nh e.2++Znp bs es
 | _::bs,_::es=>Znp bs es
 | _,_=>[]
def Zbc (X:XSt):List It->List Nat
 | []=>[]
 | .kt t::l=>Ys5 (X.tmp t)++Zbc X l
 | .bx t cs::l=>match P8 X t with
  | some (_,es)=>Znp cs es++Zbc X l
  | none=>Zbc X l
 | _::l=>Zbc X l
def Ztc (X:XSt):Nat->List Nat->List Nat
 | 0,_=>[]
 | n+1,l=>l++Ztc X n (l.flatMap fun r=>match lk X.roots r with
  | some (_,.bx cs)=>Zpj (cs.map (·.2))
  | _=>[])
def Zj2 (l:List Nat):List Nat->List Nat
 | []=>l
 | r::m=>match M0 r l with
  | true=>Zj2 l m
  | false=>Zj2 (r::l) m
def Zgi (X:XSt) (its:List It):List Nat:=(Zj2 [] (Ztc X 3 (Zbc X its))).filter fun r=>!M0 r (Fy X its)
def Oy (X:XSt):List Nat->List (Nat×Nat×XV)
 | []=>[]
 | t::l=>match lk X.env t with
  | some e=>(t,e)::Oy X l
  | none=>Oy X l
def Td (X:XSt):List Nat->XRs
 | []=>[]
 | r::l=>match lk X.roots r with
  | some e=>(r,e)::Td X l
  | none=>Td X l
def Zbm (X X':XSt):List Nat->Bool
 | []=>true
 | r::l=>match lk X.roots r,lk X'.roots r with
  | some (s,_),some (s',_)=>Nat.beq s s'&&Zbm X X' l
  | none,_=>Zbm X X' l
  | _,_=>false
def upB:List Bc->List (Nat×XC)->XSt->List Sg->List ((Nat×XC) ⊕ XC)×XSt×List Sg
 | .K::bs,e::es,A,vs=>let r:=upB bs es A vs;(.inl e::r.1,r.2)
 | .U::bs,_::es,A,vs=>let r:=upB bs es A vs;(.inr .un::r.1,r.2)
 | .L _::bs,_::es,A,v::vs=>let r:=upB bs es A vs;(.inr (Wj v)::r.1,r.2)
 | .O _::bs,_::es,A,v::vs=>match v with
  | ⟨.L t,xs⟩=>let r:=upB bs es (A.newR (.tr t xs)) vs;(.inr (.rw A.next)::r.1,r.2)
  | _=>([],A,[])
 | _,_,A,vs=>([],A,vs)
def Ja (s:Nat):List ((Nat×XC) ⊕ XC)->List (Nat×XC)
 | []=>[]
 | .inl e::l=>e::Ja s l
 | .inr c::l=>(s,c)::Ja s l
def up (X:XSt):List It->XSt->List Sg->XSt
 | [],A,_=>A
 | .kt _::l,A,vs=>up X l A vs
 | .lt t _::l,A,v::vs=>up X l (A.put (some t) (.a (.c (Wj v)))) vs
 | .ot t _::l,A,v::vs=>match v with
  | ⟨.L ty,xs⟩=>up X l ((A.newR (.tr ty xs)).put (some t) (.a (.c (.rw A.next)))) vs
  | _=>A
 | .bx t cs::l,A,vs=>match P8 X t with
  | some (r,es)=>let q:=upB cs es A vs;up X l (q.2.1.setR r (.bx (Ja q.2.1.stamp q.1))) q.2.2
  | none=>A
 | .sr t _::l,A,v::vs=>match v,Zcc X t with
  | ⟨.L ty,xs⟩,some r=>up X l (A.setR r (.tr ty xs)) vs
  | _,_=>A
 | _,A,_=>A
def Se (X:XSt) (its:List It):XSt:=⟨Oy X (Q3 its),Td X (Zgi X its),X.next,X.stamp,X.fix⟩
def Jf (X:XSt) (its:List It) (s:Tp (It.tys its)):XSt:=up X its (Se X its) (Dz _ s)
def Qi (l:List Nat):List Nat->Bool
 | []=>true
 | r::m=>match M0 r l with
  | true=>false
  | false=>Qi l m
def Zo2 {β:Type}(X X':XSt) (its:List It) (k:Tp (It.tys its)->Option β):Option β:=match Zbm X X' (Zgi X its),pk X X' its X.next with
 | true,some (vs,s,_)=>match Nd (s.map (·.1))&&(Qi (s.map (·.1)) (Zgi X its)&&Qi (s.map (·.1)) (Fy X its)) with
  | true=>Sn (It.tys its) vs k
  | false=>none
 | _,_=>none
end Go.Vs
namespace Go.Vs
variable [Glb]
theorem Zk0 {X A:XSt}(hX:XOk X) (h:XOk A) (hE:Ext X A){r nx:Nat}{x:XR}(hn:A.next<=nx) (hr:r<nx)
  (hb:∀cs,x=.bx cs->∀(c:Nat) (e:Nat×XC),cs[c]? = some e->(e.1=A.stamp\/∃s0 cs0,lk X.roots r=some (s0,.bx cs0)/\cs0[c]? = some e)/\okC A.roots A.next A.stamp e.2) :
  XOk ⟨A.env,(r,A.stamp,x)::A.roots,nx,A.stamp+1,A.fix⟩/\Ext X ⟨A.env,(r,A.stamp,x)::A.roots,nx,A.stamp+1,A.fix⟩:=by
 have old:∀q s y,lk ((r,A.stamp,x)::A.roots) q=some (s,y)->s<A.stamp->lk A.roots q=some (s,y):=by
  intro q s y hl hs;rw[Bd]at hl;split at hl
  ·simp only[Ka,Kb]at hl;omega
  exact hl
 have le:=Kcc A.stamp;refine⟨⟨?_, ?_, ?_,Kla h.fixle hn⟩,⟨Kla hE.next hn,Kla hE.stamp le,hE.fix, ?_,hE.env, ?_⟩⟩
 ·intro q s y hl;rw[Bd]at hl;split at hl
  ·rename_i e;simp only[Ka,Kb]at hl;simp only at e;obtain⟨rfl,_⟩:=hl;exact⟨by show q<nx;omega,Kqa _⟩
  obtain⟨a,b⟩:=h.ids q s y hl;exact⟨by show q<nx;omega,Kpb b⟩
 ·intro t s w hl;obtain⟨a,b⟩:=h.env t s w hl;exact⟨Kpb a,okV.ext hn le old b⟩
 ·intro q s cs hl e he;rw[Bd]at hl;split at hl
  ·simp only[Ka,Kb]at hl;obtain⟨c,hc,he'⟩:=Krc he;obtain⟨a,b⟩:=hb cs hl.2 c e (by rw[Ku hc,he']);refine⟨?_,okC.ext hn le old b⟩;rcases a with a|⟨s0,cs0,a1,a2⟩
   ·rw[a];exact Kqa _
   have h1:=(hX.box _ _ _ a1 e (Kaa a2)).1;have h2:=hE.stamp;show e.1<A.stamp+1;omega
  obtain⟨a,b⟩:=h.box q s cs hl e he;exact⟨Kpb a,okC.ext hn le old b⟩
 ·intro q s y hl hs;exact hE.roots q s y (old q s y hl (Kz hs hE.stamp)) hs
 intro q s cs hl c e hc hs;have h2:=hE.stamp;rw[Bd]at hl;split at hl
 ·rename_i eq;simp only at eq;subst eq;simp only[Ka,Kb]at hl;rcases (hb cs hl.2 c e hc).1 with a|a
  ·omega
  exact a
 exact hE.cells q s cs hl c e hc hs
theorem Zal {X:XSt}:∀{l:List Nat}{t:Nat}{e:Nat×XV},lk (Oy X l) t=some e->lk X.env t=some e
 | [],t,e,h=>by simp [Oy,lk]at h
 | q::l,t,e,h=>by
  simp only[Oy]at h;split at h
  ·rename_i e' he;rw[Bd]at h;split at h
   ·rename_i hq;simp only at hq;subst hq;simp only[Ka]at h;rw[<-h];exact he
   exact Zal h
  exact Zal h
theorem Te {X:XSt}:∀{l:List Nat}{t:Nat}{e:Nat×XR},lk (Td X l) t=some e->lk X.roots t=some e/\t∈l
 | [],t,e,h=>by simp [Td,lk]at h
 | q::l,t,e,h=>by
  simp only[Td]at h;split at h
  ·rename_i e' he;rw[Bd]at h;split at h
   ·rename_i hq;simp only at hq;subst hq;simp only[Ka]at h;rw[<-h];exact⟨he,Kp⟩
   obtain⟨a,b⟩:=Te h;exact⟨a,Kj _ b⟩
  obtain⟨a,b⟩:=Te h;exact⟨a,Kj _ b⟩
theorem Zsj {X:XSt}(h:XOk X) (its:List It):XOk (Se X its)/\Ext X (Se X its):=by
 have hr:∀r s x,lk (Td X (Zgi X its)) r=some (s,x)->s<X.stamp->lk X.roots r=some (s,x):=fun r s x hl _=>(Te hl).1;refine⟨⟨fun r s x hl=>h.ids r s x (Te hl).1, ?_, ?_,h.fixle⟩,⟨Kc _,Kc _,rfl,hr,fun t s v hl _=>Zal hl, ?_⟩⟩
 ·intro t s v hl;obtain⟨a,b⟩:=h.env t s v (Zal hl);exact⟨a,okV.ext (Kc _) (Kc _) hr b⟩
 ·intro r s cs hl e he;obtain⟨a,b⟩:=h.box r s cs (Te hl).1 e he;exact⟨a,okC.ext (Kc _) (Kc _) hr b⟩
 intro r s cs hl c e hc _;exact⟨s,cs,(Te hl).1,hc⟩
theorem Zxr {R:XRs}{nx st:Nat}(v:Sg):okC R nx st (Wj v):=by
 obtain⟨t,x⟩:=v;cases t<;>trivial
theorem Zel {X:XSt}{t r:Nat}{es:List (Nat×XC)}(h:P8 X t=some (r,es)):∃s,lk X.roots r=some (s,.bx es):=by
 unfold P8 at h;split at h
 ·split at h
  ·rename_i s cs hl;simp only[Ka,Kb]at h;obtain⟨rfl,rfl⟩:=h;exact⟨s,hl⟩
  simp at h
 simp at h
theorem Zrb {X:XSt}(hX:XOk X){t r:Nat}(h:Zcc X t=some r):r<X.next:=by
 unfold Zcc at h;have hok:=Ff hX (.t t);simp only[XSt.tmp]at h;split at h
 ·rename_i r' hx;simp only[Ka]at h;subst h;rw[hx]at hok;exact hok
 simp at h
theorem Zyj {X A:XSt}(hX:XOk X) (hA:XOk A) (hE:Ext X A){t:Ty}{xs:List t.den}:XOk (A.newR (.tr t xs))/\Ext X (A.newR (.tr t xs)) :=
 Zk0 hX hA hE (Kcc _) (Kqa _) (fun cs h=>by simp at h)
theorem Zcd {X:XSt}(hX:XOk X):∀(bs:List Bc) (es:List (Nat×XC)) (A:XSt) (vs:List Sg),XOk A->Ext X A->(∀e∈es,okC X.roots X.next X.stamp e.2) ->
  XOk (upB bs es A vs).2.1/\Ext X (upB bs es A vs).2.1/\A.next<=(upB bs es A vs).2.1.next/\(∀(c:Nat) (z:(Nat×XC) ⊕ XC),(upB bs es A vs).1[c]? = some z->match z with
   | .inl e=>es[c]? = some e
   | .inr x=>okC (upB bs es A vs).2.1.roots (upB bs es A vs).2.1.next (upB bs es A vs).2.1.stamp x)
 | [],es,A,vs,hA,hE,_=>by simp only[upB];exact⟨hA,hE,Kc _,by simp⟩
 | .K::bs,e::es,A,vs,hA,hE,ho=>by
  obtain⟨a,b,c,d⟩:=Zcd hX bs es A vs hA hE fun e he=>ho e (Kj _ he);refine⟨a,b,c, ?_⟩;intro j z hz;cases j with
  | zero=>simp only[upB,Kv,Ka]at hz;subst hz;rfl
  | succ j=>exact d j z (by simpa [upB] using hz)
 | .U::bs,e::es,A,vs,hA,hE,ho=>by
  obtain⟨a,b,c,d⟩:=Zcd hX bs es A vs hA hE fun e he=>ho e (Kj _ he);refine⟨a,b,c, ?_⟩;intro j z hz;cases j with
  | zero=>simp only[upB,Kv,Ka]at hz;subst hz;trivial
  | succ j=>exact d j z (by simpa [upB] using hz)
 | .L ty::bs,e::es,A,v::vs,hA,hE,ho=>by
  obtain⟨a,b,c,d⟩:=Zcd hX bs es A vs hA hE fun e he=>ho e (Kj _ he);refine⟨a,b,c, ?_⟩;intro j z hz;cases j with
  | zero=>simp only[upB,Kv,Ka]at hz;subst hz;exact Zxr v
  | succ j=>exact d j z (by simpa [upB] using hz)
 | .O ty::bs,e::es,A,⟨t,x⟩::vs,hA,hE,ho=>by
  cases t with
  | L t =>
   obtain⟨a1,b1⟩:=Zyj (t:=t) (xs:=x) hX hA hE;obtain⟨a,b,c,d⟩:=Zcd hX bs es (A.newR (.tr t x)) vs a1 b1 fun e he=>ho e (Kj _ he);refine⟨a,b,Kla (Kcc _) c, ?_⟩;intro j z hz;cases j with
   | zero =>
    simp only[upB,Kv,Ka]at hz;subst hz;exact Kz (Kqa A.next) c
   | succ j=>exact d j z (by simpa [upB] using hz)
  | _=>simp only[upB];exact⟨hA,hE,Kc _,by simp⟩
 | .K::bs,[],A,vs,hA,hE,_=>by simp only[upB];exact⟨hA,hE,Kc _,by simp⟩
 | .U::bs,[],A,vs,hA,hE,_=>by simp only[upB];exact⟨hA,hE,Kc _,by simp⟩
 | .L _::bs,[],A,vs,hA,hE,_=>by simp only[upB];exact⟨hA,hE,Kc _,by simp⟩
 | .O _::bs,[],A,vs,hA,hE,_=>by simp only[upB];exact⟨hA,hE,Kc _,by simp⟩
 | .L _::bs,_::_,A,[],hA,hE,_=>by simp only[upB];exact⟨hA,hE,Kc _,by simp⟩
 | .O _::bs,_::_,A,[],hA,hE,_=>by simp only[upB];exact⟨hA,hE,Kc _,by simp⟩
theorem Ybx {s:Nat}:∀{l:List ((Nat×XC) ⊕ XC)}{c:Nat}{e:Nat×XC},(Ja s l)[c]? = some e->∃z,l[c]? = some z/\(z=.inl e\/∃x,z=.inr x/\e=(s,x))
 | [],c,e,h=>by simp [Ja]at h
 | z::l,0,e,h=>by
  cases z with
  | inl e'=>simp only[Ja,Kv,Ka]at h;subst h;exact⟨_,rfl,.inl rfl⟩
  | inr x=>simp only[Ja,Kv,Ka]at h;subst h;exact⟨_,rfl,.inr ⟨x,rfl,rfl⟩⟩
 | z::l,c+1,e,h=>by
  have:(Ja s l)[c]? = some e:=by cases z<;>simpa [Ja] using h
  simpa using Ybx this
theorem Xq {X:XSt}(hX:XOk X):∀(its:List It) (A:XSt) (vs:List Sg),XOk A->Ext X A->XOk (up X its A vs)/\Ext X (up X its A vs)
 | [],A,vs,hA,hE=>⟨hA,hE⟩
 | .kt t::l,A,vs,hA,hE=>by simp only[up];exact Xq hX l A vs hA hE
 | .lt t ty::l,A,v::vs,hA,hE=>by
  obtain⟨a,b⟩:=Jr hA (d:=some t) (v:=.a (.c (Wj v))) (Zxr v);simp only[up];exact Xq hX l _ vs a (hE.trans b)
 | .ot t ty::l,A,⟨t',x⟩::vs,hA,hE=>by
  cases t' with
  | L t' =>
   obtain⟨a1,b1⟩:=Zyj (t:=t') (xs:=x) hX hA hE;obtain⟨a,b⟩:=Jr a1 (d:=some t) (v:=.a (.c (.rw A.next))) (Kqa A.next);simp only[up];exact Xq hX l _ vs a (b1.trans b)
  | _=>exact⟨hA,hE⟩
 | .bx t cs::l,A,vs,hA,hE=>by
  simp only[up];split
  ·rename_i r es hb;obtain⟨s,hl⟩:=Zel hb;obtain⟨a,b,c,d⟩:=Zcd hX cs es A vs hA hE (fun e he=>(hX.box r s es hl e he).2);have hr:=(hX.ids r s _ hl).1;obtain⟨a',b'⟩:=Zk0 hX a b (x:=.bx (Ja (upB cs es A vs).2.1.stamp (upB cs es A vs).1)) (Kc _) (Kz hr b.next) (by
    intro cs' e j en hj;simp only[XR.bx.injEq]at e;subst e;obtain⟨z,hz,h⟩:=Ybx hj;have hd:=d j z hz;rcases h with rfl|⟨x,rfl,rfl⟩
    ·exact⟨.inr ⟨s,es,hl,hd⟩,okC.ext b.next b.stamp b.roots (hX.box r s es hl en (Kaa hd)).2⟩
    ·exact⟨.inl rfl,hd⟩)
   exact Xq hX l _ _ a' b'
  exact⟨hA,hE⟩
 | .sr t ty::l,A,⟨t',x⟩::vs,hA,hE=>by
  simp only[up];split
  ·rename_i t2 x2 r hv ht;obtain⟨a,b⟩:=Zk0 hX hA hE (x:=.tr t2 x2) (Kc _) (Kz (Zrb hX ht) hE.next) (fun cs h=>by simp at h);exact Xq hX l _ vs a b
  exact⟨hA,hE⟩
 | .lt _ _::_,A,[],hA,hE=>⟨hA,hE⟩
 | .ot _ _::_,A,[],hA,hE=>⟨hA,hE⟩
 | .sr _ _::_,A,[],hA,hE=>by simp only[up];exact⟨hA,hE⟩
theorem Ziy {X:XSt}(hX:XOk X) (its:List It) (s:Tp (It.tys its)):XOk (Jf X its s)/\Ext X (Jf X its s):=by
 obtain⟨a,b⟩:=Zsj hX its;exact Xq hX its _ _ a b
end Go.Vs
namespace Go.Vs
variable [Glb]
def Ll (σ:List (Nat×Nat)) (X:XSt) (c c':XC):Prop :=
 c=.un\/(c=c'/\okC X.roots X.next X.stamp c)\/(∃v,(∀R,cC R c=.lf v)/\∀R,cC R c'=.lf v)\/∃id r',c=.rw id/\c'=.rw r'/\X.next<=id/\get σ r'=some id
def H0 (σ:List (Nat×Nat)) (X X' A:XSt):Prop:=∀r st x,lk A.roots r=some (st,x) ->
 (r<X.next/\get σ r=some r/\((st<X.stamp/\lk X'.roots r=some (st,x))\/(X.stamp<=st/\((∃(ty:Ty) (xs:List ty.den) (st':Nat),x=.tr ty xs/\lk X'.roots r=some (st',.tr ty xs))\/∃cs cs' st',x=.bx cs/\lk X'.roots r=some (st',.bx cs')/\Ab (fun (e e':Nat×XC)=>Ll σ X e.2 e'.2) cs cs')))) \/
 (X.next<=r/\∃(r':Nat) (ty:Ty) (xs:List ty.den) (st':Nat),x=.tr ty xs/\lk X'.roots r'=some (st',.tr ty xs)/\get σ r'=some r)
def Ru (σ:List (Nat×Nat)) (X X' A:XSt):Prop:=∀t st v,lk A.env t=some (st,v) ->
 (lk X'.env t=some (st,v)/\okV X.roots X.next X.stamp v)\/∃st' c c',v=.a (.c c)/\lk X'.env t=some (st',.a (.c c'))/\Ll σ X c c'
section
variable {σ:List (Nat×Nat)} {X X' A:XSt}
theorem Zin {X:XSt}{t:Nat}{v:XV}(h:X.tmp t=v) (hv:v≠.un):∃s,lk X.env t=some (s,v):=by
 simp only[XSt.tmp,XSt.opd]at h;split at h
 ·rename_i s w hl;subst h;exact⟨s,hl⟩
 exact (hv h.symm).elim
theorem Yuw (hX:XOk X) (hE:Ext X X'){t:Nat}(h:T8 X X' t=true):∃s v,lk X.env t=some (s,v)/\lk X'.env t=some (s,v):=by
 unfold T8 at h;split at h
 ·rename_i s v s' v' h1 h2;have:=Kq h;subst this;have h3:=hE.env t s v' h2 (hX.env t s v h1).1;rw[h1]at h3;simp only[Ka,Kb,true_and]at h3;subst h3;exact⟨s,v,h1,h2⟩
 simp at h
theorem Zy9 {c:XC}{ty:Ty}{v:Sg}(h:pkL c ty=some v):Ll σ X (Wj v) c:=by
 right;right;left;unfold pkL at h;split at h
 ·split at h
  ·rename_i hk;simp only[kEq,decide_eq_true_eq]at hk;subst hk;simp only[Ka]at h;subst h;exact⟨_,fun _=>rfl,fun _=>rfl⟩
  simp at h
 ·simp only[Ka]at h;subst h;exact⟨_,fun _=>rfl,fun _=>rfl⟩
 ·simp only[Ka]at h;subst h;exact⟨_,fun _=>rfl,fun _=>rfl⟩
 ·simp only[Ka]at h;subst h;exact⟨_,fun _=>rfl,fun _=>rfl⟩
 simp at h
theorem Zza {R:XRs}{c:XC}{v:Sg}{r:Nat}(h:pkO R c=some (v,r)):c=.rw r/\∃(t:Ty) (xs:List t.den) (st:Nat),v=⟨.L t,xs⟩/\lk R r=some (st,.tr t xs):=by
 unfold pkO at h;split at h
 ·split at h
  ·rename_i st t xs hl;simp only[Ka,Kb]at h;obtain⟨rfl,rfl⟩:=h;exact⟨rfl,t,xs,st,rfl,hl⟩
  simp at h
 simp at h
theorem Zz7 (h:H0 σ X X' A){d:Option Nat}{v:XV}:H0 σ X X' (A.put d v):=by
 cases d<;>exact h
theorem Zux (h:Ru σ X X' A){t:Nat}{c c':XC}{st':Nat}(hl:lk X'.env t=some (st',.a (.c c'))) (hc:Ll σ X c c'):Ru σ X X' (A.put (some t) (.a (.c c))):=by
 intro q st v hv;simp only[XSt.put]at hv;rw[Bd]at hv;split at hv
 ·rename_i e;simp only at e;subst e;simp only[Ka,Kb]at hv;obtain⟨_,rfl⟩:=hv;exact .inr ⟨st',c,c',rfl,hl,hc⟩
 exact h q st v hv
theorem Zz6 (h:H0 σ X X' A) (hn:X.next<=A.next){r' st':Nat}{t:Ty}{xs:List t.den}(hl:lk X'.roots r'=some (st',.tr t xs)) (hs:get σ r'=some A.next):H0 σ X X' (A.newR (.tr t xs)):=by
 intro q st v hv;simp only[XSt.newR]at hv;rw[Bd]at hv;split at hv
 ·rename_i e;simp only at e;subst e;simp only[Ka,Kb]at hv;obtain⟨_,rfl⟩:=hv;exact .inr ⟨hn,r',t,xs,st',rfl,hl,hs⟩
 exact h q st v hv
theorem Zz8 (h:H0 σ X X' A){r:Nat}{x:XR}(hr:r<X.next) (hg:get σ r=some r) (hst:X.stamp<=A.stamp) (hx:(∃(ty:Ty) (xs:List ty.den) (st':Nat),x=.tr ty xs/\lk X'.roots r=some (st',.tr ty xs))\/∃cs cs' st',x=.bx cs/\lk X'.roots r=some (st',.bx cs')/\Ab (fun (e e':Nat×XC)=>Ll σ X e.2 e'.2) cs cs'):H0 σ X X' (A.setR r x):=by
 intro q st v hv;simp only[XSt.setR]at hv;rw[Bd]at hv;split at hv
 ·rename_i e;simp only at e;subst e;simp only[Ka,Kb]at hv;obtain⟨rfl,rfl⟩:=hv;exact .inl ⟨hr,hg,.inr ⟨hst,hx⟩⟩
 exact h q st v hv
theorem Zce (hX:XOk X) (hE:Ext X X'):∀(bs:List Bc) (es es':List (Nat×XC)) (A:XSt) (n:Nat) (vs:List Sg) (s:List (Nat×Nat)) (m:Nat) (rest:List Sg),pkB X'.roots bs es es' n=some (vs,s,m)->A.next=n->X.next<=n->X.stamp<=A.stamp->(∀p∈s,get σ p.1=some p.2) ->
  (∀e∈es,e.1<X.stamp/\okC X.roots X.next X.stamp e.2)->(∀(c:Nat) (e':Nat×XC),es'[c]? = some e'->e'.1<X.stamp->es[c]? = some e')->H0 σ X X' A ->
  ∃us B,upB bs es A (vs++rest)=(us,B,rest)/\H0 σ X X' B/\B.env=A.env/\B.next=m/\n<=m/\X.stamp<=B.stamp/\s.map (·.2)=List.range' n (m-n)/\Ab (fun z (e':Nat×XC)=>Ll σ X (match z with|.inl e=>e.2|.inr x=>x) e'.2) us es'
 | [],[],[],A,n,vs,s,m,rest,h,hn,hx,hst,_,_,_,hR=>by
  simp only[pkB,Ka,Kb]at h;obtain⟨rfl,rfl,rfl⟩:=h;exact⟨[],A,rfl,hR,rfl,hn,Kc _,hst,by simp,trivial⟩
 | .K::bs,e::es,e'::es',A,n,vs,s,m,rest,h,hn,hx,hst,hs,ho,hold,hR=>by
  simp only[pkB]at h;split at h
  ·rename_i hb;have hb:=Kq hb;obtain⟨us,B,h1,h2,h3,h4,h5,h6,h7,h8⟩:=Zce hX hE bs es es' A n vs s m rest h hn hx hst hs (fun e he=>ho e (Kj _ he)) (fun c e' he hlt=>by simpa using hold (c+1) e' (by simpa using he) hlt) hR;have h0:=hold 0 e' rfl (by rw[<-hb];exact (ho e Kp).1);simp only[Kv,Ka]at h0;refine⟨.inl e::us,B,by simp only[upB,h1],h2,h3,h4,h5,h6,h7,.inr (.inl ⟨by rw[h0],(ho e Kp).2⟩),h8⟩
  simp at h
 | .U::bs,e::es,e'::es',A,n,vs,s,m,rest,h,hn,hx,hst,hs,ho,hold,hR=>by
  simp only[pkB]at h;obtain⟨us,B,h1,h2,h3,h4,h5,h6,h7,h8⟩:=Zce hX hE bs es es' A n vs s m rest h hn hx hst hs (fun e he=>ho e (Kj _ he)) (fun c e' he hlt=>by simpa using hold (c+1) e' (by simpa using he) hlt) hR;exact⟨.inr .un::us,B,by simp only[upB,h1],h2,h3,h4,h5,h6,h7,.inl rfl,h8⟩
 | .L ty::bs,e::es,e'::es',A,n,vs,s,m,rest,h,hn,hx,hst,hs,ho,hold,hR=>by
  simp only[pkB]at h;split at h
  ·rename_i v vs0 s0 m0 hv hp;simp only[Ka,Kb]at h;obtain⟨rfl,rfl,rfl⟩:=h;obtain⟨us,B,h1,h2,h3,h4,h5,h6,h7,h8⟩:=Zce hX hE bs es es' A n vs0 s0 m0 rest hp hn hx hst hs (fun e he=>ho e (Kj _ he)) (fun c e' he hlt=>by simpa using hold (c+1) e' (by simpa using he) hlt) hR;exact⟨.inr (Wj v)::us,B,by simp only[Kn,upB,h1],h2,h3,h4,h5,h6,h7,Zy9 hv,h8⟩
  simp at h
 | .O ty::bs,e::es,e'::es',A,n,vs,s,m,rest,h,hn,hx,hst,hs,ho,hold,hR=>by
  simp only[pkB]at h;split at h
  ·rename_i v r0 vs0 s0 m0 hv hp;simp only[Ka,Kb]at h;obtain⟨rfl,rfl,rfl⟩:=h;obtain⟨hc,t,xs,st,rfl,hl⟩:=Zza hv;have hg:=hs (r0,n) Kp;simp only at hg;have hR':=Zz6 hR (by omega) hl (by rw[hn];exact hg);obtain⟨us,B,h1,h2,h3,h4,h5,h6,h7,h8⟩:=Zce hX hE bs es es' (A.newR (.tr t xs)) (n+1) vs0 s0 m0 rest hp (by show A.next+1=_;rw[hn]) (by omega) (by show X.stamp<=A.stamp+1;omega) (fun p hp=>hs p (Kj _ hp)) (fun e he=>ho e (Kj _ he)) (fun c e' he hlt=>by simpa using hold (c+1) e' (by simpa using he) hlt) hR';refine⟨.inr (.rw A.next)::us,B,by simp only[Kn,upB,h1],h2,h3,h4,by omega,h6, ?_,.inr (.inr (.inr ⟨_,_,rfl,hc,by omega,by rw[hn];exact hg⟩)),h8⟩;simp only[Ke,h7];rw[show m0-n=(m0-(n+1))+1 by omega,Kmf]
  simp at h
 | [],_::_,_,_,_,_,_,_,_,h,_,_,_,_,_,_,_=>by simp [pkB]at h
 | [],[],_::_,_,_,_,_,_,_,h,_,_,_,_,_,_,_=>by simp [pkB]at h
 | .K::_,[],_,_,_,_,_,_,_,h,_,_,_,_,_,_,_=>by simp [pkB]at h
 | .U::_,[],_,_,_,_,_,_,_,h,_,_,_,_,_,_,_=>by simp [pkB]at h
 | .L _::_,[],_,_,_,_,_,_,_,h,_,_,_,_,_,_,_=>by simp [pkB]at h
 | .O _::_,[],_,_,_,_,_,_,_,h,_,_,_,_,_,_,_=>by simp [pkB]at h
 | .K::_,_::_,[],_,_,_,_,_,_,h,_,_,_,_,_,_,_=>by simp [pkB]at h
 | .U::_,_::_,[],_,_,_,_,_,_,h,_,_,_,_,_,_,_=>by simp [pkB]at h
 | .L _::_,_::_,[],_,_,_,_,_,_,h,_,_,_,_,_,_,_=>by simp [pkB]at h
 | .O _::_,_::_,[],_,_,_,_,_,_,h,_,_,_,_,_,_,_=>by simp [pkB]at h
theorem Zqh {σ:List (Nat×Nat)}{X:XSt}{s:Nat}:∀{us:List ((Nat×XC) ⊕ XC)}{es':List (Nat×XC)},Ab (fun z (e':Nat×XC)=>Ll σ X (match z with|.inl e=>e.2|.inr x=>x) e'.2) us es'->Ab (fun (e e':Nat×XC)=>Ll σ X e.2 e'.2) (Ja s us) es'
 | [],[],_=>trivial
 | .inl e::us,e'::es',h=>⟨h.1,Zqh h.2⟩
 | .inr x::us,e'::es',h=>⟨h.1,Zqh h.2⟩
 | [],_::_,h=>h.elim
 | .inl _::_,[],h=>h.elim
 | .inr _::_,[],h=>h.elim
theorem Xr (hX:XOk X) (hE:Ext X X'):∀(its:List It) (A:XSt) (n:Nat) (vs:List Sg) (s:List (Nat×Nat)) (m:Nat),pk X X' its n=some (vs,s,m)->A.next=n->X.next<=n->X.stamp<=A.stamp->(∀p∈s,get σ p.1=some p.2)->(∀r∈Fy X its,get σ r=some r) ->
  H0 σ X X' A->Ru σ X X' A->H0 σ X X' (up X its A vs)/\Ru σ X X' (up X its A vs)/\(up X its A vs).next=m/\n<=m/\s.map (·.2)=List.range' n (m-n)
 | [],A,n,vs,s,m,h,hn,hx,hst,hs,hc,hR,hEn=>by
  simp only[pk,Ka,Kb]at h;obtain⟨rfl,rfl,rfl⟩:=h;exact⟨hR,hEn,hn,Kc _,by simp⟩
 | .kt t::l,A,n,vs,s,m,h,hn,hx,hst,hs,hc,hR,hEn=>by
  simp only[pk]at h;split at h
  ·simp only[up];exact Xr hX hE l A n vs s m h hn hx hst hs hc hR hEn
  simp at h
 | .lt t ty::l,A,n,vs,s,m,h,hn,hx,hst,hs,hc,hR,hEn=>by
  simp only[pk]at h;split at h
  ·rename_i c ht;split at h
   ·rename_i v vs0 s0 m0 hv hp;simp only[Ka,Kb]at h;obtain⟨rfl,rfl,rfl⟩:=h;obtain⟨st',hl⟩:=Zin ht (by simp);simp only[up];exact Xr hX hE l _ n vs0 s0 m0 hp hn hx (by show X.stamp<=A.stamp+1;omega) hs hc (Zz7 hR) (Zux hEn hl (Zy9 hv))
   simp at h
  simp at h
 | .ot t ty::l,A,n,vs,s,m,h,hn,hx,hst,hs,hc,hR,hEn=>by
  simp only[pk]at h;split at h
  ·rename_i c ht;split at h
   ·rename_i v r0 vs0 s0 m0 hv hp;simp only[Ka,Kb]at h;obtain⟨rfl,rfl,rfl⟩:=h;obtain⟨st',hl⟩:=Zin ht (by simp);obtain⟨rfl,t',xs,st,rfl,hl2⟩:=Zza hv;have hg:=hs (r0,n) Kp;simp only at hg;have hR':=Zz6 hR (by omega) hl2 (by rw[hn];exact hg);simp only[up];obtain⟨a,b,c,d,e⟩:=Xr hX hE l ((A.newR (.tr t' xs)).put (some t) (.a (.c (.rw A.next)))) (n+1) vs0 s0 m0 hp (by show A.next+1=_;rw[hn]) (by omega) (by show X.stamp<=A.stamp+1+1;omega) (fun p hp=>hs p (Kj _ hp)) hc (Zz7 hR') (Zux (A:=A.newR (.tr t' xs)) hEn hl (.inr (.inr (.inr ⟨_,_,rfl,rfl,by omega,by rw[hn];exact hg⟩))));refine⟨a,b,c,by omega, ?_⟩;simp only[Ke,e];rw[show m0-n=(m0-(n+1))+1 by omega,Kmf]
   simp at h
  simp at h
 | .bx t cs::l,A,n,vs,s,m,h,hn,hx,hst,hs,hc,hR,hEn=>by
  simp only[pk]at h;split at h
  ·rename_i r es r' es' hsame hb hb';split at h
   ·rename_i vs0 s0 m0 hrr hp;have hrr:=Kq hrr;subst hrr;split at h
    ·rename_i vs2 s2 m2 hp2;simp only[Ka,Kb]at h;obtain⟨rfl,rfl,rfl⟩:=h;obtain⟨st,hl⟩:=Zel hb;obtain⟨st',hl'⟩:=Zel hb';have hcr:Fy X (.bx t cs::l)=r::Fy X l:=by simp only[Fy,hb]
     rw[hcr]at hc;obtain⟨us,B,h1,h2,h3,h4,h5,h6,h7,h8⟩:=Zce (σ:=σ) hX hE cs es es' A n vs0 s0 m0 vs2 hp hn hx hst (fun p hp=>hs p (Kzd _ hp)) (fun e he=>hX.box r st es hl e he) (fun c e' he hlt=>by
      obtain⟨q1,q2,q3,q4⟩:=hE.cells r st' es' hl' c e' he hlt;rw[hl]at q3;simp only[Ka,Kb,XR.bx.injEq]at q3;rw[q3.2];exact q4) hR
     have hup:up X (.bx t cs::l) A (vs0++vs2)=up X l (B.setR r (.bx (Ja B.stamp us))) vs2:=by simp only[up,hb,h1]
     rw[hup];have hE2:Ru σ X X' (B.setR r (.bx (Ja B.stamp us))):=by
      intro q st v hv;have:lk B.env q=some (st,v):=hv;rw[h3]at this;exact hEn q st v this
     obtain⟨a,b,c,d,e⟩:=Xr hX hE l (B.setR r (.bx (Ja B.stamp us))) m0 vs2 s2 m2 hp2 h4 (by omega) (by show X.stamp<=B.stamp+1;omega) (fun p hp=>hs p (Kic _ hp)) (fun q hq=>hc q (Kj _ hq))
      (Zz8 h2 (hX.ids r st _ hl).1 (hc r Kp) h6 (.inr ⟨_,es',st',rfl,hl',Zqh h8⟩)) hE2
     refine⟨a,b,c,by omega, ?_⟩;rw[Kx,h7,e,show m2-n=(m0-n)+(m2-m0) by omega];have:m0=n+(m0-n):=by omega
     rw[show List.range' m0 (m2-m0)=List.range' (n+1*(m0-n)) (m2-m0) by rw[Nat.one_mul,<-this]];rw[List.range'_append]
    simp at h
   simp at h
  simp at h
 | .sr t ty::l,A,n,vs,s,m,h,hn,hx,hst,hs,hc,hR,hEn=>by
  simp only[pk]at h;split at h
  ·rename_i r hsame ht;split at h
   ·rename_i st' t' xs hl;split at h
    ·rename_i vs0 s0 m0 hp;simp only[Ka,Kb]at h;obtain⟨rfl,rfl,rfl⟩:=h;have hcr:Fy X (.sr t ty::l)=r::Fy X l:=by simp only[Fy,ht]
     rw[hcr]at hc;have hup:up X (.sr t ty::l) A (⟨.L t',xs⟩::vs0)=up X l (A.setR r (.tr t' xs)) vs0:=by simp only[up,ht]
     rw[hup];exact Xr hX hE l (A.setR r (.tr t' xs)) n vs0 s0 m0 hp hn hx (by show X.stamp<=A.stamp+1;omega) hs (fun q hq=>hc q (Kj _ hq)) (Zz8 hR (Zrb hX ht) (hc r Kp) hst (.inl ⟨_,_,_,rfl,hl⟩)) hEn
    simp at h
   simp at h
  simp at h
theorem Zno (hr:H0 σ X X' A){R0:XRs}{c:XC}(hc:okC R0 X.next X.stamp c):cC A.roots c=.un\/cC A.roots c=Dx σ (cC X'.roots c):=by
 have root:∀{r:Nat},r<X.next->∀{st:Nat} {x:XR},lk A.roots r=some (st,x)->get σ r=some r/\((st<X.stamp/\lk X'.roots r=some (st,x))\/(X.stamp<=st/\((∃(ty:Ty) (xs:List ty.den) (st':Nat),x=.tr ty xs/\lk X'.roots r=some (st',.tr ty xs))\/∃cs cs' st',x=.bx cs/\lk X'.roots r=some (st',.bx cs')/\Ab (fun (e e':Nat×XC)=>Ll σ X e.2 e'.2) cs cs'))):=by
  intro r hlt st x hl;rcases hr r st x hl with ⟨_,a,b⟩|⟨a,_⟩
  ·exact⟨a,b⟩
  omega
 cases c with
 | un=>exact .inl rfl
 | nl sz=>exact .inr rfl
 | lf v=>exact .inr rfl
 | i k z=>exact .inr rfl
 | y b=>exact .inr rfl
 | b x=>exact .inr rfl
 | s l=>exact .inr rfl
 | rw r =>
  cases hl:lk A.roots r with
  | none=>left;simp only[cC,hl]
  | some e =>
   obtain⟨st,x⟩:=e;obtain⟨g,h|⟨_,h|h⟩⟩:=root hc hl
   ·cases x with
    | tr t xs=>right;simp only[cC,hl,h.2,Dx,g]
    | im t xs=>right;simp only[cC,hl,h.2,Dx,g]
    | _=>left;simp only[cC,hl]
   ·obtain⟨ty,xs,st',rfl,h⟩:=h;right;simp only[cC,hl,h,Dx,g]
   obtain⟨cs,cs',st',rfl,h,_⟩:=h;left;simp only[cC,hl]
 | rv r lo n =>
  cases hl:lk A.roots r with
  | none=>left;simp only[cC,hl]
  | some e =>
   obtain⟨st,x⟩:=e;obtain⟨g,h|⟨_,h|h⟩⟩:=root hc hl
   ·cases x with
    | tr t xs=>right;simp only[cC,hl,h.2,Dx,g]
    | im t xs=>right;simp only[cC,hl,h.2,Dx,g]
    | _=>left;simp only[cC,hl]
   ·obtain⟨ty,xs,st',rfl,h⟩:=h;right;simp only[cC,hl,h,Dx,g]
   obtain⟨cs,cs',st',rfl,h,_⟩:=h;left;simp only[cC,hl]
 | rf r v p lo t ws =>
  cases hv:Cn A.roots r v with
  | false=>left;simp only[cC,hv]
  | true =>
   obtain⟨x,hl⟩:=Zcf hv;obtain⟨g,h|⟨h,_⟩⟩:=root hc.1 hl
   ·right;simp only[cC,hv,Mj h.2,Dx,g]
   have:=hc.2.1;omega
 | pe r v p i c t y =>
  cases hv:Cn A.roots r v with
  | false=>left;simp only[cC,hv]
  | true =>
   obtain⟨x,hl⟩:=Zcf hv;obtain⟨g,h|⟨h,_⟩⟩:=root hc.1 hl
   ·right;simp only[cC,hv,Mj h.2,Dx,g]
   have:=hc.2.1;omega
 | pb r c =>
  cases hl:lk A.roots r with
  | none=>left;simp only[cC,hl]
  | some e =>
   obtain⟨st,x⟩:=e;obtain⟨g,h|⟨_,h|h⟩⟩:=root hc hl
   ·cases x with
    | bx cs=>right;simp only[cC,hl,h.2,Dx,g]
    | _=>left;simp only[cC,hl]
   ·obtain⟨ty,xs,st',rfl,h⟩:=h;left;simp only[cC,hl]
   obtain⟨cs,cs',st',rfl,h,_⟩:=h;right;simp only[cC,hl,h,Dx,g]
theorem Zzt (hn:(σ.map (·.2)).Nodup) (hr:H0 σ X X' A){c c':XC}(hc:Ll σ X c c'){y:C}(hy:WkC y (cC X'.roots c')):WkC (Dx σ y) (cC A.roots c):=by
 rcases hc with rfl|⟨rfl,ho⟩|⟨v,h1,h2⟩|⟨id,r',rfl,rfl,hid,hg⟩
 ·exact .inr rfl
 ·exact Zro (κ:=Dx σ) rfl hy (Zno hr ho)
 ·rw[h2]at hy;rw[h1,hy.eq (by simp)];exact .inl rfl
 cases hl:lk A.roots id with
 | none=>right;simp only[cC,hl]
 | some e =>
  obtain⟨st,x⟩:=e;rcases hr id st x hl with ⟨a,_⟩|⟨_,r2,ty,xs,st',rfl,h1,h2⟩
  ·omega
  have:r2=r':=by rw[<-Zaj hn h2,<-Zaj hn hg]
  subst this;simp only[cC,h1]at hy;rw[hy.eq (by simp)];left;simp only[cC,hl,Dx,hg]
theorem Zzu (hn:(σ.map (·.2)).Nodup) (hr:H0 σ X X' A):∀{es es':List (Nat×XC)}{ys:List C},Ab (fun (e e':Nat×XC)=>Ll σ X e.2 e'.2) es es'->Ab WkC ys (es'.map fun e=>cC X'.roots e.2)->Ab WkC (ys.map (Dx σ)) (es.map fun e=>cC A.roots e.2)
 | [],[],[],_,_=>trivial
 | e::es,e'::es',y::ys,h,w=>⟨Zzt hn hr h.1 w.1,Zzu hn hr h.2 w.2⟩
 | [],_::_,_,h,_=>h.elim
 | _::_,[],_,h,_=>h.elim
 | [],[],_::_,_,w=>w.elim
 | _::_,_::_,[],_,w=>w.elim
theorem Yq5 {S':St}(hX:XOk X) (hX':XOk X') (hE:Ext X X') (hS:SimX X' S') (hok:O7 σ A.next S'.fix=true) (hf:A.fix=X'.fix) (hR:H0 σ X X' A) (hEn:Ru σ X X' A):Le S' (N8 A):=by
 have hn:(σ.map (·.2)).Nodup:=by
  simp only[O7,Kd,decide_eq_true_eq]at hok;exact hok.1.1
 refine Le.ren2 σ (by rw[hS.fix];exact hf) hok ?_ ?_
 ·intro t x hx;simp only[N8,Zml]at hx;cases hl:lk A.env t with
  | none=>rw[hl]at hx;simp at hx
  | some e =>
   obtain⟨st,v⟩:=e;rw[hl]at hx;simp only[Kha,Ka]at hx;subst hx;rcases hEn t st v hl with ⟨h1,h2⟩|⟨st',c,c',rfl,h1,h2⟩
   ·rcases hS.env t st v h1 with rfl|⟨y,g1,g2⟩
    ·exact .inl rfl
    exact .inr ⟨y,g1,Ydt (κ:=Dx σ) rfl (fun c hc=>Zno hR hc) (okV.ext (Kc _) (Kc _) hE.roots h2) g2⟩
   rcases hS.env t st' _ h1 with h|⟨y,g1,g2⟩
   ·simp at h
   refine .inr ⟨y,g1, ?_⟩;cases y with
   | a y=>cases y with
    | c y=>exact Zzt hn hR h2 g2
    | ag _=>exact g2.elim
   | _=>exact g2.elim
 intro r x hx;simp only[N8,Zfz]at hx;split at hx
 ·rename_i st z hl;rcases hR r st z hl with ⟨a,b,c⟩|⟨a,r',ty,xs,st',rfl,h1,h2⟩
  ·have same:∀{st':Nat} {z':XR},lk X'.roots r=some (st',z')->(∀y,cRt X'.roots z'=some y->∀y',WkR y' y->WkR (Rf σ y') x)->(∃y,cRt X'.roots z'=some y)->∃r0 y,get S'.roots r0=some y/\get σ r0=some r/\WkR (Rf σ y) x:=by
    intro st' z' hl' hw ⟨y,hy⟩;obtain⟨y',g1,g2⟩:=hS.roots r st' z' hl' y hy;exact⟨r,y',g1,b,hw y hy y' g2⟩
   rcases c with ⟨c1,c2⟩|⟨c1,⟨ty,xs,st',rfl,c2⟩|⟨cs,cs',st',rfl,c2,c3⟩⟩
   ·refine same c2 ?_ ?_
    ·intro y hy y' hw;cases z with
     | tr t xs =>
      simp only[cRt,Ka]at hx hy;subst hx hy;cases y'<;>first|exact hw|exact hw.elim
     | im t xs =>
      simp only[cRt,Ka]at hx hy;subst hx hy;cases y'<;>first|exact hw|exact hw.elim
     | bx cs =>
      simp only[cRt,Ka]at hx hy;subst hx hy;cases y' with
      | bx ys =>
       have h1:Ab WkC ys ((cs.map (·.2)).map (cC X'.roots)):=by rw[Kqb];exact hw
       have h2:=Zi1 (κ:=Dx σ) rfl (fun c hc=>Zno hR hc) (fun c hc=>by
        obtain⟨e,he,rfl⟩:=Ky.1 hc;exact okC.ext (Kc _) (Kc _) hE.roots (hX.box r st cs (hE.roots r st _ c2 c1) e he).2) h1
       rw[Kqb]at h2;exact h2
      | _=>exact hw.elim
     | gone=>simp [cRt]at hx
    cases z with
    | gone=>simp [cRt]at hx
    | _=>exact⟨_,rfl⟩
   ·refine same c2 ?_ ⟨_,rfl⟩;intro y hy y' hw;simp only[cRt,Ka]at hx hy;subst hx hy;cases y'<;>first|exact hw|exact hw.elim
   refine same c2 ?_ ⟨_,rfl⟩;intro y hy y' hw;simp only[cRt,Ka]at hx hy;subst hx hy;cases y' with
   | bx ys=>exact Zzu hn hR c3 hw
   | _=>exact hw.elim
  obtain⟨y',g1,g2⟩:=hS.roots r' st' _ h1 _ rfl;simp only[cRt,Ka]at hx;subst hx;refine⟨r',y',g1,h2, ?_⟩;cases y'<;>first|exact g2|exact g2.elim
 simp at hx
theorem Vp {l:List Nat}:∀{m:List Nat},Qi l m=true->∀r∈m,r ∉ l
 | [],_,r,hr=>by simp at hr
 | q::m,h,r,hr=>by
  simp only[Qi]at h;split at h
  ·simp at h
  rename_i hq;rcases Kh.1 hr with rfl|hr
  ·exact fun hm=>by rw[Z4.2 hm]at hq;simp at hq
  exact Vp h r hr
theorem Zp2 (hX:XOk X) (hE:Ext X X'):∀{l:List Nat},Zbm X X' l=true->∀r∈l,∀e,lk X.roots r=some e->lk X'.roots r=some e
 | [],_,r,hr,_,_=>by simp at hr
 | q::l,h,r,hr,e,he=>by
  simp only[Zbm]at h;split at h
  ·rename_i s x s' x' h1 h2;simp only[Kd]at h;have hs:=Kq h.1;subst hs;rcases Kh.1 hr with rfl|hr
   ·have h3:=hE.roots r s x' h2 (hX.ids r s x h1).2;rw[h1]at h3 he;simp only[Ka,Kb,true_and]at h3 he;rw[h2,<-h3];exact congrArg some he
   exact Zp2 hX hE h.2 r hr e he
  ·rename_i h1;rcases Kh.1 hr with rfl|hr
   ·rw[h1]at he;simp at he
   exact Zp2 hX hE h r hr e he
  simp at h
theorem Zv0:∀{s:List (Nat×Nat)}{σ:List (Nat×Nat)},(s.map (·.1)).Nodup->∀p∈s,get (s++σ) p.1=some p.2
 | [],σ,_,p,hp=>by simp at hp
 | q::s,σ,hn,p,hp=>by
  simp only[Ke,Kta]at hn;simp only[Kn,get];rcases Kh.1 hp with rfl|hp
  ·rw[if_pos rfl]
  rw[if_neg (fun e=>hn.1 (by rw[e];exact Ky.2 ⟨p,hp,rfl⟩))];exact Zv0 hn.2 p hp
theorem Ykd (n r:Nat) (h:r<n):get ((List.range n).map fun r=>(r,r)) r=some r:=by
 have key:∀l:List Nat,r∈l->get (l.map fun r=>(r,r)) r=some r:=by
  intro l
  induction l with
  | nil=>intro h;simp at h
  | cons a l ih =>
   intro h;simp only[Ke,get];split
   ·rename_i e;rw[e]
   rename_i e;exact ih ((Kh.1 h).resolve_left fun e'=>e e'.symm)
 exact key _ (Kvb.2 h)
theorem Yke {s σ:List (Nat×Nat)}{r:Nat}(h:r ∉ s.map (·.1)):get (s++σ) r=get σ r:=by
 induction s with
 | nil=>rfl
 | cons q s ih =>
  simp only[Ke,Kh,not_or]at h;simp only[Kn,get];rw[if_neg (fun e=>h.1 e.symm)];exact ih h.2
theorem Ysj {β:Type}{out:β}{S':St}{its:List It}{k:Tp (It.tys its)->Option β}(hX:XOk X) (hX':XOk X') (hE:Ext X X') (hS:SimX X' S') (h:Zo2 X X' its k=some out) :
  ∃s,k s=some out/\Le S' (N8 (Jf X its s)):=by
 unfold Zo2 at h;split at h
 ·rename_i vs s m hsame hp;split at h
  ·rename_i hc;simp only[Kd]at hc;obtain⟨hnd,hd1,hd2⟩:=hc;have hnd:=Rb hnd;obtain⟨x,hk,hsp⟩:=Zk3 _ _ _ h;refine⟨x,hk, ?_⟩;have hps:∀p∈s,get (s++(List.range X.next).map fun r=>(r,r)) p.1=some p.2:=Zv0 hnd;have hdiag:∀r,r<X.next->r ∉ s.map (·.1)->get (s++(List.range X.next).map fun r=>(r,r)) r=some r:=fun r h1 h2=>by rw[Yke h2,Ykd _ _ h1]
   have hchg:∀r∈Fy X its,r<X.next:=by
    intro r hr;have key:∀l:List It,r∈Fy X l->r<X.next:=by
     intro l
     induction l with
     | nil=>intro h;simp [Fy]at h
     | cons i l ih =>
      intro h;cases i with
      | bx t cs =>
       simp only[Fy]at h;split at h
       ·rename_i q es hb;rcases Kh.1 h with rfl|h
        ·obtain⟨st,hl⟩:=Zel hb;exact (hX.ids _ _ _ hl).1
        exact ih h
       exact ih h
      | sr t ty =>
       simp only[Fy]at h;split at h
       ·rename_i q hb;rcases Kh.1 h with rfl|h
        ·exact Zrb hX hb
        exact ih h
       exact ih h
      | _=>exact ih h
    exact key its hr
   obtain⟨hb0,hb1⟩:=Zsj hX its;have R0:H0 (s++(List.range X.next).map fun r=>(r,r)) X X' (Se X its):=by
    intro r st z hl;obtain⟨h1,h2⟩:=Te hl;have h3:=hX.ids r st z h1;exact .inl ⟨h3.1,hdiag r h3.1 (Vp hd1 r h2),.inl ⟨h3.2,Zp2 hX hE hsame r h2 _ h1⟩⟩
   have E0:Ru (s++(List.range X.next).map fun r=>(r,r)) X X' (Se X its):=by
    intro t st v hl;have h1:=Zal hl;have ht:t∈Q3 its:=by
     have key:∀(l:List Nat),(∃e,lk (Oy X l) t=some e)->t∈l:=by
      intro l
      induction l with
      | nil=>rintro ⟨e,he⟩;simp [Oy,lk]at he
      | cons q l ih =>
       rintro ⟨e,he⟩;simp only[Oy]at he;split at he
       ·rw[Bd]at he;split at he
        ·rename_i e;exact Kh.2 (.inl e.symm)
        exact Kj _ (ih ⟨e,he⟩)
       exact Kj _ (ih ⟨e,he⟩)
     exact key _ ⟨_,hl⟩
    have hsameT:T8 X X' t=true:=by
     have key:∀(l:List It) (n:Nat) (r:List Sg×List (Nat×Nat)×Nat),pk X X' l n=some r->t∈Q3 l->T8 X X' t=true:=by
      intro l
      induction l with
      | nil=>intro n r _ h;simp [Q3]at h
      | cons i l ih =>
       intro n r hr h;cases i with
       | kt q =>
        simp only[pk]at hr;split at hr
        ·rename_i hq;rcases Kh.1 h with rfl|h
         ·exact hq
         exact ih _ _ hr h
        simp at hr
       | lt q ty =>
        simp only[pk]at hr;split at hr
        ·split at hr
         ·rename_i h1 h2;exact ih _ _ h2 h
         simp at hr
        simp at hr
       | ot q ty =>
        simp only[pk]at hr;split at hr
        ·split at hr
         ·rename_i h1 h2;exact ih _ _ h2 h
         simp at hr
        simp at hr
       | bx q cs =>
        simp only[pk]at hr;split at hr
        ·rename_i hq hb1 hb2;split at hr
         ·split at hr
          ·rename_i h3;rcases Kh.1 h with rfl|h
           ·exact hq
           exact ih _ _ h3 h
          simp at hr
         simp at hr
        simp at hr
       | sr q ty =>
        simp only[pk]at hr;split at hr
        ·rename_i hq hb1;split at hr
         ·split at hr
          ·rename_i h3;rcases Kh.1 h with rfl|h
           ·exact hq
           exact ih _ _ h3 h
          simp at hr
         simp at hr
        simp at hr
     exact key its _ _ hp ht
    obtain⟨s',v',g1,g2⟩:=Yuw hX hE hsameT;rw[h1]at g1;simp only[Ka,Kb]at g1;obtain⟨rfl,rfl⟩:=g1;exact .inl ⟨g2,(hX.env _ _ _ h1).2⟩
   obtain⟨hR,hEn,hnx,hle,hrng⟩:=Xr hX hE its (Se X its) X.next vs s m hp rfl (Kc _) (Kc _) hps (fun r hr=>hdiag r (hchg r hr) (Vp hd2 r hr)) R0 E0;obtain⟨hU1,hU2⟩:=Ziy hX its x;have hun:Jf X its x=up X its (Se X its) vs:=by simp only[Jf,hsp]
   rw[hun]at hU2 ⊢;refine Yq5 hX hX' hE hS ?_ (by rw[hU2.fix,hE.fix]) hR hEn;simp only[O7,Kd,decide_eq_true_eq,Kna,Kmb,beq_iff_eq];refine⟨⟨?_, ?_⟩, ?_⟩
   ·rw[Kx,hrng,Kqb];rw[Kdd];refine⟨List.nodup_range', ?_, ?_⟩
    ·have:(List.range X.next).map ((fun x:Nat×Nat=>x.2) ∘ fun r=>(r,r))=List.range X.next:=by simp [Function.comp_def]
     rw[this];exact List.nodup_range
    intro a ha b hb e;subst e;have h1:=(List.mem_range'_1.1 ha).1;simp only[Ky,Function.comp_def,Kvb]at hb;obtain⟨q,hq,rfl⟩:=hb;omega
   ·intro p hp';rcases Kca.1 hp' with h1|h1
    ·have:p.2∈s.map (·.2):=Ky.2 ⟨p,h1,rfl⟩;rw[hrng,List.mem_range'_1]at this;have hfx:=hX.fixle;have hf2:S'.fix=X.fix:=by rw[hS.fix,hE.fix]
     exact⟨by rw[hnx];omega,.inl (by rw[hf2];omega)⟩
    obtain⟨q,hq,rfl⟩:=Ky.1 h1;rw[Kvb]at hq;exact⟨by rw[hnx];simp only;omega,.inr rfl⟩
   have hf2:S'.fix=X.fix:=by rw[hS.fix,hE.fix]
   rw[hf2,hnx];exact Kla hX.fixle hle
  simp at h
 simp at h
end
end Go.Vs
namespace Go.Vs
variable [Glb]
theorem Yq4 {E:List (Nat×V)}{R:List (Nat×Root)}{n f sz:Nat}(t:Nat) (ht:get E t=some (.a (.c (.nl sz)))):Le ⟨E,R,n,f⟩ ⟨put E t (.a (.c (.rf n [] sz 0 0))),(n,.tr sz [])::R,n+1,f⟩:=by
 refine⟨rfl, ?_⟩;intro N w0 own0 pl0 g pl a w hR;have h4:=hR.env t _ ht;obtain⟨b1,b2,b3,b4⟩:=Zzv sz hR;refine⟨_,_,⟨b1,b2,b3, ?_⟩⟩;intro u x hx;rw[Ax]at hx;split at hx
 ·rename_i e;subst e;simp only[Ka]at hx;subst hx;exact Zti h4
 exact b4 u x hx
theorem Yq3 {E:List (Nat×V)}{R:List (Nat×Root)}{n f sz:Nat}{cs:List C}(r c:Nat) (hr:get R r=some (.bx cs)) (hc:cs[c]? = some (.nl sz)):Le ⟨E,R,n,f⟩ ⟨E,(n,.tr sz [])::put R r (.bx (cs.set c (.rf n [] sz 0 0))),n+1,f⟩:=by
 refine⟨rfl, ?_⟩;intro N w0 own0 pl0 g pl a w hR;have hlt:=(hR.hp.roots r _ hr).1;have hold:=(hR.hp.roots r _ hr).2;obtain⟨b1,b2,b3,b4⟩:=Zzv sz hR;obtain⟨c1,c2,c3,c4,c5,c6⟩:=b1;refine⟨_,_,⟨⟨c1,c2,c3,c4,c5, ?_⟩,b2,b3,b4⟩⟩;intro u x hx;simp only[get]at hx;split at hx
 ·rename_i e;exact c6 u x (by simp only[get,if_pos e];exact hx)
 rename_i e;rw[Ax]at hx;split at hx
 ·rename_i e2;subst e2;simp only[Ka]at hx;subst hx;have hb:=c6 r (.bx cs) (by simp only[get,if_neg e];exact hr);refine⟨hb.1, ?_⟩;intro k y hy;rw[Kya]at hy;split at hy
  ·rename_i e3;subst e3;split at hy
   ·simp only[Ka]at hy;subst hy;obtain⟨v,d1,d2,d3,d4⟩:=hb.2 c _ hc;obtain⟨v',e1,e2,_,_⟩:=hold c _ hc;have hp:E1 pl n (fun _=>⟨true,0,0,0,sz,none⟩) r []=pl r []:=Cv pl n _ r [] hlt;rw[hp]at d1 d3 d4 ⊢;exact⟨v,d1,Zti d2,d3,d4⟩
   simp at hy
  exact hb.2 k y hy
 exact c6 u x (by simp only[get,if_neg e];exact hx)
theorem Le.refl (S:St):Le S S:=⟨rfl,fun N w0 own0 pl0 g pl a w h=>⟨g,pl,h⟩⟩
theorem Le.trans {S T U:St}(h1:Le S T) (h2:Le T U):Le S U:=⟨h2.1.trans h1.1,fun N w0 own0 pl0 g pl a w h=>by
 obtain⟨g',pl',h'⟩:=h1.2 N w0 own0 pl0 g pl a w h;exact h2.2 N w0 own0 pl0 g' pl' a w h'⟩
theorem Nk {X:XSt}{E:List (Nat×V)}{R:List (Nat×Root)}{n f:Nat}(hS:SimX X ⟨E,R,n,f⟩){d:Option Nat}{v:V}{xv:XV}(h:WkV v (cV X.roots xv)):SimX (X.put d xv) ⟨Bs d v E,R,n,f⟩:=by
 cases d with
 | none=>exact hS
 | some d =>
  refine⟨hS.next,hS.fix, ?_,hS.roots⟩;intro t s w hl;simp only[XSt.put]at hl;rw[Bd]at hl;simp only[Bs,Ax];split at hl
  ·rename_i e;simp only at e;simp only[Ka,Kb]at hl;obtain⟨_,rfl⟩:=hl;rw[if_pos e];exact .inr ⟨v,rfl,h⟩
  rename_i e;rw[if_neg e];exact hS.env t s w hl
theorem Yva {X:XSt}{E:List (Nat×V)}{R:List (Nat×Root)}{n f r c s:Nat}{cs:List (Nat×XC)}{ys:List C}{x:XC}{y:C}(hX:XOk X) (hS:SimX X ⟨E,R,n,f⟩) (hl:lk X.roots r=some (s,.bx cs)) (hy:get R r=some (.bx ys)) (hw:Ab WkC ys (cs.map fun e=>cC X.roots e.2)) (hx:okC X.roots X.next X.stamp x) (hxy:WkC y (cC X.roots x)) :
  XOk (X.setR r (.bx (cs.set c (X.stamp,x))))/\Ext X (X.setR r (.bx (cs.set c (X.stamp,x))))/\SimX (X.setR r (.bx (cs.set c (X.stamp,x)))) ⟨E,put R r (.bx (ys.set c y)),n,f⟩:=by
 obtain⟨a,b⟩:=Mt hX (x:=.bx (cs.set c (X.stamp,x))) (Kc _) (hX.ids r s _ hl).1 (by
  intro cs' e j en hj;simp only[XR.bx.injEq]at e;subst e;rw[Kya]at hj;split at hj
  ·split at hj
   ·simp only[Ka]at hj;subst hj;exact⟨.inl rfl,hx⟩
   simp at hj
  ·exact⟨.inr ⟨s,cs,hl,hj⟩,(hX.box r s cs hl en (Kaa hj)).2⟩)
 refine⟨a,b, ?_⟩;have key:∀c',okC X.roots X.next X.stamp c'->cC ((r,X.stamp,.bx (cs.set c (X.stamp,x)))::X.roots) c'=.un\/cC ((r,X.stamp,.bx (cs.set c (X.stamp,x)))::X.roots) c'=A7 [] (cC X.roots c'):=fun c' hc=>Lu (.inr (.inr (.inl ⟨_,_,_,rfl,hl⟩))) hc;have hn:n=X.next:=hS.next;subst hn;refine Pj (X':=X.setR r (.bx (cs.set c (X.stamp,x)))) (ks:=[]) (roots:=put R r (.bx (ys.set c y))) hX hS rfl rfl key ?_;intro q s' z hq;simp only[XSt.setR]at hq;rw[Bd]at hq;split at hq
 ·rename_i e;simp only at e;subst e;simp only[Ka,Kb]at hq;obtain⟨_,rfl⟩:=hq;right;intro y' hy';simp only[cRt,Ka]at hy';subst hy';refine⟨_,by rw[Ax,if_pos rfl], ?_⟩;have w1:Ab WkC (ys.set c y) (((cs.map (·.2)).set c x).map (cC X.roots)):=by
   have w0:Ab WkC ys ((cs.map (·.2)).map (cC X.roots)):=by rw[Kqb];exact hw
   clear key a b hl hy hw;generalize cs.map (·.2)=us at w0
   induction us generalizing ys c with
   | nil=>cases ys with
    | nil=>trivial
    | cons _ _=>exact w0.elim
   | cons u us ih=>cases ys with
    | nil=>exact w0.elim
    | cons y0 ys=>cases c with
     | zero=>exact⟨hxy,w0.2⟩
     | succ c=>exact⟨w0.1,ih w0.2⟩
  have w2:=Xt (ks:=[]) key (by
   intro c' hc';rcases Ksg hc' with h|h
   ·obtain⟨e,he,rfl⟩:=Ky.1 h;exact (hX.box r s cs hl e he).2
   ·rw[h];exact hx) w1
  have e3:(ys.set c y).map (A7 [])=ys.set c y:=by
   have:A7 []=fun c=>c:=by funext c;rfl
   rw[this];simp
  rw[e3]at w2;simp only[WkR];have e4:(cs.map (·.2)).set c x=(cs.set c (X.stamp,x)).map (·.2):=by simp [Kbe]
  rw[e4,Kqb]at w2;exact w2
 rename_i e;left;exact⟨hq,by rw[L9,Ax,if_neg e]⟩
def Rc (r:Nat):List Bc->Nat->XSt->XSt
 | [],_,X=>X
 | .O ty::bs,c,X=>match lk X.roots r with
  | some (_,.bx cs)=>match cs[c]? with
   | some (_,.nl n)=>match Nat.beq n ty.n with
    | true=>Rc r bs (c+1) ((X.newR (.tr ty [])).setR r (.bx (cs.set c (X.stamp+1,.rw X.next))))
    | false=>Rc r bs (c+1) X
   | _=>Rc r bs (c+1) X
  | _=>Rc r bs (c+1) X
 | _::bs,c,X=>Rc r bs (c+1) X
def nrm:List It->XSt->XSt
 | [],X=>X
 | .ot t ty::l,X=>match X.tmp t with
  | .a (.c (.nl n))=>match Nat.beq n ty.n with
   | true=>nrm l ((X.newR (.tr ty [])).put (some t) (.a (.c (.rw X.next))))
   | false=>nrm l X
  | _=>nrm l X
 | .bx t cs::l,X=>match P8 X t with
  | some (r,_)=>nrm l (Rc r cs 0 X)
  | none=>nrm l X
 | _::l,X=>nrm l X
def Zr1 (X X':XSt) (S:St):Prop:=XOk X'/\Ext X X'/\∃S',Le S S'/\SimX X' S'
theorem Re {r:Nat}:∀(bs:List Bc) (c:Nat){X:XSt}{S:St},XOk X->SimX X S->Zr1 X (Rc r bs c X) S
 | [],c,X,S,hX,hS=>⟨hX,Ext.refl X,S,Le.refl S,hS⟩
 | .K::bs,c,X,S,hX,hS=>Re bs _ hX hS
 | .U::bs,c,X,S,hX,hS=>Re bs _ hX hS
 | .L _::bs,c,X,S,hX,hS=>Re bs _ hX hS
 | .O ty::bs,c,X,S,hX,hS=>by
  simp only[Rc];split
  ·rename_i s cs hl;split
   ·rename_i sc n hc;split
    ·rename_i hn;have hn:=Kq hn;subst hn;obtain⟨E,R,nx,f⟩:=S;have hnx:nx=X.next:=hS.next;subst hnx;obtain⟨ys,g1,g2⟩:=P9 hS hl;obtain⟨y,y1,y2⟩:=Un (i:=c) (x:=C.nl ty.n) g2 (by rw[Kba,hc];rfl);have y3:=y2.eq (by simp);subst y3;obtain⟨a,b,d⟩:=Q8 (x:=.tr ty []) (y:=.tr ty.n []) hX hS (fun cs h=>by simp at h) ⟨_,rfl,rfl,rfl⟩;have hlt:=(hX.ids r s _ hl).1;have hl2:lk (X.newR (.tr ty [])).roots r=some (s,.bx cs):=by simp only[XSt.newR];rw[Bd,if_neg (by simp only;omega)];exact hl
     obtain⟨ys2,g3,g4⟩:=P9 d hl2;have e1:ys2=ys:=by
      simp only[get]at g3;rw[if_neg (by omega),g1]at g3;simp only[Ka,Root.bx.injEq]at g3;exact g3.symm
     subst e1;obtain⟨a',b',d'⟩:=Yva (c:=c) (x:=.rw X.next) (y:=.rf X.next [] ty.n 0 0) a d hl2 g3 g4 (Kqa _) (by
      left;simp only[cC,Q7];rfl)
     have hput:put ((X.next,Root.tr ty.n [])::R) r (.bx (ys2.set c (.rf X.next [] ty.n 0 0)))=(X.next,Root.tr ty.n [])::put R r (.bx (ys2.set c (.rf X.next [] ty.n 0 0))):=by
      simp only[put];rw[if_neg (by omega)]
     rw[hput]at d';obtain⟨r1,r2,S',r3,r4⟩:=Re bs (c+1) a' d';exact⟨r1,(b.trans b').trans r2,S',(Yq3 r c g1 y1).trans r3,r4⟩
    exact Re bs _ hX hS
   exact Re bs _ hX hS
  exact Re bs _ hX hS
theorem O6:∀(its:List It){X:XSt}{S:St},XOk X->SimX X S->Zr1 X (nrm its X) S
 | [],X,S,hX,hS=>⟨hX,Ext.refl X,S,Le.refl S,hS⟩
 | .kt _::l,X,S,hX,hS=>O6 l hX hS
 | .lt _ _::l,X,S,hX,hS=>O6 l hX hS
 | .sr _ _::l,X,S,hX,hS=>O6 l hX hS
 | .bx t cs::l,X,S,hX,hS=>by
  simp only[nrm];split
  ·rename_i r es hb;obtain⟨a,b,S1,c,d⟩:=Re cs 0 hX hS;obtain⟨a',b',S2,c',d'⟩:=O6 l a d;exact⟨a',b.trans b',S2,c.trans c',d'⟩
  exact O6 l hX hS
 | .ot t ty::l,X,S,hX,hS=>by
  simp only[nrm];split
  ·rename_i n ht;split
   ·rename_i hn;have hn:=Kq hn;subst hn;obtain⟨E,R,nx,f⟩:=S;have hnx:nx=X.next:=hS.next;subst hnx;obtain⟨s,hl⟩:=Zin ht (by simp);rcases hS.env t s _ hl with h|⟨y,y1,y2⟩
    ·simp at h
    have y3:=y2.c (by simp [cC]);subst y3;obtain⟨a,b,d⟩:=Q8 (x:=.tr ty []) (y:=.tr ty.n []) hX hS (fun cs h=>by simp at h) ⟨_,rfl,rfl,rfl⟩;obtain⟨a',b'⟩:=Jr a (d:=some t) (v:=.a (.c (.rw X.next))) (Kqa X.next);have d':=Nk d (d:=some t) (v:=.a (.c (.rf X.next [] ty.n 0 0))) (xv:=.a (.c (.rw X.next))) (Zpu (Q7 _ _) rfl);obtain⟨r1,r2,S',r3,r4⟩:=O6 l a' d';exact⟨r1,(b.trans b').trans r2,S',(Yq4 t y1).trans r3,r4⟩
   exact O6 l hX hS
  exact O6 l hX hS
def Me {β:Type}(X X':XSt) (its:List It) (k:Tp (It.tys its)->Option β):Option β:=Zo2 X (nrm its X') its k
theorem Zhb {β:Type}{out:β}{X X':XSt}{S':St}{its:List It}{k:Tp (It.tys its)->Option β}(hX:XOk X) (hX':XOk X') (hE:Ext X X') (hS:SimX X' S') (h:Me X X' its k=some out) :
  ∃s,k s=some out/\Le S' (N8 (Jf X its s)):=by
 obtain⟨a,b,S2,c,d⟩:=O6 its hX' hS;obtain⟨s,h1,h2⟩:=Ysj hX a (hE.trans b) d h;exact⟨s,h1,c.trans h2⟩
def Hm {σ ρ:Type}(step:σ->Option (σ ⊕ ρ)):Nat->σ->Option ρ
 | 0,_=>none
 | n+1,s=>match step s with
  | some (.inl s')=>Hm step n s'
  | some (.inr r)=>some r
  | none=>none
open Classical in
noncomputable def Aw {σ ρ:Type}(step:σ->Option (σ ⊕ ρ)) (s:σ):Option ρ:=if h:∃r n,Hm step n s=some r then some (Classical.choose h) else none
theorem Zn7 {σ ρ:Type}{step:σ->Option (σ ⊕ ρ)}{s:σ}{r:ρ}(h:Aw step s=some r):∃n,Hm step n s=some r:=by
 unfold Aw at h;split at h
 ·rename_i hx;simp only[Ka]at h;subst h;exact Classical.choose_spec hx
 simp at h
theorem Znl {σ ρ:Type}{step:σ->Option (σ ⊕ ρ)}{r:ρ}:∀{n:Nat}{s:σ},Hm step n s=some r->∀m,n<=m->Hm step m s=some r
 | 0,s,h,m,_=>by simp [Hm]at h
 | n+1,s,h,m,hm=>by
  obtain⟨m,rfl⟩:∃k,m=k+1:=⟨m-1,by omega⟩;simp only[Hm]at h ⊢;split at h
  ·exact Znl h m (by omega)
  ·exact h
  simp at h
theorem Zn6 {σ ρ:Type}{step:σ->Option (σ ⊕ ρ)}{s:σ}{r:ρ}{n:Nat}(h:Hm step n s=some r):Aw step s=some r:=by
 unfold Aw;have hx:∃r n,Hm step n s=some r:=⟨r,n,h⟩;rw[dif_pos hx];obtain⟨m,hm⟩:=Classical.choose_spec hx;have h1:=Znl h (max n m) (Nat.le_max_left _ _);have h2:=Znl hm (max n m) (Nat.le_max_right _ _);rw[h1]at h2;rw[<-h2]
theorem M6 {σ ρ:Type}(step:σ->Option (σ ⊕ ρ)) (s:σ):Aw step s=match step s with
  | some (.inl s')=>Aw step s'
  | some (.inr r)=>some r
  | none=>none:=by
 have key:∀r,Aw step s=some r ↔ (match step s with
  | some (.inl s')=>Aw step s'
  | some (.inr r)=>some r
  | none=>none)=some r:=by
  intro r;constructor
  ·intro h;obtain⟨n,hn⟩:=Zn7 h;cases n with
   | zero=>simp [Hm]at hn
   | succ n =>
    simp only[Hm]at hn;split at hn
    ·exact Zn6 hn
    ·exact hn
    simp at hn
  intro h;split at h
  ·rename_i s' hs;obtain⟨n,hn⟩:=Zn7 h;exact Zn6 (n:=n+1) (by simp only[Hm,hs];exact hn)
  ·rename_i r' hs;exact Zn6 (n:=1) (by simp only[Hm,hs];exact h)
  simp at h
 cases h:Aw step s with
 | some r=>exact ((key r).1 h).symm
 | none =>
  cases h2:(match step s with
   | some (.inl s')=>Aw step s'
   | some (.inr r)=>some r
   | none=>none) with
  | none=>rfl
  | some r=>rw[(key r).2 h2]at h;simp at h
def Ao {σ ρ:Type}(o:Option (σ ⊕ ρ)) (f:σ->Option ρ):Option ρ:=match o with
 | some (.inl s)=>f s
 | some (.inr r)=>some r
 | none=>none
def Mc {σ ρ:Type}(o:Option ρ):Option (σ ⊕ ρ):=match o with
 | some r=>some (.inr r)
 | none=>none
theorem Zy1 {σ ρ:Type}{o:Option ρ}{z:σ ⊕ ρ}(h:Mc o=some z):∃r,z=.inr r/\o=some r:=by
 cases o with
 | none=>simp [Mc]at h
 | some r=>simp only[Mc,Ka]at h;exact⟨r,h.symm,rfl⟩
end Go.Vs
namespace Go.Vs
variable [Glb]
structure GArg where
 ptr:Bool
 ag:Bool
 t:Ty
 ms:List M
 o:Option Ty
def Tn:Option Ty->List Ty
 | none=>[]
 | some t=>[t]
def cts:Ty->List Ty
 | .P a b=>H1 (cts a) (cts b)
 | t=>[t]
def Nb:Ty->Bool
 | .H _=>false
 | .P a b=>match Nb a with
  | true=>Nb b
  | false=>false
 | _=>true
def M3:Ty->Bool
 | .L _=>true
 | _=>false
def Znj:List M->List Ty->List Ty
 | m::ms,t::ts=>match m,M3 t with
  | .io,true=>t::Znj ms ts
  | _,_=>Znj ms ts
 | _,_=>[]
def H9:List GArg->List Ty
 | []=>[]
 | a::as=>H1 (Znj a.ms (cts a.t)) (H9 as)
def Gt:List GArg->List Ty
 | []=>[]
 | a::as=>match a.ptr with
  | true=>H1 (Tn a.o) (Gt as)
  | false=>Gt as
def C3:List GArg->List Ty
 | []=>[]
 | a::as=>a.t::C3 as
def Gj:List (Bool×Ty)->List Ty
 | []=>[]
 | r::rs=>r.2::Gj rs
def Fo (as:List GArg) (rs:List (Bool×Ty)):List Ty:=H1 (Gj rs) (H1 (H9 as) (Gt as))
def A2 {α:Type}:List α->Nat
 | []=>0
 | _::l=>Nat.succ (A2 l)
def Gx (v:Sg):List D:=Ae v.1 v.2
def mkG (a:GArg) (x:a.t.den):Arg:=match a.ptr with
 | true=>.ptr (a.ms.zip (Ae a.t x))
 | false=>.val a.ag (a.ms.zip (Ae a.t x))
def Ay:(as:List GArg)->Tp (C3 as)->List Arg
 | [],_=>[]
 | a::as,x=>mkG a (Tp.hd a.t _ x)::Ay as (Tp.tl a.t _ x)
def Fb:List (Bool×Ty)->List Sg->List (Bool×List D)
 | (ag,_)::rs,v::vs=>(ag,Gx v)::Fb rs vs
 | _,_=>[]
def ioG:Sg->Nat×List (List D)
 | ⟨.L t,xs⟩=>(t.n,xs.map (Ae t))
 | _=>(0,[])
def bxG:List GArg->List Sg->List (List D)
 | [],_=>[]
 | a::as,vs=>match a.ptr with
  | true=>match a.o,vs with
   | none,vs=>[]::bxG as vs
   | some _,v::vs=>Gx v::bxG as vs
   | some _,[]=>[]
  | false=>bxG as vs
def Mb (as:List GArg) (rs:List (Bool×Ty)) (vs:List Sg):Out :=
 ⟨Fb rs (vs.take (A2 rs)),((vs.drop (A2 rs)).take (A2 (H9 as))).map ioG,bxG as ((vs.drop (A2 rs)).drop (A2 (H9 as)))⟩
structure GEnt (P:Program) where
 f:FuncId
 args:List GArg
 res:List (Bool×Ty)
 F:Tp (C3 args)->Option (Tp (Fo args res))
 ok:∀x y,F x=some y->Ir P f (Ay args x) (Mb args res (Dz _ y))
structure GC where
 a:GArg
 cs:List XC
 at?:Option (Nat×Nat)
def Qr (X:XSt) (a:GArg) (v:XV):Option GC:=match a.ptr,a.ag,v with
 | false,false,.a (.c c)=>some ⟨a,[c],none⟩
 | false,true,.a (.ag cs)=>some ⟨a,cs,none⟩
 | true,_,.a (.c (.pb r c))=>match lk X.roots r with
  | some (_,.bx es)=>match Nat.ble (c+A2 a.ms) es.length with
   | true=>some ⟨a,((es.drop c).take (A2 a.ms)).map (·.2),some (r,c)⟩
   | false=>none
  | _=>none
 | _,_,_=>none
def Gy (X:XSt):List GArg->List XV->Option (List GC)
 | [],[]=>some []
 | a::as,v::vs=>match Qr X a v,Gy X as vs with
  | some g,some gs=>match Nat.beq (A2 g.cs) a.t.n&&Nat.beq (A2 a.ms) a.t.n with
   | true=>some (g::gs)
   | false=>none
  | _,_=>none
 | _,_=>none
def Rt:List GC->List (M×XC)
 | []=>[]
 | g::gs=>g.a.ms.zip g.cs++Rt gs
def owZ:List (M×XC)->List XC
 | []=>[]
 | (m,c)::l=>match m with
  | .ow=>c::owZ l
  | _=>owZ l
def ioZ (R:XRs):List (M×XC)->Option (List Nat)
 | []=>some []
 | (m,c)::l=>match m with
  | .io=>match c with
   | .rw r=>match lk R r,ioZ R l with
    | some (_,.tr _ _),some ids=>some (r::ids)
    | _,_=>none
   | .rf r _ [(_,_)] 0 _ _=>match lk R r,ioZ R l with
    | some (_,.tr _ _),some ids=>some (r::ids)
    | _,_=>none
   | .nl _=>ioZ R l
   | c=>match K8 c with
    | true=>ioZ R l
    | false=>none
  | _=>ioZ R l
def rdZ:List (M×XC)->List Nat
 | []=>[]
 | (m,c)::l=>match m with
  | .rd=>Nh c++rdZ l
  | .rx=>Nh c++rdZ l
  | _=>rdZ l
def bxZ:List GC->List Nat
 | []=>[]
 | g::gs=>match g.at? with
  | some (r,_)=>r::bxZ gs
  | none=>bxZ gs
def Zhh {β:Type}(R:XRs):(as:List GArg)->List GC->(Tp (C3 as)->Option β)->Option β
 | [],_,k=>k ()
 | a::as,gs,k=>match gs with
  | g::gs=>Er R a.t g.cs fun x rest=>match rest with
   | []=>Zhh R as gs fun xs=>k (Tp.mk a.t _ x xs)
   | _=>none
  | []=>none
def My {β:Type}:(T:Ty)->Nat->(t:Ty)->T.den->(List t.den->Option β)->Option β
 | .L t0,c,t,e,f=>match c with
  | 0=>Qa t0 t e f
  | _=>none
 | .P a b,c,t,e,f=>match Nat.blt c a.n with
  | true=>My a c t e.1 f
  | false=>My b (c-a.n) t e.2 f
 | _,_,_,_,_=>none
def Nj {β:Type}:(T:Ty)->Nat->(t:Ty)->List t.den->T.den->(T.den->Option β)->Option β
 | .L t0,c,t,ws,e,f=>match c with
  | 0=>Qa t t0 ws f
  | _=>none
 | .P a b,c,t,ws,e,f=>match Nat.blt c a.n with
  | true=>Nj a c t ws e.1 fun x=>f (x,e.2)
  | false=>Nj b (c-a.n) t ws e.2 fun x=>f (e.1,x)
 | _,_,_,_,_,_=>none
def Um {β:Type}(R:XRs):List (M×XC)->Option β->Option β
 | [],k=>k
 | (m,c)::l,k=>match m with
  | .io=>match c with
   | .rf r v [(i,j)] 0 t ws=>match lk R r with
    | some (v',.tr T xs)=>match Nat.beq v' v with
     | true=>bnd (idx xs (Int.ofNat i)) fun e=>My T j t e fun o=>chk (nEq o.length ws.length) (Um R l k)
     | false=>none
    | _=>none
   | _=>Um R l k
  | _=>Um R l k
def ioX {β:Type}:List (M×XC)->List Sg->XSt->(XSt->Option β)->Option β
 | [],[],X,k=>k X
 | (m,c)::l,vs,X,k=>match m with
  | .io=>match c with
   | .rw r=>match vs with
    | ⟨.L t',xs'⟩::vs=>match lk X.roots r with
     | some (_,.tr t xs)=>Qa t' t xs' fun xs'=>chk (nEq xs'.length xs.length) (ioX l vs (X.setR r (.tr t xs')) k)
     | _=>none
    | _=>none
   | .rf r _ [(i,j)] 0 t ws=>match vs with
    | ⟨.L t',xs'⟩::vs=>match lk X.roots r with
     | some (_,.tr T xs)=>Qa t' t xs' fun xs'=>chk (nEq xs'.length ws.length) (bnd (idx xs (Int.ofNat i)) fun e=>Nj T j t xs' e fun e'=>ioX l vs (X.setR r (.tr T (Bq xs i e'))) k)
     | _=>none
    | _=>none
   | .nl _=>match vs with
    | _::vs=>ioX l vs X k
    | []=>none
   | _=>ioX l vs X k
  | _=>ioX l vs X k
 | [],_::_,_,_=>none
def Ec (s:Nat):List M->List Ty->List (Nat×XC)->List XC->List (Nat×XC)
 | m::ms,t::ts,e::es,ys=>match m,M3 t with
  | .rx,true=>e::Ec s ms ts es ys
  | _,_=>match ys with
   | y::ys=>(s,y)::Ec s ms ts es ys
   | []=>e::Ec s ms ts es []
 | _,_,_,_=>[]
def Fg:Option Ty->Nat
 | none=>0
 | some t=>t.n
def bxX:List GC->List XC->XSt->Option XSt
 | [],_,X=>some X
 | g::gs,ys,X=>match g.at? with
  | some (r,c)=>match lk X.roots r with
   | some (_,.bx es)=>match Nat.ble (c+A2 g.a.ms) es.length&&Nb g.a.t with
    | true=>bxX gs (ys.drop (Fg g.a.o)) (X.setR r (.bx (es.take c++(Ec X.stamp g.a.ms (cts g.a.t) ((es.drop c).take (A2 g.a.ms)) (ys.take (Fg g.a.o))++es.drop (c+A2 g.a.ms)))))
    | false=>none
   | _=>none
  | none=>bxX gs ys X
def Fq:List Sg->List XD
 | []=>[]
 | v::vs=>Po v.1 v.2++Fq vs
def Zeo {β:Type}(X:XSt) (as:List GArg) (rs:List (Bool×Ty)) (F:Tp (C3 as)->Option (Tp (Fo as rs))) (vs:List XV) (k:XV->XSt->Option β):Option β:=match Gy X as vs with
 | some gs=>match Ed X.roots (owZ (Rt gs)),ioZ X.roots (Rt gs) with
  | some ow,some io=>match Nd ow&&(Nd (io++bxZ gs)&&(Qi ow io&&Qi (ow++(io++bxZ gs)) (rdZ (Rt gs)))) with
   | true=>Um X.roots (Rt gs) <| Zhh X.roots as gs fun x=>bnd (F x) fun y =>
    ioX (Rt gs) (((Dz _ y).drop (A2 rs)).take (A2 (H9 as))) (X.delRs ow) fun X2 =>
     match bxX gs ((C2 (Fq ((Dz _ y).take (A2 rs)++((Dz _ y).drop (A2 rs)).drop (A2 (H9 as)))) X2).1.drop (A2 (Fq ((Dz _ y).take (A2 rs))))) (C2 (Fq ((Dz _ y).take (A2 rs)++((Dz _ y).drop (A2 rs)).drop (A2 (H9 as)))) X2).2 with
     | some X4=>k (Zhn (Mh rs (C2 (Fq ((Dz _ y).take (A2 rs)++((Dz _ y).drop (A2 rs)).drop (A2 (H9 as)))) X2).1)) X4
     | none=>none
   | false=>none
  | _,_=>none
 | none=>none
def Zen {P:Program}{β:Type}(X:XSt) (e:GEnt P) (vs:List XV) (k:XV->XSt->Option β):Option β:=Zeo X e.args e.res e.F vs k
end Go.Vs
namespace Go.Vs
variable [Glb]
theorem G4 {α:Type}:∀l:List α,A2 l=l.length
 | []=>rfl
 | _::l=>by simp only[A2,Kf,G4 l]
theorem Zb:∀(a b:List Ty),H1 a b=a++b
 | [],b=>rfl
 | t::a,b=>by simp only[H1,Kn,Zb a b]
theorem So:∀t:Ty,(cts t).length=t.n
 | .I _=>rfl
 | .Y=>rfl
 | .B=>rfl
 | .S=>rfl
 | .L _=>rfl
 | .H _=>rfl
 | .P a b=>by simp only[cts,Zb,Kt,So a,So b,Ty.n]
theorem Zqg:∀(ts:List Ty) (y:Tp ts),(Dz ts y).map (·.1)=ts
 | [],_=>rfl
 | t::ts,y=>by simp only[Dz,Ke,Zqg ts]
def Gn:List M->List XC->List D->List (M×XC×D)
 | m::ms,c::cs,d::ds=>(m,c,d)::Gn ms cs ds
 | _,_,_=>[]
def toV (R:XRs) (w:M×XC×D):M×C×D:=(w.1,cC R w.2.1,w.2.2)
def Ls:(as:List GArg)->List GC->Tp (C3 as)->List (M×XC×D)
 | [],_,_=>[]
 | a::as,g::gs,x=>Gn a.ms g.cs (Ae a.t (Tp.hd a.t _ x))++Ls as gs (Tp.tl a.t _ x)
 | _,[],_=>[]
section
variable {β:Type} {X:XSt} {S:St} {out:β} {P:Program}
theorem Yd2 {R:XRs}:∀(ms:List M) (cs:List XC) (ds:List D),ms.length=cs.length->cs.length=ds.length->Lk (cs.map (cC R)) (ms.zip ds)=some ((Gn ms cs ds).map (toV R))
 | [],[],[],_,_=>rfl
 | m::ms,c::cs,d::ds,h1,h2=>by
  simp only[Kf,Kwe]at h1 h2;simp only[Ke,Khc,Lk,Yd2 ms cs ds h1 h2,Kha,Gn];rfl
 | [],_::_,_,h,_=>by simp at h
 | _::_,[],_,h,_=>by simp at h
 | [],[],_::_,_,h=>by simp at h
 | _::_,_::_,[],_,h=>by simp at h
theorem Yd0 {R:XRs}:∀{ms:List M}{cs:List XC}{ds:List D},Ab (CD R) cs ds->∀w∈Gn ms cs ds,CD R w.2.1 w.2.2
 | [],_,_,_,w,hw=>by simp [Gn]at hw
 | m::ms,[],_,_,w,hw=>by simp [Gn]at hw
 | m::ms,c::cs,[],h,w,hw=>h.elim
 | m::ms,c::cs,d::ds,h,w,hw=>by
  simp only[Gn,Kh]at hw;rcases hw with rfl|hw
  ·exact h.1
  exact Yd0 h.2 w hw
theorem Yd1:∀{ms:List M}{cs:List XC}{ds:List D},cs.length=ds.length->(Gn ms cs ds).map (fun w=>(w.1,w.2.1))=ms.zip cs
 | [],_,_,_=>by simp [Gn]
 | m::ms,[],[],_=>by simp [Gn]
 | m::ms,c::cs,d::ds,h=>by
  simp only[Kf,Kwe]at h;simp only[Gn,Ke,Khc,Yd1 h]
 | m::ms,c::cs,[],h=>by simp at h
 | m::ms,[],_::_,h=>by simp at h
theorem Yj8 (hX:XOk X) (hS:SimX X S){a:GArg}{v:XV}{y:V}{g:GC}{x:a.t.den}(hw:WkV y (cV X.roots v)) (ho:okV X.roots X.next X.stamp v) (h:Qr X a v=some g) (hl:g.cs.length=a.t.n) (hm:a.ms.length=a.t.n) (hcd:Ab (CD X.roots) g.cs (Ae a.t x)) :
  Qp S.roots y (mkG a x)=some ((Gn a.ms g.cs (Ae a.t x)).map (toV X.roots)):=by
 have hen:=Bu a.t x;have hz:=Yd2 (R:=X.roots) a.ms g.cs (Ae a.t x) (by omega) (by omega);have hlen:(a.ms.zip (Ae a.t x)).length=a.ms.length:=by rw[List.length_zip];omega
 unfold Qr at h;split at h
 ·rename_i c hp hag;simp only[Ka]at h;subst h;simp only at hcd hz hl
  match hd:Ae a.t x,hcd with
  | [d],hcd =>
   rw[hd]at hz;rw[hw.c hcd.1.ne];simp only[mkG,hp,hag,Qp,hd];exact hz
 ·rename_i cs hp hag;simp only[Ka]at h;subst h;simp only at hcd hz hl;cases y with
  | a z=>cases z with
   | ag ys =>
    have:=Lw hcd hw;subst this;simp only[mkG,hp,hag,Qp];exact hz
   | c _=>exact hw.elim
  | _=>exact hw.elim
 ·rename_i r c hp;split at h
  ·rename_i s es hle;split at h
   ·rename_i hb;simp only[Ka]at h;subst h;simp only at hcd hz hl;have hb:=Kea hb;rw[G4]at hb hcd hz hl;simp only[cV,cA,cC,hle]at hw;have hy:=hw.c (by simp);subst hy;obtain⟨bs,g1,g2⟩:=P9 hS hle;have hbl:=g2.length;rw[Ko]at hbl;have g3:Ab WkC ((bs.drop c).take a.ms.length) ((((es.drop c).take a.ms.length).map (·.2)).map (cC X.roots)):=by
     have:=Jz (n:=a.ms.length) (Jg (n:=c) g2);rw[Kqb,Keb,Kfb];exact this
    have g4:=Lw hcd g3;simp only[mkG,hp,Qp,g1,hlen];rw[if_pos (by omega),g4,G4];exact hz
   simp at h
  simp at h
 simp at h
theorem Zvw (hX:XOk X) (hS:SimX X S):∀(as:List GArg) (vs:List XV) (ys:List V) (gs:List GC) (k:Tp (C3 as)->Option β),Ab (fun y v=>WkV y (cV X.roots v)/\okV X.roots X.next X.stamp v) ys vs->Gy X as vs=some gs->Zhh X.roots as gs k=some out ->
  ∃x,k x=some out/\Hi S.roots ys (Ay as x)=some ((Ls as gs x).map (toV X.roots))/\(∀w∈Ls as gs x,CD X.roots w.2.1 w.2.2/\okC X.roots X.next X.stamp w.2.1)/\(Ls as gs x).map (fun w=>(w.1,w.2.1))=Rt gs/\(Bf ys (Ay as x)).map (·.1)=bxZ gs
 | [],[],[],gs,k,_,hg,h=>by
  simp only[Gy,Ka]at hg;subst hg;exact⟨(),h,rfl,by simp [Ls],rfl,rfl⟩
 | a::as,v::vs,y::ys,gs,k,hw,hg,h=>by
  simp only[Gy]at hg;split at hg
  ·rename_i g gs' h1 h2;split at hg
   ·rename_i hb;simp only[Ka]at hg;subst hg;simp only[Kd,G4]at hb;have hb1:=Kq hb.1;have hb2:=Kq hb.2;simp only[Zhh]at h;have hok:∀c∈g.cs,okC X.roots X.next X.stamp c:=by
     have h1':=h1;unfold Qr at h1';have ho:=hw.1.2;split at h1'
     ·simp only[Ka]at h1';subst h1';intro c hc;simp only[Koa]at hc;subst hc;exact ho
     ·simp only[Ka]at h1';subst h1';exact ho
     ·split at h1'
      ·rename_i s es hle;split at h1'
       ·simp only[Ka]at h1';subst h1';intro c hc;obtain⟨e,he,rfl⟩:=Ky.1 hc;exact (hX.box _ s es hle e (Kkb (Kjb he))).2
       simp at h1'
      simp at h1'
     simp at h1'
    obtain⟨x,c0,rest,hc,h,hcd⟩:=Ng a.t g.cs _ out hok h;split at h
    ·rw[Kw]at hc;subst hc;obtain⟨xs,h,f1,f2,f3,f4⟩:=Zvw hX hS as vs ys gs' _ hw.2 h2 h;have g1:=Yj8 (x:=x) hX hS hw.1.1 hw.1.2 h1 hb1 hb2 hcd;refine⟨_,h, ?_, ?_, ?_, ?_⟩
     ·simp only[Ay,Tp.hd_mk,Tp.tl_mk,Hi,g1,f1,Ls,Kx]
     ·intro w hw';simp only[Ls,Tp.hd_mk,Tp.tl_mk,Kca]at hw';rcases hw' with hw'|hw'
      ·refine⟨Yd0 hcd w hw', ?_⟩;have key:∀(ms:List M) (cs:List XC) (ds:List D),w∈Gn ms cs ds->w.2.1∈cs:=by
        intro ms
        induction ms with
        | nil=>intro cs ds h;simp [Gn]at h
        | cons m ms ih =>
         intro cs ds h;cases cs with
         | nil=>simp [Gn]at h
         | cons c cs=>cases ds with
          | nil=>simp [Gn]at h
          | cons d ds =>
           simp only[Gn,Kh]at h;rcases h with rfl|h
           ·exact Kp
           exact Kj _ (ih cs ds h)
       exact hok _ (key _ _ _ hw')
      exact f2 w hw'
     ·simp only[Ls,Tp.hd_mk,Tp.tl_mk,Kx,Rt,f3];have hga:g.a=a:=by
       unfold Qr at h1;split at h1
       ·simp only[Ka]at h1;subst h1;rfl
       ·simp only[Ka]at h1;subst h1;rfl
       ·split at h1
        ·split at h1
         ·simp only[Ka]at h1;subst h1;rfl
         simp at h1
        simp at h1
       simp at h1
      rw[Yd1 (by rw[Bu];exact hb1),hga]
     -- variables that are handed
     simp only[Ay,Tp.hd_mk,Tp.tl_mk];have h1':=h1;unfold Qr at h1';split at h1'
     ·rename_i c hp hag;simp only[Ka]at h1';subst h1';simp only[mkG,hp,bxZ,Bf,f4]
     ·rename_i cs hp hag;simp only[Ka]at h1';subst h1';simp only[mkG,hp,bxZ,Bf,f4]
     ·rename_i r c hp;split at h1'
      ·rename_i s es hle;split at h1'
       ·simp only[Ka]at h1';subst h1';have hy:y=.a (.c (.pb r c)):=by
         have:=hw.1.1;simp only[cV,cA,cC,hle]at this;exact this.c (by simp)
        subst hy;simp only[mkG,hp,bxZ,Bf,Ke,f4]
       simp at h1'
      simp at h1'
     simp at h1'
    simp at h
   simp at hg
  simp at hg
 | [],_::_,_,_,_,_,hg,_=>by simp [Gy]at hg
 | _::_,[],_,_,_,_,hg,_=>by simp [Gy]at hg
 | [],[],_::_,_,_,hw,_,_=>hw.elim
 | _::_,_::_,[],_,_,hw,_,_=>hw.elim
theorem Zy4 {R:XRs}:∀(W:List (M×XC×D)),(∀w∈W,CD R w.2.1 w.2.2)->(((W.map (toV R)).filter Jq).map (·.2.1))=(owZ (W.map fun w=>(w.1,w.2.1))).map (cC R)/\Ab (CD R) (owZ (W.map fun w=>(w.1,w.2.1))) (((W.map (toV R)).filter Jq).map (·.2.2))
 | [],_=>⟨rfl,trivial⟩
 | (m,c,d)::W,h=>by
  obtain⟨a,b⟩:=Zy4 W fun w hw=>h w (Kj _ hw);have hc:=h _ Kp;cases m with
  | ow =>
   have e:Jq (toV R (M.ow,c,d))=true:=rfl;simp only[Ke,Kuc,e,if_true,owZ];exact⟨by rw[a];rfl,⟨hc,b⟩⟩
  | rd =>
   have e:Jq (toV R (M.rd,c,d))=false:=rfl;simp only[Ke,Kuc,e,owZ];exact⟨a,b⟩
  | rx =>
   have e:Jq (toV R (M.rx,c,d))=false:=rfl;simp only[Ke,Kuc,e,owZ];exact⟨a,b⟩
  | io =>
   have e:Jq (toV R (M.io,c,d))=false:=rfl;simp only[Ke,Kuc,e,owZ];exact⟨a,b⟩
theorem Zs3 {R:XRs}{r s:Nat}{t:Ty}{xs:List t.den}{d:D}(hl:lk R r=some (s,.tr t xs)) (h:CD R (.rw r) d):d=.sl t.n (xs.map (Ae t)):=by
 refine Zs2 h (.inr (.inr ⟨t,xs,r,[],0,xs.map (Ae t),by simp [cC,hl], ?_,by simp, ?_,rfl,.inl rfl⟩))
 ·simp only[Ct,hl];rfl
 rw[Kja,Kib (by simp)]
theorem Zxs {R:XRs}{c:XC}{d:D}(hl:K8 c=true) (h:CD R c d):∃v,cC R c=.lf v/\d=.lf v:=by
 rcases h with h|⟨n,rfl,_⟩|⟨t,ws,r,p,lo,l,h1,_⟩
 ·exact h
 ·simp [K8]at hl
 exfalso;cases c<;>simp [K8]at hl<;>simp [cC]at h1
theorem Zz5 {R:XRs}{r v lo:Nat}{p:Af}{t:Ty}{ws:List t.den}{d:D}(h:CD R (.rf r v p lo t ws) d):cC R (.rf r v p lo t ws)=.rf r p t.n lo ws.length/\∃(t':Ty) (ws':List t'.den),d=.sl t'.n (ws'.map (Ae t')):=by
 rcases h with ⟨v',h,_⟩|⟨n,h,_⟩|⟨t',ws',r',p',lo',l,h,_,_,_,hd,_⟩
 ·simp only[cC]at h;split at h<;>simp at h
 ·simp at h
 refine⟨?_,t',ws',hd⟩;simp only[cC]at h ⊢;split at h
 ·rfl
 simp at h
theorem Zmh {β:Type}{out:β}:∀(T:Ty) (c:Nat) (t:Ty) (e:T.den) (f:List t.den->Option β),My T c t e f=some out->∃o,f o=some out/\(Ae T e)[c]? = some (.sl t.n (o.map (Ae t)))
 | .L t0,c,t,e,f,h=>by
  unfold My at h;cases c with
  | zero =>
   obtain⟨o,h1,rfl,h3,_⟩:=Vh h;exact⟨o,h1,by simp only[Ae,Kv,h3]⟩
  | succ c=>simp at h
 | .P a b,c,t,e,f,h=>by
  unfold My at h;split at h
  ·rename_i hb;obtain⟨o,h1,h2⟩:=Zmh a c t e.1 f h;refine⟨o,h1, ?_⟩;have hb:c<a.n:=Kea hb;simp only[Ae];rw[Ksa (by rw[Bu];exact hb)];exact h2
  rename_i hb;obtain⟨o,h1,h2⟩:=Zmh b (c-a.n) t e.2 f h;refine⟨o,h1, ?_⟩;have hb:a.n<=c:=by
   exact Nat.le_of_lt_succ (Kqg (Kbh (by rw[show (c+1).ble a.n=false from hb];simp)))
  simp only[Ae];rw[Kia (by rw[Bu];exact hb),Bu];exact h2
 | .I _,c,t,e,f,h=>by simp [My]at h
 | .Y,c,t,e,f,h=>by simp [My]at h
 | .B,c,t,e,f,h=>by simp [My]at h
 | .S,c,t,e,f,h=>by simp [My]at h
theorem Zp4 {β:Type}{out:β}:∀(T:Ty) (c:Nat) (t:Ty) (ws:List t.den) (e:T.den) (f:T.den->Option β),Nj T c t ws e f=some out->∃e' o,f e'=some out/\Ae T e'=(Ae T e).set c (.sl t.n (ws.map (Ae t)))/\(Ae T e)[c]? = some (.sl t.n o)
 | .L t0,c,t,ws,e,f,h=>by
  unfold Nj at h;cases c with
  | zero =>
   obtain⟨o,h1,rfl,h3,_⟩:=Vh h;exact⟨o,e.map (Ae t),h1,by simp only[Ae,Kwf,h3],rfl⟩
  | succ c=>simp at h
 | .P a b,c,t,ws,e,f,h=>by
  unfold Nj at h;split at h
  ·rename_i hb;obtain⟨e',o,h1,h2,h3⟩:=Zp4 a c t ws e.1 _ h;refine⟨(e',e.2),o,h1, ?_, ?_⟩
   ·have hb:c<a.n:=Kea hb;simp only[Ae];rw[List.set_append_left _ _ (by rw[Bu];exact hb),h2]
   have hb:c<a.n:=Kea hb;simp only[Ae];rw[Ksa (by rw[Bu];exact hb)];exact h3
  rename_i hb;obtain⟨e',o,h1,h2,h3⟩:=Zp4 b (c-a.n) t ws e.2 _ h;have hb:a.n<=c:=by
   exact Nat.le_of_lt_succ (Kqg (Kbh (by rw[show (c+1).ble a.n=false from hb];simp)))
  refine⟨(e.1,e'),o,h1, ?_, ?_⟩
  ·simp only[Ae];rw[Ktf _ _ (by rw[Bu];exact hb),Bu,h2]
  simp only[Ae];rw[Kia (by rw[Bu];exact hb),Bu];exact h3
 | .I _,c,t,ws,e,f,h=>by simp [Nj]at h
 | .Y,c,t,ws,e,f,h=>by simp [Nj]at h
 | .B,c,t,ws,e,f,h=>by simp [Nj]at h
 | .S,c,t,ws,e,f,h=>by simp [Nj]at h
theorem Zrj {β:Type}{out:β}{R:XRs}:∀(Z:List (M×XC)){k:Option β},Um R Z k=some out->k=some out/\∀(r v i j:Nat) (t:Ty) (ws:List t.den),(M.io,XC.rf r v [(i,j)] 0 t ws)∈Z->∃(T:Ty) (xs:List T.den) (o:List t.den),lk R r=some (v,.tr T xs)/\Am T.n (xs.map (Ae T)) [(i,j)]=some (t.n,o.map (Ae t))/\o.length=ws.length
 | [],k,h=>⟨h,by simp⟩
 | (m,c)::Z,k,h=>by
  have skip:Um R Z k=some out->(∀(r v i j:Nat) (t:Ty) (ws:List t.den),¬((m,c)=(M.io,XC.rf r v [(i,j)] 0 t ws)))->k=some out/\∀(r v i j:Nat) (t:Ty) (ws:List t.den),(M.io,XC.rf r v [(i,j)] 0 t ws)∈(m,c)::Z->∃(T:Ty) (xs:List T.den) (o:List t.den),lk R r=some (v,.tr T xs)/\Am T.n (xs.map (Ae T)) [(i,j)]=some (t.n,o.map (Ae t))/\o.length=ws.length:=by
   intro h hne;obtain⟨a,b⟩:=Zrj Z h;exact⟨a,fun r v i j t ws hm=>b r v i j t ws ((Kh.1 hm).resolve_left fun e=>hne r v i j t ws e.symm)⟩
  simp only[Um]at h;cases m with
  | io =>
   simp only at h;split at h
   ·rename_i r v i j t ws;split at h
    ·rename_i v' T xs hl;split at h
     ·rename_i hb;have hb:=Kq hb;subst hb;obtain⟨e,he,h⟩:=Gs h;obtain⟨o,h,ho⟩:=Zmh T j t e _ h;obtain⟨hn,h⟩:=Dt h;simp only[nEq,decide_eq_true_eq]at hn;obtain⟨a,b⟩:=Zrj Z h;refine⟨a,fun r2 v2 i2 j2 t2 ws2 hm=>?_⟩;rcases Kh.1 hm with e'|hm
      ·simp only[Kb,XC.rf.injEq,true_and,List.cons.injEq,and_true]at e';obtain⟨rfl,rfl,⟨rfl,rfl⟩,rfl,e5⟩:=e';have e5:=eq_of_heq e5;subst e5;refine⟨T,xs,o,hl, ?_,hn⟩;simp only[Am,Kba];have he':xs[i2]? = some e:=by simpa [idx] using he
       rw[he'];simp only[Kha,Kra,ho]
      exact b r2 v2 i2 j2 t2 ws2 hm
     simp at h
    simp at h
   rename_i hne;exact skip h fun r v i j t ws e=>by
    simp only[Kb,true_and]at e;exact hne r v i j t ws e
  | rd=>exact skip h fun r v i j t ws e=>by simp at e
  | rx=>exact skip h fun r v i j t ws e=>by simp at e
  | ow=>exact skip h fun r v i j t ws e=>by simp at e
theorem Znk {R:XRs}:∀(W:List (M×XC×D)) (io:List Nat),(∀w∈W,CD R w.2.1 w.2.2)->ioZ R (W.map fun w=>(w.1,w.2.1))=some io->Bl (W.map (toV R))=io
 | [],io,_,h=>by simp only[Ktb,ioZ,Ka]at h;subst h;rfl
 | (m,c,d)::W,io,hc,h=>by
  have ih:=fun io h=>Znk W io (fun w hw=>hc w (Kj _ hw)) h;have hcd:=hc _ Kp;simp only at hcd;simp only[Ke,ioZ]at h;cases m with
  | io =>
   simp only at h;split at h
   ·rename_i r;split at h
    ·rename_i s t xs ids hl hi;simp only[Ka]at h;subst h;have hd:=Zs3 hl hcd;subst hd;simp only[Ke,toV,cC,hl,Bl,ih ids hi]
    simp at h
   ·rename_i r v i j t ws;split at h
    ·rename_i s T xs ids hl hi;simp only[Ka]at h;subst h;obtain⟨e1,t1,ws1,rfl⟩:=Zz5 hcd;simp only[Ke,toV,e1,Bl,ih ids hi]
    simp at h
   ·rename_i n;rcases hcd with ⟨v,h1,_⟩|⟨n',h1,rfl⟩|⟨t,ws,r,p,lo,l,h1,_⟩
    ·simp [cC]at h1
    ·simp only[Ke,toV,cC,Bl];exact ih io h
    simp [cC]at h1
   split at h
   ·rename_i hlf;obtain⟨v,h1,rfl⟩:=Zxs hlf hcd;simp only[Ke,toV,h1,Bl];exact ih io h
   simp at h
  | rd=>simp only[Ke,toV,Bl];exact ih io h
  | rx=>simp only[Ke,toV,Bl];exact ih io h
  | ow=>simp only[Ke,toV,Bl];exact ih io h
theorem Ys6 {R:XRs}{c:XC}{r:Nat}{p:Af}{s lo n:Nat}(h:cC R c=.rf r p s lo n):r∈Nh c:=by
 cases c with
 | rw q=>simp only[cC]at h;split at h<;>simp at h<;>simp [Nh,h.1]
 | rv q _ _=>simp only[cC]at h;split at h<;>simp at h<;>simp [Nh,h.1]
 | rf q v p' lo' t ws=>simp only[cC]at h;split at h<;>simp at h;simp [Nh,h.1]
 | pe _ _ _ _ _ _ _=>simp only[cC]at h;split at h<;>simp at h
 | pb _ _=>simp only[cC]at h;split at h<;>simp at h
 | _=>simp [cC]at h
theorem Za6:∀{Z:List (M×XC)}{m:M}{c:XC}{r:Nat},(m,c)∈Z->m=.rd\/m=.rx->r∈Nh c->r∈rdZ Z
 | [],m,c,r,h,_,_=>by simp at h
 | (m',c')::Z,m,c,r,h,hm,hr=>by
  rcases Kh.1 h with e|h'
  ·simp only[Kb]at e;obtain⟨rfl,rfl⟩:=e;rcases hm with rfl|rfl<;>(simp only[rdZ];exact Kzd _ hr)
  cases m' with
  | rd=>simp only[rdZ];exact Kic _ (Za6 h' hm hr)
  | rx=>simp only[rdZ];exact Kic _ (Za6 h' hm hr)
  | ow=>simp only[rdZ];exact Za6 h' hm hr
  | io=>simp only[rdZ];exact Za6 h' hm hr
theorem Q2 {R:XRs}:∀{Z:List (M×XC)}{io:List Nat}{c:XC},ioZ R Z=some io->(M.io,c)∈Z->(∃r s t xs,c=.rw r/\lk R r=some (s,.tr t xs)/\r∈io)\/((∃n,c=.nl n)\/K8 c=true)\/∃r v i j t ws s T xs,c=.rf r v [(i,j)] 0 t ws/\lk R r=some (s,.tr T xs)/\r∈io
 | [],io,c,_,hc=>by simp at hc
 | (m,c')::Z,io,c,h,hc=>by
  simp only[ioZ]at h;cases m with
  | io =>
   simp only at h;split at h
   ·rename_i r;split at h
    ·rename_i s t xs ids hl hi;simp only[Ka]at h;subst h;rcases Kh.1 hc with e|hc
     ·simp only[Kb,true_and]at e;subst e;exact .inl ⟨r,s,t,xs,rfl,hl,Kp⟩
     rcases Q2 hi hc with ⟨r',s',t',xs',a,b,d⟩|h|h
     ·exact .inl ⟨r',s',t',xs',a,b,Kj _ d⟩
     ·exact .inr (.inl h)
     obtain⟨a1,a2,a3,a4,a5,a6,a7,a8,a9,b1,b2,b3⟩:=h;exact .inr (.inr ⟨a1,a2,a3,a4,a5,a6,a7,a8,a9,b1,b2,Kj _ b3⟩)
    simp at h
   ·rename_i r v i j t ws;split at h
    ·rename_i s T xs ids hl hi;simp only[Ka]at h;subst h;rcases Kh.1 hc with e|hc
     ·simp only[Kb,true_and]at e;subst e;exact .inr (.inr ⟨r,v,i,j,t,ws,s,T,xs,rfl,hl,Kp⟩)
     rcases Q2 hi hc with ⟨r',s',t',xs',a,b,d⟩|h|h
     ·exact .inl ⟨r',s',t',xs',a,b,Kj _ d⟩
     ·exact .inr (.inl h)
     obtain⟨a1,a2,a3,a4,a5,a6,a7,a8,a9,b1,b2,b3⟩:=h;exact .inr (.inr ⟨a1,a2,a3,a4,a5,a6,a7,a8,a9,b1,b2,Kj _ b3⟩)
    simp at h
   ·rename_i n;rcases Kh.1 hc with e|hc
    ·simp only[Kb,true_and]at e;subst e;exact .inr (.inl (.inl ⟨n,rfl⟩))
    exact Q2 h hc
   split at h
   ·rename_i hlf;rcases Kh.1 hc with e|hc
    ·simp only[Kb,true_and]at e;subst e;exact .inr (.inl (.inr hlf))
    exact Q2 h hc
   simp at h
  | rd=>exact Q2 h ((Kh.1 hc).resolve_left (by simp))
  | rx=>exact Q2 h ((Kh.1 hc).resolve_left (by simp))
  | ow=>exact Q2 h ((Kh.1 hc).resolve_left (by simp))
theorem Yu3 (hS:SimX X S){W:List (M×XC×D)}{ow io hb:List Nat}{rt:List (Nat×Root)}(hW:∀w∈W,CD X.roots w.2.1 w.2.2) (hio:ioZ X.roots (W.map fun w=>(w.1,w.2.1))=some io) (hrt:∀r,get rt r=if r∈ow then none else get S.roots r) (hd1:∀r∈io,r ∉ ow) (hd2:∀r∈rdZ (W.map fun w=>(w.1,w.2.1)),r ∉ ow++(io++hb)) (hwh:∀(r v i j:Nat) (t:Ty) (ws:List t.den),(M.io,XC.rf r v [(i,j)] 0 t ws)∈W.map (fun w=>(w.1,w.2.1))->∃(T:Ty) (xs:List T.den) (o:List t.den),lk X.roots r=some (v,.tr T xs)/\Am T.n (xs.map (Ae T)) [(i,j)]=some (t.n,o.map (Ae t))/\o.length=ws.length):∀x∈W.map (toV X.roots),Zbq rt (io++hb) x:=by
 intro x hx;obtain⟨⟨m,c,d⟩,hw,rfl⟩:=Ky.1 hx;have hcd:=hW _ hw;simp only at hcd;have hz:(m,c)∈W.map fun w=>(w.1,w.2.1):=Ky.2 ⟨_,hw,rfl⟩;simp only[toV];have rdcase:(m=.rd\/m=.rx)->∀{t:Ty} {ws:List t.den} {r:Nat} {p:Af} {lo:Nat} {l:List (List D)},cC X.roots c=.rf r p t.n lo ws.length->Ct X.roots r p=some (t.n,l)->lo+ws.length<=l.length->(l.drop lo).take ws.length=ws.map (Ae t)->(lo=0\/0<ws.length) ->
   t.n=t.n/\(lo=0\/0<ws.length)/\r ∉ io++hb/\∃l,Dr rt r p=some (t.n,l)/\lo+ws.length<=l.length/\ws.map (Ae t)=(l.drop lo).take ws.length:=by
  intro hm t ws r p lo l h1 h2 h3 h4 h5;have hr:=hd2 r (Za6 hz hm (Ys6 h1));rw[Kca,not_or]at hr;refine⟨rfl,h5,hr.2,l, ?_,h3,h4.symm⟩;have:=Wo hS h2;unfold Dr at this ⊢;rw[hrt r,if_neg hr.1];exact this
 rcases hcd with ⟨v,h1,rfl⟩|⟨n,rfl,rfl⟩|⟨t,ws,r,p,lo,l,h1,h2,h3,h4,rfl,h6⟩
 ·cases m<;>first|trivial|exact h1
 ·cases m<;>first|trivial|exact⟨rfl,rfl⟩
 cases m with
 | ow=>trivial
 | rd=>rw[h1];exact rdcase (.inl rfl) h1 h2 h3 h4 h6
 | rx=>rw[h1];exact rdcase (.inr rfl) h1 h2 h3 h4 h6
 | io =>
  rcases Q2 hio hz with ⟨r',s,t',xs,rfl,hl,hin⟩|(⟨n,rfl⟩|hlf)|⟨r',v,i,j,t',ws',s,T,xs,rfl,hl,hin⟩
  ·simp only[cC,hl,C.rf.injEq]at h1;obtain⟨rfl,rfl,e3,rfl,e5⟩:=h1;obtain⟨y',y1,y2⟩:=hS.roots r' s _ hl _ rfl;have hg:get S.roots r'=some (.tr t'.n (xs.map (Ae t'))):=by
    cases y' with
    | tr _ _=>obtain⟨rfl,rfl⟩:=y2;exact y1
    | _=>exact y2.elim
   simp only[Ct,hl,Am,Ka,Kb]at h2;obtain⟨e6,rfl⟩:=h2;rw[Kja,<-e5,Kib (by simp)]at h4;simp only[cC,hl];refine⟨e3,rfl,by rw[Ko,e5],t'.n,xs.map (Ae t'),by rw[hrt r',if_neg (hd1 r' hin)];exact hg, ?_⟩;simp only[Am,Ka,Kb];exact⟨e3,h4⟩
  ·simp [cC]at h1
  ·exfalso;cases c<;>simp [K8]at hlf<;>simp [cC]at h1
  obtain⟨T',xs',o,w1,w2,w3⟩:=hwh _ _ _ _ _ _ hz;have hv:Cn X.roots r' v=true:=Mj w1;simp only[cC,hv,C.rf.injEq]at h1;obtain⟨rfl,rfl,e3,rfl,e5⟩:=h1;obtain⟨y',y1,y2⟩:=hS.roots r' _ _ w1 _ rfl;have hg:get S.roots r'=some (.tr T'.n (xs'.map (Ae T'))):=by
   cases y' with
   | tr _ _=>obtain⟨rfl,rfl⟩:=y2;exact y1
   | _=>exact y2.elim
  simp only[Ct,w1,w2,Ka,Kb]at h2;obtain⟨e6,rfl⟩:=h2;rw[Kja,<-e5,<-w3,Kib (by simp)]at h4;simp only[cC,hv];refine⟨e3,rfl,by rw[Ko,e5],T'.n,xs'.map (Ae T'),by rw[hrt r',if_neg (hd1 r' hin)];exact hg, ?_⟩;rw[w2,e3,h4]
end
end Go.Vs
namespace Go.Vs
variable [Glb]
section
variable {β:Type} {X:XSt} {S:St} {out:β} {P:Program}
theorem Ybm {E:List (Nat×V)}{R:List (Nat×Root)}{n f r s:Nat}{t:Ty}{xs xs':List t.den}(hX:XOk X) (hS:SimX X ⟨E,R,n,f⟩) (hl:lk X.roots r=some (s,.tr t xs)) (hn:xs'.length=xs.length) :
  XOk (X.setR r (.tr t xs'))/\Ext X (X.setR r (.tr t xs'))/\SimX (X.setR r (.tr t xs')) ⟨E,put R r (.tr t.n (xs'.map (Ae t))),n,f⟩:=by
 obtain⟨a,b⟩:=Mt hX (x:=.tr t xs') (Kc _) (hX.ids r s _ hl).1 (fun cs h=>by simp at h);refine⟨a,b, ?_⟩;have key:∀c',okC X.roots X.next X.stamp c'->cC ((r,X.stamp,.tr t xs')::X.roots) c'=.un\/cC ((r,X.stamp,.tr t xs')::X.roots) c'=A7 [] (cC X.roots c'):=fun c' hc=>Lu (.inr (.inr (.inr ⟨t,xs',xs,s,rfl,hl,hn⟩))) hc;have e:=hS.next;simp only at e;subst e;refine Pj (X':=X.setR r (.tr t xs')) (ks:=[]) (roots:=put R r (.tr t.n (xs'.map (Ae t)))) hX hS rfl rfl key ?_;intro q s' z hq;simp only[XSt.setR]at hq;rw[Bd]at hq;split at hq
 ·rename_i e;simp only at e;subst e;simp only[Ka,Kb]at hq;obtain⟨_,rfl⟩:=hq;right;intro y hy;simp only[cRt,Ka]at hy;subst hy;exact⟨.tr t.n (xs'.map (Ae t)),by rw[Ax,if_pos rfl],rfl,rfl⟩
 rename_i e;left;exact⟨hq,by rw[L9,Ax,if_neg e]⟩
def Hd (X X':XSt) (R R':List (Nat×Root)):Prop:=∀r s x,lk X'.roots r=some (s,x)->s<X.stamp->get R' r=get R r
theorem Hd.refl (X:XSt) (R:List (Nat×Root)):Hd X X R R:=fun _ _ _ _ _=>rfl
theorem Hd.trans {X Y Z:XSt}{R R' R2:List (Nat×Root)}(h1:Hd X Y R R') (h2:Hd Y Z R' R2) (e1:Ext X Y) (e2:Ext Y Z):Hd X Z R R2:=fun r s x hl hs=>by
 have hs':=Kz hs e1.stamp;rw[h2 r s x hl hs'];exact h1 r s x (e2.roots r s x hl hs') hs
theorem Ybe {r:Nat}{x:XR}{R:List (Nat×Root)}{y:Root}:Hd X (X.setR r x) R (put R r y):=by
 intro q s z hq hs;simp only[XSt.setR]at hq;rw[Bd]at hq;split at hq
 ·simp only[Ka,Kb]at hq;omega
 rename_i e;rw[Ax,if_neg e]
theorem Zak {X0:XSt}:∀(W:List (M×XC×D)) (vs:List Sg){X:XSt}{E:List (Nat×V)}{R:List (Nat×Root)}{n f:Nat}(io:List Nat) (k:XSt->Option β),XOk X->SimX X ⟨E,R,n,f⟩->(∀w∈W,CD X0.roots w.2.1 w.2.2)->ioZ X0.roots (W.map fun w=>(w.1,w.2.1))=some io->ioX (W.map fun w=>(w.1,w.2.1)) vs X k=some out ->
  ∃X' R',k X'=some out/\XOk X'/\Ext X X'/\SimX X' ⟨E,R',n,f⟩/\B2 R (W.map (toV X0.roots)) (vs.map ioG)=some R'/\Hd X X' R R'/\X'.env=X.env
 | [],vs,X,E,R,n,f,io,k,hX,hS,hW,hio,h=>by
  cases vs with
  | nil=>simp only[Ktb,ioX]at h;exact⟨X,R,h,hX,Ext.refl X,hS,rfl,Hd.refl X R,rfl⟩
  | cons v vs=>simp [ioX]at h
 | (m,c,d)::W,vs,X,E,R,n,f,io,k,hX,hS,hW,hio,h=>by
  have hcd:=hW _ Kp;have hW':=fun w hw=>hW w (Kj _ hw);simp only at hcd;simp only[Ke,ioZ]at hio;simp only[Ke,ioX]at h;have plain:∀(io':List Nat),ioZ X0.roots (W.map fun w=>(w.1,w.2.1))=some io'->ioX (W.map fun w=>(w.1,w.2.1)) vs X k=some out->(∀o,B2 R (toV X0.roots (m,c,d)::W.map (toV X0.roots)) o=B2 R (W.map (toV X0.roots)) o) ->
    ∃X' R',k X'=some out/\XOk X'/\Ext X X'/\SimX X' ⟨E,R',n,f⟩/\B2 R (((m,c,d)::W).map (toV X0.roots)) (vs.map ioG)=some R'/\Hd X X' R R'/\X'.env=X.env:=by
   intro io' h1 h2 h3;obtain⟨X',R',q1,q2,q3,q4,q5,q6,q7⟩:=Zak W vs io' k hX hS hW' h1 h2;exact⟨X',R',q1,q2,q3,q4,by rw[Ke,h3];exact q5,q6,q7⟩
  cases m with
  | rd=>exact plain io hio h fun o=>by cases o<;>simp only[toV,B2]
  | rx=>exact plain io hio h fun o=>by cases o<;>simp only[toV,B2]
  | ow=>exact plain io hio h fun o=>by cases o<;>simp only[toV,B2]
  | io =>
   simp only at hio h;split at h
   ·rename_i r;simp only at hio;split at hio
    ·rename_i s0 t0 xs0 ids hl0 hi0;simp only[Ka]at hio;subst hio;split at h
     ·rename_i t' ys vs';split at h
      ·rename_i s t xs hl;obtain⟨xs',h,rfl,g3,g4⟩:=Vh h;obtain⟨hn,h⟩:=Dt h;simp only[nEq,decide_eq_true_eq]at hn;obtain⟨a,b,c'⟩:=Ybm (xs':=xs') hX hS hl hn;obtain⟨X',R',q1,q2,q3,q4,q5,q6,q7⟩:=Zak W vs' ids k a c' hW' hi0 h;have hd:=Zs3 hl0 hcd;subst hd;obtain⟨y',y1,y2⟩:=hS.roots r s _ hl _ rfl;have hg:get R r=some (.tr t'.n (xs.map (Ae t'))):=by
        cases y' with
        | tr _ _=>obtain⟨rfl,rfl⟩:=y2;exact y1
        | _=>exact y2.elim
       refine⟨X',R',q1,q2,b.trans q3,q4, ?_,Ybe.trans q6 b q3,q7⟩;simp only[Ke,toV,cC,hl0,ioG,B2,hg,D0,g3];exact q5
      simp at h
     simp at h
    simp at hio
   ·rename_i r v i j t0 ws;simp only at hio;split at hio
    ·rename_i s0 T0 xs0 ids hl0 hi0;simp only[Ka]at hio;subst hio;split at h
     ·rename_i t' ys vs';split at h
      ·rename_i s T xs hl;obtain⟨xs',h,rfl,g3,g4⟩:=Vh h;obtain⟨hn,h⟩:=Dt h;obtain⟨e,he,h⟩:=Gs h;obtain⟨e',o,h,u1,u2⟩:=Zp4 T j t' xs' e _ h;obtain⟨a,b,c'⟩:=Ybm (xs':=Bq xs i e') hX hS hl (by simp [Bq]);obtain⟨X',R',q1,q2,q3,q4,q5,q6,q7⟩:=Zak W vs' ids k a c' hW' hi0 h;obtain⟨e1,t1,ws1,rfl⟩:=Zz5 hcd;obtain⟨y',y1,y2⟩:=hS.roots r s _ hl _ rfl;have hg:get R r=some (.tr T.n (xs.map (Ae T))):=by
        cases y' with
        | tr _ _=>obtain⟨rfl,rfl⟩:=y2;exact y1
        | _=>exact y2.elim
       refine⟨X',R',q1,q2,b.trans q3,q4, ?_,Ybe.trans q6 b q3,q7⟩;have he':xs[i]? = some e:=by simpa [idx] using he
       have hup:D0 (xs.map (Ae T)) [(i,j)] (fun _=>ys.map (Ae t'))=(Bq xs i e').map (Ae T):=by
        simp only[D0,Kba,he',Kha,u2,Bq,Kbe,u1,g3]
       simp only[Ke,toV,e1,ioG,B2,hg,hup];exact q5
      simp at h
     simp at h
    simp at hio
   ·rename_i nn;simp only at hio;split at h
    ·rename_i v vs';obtain⟨X',R',q1,q2,q3,q4,q5,q6,q7⟩:=Zak W vs' io k hX hS hW' hio h;refine⟨X',R',q1,q2,q3,q4, ?_,q6,q7⟩;rcases hcd with ⟨v',h1,_⟩|⟨n',h1,rfl⟩|⟨t,ws,r,p,lo,l,h1,_⟩
     ·simp [cC]at h1
     ·simp only[Ke,toV,cC,B2];exact q5
     simp [cC]at h1
    simp at h
   rename_i h1 h2 h3;split at hio
   ·exact (h1 _ rfl).elim
   ·exact (h2 _ _ _ _ _ _ rfl).elim
   ·exact (h3 _ rfl).elim
   split at hio
   ·rename_i hlf;obtain⟨v,h1,rfl⟩:=Zxs hlf hcd;exact plain io hio h fun o=>by cases o<;>simp only[toV,h1,B2]
   simp at hio
theorem Yu5 {E:List (Nat×V)}{A R:List (Nat×Root)}{n f r s:Nat}{es es':List (Nat×XC)}{bs':List C}(hX:XOk X) (hS:SimX X ⟨E,A++R,n,f⟩) (hA:get A r=none) (hl:lk X.roots r=some (s,.bx es)) (hc:∀(c:Nat) (e:Nat×XC),es'[c]? = some e->(e.1=X.stamp\/es[c]? = some e)/\okC X.roots X.next X.stamp e.2) (hw:Ab WkC bs' (es'.map fun e=>cC X.roots e.2)) :
  XOk (X.setR r (.bx es'))/\Ext X (X.setR r (.bx es'))/\SimX (X.setR r (.bx es')) ⟨E,A++put R r (.bx bs'),n,f⟩/\Hd X (X.setR r (.bx es')) (A++R) (A++put R r (.bx bs')):=by
 obtain⟨a,b⟩:=Mt hX (x:=.bx es') (Kc _) (hX.ids r s _ hl).1 (by
  intro cs h c e he;simp only[XR.bx.injEq]at h;subst h;obtain⟨h1,h2⟩:=hc c e he;exact⟨h1.imp id fun h=>⟨s,es,hl,h⟩,h2⟩)
 have key:∀c',okC X.roots X.next X.stamp c'->cC ((r,X.stamp,.bx es')::X.roots) c'=.un\/cC ((r,X.stamp,.bx es')::X.roots) c'=A7 [] (cC X.roots c'):=fun c' hc=>Lu (.inr (.inr (.inl ⟨_,_,_,rfl,hl⟩))) hc;have e:=hS.next;simp only at e;subst e;have hgo:∀q,r≠q->get (A++put R r (.bx bs')) q=get (A++R) q:=by
  intro q hq;rw[Ea,Ea,Ax,if_neg hq]
 refine⟨a,b, ?_, ?_⟩
 ·refine Pj (X':=X.setR r (.bx es')) (ks:=[]) (roots:=A++put R r (.bx bs')) hX hS rfl rfl key ?_;intro q s' z hq;simp only[XSt.setR]at hq;rw[Bd]at hq;split at hq
  ·rename_i e;simp only at e;subst e;simp only[Ka,Kb]at hq;obtain⟨_,rfl⟩:=hq;right;intro y hy;simp only[cRt,Ka]at hy;subst hy;refine⟨.bx bs',by rw[Ea,hA,Ax,if_pos rfl], ?_⟩;have w0:Ab WkC bs' ((es'.map (·.2)).map (cC X.roots)):=by rw[Kqb];exact hw
   have w1:=Xt (ks:=[]) key (fun c hc'=>by
    obtain⟨e,he,rfl⟩:=Ky.1 hc';obtain⟨i,hi⟩:=Klc he;exact (hc i e hi).2) w0
   have e3:bs'.map (A7 [])=bs':=by
    have:A7 []=fun c=>c:=by funext c;rfl
    rw[this];simp
   rw[e3,Kqb]at w1;exact w1
  rename_i e;left;exact⟨hq,by rw[L9];exact hgo q e⟩
 intro q s' z hq hs;simp only[XSt.setR]at hq;rw[Bd]at hq;split at hq
 ·simp only[Ka,Kb]at hq;omega
 rename_i e;exact hgo q e
theorem Zgh:∀{t:Ty}{x:t.den}{j:Nat}{d:D}{ty:Ty}{m:M},Nb t=true->(Ae t x)[j]? = some d->(cts t)[j]? = some ty->Ej (m,d)=(match m,M3 ty with|.rx,true=>true|_,_=>false)
 | .I _,x,0,d,ty,m,hn,h,ht=>by simp [Ae,cts]at h ht;subst h ht;cases m<;>rfl
 | .Y,x,0,d,ty,m,hn,h,ht=>by simp [Ae,cts]at h ht;subst h ht;cases m<;>rfl
 | .B,x,0,d,ty,m,hn,h,ht=>by simp [Ae,cts]at h ht;subst h ht;cases m<;>rfl
 | .S,x,0,d,ty,m,hn,h,ht=>by simp [Ae,cts]at h ht;subst h ht;cases m<;>rfl
 | .L _,x,0,d,ty,m,hn,h,ht=>by simp [Ae,cts]at h ht;subst h ht;cases m<;>rfl
 | .I _,x,j+1,d,ty,m,hn,h,ht=>by simp [Ae]at h
 | .Y,x,j+1,d,ty,m,hn,h,ht=>by simp [Ae]at h
 | .B,x,j+1,d,ty,m,hn,h,ht=>by simp [Ae]at h
 | .S,x,j+1,d,ty,m,hn,h,ht=>by simp [Ae]at h
 | .L _,x,j+1,d,ty,m,hn,h,ht=>by simp [Ae]at h
 | .H _,x,j,d,ty,m,hn,h,ht=>by simp [Nb]at hn
 | .P a b,x,j,d,ty,m,hn,h,ht=>by
  have hn1:Nb a=true:=by
   simp only[Nb]at hn;split at hn
   ·assumption
   cases hn
  have hn2:Nb b=true:=by
   simp only[Nb,hn1]at hn;exact hn
  simp only[Ae,cts,Zb]at h ht;by_cases hj:j<a.n
  ·rw[Ksa (by rw[Bu];exact hj)]at h;rw[Ksa (by rw[So];exact hj)]at ht;exact Zgh hn1 h ht
  rw[Kia (by rw[Bu];omega),Bu]at h;rw[Kia (by rw[So];omega),So]at ht;exact Zgh hn2 h ht
theorem Zgo {R:XRs}{nx st:Nat}:∀(ms:List M) (ts:List Ty) (ds:List D) (es:List (Nat×XC)) (bs:List C) (ys:List XC) (us:List C),(∀(j:Nat) (m:M) (d:D) (ty:Ty),ms[j]? = some m->ds[j]? = some d->ts[j]? = some ty->Ej (m,d)=(match m,M3 ty with|.rx,true=>true|_,_=>false))->ms.length=ds.length->ds.length=ts.length->es.length=ds.length ->
  Ab WkC bs (es.map fun e=>cC R e.2)->Ab WkC us (ys.map (cC R))->(∀e∈es,okC R nx st e.2)->(∀y∈ys,okC R nx st y) ->
  Ab WkC (Ia (ms.zip ds) bs us) ((Ec st ms ts es ys).map fun e=>cC R e.2)/\(Ec st ms ts es ys).length=ms.length/\∀(j:Nat) (e:Nat×XC),(Ec st ms ts es ys)[j]? = some e->(e.1=st\/es[j]? = some e)/\okC R nx st e.2
 | [],[],[],[],[],ys,us,_,_,_,_,_,_,_,_=>⟨trivial,rfl,by simp [Ec]⟩
 | m::ms,t::ts,d::ds,e::es,b::bs,ys,us,hr,h1,h2,h3,hb,hu,ho,hy=>by
  simp only[Kf,Kwe]at h1 h2 h3;have hr0:=hr 0 m d t rfl rfl rfl;have hr':∀(j:Nat) (m:M) (d:D) (ty:Ty),ms[j]? = some m->ds[j]? = some d->ts[j]? = some ty->Ej (m,d)=(match m,M3 ty with|.rx,true=>true|_,_=>false):=fun j m d ty a b c=>hr (j+1) m d ty (by simpa using a) (by simpa using b) (by simpa using c);have ho':=fun e he=>ho e (Kj _ he);have old:Ej (m,d)=true->Ab WkC (Ia ((m::ms).zip (d::ds)) (b::bs) us) (((e::Ec st ms ts es ys)).map fun e=>cC R e.2)/\(e::Ec st ms ts es ys).length=(m::ms).length/\∀(j:Nat) (e':Nat×XC),(e::Ec st ms ts es ys)[j]? = some e'->(e'.1=st\/(e::es)[j]? = some e')/\okC R nx st e'.2:=by
   intro hx;obtain⟨q1,q2,q3⟩:=Zgo ms ts ds es bs ys us hr' h1 h2 h3 hb.2 hu ho' hy;refine⟨?_,by simp [q2], ?_⟩
   ·simp only[Khc,Ia,hx,if_true,Ke];exact⟨hb.1,q1⟩
   intro j e' he;cases j with
   | zero=>simp only[Kv,Ka]at he;subst he;exact⟨.inr rfl,ho _ Kp⟩
   | succ j=>simpa using q3 j e' (by simpa using he)
  have new:Ej (m,d)=false->Ab WkC (Ia ((m::ms).zip (d::ds)) (b::bs) us) ((match ys with|y::ys=>(st,y)::Ec st ms ts es ys|[]=>e::Ec st ms ts es []:List (Nat×XC)).map fun e=>cC R e.2)/\(match ys with|y::ys=>(st,y)::Ec st ms ts es ys|[]=>e::Ec st ms ts es []).length=(m::ms).length/\∀(j:Nat) (e':Nat×XC),(match ys with|y::ys=>(st,y)::Ec st ms ts es ys|[]=>e::Ec st ms ts es [])[j]? = some e'->(e'.1=st\/(e::es)[j]? = some e')/\okC R nx st e'.2:=by
   intro hx;cases ys with
   | nil =>
    cases us with
    | cons u us=>exact hu.elim
    | nil =>
     obtain⟨q1,q2,q3⟩:=Zgo ms ts ds es bs [] [] hr' h1 h2 h3 hb.2 trivial ho' (by simp);refine⟨?_,by simp [q2], ?_⟩
     ·simp only[Khc,Ia,hx,Kka,if_false,Ke];exact⟨hb.1,q1⟩
     intro j e' he;cases j with
     | zero=>simp only[Kv,Ka]at he;subst he;exact⟨.inr rfl,ho _ Kp⟩
     | succ j=>simpa using q3 j e' (by simpa using he)
   | cons y ys =>
    cases us with
    | nil=>exact hu.elim
    | cons u us =>
     obtain⟨q1,q2,q3⟩:=Zgo ms ts ds es bs ys us hr' h1 h2 h3 hb.2 hu.2 ho' (fun z hz=>hy z (Kj _ hz));refine⟨?_,by simp [q2], ?_⟩
     ·simp only[Khc,Ia,hx,Kka,if_false,Ke];exact⟨hu.1,q1⟩
     intro j e' he;cases j with
     | zero=>simp only[Kv,Ka]at he;subst he;exact⟨.inl rfl,hy _ Kp⟩
     | succ j=>simpa using q3 j e' (by simpa using he)
  cases m with
  | rx =>
   cases hT:M3 t with
   | true =>
    simp only[hT]at hr0;simp only[Ec,hT];exact old hr0
   | false =>
    simp only[hT]at hr0;simp only[Ec,hT];exact new hr0
  | _=>simp only[Ec];exact new hr0
 | [],_::_,ds,_,_,_,_,_,h1,h2,_,_,_,_,_=>by rw[<-h1]at h2;simp at h2
 | _::_,[],ds,_,_,_,_,_,h1,h2,_,_,_,_,_=>by rw[Ki]at h2;rw[h2]at h1;simp at h1
 | [],[],_::_,_,_,_,_,_,h1,_,_,_,_,_,_=>by simp at h1
 | _::_,_::_,[],_,_,_,_,_,h1,_,_,_,_,_,_=>by simp at h1
 | [],[],[],_::_,_,_,_,_,_,_,h3,_,_,_,_=>by simp at h3
 | _::_,_::_,_::_,[],_,_,_,_,_,_,h3,_,_,_,_=>by simp at h3
 | [],[],[],[],_::_,_,_,_,_,_,_,hb,_,_,_=>hb.elim
 | _::_,_::_,_::_,_::_,[],_,_,_,_,_,_,hb,_,_,_=>hb.elim
end
end Go.Vs
