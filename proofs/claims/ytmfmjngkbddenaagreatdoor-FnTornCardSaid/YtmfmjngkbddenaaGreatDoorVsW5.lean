import Derived.ChangeArms
import Derived.ChangeSlices
import Derived.WideShapes
import Derived.DataReads
import Derived.ChangeShapes
import Derived.Laws.RangeAny
import Derived.Test.YtmfmjngkbddenaaGreatDoorVsW4
set_option linter.all false
namespace Go.Vs
variable [Glb]
section
variable {β:Type} {X:XSt} {S:St} {out:β} {P:Program}
def Zjf:List GArg->List GC->List V->Prop
 | [],[],[]=>True
 | a::as,g::gs,y::ys=>g.a=a/\a.ms.length=a.t.n/\(match a.ptr with
  | true=>∃r c,g.at? = some (r,c)/\y=.a (.c (.pb r c))
  | false=>g.at? = none)/\Zjf as gs ys
 | _,_,_=>False
theorem Zv6 (hS:SimX X S):∀(as:List GArg) (vs:List XV) (ys:List V) (gs:List GC),Ab (fun y v=>WkV y (cV X.roots v)/\okV X.roots X.next X.stamp v) ys vs->Gy X as vs=some gs->Zjf as gs ys
 | [],[],[],gs,_,h=>by simp only[Gy,Ka]at h;subst h;trivial
 | a::as,v::vs,y::ys,gs,hw,h=>by
  simp only[Gy]at h;split at h
  ·rename_i g gs' h1 h2;split at h
   ·rename_i hb;simp only[Ka]at h;subst h;simp only[Kd,G4]at hb;have ih:=Zv6 hS as vs ys gs' hw.2 h2;unfold Qr at h1;split at h1
    ·rename_i c hp hag;simp only[Ka]at h1;subst h1;exact⟨rfl,Kq hb.2,by simp only[hp],ih⟩
    ·rename_i c hp hag;simp only[Ka]at h1;subst h1;exact⟨rfl,Kq hb.2,by simp only[hp],ih⟩
    ·rename_i r c hp;split at h1
     ·rename_i s es hle;split at h1
      ·simp only[Ka]at h1;subst h1;refine⟨rfl,Kq hb.2, ?_,ih⟩;simp only[hp];refine⟨r,c,rfl, ?_⟩;have:=hw.1.1;simp only[cV,cA,cC,hle]at this;exact this.c (by simp)
      simp at h1
     simp at h1
    simp at h1
   simp at h
  simp at h
 | [],_::_,_,_,_,h=>by simp [Gy]at h
 | _::_,[],_,_,_,h=>by simp [Gy]at h
 | [],[],_::_,_,hw,_=>hw.elim
 | _::_,_::_,[],_,hw,_=>hw.elim
theorem Yev {R:List (Nat×Root)}{y:V}{ys:List V}{ag:Bool}{l:List (M×D)}{as:List Arg}{o:List (List D)}{us:List C}:He R (y::ys) (.val ag l::as) o us=He R ys as o us:=by
 conv=>lhs;unfold He
 split
 ·simp_all
 ·simp_all
 ·simp_all
 simp_all;rename_i hx;exact absurd rfl (hx y ys _ as rfl rfl rfl)
theorem Zem:∀(as:List GArg) (gs:List GC) (ysV:List V) (x:Tp (C3 as)) (vs:List Sg) (cells:List XC) (us:List C){X X':XSt}{E:List (Nat×V)}{A R:List (Nat×Root)}{n f:Nat},XOk X->SimX X ⟨E,A++R,n,f⟩->Zjf as gs ysV->(∀r∈bxZ gs,get A r=none)->vs.map (·.1)=Gt as ->
  Ab WkC us (cells.map (cC X.roots))->(∀c∈cells,okC X.roots X.next X.stamp c)->bxX gs cells X=some X' ->
  ∃R',He R ysV (Ay as x) (bxG as vs) us=some R'/\XOk X'/\Ext X X'/\SimX X' ⟨E,A++R',n,f⟩/\Hd X X' (A++R) (A++R')/\X'.env=X.env
 | [],[],[],x,vs,cells,us,X,X',E,A,R,n,f,hX,hS,_,_,_,_,_,h=>by
  simp only[bxX,Ka]at h;subst h;exact⟨R,rfl,hX,Ext.refl X,hS,Hd.refl X _,rfl⟩
 | a::as,g::gs,y::ysV,x,vs,cells,us,X,X',E,A,R,n,f,hX,hS,hg,hA,hv,hw,ho,h=>by
  obtain⟨rfl,hms,hp,hg⟩:=hg;simp only[bxX]at h;cases hptr:g.a.ptr with
  | false =>
   simp only[hptr]at hp;simp only[hp]at h;simp only[bxZ,hp]at hA;simp only[Gt,hptr]at hv;obtain⟨R',q1,q2⟩:=Zem as gs ysV (Tp.tl _ _ x) vs cells us hX hS hg hA hv hw ho h;refine⟨R', ?_,q2⟩;simp only[Ay,mkG,hptr,bxG,Yev];exact q1
  | true =>
   simp only[hptr]at hp;obtain⟨r,c,hat,rfl⟩:=hp;simp only[hat]at h;simp only[bxZ,hat]at hA;split at h
   ·rename_i s es hl;split at h
    ·rename_i hb;obtain⟨hb,hnH⟩:=Bool.and_eq_true_iff.1 hb;have hb:=Kea hb;rw[G4]at hb;obtain⟨bs,g1,g2⟩:=P9 hS hl;have hAr:=hA r Kp;have hR:get R r=some (.bx bs):=by
      simp only[Ea,hAr]at g1;exact g1
     have hbl:=g2.length;rw[Ko]at hbl;have hen:=Bu g.a.t (Tp.hd _ _ x);have hlen:(g.a.ms.zip (Ae g.a.t (Tp.hd _ _ x))).length=g.a.ms.length:=by rw[List.length_zip];omega
     obtain⟨m1,m2,m3⟩:=Zgo (R:=X.roots) (nx:=X.next) (st:=X.stamp) g.a.ms (cts g.a.t) (Ae g.a.t (Tp.hd _ _ x)) ((es.drop c).take g.a.ms.length) ((bs.drop c).take g.a.ms.length) (cells.take (Fg g.a.o)) (us.take (Fg g.a.o))
      (fun j m d ty _ hd ht=>Zgh hnH hd ht) (by omega) (by rw[hen,So]) (by simp;omega)
      (by have:=Jz (n:=g.a.ms.length) (Jg (n:=c) g2);rw[Keb,Kfb];exact this)
      (by rw[Keb];exact Jz hw)
      (fun e he=>(hX.box r s es hl e (Kkb (Kjb he))).2)
      (fun y hy=>ho y (Kjb hy))
     rw[G4]at h;obtain⟨b1,b2,b3,b4⟩:=Yu5 (es':=es.take c++(Ec X.stamp g.a.ms (cts g.a.t) ((es.drop c).take g.a.ms.length) (cells.take (Fg g.a.o))++es.drop (c+g.a.ms.length))) (bs':=bs.take c++(Ia (g.a.ms.zip (Ae g.a.t (Tp.hd _ _ x))) ((bs.drop c).take g.a.ms.length) (us.take (Fg g.a.o))++bs.drop (c+g.a.ms.length))) hX hS hAr hl (by
      intro j e hj;have hlt:(es.take c).length=c:=by simp;omega
      by_cases h1:j<c
      ·rw[Ksa (by omega),Kwa,if_pos h1]at hj;exact⟨.inr hj,(hX.box r s es hl e (Kaa hj)).2⟩
      ·rw[Kia (by omega),hlt]at hj;by_cases h2:j-c<g.a.ms.length
       ·rw[Ksa (by omega)]at hj;obtain⟨q1,q2⟩:=m3 _ e hj;refine⟨q1.imp id fun h=>?_,q2⟩;rw[Kwa,if_pos h2,Kdb]at h
        rwa [show c+(j-c)=j by omega]at h
       ·rw[Kia (by omega),m2,Kdb]at hj;rw[show c+g.a.ms.length+(j-c-g.a.ms.length)=j by omega]at hj;exact⟨.inr hj,(hX.box r s es hl e (Kaa hj)).2⟩) (by
      rw[Kx,Kx,Keb,Kfb];exact Nr (Jz g2) (Nr m1 (Jg g2)))
     -- the rest
     have key:∀c',okC X.roots X.next X.stamp c'->cC (X.setR r (.bx (es.take c++(Ec X.stamp g.a.ms (cts g.a.t) ((es.drop c).take g.a.ms.length) (cells.take (Fg g.a.o))++es.drop (c+g.a.ms.length))))).roots c'=.un\/cC (X.setR r (.bx (es.take c++(Ec X.stamp g.a.ms (cts g.a.t) ((es.drop c).take g.a.ms.length) (cells.take (Fg g.a.o))++es.drop (c+g.a.ms.length))))).roots c'=A7 [] (cC X.roots c'):=fun c' hc=>Lu (.inr (.inr (.inl ⟨_,_,_,rfl,hl⟩))) hc;have hw2:=Xt (ks:=[]) key (ys:=us.drop (Fg g.a.o)) (cs:=cells.drop (Fg g.a.o)) (fun c hc=>ho c (Kkb hc)) (by rw[Kfb];exact Jg hw);have e3:(us.drop (Fg g.a.o)).map (A7 [])=us.drop (Fg g.a.o):=by
      have:A7 []=fun c=>c:=by funext c;rfl
      rw[this];simp
     rw[e3]at hw2;have ho2:∀c'∈cells.drop (Fg g.a.o),okC (X.setR r (.bx (es.take c++(Ec X.stamp g.a.ms (cts g.a.t) ((es.drop c).take g.a.ms.length) (cells.take (Fg g.a.o))++es.drop (c+g.a.ms.length))))).roots (X.setR r (.bx (es.take c++(Ec X.stamp g.a.ms (cts g.a.t) ((es.drop c).take g.a.ms.length) (cells.take (Fg g.a.o))++es.drop (c+g.a.ms.length))))).next (X.setR r (.bx (es.take c++(Ec X.stamp g.a.ms (cts g.a.t) ((es.drop c).take g.a.ms.length) (cells.take (Fg g.a.o))++es.drop (c+g.a.ms.length))))).stamp c':=fun c' hc=>okC.ext b2.next b2.stamp b2.roots (ho c' (Kkb hc));cases hoo:g.a.o with
     | none =>
      simp only[Gt,hptr,hoo,Tn,H1]at hv;simp only[hoo]at h hw2 ho2 b1 b2 b3 b4;obtain⟨R',q1,q2,q3,q4,q5,q6⟩:=Zem as gs ysV (Tp.tl _ _ x) vs _ _ b1 b3 hg (fun q hq=>hA q (Kj _ hq)) hv hw2 ho2 h;refine⟨R', ?_,q2,b2.trans q3,q4,b4.trans q5 b2 q3,q6⟩;simp only[Ay,mkG,hptr,bxG,hoo,He,hR,hlen,Ki];exact q1
     | some ot =>
      simp only[Gt,hptr,hoo,Tn,H1]at hv;cases vs with
      | nil=>simp at hv
      | cons v vs =>
       simp only[Ke,List.cons.injEq]at hv;simp only[hoo]at h hw2 ho2 b1 b2 b3 b4;obtain⟨R',q1,q2,q3,q4,q5,q6⟩:=Zem as gs ysV (Tp.tl _ _ x) vs _ _ b1 b3 hg (fun q hq=>hA q (Kj _ hq)) hv.2 hw2 ho2 h;refine⟨R', ?_,q2,b2.trans q3,q4,b4.trans q5 b2 q3,q6⟩;have hn:(Gx v).length=Fg (some ot):=by simp only[Gx,Bu,hv.1,Fg]
       simp only[Ay,mkG,hptr,bxG,hoo,He,hR,hlen,hn];exact q1
    simp at h
   simp at h
 | [],_::_,_,_,_,_,_,_,_,_,_,_,_,_,_,_,h,_,_,_,_,_=>h.elim
 | _::_,[],_,_,_,_,_,_,_,_,_,_,_,_,_,_,h,_,_,_,_,_=>h.elim
 | [],[],_::_,_,_,_,_,_,_,_,_,_,_,_,_,_,h,_,_,_,_,_=>h.elim
 | _::_,_::_,[],_,_,_,_,_,_,_,_,_,_,_,_,_,h,_,_,_,_,_=>h.elim
theorem Zkm {c:XC}:∀(gs:List GC) (ys:List XC) (Z Z':XSt) (nx st:Nat),okC Z.roots nx st c->st<=Z.stamp->nx<=Z.next->bxX gs ys Z=some Z'->cC Z'.roots c=.un\/cC Z'.roots c=cC Z.roots c
 | [],ys,Z,Z',nx,st,_,_,_,h=>by simp only[bxX,Ka]at h;subst h;exact .inr rfl
 | g::gs,ys,Z,Z',nx,st,ho,hst,hnx,h=>by
  simp only[bxX]at h;split at h
  ·rename_i r c0 hat;split at h
   ·rename_i s es hl;split at h
    ·have ho':okC Z.roots Z.next Z.stamp c:=okC.ext hnx hst (fun _ _ _ h _=>h) ho;have old:∀es' q s z,lk ((r,Z.stamp,XR.bx es')::Z.roots) q=some (s,z)->s<Z.stamp->lk Z.roots q=some (s,z):=by
      intro es' q s z hl hs;rw[Bd]at hl;split at hl
      ·simp only[Ka,Kb]at hl;omega
      exact hl
     rcases Zkm gs _ (Z.setR r _) Z' Z.next Z.stamp (okC.ext (Kc _) (Kc _) (old _) ho') (Kcc _) (Kc _) h with q|q
     ·exact .inl q
     rcases Lu (.inr (.inr (.inl ⟨_,_,_,rfl,hl⟩))) ho' with w|w
     ·exact .inl (q.trans w)
     exact .inr (q.trans w)
    simp at h
   simp at h
  exact Zkm gs _ _ _ nx st ho hst hnx h
theorem Zik:∀vs:List Sg,(Fq vs).map Dk=vs.flatMap Gx
 | []=>rfl
 | v::vs=>by simp only[Fq,Kx,Zby,Zik vs,Kxa,Gx]
theorem Zhm:∀(rs:List (Bool×Ty)) (vs:List Sg),vs.length=rs.length->(Fb rs vs).flatMap (·.2)=vs.flatMap Gx
 | [],[],_=>rfl
 | r::rs,v::vs,h=>by simp only[Fb,Kxa,Zhm rs vs (by simpa using h)]
 | [],_::_,h=>by simp at h
 | _::_,[],h=>by simp at h
theorem Zg:∀(as:List GArg) (vs:List Sg),vs.map (·.1)=Gt as->(bxG as vs).flatten=vs.flatMap Gx
 | [],vs,h=>by simp only[Gt,List.map_eq_nil_iff]at h;subst h;rfl
 | a::as,vs,h=>by
  simp only[Gt]at h;cases hp:a.ptr with
  | false=>simp only[hp]at h;simp only[bxG,hp];exact Zg as vs h
  | true =>
   simp only[hp]at h;cases ho:a.o with
   | none=>simp only[ho,Tn,H1]at h;simp only[bxG,hp,ho,Kfd,Km];exact Zg as vs h
   | some t =>
    simp only[ho,Tn,H1]at h;cases vs with
    | nil=>simp at h
    | cons v vs =>
     simp only[Ke,List.cons.injEq]at h;simp only[bxG,hp,ho,Kfd,Kxa,Zg as vs h.2]
theorem Zz1 {R:XRs}:∀(rs:List (Bool×Ty)) (vs:List Sg) (us:List C) (cs:List XC),vs.map (·.1)=Gj rs->Ab WkC us (cs.map (cC R))->(∀(l:Nat),True)->(vs.flatMap Gx).length<=cs.length->Ab WkA (Gh (Fb rs vs) us) ((Mh rs cs).map (cA R))
 | [],_,_,_,_,_,_,_=>by cases ‹List Sg›<;>trivial
 | (ag,t)::rs,[],us,cs,h,_,_,_=>by simp [Gj]at h
 | (ag,t)::rs,v::vs,us,cs,h,hw,_,hl=>by
  simp only[Ke,Gj,List.cons.injEq]at h;have hn:(Gx v).length=t.n:=by rw[Gx,Bu,h.1]
  simp only[Fb,Gh,Mh,Ke,hn];simp only[Kxa,Kt,hn]at hl;refine⟨?_, ?_⟩
  ·have ht:=Jz (n:=t.n) hw;rw[<-Keb]at ht;cases ag with
   | true=>simp only[O4,if_true];exact ht
   | false =>
    simp only[O4,Kka,if_false]
    match h1:us.take t.n,h2:cs.take t.n with
    | [],[]=>trivial
    | [u],[c]=>rw[h1,h2]at ht;exact ht.1
    | [],_::_=>rw[h1,h2]at ht;exact ht.elim
    | _::_,[]=>rw[h1,h2]at ht;exact ht.elim
    | [_],_::_::_=>rw[h1,h2]at ht;exact ht.2.elim
    | _::_::_,[_]=>rw[h1,h2]at ht;exact ht.2.elim
    | _::_::_,_::_::_=>trivial
  have hd:=Jg (n:=t.n) hw;rw[<-Kfb]at hd;exact Zz1 rs vs _ _ h.2 hd (fun _=>trivial) (by rw[Kma];omega)
theorem Zkn (hX:XOk X) (hS:SimX X S){as:List GArg}{rs:List (Bool×Ty)}{F:Tp (C3 as)->Option (Tp (Fo as rs))}{C:List Value->World->(Ending->World->Prop)->Prop}(hC:∀x y,F x=some y->Y3 C (Ay as x) (Mb as rs (Dz _ y))){vs:List XV}{us:List V}(hargs:Ab (fun y v=>WkV y (cV X.roots v)/\okV X.roots X.next X.stamp v) us vs){k:XV->XSt->Option β}(h:Zeo X as rs F vs k=some out):ClT X S (fun K=>Zkp C S us K) k out:=by
 have hnx:S.next=X.next:=hS.next;unfold Zeo at h;split at h
 ·rename_i gs hg;split at h
  ·rename_i ow io how hio;split at h
   ·rename_i hc;simp only[Kd]at hc;obtain⟨hn1,hn2,hd1,hd2⟩:=hc;have hn1:=Rb hn1;have hn2:=Rb hn2;have hd1:=Vp hd1;have hd2:=Vp hd2;obtain⟨h,hwh⟩:=Zrj _ h;obtain⟨x,h,hf,hW,hz,hbx⟩:=Zvw hX hS as _ _ gs _ hargs hg h;obtain⟨y,hy,h⟩:=Gs h;rw[<-hz]at how hio hd2 hwh h;have hWcd:∀w∈Ls as gs x,CD X.roots w.2.1 w.2.2:=fun w hw=>(hW w hw).1
    -- what is taken
    obtain⟨o1,o2⟩:=Zy4 (Ls as gs x) hWcd;obtain⟨rt,t1,t2⟩:=Xh hS _ _ ow S.roots o2 how hn1 (fun _ _=>rfl);rw[<-o1]at t1;obtain⟨d1,d2,d3⟩:=Zp ow hX hS (Tq hX how);obtain⟨v1,v2,v3,v4⟩:=Zo ow X;have d4:SimX (X.delRs ow) ⟨S.env,rt,S.next,S.fix⟩:=by
     refine Xe (R:=S.roots) d3 ?_;intro r s z hl hx;by_cases hm:r∈ow
     ·obtain⟨s',hg'⟩:=(K1 ow X r).1 hm;rw[hl]at hg';simp only[Ka,Kb]at hg';exact (hx hg'.2).elim
     rw[t2 r,if_neg hm]
    have d5:Hd X (X.delRs ow) S.roots rt:=by
     intro r s z hl hs;by_cases hm:r∈ow
     ·have key:∀(l:List Nat) (Y:XSt),r∈l->∀s x,lk (Y.delRs l).roots r=some (s,x)->Y.stamp<=s:=by
       intro l
       induction l with
       | nil=>intro Y h;simp at h
       | cons q l ih =>
        intro Y h s x hl;by_cases hq:r∈l
        ·have:=ih (Y.setR q .gone) hq s x hl;have e:(Y.setR q .gone).stamp=Y.stamp+1:=rfl;omega
        have hq':=(Kh.1 h).resolve_right hq;subst hq';have h2:lk ((Y.setR r .gone).delRs l).roots r=some (s,x):=hl;rw[(K1 l (Y.setR r .gone) r).2 hq]at h2;simp only[XSt.setR]at h2;rw[Bd,if_pos rfl]at h2;simp only[Ka,Kb]at h2;omega
      have:=key ow X hm s z hl;omega
     rw[t2 r,if_neg hm]
    have hseen:=Yu3 (hb:=bxZ gs) hS hWcd hio t2 hd1 hd2 hwh
    -- what is written
    obtain⟨X2,r1,h,i1,i2,i3,i4,i5,i6⟩:=Zak (X0:=X) (Ls as gs x) _ io _ d1 d4 hWcd hio h;have hnext2:X2.next=X.next:=by rw[<-hnx];exact i3.next.symm
    -- what is new
    have i3':SimX X2 ⟨S.env,r1,X2.next,S.fix⟩:=⟨rfl,i3.fix,i3.env,i3.roots⟩;obtain⟨n1,n2,n3,n4,n5,n6,n7⟩:=Zgx (Fq ((Dz _ y).take (A2 rs)++((Dz _ y).drop (A2 rs)).drop (A2 (H9 as)))) i1 i3';split at h
    ·rename_i X4 hb
     -- lengths and types of what comes out
     have htys:=Zqg _ y;have hT:Fo as rs=Gj rs++(H9 as++Gt as):=by simp only[Fo,Zb]
     have hrl:(Gj rs).length=rs.length:=by
      have key:∀rs:List (Bool×Ty),(Gj rs).length=rs.length:=by
       intro rs;induction rs with
       | nil=>rfl
       | cons r rs ih=>simp only[Gj,Kf,ih]
      exact key _
     have hres:((Dz _ y).take (A2 rs)).map (·.1)=Gj rs:=by
      rw[Keb,htys,hT,G4,<-hrl,Ked];rfl
     have hbxs:(((Dz _ y).drop (A2 rs)).drop (A2 (H9 as))).map (·.1)=Gt as:=by
      rw[Kfb,Kfb,htys,hT,G4,G4,<-hrl,Kqc rfl,Kqc rfl]
     have hresl:((Dz _ y).take (A2 rs)).length=rs.length:=by rw[<-hrl,<-hres,Ko]
     generalize hvr:(Dz _ y).take (A2 rs)=vr at *
     generalize hvb:((Dz _ y).drop (A2 rs)).drop (A2 (H9 as))=vb at *
     have hcells:(Fq (vr++vb)).map Dk=(Fb rs vr).flatMap (·.2)++(bxG as vb).flatten:=by
      rw[Zik,List.flatMap_append,Zhm _ _ hresl,Zg _ _ hbxs]
     rw[hcells,hnext2,<-hnx]at n4 n5 n6;have hlenr:((Fb rs vr).flatMap (·.2)).length=A2 (Fq vr):=by
      rw[Zhm _ _ hresl,<-Zik,Ko,G4]
     have grel:=Zv6 hS as _ _ gs hargs hg;have hbxlt:∀r∈bxZ gs,r<X.next:=by
      intro r hr;have key:∀(as:List GArg) (vs:List XV) (gs:List GC),(∀v∈vs,okV X.roots X.next X.stamp v)->Gy X as vs=some gs->r∈bxZ gs->r<X.next:=by
       intro as
       induction as with
       | nil =>
        intro vs gs _ hg hr;cases vs with
        | nil=>simp only[Gy,Ka]at hg;subst hg;simp [bxZ]at hr
        | cons _ _=>simp [Gy]at hg
       | cons a as ih =>
        intro vs gs hv hg hr;cases vs with
        | nil=>simp [Gy]at hg
        | cons v vs =>
         simp only[Gy]at hg;split at hg
         ·rename_i g gs' h1 h2;split at hg
          ·simp only[Ka]at hg;subst hg;simp only[bxZ]at hr;split at hr
           ·rename_i q c hat;rcases Kh.1 hr with rfl|hr
            ·unfold Qr at h1;split at h1
             ·simp only[Ka]at h1;subst h1;simp at hat
             ·simp only[Ka]at h1;subst h1;simp at hat
             ·split at h1
              ·rename_i hle;split at h1
               ·simp only[Ka]at h1;subst h1;simp only[Ka,Kb]at hat;obtain⟨rfl,_⟩:=hat;exact (hX.ids _ _ _ hle).1
               simp at h1
              simp at h1
             simp at h1
            exact ih vs gs' (fun v hv'=>hv v (Kj _ hv')) h2 hr
           exact ih vs gs' (fun v hv'=>hv v (Kj _ hv')) h2 hr
          simp at hg
         simp at hg
      refine key as _ gs ?_ hg hr;intro v hv;have kk:∀{us:List V} {vs:List XV},Ab (fun y v=>WkV y (cV X.roots v)/\okV X.roots X.next X.stamp v) us vs->v∈vs->okV X.roots X.next X.stamp v:=by
       intro us
       induction us with
       | nil=>intro vs ha hm;cases vs with
        | nil=>cases hm
        | cons _ _=>exact ha.elim
       | cons u us ih=>intro vs ha hm;cases vs with
        | nil=>exact ha.elim
        | cons w ws =>
         rcases Kh.1 hm with rfl|hm
         ·exact ha.1.2
         exact ih ha.2 hm
      exact kk hargs hv
     have hAnone:∀r,r<X.next->get (Ap ((Fb rs vr).flatMap (·.2)++(bxG as vb).flatten) S.next).2.1 r=none:=by
      intro r hr;cases hq:get (Ap ((Fb rs vr).flatMap (·.2)++(bxG as vb).flatten) S.next).2.1 r with
      | none=>rfl
      | some z=>have:=((Hs _ _).2 _ (Na hq)).1;simp only at this;omega
     obtain⟨r2,b1,b2,b3,b4,b5,b6⟩:=Zem as gs us x vb _ ((Ap ((Fb rs vr).flatMap (·.2)++(bxG as vb).flatten) S.next).1.drop ((Fb rs vr).flatMap (·.2)).length) n1 n5 grel (fun r hr=>hAnone r (hbxlt r hr)) hbxs
      (by rw[hlenr,Kfb];exact Jg n6) (fun c hc=>n7 c (Kkb hc)) hb
     -- together
     have hext:Ext X X4:=((d2.trans i2).trans n2).trans b3;have hsameN:Hd X2 (C2 (Fq (vr++vb)) X2).2 r1 ((Ap ((Fb rs vr).flatMap (·.2)++(bxG as vb).flatten) S.next).2.1++r1):=by
      intro r s z hl hs;have h0:=n2.roots r s z hl hs;have:=(i1.ids r s z h0).1;rw[Ea,hAnone r (by rw[<-hnext2];exact this)]
     have hsame:Hd X X4 S.roots ((Ap ((Fb rs vr).flatMap (·.2)++(bxG as vb).flatten) S.next).2.1++r2) :=
      ((d5.trans i5 d2 i2).trans hsameN (d2.trans i2) n2).trans b5 ((d2.trans i2).trans n2) b3
     have keyC:∀c,okC (C2 (Fq (vr++vb)) X2).2.roots (C2 (Fq (vr++vb)) X2).2.next (C2 (Fq (vr++vb)) X2).2.stamp c->cC X4.roots c=.un\/cC X4.roots c=A7 [] (cC (C2 (Fq (vr++vb)) X2).2.roots c):=fun c hc=>Zkm gs _ _ _ _ _ hc (Kc _) (Kc _) hb;refine⟨_,_,h,b2,hext, ?_, ?_,Fc (Gh (Fb rs vr) (Ap ((Fb rs vr).flatMap (·.2)++(bxG as vb).flatten) S.next).1),[],(Ap ((Fb rs vr).flatMap (·.2)++(bxG as vb).flatten) S.next).2.1++r2, ?_, ?_,⟨rfl,hsame⟩, ?_⟩
     ·exact okV.ext b3.next b3.stamp b3.roots (Zpm (Zbd _ _ n7))
     ·rw[b6,n3,i6,v1]
     ·have w0:=Zz3 (Zz1 rs vr _ _ hres n6 (fun _=>trivial) (by
       rw[Zgw];have:(vr.flatMap Gx).length=(Fq vr).length:=by rw[<-Zik,Ko]
       rw[this];have key:∀a b:List Sg,(Fq a).length<=(Fq (a++b)).length:=by
        intro a b
        induction a with
        | nil=>simp [Fq]
        | cons v a ih=>simp only[Kn,Fq,Kt];omega
       exact key vr vb))
      have w1:=Yds (ks:=[]) keyC (Zpm (Zbd _ _ n7)) w0;have e3:∀v:V,(∀f c,v≠.fn f c)->(∀r n,v≠.sb r n)->v.map (A7 [])=v:=by
       have hk:A7 []=fun c=>c:=by funext c;rfl
       have ha:A.map (fun c=>c)=fun x=>x:=by funext x;cases x<;>simp [A.map]
       intro v h1 h2;rw[hk];cases v with
       | un=>rfl
       | a x=>simp only[V.map,ha]
       | tp xs=>simp only[V.map,ha,List.map_id']
       | fn f c=>exact (h1 f c rfl).elim
       | sb r n=>exact (h2 r n rfl).elim
      rw[e3 _ (by intro f c;unfold Fc;split<;>simp) (by intro r n;unfold Fc;split<;>simp)]at w1
      exact w1
     ·rw[Oz];have:=b4;exact⟨rfl,this.fix,this.env,this.roots⟩
     intro K hK;refine⟨Ay as x,_,hC x y hy,_,hf,rt,t1, ?_, ?_,r1, ?_,r2, ?_, ?_⟩
     ·rw[Znk _ _ hWcd hio,hbx];exact hn2
     ·rw[Znk _ _ hWcd hio,hbx];exact hseen
     ·exact i4
     ·simp only[Mb,hvr,hvb];exact b1
     simp only[Mb,hvr,hvb];have hn4:(Ap ((Fb rs vr).flatMap (·.2)++(bxG as vb).flatten) S.next).2.2=X4.next:=by
      rw[<-n4];have:=b4.next;have:=n5.next;simp only at *;omega
     rw[hn4];exact hK
    simp at h
   simp at h
  simp at h
 simp at h
theorem Zst (hX:XOk X) (hS:SimX X S){e:GEnt P}{args:List Opd}{k:XV->XSt->Option β}(h:Zen X e (args.map X.opd) k=some out):Zcm P X S e.f args k out :=
 (Zkn hX hS (C:=fun vs w R=>Calls P e.f vs.toArray w R) e.ok (Vd hX hS args) h).mono fun K h=>.inl h
end
end Go.Vs
namespace Go.Vs
variable [Glb]
def R9 (P:Program) (c:Code) (Q:Exit->Act->World->Prop) (a:Act) (w:World):Prop :=
 ∀(b:Frame) (k:List Item) (cs:List Frame),∃e a' w',Q e a' w'/\Arrives P (lone (b.at a (.code c::.inLoop c::k)) cs w) b k cs e a' w'
theorem R9.wp {P:Program}{c:Code}{Q:Exit->Act->World->Prop}{a:Act}{w:World}(h:R9 P c Q a w):(Code.loop c).wp P Q a w:=fun b k cs=>by
 obtain⟨e,a',w',hq,harr⟩:=h b k cs;exact⟨e,a',w',hq,.of_steps (.one step_loop) harr⟩
theorem R9.round {P:Program}{c:Code}{Q:Exit->Act->World->Prop}{a:Act}{w:World}(h:c.wp P (Exit.then (R9 P c Q) Q) a w):R9 P c Q a w:=fun b k cs=>by
 obtain⟨e,a₁,w₁,hq,harr⟩:=h b (.inLoop c::k) cs;cases e with
 | normal =>
  obtain⟨e₂,a₂,w₂,hq₂,harr₂⟩:=hq b k cs;exact⟨e₂,a₂,w₂,hq₂,.of_steps (Steps.trans harr (.one step_inLoop)) harr₂⟩
 | exit id=>exact⟨_,a₁,w₁,hq,.pass (x:=.inLoop c) rfl (fun _ _=>.inl (by simp)) harr⟩
 | goto l=>exact⟨_,a₁,w₁,hq,.pass (x:=.inLoop c) rfl (fun _ _=>.inl (by simp)) harr⟩
 | ret=>exact⟨_,a₁,w₁,hq,.pass (x:=.inLoop c) rfl (fun _ _=>.inl (by simp)) harr⟩
 | panic ch=>exact⟨_,a₁,w₁,hq,.pass (x:=.inLoop c) rfl (fun _ _=>.inl (by simp)) harr⟩
 | outgrown=>exact⟨_,a₁,w₁,hq,.pass (x:=.inLoop c) rfl (fun _ _=>.inl (by simp)) harr⟩
def VwL (P:Program) (N:Nat) (c:Code) (S:St) (Q:Exit->St->Prop):Prop :=
 ∀(w0:World) (own0:Nat->Nat->Prop) (pl0:Pls) (g:Lab) (pl:Pls) (a:Act) (w:World),Rel N w0 own0 pl0 g pl S a w->R9 P c (PQ N w0 own0 pl0 S.fix Q) a w
variable {P:Program} {N:Nat} {S:St} {Q:Exit->St->Prop}
theorem Yxl {c:Code}(h:VwL P N c S Q):Vw P N (.loop c) S Q:=fun w0 own0 pl0 g pl a w hR=>(h w0 own0 pl0 g pl a w hR).wp
theorem Ydq {c:Code}(h:Vw P N c S (E6 (fun S'=>VwL P N c S' Q) Q)):VwL P N c S Q:=fun w0 own0 pl0 g pl a w hR=>by
 refine R9.round (wp_mono (h w0 own0 pl0 g pl a w hR) ?_);rintro e a' w' ⟨S',g',pl',q,hf,r⟩;cases e with
 | normal =>
  have:=q w0 own0 pl0 g' pl' a' w' r;rw[hf]at this;exact this
 | exit id=>exact⟨S',g',pl',q,hf,r⟩
 | goto l=>exact⟨S',g',pl',q,hf,r⟩
 | ret=>exact⟨S',g',pl',q,hf,r⟩
 | panic ch=>exact⟨S',g',pl',q,hf,r⟩
 | outgrown=>exact⟨S',g',pl',q,hf,r⟩
theorem Ydp {c:Code}{T:St}(hl:Le S T) (h:VwL P N c T Q):VwL P N c S Q:=fun w0 own0 pl0 g pl a w hR=>by
 obtain⟨g1,pl1,hR1⟩:=hl.2 N w0 own0 pl0 g pl a w hR;have:=h w0 own0 pl0 g1 pl1 a w hR1;rw[hl.1]at this;exact this
theorem Yxk {c:Code}(I:Nat->St->Prop) (hr:∀k T,I k T->Vw P N c T (E6 (fun S'=>∃k' T',k'<k/\I k' T'/\Le S' T') Q)):∀(n:Nat) (T:St),I n T->VwL P N c T Q:=by
 intro n
 induction n using Nat.strongRecOn with
 | _ n ih =>
  intro T hT;refine Ydq fun w0 own0 pl0 g pl a w hR=>?_;refine wp_mono (hr n T hT w0 own0 pl0 g pl a w hR) ?_;rintro e a' w' ⟨S',g',pl',q,hf,r⟩;refine⟨S',g',pl', ?_,hf,r⟩;cases e with
  | normal =>
   obtain⟨k',T',hk,hI',hl'⟩:=q;exact Ydp hl' (ih k' hk T' hI')
  | exit id=>exact q
  | goto l=>exact q
  | ret=>exact q
  | panic ch=>exact q
  | outgrown=>exact q
def SwL (P:Program) (N:Nat) (s:Stm) (S:St) (Q:Exit->St->Prop):Prop:=∀c,trC P N c=some s->VwL P N c S Q
theorem Yb9 {x:Stm}(h:SwL P N x S Q):Sw P N (.loop x) S Q:=fun c hc=>by
 cases c with
 | loop a =>
  simp only[trC,Ks,Stm.loop.injEq]at hc;obtain⟨x',hx,rfl⟩:=hc;exact Yxl (h a hx)
 | region id ops d=>cases d<;>simp [trC]at hc
 | seq a b=>simp [trC,Kl,Kg]at hc
 | cond c a b=>simp [trC,Kl,Kg]at hc
 | _=>simp [trC]at hc
theorem Yv2 {x:Stm}(h:Sw P N x S (E6 (fun S'=>SwL P N x S' Q) Q)):SwL P N x S Q:=fun c hc=>by
 refine Ydq fun w0 own0 pl0 g pl a w hR=>?_;refine wp_mono (h c hc w0 own0 pl0 g pl a w hR) ?_;rintro e a' w' ⟨S',g',pl',q,hf,r⟩;refine⟨S',g',pl', ?_,hf,r⟩;cases e with
 | normal=>exact q c hc
 | exit id=>exact q
 | goto l=>exact q
 | ret=>exact q
 | panic ch=>exact q
 | outgrown=>exact q
theorem Yv1 {x:Stm}(I:Nat->St->Prop) (n:Nat) (h0:∃T,I n T/\Le S T) (hr:∀k T,I k T->Sw P N x T (E6 (fun S'=>∃k' T',k'<k/\I k' T'/\Le S' T') Q)):SwL P N x S Q:=fun c hc=>by
 obtain⟨T,hT,hl⟩:=h0;exact Ydp hl (Yxk I (fun k T hI=>hr k T hI c hc) n T hT)
end Go.Vs
namespace Go.Vs
variable [Glb]
def N3 (P:Program):List GI->St->(St->Prop)->Prop
 | [],S,K=>∃T,Le S T/\K T
 | g::l,S,K=>∃T,Le S T/\Jv P g T fun S'=>N3 P l S' K
section
variable {P:Program} {N:Nat} {S:St} {Q:Exit->St->Prop}
theorem Yah {ops:Array Oper}{w0:World}{own0:Nat->Nat->Prop}{pl0:Pls}{fx:Nat}:∀(l:List Oper) (k:Nat) (gis:List GI) (S:St) (g:Lab) (pl:Pls) (a:Act) (w:World),(∀j,l[j]? = ops[k+j]?)->Fu P N ops l=some gis->S.fix=fx->Rel N w0 own0 pl0 g pl S a w->N3 P gis S (Q .normal) ->
  wpOps P ops (PQ N w0 own0 pl0 fx Q) (List.range' k l.length) a w
 | [],k,gis,S,g,pl,a,w,_,ht,hf,hR,h=>by
  simp only[Fu,Ka]at ht;subst ht;obtain⟨T,hl,hK⟩:=h;obtain⟨g',pl',hR'⟩:=hl.2 N w0 own0 pl0 g pl a w hR;exact⟨T,g',pl',hK,hl.1.trans hf,hR'⟩
 | o::l,k,gis,S,g,pl,a,w,hl,ht,hf,hR,h=>by
  simp only[Fu,Kl,Kg,Ka]at ht;obtain⟨gi,hgi,gs,hgs,rfl⟩:=ht;obtain⟨T,hle,h⟩:=h;obtain⟨g',pl',hR'⟩:=hle.2 N w0 own0 pl0 g pl a w hR;simp only[Kf,Kmf];rw[wpOps_cons];have h0:ops[k]? = some o:=by simpa using (hl 0).symm
  refine Yby hR' h0 hgi h ?_;intro S' g2 pl2 a' w' hf' hK hR2;exact Yah l (k+1) gs S' g2 pl2 a' w' (fun j=>by have:=hl (j+1);simpa [Kgb,Nat.add_comm 1 j] using this) hgs (by rw[hf',hle.1,hf]) hR2 hK
theorem Yxg {id:Nat}{ops:Array Oper}{gis:List GI}(ht:Fu P N ops ops.toList=some gis) (h:N3 P gis S (Q .normal)):Vw P N (.region id ops false) S Q:=fun w0 own0 pl0 g pl a w hR=>by
 refine wp_region ?_;rw[List.range_eq_range',<-Ksb];exact Yah ops.toList 0 gis S g pl a w (by simp) ht rfl hR h
theorem Yvy {gis:List GI}(h:N3 P gis S (Q .normal)):Sw P N (.reg gis) S Q:=fun c hc=>by
 cases c with
 | region id ops d =>
  cases d with
  | false =>
   simp only[trC,Ks,Stm.reg.injEq]at hc;obtain⟨gs,hg,rfl⟩:=hc;exact Yxg hg h
  | true=>simp [trC]at hc
 | seq a b=>simp [trC,Kl,Kg]at hc
 | cond c a b=>simp [trC,Kl,Kg]at hc
 | _=>simp [trC]at hc
theorem Yvj {g:GI}{K K':St->Prop}(h:Jv P g S K) (hk:∀S',K S'->K' S'):Jv P g S K':=by
 have e:∀j:J,evJ P S (fun x ks roots nx=>K ⟨Bs g.dst x (C0 ks S.env),roots,nx,S.fix⟩) j->evJ P S (fun x ks roots nx=>K' ⟨Bs g.dst x (C0 ks S.env),roots,nx,S.fix⟩) j:=by
  intro j hj;obtain⟨x,ks,r,n,h1,h2⟩:=Zl8 hj;exact h2 _ (hk _ h1)
 unfold Jv at h ⊢;split at h
 ·rename_i hg;exact e _ h
 rename_i t want hg;split at h
 ·exact⟨fun hb=>e _ (h.1 hb),fun hb=>hk _ (h.2 hb)⟩
 ·exact hk _ h
 exact h.elim
theorem Yag {K:St->Prop}:∀(l l':List GI) (S:St),N3 P l S (fun S'=>N3 P l' S' K)->N3 P (l++l') S K
 | [],[],S,h=>by
  obtain⟨T,h1,U,h2,h3⟩:=h;exact⟨U,h1.trans h2,h3⟩
 | [],g::l',S,h=>by
  obtain⟨T,h1,U,h2,h3⟩:=h;exact⟨U,h1.trans h2,h3⟩
 | g::l,l',S,h=>by
  obtain⟨T,h1,h2⟩:=h;exact⟨T,h1,Yvj h2 fun S' h=>Yag l l' S' h⟩
end
structure CEnt (P:Program) where
 f:FuncId
 F:List UInt8->Option Int
 ok:∀x h,F x=some h->Zdn P f (.sl 1 (x.map (Ae .Y))) [.int .i64 0,.int .i64 h]
def Ze8 {P:Program}{β:Type}(X:XSt) (e:CEnt P) (vs:List XV) (k:XV->XSt->Option β):Option β:=match vs with
 | [.a (.c c)]=>Er X.roots (.L .Y) [c] fun x rest=>match rest with
  | []=>bnd (e.F x) fun h=>k (.a (.c (.pb X.next 0))) (X.newR (.bx [(X.stamp,c),(X.stamp,.i .i64 0),(X.stamp,.i .i64 h)]))
  | _=>none
 | _=>none
theorem Ztl {P:Program}{β:Type}{X:XSt}{S:St}{out:β}(hX:XOk X) (hS:SimX X S){e:CEnt P}{args:List Opd}{k:XV->XSt->Option β}(h:Ze8 X e (args.map X.opd) k=some out):Zcm P X S e.f args k out:=by
 unfold Ze8 at h;split at h
 ·rename_i c hc;have ha:=Vd hX hS args;rw[hc]at ha
  match hy:args.map S.opd,ha with
  | [y],ha =>
  obtain⟨⟨hw,ho⟩,_⟩:=ha;obtain⟨x,c0,rest,hcc,h,hcd⟩:=Ng (nx:=X.next) (st:=X.stamp) (.L .Y) [c] _ out (fun c' hc=>by simp only[Koa]at hc;subst hc;exact ho) h;split at h
  ·rw[Kw]at hcc;subst hcc;obtain⟨z,hz,h⟩:=Gs h;have hcd1:CD X.roots c (.sl 1 (x.map (Ae .Y))):=hcd.1;have hyc:=hw.c hcd1.ne;have hnx:S.next=X.next:=hS.next;have hM:=e.ok x z hz;obtain⟨f1,f2,f3⟩:=Q8 (x:=.bx [(X.stamp,c),(X.stamp,.i .i64 0),(X.stamp,.i .i64 z)]) (y:=.bx [cC X.roots c,.lf (.int .i64 0),.lf (.int .i64 z)]) (E:=S.env) (R:=S.roots) (n:=S.next) (f:=S.fix) hX hS (fun cs' h e he=>by
    simp only[XR.bx.injEq]at h;subst h;simp only[Kh,Ktg,or_false]at he;rcases he with rfl|rfl|rfl
    ·exact⟨rfl,ho⟩
    ·exact⟨rfl,trivial⟩
    ·exact⟨rfl,trivial⟩) ⟨_,rfl,⟨WkC.refl _,WkC.refl _,WkC.refl _,trivial⟩⟩
   refine⟨_,_,h,f1,f2,Kqa _,rfl,.a (.c (.pb S.next 0)),[],(S.next,.bx [cC X.roots c,.lf (.int .i64 0),.lf (.int .i64 z)])::S.roots,Zo3 hnx, ?_,⟨rfl,fun r s x hl hs=>?_⟩,fun K hK=>?_⟩
   ·rw[Oz,hnx];exact f3
   ·simp only[XSt.newR]at hl;rw[Bd]at hl;split at hl
    ·simp only[Ka,Kb]at hl;omega
    rename_i hne;simp only[get];rw[if_neg (by rw[hnx];exact hne)]
   refine .inr (.inr (.inr ⟨cC X.roots c,_,_,by rw[hy,hyc],hM,Zer hS hcd1, ?_⟩));rw[hnx];rw[hnx]at hK;exact hK
  simp at h
 simp at h
structure HEnt (P:Program) where
 f:FuncId
 g:FuncId
 n:Nat
 args:List GArg
 res:List (Bool×Ty)
 F:Tp (C3 args)->Option (Tp (Fo args res))
 ok:∀x y,F x=some y->Y3 (fun ws w R=>Calls P f (Im n g ws).toArray w R) (Ay args x) (Mb args res (Dz _ y))
def vaX:List XA->List XV
 | []=>[]
 | a::l=>.a a::vaX l
def Sc:List XV->List XV->List XV
 | [],r=>r
 | a::l,r=>a::Sc l r
def Qf {β:Type}:Nat->List XV->List XV->(List XV->FuncId->List XA->Option β)->Option β
 | 0,[v],acc,k=>match v with
  | .fn g cs=>k acc g cs
  | _=>none
 | n+1,v::l,acc,k=>Qf n l (Sc acc [v]) k
 | _,_,_,_=>none
def Zep {P:Program}{β:Type}(X:XSt) (e:HEnt P) (vs:List XV) (k:XV->XSt->Option β):Option β :=
 Qf e.n vs [] fun us g cs=>match Nat.beq g e.g with
  | true=>Zeo X e.args e.res e.F (Sc us (vaX cs)) k
  | false=>none
theorem Zee:∀(l r:List XV),Sc l r=l++r
 | [],r=>rfl
 | a::l,r=>by simp only[Sc,Zee l r,Kn]
theorem Zrh:∀l:List XA,vaX l=l.map XV.a
 | []=>rfl
 | a::l=>by simp only[vaX,Zrh l,Ke]
theorem Ztn {β:Type}{out:β}:∀(n:Nat) (vs acc:List XV){k:List XV->FuncId->List XA->Option β},Qf n vs acc k=some out->∃us g cs,vs=us++[.fn g cs]/\us.length=n/\k (acc++us) g cs=some out
 | 0,[],acc,k,h=>by simp [Qf]at h
 | 0,v::w::l,acc,k,h=>by simp [Qf]at h
 | 0,[v],acc,k,h=>by
  simp only[Qf]at h;split at h
  ·exact⟨[],_,_,rfl,rfl,by simpa using h⟩
  cases h
 | n+1,[],acc,k,h=>by simp [Qf]at h
 | n+1,v::l,acc,k,h=>by
  simp only[Qf]at h;obtain⟨us,g,cs,rfl,h1,h2⟩:=Ztn n l _ h;refine⟨v::us,g,cs,rfl,by simp [h1], ?_⟩;rw[Zee]at h2;simpa using h2
theorem Zj5 {X:XSt}:∀{ys:List A}{cs:List XA},Ab WkA ys (cs.map (cA X.roots))->(∀x∈cs,okA X.roots X.next X.stamp x)->Ab (fun y v=>WkV y (cV X.roots v)/\okV X.roots X.next X.stamp v) (ys.map V.a) (cs.map XV.a)
 | [],[],_,_=>trivial
 | y::ys,c::cs,h,ho=>⟨⟨h.1,ho c Kp⟩,Zj5 h.2 fun x hx=>ho x (Kj _ hx)⟩
 | [],_::_,h,_=>h.elim
 | _::_,[],h,_=>h.elim
theorem Zr8 {α β:Type}{R:α->β->Prop}:∀{as:List α}{bs cs:List β},Ab R as (bs++cs)->∃a1 a2,as=a1++a2/\Ab R a1 bs/\Ab R a2 cs
 | as,[],cs,h=>⟨[],as,rfl,trivial,h⟩
 | [],b::bs,cs,h=>h.elim
 | a::as,b::bs,cs,h=>by
  obtain⟨a1,a2,rfl,h1,h2⟩:=Zr8 h.2;exact⟨a::a1,a2,rfl,⟨h.1,h1⟩,h2⟩
theorem Zsu {P:Program}{β:Type}{X:XSt}{S:St}{out:β}(hX:XOk X) (hS:SimX X S){e:HEnt P}{args:List Opd}{k:XV->XSt->Option β}(h:Zep X e (args.map X.opd) k=some out):Zcm P X S e.f args k out:=by
 unfold Zep at h;obtain⟨us,g,cs,hvs,hn,h⟩:=Ztn _ _ _ h;simp only[Km]at h;split at h
 case h_2=>cases h
 rename_i hb;have hg:=Kq hb;subst hg;rw[Zee,Zrh]at h;have ha:=Vd hX hS args;rw[hvs]at ha;obtain⟨y1,y2,hy,h1,h2⟩:=Zr8 ha
 match y2,h2 with
 | [y],h2 =>
  obtain⟨⟨hw,ho⟩,_⟩:=h2;cases y with
  | fn q caps =>
   obtain⟨rfl,hw⟩:=hw;have hl:=h1.length;refine (Zkn hX hS e.ok (Ab.append h1 (Zj5 hw ho)) h).mono fun K hK=>.inr (.inr (.inl ⟨y1,e.g,caps,hy, ?_⟩));rw[show y1.length=e.n by omega];exact hK
  | _=>exact hw.elim
inductive Fx (P:Program) where
 | see (e:SEnt P)
 | gen (e:GEnt P)
 | cur (e:CEnt P)
 | hof (e:HEnt P)
 | fs (e:SEnt P) (h:Zd P e.f=true)
 | fv (e:GEnt P) (h:Zd P e.f=true)
def Fx.f {P:Program}:Fx P->FuncId
 | .see e=>e.f
 | .gen e=>e.f
 | .cur e=>e.f
 | .hof e=>e.f
 | .fs e _=>e.f
 | .fv e _=>e.f
def Sx {P:Program}:List (Fx P)->FuncId->Option (Fx P)
 | [],_=>none
 | e::l,f=>match Nat.beq e.f f with
  | true=>some e
  | false=>Sx l f
theorem L1 {P:Program}{f:FuncId}{e:Fx P}:∀{l:List (Fx P)},Sx l f=some e->e.f=f
 | [],h=>by simp [Sx]at h
 | x::l,h=>by
  simp only[Sx]at h;split at h
  ·rename_i hb;simp only[Ka]at h;subst h;exact Kq hb
  exact L1 h
def hnt (H:List (Nat×Hn)) (d:Option Nat):Hn:=match d with
 | none=>.no
 | some t=>match H with
  | []=>.no
  | (q,h)::l=>match Nat.beq q t with
   | true=>h
   | false=>hnt l (some t)
def Zeq {P:Program}{β:Type}(Φ:List (Fx P)) (X:XSt) (f:Opd) (args:List Opd) (k:XV->XSt->Option β):Option β:=match X.opd f with
 | .fn g cs=>match Sx Φ g with
  | some (.fs e _)=>W7 X e (Sc (args.map X.opd) (vaX cs)) k
  | some (.fv e _)=>Zen X e (Sc (args.map X.opd) (vaX cs)) k
  | _=>none
 | _=>none
theorem Zsy {P:Program}{β:Type}{Φ:List (Fx P)}{X:XSt}{S:St}{out:β}(hX:XOk X) (hS:SimX X S){f:Opd}{args:List Opd}{k:XV->XSt->Option β}(h:Zeq Φ X f args k=some out):ClT X S (fun K=>evJ P S K (.wr (.calv f args))) k out:=by
 unfold Zeq at h;split at h
 case h_2=>cases h
 rename_i g cs hf;have h1:=G7 hS f;have h2:=Ff hX f;rw[hf]at h1 h2;have ha:=Vd hX hS args;rw[Zee,Zrh]at h;cases hy:S.opd f with
 | fn q caps =>
  rw[hy]at h1;obtain⟨rfl,hw⟩:=h1;have hall:=Ab.append ha (Zj5 hw h2);split at h
  ·rename_i e hb he;have:=L1 he;simp only[Fx.f]at this;subst this;exact (Ybf hX hS hall h).mono fun K hK=>⟨_,_,hy,hb,.inr (.inl hK)⟩
  ·rename_i e hb he;have:=L1 he;simp only[Fx.f]at this;subst this;exact (Zkn hX hS (C:=fun vs w R=>Calls P e.f vs.toArray w R) e.ok hall h).mono fun K hK=>⟨_,_,hy,hb,.inl hK⟩
  cases h
 | _=>rw[hy]at h1;exact h1.elim
def doX {P:Program}{β:Type}(Φ:List (Fx P)) (H:List (Nat×Hn)) (g:GI) (X:XSt) (k:XSt->Option β):Option β:=match g.op with
 | .rd i=>rdX X i fun v=>k (X.put g.dst v)
 | .wr j=>match j with
  | .call f args=>match Sx Φ f with
   | some (.see e)=>W7 X e (args.map X.opd) fun v X'=>k (X'.put g.dst v)
   | some (.gen e)=>Zen X e (args.map X.opd) fun v X'=>k (X'.put g.dst v)
   | some (.cur e)=>Ze8 X e (args.map X.opd) fun v X'=>k (X'.put g.dst v)
   | some (.hof e)=>Zep X e (args.map X.opd) fun v X'=>k (X'.put g.dst v)
   | _=>none
  | .calv f args=>Zeq Φ X f args fun v X'=>k (X'.put g.dst v)
  | j=>wrX X (hnt H g.dst) j fun v X'=>k (X'.put g.dst v)
def XSt.know (X:XSt) (t:Nat) (b:Bool):XSt:=X.put (some t) (.a (.c (.b b)))
def XSt.knowO (X:XSt) (c:Opd) (b:Bool):XSt:=match c with
 | .t n=>X.know n b
 | .k _=>X
def Zig {P : Program} {β : Type} (Φ : List (Fx P)) (H : List (Nat × Hn)) (g : GI) (X : XSt) (k : XSt → Option β) : Option β := match g.guard with
  | none => doX Φ H g X k
  | some (t, want) => match lk X.env t with
    | some (_, .a (.c (.b b))) => cnd b
      (match want with
        | true => doX Φ H g (X.know t true) k
        | false => k ((X.know t true).put g.dst (.tp [])))
      (match want with
        | true => k ((X.know t false).put g.dst (.tp []))
        | false => doX Φ H g (X.know t false) k)
    | some (_, .tp _) => k (X.put g.dst (.tp []))
    | _ => none
def W5 {P:Program}{β:Type}(Φ:List (Fx P)) (H:List (Nat×Hn)):List GI->XSt->(XSt->Option β)->Option β
 | [],X,k=>k X
 | g::l,X,k=>Zig Φ H g X fun X'=>W5 Φ H l X' k
def Zbi {P:Program}{β:Type}(Φ:List (Fx P)) (H:List (Nat×Hn)):List (Nat×List It)->List GI->XSt->(XSt->Option β)->Option β
 | [],gis,X,k=>W5 Φ H gis X k
 | (n,its)::l,gis,X,k=>Ao (W5 (β:=Tp (It.tys its) ⊕ β) Φ H (gis.take n) X fun X'=>Me X X' its fun s=>some (.inl s)) fun s=>Zbi Φ H l (gis.drop n) (Jf X its s) k
def M5 (X:XSt) (i:I):List Nat:=match i with
 | .load _ x=>match X.opd x with
  | .a (.c (.pe r _ _ _ _ _ _))=>[r]
  | .a (.c (.pb r _))=>[r]
  | _=>[]
 | .b2s x=>match X.opd x with
  | .a (.c (.rw r))=>[r]
  | .a (.c (.rv r _ _))=>[r]
  | .a (.c (.rf r _ _ _ _ _))=>[r]
  | _=>[]
 | _=>[]
def Zaq (X:XSt) (j:J):List Nat:=match j with
 | .rd i=>M5 X i
 | .wr _=>[]
def Mi (R:XRs):List Nat->List (Nat×Nat)
 | []=>[]
 | r::l=>match lk R r with
  | some (s,_)=>(r,s)::Mi R l
  | none=>Mi R l
def Wg (R:XRs):List Nat->Bool
 | []=>true
 | r::l=>match lk R r with
  | some _=>Wg R l
  | none=>false
def Pe (R:XRs):List (Nat×Nat)->Bool
 | []=>true
 | (r,s)::l=>Cn R r s&&Pe R l
def Zh4 (l:List (Nat×Nat)):List XRs->Bool
 | []=>true
 | R::h=>Pe R l&&Zh4 l h
abbrev Sb:=List (List (Nat×Nat)×Nat)
def Zh5 (R:XRs) (n:Nat):Sb->Bool
 | []=>true
 | (l,hi)::ps=>(match Nat.ble n hi with
  | true=>Pe R l
  | false=>true)&&Zh5 R n ps
def doD {P:Program}{β:Type}(Φ:List (Fx P)) (H:List (Nat×Hn)) (g:GI) (X:XSt) (k:XV->XSt->Option β):Option β:=match g.op with
 | .rd i=>rdX X i fun v=>k v X
 | .wr j=>match j with
  | .call f args=>match Sx Φ f with
   | some (.see e)=>W7 X e (args.map X.opd) k
   | some (.gen e)=>Zen X e (args.map X.opd) k
   | some (.cur e)=>Ze8 X e (args.map X.opd) k
   | some (.hof e)=>Zep X e (args.map X.opd) k
   | _=>none
  | .calv f args=>Zeq Φ X f args k
  | j=>match Za4 X j with
   | true=>wrX X (hnt H g.dst) j k
   | false=>none
def Zqk {P : Program} {β : Type} (Φ : List (Fx P)) (H : List (Nat × Hn)) (g : GI) (X : XSt) (k : List Nat → XV → XSt → Option β) : Option β := match g.guard with
  | none => doD Φ H g X fun v X' => k (Zaq X g.op) v X'
  | some (t, want) => match lk X.env t with
    | some (_, .a (.c (.b b))) => cnd b
      (match want with
        | true => doD Φ H g (X.know t true) fun v X' => k (Zaq (X.know t true) g.op) v X'
        | false => k [] (.tp []) (X.know t true))
      (match want with
        | true => k [] (.tp []) (X.know t false)
        | false => doD Φ H g (X.know t false) fun v X' => k (Zaq (X.know t false) g.op) v X')
    | some (_, .tp _) => k [] (.tp []) X
    | _ => none
def Zgy (m:Nat):Sb->Bool
 | []=>true
 | (_,hi)::l=>Nat.ble hi m&&Zgy m l
def Zxn (n:Nat) (it:DI) (l:List DI) (m:Nat) (pend:Sb):Bool:=match l with
 | []=>it.w&&((List.range (n-1)).all (fun b=>it.anc.contains b)&&Zgy m pend)
 | _=>false
def Sr {P:Program}{β:Type}(Φ:List (Fx P)) (H:List (Nat×Hn)) (n:Nat):List DI->XSt->List XRs->Sb->(XSt->Option β)->Option β
 | [],X,_,_,k=>k X
 | it::l,X,hist,pend,k=>match Zxn n it l hist.length pend with
  | true=>Zig Φ H it.gi X k
  | false=>Zqk Φ H it.gi X fun loc v X'=>match it.w with
  | true=>match Zh5 X'.roots (hist.length+1) pend with
   | true=>Sr Φ H n l (X'.put it.gi.dst v) (X.roots::hist) pend k
   | false=>none
  | false=>match Wg X'.roots loc&&Zh4 (Mi X'.roots loc) (hist.take (hist.length-it.lo)) with
   | true=>Sr Φ H n l (X'.put it.gi.dst v) hist (match Nat.blt hist.length it.hi with
    | true=>(Mi X'.roots loc,it.hi)::pend
    | false=>pend) k
   | false=>none
inductive An where
 | d
 | rg (l:List (Nat×List It))
 | sq (j:Option (List It)) (a b:An)
 | cd (a b:An)
 | bl (a:An)
 | lp (its:List It) (a:An)
 | pl (a:An) (its:List It) (b:An)
open Classical in
noncomputable def Vb {β:Type}(a b:Option β):Option β:=if a=b then a else none
theorem Yei {β:Type}(a:Option β):Vb a a=a:=by unfold Vb;rw[if_pos rfl]
theorem Yej {β:Type}{a b:Option β}{r:β}(h:Vb a b=some r):a=some r/\b=some r:=by
 unfold Vb at h;split at h
 ·rename_i e;exact⟨h,by rw[<-e];exact h⟩
 cases h
noncomputable def Zeb {β:Type}(f:List DI->Option β):List (List DI)->Option β
 | []=>none
 | its::l=>match l with
  | []=>f its
  | _=>Vb (f its) (Zeb f l)
theorem Zsb {β:Type}{f:List DI->Option β}{r:β}:∀{l:List (List DI)},Zeb f l=some r->∀its∈l,f its=some r
 | [],h,its,hi=>by cases hi
 | x::l,h,its,hi=>by
  simp only[Zeb]at h;split at h
  ·rcases Kh.1 hi with rfl|hi
   ·exact h
   cases hi
  obtain⟨h1,h2⟩:=Yej h;rcases Kh.1 hi with rfl|hi
  ·exact h1
  exact Zsb h2 its hi
noncomputable def Da {P:Program}(Φ:List (Fx P)) (H:List (Nat×Hn)):Stm->An->{β:Type}->XSt->(Exit->XSt->Option β)->Option β
 | .reg gis,an,_,X,k=>match an with
  | .rg l=>Zbi Φ H l gis X (k .normal)
  | _=>W5 Φ H gis X (k .normal)
 | .seq x y,an,β,X,k=>match an with
  | .sq (some its) a b=>Ao (Da Φ H x a (β:=Tp (It.tys its) ⊕ β) X fun e X'=>match e with
    | .normal=>Me X X' its fun s=>some (.inl s)
    | e=>Mc (k e X')) fun s=>Da Φ H y b (Jf X its s) k
  | .sq none a b=>Da Φ H x a X fun e X'=>match e with
    | .normal=>Da Φ H y b X' k
    | e=>k e X'
  | _=>Da Φ H x .d X fun e X'=>match e with
    | .normal=>Da Φ H y .d X' k
    | e=>k e X'
 | .cond c x y,an,_,X,k=>match X.opd c with
  | .a (.c (.b t))=>match an with
   | .cd a b=>cnd t (Da Φ H x a (X.knowO c true) k) (Da Φ H y b (X.knowO c false) k)
   | _=>cnd t (Da Φ H x .d (X.knowO c true) k) (Da Φ H y .d (X.knowO c false) k)
  | _=>none
 | .block id x,an,_,X,k=>Da Φ H x (match an with|.bl a=>a|_=>.d) X fun e X'=>match e with
  | .exit id'=>match Nat.beq id' id with
   | true=>k .normal X'
   | false=>k (.exit id') X'
  | e=>k e X'
 | .loop x,an,β,X,k=>match an with
  | .lp its a=>Me X X its fun s=>Aw (fun s=>Da Φ H x a (β:=Tp (It.tys its) ⊕ β) (Jf X its s) fun e X'=>match e with
    | .normal=>Me X X' its fun s=>some (.inl s)
    | e=>Mc (k e X')) s
  | .pl a1 its a=>Da Φ H x a1 X fun e X1=>match e with
    | .normal=>Me X1 X1 its fun s=>Aw (fun s=>Da Φ H x a (β:=Tp (It.tys its) ⊕ β) (Jf X1 its s) fun e X'=>match e with
      | .normal=>Me X1 X' its fun s=>some (.inl s)
      | e=>Mc (k e X')) s
    | e=>k e X1
  | _=>none
 | .exit id,_,_,X,k=>k (.exit id) X
 | .ret,_,_,X,k=>k .ret X
 | .skip,_,_,X,k=>k .normal X
 | .drw its,_,_,X,k=>match okD its with
  | true=>Sr Φ H its.length its X [] [] (k .normal)
  | false=>none
 | .alt l,_,_,X,k=>Zeb (fun its=>match okD its with
  | true=>Sr Φ H its.length its X [] [] (k .normal)
  | false=>none) l
section
variable {P:Program} {N:Nat} {β:Type} {out:β} {Φ:List (Fx P)} {H:List (Nat×Hn)}
theorem Zns {X:XSt}{S:St}(hX:XOk X) (hS:SimX X S){t:Nat}{b:Bool}{s:Nat}(hl:lk X.env t=some (s,.a (.c (.b b)))):XOk (X.know t b)/\Ext X (X.know t b)/\SimX (X.know t b) S:=by
 obtain⟨a,c⟩:=Jr hX (d:=some t) (v:=.a (.c (.b b))) trivial;refine⟨a,c,⟨hS.next,hS.fix, ?_,hS.roots⟩⟩;intro q s' v hq;simp only[XSt.know,XSt.put]at hq;rw[Bd]at hq;split at hq
 ·rename_i e;simp only at e;subst e;simp only[Ka,Kb]at hq;obtain⟨_,rfl⟩:=hq;exact hS.env _ _ _ hl
 exact hS.env q s' v hq
theorem Zle {X:XSt}{S:St}(hX:XOk X) (hS:SimX X S){g:GI}{k:XSt->Option β}(h:doX Φ H g X k=some out){K:St->Prop}
  (hk:∀X' S',XOk X'->Ext X X'->SimX X' S'->k X'=some out->K S'):evJ P S (fun x ks roots nx=>K ⟨Bs g.dst x (C0 ks S.env),roots,nx,S.fix⟩) g.op:=by
 unfold doX at h;split at h
 ·rename_i i hop;rw[hop];obtain⟨xv,h,ho,v,hw,hev⟩:=Zpd hX hS h;show ev S (fun v=>K ⟨Bs g.dst v (C0 [] S.env),S.roots,S.next,S.fix⟩) i;refine hev _ ?_;obtain⟨a,b⟩:=Jr hX (d:=g.dst) ho;exact hk _ _ a b (Nk hS hw) h
 rename_i j hop;rw[hop];split at h
 ·rename_i f args;split at h
  ·rename_i e he;have hf:=L1 he;simp only[Fx.f]at hf;subst hf;obtain⟨xv,X',h,h1,h2,h3,h4,v,ks,roots,h5,h6,_,h7⟩:=Ybg hX hS h;refine h7 _ ?_;obtain⟨a,b⟩:=Jr h1 (d:=g.dst) h3;exact hk _ _ a (h2.trans b) (Nk h6 h5) h
  ·rename_i e he;have hf:=L1 he;simp only[Fx.f]at hf;subst hf;obtain⟨xv,X',h,h1,h2,h3,h4,v,ks,roots,h5,h6,_,h7⟩:=Zst hX hS h;refine h7 _ ?_;obtain⟨a,b⟩:=Jr h1 (d:=g.dst) h3;exact hk _ _ a (h2.trans b) (Nk h6 h5) h
  ·rename_i e he;have hf:=L1 he;simp only[Fx.f]at hf;subst hf;obtain⟨xv,X',h,h1,h2,h3,h4,v,ks,roots,h5,h6,_,h7⟩:=Ztl hX hS h;refine h7 _ ?_;obtain⟨a,b⟩:=Jr h1 (d:=g.dst) h3;exact hk _ _ a (h2.trans b) (Nk h6 h5) h
  ·rename_i e he;have hf:=L1 he;simp only[Fx.f]at hf;subst hf;obtain⟨xv,X',h,h1,h2,h3,h4,v,ks,roots,h5,h6,_,h7⟩:=Zsu hX hS h;refine h7 _ ?_;obtain⟨a,b⟩:=Jr h1 (d:=g.dst) h3;exact hk _ _ a (h2.trans b) (Nk h6 h5) h
  simp at h
 ·rename_i f args;obtain⟨xv,X',h,h1,h2,h3,h4,v,ks,roots,h5,h6,_,h7⟩:=Zsy hX hS h;refine h7 _ ?_;obtain⟨a,b⟩:=Jr h1 (d:=g.dst) h3;exact hk _ _ a (h2.trans b) (Nk h6 h5) h
 rename_i hno hnv;obtain⟨xv,X',h,h1,h2,h3,h4,v,ks,roots,h5,h6,_,h7⟩:=Ydw hX hS h;have h8:wr S (fun x ks roots nx=>K ⟨Bs g.dst x (C0 ks S.env),roots,nx,S.fix⟩) j:=by
  refine h7 _ ?_;obtain⟨a,b⟩:=Jr h1 (d:=g.dst) h3;exact hk _ _ a (h2.trans b) (Nk h6 h5) h
 cases j with
 | call f args=>exact (hno f args rfl).elim
 | calv f args=>exact (hnv f args rfl).elim
 | _=>exact h8
theorem Yb1 {X:XSt}{S:St}(hX:XOk X) (hS:SimX X S){g:GI}{k:XSt->Option β}(h:Zig Φ H g X k=some out){K:St->Prop}
  (hk:∀X' S',XOk X'->Ext X X'->SimX X' S'->k X'=some out->K S'):Jv P g S K:=by
 have skip:∀{X':XSt},XOk X'->Ext X X'->SimX X' S->k (X'.put g.dst (.tp []))=some out->K ⟨Bs g.dst (.tp []) S.env,S.roots,S.next,S.fix⟩:=by
  intro X' h1 h2 h3 h4;obtain⟨a,b⟩:=Jr h1 (d:=g.dst) (v:=.tp []) (fun x hx=>by simp at hx);exact hk _ _ a (h2.trans b) (Nk (v:=.tp []) (xv:=.tp []) h3 trivial) h4
 unfold Zig at h;unfold Jv;split at h
 ·rename_i hg;simp only[hg];exact Zle hX hS h hk
 rename_i t want hg;simp only[hg];split at h
 ·rename_i s b hl;have hv:get S.env t=some (.a (.c (.lf (.bool b)))):=by
   rcases hS.env t s _ hl with h|⟨y,y1,y2⟩
   ·simp at h
   rw[y1,y2.c (by simp [cC])];rfl
  rw[hv];simp only;obtain⟨a,c,d⟩:=Zns hX hS hl;have hk':∀X' S',XOk X'->Ext (X.know t b) X'->SimX X' S'->k X'=some out->K S':=fun X' S' h1 h2 h3 h4=>hk X' S' h1 (c.trans h2) h3 h4;rcases Ze5 h with ⟨rfl,h⟩|⟨rfl,h⟩
  ·cases want with
   | true=>exact⟨fun _=>Zle a d h hk',fun e=>(e rfl).elim⟩
   | false=>exact⟨fun e=>by simp at e,fun _=>skip a c d h⟩
  cases want with
  | true=>exact⟨fun e=>by simp at e,fun _=>skip a c d h⟩
  | false=>exact⟨fun _=>Zle a d h hk',fun e=>(e rfl).elim⟩
 ·rename_i s l hl;have hv:∃y,get S.env t=some (.tp y):=by
   rcases hS.env t s _ hl with h|⟨y,y1,y2⟩
   ·simp at h
   cases y with
   | tp ys=>exact⟨ys,y1⟩
   | _=>exact y2.elim
  obtain⟨ys,hv⟩:=hv;rw[hv];exact skip hX (Ext.refl X) hS h
 simp at h
theorem Zps:∀{gis:List GI}{X:XSt}{S:St},XOk X->SimX X S->∀{k:XSt->Option β},W5 Φ H gis X k=some out->∀{K:St->Prop},
  (∀X' S',XOk X'->Ext X X'->SimX X' S'->k X'=some out->∃T,Le S' T/\K T)->N3 P gis S K
 | [],X,S,hX,hS,k,h,K,hk=>hk X S hX (Ext.refl X) hS h
 | g::l,X,S,hX,hS,k,h,K,hk=>by
  simp only[W5]at h;refine⟨S,Le.refl S,Yb1 hX hS h ?_⟩;intro X' S' h1 h2 h3 h4;exact Zps h1 h3 h4 fun X2 S2 a b c d=>hk X2 S2 a (h2.trans b) c d
theorem Zw8 {σ ρ:Type}{o:Option (σ ⊕ ρ)}{f:σ->Option ρ}{r:ρ}(h:Ao o f=some r):∃z,o=some z/\((∃s,z=.inl s/\f s=some r)\/z=.inr r):=by
 unfold Ao at h;split at h
 ·rename_i s;exact⟨_,rfl,.inl ⟨s,rfl,h⟩⟩
 ·simp only[Ka]at h;subst h;exact⟨_,rfl,.inr rfl⟩
 simp at h
theorem Yaf:∀{l:List (Nat×List It)}{gis:List GI}{X:XSt}{S:St},XOk X->SimX X S->∀{k:XSt->Option β},Zbi Φ H l gis X k=some out->∀{K:St->Prop},
  (∀X' S',XOk X'->Ext X X'->SimX X' S'->k X'=some out->∃T,Le S' T/\K T)->N3 P gis S K
 | [],gis,X,S,hX,hS,k,h,K,hk=>Zps hX hS h hk
 | (n,its)::l,gis,X,S,hX,hS,k,h,K,hk=>by
  simp only[Zbi]at h;obtain⟨z,h1,h2⟩:=Zw8 h;rw[<-Knc n gis];refine Yag _ _ _ (Zps hX hS h1 ?_);intro X' S' a b c d;obtain⟨s,hs,hle⟩:=Zhb hX a b c d;simp only[Ka]at hs;subst hs;rcases h2 with ⟨s',e,h2⟩|e
  ·simp only[Sum.inl.injEq]at e;subst e;obtain⟨u1,u2⟩:=Ziy hX its s;exact⟨_,hle,Yaf u1 (Zqb _) h2 fun X2 S2 a' b' c' d'=>hk X2 S2 a' (u2.trans b') c' d'⟩
  simp at e
theorem Yvu {s:Stm}{S:St}{Q:Exit->St->Prop}(h:Sw P N s S fun e S'=>∃T,Le S' T/\Q e T):Sw P N s S Q:=fun c hc=>Zri (h c hc)
theorem Ztf {X:XSt}{S:St}(hX:XOk X) (hS:SimX X S){c:Opd}{t:Bool}(hc:X.opd c=.a (.c (.b t))):XOk (X.knowO c t)/\Ext X (X.knowO c t)/\SimX (X.knowO c t) S:=by
 cases c with
 | k v=>exact⟨hX,Ext.refl X,hS⟩
 | t n =>
  obtain⟨s,hl⟩:=Zin (X:=X) (t:=n) hc (by simp);exact Zns hX hS hl
theorem Yjl {X:XSt}{S:St}(hS:SimX X S){i:I}{k:XV->Option β}(h:rdX X i k=some out){K:V->Prop}(hk:ev S K i){R':List (Nat×Root)}{n':Nat}(hl:∀r∈M5 X i,get R' r=get S.roots r):ev ⟨S.env,R',n',S.fix⟩ K i:=by
 have free:S5 i=true->ev ⟨S.env,R',n',S.fix⟩ K i:=fun hf=>Zl9 (E:=S.env) (R:=S.roots) (n:=S.next) (f:=S.fix) hf hk;have hop:∀x:Opd,(⟨S.env,R',n',S.fix⟩:St).opd x=S.opd x:=fun x=>by cases x<;>rfl
 cases i with
 | load m x =>
  simp only[rdX]at h;split at h
  ·rename_i r v p i c t e hx;split at h
   ·rename_i hv;have hxS:S.opd x=.a (.c (.pe r p i c)):=by rw[Bg hS hx (by simp [cC,hv])];simp only[cC,hv]
    have hr:=hl r (by simp [M5,hx]);have hn:(⟨S.env,R',n',S.fix⟩:St).node r p=S.node r p:=by simp only[St.node,hr]
    cases m<;>(simp only[ev,hop,hxS,hn]at hk ⊢;exact hk)
   simp at h
  ·rename_i r c hx;split at h
   ·rename_i s cs hr0;have hxS:S.opd x=.a (.c (.pb r c)):=by rw[Bg hS hx (by simp [cC,hr0])];simp only[cC,hr0]
    have hr:=hl r (by simp [M5,hx]);have hn:(⟨S.env,R',n',S.fix⟩:St).bcells r=S.bcells r:=by simp only[St.bcells,hr]
    cases m<;>(simp only[ev,hop,hxS,hn]at hk ⊢;exact hk)
   simp at h
  ·rename_i b o hx;have hxS:S.opd x=.a (.c (.lf (.pointer (some ⟨b,o,none⟩)))):=by rw[Bg hS hx (by simp [cC])];rfl
   cases m<;>(simp only[ev,hop,hxS]at hk ⊢;exact hk)
  simp at h
 | b2s x =>
  simp only[rdX]at h;split at h
  ·rename_i s hx;have hxS:=Bg hS hx (by simp [cC]);simp only[ev,hop,hxS,cC]at hk ⊢;exact hk
  ·rename_i c hc hx;have known:cC X.roots c≠.un/\∀r p s lo n,cC X.roots c=.rf r p s lo n->r∈M5 X (.b2s x):=by
    unfold Pv at h;split at h
    ·rename_i r;split at h
     ·rename_i hr;exact⟨by simp [cC,hr],fun r' p s lo n e=>by simp only[cC,hr,C.rf.injEq]at e;rw[<-e.1];simp [M5,hx]⟩
     ·rename_i hr;exact⟨by simp [cC,hr],fun r' p s lo n e=>by simp only[cC,hr,C.rf.injEq]at e;rw[<-e.1];simp [M5,hx]⟩
     simp at h
    ·rename_i r lo n;split at h
     ·rename_i hr;exact⟨by simp [cC,hr],fun r' p s lo n e=>by simp only[cC,hr,C.rf.injEq]at e;rw[<-e.1];simp [M5,hx]⟩
     ·rename_i hr;exact⟨by simp [cC,hr],fun r' p s lo n e=>by simp only[cC,hr,C.rf.injEq]at e;rw[<-e.1];simp [M5,hx]⟩
     simp at h
    ·rename_i r v p lo t ws;split at h
     ·rename_i hv;exact⟨by simp [cC,hv],fun r' p s lo n e=>by simp only[cC,hv,C.rf.injEq]at e;rw[<-e.1];simp [M5,hx]⟩
     simp at h
    simp at h
   have hxS:=Bg hS hx known.1;cases hcc:cC X.roots c with
   | rf r p s lo n =>
    have hr:=hl r (known.2 _ _ _ _ _ hcc);have hn:(⟨S.env,R',n',S.fix⟩:St).node r p=S.node r p:=by simp only[St.node,hr]
    rw[hcc]at hxS;simp only[ev,hop,hxS]at hk ⊢;split at hk
    ·rename_i he;simp only[V.a.injEq,A.c.injEq,C.rf.injEq]at he;obtain⟨rfl,rfl,rfl,rfl,rfl⟩:=he;simp only[hn];exact hk
    ·rename_i he;simp at he
    exact hk.elim
   | _ =>
    rw[hcc]at hxS
    first
     | (simp only[ev,hop,hxS]at hk;done)
     | (simp only[ev,hop,hxS]at hk ⊢;exact hk)
  simp at h
 | _=>exact free rfl
theorem Ztw {X:XSt}{S:St}(hX:XOk X) (hS:SimX X S){g:GI}{k:XV->XSt->Option β}(h:doD Φ H g X k=some out) :
  ∃xv X',k xv X'=some out/\XOk X'/\Ext X X'/\okV X'.roots X'.next X'.stamp xv/\X'.env=X.env/\∃v roots,WkV v (cV X'.roots xv)/\SimX X' ⟨S.env,roots,X'.next,S.fix⟩/\(∀r s x,lk X'.roots r=some (s,x)->s<X.stamp->get roots r=get S.roots r)/\(∀K:KW,K v [] roots X'.next->evJ P S K g.op) /\
   (Gd g=true->X'=X/\roots=S.roots/\∀R' n',(∀r∈Zaq X g.op,get R' r=get S.roots r)->evJ P ⟨S.env,R',n',S.fix⟩ (fun x' _ _ _=>x'=v) g.op):=by
 unfold doD at h;split at h
 ·rename_i i hop;have h0:=h;obtain⟨xv,h,ho,v,hw,hev⟩:=Zpd hX hS h;have hS':SimX X ⟨S.env,S.roots,X.next,S.fix⟩:=⟨rfl,hS.fix,hS.env,hS.roots⟩;refine⟨xv,X,h,hX,Ext.refl X,ho,rfl,v,S.roots,hw,hS',fun _ _ _ _ _=>rfl, ?_, ?_⟩
  ·intro K hK;rw[hop];show ev S (fun v=>K v [] S.roots S.next) i;refine hev _ ?_;rw[hS.next];exact hK
  intro _;refine⟨rfl,rfl,fun R' n' hl=>?_⟩;rw[hop]at hl ⊢;exact Yjl hS h0 (hev (fun x'=>x'=v) rfl) hl
 rename_i j hop;have hrd:Gd g=true->False:=by
  intro e;obtain⟨d,o,gd⟩:=g;simp only at hop;subst hop;simp [Gd]at e
 split at h
 ·rename_i f args;split at h
  ·rename_i e he;have hf:=L1 he;simp only[Fx.f]at hf;subst hf;obtain⟨xv,X',h,h1,h2,h3,h4,v,ks,roots,h5,h6,⟨rfl,h8⟩,h7⟩:=Ybg hX hS h;exact⟨xv,X',h,h1,h2,h3,h4,v,roots,h5,h6,h8,fun K hK=>by rw[hop];exact h7 K hK,fun e=>(hrd e).elim⟩
  ·rename_i e he;have hf:=L1 he;simp only[Fx.f]at hf;subst hf;obtain⟨xv,X',h,h1,h2,h3,h4,v,ks,roots,h5,h6,⟨rfl,h8⟩,h7⟩:=Zst hX hS h;exact⟨xv,X',h,h1,h2,h3,h4,v,roots,h5,h6,h8,fun K hK=>by rw[hop];exact h7 K hK,fun e=>(hrd e).elim⟩
  ·rename_i e he;have hf:=L1 he;simp only[Fx.f]at hf;subst hf;obtain⟨xv,X',h,h1,h2,h3,h4,v,ks,roots,h5,h6,⟨rfl,h8⟩,h7⟩:=Ztl hX hS h;exact⟨xv,X',h,h1,h2,h3,h4,v,roots,h5,h6,h8,fun K hK=>by rw[hop];exact h7 K hK,fun e=>(hrd e).elim⟩
  ·rename_i e he;have hf:=L1 he;simp only[Fx.f]at hf;subst hf;obtain⟨xv,X',h,h1,h2,h3,h4,v,ks,roots,h5,h6,⟨rfl,h8⟩,h7⟩:=Zsu hX hS h;exact⟨xv,X',h,h1,h2,h3,h4,v,roots,h5,h6,h8,fun K hK=>by rw[hop];exact h7 K hK,fun e=>(hrd e).elim⟩
  simp at h
 ·rename_i f args;obtain⟨xv,X',h,h1,h2,h3,h4,v,ks,roots,h5,h6,⟨rfl,h8⟩,h7⟩:=Zsy hX hS h;exact⟨xv,X',h,h1,h2,h3,h4,v,roots,h5,h6,h8,fun K hK=>by rw[hop];exact h7 K hK,fun e=>(hrd e).elim⟩
 rename_i hno hnv;split at h
 ·rename_i hpl;obtain⟨xv,X',h,h1,h2,h3,h4,v,ks,roots,h5,h6,h9,h7⟩:=Ydw hX hS h;obtain⟨rfl,h8⟩:=h9 hpl;refine⟨xv,X',h,h1,h2,h3,h4,v,roots,h5,h6,h8,fun K hK=>?_,fun e=>(hrd e).elim⟩;rw[hop];have h10:=h7 K hK;cases j with
  | call f args=>exact (hno f args rfl).elim
  | calv f args=>exact (hnv f args rfl).elim
  | _=>exact h10
 simp at h
theorem Yvi {X:XSt}{S:St}(hX:XOk X) (hS:SimX X S){g:GI}{k:List Nat->XV->XSt->Option β}(h:Zqk Φ H g X k=some out) :
  ∃loc xv X',k loc xv X'=some out/\XOk X'/\Ext X X'/\okV X'.roots X'.next X'.stamp xv/\∃v roots,WkV v (cV X'.roots xv)/\SimX X' ⟨S.env,roots,X'.next,S.fix⟩/\(∀r s x,lk X'.roots r=some (s,x)->s<X.stamp->get roots r=get S.roots r)/\(∀K:KW,K v [] roots X'.next->B4 P g S K) /\
   (Gd g=true->X'.roots=X.roots/\roots=S.roots/\X'.next=X.next/\∀R' n',(∀r∈loc,get R' r=get S.roots r)->B4 P g ⟨S.env,R',n',S.fix⟩ (fun x' _ _ _=>x'=v)):=by
 unfold Zqk at h;split at h
 ·rename_i hg;obtain⟨xv,X',h,h1,h2,h3,h4,v,roots,h5,h6,h7,h8,h9⟩:=Ztw hX hS h;refine⟨_,xv,X',h,h1,h2,h3,v,roots,h5,h6,h7,fun K hK=>?_,fun e=>?_⟩
  ·simp only[B4,hg];exact h8 K hK
  obtain⟨rfl,rfl,h10⟩:=h9 e;exact⟨rfl,rfl,rfl,fun R' n' hl=>by simp only[B4,hg];exact h10 R' n' hl⟩
 rename_i t want hg;split at h
 ·rename_i s b hl;have hv:get S.env t=some (.a (.c (.lf (.bool b)))):=by
   rcases hS.env t s _ hl with h|⟨y,y1,y2⟩
   ·simp at h
   rw[y1,y2.c (by simp [cC])];rfl
  obtain⟨a,c,d⟩:=Zns hX hS hl;have d':SimX (X.know t b) ⟨S.env,S.roots,(X.know t b).next,S.fix⟩:=⟨rfl,d.fix,d.env,d.roots⟩;have run:∀{loc:List Nat},loc=Zaq (X.know t b) g.op->b=want->doD Φ H g (X.know t b) (fun v X'=>k loc v X')=some out->∃loc xv X',k loc xv X'=some out/\XOk X'/\Ext X X'/\okV X'.roots X'.next X'.stamp xv/\∃v roots,WkV v (cV X'.roots xv)/\SimX X' ⟨S.env,roots,X'.next,S.fix⟩/\(∀r s x,lk X'.roots r=some (s,x)->s<X.stamp->get roots r=get S.roots r)/\(∀K:KW,K v [] roots X'.next->B4 P g S K) /\
    (Gd g=true->X'.roots=X.roots/\roots=S.roots/\X'.next=X.next/\∀R' n',(∀r∈loc,get R' r=get S.roots r)->B4 P g ⟨S.env,R',n',S.fix⟩ (fun x' _ _ _=>x'=v)):=by
   intro loc hloc hb h;obtain⟨xv,X',h,h1,h2,h3,h4,v,roots,h5,h6,h7,h8,h9⟩:=Ztw a d h;refine⟨_,xv,X',h,h1,c.trans h2,h3,v,roots,h5,h6,fun r s x hl hs=>h7 r s x hl (Kz hs c.stamp),fun K hK=>?_,fun e=>?_⟩
   ·simp only[B4,hg,hv];exact⟨fun _=>h8 K hK,fun hne=>(hne hb).elim⟩
   obtain⟨rfl,rfl,h10⟩:=h9 e;refine⟨rfl,rfl,rfl,fun R' n' hl=>?_⟩;simp only[B4,hg,hv];exact⟨fun _=>h10 R' n' (by rw[<-hloc];exact hl),fun hne=>(hne hb).elim⟩
  have skip:b≠want->k [] (.tp []) (X.know t b)=some out->∃loc xv X',k loc xv X'=some out/\XOk X'/\Ext X X'/\okV X'.roots X'.next X'.stamp xv/\∃v roots,WkV v (cV X'.roots xv)/\SimX X' ⟨S.env,roots,X'.next,S.fix⟩/\(∀r s x,lk X'.roots r=some (s,x)->s<X.stamp->get roots r=get S.roots r)/\(∀K:KW,K v [] roots X'.next->B4 P g S K) /\
    (Gd g=true->X'.roots=X.roots/\roots=S.roots/\X'.next=X.next/\∀R' n',(∀r∈loc,get R' r=get S.roots r)->B4 P g ⟨S.env,R',n',S.fix⟩ (fun x' _ _ _=>x'=v)):=by
   intro hb h;have hnx:(X.know t b).next=S.next:=d.next.symm;refine⟨[],.tp [],_,h,a,c,(fun x hx=>by simp at hx),.tp [],S.roots,trivial,d',fun r s x hl hs=>rfl,fun K hK=>?_,fun e=>⟨rfl,rfl,rfl,fun R' n' hl=>?_⟩⟩
   ·simp only[B4,hg,hv];exact⟨fun e=>(hb e).elim,fun _=>by rw[<-hnx];exact hK⟩
   simp only[B4,hg,hv];exact⟨fun e=>(hb e).elim,fun _=>trivial⟩
  rcases Ze5 h with ⟨rfl,h⟩|⟨rfl,h⟩
  ·cases want with
   | true=>exact run rfl rfl h
   | false=>exact skip (by simp) h
  cases want with
  | true=>exact skip (by simp) h
  | false=>exact run rfl rfl h
 ·rename_i s l hl;have hv:∃y,get S.env t=some (.tp y):=by
   rcases hS.env t s _ hl with h|⟨y,y1,y2⟩
   ·simp at h
   cases y with
   | tp ys=>exact⟨ys,y1⟩
   | _=>exact y2.elim
  obtain⟨ys,hv⟩:=hv;have d':SimX X ⟨S.env,S.roots,X.next,S.fix⟩:=⟨rfl,hS.fix,hS.env,hS.roots⟩;refine⟨[],.tp [],X,h,hX,Ext.refl X,(fun x hx=>by simp at hx),.tp [],S.roots,trivial,d',fun r s x hl hs=>rfl,fun K hK=>?_,fun e=>⟨rfl,rfl,rfl,fun R' n' hl=>?_⟩⟩
  ·simp only[B4,hg,hv];rw[hS.next];exact hK
  simp only[B4,hg,hv]
 simp at h
def Yd9 (R:XRs) (RV:List (Nat×Root)) (mR:XRs) (m:Mem):Prop:=∀r s x x',lk mR r=some (s,x)->lk R r=some (s,x')->get m.1 r=get RV r
theorem Ya9 {R R':XRs}:∀{loc:List Nat},Pe R' (Mi R loc)=true->Wg R loc=true->∀r∈loc,∃s x x',lk R' r=some (s,x)/\lk R r=some (s,x')
 | [],_,_,r,hr=>by simp at hr
 | q::l,h,hi,r,hr=>by
  simp only[Wg]at hi;split at hi
  ·rename_i e hq;obtain⟨s,x'⟩:=e;simp only[Mi,hq,Pe,Kd]at h;rcases Kh.1 hr with rfl|hr
   ·obtain⟨x,hx⟩:=Zcf h.1;exact⟨s,x,x',hx,hq⟩
   exact Ya9 h.2 hi r hr
  simp at hi
theorem Ya7 {l:List (Nat×Nat)}:∀{h:List XRs},Zh4 l h=true->∀R∈h,Pe R l=true
 | [],_,R,hR=>by simp at hR
 | R::h,hs,R',hR=>by
  simp only[Zh4,Kd]at hs;rcases Kh.1 hR with rfl|hR
  ·exact hs.1
  exact Ya7 hs.2 R' hR
theorem Yba {R:XRs}{n:Nat}:∀{ps:Sb},Zh5 R n ps=true->∀p∈ps,n<=p.2->Pe R p.1=true
 | [],_,p,hp,_=>by simp at hp
 | (l,hi)::ps,h,p,hp,hn=>by
  simp only[Zh5,Kd]at h;rcases Kh.1 hp with rfl|hp
  ·have:=h.1;rw[show Nat.ble n hi=true from Nat.ble_eq_true_of_le hn]at this;exact this
  exact Yba h.2 p hp hn
def Zjg (P:Program) (fix:Nat) (R:XRs) (RV:List (Nat×Root)) (p:Pend) (q:List (Nat×Nat)×Nat):Prop :=
 p.hi=q.2/\∃vals:List (Nat×Option Root),(∀R' n',(∀e∈vals,get R' e.1=e.2)->B4 P p.gi ⟨p.E,R',n',fix⟩ fun x' _ _ _=>x'=p.x) /\
  ∀e∈vals,∃s,(e.1,s)∈q.1/\∀x,lk R e.1=some (s,x)->get RV e.1=e.2
theorem Ya8 {R:XRs}:∀{l:List (Nat×Nat)},Pe R l=true->∀p∈l,∃x,lk R p.1=some (p.2,x)
 | [],_,p,hp=>by simp at hp
 | (r,s)::l,h,p,hp=>by
  simp only[Pe,Kd]at h;rcases Kh.1 hp with rfl|hp
  ·exact Zcf h.1
  exact Ya8 h.2 p hp
theorem Zqi {R:XRs}:∀{loc:List Nat}{r s:Nat}{x:XR},r∈loc->lk R r=some (s,x)->(r,s)∈Mi R loc
 | [],r,s,x,h,_=>by simp at h
 | q::l,r,s,x,h,hl=>by
  simp only[Mi];rcases Kh.1 h with rfl|h
  ·rw[hl];exact Kp
  split
  ·exact Kj _ (Zqi h hl)
  exact Zqi h hl
theorem Zyl {m:Nat}:∀{l:Sb},Zgy m l=true->∀q∈l,q.2<=m
 | [],_,q,h=>by cases h
 | (_,hi)::l,h,q,hq=>by
  simp only[Zgy,Kd]at h;rcases Kh.1 hq with rfl|hq
  ·exact Kea h.1
  exact Zyl h.2 q hq
theorem Yvl {S:St}{g:GI}{K:St->Prop}(h:Jv P g S K):B4 P g S fun x ks r n=>K ⟨Bs g.dst x (C0 ks S.env),r,n,S.fix⟩:=by
 obtain⟨d,op,gd⟩:=g;cases gd with
 | none=>exact h
 | some tw =>
  obtain⟨t,want⟩:=tw;unfold Jv at h;unfold B4
  try simp only at h ⊢
  generalize get S.env t=o at h ⊢;split at h
  ·exact⟨h.1,fun e=>h.2 e⟩
  ·exact h
  exact h.elim
theorem Zfd {nI:Nat}:∀(l:List DI){X:XSt}{S:St}{hist:List XRs}{histV:List Mem}{pend:Sb}{pendV:List Pend}{k:XSt->Option β},XOk X->SimX X S->Sr Φ H nI l X hist pend k=some out->(∀it∈l,it.w=!Gd it.gi) ->
  Ab (fun mR m=>Yd9 X.roots S.roots mR m/\∀r s x,lk mR r=some (s,x)->s<X.stamp) hist histV->(∀p∈pendV,∃q∈pend,Zjg P S.fix X.roots S.roots p q)->(∀q∈pend,∀e∈q.1,e.2<X.stamp)->∀{K:St->Prop},
  (∀X' S',XOk X'->Ext X X'->SimX X' S'->k X'=some out->K S')->E3 P nI S.fix l S.env ((S.roots,S.next)::histV) pendV K
 | [],X,S,hist,histV,pend,pendV,k,hX,hS,h,_,_,_,_,K,hk=>hk X S hX (Ext.refl X) hS h
 | it::l,X,S,hist,histV,pend,pendV,k,hX,hS,h,hw,hH,hP,hPs,K,hk=>by
  simp only[Sr]at h;have hlen:=hH.length;split at h
  case h_1 =>
   rename_i hlo;unfold Zxn at hlo;split at hlo
   case h_2=>cases hlo
   simp only[Kd]at hlo;obtain⟨hwt,hanc,hnp⟩:=hlo;have hst:=Yb1 (P:=P) hX hS h (K:=K) hk;simp only[E3];refine Zqn (Yvl hst) ?_;intro x ks r n hK;rw[if_pos hwt];refine⟨fun p hp hle=>?_,.inr ⟨trivial,hanc,hK⟩⟩;obtain⟨q,hq,hpq,_⟩:=hP p hp;have:=Zyl hnp q hq;exfalso;rw[hlen]at this;omega
  obtain⟨loc,xv,X',h,h1,h2,h3,v,roots,h5,h6,h7,h8,h9⟩:=Yvi hX hS h;have hwit:=hw it Kp;obtain⟨a,b⟩:=Jr h1 (d:=it.gi.dst) h3;have hsim:=Nk (d:=it.gi.dst) h6 h5;have hroots:(X'.put it.gi.dst xv).roots=X'.roots:=by cases it.gi.dst<;>rfl
  have hstamp:X'.stamp<=(X'.put it.gi.dst xv).stamp:=b.stamp;simp only[E3];split at h
  ·-- it writes
   rename_i hwt;split at h
   ·rename_i hsp;refine h8 _ ?_;simp only[hwt,if_true];refine⟨?_,.inl ⟨trivial, ?_⟩⟩
    ·intro p hp hhi;obtain⟨q,hq,hpq,vals,hv1,hv2⟩:=hP p hp;have hsl:=Yba hsp q hq (by rw[hlen,<-hpq];exact hhi);refine hv1 roots X'.next fun e he=>?_;obtain⟨s,hs1,hs2⟩:=hv2 e he;obtain⟨x,hx⟩:=Ya8 hsl _ hs1;have hlt:=hPs q hq _ hs1;simp only at hx hlt;rw[h7 _ _ _ hx hlt];exact hs2 x (h2.roots _ _ _ hx hlt)
    refine Zfd l (hist:=X.roots::hist) (histV:=(S.roots,S.next)::histV) (pend:=pend) a hsim h (fun it hit=>hw it (Kj _ hit)) ⟨⟨?_, ?_⟩, ?_⟩ ?_ ?_ fun X2 S2 q1 q2 q3 q4=>hk X2 S2 q1 ((h2.trans b).trans q2) q3 q4
    ·intro r s x x' hl hl';rw[hroots]at hl';exact (h7 r s x' hl' (hX.ids r s x hl).2).symm
    ·intro r s x hl;exact Kz (hX.ids r s x hl).2 (Kla h2.stamp hstamp)
    ·refine hH.mono ?_;intro mR m ⟨g1,g2⟩;refine⟨?_,fun r s x hl=>Kz (g2 r s x hl) (Kla h2.stamp hstamp)⟩;intro r s x x' hl hl';rw[hroots]at hl';have hlt:=g2 r s x hl;show get m.1 r=get roots r;rw[h7 r s x' hl' hlt];exact g1 r s x x' hl (h2.roots r s x' hl' hlt)
    ·intro p hp;obtain⟨q,hq,hpq,vals,hv1,hv2⟩:=hP p hp;refine⟨q,hq,hpq,vals,hv1,fun e he=>?_⟩;obtain⟨s,hs1,hs2⟩:=hv2 e he;refine⟨s,hs1,fun x hx=>?_⟩;rw[hroots]at hx;have hlt:=hPs q hq _ hs1;simp only at hlt;show get roots e.1=e.2;rw[h7 _ _ _ hx hlt];exact hs2 x (h2.roots _ _ _ hx hlt)
    intro q hq e he;exact Kz (hPs q hq e he) (Kla h2.stamp hstamp)
   simp at h
  -- it reads
  rename_i hwt;have hrd:Gd it.gi=true:=by rw[hwt]at hwit;simpa using hwit.symm
  obtain⟨e1,rfl,e3,h10⟩:=h9 hrd;split at h
  ·rename_i hc;simp only[Kd]at hc;obtain⟨hc1,hc2⟩:=hc;have hnx:X'.next=S.next:=e3.trans hS.next.symm;rw[hnx]at h8;have next:∀pendV',(∀p∈pendV',p∈pendV\/(p=⟨it.gi,S.env,v,it.hi⟩/\hist.length<it.hi))->E3 P nI S.fix l (Bs it.gi.dst v S.env) ((S.roots,S.next)::histV) pendV' K:=by
    intro pendV' hpv;have hS2:SimX (X'.put it.gi.dst xv) ⟨Bs it.gi.dst v S.env,S.roots,S.next,S.fix⟩:=by rw[<-hnx];exact hsim
    have base:∀pend',Sr Φ H nI l (X'.put it.gi.dst xv) hist pend' k=some out->(∀p∈pendV',∃q∈pend',Zjg P S.fix (X'.put it.gi.dst xv).roots S.roots p q)->(∀q∈pend',∀e∈q.1,e.2<(X'.put it.gi.dst xv).stamp)->E3 P nI S.fix l (Bs it.gi.dst v S.env) ((S.roots,S.next)::histV) pendV' K:=by
     intro pend' hd g1 g2;refine Zfd l (S:=⟨Bs it.gi.dst v S.env,S.roots,S.next,S.fix⟩) a hS2 hd (fun it hit=>hw it (Kj _ hit)) (hH.mono ?_) g1 g2 fun X2 S2 q1 q2 q3 q4=>hk X2 S2 q1 ((h2.trans b).trans q2) q3 q4;intro mR m ⟨g1,g2⟩;refine⟨?_,fun r s x hl=>Kz (g2 r s x hl) (Kla h2.stamp hstamp)⟩;rw[hroots,e1];exact g1
    have old:∀p∈pendV,∃q∈pend,Zjg P S.fix (X'.put it.gi.dst xv).roots S.roots p q:=by
     rw[hroots,e1];exact hP
    have olds:∀q∈pend,∀e∈q.1,e.2<(X'.put it.gi.dst xv).stamp:=fun q hq e he=>Kz (hPs q hq e he) (Kla h2.stamp hstamp);split at h
    ·refine base _ h ?_ ?_
     ·intro p hp;rcases hpv p hp with hp|⟨rfl,_⟩
      ·obtain⟨q,hq,hr⟩:=old p hp;exact⟨q,Kj _ hq,hr⟩
      refine⟨_,Kp,rfl,loc.map fun r=>(r,get S.roots r), ?_, ?_⟩
      ·intro R' n' hl;exact h10 R' n' fun r hr=>hl (r,get S.roots r) (Ky.2 ⟨r,hr,rfl⟩)
      intro e he;obtain⟨r,hr,rfl⟩:=Ky.1 he;have:∃s x,lk X'.roots r=some (s,x):=by
       have key:∀(l:List Nat),Wg X'.roots l=true->r∈l->∃s x,lk X'.roots r=some (s,x):=by
        intro l
        induction l with
        | nil=>intro _ h;simp at h
        | cons q l ih =>
         intro h hm;simp only[Wg]at h;split at h
         ·rename_i e hq;rcases Kh.1 hm with rfl|hm
          ·exact⟨e.1,e.2,hq⟩
          exact ih h hm
         simp at h
       exact key loc hc1 hr
      obtain⟨s,x,hl⟩:=this;exact⟨s,Zqi hr hl,fun _ _=>rfl⟩
     intro q hq e he;rcases Kh.1 hq with rfl|hq
     ·have key:∀(l:List Nat) (e:Nat×Nat),e∈Mi X'.roots l->e.2<X'.stamp:=by
       intro l
       induction l with
       | nil=>intro e h;simp [Mi]at h
       | cons q l ih =>
        intro e h;simp only[Mi]at h;split at h
        ·rename_i s x hq;rcases Kh.1 h with rfl|h
         ·exact (h1.ids _ _ _ hq).2
         exact ih e h
        exact ih e h
      exact Kz (key loc e he) hstamp
     exact olds q hq e he
    rename_i hlt;refine base _ h ?_ olds;intro p hp;rcases hpv p hp with hp|⟨_,hlt'⟩
    ·exact old p hp
    exfalso;have:Nat.blt hist.length it.hi=true:=by simpa [Nat.blt_eq] using hlt'
    rw[this]at hlt;simp at hlt
   have inHist:∀mm∈histV.take (histV.length-it.lo),∀r∈loc,get mm.1 r=get S.roots r:=by
    intro mm hmm r hr;rw[<-hlen]at hmm;obtain⟨i,hi,hget⟩:=Krc hmm;have hi2:i<histV.length:=by simp at hi;omega
    have hi3:i<hist.length:=by rw[hlen];exact hi2
    obtain⟨m',hm1,hm2⟩:=hH.get i hist[i] (Ku hi3);have hmm':m'=mm:=by
     rw[Kxf]at hget;rw[Ku hi2]at hm1;simp only[Ka]at hm1;rw[<-hm1,hget]
    subst hmm';have hin:hist[i]∈hist.take (hist.length-it.lo):=by
     rw[List.mem_iff_getElem];simp only[Kua]at hi;exact⟨i,by simp;omega,by simp⟩
    obtain⟨s,x,x',g1,g2⟩:=Ya9 (Ya7 hc2 _ hin) hc1 r hr;rw[e1]at g2;exact hm2.1 r s x x' g1 g2
   refine h8 _ ?_;simp only[hwt,Kka,if_false];split
   ·exact next pendV fun p hp=>.inl hp
   refine⟨fun mm hmm=>h10 mm.1 mm.2 (inHist mm hmm), ?_⟩;split
   ·rename_i hlt;refine next _ fun p hp=>?_;rcases Kh.1 hp with rfl|hp
    ·exact .inr ⟨rfl,by rw[hlen];exact hlt⟩
    exact .inl hp
   exact next pendV fun p hp=>.inl hp
  simp at h
theorem Zya (ws:List Bool) (ancs:List (List Nat)):∀(gis:List GI) (i:Nat),(∀(j:Nat) (g:GI),gis[j]? = some g->ws.getD (i+j) false=!Gd g)->∀it∈Q6 ws ancs i gis,it.w=!Gd it.gi
 | [],i,_,it,h=>by simp [Q6]at h
 | g::l,i,hw,it,h=>by
  simp only[Q6,Kh]at h;rcases h with rfl|h
  ·exact hw 0 g rfl
  refine Zya ws ancs l (i+1) (fun j g hg=>?_) it h;rw[show i+1+j=i+(j+1) by omega];exact hw (j+1) g (by simpa using hg)
theorem Zx9 {ancs:List (List Nat)}(gis:List GI):∀it∈Q6 (gis.map fun g=>!Gd g) ancs 0 gis,it.w=!Gd it.gi:=by
 refine Zya _ _ gis 0 fun j g hg=>?_;rw[Kr,Kld,Kba,hg];rfl
theorem Jt (hm:P.follows .mixedOrders=true):∀(s:Stm) (an:An){β:Type}{out:β}{X:XSt}{S:St}{k:Exit->XSt->Option β},XOk X->SimX X S->Da Φ H s an X k=some out->∀{Q:Exit->St->Prop},
  (∀e X' S',XOk X'->Ext X X'->SimX X' S'->k e X'=some out->Q e S')->Sw P N s S Q
 | .reg gis,an,β,out,X,S,k,hX,hS,h,Q,hQ=>by
  have h2:∃l,Zbi Φ H l gis X (k .normal)=some out:=by
   cases an with
   | rg l=>exact⟨l,h⟩
   | _=>exact⟨[],h⟩
  obtain⟨l,h2⟩:=h2;exact Yvy (Yaf hX hS h2 fun X' S' a b c d=>⟨S',Le.refl S',hQ _ X' S' a b c d⟩)
 | .seq x y,an,β,out,X,S,k,hX,hS,h,Q,hQ=>by
  have plain:∀(a b:An),(Da Φ H x a X fun e X'=>match e with|.normal=>Da Φ H y b X' k|e=>k e X')=some out->Sw P N (.seq x y) S Q:=by
   intro a b h;refine Pn (Jt hm x a hX hS h ?_);intro e X' S' h1 h2 h3 h4;cases e with
   | normal=>exact Jt hm y b h1 h3 h4 fun e X2 S2 a' b' c' d'=>hQ e X2 S2 a' (h2.trans b') c' d'
   | _=>exact hQ _ X' S' h1 h2 h3 h4
  cases an with
  | sq j a b =>
   cases j with
   | none=>exact plain a b h
   | some its =>
    simp only[Da]at h;obtain⟨z,h1,h2⟩:=Zw8 h;refine Pn (Yvu (Jt hm x a hX hS h1 ?_));intro e X' S' g1 g2 g3 g4;cases e with
    | normal =>
     obtain⟨s,hs,hle⟩:=Zhb hX g1 g2 g3 g4;simp only[Ka]at hs;subst hs;rcases h2 with ⟨s',e,h2⟩|e
     ·simp only[Sum.inl.injEq]at e;subst e;obtain⟨u1,u2⟩:=Ziy hX its s;exact⟨_,hle,Jt hm y b u1 (Zqb _) h2 fun e X2 S2 a' b' c' d'=>hQ e X2 S2 a' (u2.trans b') c' d'⟩
     simp at e
    | _ =>
     obtain⟨r,hr,g5⟩:=Zy1 g4;rcases h2 with ⟨s',e,h2⟩|e
     ·rw[hr]at e;simp at e
     rw[hr]at e;simp only[Sum.inr.injEq]at e;subst e;exact⟨S',Le.refl S',hQ _ X' S' g1 g2 g3 g5⟩
  | _=>exact plain .d .d h
 | .cond c x y,an,β,out,X,S,k,hX,hS,h,Q,hQ=>by
  simp only[Da]at h;split at h
  ·rename_i t hc;have hb:tv (S.opd c)=some t:=by rw[Bg hS hc (by simp [cC])];rfl
   have key:∃a b,cnd t (Da Φ H x a (X.knowO c true) k) (Da Φ H y b (X.knowO c false) k)=some out:=by
    split at h
    ·rename_i a b;exact⟨a,b,h⟩
    exact⟨.d,.d,h⟩
   obtain⟨a,b,h⟩:=key;rcases Ze5 h with ⟨rfl,h⟩|⟨rfl,h⟩
   ·obtain⟨a1,a2,a3⟩:=Ztf hX hS hc;exact Zbu hb (fun _=>Jt hm x a a1 a3 h fun e X' S' g1 g2 g3 g4=>hQ e X' S' g1 (a2.trans g2) g3 g4) (fun e=>by simp at e)
   obtain⟨a1,a2,a3⟩:=Ztf hX hS hc;exact Zbu hb (fun e=>by simp at e) (fun _=>Jt hm y b a1 a3 h fun e X' S' g1 g2 g3 g4=>hQ e X' S' g1 (a2.trans g2) g3 g4)
  simp at h
 | .block id x,an,β,out,X,S,k,hX,hS,h,Q,hQ=>by
  simp only[Da]at h;refine Zqt (Jt hm x _ hX hS h ?_);intro e X' S' g1 g2 g3 g4;cases e with
  | exit id' =>
   simp only at g4;simp only[Gc];split at g4
   ·rename_i hb;rw[if_pos (Kq hb)];exact hQ _ X' S' g1 g2 g3 g4
   rename_i hb;rw[if_neg (Kte hb)];exact hQ _ X' S' g1 g2 g3 g4
  | _=>exact hQ _ X' S' g1 g2 g3 g4
 | .loop x,an,β,out,X,S,k,hX,hS,h,Q,hQ=>by
  have key:∀(its:List It) (a:An) (X0:XSt) (S0:St),XOk X0->Ext X X0->SimX X0 S0->(Me X0 X0 its fun s=>Aw (fun s=>Da Φ H x a (β:=Tp (It.tys its) ⊕ β) (Jf X0 its s) fun e X'=>match e with
    | .normal=>Me X0 X' its fun s=>some (.inl s)
    | e=>Mc (k e X')) s)=some out->SwL P N x S0 Q:=by
   intro its a X0 S0 hX0 hE0 hS0 h;obtain⟨s0,h,hle⟩:=Zhb hX0 hX0 (Ext.refl X0) hS0 h;obtain⟨n,hn⟩:=Zn7 h;refine Yv1 (fun m T=>∃s,Hm (fun s=>Da Φ H x a (β:=Tp (It.tys its) ⊕ β) (Jf X0 its s) fun e X'=>match e with
    | .normal=>Me X0 X' its fun s=>some (.inl s)
    | e=>Mc (k e X')) m s=some out/\T=N8 (Jf X0 its s)) n ⟨_,⟨s0,hn,rfl⟩,hle⟩ ?_
   rintro m T ⟨s,hs,rfl⟩;cases m with
   | zero=>simp [Hm]at hs
   | succ m =>
    simp only[Hm]at hs;obtain⟨u1,u2⟩:=Ziy hX0 its s;have hz:∃z,(Da Φ H x a (β:=Tp (It.tys its) ⊕ β) (Jf X0 its s) fun e X'=>match e with
     | .normal=>Me X0 X' its fun s=>some (.inl s)
     | e=>Mc (k e X'))=some z:=by
     split at hs
     ·exact⟨_,by assumption⟩
     ·exact⟨_,by assumption⟩
     simp at hs
    obtain⟨z,hz⟩:=hz;rw[hz]at hs;refine Jt hm x a u1 (Zqb _) hz ?_;intro e X' S' g1 g2 g3 g4;cases e with
    | normal =>
     obtain⟨s',hs',hle'⟩:=Zhb hX0 g1 (u2.trans g2) g3 g4;simp only[Ka]at hs';subst hs';simp only at hs;exact⟨m,_,Kqa m,⟨s',hs,rfl⟩,hle'⟩
    | _ =>
     obtain⟨r,hr,g5⟩:=Zy1 g4;subst hr;simp only[Ka]at hs;subst hs;exact hQ _ X' S' g1 (hE0.trans (u2.trans g2)) g3 g5
  cases an with
  | lp its a =>
   simp only[Da]at h;exact Yb9 (key its a X S hX (Ext.refl X) hS h)
  | pl a1 its a =>
   simp only[Da]at h;refine Yb9 (Yv2 (Jt hm x a1 hX hS h ?_));intro e X' S' g1 g2 g3 g4;cases e with
   | normal=>exact key its a X' S' g1 g2 g3 g4
   | _=>exact hQ _ X' S' g1 g2 g3 g4
  | _=>simp [Da]at h
 | .exit id,an,β,out,X,S,k,hX,hS,h,Q,hQ=>Yb7 (hQ _ X S hX (Ext.refl X) hS h)
 | .ret,an,β,out,X,S,k,hX,hS,h,Q,hQ=>Zqu (hQ _ X S hX (Ext.refl X) hS h)
 | .skip,an,β,out,X,S,k,hX,hS,h,Q,hQ=>Zqv (hQ _ X S hX (Ext.refl X) hS h)
 | .drw its,an,β,out,X,S,k,hX,hS,h,Q,hQ=>by
  simp only[Da]at h;split at h
  ·rename_i hok;intro c hc;have hw:∀it∈its,it.w=!Gd it.gi:=by
    cases c with
    | region id ops d =>
     cases d with
     | false=>simp [trC]at hc
     | true =>
      have hc:=Ydm (show Ga P N ops=some (.drw its) by simpa only[trC] using hc);simp only[Pt,Kl,Kg]at hc;obtain⟨gis,hgis,hg⟩:=hc;split at hg
      ·simp only[Ka]at hg;subst hg;exact Zx9 gis
      simp at hg
    | seq a b=>simp [trC,Kl,Kg]at hc
    | cond c a b=>simp [trC,Kl,Kg]at hc
    | _=>simp [trC]at hc
   have hr:=Zfd (P:=P) (nI:=its.length) (histV:=[]) (pendV:=[]) its hX hS h hw trivial (fun p hp=>by simp at hp) (fun q hq=>by simp at hq) (hQ .normal);have hfin:Sw P N (.drw its) S Q:=by
    obtain⟨E,R,n,f⟩:=S;exact Yb8 hm hok hr
   exact hfin c hc
  simp at h
 | .alt l,an,β,out,X,S,k,hX,hS,h,Q,hQ=>by
  simp only[Da]at h;have hall:=Zsb h;intro c hc;cases c with
  | region id ops d =>
   cases d with
   | false=>simp [trC]at hc
   | true =>
    have hl:=Ydl (show Ga P N ops=some (.alt l) by simpa only[trC] using hc);have hfin:Sw P N (.alt l) S Q:=by
     refine Yv0 hm fun its hi=>?_;have hx:=hall its hi;split at hx
     case h_2=>cases hx
     rename_i hok;obtain⟨ops',_,hg⟩:=Zx6 hl its hi;have hw:∀it∈its,it.w=!Gd it.gi:=by
      simp only[Pt,Kl,Kg]at hg;obtain⟨gis,hgis,hg⟩:=hg;split at hg
      ·simp only[Ka]at hg;subst hg;exact Zx9 gis
      simp at hg
     exact⟨hok,Zfd (P:=P) (nI:=its.length) (histV:=[]) (pendV:=[]) its hX hS hx hw trivial (fun p hp=>by simp at hp) (fun q hq=>by simp at hq) (hQ .normal)⟩
    exact hfin _ hc
  | seq a b=>simp [trC,Kl,Kg]at hc
  | cond c a b=>simp [trC,Kl,Kg]at hc
  | _=>simp [trC]at hc
end
end Go.Vs
namespace Go.Vs
variable [Glb]
def C1:List XD->XSt->List XC×XSt
 | [],X=>([],X)
 | .lf c::l,X=>(Zgk c::(C1 l X).1,(C1 l X).2)
 | .sl t xs::l,X=>(.rw X.next::(C1 l (X.newR (.im t xs))).1,(C1 l (X.newR (.im t xs))).2)
def Mx (s:Nat):Nat->List XA->List (Nat×Nat×XV)
 | _,[]=>[]
 | i,a::l=>(i,s,.a a)::Mx s (i+1) l
def Fz:XSt:=⟨[],[],0,0,0⟩
def inX (args:List (Bool×Ty)) (x:Tp (args.map (·.2))):XSt :=
 ⟨Mx (C1 (F5 args x) Fz).2.stamp 0 (Mh args (C1 (F5 args x) Fz).1),(C1 (F5 args x) Fz).2.roots,(C1 (F5 args x) Fz).2.next,(C1 (F5 args x) Fz).2.stamp+1,0⟩
def Tl:List (Bool×Ty)->Bool
 | []=>true
 | (ag,t)::l=>(ag||Nat.beq t.n 1)&&Tl l
theorem Zn4:∀(l:List XD){X:XSt}{E:List (Nat×V)}{R:List (Nat×Root)}{f a:Nat},XOk X->SimX X ⟨E,R,X.next,f⟩ ->
  XOk (C1 l X).2/\(C1 l X).2.env=X.env/\(C1 l X).2.fix=X.fix/\X.next<=(C1 l X).2.next/\(C1 l X).2.next=(Au ((l.map Dk).map fun d=>(M.rd,d)) (a,X.next)).2.2.2/\SimX (C1 l X).2 ⟨E,(Au ((l.map Dk).map fun d=>(M.rd,d)) (a,X.next)).2.1++R,(C1 l X).2.next,f⟩ /\
  Ab WkC (Au ((l.map Dk).map fun d=>(M.rd,d)) (a,X.next)).1 ((C1 l X).1.map (cC (C1 l X).2.roots))/\(∀c∈(C1 l X).1,okC (C1 l X).2.roots (C1 l X).2.next (C1 l X).2.stamp c) /\
  (∀q,q<X.next->lk (C1 l X).2.roots q=lk X.roots q)/\(∀q y,get (Au ((l.map Dk).map fun d=>(M.rd,d)) (a,X.next)).2.1 q=some y->X.next<=q)
 | [],X,E,R,f,a,hX,hS=>⟨hX,rfl,rfl,Kc _,rfl,hS,trivial,by simp [C1],fun q _=>rfl,fun q y h=>by simp [Au,get]at h⟩
 | .lf c::l,X,E,R,f,a,hX,hS=>by
  obtain⟨a1,e,fx,nl,n,s,w,o,k,g⟩:=Zn4 (a:=a) l hX hS;have hd:Dk (.lf c)=.hole\/∃v,Dk (.lf c)=.lf v:=by cases c<;>first|exact .inl rfl|exact .inr ⟨_,rfl⟩
  have e1:(Au (((XD.lf c::l).map Dk).map fun d=>(M.rd,d)) (a,X.next)).2=(Au ((l.map Dk).map fun d=>(M.rd,d)) (a,X.next)).2:=by
   rcases hd with h|⟨v,h⟩<;>simp only[Ke,Au,h,inC,Km]
  refine⟨a1,e,fx,nl, ?_, ?_, ?_, ?_,k, ?_⟩
  ·rw[e1];exact n
  ·rw[e1];exact s
  ·cases c<;>first
    | exact⟨WkC.refl _,w⟩
    | exact⟨.inr rfl,w⟩
  ·intro c' hc;simp only[C1,Kh]at hc;rcases hc with rfl|hc
   ·cases c<;>trivial
   exact o c' hc
  intro q y hq;rw[e1]at hq;exact g q y hq
 | .sl t xs::l,X,E,R,f,a,hX,hS=>by
  obtain⟨a1,b1,s1⟩:=Q8 (x:=.im t xs) (y:=.im t.n (xs.map (Ae t))) hX hS (fun cs h=>by simp at h) ⟨_,rfl,rfl,rfl⟩;obtain⟨a2,e,fx,nl,n,s,w,o,k,g⟩:=Zn4 (a:=a) l a1 s1;have e2:(X.newR (.im t xs)).next=X.next+1:=rfl;have e1:(Au (((XD.sl t xs::l).map Dk).map fun d=>(M.rd,d)) (a,X.next)).2.1=(X.next,.im t.n (xs.map (Ae t)))::(Au ((l.map Dk).map fun d=>(M.rd,d)) (a,X.next+1)).2.1:=rfl;refine⟨a2,e,fx,Kla (Kcc _) nl,n, ?_,⟨?_,w⟩, ?_, ?_, ?_⟩
  ·refine Xe s ?_;intro r st x hl hx;rw[e1,e2];simp only[Kn,get];split
   ·rename_i h;subst h;rw[Ea];cases hg:get (Au ((l.map Dk).map fun d=>(M.rd,d)) (a,X.next+1)).2.1 X.next with
    | some y=>have:=g _ _ hg;rw[e2]at this;omega
    | none=>simp only[get,if_true]
   rename_i h;rw[Ea,Ea];cases hg:get (Au ((l.map Dk).map fun d=>(M.rd,d)) (a,X.next+1)).2.1 r with
   | some y=>rfl
   | none=>simp only[get];rw[if_neg h]
  ·left;have:lk (C1 l (X.newR (.im t xs))).2.roots X.next=some (X.stamp,.im t xs):=by
    rw[k _ (by rw[e2];exact Kqa _)];exact Q7 _ _
   show cC (C1 l (X.newR (.im t xs))).2.roots (.rw X.next)=.rf X.next [] t.n 0 (xs.map (Ae t)).length;simp only[cC,this,Ko]
  ·intro c hc;have e3:(C1 (.sl t xs::l) X).1=.rw X.next::(C1 l (X.newR (.im t xs))).1:=rfl;rw[e3]at hc;rcases Kh.1 hc with rfl|hc
   ·show X.next<_;exact Kz (Kqa X.next) nl
   exact o c hc
  ·intro q hq;show lk (C1 l (X.newR (.im t xs))).2.roots q=_;rw[k q (by rw[e2];omega)];simp only[XSt.newR];rw[Bd,if_neg (by simp only;omega)]
  intro q y hq;rw[e1]at hq;simp only[get]at hq;split at hq
  ·omega
  have:=g q y hq;rw[e2]at this;omega
theorem Zx {s:Nat}:∀{l:List XA}{i t st:Nat}{v:XV},lk (Mx s i l) t=some (st,v)->∃a,st=s/\v=.a a/\i<=t/\l[t-i]? = some a
 | [],i,t,st,v,h=>by simp [Mx,lk]at h
 | a::l,i,t,st,v,h=>by
  simp only[Mx]at h;rw[Bd]at h;split at h
  ·rename_i e;simp only at e;subst e;simp only[Ka,Kb]at h;exact⟨a,h.1.symm,h.2.symm,Kc _,by simp⟩
  obtain⟨b,h1,h2,h3,h4⟩:=Zx h;refine⟨b,h1,h2,by omega, ?_⟩;rw[show t-i=(t-(i+1))+1 by omega,Kpa];exact h4
theorem Zw2:∀(args:List (Bool×Ty)) (x:Tp (args.map (·.2))) (cs:List C) (b:Nat),Tl args=true->cs.length=((Bt args x).flatMap (·.2)).length->inV ((Bt args x).map Cb) cs b=(Gh (Bt args x) cs).map V.a
 | [],_,_,_,_,_=>rfl
 | (ag,t)::args,x,cs,b,ho,hl=>by
  simp only[Tl,Kd,Kmb]at ho;have hn:=Bu t (Tp.hd t _ x);simp only[Bt,Kxa,Kt,hn]at hl;have ih:=Zw2 args (Tp.tl t _ x) (cs.drop t.n) b ho.2 (by rw[Kma,hl];omega);cases ag with
  | true =>
   simp only[Bt,Ke,Cb,inV,Gh,O4,if_true,Ko,hn,ih]
  | false =>
   have h1:=Kq (ho.1.resolve_left (by simp));simp only[Bt,Ke,Cb,inV,Gh,O4,Kka,if_false,Ko,hn,ih];congr 1;rw[h1]at hl ⊢;cases cs with
   | nil=>rw[Ki]at hl;omega
   | cons c cs=>rfl
theorem Zfm:∀{l:List V}{i t:Nat}{v:V},i<=t->l[t-i]? = some v->get (Iw i l) t=some v
 | [],i,t,v,_,h=>by simp at h
 | a::l,i,t,v,hi,h=>by
  simp only[Iw,get];split
  ·rename_i e;subst e;simpa using h
  rename_i e;refine Zfm (by omega) ?_;rw[show t-i=(t-(i+1))+1 by omega,Kpa]at h;exact h
theorem Yp9 (args:List (Bool×Ty)) (x:Tp (args.map (·.2))) (ho:Tl args=true):XOk (inX args x)/\SimX (inX args x) ⟨Iw 0 (Bm ((Bt args x).map Cb)).1,(Bm ((Bt args x).map Cb)).2.1,(Bm ((Bt args x).map Cb)).2.2,B3 ((Bt args x).map Cb)⟩:=by
 have he:XOk Fz:=⟨fun r s x h=>by simp [Fz,lk]at h,fun r s x h=>by simp [Fz,lk]at h,fun r s x h=>by simp [Fz,lk]at h,Kc _⟩;have hs:SimX Fz ⟨[],[],Fz.next,0⟩:=⟨rfl,rfl,fun t s v h=>by simp [Fz,lk]at h,fun r s x h=>by simp [Fz,lk]at h⟩;obtain⟨a,e,fx,nl,n,s,w,o,k,g⟩:=Zn4 (a:=0) (F5 args x) he hs;rw[Zhl]at n s w;have hfix:B3 ((Bt args x).map Cb)=0:=by unfold B3;rw[S4,Vy,Zgr]
 have hcell:Ca ((Bt args x).map Cb)=Au (((Bt args x).flatMap (·.2)).map fun d=>(M.rd,d)) (0,0):=by unfold Ca;rw[S4,hfix]
 have hroots:(Bm ((Bt args x).map Cb)).2.1=(Au (((Bt args x).flatMap (·.2)).map fun d=>(M.rd,d)) (0,0)).2.1:=by
  show (Ca _).2.1++I7 (inB _ (Ca _).1) _=_;rw[Wc,hcell];simp [I7]
 have hnext:(Bm ((Bt args x).map Cb)).2.2=(Au (((Bt args x).flatMap (·.2)).map fun d=>(M.rd,d)) (0,0)).2.2.2:=by show (Ca _).2.2.2=_;rw[hcell]
 have hval:(Bm ((Bt args x).map Cb)).1=inV ((Bt args x).map Cb) (Au (((Bt args x).flatMap (·.2)).map fun d=>(M.rd,d)) (0,0)).1 (C8 (flat ((Bt args x).map Cb))):=by show inV _ (Ca _).1 _=_;rw[hcell]
 have hlen:(Au (((Bt args x).flatMap (·.2)).map fun d=>(M.rd,d)) (0,0)).1.length=((Bt args x).flatMap (·.2)).length:=by
  have key:∀(l:List (M×D)) (k:Kk),(Au l k).1.length=l.length:=by
   intro l
   induction l with
   | nil=>intro k;rfl
   | cons a l ih=>intro k;obtain⟨m,d⟩:=a;simp only[Au,Kf,ih]
  rw[key,Ko]
 rw[hroots,hnext,hval,hfix,Zw2 args x _ _ ho hlen];have hnx:Fz.next=0:=rfl;rw[hnx]at n s w;have same:∀r st z,lk (C1 (F5 args x) Fz).2.roots r=some (st,z)->st<(C1 (F5 args x) Fz).2.stamp->lk (C1 (F5 args x) Fz).2.roots r=some (st,z):=fun _ _ _ h _=>h;have hA:=Zpl args x _ _ w (by
  have:(C1 (F5 args x) Fz).1.length=(F5 args x).length:=by
   have key:∀(l:List XD) (X:XSt),(C1 l X).1.length=l.length:=by
    intro l
    induction l with
    | nil=>intro X;rfl
    | cons d l ih=>intro X;cases d<;>simp only[C1,Kf,ih]
   exact key _ _
  rw[this,<-Zse,Ko])
 refine⟨⟨fun r st z h=>⟨(a.ids r st z h).1,Kpb (a.ids r st z h).2⟩, ?_, ?_,Kda _⟩,⟨?_,rfl, ?_, ?_⟩⟩
 ·intro t st v hl;obtain⟨b,rfl,rfl,_,h4⟩:=Zx hl;refine⟨Kqa _, ?_⟩;exact okA.ext (Kc _) (Kcc _) same (Zbd args _ o b (Kaa h4))
 ·intro r st cs h e he;obtain⟨q1,q2⟩:=a.box r st cs h e he;exact⟨Kpb q1,okC.ext (Kc _) (Kcc _) same q2⟩
 ·exact n.symm
 ·intro t st v hl;obtain⟨b,rfl,rfl,h3,h4⟩:=Zx hl;obtain⟨y,y1,y2⟩:=Zrm (i:=t-0) (x:=cA (C1 (F5 args x) Fz).2.roots b) hA (by rw[Kba,h4];rfl);exact .inr ⟨.a y,Zfm (Kda _) (by rw[Kba,y1];rfl),y2⟩
 intro r st z hl y hy;obtain⟨y',h1,h2⟩:=s.roots r st z hl y hy;exact⟨y',by simpa using h1,h2⟩
def Vu {β:Type}(X:XSt):List I->(List XA->Option β)->Option β
 | [],k=>k []
 | i::is,k=>rdX X i fun v=>match v with
  | .a x=>Vu X is fun xs=>k (x::xs)
  | _=>none
def H4:List XA->List XC
 | []=>[]
 | .c c::l=>c::H4 l
 | .ag cs::l=>cs++H4 l
def F8:List (Bool×Ty)->List XA->Bool
 | [],[]=>true
 | (false,t)::rs,.c _::l=>Nat.beq t.n 1&&F8 rs l
 | (true,t)::rs,.ag cs::l=>Nat.beq cs.length t.n&&F8 rs l
 | _,_=>false
def Zba {β:Type}(R:XRs):(rs:List (Bool×Ty))->List XC->(Tp (rs.map (·.2))->Option β)->Option β
 | [],cs,k=>match cs with
  | []=>k ()
  | _=>none
 | (_,t)::rs,cs,k=>Er R t cs fun x cs=>Zba R rs cs fun xs=>k (Tp.mk t _ x xs)
def Zgn (rs:List (Bool×Ty)) (X:XSt) (is:List I):Option (Tp (rs.map (·.2))) :=
 Vu X is fun xs=>match F8 rs xs,Ed X.roots (H4 xs) with
  | true,some ids=>match Nd ids with
   | true=>Zba X.roots rs (H4 xs) some
   | false=>none
  | _,_=>none
noncomputable def fnX {P:Program}(Φ:List (Fx P)) (H:List (Nat×Hn)) (s:Stm) (an:An) (is:List I) (args rs:List (Bool×Ty)) (x:Tp (args.map (·.2))):Option (Tp (rs.map (·.2))) :=
 Da Φ H s an (inX args x) fun e X'=>match e with
  | .ret=>Zgn rs X' is
  | .normal=>Zgn rs X' is
  | _=>none
section
variable {P:Program}
theorem Zfq {β:Type}{out:β}{X:XSt}{S:St}(hX:XOk X) (hS:SimX X S):∀(is:List I) (k:List XA->Option β),Vu X is k=some out ->
  ∃xs ys,k xs=some out/\Ab WkA ys (xs.map (cA X.roots))/\(∀x∈xs,okA X.roots X.next X.stamp x)/\∀K:List A->Prop,K ys->F6 S is K
 | [],k,h=>⟨[],[],h,trivial,by simp,fun K hK=>hK⟩
 | i::is,k,h=>by
  simp only[Vu]at h;obtain⟨xv,h,ho,v,hw,hev⟩:=Zpd hX hS h;simp only at h;split at h
  ·rename_i x;obtain⟨xs,ys,h,h1,h2,h3⟩:=Zfq hX hS is _ h;cases v with
   | a y =>
    refine⟨x::xs,y::ys,h,⟨hw,h1⟩, ?_, ?_⟩
    ·intro z hz;rcases Kh.1 hz with rfl|hz
     ·exact ho
     exact h2 z hz
    intro K hK;simp only[F6];exact hev _ (h3 _ hK)
   | _=>exact hw.elim
  simp at h
theorem Zzp {β:Type}{out:β}{R:XRs}{nx st:Nat}:∀(rs:List (Bool×Ty)) (cs:List XC) (k:Tp (rs.map (·.2))->Option β),(∀c∈cs,okC R nx st c)->Zba R rs cs k=some out ->
  ∃y,k y=some out/\Ab (CD R) cs ((Bt rs y).flatMap (·.2))
 | [],cs,k,ho,h=>by
  simp only[Zba]at h;split at h
  ·exact⟨(),h,trivial⟩
  simp at h
 | (ag,t)::rs,cs,k,ho,h=>by
  simp only[Zba]at h;obtain⟨x,c0,c1,rfl,h1,h2⟩:=Ng t cs _ out ho h;obtain⟨y,h3,h4⟩:=Zzp rs c1 _ (fun c hc=>ho c (Kic _ hc)) h1;refine⟨_,h3, ?_⟩;simp only[Bt,Tp.hd_mk,Tp.tl_mk,Kxa];exact Ab.append h2 h4
theorem Zp7 {R:XRs}:∀(rs:List (Bool×Ty)) (y:Tp (rs.map (·.2))) (xs:List XA) (ys:List A),F8 rs xs=true->Ab WkA ys (xs.map (cA R))->ys.map (fun x=>((Dn x).1,(Dn x).2.length))=(Bt rs y).map (fun x=>(x.1,x.2.length))/\Ab WkC (ys.flatMap fun x=>(Dn x).2) ((H4 xs).map (cC R))
 | [],_,[],[],_,_=>⟨rfl,trivial⟩
 | (ag,t)::rs,y,x::xs,z::ys,h,hw=>by
  have hn:=Bu t (Tp.hd t _ y);cases ag with
  | false=>cases x with
   | c c =>
    simp only[F8,Kd]at h;obtain⟨a,b⟩:=Zp7 rs (Tp.tl t _ y) xs ys h.2 hw.2;cases z with
    | c z =>
     refine⟨?_,⟨hw.1,b⟩⟩;rw[Ke,a];simp only[Bt,Ke,Dn,hn,Kq h.1,Kf,Ki]
    | ag _=>exact hw.1.elim
   | ag cs=>simp [F8]at h
  | true=>cases x with
   | c c=>simp [F8]at h
   | ag cs =>
    simp only[F8,Kd]at h;obtain⟨a,b⟩:=Zp7 rs (Tp.tl t _ y) xs ys h.2 hw.2;cases z with
    | c z=>exact hw.1.elim
    | ag zs =>
     have hl:=Ab.length (show Ab WkC zs (cs.map (cC R)) from hw.1);rw[Ko]at hl;refine⟨?_, ?_⟩
     ·rw[Ke,a];simp only[Bt,Ke,Dn,hn,hl,Kq h.1]
     simp only[Kxa,Dn,H4,Kx];exact Nr hw.1 b
 | [],_,_::_,_,h,_=>by simp [F8]at h
 | (false,_)::_,_,[],_,h,_=>by simp [F8]at h
 | (true,_)::_,_,[],_,h,_=>by simp [F8]at h
 | [],_,[],_::_,_,h=>h.elim
 | _::_,_,_::_,[],_,h=>h.elim
theorem Zev {R:XRs}{nx st:Nat}:∀{xs:List XA},(∀x∈xs,okA R nx st x)->∀c∈H4 xs,okC R nx st c
 | [],_,c,hc=>by simp [H4]at hc
 | .c x::l,h,c,hc=>by
  simp only[H4,Kh]at hc;rcases hc with rfl|hc
  ·exact h _ Kp
  exact Zev (fun x hx=>h x (Kj _ hx)) c hc
 | .ag cs::l,h,c,hc=>by
  simp only[H4,Kca]at hc;rcases hc with hc|hc
  ·exact h _ Kp c hc
  exact Zev (fun x hx=>h x (Kj _ hx)) c hc
theorem Zxv {rs:List (Bool×Ty)}{X:XSt}{S:St}{is:List I}{y:Tp (rs.map (·.2))}{av:List (Bool×List D)}(hX:XOk X) (hS:SimX X S) (h:Zgn rs X is=some y):F6 S is fun xs=>Hz (av.map Cb) ⟨Bt rs y,[],[]⟩ S.roots (Fc xs):=by
 unfold Zgn at h;obtain⟨xs,ys,h,h1,h2,h3⟩:=Zfq hX hS is _ h;split at h
 ·rename_i ids hsh hids;split at h
  ·rename_i hnd;obtain⟨y',h,hcd⟩:=Zzp rs _ _ (Zev h2) h;simp only[Ka]at h;subst h;obtain⟨s1,s2⟩:=Zp7 rs y' xs ys hsh h1;obtain⟨rt,f1,f2⟩:=Xh hS (H4 xs) _ ids S.roots hcd hids (Rb hnd) (fun _ _=>rfl);have hk:=Lw hcd s2;refine h3 _ (Yra (rt:=rt) (Wc av _) ?_ s1 ?_)
   ·rw[S4];generalize av.flatMap (·.2)=l;have key:∀(l:List D) (k:Nat),H8 (l.map fun d=>(M.rd,d)) k=[]:=by
     intro l
     induction l with
     | nil=>intro k;rfl
     | cons d l ih=>intro k;cases d<;>exact ih k
    exact key l 0
   rw[hk];exact f1
  simp at h
 simp at h
theorem Yto (hm:P.follows .mixedOrders=true){f:FuncId}{fn:Func}{N:Nat}{s:Stm}{is:List I}{Φ:List (Fx P)}{H:List (Nat×Hn)}{an:An}{args rs:List (Bool×Ty)}(hf:P.funcs[f]? = some fn) (hb:(fn.body.bind (trC P fn.ntmps))=some s) (hi:Il P fn.results.toList=some is) (hn:Nat.ble args.length fn.ntmps=true) (ho:Tl args=true)
  {x:Tp (args.map (·.2))} {y:Tp (rs.map (·.2))} (h:fnX Φ H s an is args rs x=some y):Ir P f ((Bt args x).map Cb) ⟨Bt rs y,[],[]⟩:=by
 obtain⟨c,hb,hs⟩:=Ze hb;obtain⟨h1,h2⟩:=Yp9 args x ho;have hl:((Bt args x).map Cb).length=args.length:=by
  have key:∀(as:List (Bool×Ty)) (x:Tp (as.map (·.2))),(Bt as x).length=as.length:=by
   intro as
   induction as with
   | nil=>intro x;rfl
   | cons a as ih=>intro x;obtain⟨ag,t⟩:=a;simp only[Bt,Kf,ih]
  rw[Ko,key]
 refine Zpt hf hb hs hi (by rw[hl];exact Kea hn) ?_;refine Jt hm s an h1 h2 h ?_;intro e X' S' g1 g2 g3 g4;cases e with
 | ret=>exact Zxv g1 g3 g4
 | normal=>exact Zxv g1 g3 g4
 | _=>simp at g4
end
end Go.Vs
namespace Go.Vs
variable [Glb]
def A1:(as:List GArg)->Tp (C3 as)->List (M×XD)
 | [],_=>[]
 | a::as,x=>a.ms.zip (Po a.t (Tp.hd a.t _ x))++A1 as (Tp.tl a.t _ x)
def Zfx:M->Nat
 | .io=>1
 | .rx=>1
 | _=>0
def A4:List (M×XD)->Nat
 | []=>0
 | (m,.sl _ _)::l=>Zfx m+A4 l
 | _::l=>A4 l
def Ch:List GArg->Nat
 | []=>0
 | a::as=>match a.ptr with
  | true=>Ch as+1
  | false=>Ch as
def inL:List (M×XD)->Nat->Nat->List XC×XRs×Nat
 | [],_,k2=>([],[],k2)
 | (_,.lf c)::l,k1,k2=>(Zgk c::(inL l k1 k2).1,(inL l k1 k2).2)
 | (m,.sl t xs)::l,k1,k2=>match m with
  | .io=>(.rw k1::(inL l (k1+1) k2).1,(k1,0,.tr t xs)::(inL l (k1+1) k2).2.1,(inL l (k1+1) k2).2.2)
  | .rx=>(.rw k1::(inL l (k1+1) k2).1,(k1,0,.im t xs)::(inL l (k1+1) k2).2.1,(inL l (k1+1) k2).2.2)
  | .ow=>(.rw k2::(inL l k1 (k2+1)).1,(k2,0,.tr t xs)::(inL l k1 (k2+1)).2.1,(inL l k1 (k2+1)).2.2)
  | .rd=>(.rw k2::(inL l k1 (k2+1)).1,(k2,0,.im t xs)::(inL l k1 (k2+1)).2.1,(inL l k1 (k2+1)).2.2)
def G2:List GArg->List XC->Nat->List XA
 | [],_,_=>[]
 | a::as,cs,b=>match a.ptr with
  | true=>.c (.pb b 0)::G2 as (cs.drop (A2 a.ms)) (b+1)
  | false=>(match a.ag with
   | true=>.ag (cs.take (A2 a.ms))
   | false=>match cs.take (A2 a.ms) with
    | [c]=>.c c
    | _=>.ag [])::G2 as (cs.drop (A2 a.ms)) b
def Ev:List GArg->List XC->Nat->XRs
 | [],_,_=>[]
 | a::as,cs,b=>match a.ptr with
  | true=>(b,0,.bx ((cs.take (A2 a.ms)).map fun c=>(0,c)))::Ev as (cs.drop (A2 a.ms)) (b+1)
  | false=>Ev as (cs.drop (A2 a.ms)) b
def B5 (as:List GArg) (x:Tp (C3 as)):XSt :=
 ⟨Mx 0 0 (G2 as (inL (A1 as x) 0 (A4 (A1 as x)+Ch as)).1 (A4 (A1 as x))),(inL (A1 as x) 0 (A4 (A1 as x)+Ch as)).2.1++Ev as (inL (A1 as x) 0 (A4 (A1 as x)+Ch as)).1 (A4 (A1 as x)),(inL (A1 as x) 0 (A4 (A1 as x)+Ch as)).2.2,1,A4 (A1 as x)+Ch as⟩
def okG:List GArg->Bool
 | []=>true
 | a::as=>Nat.beq (A2 a.ms) a.t.n&&((a.ptr||a.ag)||Nat.beq a.t.n 1)&&okG as
def Za9 {β:Type}(R:XRs):List Ty->List XC->(List Sg->List XC->Option β)->Option β
 | [],cs,k=>k [] cs
 | t::ts,cs,k=>Er R t cs fun x cs=>Za9 R ts cs fun vs cs=>k (⟨t,x⟩::vs) cs
def Q1 {β:Type}(R:XRs):List (M×XD)->Nat->(List Sg->List Nat->Option β)->Option β
 | [],_,k=>k [] []
 | (_,.lf _)::l,n,k=>Q1 R l n k
 | (m,.sl t xs)::l,n,k=>match m with
  | .io=>match lk R n with
   | some (_,.tr t' ys)=>Qa t' t ys fun ys=>chk (nEq ys.length xs.length) (Q1 R l (n+1) fun vs ids=>k (⟨.L t,ys⟩::vs) (n::ids))
   | _=>none
  | .rx=>Q1 R l (n+1) k
  | _=>Q1 R l n k
def Zqj (R:XRs) (e:Nat×XC):Bool:=match e.1,e.2 with
 | 0,.rw r=>match lk R r with
  | some (0,.im _ _)=>true
  | _=>false
 | _,_=>false
def La (R:XRs):List M->List Ty->List (Nat×XC)->Option (List XC)
 | [],[],[]=>some []
 | m::ms,t::ts,e::es=>match m,M3 t with
  | .rx,true=>match Zqj R e with
   | true=>La R ms ts es
   | false=>none
  | _,_=>match La R ms ts es with
   | some cs=>some (e.2::cs)
   | none=>none
 | _,_,_=>none
def Wy (R:XRs):List GArg->Nat->Option (List XC)
 | [],_=>some []
 | a::as,b=>match a.ptr with
  | true=>match lk R b with
   | some (_,.bx es)=>match La R a.ms (cts a.t) es,Wy R as (b+1) with
    | some cs,some ds=>match Nat.beq cs.length (Fg a.o)&&Nb a.t with
     | true=>some (cs++ds)
     | false=>none
    | _,_=>none
   | _=>none
  | false=>Wy R as b
def Wk (as:List GArg) (rs:List (Bool×Ty)) (x:Tp (C3 as)) (X:XSt) (is:List I):Option (Tp (Fo as rs)) :=
 Vu X is fun xs=>match F8 rs xs,Wy X.roots as (A4 (A1 as x)) with
  | true,some ps=>match Ed X.roots (H4 xs++ps) with
   | some ids=>match Nd ids with
    | true=>Za9 X.roots (Gj rs) (H4 xs) fun vr rest=>match rest with
     | []=>Q1 X.roots (A1 as x) 0 fun vio ios=>match Qi ids ios with
      | true=>Za9 X.roots (Gt as) ps fun vb rest=>match rest with
       | []=>Sn (Fo as rs) (vr++(vio++vb)) some
       | _=>none
      | false=>none
     | _=>none
    | false=>none
   | none=>none
  | _,_=>none
noncomputable def fnG {P:Program}(Φ:List (Fx P)) (H:List (Nat×Hn)) (s:Stm) (an:An) (is:List I) (as:List GArg) (rs:List (Bool×Ty)) (x:Tp (C3 as)):Option (Tp (Fo as rs)) :=
 Da Φ H s an (B5 as x) fun e X'=>match e with
  | .ret=>Wk as rs x X' is
  | .normal=>Wk as rs x X' is
  | _=>none
theorem Zao {α:Type}:∀{l:List (Nat×Nat×α)}{r:Nat}{e:Nat×α},lk l r=some e->(r,e)∈l
 | [],r,e,h=>by simp [lk]at h
 | x::l,r,e,h=>by
  rw[Bd]at h;split at h
  ·rename_i hx;subst hx;simp only[Ka]at h;subst h;exact Kp
  exact Kj _ (Zao h)
theorem Zap {α:Type}:∀{l:List (Nat×Nat×α)}{r:Nat}{e:Nat×α},(l.map (·.1)).Nodup->(r,e)∈l->lk l r=some e
 | [],r,e,_,h=>by simp at h
 | x::l,r,e,hn,h=>by
  simp only[Ke,Kta]at hn;rw[Bd];rcases Kh.1 h with rfl|h
  ·rw[if_pos rfl]
  rw[if_neg (fun he=>hn.1 (by rw[he];exact Ky.2 ⟨(r,e),h,rfl⟩))];exact Zap hn.2 h
def Cy (z:M×XD):M×D:=(z.1,Dk z.2)
theorem Zet:∀(as:List GArg) (x:Tp (C3 as)),okG as=true->(A1 as x).map Cy=flat (Ay as x)
 | [],_,_=>rfl
 | a::as,x,h=>by
  simp only[okG,Kd]at h;have ih:=Zet as (Tp.tl a.t _ x) h.2;have e1:(a.ms.zip (Po a.t (Tp.hd a.t _ x))).map Cy=a.ms.zip (Ae a.t (Tp.hd a.t _ x)):=by
   rw[<-Zby];generalize Po a.t (Tp.hd a.t _ x)=ds;generalize a.ms=ms
   induction ms generalizing ds with
   | nil=>rfl
   | cons m ms ih=>cases ds with
    | nil=>rfl
    | cons d ds=>simp only[Khc,Ke,ih];rfl
  simp only[A1,Kx,e1,ih,flat,Ay,Kxa];congr 1;simp only[mkG];cases a.ptr<;>rfl
theorem Zoi:∀(as:List GArg) (x:Tp (C3 as)),I4 (Ay as x)=Ch as
 | [],_=>rfl
 | a::as,x=>by
  simp only[Ay,Ch,mkG];cases a.ptr<;>simp only[I4,Zoi as]
theorem Yq7 (R:XRs) (c:XC):WkC (match Dk (.lf c) with|.lf v=>.lf v|_=>.un) (cC R (Zgk c)):=by
 cases c<;>first|exact .inl rfl|exact .inr rfl
theorem Zfw:∀(l:List (M×XD)),C8 (l.map Cy)=A4 l
 | []=>rfl
 | (m,.lf c)::l=>by
  have:Qn (Cy (m,.lf c))=0:=by cases c<;>cases m<;>rfl
  simp only[Ke,C8,A4,Zfw l,this,Kr]
 | (m,.sl t xs)::l=>by
  have:Qn (Cy (m,.sl t xs))=Zfx m:=by cases m<;>rfl
  simp only[Ke,C8,A4,Zfw l,this]
def Zr2 (y:Nat×Root) (z:Nat×Nat×XR):Prop:=y.1=z.1/\z.2.1=0/\((∃(t:Ty) (xs:List t.den),z.2.2=.tr t xs/\y.2=.tr t.n (xs.map (Ae t)))\/∃(t:Ty) (xs:List t.den),z.2.2=.im t xs/\y.2=.im t.n (xs.map (Ae t)))
def P4 (l:List (M×XD)) (k1 k2:Nat):Prop :=
  Ab (fun c x=>(∀R:XRs,(∀z∈(inL l k1 k2).2.1,lk R z.1=some z.2)->WkC c (cC R x))/\∀nx st R,(∀z∈(inL l k1 k2).2.1,z.1<nx)->okC R nx st x) (Au (l.map Cy) (k1,k2)).1 (inL l k1 k2).1 /\
  Ab Zr2 (Au (l.map Cy) (k1,k2)).2.1 (inL l k1 k2).2.1/\(Au (l.map Cy) (k1,k2)).2.2.2=(inL l k1 k2).2.2/\k2<=(inL l k1 k2).2.2/\((inL l k1 k2).2.1.map (·.1)).Nodup/\∀z∈(inL l k1 k2).2.1,(k1<=z.1/\z.1<k1+A4 l)\/(k2<=z.1/\z.1<(inL l k1 k2).2.2)
theorem Zah:∀(l:List (M×XD)) (k1 k2:Nat),k1+A4 l<=k2->P4 l k1 k2
 | [],k1,k2,_=>⟨trivial,trivial,rfl,Kc _,List.nodup_nil,by simp [inL]⟩
 | (m,.lf c)::l,k1,k2,h=>by
  have hf:A4 ((m,.lf c)::l)=A4 l:=rfl;rw[hf]at h;obtain⟨a,b,n,u,d,e⟩:=Zah l k1 k2 h;have hd:(inC m (Dk (.lf c)) (k1,k2))=((match Dk (.lf c) with|.lf v=>.lf v|_=>.un),[],(k1,k2)):=by cases c<;>rfl
  have e1:(Au (((m,XD.lf c)::l).map Cy) (k1,k2)).1=(match Dk (.lf c) with|.lf v=>.lf v|_=>.un)::(Au (l.map Cy) (k1,k2)).1:=by
   simp only[Ke,Cy,Au,hd]
  have e2:(Au (((m,XD.lf c)::l).map Cy) (k1,k2)).2=(Au (l.map Cy) (k1,k2)).2:=by
   simp only[Ke,Cy,Au,hd,Km]
  unfold P4;rw[e1,e2,hf];refine⟨⟨⟨fun R _=>Yq7 R c,fun nx st R _=>by cases c<;>trivial⟩,a⟩,b,n,u,d,e⟩
 | (m,.sl t xs)::l,k1,k2,h=>by
  have low:∀(x:XR) (y:Root),(inC m (Dk (.sl t xs)) (k1,k2))=(.rf k1 [] t.n 0 (xs.map (Ae t)).length,[(k1,y)],(k1+1,k2))->Zfx m=1->(inL ((m,.sl t xs)::l) k1 k2)=(.rw k1::(inL l (k1+1) k2).1,(k1,0,x)::(inL l (k1+1) k2).2.1,(inL l (k1+1) k2).2.2)->((x=.tr t xs/\y=.tr t.n (xs.map (Ae t)))\/(x=.im t xs/\y=.im t.n (xs.map (Ae t))))->P4 ((m,.sl t xs)::l) k1 k2:=by
   intro x y hd hm he hxy;have hf:A4 ((m,.sl t xs)::l)=1+A4 l:=by simp only[A4,hm]
   rw[hf]at h;obtain⟨a,b,n,u,d,e⟩:=Zah l (k1+1) k2 (by omega);have e1:(Au (((m,XD.sl t xs)::l).map Cy) (k1,k2)).1=.rf k1 [] t.n 0 (xs.map (Ae t)).length::(Au (l.map Cy) (k1+1,k2)).1:=by
    simp only[Ke,Cy,Au,hd]
   have e2:(Au (((m,XD.sl t xs)::l).map Cy) (k1,k2)).2.1=(k1,y)::(Au (l.map Cy) (k1+1,k2)).2.1:=by
    simp only[Ke,Cy,Au,hd,Kkf]
   have e3:(Au (((m,XD.sl t xs)::l).map Cy) (k1,k2)).2.2=(Au (l.map Cy) (k1+1,k2)).2.2:=by
    simp only[Ke,Cy,Au,hd]
   have goal:P4 ((m,.sl t xs)::l) k1 k2:=by
    unfold P4;rw[e1,e2,e3,he,hf];refine⟨⟨⟨fun R hR=>?_,fun nx st R hR=>hR _ Kp⟩, ?_⟩,⟨⟨rfl,rfl, ?_⟩,b⟩,n,u, ?_, ?_⟩
    ·have:=hR (k1,0,x) Kp;left;rcases hxy with ⟨rfl,_⟩|⟨rfl,_⟩<;>simp only[cC,this,Ko]
    ·refine a.mono ?_;intro c z ⟨q1,q2⟩;exact⟨fun R hR=>q1 R fun w hw=>hR w (Kj _ hw),fun nx st R hR=>q2 nx st R fun w hw=>hR w (Kj _ hw)⟩
    ·rcases hxy with ⟨rfl,rfl⟩|⟨rfl,rfl⟩
     ·exact .inl ⟨t,xs,rfl,rfl⟩
     exact .inr ⟨t,xs,rfl,rfl⟩
    ·simp only[Ke,Kta];refine⟨fun hm=>?_,d⟩;obtain⟨z,hz,hz2⟩:=Ky.1 hm;rcases e z hz with q|q<;>omega
    intro z hz;rcases Kh.1 hz with rfl|hz
    ·left;simp only;omega
    rcases e z hz with q|q
    ·left;omega
    exact .inr q
   exact goal
  have high:∀(x:XR) (y:Root),(inC m (Dk (.sl t xs)) (k1,k2))=(.rf k2 [] t.n 0 (xs.map (Ae t)).length,[(k2,y)],(k1,k2+1))->Zfx m=0->(inL ((m,.sl t xs)::l) k1 k2)=(.rw k2::(inL l k1 (k2+1)).1,(k2,0,x)::(inL l k1 (k2+1)).2.1,(inL l k1 (k2+1)).2.2)->((x=.tr t xs/\y=.tr t.n (xs.map (Ae t)))\/(x=.im t xs/\y=.im t.n (xs.map (Ae t))))->P4 ((m,.sl t xs)::l) k1 k2:=by
   intro x y hd hm he hxy;have hf:A4 ((m,.sl t xs)::l)=A4 l:=by simp only[A4,hm,Kr]
   rw[hf]at h;obtain⟨a,b,n,u,d,e⟩:=Zah l k1 (k2+1) (by omega);have e1:(Au (((m,XD.sl t xs)::l).map Cy) (k1,k2)).1=.rf k2 [] t.n 0 (xs.map (Ae t)).length::(Au (l.map Cy) (k1,k2+1)).1:=by
    simp only[Ke,Cy,Au,hd]
   have e2:(Au (((m,XD.sl t xs)::l).map Cy) (k1,k2)).2.1=(k2,y)::(Au (l.map Cy) (k1,k2+1)).2.1:=by
    simp only[Ke,Cy,Au,hd,Kkf]
   have e3:(Au (((m,XD.sl t xs)::l).map Cy) (k1,k2)).2.2=(Au (l.map Cy) (k1,k2+1)).2.2:=by
    simp only[Ke,Cy,Au,hd]
   have goal:P4 ((m,.sl t xs)::l) k1 k2:=by
    unfold P4;rw[e1,e2,e3,he,hf];refine⟨⟨⟨fun R hR=>?_,fun nx st R hR=>hR _ Kp⟩, ?_⟩,⟨⟨rfl,rfl, ?_⟩,b⟩,n,(by show k2<=(inL l k1 (k2+1)).2.2;omega), ?_, ?_⟩
    ·have:=hR (k2,0,x) Kp;left;rcases hxy with ⟨rfl,_⟩|⟨rfl,_⟩<;>simp only[cC,this,Ko]
    ·refine a.mono ?_;intro c z ⟨q1,q2⟩;exact⟨fun R hR=>q1 R fun w hw=>hR w (Kj _ hw),fun nx st R hR=>q2 nx st R fun w hw=>hR w (Kj _ hw)⟩
    ·rcases hxy with ⟨rfl,rfl⟩|⟨rfl,rfl⟩
     ·exact .inl ⟨t,xs,rfl,rfl⟩
     exact .inr ⟨t,xs,rfl,rfl⟩
    ·simp only[Ke,Kta];refine⟨fun hm=>?_,d⟩;obtain⟨z,hz,hz2⟩:=Ky.1 hm;rcases e z hz with q|q<;>omega
    intro z hz;rcases Kh.1 hz with rfl|hz
    ·right;simp only;omega
    rcases e z hz with q|q
    ·exact .inl q
    right;simp only;omega
   exact goal
  cases m with
  | io=>exact low _ _ rfl rfl rfl (.inl ⟨rfl,rfl⟩)
  | rx=>exact low _ _ rfl rfl rfl (.inr ⟨rfl,rfl⟩)
  | ow=>exact high _ _ rfl rfl rfl (.inl ⟨rfl,rfl⟩)
  | rd=>exact high _ _ rfl rfl rfl (.inr ⟨rfl,rfl⟩)
theorem Y8 {α β:Type}{R:α->β->Prop}:∀{as:List α}{bs:List β},Ab R as bs->∀b∈bs,∃a∈as,R a b
 | [],[],_,b,hb=>by simp at hb
 | a::as,b::bs,h,c,hc=>by
  rcases Kh.1 hc with rfl|hc
  ·exact⟨a,Kp,h.1⟩
  obtain⟨d,d1,d2⟩:=Y8 h.2 c hc;exact⟨d,Kj _ d1,d2⟩
 | [],_::_,h,_,_=>h.elim
 | _::_,[],h,_,_=>h.elim
theorem Zr7:∀{ys:List (Nat×Root)}{zs:XRs},Ab Zr2 ys zs->ys.map (·.1)=zs.map (·.1)
 | [],[],_=>rfl
 | y::ys,z::zs,h=>by simp only[Ke,Zr7 h.2,h.1.1]
 | [],_::_,h=>h.elim
 | _::_,[],h=>h.elim
theorem Zj9 {a:GArg}{x:a.t.den}(h:A2 a.ms=a.t.n):(a.ms.zip (Ae a.t x)).length=A2 a.ms:=by
 rw[List.length_zip,Bu,<-h,G4];omega
theorem Zna {R:XRs}:∀(as:List GArg) (x:Tp (C3 as)) (us:List C) (cs:List XC) (b:Nat),okG as=true->us.length=(flat (Ay as x)).length->Ab (fun c x=>WkC c (cC R x)) us cs->(∀z∈Ev as cs b,lk R z.1=some z.2) ->
  Ab (fun v a=>WkV v (cV R (.a a))) (inV (Ay as x) us b) (G2 as cs b)
 | [],_,_,_,_,_,_,_,_=>trivial
 | a::as,x,us,cs,b,h,hl,hw,hB=>by
  simp only[okG,Kd,Kmb]at h;obtain⟨⟨h1,h2⟩,h3⟩:=h;have h1:=Kq h1;have hz:=Zj9 (x:=Tp.hd a.t _ x) h1;have hcell:(mkG a (Tp.hd a.t _ x)).cells=a.ms.zip (Ae a.t (Tp.hd a.t _ x)):=by simp only[mkG];cases a.ptr<;>rfl
  simp only[flat,Ay,Kxa,Kt,hcell,hz]at hl;have hdrop:Ab (fun c x=>WkC c (cC R x)) (us.drop (A2 a.ms)) (cs.drop (A2 a.ms)):=by
   have:Ab WkC us (cs.map (cC R)):=by
    clear hl hB
    induction us generalizing cs with
    | nil=>cases cs<;>exact hw
    | cons u us ih=>cases cs with
     | nil=>exact hw.elim
     | cons c cs=>exact⟨hw.1,ih cs hw.2⟩
   have:=Jg (n:=A2 a.ms) this;rw[<-Kfb]at this
   revert this
   generalize us.drop (A2 a.ms)=p;generalize cs.drop (A2 a.ms)=q;intro this
   induction p generalizing q with
   | nil=>cases q<;>exact this
   | cons u us ih=>cases q with
    | nil=>exact this.elim
    | cons c cs=>exact⟨this.1,ih cs this.2⟩
  have htake:Ab WkC (us.take (A2 a.ms)) ((cs.take (A2 a.ms)).map (cC R)):=by
   have:Ab WkC us (cs.map (cC R)):=by
    clear hl hB hdrop
    induction us generalizing cs with
    | nil=>cases cs<;>exact hw
    | cons u us ih=>cases cs with
     | nil=>exact hw.elim
     | cons c cs=>exact⟨hw.1,ih cs hw.2⟩
   have:=Jz (n:=A2 a.ms) this
   rwa [<-Keb]at this
  have hlen:(us.drop (A2 a.ms)).length=(flat (Ay as (Tp.tl a.t _ x))).length:=by
   rw[Kma,hl,flat];omega
  cases hp:a.ptr with
  | true =>
   simp only[Ev,hp]at hB;have ih:=Zna as (Tp.tl a.t _ x) _ _ (b+1) h3 hlen hdrop fun z hz=>hB z (Kj _ hz);have hb:=hB _ Kp;simp only at hb;simp only[Ay,mkG,hp,inV,G2,hz];refine⟨?_,ih⟩;simp only[cV,cA,cC,hb];exact WkC.refl _
  | false =>
   simp only[Ev,hp]at hB;have ih:=Zna as (Tp.tl a.t _ x) _ _ b h3 hlen hdrop hB;cases hag:a.ag with
   | true =>
    simp only[Ay,mkG,hp,hag,inV,G2,hz];exact⟨htake,ih⟩
   | false =>
    simp only[Ay,mkG,hp,hag,inV,G2,hz];refine⟨?_,ih⟩;have hn:a.t.n=1:=by
     rcases h2 with h2|h2
     ·rw[hp,hag]at h2;simp at h2
     exact Kq h2
    match h4:us.take (A2 a.ms),h5:cs.take (A2 a.ms) with
    | [u],[c]=>rw[h4,h5]at htake;exact htake.1
    | [],[] =>
     exfalso;have:(us.take (A2 a.ms)).length=0:=by rw[h4];rfl
     rw[Kua,hl,h1,hn]at this;omega
    | [],_::_=>rw[h4,h5]at htake;exact htake.elim
    | _::_,[]=>rw[h4,h5]at htake;exact htake.elim
    | [_],_::_::_=>rw[h4,h5]at htake;exact htake.2.elim
    | _::_::_,[_]=>rw[h4,h5]at htake;exact htake.2.elim
    | _::_::_,_::_::_ =>
     exfalso;have:(us.take (A2 a.ms)).length<=1:=by rw[Kua,h1,hn];omega
     rw[h4]at this;simp at this
theorem Zaf:∀(as:List GArg) (cs:List XC) (b:Nat),((Ev as cs b).map (·.1)).Nodup/\∀z∈Ev as cs b,b<=z.1/\z.1<b+Ch as/\∃es,z.2=(0,.bx es)/\∀e∈es,e.1=0/\e.2∈cs
 | [],_,_=>⟨List.nodup_nil,by simp [Ev]⟩
 | a::as,cs,b=>by
  cases hp:a.ptr with
  | false =>
   simp only[Ev,hp,Ch];obtain⟨h1,h2⟩:=Zaf as (cs.drop (A2 a.ms)) b;refine⟨h1,fun z hz=>?_⟩;obtain⟨q1,q2,es,q3,q4⟩:=h2 z hz;exact⟨q1,q2,es,q3,fun e he=>⟨(q4 e he).1,Kkb (q4 e he).2⟩⟩
  | true =>
   simp only[Ev,hp,Ch];obtain⟨h1,h2⟩:=Zaf as (cs.drop (A2 a.ms)) (b+1);refine⟨?_,fun z hz=>?_⟩
   ·simp only[Ke,Kta];refine⟨fun hm=>?_,h1⟩;obtain⟨z,hz,hz2⟩:=Ky.1 hm;have:=(h2 z hz).1;omega
   rcases Kh.1 hz with rfl|hz
   ·refine⟨Kc _,by omega,_,rfl,fun e he=>?_⟩;obtain⟨c,hc,rfl⟩:=Ky.1 he;exact⟨rfl,Kjb hc⟩
   obtain⟨q1,q2,es,q3,q4⟩:=h2 z hz;exact⟨by omega,by omega,es,q3,fun e he=>⟨(q4 e he).1,Kkb (q4 e he).2⟩⟩
theorem Znb {R:XRs}:∀(as:List GArg) (x:Tp (C3 as)) (us:List C) (cs:List XC) (b:Nat),okG as=true->Ab (fun c x=>WkC c (cC R x)) us cs->∀r e,(r,e)∈Ev as cs b->∃y y',get (I7 (inB (Ay as x) us) b) r=some y/\cRt R e.2=some y'/\WkR y y'
 | [],_,_,_,_,_,_,r,e,h=>by simp [Ev]at h
 | a::as,x,us,cs,b,h,hw,r,e,he=>by
  simp only[okG,Kd]at h;have h1:=Kq h.1.1;have hz:=Zj9 (x:=Tp.hd a.t _ x) h1;have conv:∀{us:List C} {cs:List XC},Ab (fun c x=>WkC c (cC R x)) us cs->Ab WkC us (cs.map (cC R)):=by
   intro us
   induction us with
   | nil=>intro cs h;cases cs<;>exact h
   | cons u us ih=>intro cs h;cases cs with
    | nil=>exact h.elim
    | cons c cs=>exact⟨h.1,ih h.2⟩
  have back:∀{us:List C} {cs:List XC},Ab WkC us (cs.map (cC R))->Ab (fun c x=>WkC c (cC R x)) us cs:=by
   intro us
   induction us with
   | nil=>intro cs h;cases cs<;>exact h
   | cons u us ih=>intro cs h;cases cs with
    | nil=>exact h.elim
    | cons c cs=>exact⟨h.1,ih h.2⟩
  have hdrop:Ab (fun c x=>WkC c (cC R x)) (us.drop (A2 a.ms)) (cs.drop (A2 a.ms)):=by
   refine back ?_;rw[Kfb];exact Jg (conv hw)
  have htake:Ab WkC (us.take (A2 a.ms)) ((cs.take (A2 a.ms)).map (cC R)):=by
   rw[Keb];exact Jz (conv hw)
  cases hp:a.ptr with
  | false =>
   simp only[Ev,hp]at he;obtain⟨y,y',q⟩:=Znb as (Tp.tl a.t _ x) _ _ b h.2 hdrop r e he;refine⟨y,y', ?_⟩;simp only[Ay,mkG,hp,inB,hz];exact q
  | true =>
   simp only[Ev,hp]at he;simp only[Ay,mkG,hp,inB,hz,I7,get];rcases Kh.1 he with he|he
   ·simp only[Kb]at he;obtain⟨rfl,rfl⟩:=he;rw[if_pos rfl];refine⟨_,_,rfl,rfl, ?_⟩;simp only[WkR,Kqb];exact htake
   have:=((Zaf as _ (b+1)).2 _ he).1;simp only at this;rw[if_neg (by omega)];exact Znb as (Tp.tl a.t _ x) _ _ (b+1) h.2 hdrop r e he
theorem Yp7 (as:List GArg) (x:Tp (C3 as)) (ho:okG as=true):Ab (fun c y=>WkC c (cC (B5 as x).roots y)) (Ca (Ay as x)).1 (inL (A1 as x) 0 (A4 (A1 as x)+Ch as)).1/\C8 (flat (Ay as x))=A4 (A1 as x)/\(∀z∈Ev as (inL (A1 as x) 0 (A4 (A1 as x)+Ch as)).1 (A4 (A1 as x)),lk (B5 as x).roots z.1=some z.2):=by
 have hflat:=Zet as x ho;have hfx:C8 (flat (Ay as x))=A4 (A1 as x):=by rw[<-hflat,Zfw]
 have hfix:B3 (Ay as x)=A4 (A1 as x)+Ch as:=by unfold B3;rw[hfx,Zoi]
 obtain⟨a,b,n,u,d,e⟩:=Zah (A1 as x) 0 (A4 (A1 as x)+Ch as) (by omega);have hcell:Ca (Ay as x)=Au ((A1 as x).map Cy) (0,A4 (A1 as x)+Ch as):=by unfold Ca;rw[hflat,hfix]
 rw[<-hcell]at a b n;obtain⟨hBk,hBz⟩:=Zaf as (inL (A1 as x) 0 (A4 (A1 as x)+Ch as)).1 (A4 (A1 as x));have hnd:((B5 as x).roots.map (·.1)).Nodup:=by
  show (((inL (A1 as x) 0 (A4 (A1 as x)+Ch as)).2.1++Ev as (inL (A1 as x) 0 (A4 (A1 as x)+Ch as)).1 (A4 (A1 as x))).map (·.1)).Nodup;rw[Kx,Kdd];refine⟨d,hBk, ?_⟩;intro p hp q hq epq;subst epq;obtain⟨z,hz,rfl⟩:=Ky.1 hp;obtain⟨z',hz',e2⟩:=Ky.1 hq;have h1:=e z hz;have h2:=hBz z' hz';omega
 exact⟨a.mono fun c y h=>h.1 _ fun z hz=>Zap hnd (Kzd _ hz),hfx,fun z hz=>Zap hnd (Kic _ hz)⟩
theorem Zne (as:List GArg) (x:Tp (C3 as)) (ho:okG as=true):XOk (B5 as x)/\SimX (B5 as x) ⟨Iw 0 (Bm (Ay as x)).1,(Bm (Ay as x)).2.1,(Bm (Ay as x)).2.2,B3 (Ay as x)⟩:=by
 have hflat:=Zet as x ho;have hfx:C8 (flat (Ay as x))=A4 (A1 as x):=by rw[<-hflat,Zfw]
 have hfix:B3 (Ay as x)=A4 (A1 as x)+Ch as:=by unfold B3;rw[hfx,Zoi]
 obtain⟨a,b,n,u,d,e⟩:=Zah (A1 as x) 0 (A4 (A1 as x)+Ch as) (by omega);have hcell:Ca (Ay as x)=Au ((A1 as x).map Cy) (0,A4 (A1 as x)+Ch as):=by unfold Ca;rw[hflat,hfix]
 rw[<-hcell]at a b n;obtain⟨hBk,hBz⟩:=Zaf as (inL (A1 as x) 0 (A4 (A1 as x)+Ch as)).1 (A4 (A1 as x))
 -- all the roots' names
 have hnd:((B5 as x).roots.map (·.1)).Nodup:=by
  show (((inL (A1 as x) 0 (A4 (A1 as x)+Ch as)).2.1++Ev as (inL (A1 as x) 0 (A4 (A1 as x)+Ch as)).1 (A4 (A1 as x))).map (·.1)).Nodup;rw[Kx,Kdd];refine⟨d,hBk, ?_⟩;intro p hp q hq epq;subst epq;obtain⟨z,hz,rfl⟩:=Ky.1 hp;obtain⟨z',hz',e2⟩:=Ky.1 hq;have h1:=e z hz;have h2:=hBz z' hz';omega
 have hlt:∀z∈(B5 as x).roots,z.1<(B5 as x).next:=by
  intro z hz;show z.1<(inL _ _ _).2.2;rcases Kca.1 hz with hz|hz
  ·have:=e z hz;omega
  have:=(hBz z hz).2.1;omega
 have hlkL:∀z∈(inL (A1 as x) 0 (A4 (A1 as x)+Ch as)).2.1,lk (B5 as x).roots z.1=some z.2:=fun z hz=>Zap hnd (Kzd _ hz);have hlkB:∀z∈Ev as (inL (A1 as x) 0 (A4 (A1 as x)+Ch as)).1 (A4 (A1 as x)),lk (B5 as x).roots z.1=some z.2:=fun z hz=>Zap hnd (Kic _ hz);have hcells:Ab (fun c y=>WkC c (cC (B5 as x).roots y)) (Ca (Ay as x)).1 (inL (A1 as x) 0 (A4 (A1 as x)+Ch as)).1:=a.mono fun c y h=>h.1 _ hlkL;have hcok:∀c∈(inL (A1 as x) 0 (A4 (A1 as x)+Ch as)).1,okC (B5 as x).roots (B5 as x).next (B5 as x).stamp c:=by
  intro c hc;obtain⟨c',_,h⟩:=Y8 a c hc;exact h.2 _ _ _ fun z hz=>hlt z (Kzd _ hz)
 have hulen:(Ca (Ay as x)).1.length=(flat (Ay as x)).length:=by
  rw[hcell,<-hflat];have key:∀(l:List (M×D)) (k:Kk),(Au l k).1.length=l.length:=by
   intro l
   induction l with
   | nil=>intro k;rfl
   | cons a l ih=>intro k;obtain⟨m,d⟩:=a;simp only[Au,Kf,ih]
  exact key _ _
 have hargs:=Zna (R:=(B5 as x).roots) as x (Ca (Ay as x)).1 _ (A4 (A1 as x)) ho hulen hcells hlkB;have hAok:∀y∈G2 as (inL (A1 as x) 0 (A4 (A1 as x)+Ch as)).1 (A4 (A1 as x)),okA (B5 as x).roots (B5 as x).next (B5 as x).stamp y:=by
  have key:∀(bs:List GArg) (cs:List XC) (b:Nat),(∀c∈cs,okC (B5 as x).roots (B5 as x).next (B5 as x).stamp c)->(b+Ch bs<=(B5 as x).next)->∀y∈G2 bs cs b,okA (B5 as x).roots (B5 as x).next (B5 as x).stamp y:=by
   intro bs
   induction bs with
   | nil=>intro cs b _ _ y hy;simp [G2]at hy
   | cons a bs ih =>
    intro cs b hc hb y hy;cases hp:a.ptr with
    | true =>
     simp only[G2,hp,Kh]at hy;simp only[Ch,hp]at hb;rcases hy with rfl|hy
     ·show b<(B5 as x).next;omega
     exact ih _ (b+1) (fun c h=>hc c (Kkb h)) (by omega) y hy
    | false =>
     simp only[G2,hp,Kh]at hy;simp only[Ch,hp]at hb;rcases hy with rfl|hy
     ·cases a.ag with
      | true=>exact fun c h=>hc c (Kjb h)
      | false =>
       simp only;split
       ·rename_i c h4;exact hc c (Kjb (i:=A2 a.ms) (by rw[h4];exact Kp))
       exact fun c h=>by simp at h
     exact ih _ b (fun c h=>hc c (Kkb h)) hb y hy
  refine key as _ _ hcok ?_;show _<=(inL _ _ _).2.2;omega
 have hst0:∀r s z,lk (B5 as x).roots r=some (s,z)->s=0:=by
  intro r s z hl;have hm:=Zao hl;rcases Kca.1 hm with hm|hm
  ·obtain⟨y,_,h⟩:=Y8 b _ hm;exact h.2.1
  obtain⟨es,h,_⟩:=(hBz _ hm).2.2;simp only[Kb]at h;exact h.1
 refine⟨⟨?_, ?_, ?_, ?_⟩,⟨?_,hfix, ?_, ?_⟩⟩
 ·intro r s z hl;exact⟨hlt _ (Zao hl),by rw[hst0 r s z hl];exact Kqa 0⟩
 ·intro t s v hl;obtain⟨y,rfl,rfl,_,h4⟩:=Zx hl;exact⟨Kqa 0,hAok y (Kaa h4)⟩
 ·intro r s cs hl en hen;have hm:=Zao hl;rcases Kca.1 hm with hm|hm
  ·obtain⟨y,_,h⟩:=Y8 b _ hm;rcases h.2.2 with ⟨t,xs,h,_⟩|⟨t,xs,h,_⟩<;>simp at h
  obtain⟨es,h,h2⟩:=(hBz _ hm).2.2;simp only[Kb,XR.bx.injEq]at h;obtain⟨_,rfl⟩:=h;obtain⟨q1,q2⟩:=h2 en hen;exact⟨by rw[q1];exact Kqa 0,hcok _ q2⟩
 ·show A4 (A1 as x)+Ch as<=(inL _ _ _).2.2;exact u
 ·exact n
 ·intro t s v hl;obtain⟨y,rfl,rfl,_,h4⟩:=Zx hl;right;obtain⟨i,hi,hget⟩:=Krc (Kaa h4);have hlen:=hargs.length;rw[Kxc]at h4;have ht:t<(G2 as (inL (A1 as x) 0 (A4 (A1 as x)+Ch as)).1 (A4 (A1 as x))).length:=(Kfa.1 h4).1;have hv:(inV (Ay as x) (Ca (Ay as x)).1 (A4 (A1 as x)))[t]? = some (inV (Ay as x) (Ca (Ay as x)).1 (A4 (A1 as x)))[t]:=Ku (by omega);obtain⟨y',q1,q2⟩:=hargs.get t _ hv;rw[h4]at q1;simp only[Ka]at q1;subst q1;refine⟨_,Zfm (Kda _) ?_,q2⟩;rw[Kxc];show (inV (Ay as x) (Ca (Ay as x)).1 (C8 (flat (Ay as x))))[t]? = _;rw[hfx];exact hv
 intro r s z hl y hy;have hm:=Zao hl;have hroots:(Bm (Ay as x)).2.1=(Ca (Ay as x)).2.1++I7 (inB (Ay as x) (Ca (Ay as x)).1) (A4 (A1 as x)):=by show _++I7 _ (C8 _)=_;rw[hfx]
 show ∃y',get (Bm (Ay as x)).2.1 r=some y'/\WkR y' y;rw[hroots,Ea];have hkeys:=Zr7 b;rcases Kca.1 hm with hm|hm
 ·obtain⟨y0,hy0,h⟩:=Y8 b _ hm;have hg:get (Ca (Ay as x)).2.1 r=some y0.2:=Hk (by rw[hkeys];exact d) (by rw[<-show y0.1=r from h.1];exact hy0);rw[hg];refine⟨_,rfl, ?_⟩;rcases h.2.2 with ⟨t,xs,h1,h2⟩|⟨t,xs,h1,h2⟩
  ·simp only at h1;subst h1;simp only[cRt,Ka]at hy;subst hy;rw[h2];exact⟨rfl,rfl⟩
  simp only at h1;subst h1;simp only[cRt,Ka]at hy;subst hy;rw[h2];exact⟨rfl,rfl⟩
 have hno:get (Ca (Ay as x)).2.1 r=none:=by
  cases hq:get (Ca (Ay as x)).2.1 r with
  | none=>rfl
  | some w =>
   exfalso;have h1:r∈(Ca (Ay as x)).2.1.map (·.1):=Ky.2 ⟨_,Na hq,rfl⟩;rw[hkeys]at h1;obtain⟨z1,hz1,e1⟩:=Ky.1 h1;have h2:=e z1 hz1;have h3:=hBz _ hm;simp only at h3;omega
 rw[hno];obtain⟨y1,y2,g1,g2,g3⟩:=Znb (R:=(B5 as x).roots) as x (Ca (Ay as x)).1 _ (A4 (A1 as x)) ho hcells r (s,z) hm;simp only at g2;rw[hy]at g2;simp only[Ka]at g2;subst g2;exact⟨y1,g1,g3⟩
end Go.Vs
namespace Go.Vs
variable [Glb]
theorem Zpe {β:Type}{out:β}{R:XRs}{nx st:Nat}:∀(ts:List Ty) (cs:List XC) (k:List Sg->List XC->Option β),(∀c∈cs,okC R nx st c)->Za9 R ts cs k=some out ->
  ∃vs cs0 rest,cs=cs0++rest/\k vs rest=some out/\Ab (CD R) cs0 (vs.flatMap Gx)/\vs.map (·.1)=ts
 | [],cs,k,ho,h=>⟨[],[],cs,rfl,h,trivial,rfl⟩
 | t::ts,cs,k,ho,h=>by
  simp only[Za9]at h;obtain⟨x,c0,c1,rfl,h1,h2⟩:=Ng t cs _ out ho h;obtain⟨vs,d0,d1,rfl,h3,h4,h5⟩:=Zpe ts c1 _ (fun c hc=>ho c (Kic _ hc)) h1;exact⟨⟨t,x⟩::vs,c0++d0,d1,by simp,h3,by simp only[Kxa,Gx];exact Ab.append h2 h4,by simp [h5]⟩
theorem Wf {β:Type}{out:β}{X:XSt}{S:St}(hS:SimX X S):∀(l:List (M×XD)) (n:Nat) (k:List Sg->List Nat->Option β),Q1 X.roots l n k=some out ->
  ∃vs ids,k vs ids=some out/\∀rt:List (Nat×Root),(∀r∈ids,get rt r=get S.roots r)->Ab (fun (x:Nat×Nat×Nat) (o:Nat×List (List D))=>get rt x.1=some (.tr o.1 o.2)/\o.1=x.2.1/\o.2.length=x.2.2) (H8 (l.map Cy) n) (vs.map ioG)
 | [],n,k,h=>⟨[],[],h,fun rt _=>trivial⟩
 | (m,.lf c)::l,n,k,h=>by
  simp only[Q1]at h;obtain⟨vs,ids,h1,h2⟩:=Wf hS l n k h;refine⟨vs,ids,h1,fun rt hr=>?_⟩;have:H8 (((m,XD.lf c)::l).map Cy) n=H8 (l.map Cy) n:=by cases c<;>cases m<;>rfl
  rw[this];exact h2 rt hr
 | (m,.sl t xs)::l,n,k,h=>by
  simp only[Q1]at h;cases m with
  | io =>
   simp only at h;split at h
   ·rename_i s t' ys hl;obtain⟨ys',h,rfl,g3,g4⟩:=Vh h;obtain⟨hn,h⟩:=Dt h;simp only[nEq,decide_eq_true_eq]at hn;obtain⟨vs,ids,h1,h2⟩:=Wf hS l (n+1) _ h;refine⟨_,_,h1,fun rt hr=>?_⟩;obtain⟨y,y1,y2⟩:=hS.roots n s _ hl _ rfl;have hg:get S.roots n=some (.tr t'.n (ys.map (Ae t'))):=by
     cases y with
     | tr _ _=>obtain⟨rfl,rfl⟩:=y2;exact y1
     | _=>exact y2.elim
    refine⟨⟨?_,rfl, ?_⟩,h2 rt fun r hr'=>hr r (Kj _ hr')⟩
    ·simp only[ioG];rw[hr n Kp,hg,g3]
    simp only[ioG,Ko];exact hn
   simp at h
  | rx =>
   simp only at h;obtain⟨vs,ids,h1,h2⟩:=Wf hS l (n+1) k h;exact⟨vs,ids,h1,h2⟩
  | rd =>
   simp only at h;obtain⟨vs,ids,h1,h2⟩:=Wf hS l n k h;exact⟨vs,ids,h1,h2⟩
  | ow =>
   simp only at h;obtain⟨vs,ids,h1,h2⟩:=Wf hS l n k h;exact⟨vs,ids,h1,h2⟩
theorem Zo4 {R0 R:XRs}(hold:∀r z,lk R r=some (0,z)->lk R0 r=some (0,z)):∀(ms:List M) (ts:List Ty) (ds:List D) (es:List (Nat×XC)) (ps:List XC) (us ys:List C) (cs0:List XC),(∀(j:Nat) (m:M) (d:D) (ty:Ty),ms[j]? = some m->ds[j]? = some d->ts[j]? = some ty->Ej (m,d)=(match m,M3 ty with|.rx,true=>true|_,_=>false))->ms.length=ds.length->ds.length=ts.length ->
  La R ms ts es=some ps->Ab WkC us (cs0.map (cC R0))->us.length=ms.length->Ab WkC ys (es.map fun e=>cC R e.2)->(∀(c:Nat) (e:Nat×XC),es[c]? = some e->e.1=0->cs0[c]? = some e.2) ->
  Ih (ms.zip ds) us ys/\Ab WkC (D2 (ms.zip ds) ys) (ps.map (cC R))/\∀p∈ps,∃e∈es,e.2=p
 | [],[],[],es,ps,us,ys,cs0,_,_,_,h,hu,hul,hy,_=>by
  cases es with
  | cons e es=>simp [La]at h
  | nil =>
   simp only[La,Ka]at h;subst h;cases us with
   | cons _ _=>simp at hul
   | nil=>cases ys with
    | nil=>exact⟨trivial,trivial,by simp⟩
    | cons _ _=>exact hy.elim
 | m::ms,t::ts,d::ds,es,ps,us,ys,cs0,hr,h1,h2,h,hu,hul,hy,hc=>by
  cases es with
  | nil=>simp [La]at h
  | cons e es =>
   simp only[Kf,Kwe]at h1 h2 hul;cases us with
   | nil=>simp at hul
   | cons u us =>
   simp only[Kf,Kwe]at hul;cases cs0 with
   | nil=>exact hu.elim
   | cons c0 cs0 =>
   cases ys with
   | nil=>exact hy.elim
   | cons y ys =>
   have hr0:=hr 0 m d t rfl rfl rfl;have hr':∀(j:Nat) (m:M) (d:D) (ty:Ty),ms[j]? = some m->ds[j]? = some d->ts[j]? = some ty->Ej (m,d)=(match m,M3 ty with|.rx,true=>true|_,_=>false):=fun j m d ty a b c=>hr (j+1) m d ty (by simpa using a) (by simpa using b) (by simpa using c);have hc':∀(c:Nat) (e':Nat×XC),es[c]? = some e'->e'.1=0->cs0[c]? = some e'.2:=fun c e' he h0=>by simpa using hc (c+1) e' (by simpa using he) h0
   have stay:Ej (m,d)=true->(match Zqj R e with|true=>La R ms ts es|false=>none)=some ps->Ih ((m::ms).zip (d::ds)) (u::us) (y::ys)/\Ab WkC (D2 ((m::ms).zip (d::ds)) (y::ys)) (ps.map (cC R))/\∀p∈ps,∃e'∈e::es,e'.2=p:=by
    intro hx h;split at h
    ·rename_i hst;unfold Zqj at hst;split at hst
     ·rename_i r he1 he2;split at hst
      ·rename_i t0 xs0 hz;obtain⟨q1,q2,q3⟩:=Zo4 hold ms ts ds es ps us ys cs0 hr' h1 h2 h hu.2 hul hy.2 hc';have hc0:=hc 0 e rfl he1;simp only[Kv,Ka]at hc0;subst hc0;have hz0:=hold r _ hz;have e1:cC R0 e.2=.rf r [] t0.n 0 xs0.length:=by rw[he2];simp only[cC,hz0]
       have e2:cC R e.2=.rf r [] t0.n 0 xs0.length:=by rw[he2];simp only[cC,hz]
       have a1:u=.rf r [] t0.n 0 xs0.length:=by have:=hu.1;rw[e1]at this;exact this.eq (by simp)
       have a2:y=.rf r [] t0.n 0 xs0.length:=by have:=hy.1;simp only[e2]at this;exact this.eq (by simp)
       refine⟨?_, ?_,fun p hp=>by obtain⟨e',h1,h2⟩:=q3 p hp;exact⟨e',Kj _ h1,h2⟩⟩
       ·simp only[Khc,Ih];exact⟨fun _=>by rw[a1,a2],q1⟩
       simp only[Khc,D2,hx,if_true];exact q2
      simp at hst
     simp at hst
    simp at h
   have go:Ej (m,d)=false->(match La R ms ts es with|some cs=>some (e.2::cs)|none=>none)=some ps->Ih ((m::ms).zip (d::ds)) (u::us) (y::ys)/\Ab WkC (D2 ((m::ms).zip (d::ds)) (y::ys)) (ps.map (cC R))/\∀p∈ps,∃e'∈e::es,e'.2=p:=by
    intro hx h;split at h
    ·rename_i cs hp;simp only[Ka]at h;subst h;obtain⟨q1,q2,q3⟩:=Zo4 hold ms ts ds es cs us ys cs0 hr' h1 h2 hp hu.2 hul hy.2 hc';refine⟨?_, ?_, ?_⟩
     ·simp only[Khc,Ih];exact⟨fun h=>by rw[hx]at h;simp at h,q1⟩
     ·simp only[Khc,D2,hx,Kka,if_false];exact⟨hy.1,q2⟩
     intro p hp;rcases Kh.1 hp with rfl|hp
     ·exact⟨e,Kp,rfl⟩
     obtain⟨e',h1,h2⟩:=q3 p hp;exact⟨e',Kj _ h1,h2⟩
    simp at h
   cases m with
   | rx =>
    cases hT:M3 t with
    | true =>
     simp only[hT]at hr0;simp only[La,hT]at h;exact stay hr0 h
    | false =>
     simp only[hT]at hr0;simp only[La,hT]at h;exact go hr0 h
   | _=>simp only[La]at h;exact go hr0 h
 | [],_::_,ds,_,_,_,_,_,_,h1,h2,_,_,_,_,_=>by rw[<-h1]at h2;simp at h2
 | _::_,[],ds,_,_,_,_,_,_,h1,h2,_,_,_,_,_=>by rw[Ki]at h2;rw[h2]at h1;simp at h1
 | [],[],_::_,_,_,_,_,_,_,h1,_,_,_,_,_,_=>by simp at h1
 | _::_,_::_,[],_,_,_,_,_,_,h1,_,_,_,_,_,_=>by simp at h1
theorem Zo6 {R0:XRs}{X:XSt}{S:St}(hS:SimX X S) (hX:XOk X) (hold:∀r s z,lk X.roots r=some (s,z)->s<1->lk R0 r=some (s,z)) (hcold:∀r s cs,lk X.roots r=some (s,.bx cs)->∀(c:Nat) (e:Nat×XC),cs[c]? = some e->e.1<1->∃s0 cs0,lk R0 r=some (s0,.bx cs0)/\cs0[c]? = some e) :
  ∀(as:List GArg) (x:Tp (C3 as)) (us:List C) (cs:List XC) (b:Nat) (ps:List XC),okG as=true->us.length=(flat (Ay as x)).length->Ab (fun c y=>WkC c (cC R0 y)) us cs->(∀z∈Ev as cs b,lk R0 z.1=some z.2)->Wy X.roots as b=some ps ->
  ∃bxs,Ab (fun x ys=>Ih x.1 x.2 ys) (inB (Ay as x) us) bxs/\(∀(j:Nat) (ys:List C),bxs[j]? = some ys->get S.roots (b+j)=some (.bx ys))/\Ab WkC (((inB (Ay as x) us).zip bxs).flatMap fun x=>D2 x.1.1 x.2) (ps.map (cC X.roots))/\(∀p∈ps,okC X.roots X.next X.stamp p) /\
   ∀vb:List Sg,vb.map (·.1)=Gt as->((inB (Ay as x) us).zip bxs).map (fun x=>(D2 x.1.1 x.2).length)=(bxG as vb).map (·.length)
 | [],x,us,cs,b,ps,_,_,_,_,h=>by
  simp only[Wy,Ka]at h;subst h;exact⟨[],trivial,by simp,trivial,by simp,fun vb _=>rfl⟩
 | a::as,x,us,cs,b,ps,ho,hl,hw,hB,h=>by
  simp only[okG,Kd]at ho;have h1:=Kq ho.1.1;have hz:=Zj9 (x:=Tp.hd a.t _ x) h1;have hcell:(mkG a (Tp.hd a.t _ x)).cells=a.ms.zip (Ae a.t (Tp.hd a.t _ x)):=by simp only[mkG];cases a.ptr<;>rfl
  simp only[flat,Ay,Kxa,Kt,hcell,hz]at hl;have conv:∀{us:List C} {cs:List XC},Ab (fun c x=>WkC c (cC R0 x)) us cs->Ab WkC us (cs.map (cC R0)):=by
   intro us
   induction us with
   | nil=>intro cs h;cases cs<;>exact h
   | cons u us ih=>intro cs h;cases cs with
    | nil=>exact h.elim
    | cons c cs=>exact⟨h.1,ih h.2⟩
  have back:∀{us:List C} {cs:List XC},Ab WkC us (cs.map (cC R0))->Ab (fun c x=>WkC c (cC R0 x)) us cs:=by
   intro us
   induction us with
   | nil=>intro cs h;cases cs<;>exact h
   | cons u us ih=>intro cs h;cases cs with
    | nil=>exact h.elim
    | cons c cs=>exact⟨h.1,ih h.2⟩
  have hdrop:Ab (fun c x=>WkC c (cC R0 x)) (us.drop (A2 a.ms)) (cs.drop (A2 a.ms)):=by
   refine back ?_;rw[Kfb];exact Jg (conv hw)
  have htake:Ab WkC (us.take (A2 a.ms)) ((cs.take (A2 a.ms)).map (cC R0)):=by
   rw[Keb];exact Jz (conv hw)
  have hlen:(us.drop (A2 a.ms)).length=(flat (Ay as (Tp.tl a.t _ x))).length:=by
   rw[Kma,hl,flat];omega
  simp only[Wy]at h;cases hp:a.ptr with
  | false =>
   simp only[hp]at h;simp only[Ev,hp]at hB;obtain⟨bxs,q1,q2,q3,q4,q5⟩:=Zo6 hS hX hold hcold as (Tp.tl a.t _ x) _ _ b ps ho.2 hlen hdrop hB h;refine⟨bxs, ?_,q2, ?_,q4,fun vb hv=>?_⟩
   ·simp only[Ay,mkG,hp,inB,hz];exact q1
   ·simp only[Ay,mkG,hp,inB,hz];exact q3
   simp only[Gt,hp]at hv;simp only[Ay,mkG,hp,inB,hz,bxG];exact q5 vb hv
  | true =>
   simp only[hp]at h;simp only[Ev,hp]at hB;split at h
   ·rename_i s es hlk;split at h
    ·rename_i p1 p2 hpk hps;split at h
     ·rename_i hcnt;simp only[Ka]at h;subst h;obtain⟨hcnt,hnH⟩:=Bool.and_eq_true_iff.1 hcnt;have hcnt:=Kq hcnt;obtain⟨ys,g1,g2⟩:=P9 hS hlk;have hb0:=hB _ Kp;simp only at hb0;obtain⟨w1,w2,w3⟩:=Zo4 (R0:=R0) (R:=X.roots) (fun r z hz'=>hold r 0 z hz' (by omega)) a.ms (cts a.t) (Ae a.t (Tp.hd a.t _ x)) es p1 (us.take (A2 a.ms)) ys (cs.take (A2 a.ms))
       (fun j m d ty _ hd ht=>Zgh hnH hd ht) (by rw[Bu,<-h1,G4]) (by rw[Bu,So]) hpk htake (by rw[Kua,<-G4 a.ms];omega) g2 (by
        intro c e he h0;obtain⟨s0,cs0,k1,k2⟩:=hcold b s es hlk c e he (by omega);rw[hb0]at k1;simp only[Ka,Kb,XR.bx.injEq]at k1;rw[<-k1.2,Kba,Ks]at k2;obtain⟨c',k3,rfl⟩:=k2;exact k3)
      obtain⟨bxs,q1,q2,q3,q4,q5⟩:=Zo6 hS hX hold hcold as (Tp.tl a.t _ x) _ _ (b+1) p2 ho.2 hlen hdrop (fun z hz'=>hB z (Kj _ hz')) hps;refine⟨ys::bxs, ?_, ?_, ?_, ?_,fun vb hv=>?_⟩
      ·simp only[Ay,mkG,hp,inB,hz];exact⟨w1,q1⟩
      ·intro j zs hj;cases j with
       | zero=>simp only[Kv,Ka]at hj;subst hj;exact g1
       | succ j=>rw[show b+(j+1)=b+1+j by omega];exact q2 j zs (by simpa using hj)
      ·simp only[Ay,mkG,hp,inB,hz,Khc,Kxa,Kx];exact Nr w2 q3
      ·intro p hp';rcases Kca.1 hp' with hp'|hp'
       ·obtain⟨e,he,rfl⟩:=w3 p hp';exact (hX.box b s es hlk e he).2
       exact q4 p hp'
      simp only[Gt,hp]at hv;have hw2:=w2.length;rw[Ko]at hw2;simp only[Ay,mkG,hp,inB,hz,Khc,Ke,hw2,hcnt];cases hoo:a.o with
      | none =>
       simp only[hoo,Tn,H1]at hv;simp only[bxG,hp,hoo,Ke,Ki,Fg,q5 vb hv]
      | some t =>
       simp only[hoo,Tn,H1]at hv;cases vb with
       | nil=>simp at hv
       | cons v vb =>
        simp only[Ke,List.cons.injEq]at hv;simp only[bxG,hp,hoo,Ke,Fg,Gx,Bu,hv.1,q5 vb hv.2]
     simp at h
    simp at h
   simp at h
theorem Zgm {as:List GArg}{rs:List (Bool×Ty)}{x:Tp (C3 as)}{X:XSt}{S:St}{is:List I}{y:Tp (Fo as rs)}{E:List (Nat×Nat×XV)}(ho:okG as=true) (hX:XOk X) (hE:Ext ⟨E,(B5 as x).roots,(B5 as x).next,(B5 as x).stamp,(B5 as x).fix⟩ X) (hS:SimX X S) (h:Wk as rs x X is=some y):F6 S is fun xs=>Hz (Ay as x) (Mb as rs (Dz _ y)) S.roots (Fc xs):=by
 obtain⟨c1,c2,c3⟩:=Yp7 as x ho;unfold Wk at h;obtain⟨xs,ys,h,h1,h2,h3⟩:=Zfq hX hS is _ h;split at h
 ·rename_i ps hsh hps;split at h
  ·rename_i ids hids;split at h
   ·rename_i hnd;have hulen:(Ca (Ay as x)).1.length=(flat (Ay as x)).length:=by
     have key:∀(l:List (M×D)) (k:Kk),(Au l k).1.length=l.length:=by
      intro l
      induction l with
      | nil=>intro k;rfl
      | cons a l ih=>intro k;obtain⟨m,d⟩:=a;simp only[Au,Kf,ih]
     exact key _ _
    obtain⟨bxs,b1,b2,b3,b4,b5⟩:=Zo6 (R0:=(B5 as x).roots) hS hX (fun r s z hl hs=>hE.roots r s z hl hs) (fun r s cs hl c e he hs=>hE.cells r s cs hl c e he hs) as x _ _ _ ps ho hulen c1 c3 hps;have hcok:=Zev h2;obtain⟨vr,d0,d1,hd,h,hcr,htr⟩:=Zpe _ _ _ hcok h;split at h
    ·rw[Kw]at hd;subst hd;obtain⟨vio,ios,h,hio⟩:=Wf hS _ _ _ h;split at h
     ·rename_i hdj;obtain⟨vb,e0,e1,he,h,hcb,htb⟩:=Zpe _ _ _ b4 h;split at h
      ·rw[Kw]at he;subst he;obtain⟨y',hy,hsp⟩:=Zk3 _ _ _ h;simp only[Ka]at hy;subst hy;have hT:Fo as rs=Gj rs++(H9 as++Gt as):=by simp only[Fo,Zb]
       have htys:=Zqg _ y';rw[hsp,hT,Kx,Kx,htr,htb]at htys;have htio:vio.map (·.1)=H9 as:=by
        have:=List.append_cancel_left htys;exact List.append_cancel_right this
       have hrl:(Gj rs).length=rs.length:=by
        have key:∀rs:List (Bool×Ty),(Gj rs).length=rs.length:=by
         intro rs;induction rs with
         | nil=>rfl
         | cons r rs ih=>simp only[Gj,Kf,ih]
        exact key _
       have hvrl:vr.length=A2 rs:=by rw[G4,<-hrl,<-htr,Ko]
       have hviol:vio.length=A2 (H9 as):=by rw[G4,<-htio,Ko]
       have hout:Mb as rs (Dz _ y')=⟨Fb rs vr,vio.map ioG,bxG as vb⟩:=by
        simp only[Mb,hsp];rw[Ked hvrl,Kqc hvrl,Ked hviol,Kqc hviol]
       rw[hout]
       -- shapes
       have shape:∀(rs:List (Bool×Ty)) (vr:List Sg) (xs:List XA) (ys:List A),vr.map (·.1)=Gj rs->F8 rs xs=true->Ab WkA ys (xs.map (cA X.roots))->ys.map (fun x=>((Dn x).1,(Dn x).2.length))=(Fb rs vr).map (fun x=>(x.1,x.2.length))/\Ab WkC (ys.flatMap fun x=>(Dn x).2) ((H4 xs).map (cC X.roots)):=by
        intro rs
        induction rs with
        | nil =>
         intro vr xs ys _ hs hw;cases xs with
         | cons _ _=>simp [F8]at hs
         | nil=>cases ys with
          | cons _ _=>exact hw.elim
          | nil=>cases vr<;>exact⟨rfl,trivial⟩
        | cons r rs ih =>
         intro vr xs ys hv hs hw;obtain⟨ag,t⟩:=r;cases vr with
         | nil=>simp [Gj]at hv
         | cons v vr =>
          simp only[Ke,Gj,List.cons.injEq]at hv;have hn:(Gx v).length=t.n:=by rw[Gx,Bu,hv.1]
          cases xs with
          | nil=>cases ag<;>simp [F8]at hs
          | cons x xs =>
           cases ys with
           | nil=>exact hw.elim
           | cons z ys =>
            cases ag with
            | false=>cases x with
             | ag cs=>simp [F8]at hs
             | c c =>
              simp only[F8,Kd]at hs;obtain⟨a,b⟩:=ih vr xs ys hv.2 hs.2 hw.2;cases z with
              | ag _=>exact hw.1.elim
              | c z =>
               refine⟨?_,⟨hw.1,b⟩⟩;rw[Ke,a];simp only[Fb,Ke,Dn,hn,Kq hs.1,Kf,Ki]
            | true=>cases x with
             | c c=>simp [F8]at hs
             | ag cs =>
              simp only[F8,Kd]at hs;obtain⟨a,b⟩:=ih vr xs ys hv.2 hs.2 hw.2;cases z with
              | c z=>exact hw.1.elim
              | ag zs =>
               have hl:=Ab.length (show Ab WkC zs (cs.map (cC X.roots)) from hw.1);rw[Ko]at hl;refine⟨?_, ?_⟩
               ·rw[Ke,a];simp only[Fb,Ke,Dn,hn,hl,Kq hs.1]
               simp only[Kxa,Dn,H4,Kx];exact Nr hw.1 b
       obtain⟨s1,s2⟩:=shape rs vr xs ys htr hsh h1;obtain⟨rt,t1,t2⟩:=Xh hS _ _ ids S.roots (Ab.append hcr hcb) hids (Rb hnd) (fun _ _=>rfl);have k1:=Lw hcr s2;have k2:=Lw hcb b3;refine h3 _ ⟨ys,Zte ys,s1,bxs,b1, ?_,rt, ?_, ?_, ?_⟩
       ·intro j zs hj;rw[c2];exact b2 j zs hj
       ·rw[k1,k2,<-Kx,Zhm rs vr (by rw[hvrl,G4]),Zg as vb htb];exact t1
       ·exact b5 vb htb
       rw[<-Zet as x ho];refine hio rt fun r hr=>?_;rw[t2 r,if_neg (Vp hdj r hr)]
      simp at h
     simp at h
    simp at h
   simp at h
  simp at h
 simp at h
theorem Ytp {P:Program}(hm:P.follows .mixedOrders=true){f:FuncId}{fn:Func}{s:Stm}{is:List I}{Φ:List (Fx P)}{H:List (Nat×Hn)}{an:An}{as:List GArg}{rs:List (Bool×Ty)}(hf:P.funcs[f]? = some fn) (hb:(fn.body.bind (trC P fn.ntmps))=some s) (hi:Il P fn.results.toList=some is) (hn:Nat.ble as.length fn.ntmps=true) (ho:okG as=true)
  {x:Tp (C3 as)} {y:Tp (Fo as rs)} (h:fnG Φ H s an is as rs x=some y):Ir P f (Ay as x) (Mb as rs (Dz _ y)):=by
 obtain⟨c,hb,hs⟩:=Ze hb;obtain⟨h1,h2⟩:=Zne as x ho;have hl:(Ay as x).length=as.length:=by
  have key:∀(as:List GArg) (x:Tp (C3 as)),(Ay as x).length=as.length:=by
   intro as
   induction as with
   | nil=>intro x;rfl
   | cons a as ih=>intro x;simp only[Ay,Kf,ih]
  exact key _ _
 refine Zpt hf hb hs hi (by rw[hl];exact Kea hn) ?_;refine Jt hm s an h1 h2 h ?_;intro e X' S' g1 g2 g3 g4;cases e with
 | ret=>exact Zgm (E:=(B5 as x).env) ho g1 g2 g3 g4
 | normal=>exact Zgm (E:=(B5 as x).env) ho g1 g2 g3 g4
 | _=>simp at g4
end Go.Vs
namespace Go.Vs
variable [Glb]
end Go.Vs
namespace Go.Vs
variable [Glb]
open Go.ChangeShapes Go.WideShapes
def Zb0 (P:Program):Nat->List Field->Nat->Bool
 | o,[],tot=>o==tot
 | o,f::fs,tot=>f.offset==o&&Zb0 P (o+P.cellsOf f.type) fs tot
def good (P:Program):Nat->TypeId->Bool
 | 0,_=>false
 | n+1,t=>match P.underlying t with
  | some .bool=>true
  | some (.int _)=>true
  | some .string=>true
  | some (.slice e)=>good P n e&&decide (0<P.cellsOf e)
  | some (.struct fs)=>Zb0 P 0 fs.toList (P.cellsOf t)&&fs.toList.all fun f=>good P n f.type
  | _=>false
def DT (P:Program):Nat->TypeId->List D->Prop
 | 0,_,_=>False
 | n+1,t,ds=>match P.underlying t with
  | some .bool=>∃b,ds=[.lf (.bool b)]
  | some (.int k)=>∃z,ds=[.lf (.int k z)]/\(Lit.int k z).wf=true
  | some .string=>∃s:ByteArray,ds=[.lf (.string s)]/\s.size<=maxLen
  | some (.slice e)=>∃es,ds=[.sl (P.cellsOf e) es]/\es.length<=maxLen/\∀el∈es,DT P n e el
  | some (.struct fs)=>∃dss:List (List D),ds=dss.flatten/\Ab (fun (f:Field) x=>DT P n f.type x) fs.toList dss
  | _=>False
theorem Zvf {H:Type}{P:Program}{W:World}{cs:List Value}{n:Nat}{rd:TypeId->List Value->Option (DataW H×List MemPlace)}(ih:∀t vs x,good P n t=true->rd t vs=some x->∃ds,Ab (Lies W) ds vs/\DT P n t ds) :
  ∀(fs:List Field) (xs:List (DataW H×List MemPlace)) (o:Nat),xs.length=fs.length->(∀(i:Nat) (f:Field),fs[i]? = some f->rd f.type ((cs.drop f.offset).take (P.cellsOf f.type))=xs[i]?)->Zb0 P o fs cs.length=true->fs.all (fun f=>good P n f.type)=true ->
   ∃dss,Ab (Lies W) dss.flatten (cs.drop o)/\Ab (fun (f:Field) x=>DT P n f.type x) fs dss
 | [],xs,o,_,_,ht,_=>by
  simp only[Zb0,beq_iff_eq]at ht;subst ht;exact⟨[],by simp [Ab],trivial⟩
 | f::fs,xs,o,hl,hx,ht,hg=>by
  simp only[Zb0,Kd,beq_iff_eq]at ht;simp only[List.all_cons,Kd]at hg;cases xs with
  | nil=>simp at hl
  | cons x xs =>
   have h0:=hx 0 f rfl;simp only[Kv]at h0;rw[ht.1]at h0;obtain⟨d0,a1,a2⟩:=ih _ _ _ hg.1 h0;obtain⟨dss,b1,b2⟩:=Zvf ih fs xs (o+P.cellsOf f.type) (by simpa using hl) (fun i g hi=>by simpa using hx (i+1) g (by simpa using hi)) ht.2 hg.2;refine⟨d0::dss, ?_,a2,b2⟩;have e:cs.drop o=(cs.drop o).take (P.cellsOf f.type)++cs.drop (o+P.cellsOf f.type):=by
    rw[<-Kbd,Knc]
   rw[e,Kfd];exact Ab.append a1 b1
theorem Zn5 {H:Type}{enc:TypeId×Value->H}{P:Program}{W:World}:∀(n:Nat) (t:TypeId) (fuel:Nat) (cs:List Value) (x:DataW H×List MemPlace),good P n t=true->DataW.trod enc P W 0 (fun _=>true) true fuel t cs=some x->∃ds,Ab (Lies W) ds cs/\DT P n t ds
 | 0,t,fuel,cs,x,hg,h=>by simp [good]at hg
 | n+1,t,fuel,cs,x,hg,h=>by
  simp only[good]at hg;simp only[DT];cases hu:P.underlying t with
  | none=>simp [hu]at hg
  | some du =>
   cases du with
   | bool =>
    obtain⟨b,rfl,_⟩:=DataW.trod_bool hu h;exact⟨[.lf (.bool b)],⟨.lf _ rfl,trivial⟩,b,rfl⟩
   | int k =>
    obtain⟨z,rfl,_,hw⟩:=DataW.trod_int hu h;exact⟨[.lf (.int k z)],⟨.lf _ rfl,trivial⟩,z,rfl,hw⟩
   | string =>
    obtain⟨s,rfl,_,hs⟩:=DataW.trod_string hu h;exact⟨[.lf (.string s)],⟨.lf _ rfl,trivial⟩,s,rfl,hs⟩
   | slice e =>
    simp only[hu,Kd,decide_eq_true_eq]at hg;obtain⟨hge,hsz⟩:=hg;rcases DataW.trod_slice hu h with ⟨rfl,_⟩|⟨a,len,cap,elems,rest,m,_,rfl,_,_,hlc,hcm,hel,hE,hR,_⟩
    ·exact⟨[.sl (P.cellsOf e) []],⟨.nil _ none,trivial⟩,[],rfl,Kda _,by simp⟩
    by_cases hcap:cap=0
    ·subst hcap;have:len=0:=by omega
     subst this;exact⟨[.sl (P.cellsOf e) []],⟨.nil _ _,trivial⟩,[],rfl,Kda _,by simp⟩
    have get:∀i,i<len->∃ecs y,W.cells? 0 (a.add (i*P.cellsOf e)) (P.cellsOf e)=some ecs/\DataW.trod enc P W 0 (fun _=>true) true m e ecs=some y:=by
     intro i hi;have h1:=hE i hi;rw[Ku (by omega)]at h1;simp only[Kg]at h1;obtain⟨ecs,h2,h3⟩:=h1;exact⟨ecs,_,h2,h3⟩
    have hspot:a.spot=none:=by
     have:∃ecs,W.cells? 0 (a.add (0*P.cellsOf e)) (P.cellsOf e)=some ecs:=by
      by_cases h0:0<len
      ·obtain⟨ecs,_,h2,_⟩:=get 0 h0;exact⟨ecs,h2⟩
      have hl0:len=0:=by omega
      subst hl0;obtain⟨hr1,hr2⟩:=hR rfl;have h1:=hr2 0 (by omega);rw[Ku (by omega)]at h1;simp only[Kg]at h1;obtain⟨ecs,h2,_⟩:=h1;exact⟨ecs,by simpa using h2⟩
     obtain⟨ecs,h2⟩:=this;have h3:=(World.cells?_some h2).2.2 0 hsz;have h4:=(World.cells?_some h2).2.1;rw[Ku (by omega)]at h3;have:=World.cell?_spot h3;simpa [Addr.add] using this
    obtain⟨b,off,spot⟩:=a;simp only at hspot;subst hspot;have each:∀i,i<len->∃(ds:List D) (ecs:List Value),Ab (Lies W) ds ecs/\DT P n e ds/\ecs.length=P.cellsOf e/\∀c v,ecs[c]? = some v->W.cell? ⟨b,off+(i*P.cellsOf e+c),none⟩=some v:=by
     intro i hi;obtain⟨ecs,y,h1,h2⟩:=get i hi;obtain⟨ds,h3,h4⟩:=Zn5 n e m ecs y hge h2;obtain⟨_,h5,h6⟩:=World.cells?_some h1;refine⟨ds,ecs,h3,h4,h5,fun c v hc=>?_⟩;have hlt:c<P.cellsOf e:=by rw[<-h5];exact (Kfa.1 hc).1
     have:=h6 c hlt;rw[hc,add_plain,add_plain,Kgb]at this;exact this
    let fd:Nat->List D:=fun i=>if hi:i<len then Classical.choose (each i hi) else []
    let fv:Nat->List Value:=fun i=>if hi:i<len then Classical.choose (Classical.choose_spec (each i hi)) else []
    have spec:∀i (hi:i<len),Ab (Lies W) (fd i) (fv i)/\DT P n e (fd i)/\(fv i).length=P.cellsOf e/\∀c v,(fv i)[c]? = some v->W.cell? ⟨b,off+(i*P.cellsOf e+c),none⟩=some v:=by
     intro i hi;have:=Classical.choose_spec (Classical.choose_spec (each i hi));simp only[fd,fv,dif_pos hi];exact this
    have hget:∀i el,((List.range len).map fd)[i]? = some el->i<len/\el=fd i:=by
     intro i el h1;simp only[Kba,Ks]at h1;obtain⟨j,h2,rfl⟩:=h1;have hi:i<len:=by
      have:=(Kfa.1 h2).1;simpa using this
     rw[Kpd hi]at h2;simp only[Ka]at h2;subst h2;exact⟨hi,rfl⟩
    have hmem:∀el∈(List.range len).map fd,∃i,i<len/\el=fd i:=by
     intro el hm;obtain⟨i,hi,rfl⟩:=Ky.1 hm;exact⟨i,by simpa using hi,rfl⟩
    have key:=Lies.sl (W:=W) (P.cellsOf e) ((List.range len).map fd) b off cap (fun i c=>((fv i)[c]?).getD undef) (by simpa using hlc) ?_ ?_ ?_
    ·rw[Ko,Kif]at key;refine⟨[.sl (P.cellsOf e) ((List.range len).map fd)],⟨key,trivial⟩,_,rfl,by simp;omega, ?_⟩;intro el hm;obtain⟨i,hi,rfl⟩:=hmem el hm;exact (spec i hi).2.1
    ·intro el hm;obtain⟨i,hi,rfl⟩:=hmem el hm;rw[(spec i hi).1.length,(spec i hi).2.2.1]
    ·intro i c el d h1 h2;obtain⟨hi,rfl⟩:=hget i el h1;have hlt:c<(fv i).length:=by rw[<-(spec i hi).1.length];exact (Kfa.1 h2).1
     rw[Ku hlt];exact (spec i hi).2.2.2 c _ (Ku hlt)
    intro i c el d h1 h2;obtain⟨hi,rfl⟩:=hget i el h1;obtain⟨v,h3,h4⟩:=(spec i hi).1.get c d h2;rw[h3];exact h4
   | struct fs =>
    simp only[hu,Kd]at hg;obtain⟨xs,m,rfl,_,hl,hx,hall⟩:=DataW.trod_struct hu h;obtain⟨dss,a1,a2⟩:=Zvf (W:=W) (cs:=cs) (n:=n) (rd:=DataW.trod enc P W 0 (fun _=>true) true m) (fun t vs x g h=>Zn5 n t m vs x g h) fs.toList xs 0 (by simpa using hx) (fun i f hi=>hall i f (by simpa using hi)) (by rw[hl];exact hg.1) hg.2;exact⟨dss.flatten,a1,dss,rfl,a2⟩
   | _=>simp [hu]at hg
end Go.Vs
namespace Go.Vs
variable [Glb]
noncomputable def sOf (P:Program) (fn:Func):Stm:=(fn.body.bind (trC P fn.ntmps)).getD .skip
noncomputable def iOf (P:Program) (fn:Func):List I:=(Il P fn.results.toList).getD []
def okF (P:Program) (fn:Func) (n:Nat) (ok:Bool):Bool:=match fn.body.bind (trC P fn.ntmps),Il P fn.results.toList with
 | some _,some _=>Nat.ble n fn.ntmps&&ok
 | _,_=>false
section
variable {P:Program} {f:FuncId} {fn:Func} {Φ:List (Fx P)} {H:List (Nat×Hn)} {an:An}
theorem Zg2 (hm:P.follows .mixedOrders=true){n:Nat}{ok:Bool}(h:okF P fn n ok=true):(fn.body.bind (trC P fn.ntmps))=some (sOf P fn)/\Il P fn.results.toList=some (iOf P fn)/\Nat.ble n fn.ntmps=true/\ok=true:=by
 unfold okF at h;split at h
 ·rename_i s is h1 h2;simp only[Kd]at h;exact⟨by rw[sOf,h1];rfl,by rw[iOf,h2];rfl,h.1,h.2⟩
 simp at h
theorem Ytr (hm:P.follows .mixedOrders=true){args rs:List (Bool×Ty)}{F:Tp (args.map (·.2))->Option (Tp (rs.map (·.2)))}(hf:P.funcs[f]? = some fn) (hk:okF P fn args.length (Tl args)=true) (h:∀x,fnX Φ H (sOf P fn) an (iOf P fn) args rs x=F x) (x:Tp (args.map (·.2))) (y:Tp (rs.map (·.2))) (hy:F x=some y):Ir P f ((Bt args x).map Cb) ⟨Bt rs y,[],[]⟩:=by
 obtain⟨a,b,c,d⟩:=Zg2 hm hk;exact Yto (N:=0) hm hf a b c d ((h x).trans hy)
theorem Ytm (hm:P.follows .mixedOrders=true){as:List GArg}{rs:List (Bool×Ty)}{F:Tp (C3 as)->Option (Tp (Fo as rs))}(hf:P.funcs[f]? = some fn) (hk:okF P fn as.length (okG as)=true) (h:∀x,fnG Φ H (sOf P fn) an (iOf P fn) as rs x=F x) (x:Tp (C3 as)) (y:Tp (Fo as rs)) (hy:F x=some y):Ir P f (Ay as x) (Mb as rs (Dz _ y)):=by
 obtain⟨a,b,c,d⟩:=Zg2 hm hk;exact Ytp hm hf a b c d ((h x).trans hy)
end
def Sy (fit:TypeId->Ty->Bool):List Field->Ty->Bool
 | [],_=>false
 | [f],T=>fit f.type T
 | f::fs,.P a b=>fit f.type a&&Sy fit fs b
 | _,_=>false
def Qm (P:Program):Nat->TypeId->Ty->Bool
 | 0,_,_=>false
 | n+1,t,T=>match P.underlying t with
  | some .bool=>match T with
   | .B=>true
   | _=>false
  | some (.int k)=>match T with
   | .Y=>decide (k=.u8)
   | .I k'=>decide (k=k')
   | _=>false
  | some .string=>match T with
   | .S=>true
   | _=>false
  | some (.slice e)=>match T with
   | .L T=>Nat.beq (P.cellsOf e) T.n&&Qm P n e T
   | _=>false
  | some (.struct fs)=>Sy (Qm P n) fs.toList T
  | _=>false
def okT:(T:Ty)->T.den->Prop
 | .I k,z=>(Lit.int k z).wf=true
 | .S,l=>l.length<=maxLen
 | .L t,xs=>xs.length<=maxLen/\∀x∈xs,okT t x
 | .P a b,x=>okT a x.1/\okT b x.2
 | _,_=>True
theorem Zve {P:Program}{n:Nat}(ih:∀t T ds,Qm P n t T=true->DT P n t ds->∃x:T.den,ds=Ae T x/\okT T x):∀(fs:List Field) (T:Ty) (dss:List (List D)),Sy (Qm P n) fs T=true->Ab (fun (f:Field) x=>DT P n f.type x) fs dss->∃x:T.den,dss.flatten=Ae T x/\okT T x
 | [],T,dss,h,_=>by simp [Sy]at h
 | [f],T,dss,h,ha=>by
  cases dss with
  | nil=>exact ha.elim
  | cons d dss =>
   cases dss with
   | cons _ _=>exact ha.2.elim
   | nil =>
    simp only[Sy]at h;obtain⟨x,h1,h2⟩:=ih _ _ _ h ha.1;exact⟨x,by simp [h1],h2⟩
 | f::g::fs,T,dss,h,ha=>by
  cases T with
  | P a b =>
   simp only[Sy,Kd]at h;cases dss with
   | nil=>exact ha.elim
   | cons d dss =>
    obtain⟨x,h1,h2⟩:=ih _ _ _ h.1 ha.1;obtain⟨y,h3,h4⟩:=Zve ih (g::fs) b dss h.2 ha.2;exact⟨(x,y),by simp only[Kfd,h1,h3,Ae],h2,h4⟩
  | _=>simp [Sy]at h
theorem Zxy {α:Type}{p:α->Prop}{e:α->List D}:∀(es:List (List D)),(∀el∈es,∃x,el=e x/\p x)->∃xs:List α,es=xs.map e/\∀x∈xs,p x
 | [],_=>⟨[],rfl,by simp⟩
 | el::es,h=>by
  obtain⟨x,h1,h2⟩:=h el Kp;obtain⟨xs,h3,h4⟩:=Zxy es fun el hel=>h el (Kj _ hel);exact⟨x::xs,by rw[Ke,h1,h3],fun y hy=>by rcases Kh.1 hy with rfl|hy;exact h2;exact h4 y hy⟩
theorem Zlf {P:Program}:∀(n:Nat) (t:TypeId) (T:Ty) (ds:List D),Qm P n t T=true->DT P n t ds->∃x:T.den,ds=Ae T x/\okT T x
 | 0,t,T,ds,h,_=>by simp [Qm]at h
 | n+1,t,T,ds,h,hd=>by
  unfold Qm at h;unfold DT at hd;split at h
  ·rename_i hu;simp only[hu]at hd;cases T<;>simp at h
   obtain⟨b,rfl⟩:=hd;exact⟨b,rfl,trivial⟩
  ·rename_i k hu;simp only[hu]at hd;obtain⟨z,rfl,hz⟩:=hd;cases T with
   | Y =>
    simp only[decide_eq_true_eq]at h;subst h;refine⟨u8 z, ?_,trivial⟩;have hz':0<=z/\z<256:=by
     simp only[Lit.wf,Kd,decide_eq_true_eq]at hz;have h0:IntKind.u8.min=0:=rfl;have h1:IntKind.u8.max=255:=rfl;omega
    simp only[Ae,u8];congr 1;congr 1;congr 1;rw[UInt8.toNat_ofNat',Kpc (by omega)];omega
   | I k' =>
    simp only[decide_eq_true_eq]at h;subst h;exact⟨z,rfl,hz⟩
   | _=>simp at h
  ·rename_i hu;simp only[hu]at hd;cases T<;>simp at h
   obtain⟨s,rfl,hs⟩:=hd;refine⟨s.data.toList,by simp [Ae], ?_⟩;show s.data.toList.length<=maxLen;rw[Ksb];exact hs
  ·rename_i e hu;simp only[hu]at hd;cases T with
   | L T =>
    simp only[Kd]at h;obtain⟨es,rfl,hl,he⟩:=hd;obtain⟨xs,rfl,hx⟩:=Zxy (e:=Ae T) (p:=okT T) es fun el hel=>Zlf n e T el h.2 (he el hel);exact⟨xs,by simp only[Ae];rw[Kq h.1],by simpa using hl,hx⟩
   | _=>simp at h
  ·rename_i fs hu;simp only[hu]at hd;obtain⟨dss,rfl,ha⟩:=hd;exact Zve (fun t T ds=>Zlf n t T ds) fs.toList T dss h ha
  simp at h
theorem Yrd {H:Type}{enc:TypeId×Value->H}{P:Program}{W:World}{base n:Nat}{t:TypeId}{v:Value}{d:DataW H}{ps:List MemPlace}(ag:Bool) (T:Ty) (hg:good P n t=true) (hf:Qm P n t T=true) (ha:(match P.underlying t with|some (.struct _)=>ag|some (.slice _)=>!ag|some (.int _)=>!ag|some .bool=>!ag|some .string=>!ag|_=>false)=true)
  (hval:Value.okWide P W .any base t v) (h:DataW.Trod enc P W 0 (fun _=>true) true t v d ps):∃x:T.den,J0 W (ag,Ae T x) v/\okT T x:=by
 obtain⟨fuel,hh⟩:=h;obtain⟨ds,h1,h2⟩:=Zn5 n t fuel _ _ hg hh;obtain⟨x,rfl,hx⟩:=Zlf n t T ds hf h2;refine⟨x, ?_,hx⟩;have one:ag=false->v.cells=#[v]->J0 W (ag,Ae T x) v:=by
  intro e hv;subst e;simp only[J0,Kka,if_false];rw[hv]at h1;cases hd:Ae T x with
  | nil=>rw[hd]at h1;exact h1.elim
  | cons d ds =>
   rw[hd]at h1;cases ds with
   | nil=>exact⟨d,rfl,h1.1⟩
   | cons _ _=>exact h1.2.elim
 split at ha
 ·rename_i fs hu;subst ha;obtain⟨cs,rfl,_⟩:=WideShapes.okWide_struct hu hval;simp only[J0,if_true];exact⟨cs.toList,by simp,by simpa [Value.cells] using h1⟩
 ·rename_i e hu;obtain⟨a,l,c,rfl⟩:=WideShapes.okWide_slice hu hval;exact one (by simpa using ha) rfl
 ·rename_i k hu;obtain⟨a,rfl⟩:=WideShapes.okWide_int hu hval;exact one (by simpa using ha) rfl
 ·rename_i hu;obtain⟨a,rfl⟩:=WideShapes.okWide_bool hu hval;exact one (by simpa using ha) rfl
 ·rename_i hu;obtain⟨a,rfl⟩:=WideShapes.okWide_string hu hval;exact one (by simpa using ha) rfl
 simp at ha
end Go.Vs
namespace Go.Vs
variable [Glb]
noncomputable section
theorem Mn {n:Int}(h1:-9223372036854775808<=n) (h2:n<9223372036854775808):IntKind.i64.wrap n=n:=by
 have e1:IntKind.i64.bits=64:=rfl;have e2:IntKind.i64.signed=true:=rfl;simp only[IntKind.wrap,e1,e2,Kec,Nat.reduceSub,decide_eq_true_eq];have e3:((2:Int)^64)=18446744073709551616:=by decide
 have e4:((2:Int)^63)=9223372036854775808:=by decide
 rw[e3,e4];by_cases h:0<=n
 ·have:n%18446744073709551616=n:=Kug h (by omega);rw[this,if_neg (by omega)]
 have:n%18446744073709551616=n+18446744073709551616:=by omega
 rw[this,if_pos (by omega)];omega
theorem Cz {a b:Int}(h1:-9223372036854775808<=a+b) (h2:a+b<9223372036854775808):Aj .i64 a b=a+b:=Mn h1 h2
theorem Ei {a b:Int}(h1:-9223372036854775808<=a-b) (h2:a-b<9223372036854775808):Ba .i64 a b=a-b:=Mn h1 h2
theorem Zwn {a b:Int}(h1:-9223372036854775808<=a*b) (h2:a*b<9223372036854775808):Dd .i64 a b=a*b:=Mn h1 h2
theorem Ta {i n:Nat}(h:i+n<9223372036854775808):Aj .i64 (i:Int) (n:Int)=((i+n:Nat):Int):=by
 rw[Cz (by omega) (by omega)];omega
theorem C4 {i:Nat}(h:i<9223372036854775807):Aj .i64 (i:Int) 1=((i+1:Nat):Int):=Ta (n:=1) (by omega)
@[simp] theorem G5 (i:Nat):nOf (i:Int)=i:=by simp [nOf]
@[simp] theorem Tc {α:Type} (xs:List α) (i:Nat):idx xs (i:Int)=xs[i]?:=by simp [idx]
@[simp] theorem Zad {α:Type} (xs:List α) (i:Nat):idx xs (Int.ofNat i)=xs[i]?:=Tc xs i
theorem Bp {α:Type}{xs:List α}{i:Nat}(h:i<xs.length):idx xs (i:Int)=some xs[i]:=by rw[Tc,Ku h]
@[simp] theorem Aa {α β:Type} (x:α) (f:α->Option β):bnd (some x) f=f x:=rfl
@[simp] theorem Az {β:Type} (k:Option β):chk true k=k:=rfl
@[simp] theorem Ad {β:Type} (x y:Option β):cnd true x y=x:=rfl
@[simp] theorem Ac {β:Type} (x y:Option β):cnd false x y=y:=rfl
@[simp] theorem Ar {σ ρ:Type} (s:σ) (f:σ->Option ρ):Ao (some (.inl s)) f=f s:=rfl
@[simp] theorem L4 {σ ρ:Type} (r:ρ) (f:σ->Option ρ):Ao (some (.inr r)) f=some r:=rfl
@[simp] theorem Ysc {σ ρ:Type} (r:ρ):Mc (σ:=σ) (some r)=some (.inr r):=rfl
@[simp] theorem Yyp {α:Type} (x y:α):Zh6 true x y=x:=rfl
@[simp] theorem Yyo {α:Type} (x y:α):Zh6 false x y=y:=rfl
@[simp] theorem V9 (a:Int):iEq a a=true:=by simp [iEq]
@[simp] theorem Oq (a:Int):iNe a a=false:=by simp [iNe]
@[simp] theorem Yyn (a:List UInt8):sEq a a=true:=by simp [sEq]
@[simp] theorem Yyk (a:Bool):bNe a a=false:=by simp [bNe]
@[simp] theorem Av:Ag true=false:=rfl
@[simp] theorem A5:Ag false=true:=rfl
@[simp] theorem Yrw (a:Nat):nEq a a=true:=by simp [nEq]
theorem A3 {a b:Int}(h:a<b):iLt a b=true:=by simp [iLt,h]
theorem A6 {a b:Int}(h:b<=a):iLt a b=false:=by simp [iLt];omega
theorem Dq {a b:Int}(h:b<a):iGt a b=true:=by simp [iGt,h]
theorem Eb {a b:Int}(h:a<=b):iGt a b=false:=by simp [iGt];omega
theorem G0 {a b:Int}(h:a<=b):iLe a b=true:=by simp [iLe,h]
theorem K5 {a b:Int}(h:b<a):iLe a b=false:=by simp [iLe];omega
theorem Qz {a b:Int}(h:b<=a):iGe a b=true:=by simp [iGe,h]
theorem Oo {a b:Int}(h:a<b):iGe a b=false:=by simp [iGe];omega
theorem Dp {a b:Int}(h:a≠b):iEq a b=false:=by simp [iEq,h]
theorem Iz {a b:Int}(h:a≠b):iNe a b=true:=by simp [iNe,h]
theorem Bj {n sz:Nat}(h:n*sz<=140737488355328):A0 n sz=true:=by simp [A0,h]
@[simp] theorem Ak {α:Type} (xs:List α):Ah xs=(xs.length:Int):=rfl
@[simp] theorem Yym {α:Type} (l:List α) (n:Nat) (x:α):(Bq l n x).length=l.length:=by simp [Bq]
@[simp] theorem Yyl {α:Type} (l:List α) (n:Nat) (x y:α):Bq (Bq l n x) n y=Bq l n y:=by simp [Bq]
theorem M7 {σ ρ:Type}{step:σ->Option (σ ⊕ ρ)}(inv:Nat->σ->Prop) (n:Nat) (Q:ρ->Prop) (hs:∀i s,i<n->inv i s->(∃s',step s=some (.inl s')/\inv (i+1) s')\/∃r,step s=some (.inr r)/\Q r) (he:∀s,inv n s->∃r,step s=some (.inr r)/\Q r) (s0:σ) (h0:inv 0 s0):∃r,Aw step s0=some r/\Q r:=by
 have key:∀k i s,n-i=k->i<=n->inv i s->∃r,Aw step s=some r/\Q r:=by
  intro k
  induction k with
  | zero =>
   intro i s hk hi h;have:i=n:=by omega
   subst this;obtain⟨r,h1,h2⟩:=he s h;exact⟨r,by rw[M6,h1],h2⟩
  | succ k ih =>
   intro i s hk hi h;rcases hs i s (by omega) h with ⟨s',h1,h2⟩|⟨r,h1,h2⟩
   ·obtain⟨r,h3,h4⟩:=ih (i+1) s' (by omega) (by omega) h2;exact⟨r,by rw[M6,h1];exact h3,h4⟩
   exact⟨r,by rw[M6,h1],h2⟩
 exact key n 0 s0 (by omega) (by omega) h0
theorem I3 {σ ρ:Type}{step:σ->Option (σ ⊕ ρ)}(st:Nat->σ) (n:Nat) (r:ρ) (hs:∀i,i<n->step (st i)=some (.inl (st (i+1)))) (he:step (st n)=some (.inr r)) (s0:σ) (h0:s0=st 0):Aw step s0=some r:=by
 obtain⟨r',h1,h2⟩:=M7 (step:=step) (fun i s=>s=st i) n (fun x=>x=r) (fun i s hi h=>.inl ⟨_,by rw[h];exact hs i hi,rfl⟩) (fun s h=>⟨r,by rw[h];exact he,rfl⟩) s0 h0;rw[h1,h2]
def SzR (o:Option Int) (k:Int) (P:Prop):Prop:=∃z,o=some z/\z<=k/\(0<=z->P)
theorem SzR.done {k:Int}:SzR (some k) k True:=⟨k,rfl,Koc _,fun _=>trivial⟩
theorem SzR.mono {o:Option Int}{k k':Int}{P Q:Prop}(h:SzR o k P) (hk:k<=k') (hp:P->Q):SzR o k' Q:=by
 obtain⟨z,a,b,c⟩:=h;exact⟨z,a,by omega,fun h=>hp (c h)⟩
theorem SzR.sub {α:Type}{l:List α}{k:Int}{rest:Option Int}{P:Prop}(h0:0<=k) (hk:k<=4611686018427387904) (hl:l.length<=9223372036854775807) (h:(l.length:Int)<=k->SzR rest (k-l.length) P):SzR (cnd (iLt (Ba .i64 k (Ah l)) 0) (some (-1)) rest) k ((l.length:Int)<=k/\P):=by
 have e:Ba .i64 k (Ah l)=k-l.length:=Ei (by simp only[Ak];omega) (by simp only[Ak];omega);rw[e];by_cases hh:(l.length:Int)<=k
 ·rw[A6 (by omega)];obtain⟨z,a,b,c⟩:=h hh;exact⟨z,a,by omega,fun h=>⟨hh,c h⟩⟩
 rw[A3 (by omega)];exact⟨-1,rfl,by omega,fun h=>by omega⟩
theorem SzR.seq {o:Option Int}{k:Int}{P Q:Prop}{f:Int->Option Int}(h0:0<=k) (h:SzR o k P) (hf:∀z,0<=z->z<=k->SzR (f z) z Q):SzR (bnd o fun z=>cnd (iLt z 0) (some (-1)) (f z)) k (P/\Q):=by
 obtain⟨z,rfl,b,c⟩:=h;simp only[Aa];by_cases hz:0<=z
 ·rw[A6 hz];obtain⟨y,d,e,g⟩:=hf z hz b;exact⟨y,d,by omega,fun h=>⟨c hz,g h⟩⟩
 rw[A3 (by omega)];exact⟨-1,rfl,by omega,fun h=>by omega⟩
theorem SzR.one {o:Option Int}{k:Int}{P:Prop}(h0:0<=k) (h:SzR o k P):SzR (bnd o fun z=>cnd (iLt z 0) (some (-1)) (some z)) k P:=by
 obtain⟨z,rfl,b,c⟩:=h;simp only[Aa];by_cases hz:0<=z
 ·rw[A6 hz];exact⟨z,rfl,b,c⟩
 rw[A3 (by omega)];exact⟨-1,rfl,by omega,fun h=>by omega⟩
end
end Go.Vs
namespace Go.Vs
variable [Glb]
section
variable {w0:World} {own0:Nat->Nat->Prop} {pl0:Pls} {g:Lab} {pl:Pls} {roots:List (Nat×Root)} {nx nc fix:Nat} {w:World}
def lbl (g:Lab):Nat->Nat->Prop:=fun b o=>∃x,g b o=some x
theorem Dj.into {st st':Nat->Nat->Prop}{r:Nat}{x:Root}(hs:∀b o,st b o->st' b o) (h:Dj st w g pl nc r x):Dj st' w g pl nc r x:=by
 cases x with
 | tr sz es=>exact h
 | im sz es=>exact fun p n hn=>⟨(h p n hn).1,fun j hj=>hs _ _ ((h p n hn).2 j hj)⟩
 | bx cs=>exact h
 | ib cs=>intro c x hx;obtain⟨v,a,b,d⟩:=h c x hx;exact⟨v,a,b,hs _ _ d⟩
theorem Hp.into (h:Hp w0 own0 pl0 g pl roots nx nc fix w):Hp w (lbl g) pl g pl roots nx nc fix w:=by
 refine⟨Fr.refl w (lbl g) fun b o v hv=>?_,fun b o x hx=>⟨(h.lab b o x hx).1,.inr ⟨x,hx⟩,(h.lab b o x hx).2.2⟩,fun _ _ _=>rfl,h.fixle,h.ncle,fun r x hx=>⟨(h.roots r x hx).1,(h.roots r x hx).2.into fun b o hst=>?_⟩⟩
 ·obtain⟨h1,h2,h3⟩:=h.fr.gl b o v hv;refine⟨Kz h1 h.fr.size, ?_,h.fr.glb hv⟩;rintro ⟨x,hx⟩;rcases (h.lab b o x hx).2.1 with k|k
  ·omega
  exact h2 k
 refine⟨Kz hst.1 h.fr.size, ?_⟩;rintro ⟨x,hx⟩;rcases (h.lab b o x hx).2.1 with k|k
 ·have:=hst.1;omega
 exact hst.2 k
def Yea (roots:List (Nat×Root)):Prop:=∀r x,get roots r=some x->(∃sz es,x=.tr sz es)\/∃cs,x=.bx cs
theorem Hp.back {g':Lab}{pl':Pls}{roots':List (Nat×Root)}{nx' nc':Nat}{w':World}(h:Hp w0 own0 pl0 g pl roots nx nc fix w) (k:Hp w (lbl g) pl g' pl' roots' nx' nc' fix w') (hno:Yea roots'):Hp w0 own0 pl0 g' pl' roots' nx' nc' fix w':=by
 have own:∀b o,lbl g b o->w0.heap.size<=b\/own0 b o:=fun b o ⟨x,hx⟩=>(h.lab b o x hx).2.1;refine⟨⟨k.fr.os.trans h.fr.os,k.fr.tape.trans h.fr.tape,k.fr.output.trans h.fr.output,Kla h.fr.size k.fr.size, ?_, ?_,h.fr.gl⟩, ?_,fun r p hr=>by rw[k.fixed r p hr,h.fixed r p hr],k.fixle,k.ncle, ?_⟩
 ·intro b hb ho;have hb':=Kz hb h.fr.size;rw[k.fr.block b hb' fun o q=>?_,h.fr.block b hb ho];rcases own b o q with q|q
  ·omega
  exact ho o q
 ·intro b o hb ho;have hb':=Kz hb h.fr.size;have hno:¬lbl g b o:=fun q=>by
   rcases own b o q with q|q
   ·omega
   exact ho q
  obtain⟨e1,e2⟩:=k.fr.cell b o hb' hno;obtain⟨e3,e4⟩:=h.fr.cell b o hb ho;exact⟨e1.trans e3,e2.trans e4⟩
 ·intro b o x hx;obtain⟨a,b',c⟩:=k.lab b o x hx;refine⟨a, ?_,c⟩;rcases b' with q|q
  ·exact .inl (Kla h.fr.size q)
  exact own b o q
 intro r x hx;obtain⟨a,b⟩:=k.roots r x hx;refine⟨a, ?_⟩;rcases hno r x hx with ⟨sz,es,rfl⟩|⟨cs,rfl⟩
 ·exact b
 exact b
end
end Go.Vs
namespace Go.Vs
variable [Glb]
end Go.Vs
namespace Go.Vs
variable [Glb]
section
variable {P:Program} {N:Nat} {Φ:List (Fx P)} {H:List (Nat×Hn)}
end
theorem Yf8 (s:ByteArray) (p:Nat) (h:p<s.size):1<=(Utf8.decode s p).2:=by
 by_cases ha:(s[p]'h).toNat<128
 ·rw[decode_ascii s p h ha];exact Kc _
 exact (decode_high s p h (by omega)).2
def Zhs:Nat->ByteArray->Nat->List Int
 | 0,_,_=>[]
 | n+1,s,p=>if p<s.size then Ai .i64 ((Utf8.decode s p).1:Int)::Zhs n s (p+(Utf8.decode s p).2) else []
def Y2 (s:ByteArray) (p:Nat) (ns:List Int):Prop:=(∀n,Zhs (n+ns.length) s 0=ns++Zhs n s p)/\ns.length<=p/\ns.length<=s.size
theorem Y2.start (s:ByteArray):Y2 s 0 []:=⟨fun n=>rfl,Kc _,Kda _⟩
theorem Y2.step {s:ByteArray}{p:Nat}{ns:List Int}(h:Y2 s p ns) (hp:p<s.size):Y2 s (p+(Utf8.decode s p).2) (ns++[Ai .i64 ((Utf8.decode s p).1:Int)]):=by
 obtain⟨h1,h2,h3⟩:=h;have hk:=Yf8 s p hp;refine⟨fun n=>?_, ?_, ?_⟩
 ·rw[Kt,Kf,Ki,show n+(ns.length+(0+1))=(n+1)+ns.length by omega,h1,Kva];simp only[Zhs,if_pos hp,Kn,Km]
 ·rw[Kt,Kf,Ki];omega
 rw[Kt,Kf,Ki];omega
section
variable {P:Program} {N:Nat} {Φ:List (Fx P)} {H:List (Nat×Hn)}
end
end Go.Vs
namespace Go.Vs
variable [Glb]
theorem Win.uniq {L:Pl}{sz n:Nat}{u v:Value}(hu:Win L sz 0 n u) (hv:Win L sz 0 n v):u=v:=by
 obtain⟨_,_,_,A,rfl,hA⟩:=hu;obtain⟨_,_,_,B,rfl,hB⟩:=hv;rw[hA (.inr rfl),hB (.inr rfl)]
theorem Yrk {P:Program}{f:FuncId}{fn:Func}{c:Code}{is:List I}{sz:Nat}{es:List (List D)}{tl:List Value}(hf:P.funcs[f]? = some fn) (hb:fn.body=some c) (hi:Il P fn.results.toList=some is) (hn:1<=fn.ntmps)
  (h:Vw P fn.ntmps c ⟨[(0,.a (.c (.rf 0 [] sz 0 es.length)))],[(0,.im sz es)],1,1⟩ fun e S'=>match e with
   | .ret|.normal=>F6 S' is fun xs=>∃r,xs=[.c (.pb r 0)]/\r+1=S'.next/\get S'.roots r=some (.bx (.rf 0 [] sz 0 es.length::tl.map .lf))
   | _=>False):Zdn P f (.sl sz es) tl:=by
 intro W v hgl hv;obtain⟨d,hd,hl⟩:=hv;simp only[List.cons.injEq,and_true]at hd;subst hd;obtain⟨pl,c1,c2,_⟩:=Zan (W:=W) (N:=1) (g:=fun _ _=>none) [.sl sz es] [v] (0,0) ⟨hl,trivial⟩ (by simp [Au,inC]);have hcv:CR pl 1 (.rf 0 [] sz 0 es.length) v:=c1.1;have hp:Hp W (fun _ _=>False) pl (fun _ _=>none) pl [(0,.im sz es)] 1 1 1 W:=by
  refine⟨Fr.refl _ _ (fun b o v h=>⟨(hgl b o v h).1,fun k=>k,(hgl b o v h).2⟩),(fun b o x hx=>by cases hx),(fun _ _ _=>rfl),Kc _,Kc _, ?_⟩;intro r x hx;have:=c2 _ (Na (l:=[(0,Root.im sz es)]) hx);exact⟨this.2.1,this.2.2⟩
 refine calls_of_wp hf hb ?_;refine wp_mono (h W _ pl _ pl _ W ⟨hp, ?_,rfl, ?_⟩) ?_
 ·simp;omega
 ·intro t x hx;simp only[get]at hx;split at hx
  ·rename_i e;simp only[Ka]at hx;subst hx e;have:(#[v]++Array.replicate (fn.ntmps-#[v].size) undef).getD 0 undef=v:=by
    rw[Kab,Kid (by simp)];rfl
   rw[this];exact hcv
  simp at hx
 rintro e a' w' ⟨S',g',pl',q,hfx,hR⟩;have fin:F6 S' is (fun xs=>∃r,xs=[.c (.pb r 0)]/\r+1=S'.next/\get S'.roots r=some (.bx (.rf 0 [] sz 0 es.length::tl.map .lf)))->a'.defers=[]/\∃v',(results fn a'.tmps).run P w'=.ok v' w'/\∃g2 pl2 r0,Hp W (fun _ _=>False) pl2 g2 pl2 [(r0,.bx (.un::tl.map .lf))] (r0+1) r0 0 w'/\Ending.returned v'=.returned (.pointer (some ⟨(pl2 r0 []).b,(pl2 r0 []).off,none⟩))/\w'.cell? ⟨(pl2 r0 []).b,(pl2 r0 []).off,none⟩=some v:=by
  intro hk;obtain⟨us,xs,h1,h2,r,rfl,hr1,hr2⟩:=Zbe hR _ _ _ hi hk
  match us,h2 with
  | [u],h2 =>
  obtain⟨_,hu⟩:CR pl' S'.next (.pb r 0) u:=h2.1;obtain⟨_,hb'⟩:=hR.hp.roots r _ hr2;obtain⟨v',k1,k2,k3,k4⟩:=hb' 0 _ rfl;have hvv:v'=v:=by
   obtain⟨_,w1⟩:=k2;have hfix:pl' 0 []=pl 0 []:=hR.hp.fixed 0 [] (by rw[hfx];exact Kqa _);rw[hfix]at w1;exact w1.uniq hcv.2
  refine⟨hR.defers,u, ?_,g',pl',r,⟨hR.hp.fr, ?_,(fun r p h=>absurd h (Kle _)),Kda _,Kcc _, ?_⟩, ?_, ?_⟩
  ·rw[Zpn];rw[Kig];simp [h1]
  ·intro b o x hx;have:=hR.hp.lab b o x hx;rw[<-hr1]at this;exact this
  ·intro r' x hx;simp only[get]at hx;split at hx
   ·rename_i e;simp only[Ka]at hx;subst hx e;refine⟨Kqa _, ?_⟩;intro j y hy;cases j with
    | zero =>
     simp only[Kv,Ka]at hy;subst hy;exact⟨v',k1,CR.one k2,k3,k4⟩
    | succ j =>
     simp only[Kpa]at hy;obtain⟨v2,m1,m2,m3,m4⟩:=hb' (j+1) y (by simpa using hy);refine⟨v2,m1, ?_,m3,m4⟩;simp only[Kba,Ks]at hy;obtain⟨z,_,rfl⟩:=hy;exact m2
   simp at hx
  ·rw[hu];simp
  rw[<-hvv];simpa using k1
 cases e with
 | normal=>exact fin q
 | ret=>exact fin q
 | exit id=>exact q.elim
 | goto l=>exact q.elim
 | panic ch=>exact q.elim
 | outgrown=>exact q.elim
end Go.Vs
namespace Go.Vs
variable [Glb]
def Vl:List GArg:=[⟨false,false,.L .Y,[.rx],none⟩]
def Zkk (R:XRs) (r:Nat):Option Int:=match lk R r with
 | some (_,.bx [(_,c),(_,a),(_,b)])=>match c,a,b with
  | .rw 0,.i .i64 (Int.ofNat 0),.i .i64 z=>match lk R 0 with
   | some (0,.im _ _)=>some z
   | _=>none
  | _,_,_=>none
 | _=>none
def Zgl (X:XSt) (is:List I):Option Int :=
 Vu X is fun xs=>match xs with
  | [.c (.pb r 0)]=>match Nat.beq (r+1) X.next with
   | true=>Zkk X.roots r
   | false=>none
  | _=>none
noncomputable def fnC {P:Program}(Φ:List (Fx P)) (H:List (Nat×Hn)) (s:Stm) (an:An) (is:List I) (x:List UInt8):Option Int :=
 Da Φ H s an (B5 Vl x) fun e X'=>match e with
  | .ret=>Zgl X' is
  | .normal=>Zgl X' is
  | _=>none
section
variable {P:Program} {f:FuncId} {fn:Func} {Φ:List (Fx P)} {H:List (Nat×Hn)} {an:An}
theorem Yfb {R:XRs}{r:Nat}{z:Int}(h:Zkk R r=some z):∃s s1 s2 s3 t xs,lk R r=some (s,.bx [(s1,.rw 0),(s2,.i .i64 0),(s3,.i .i64 z)])/\lk R 0=some (0,.im t xs):=by
 unfold Zkk at h;split at h
 ·rename_i s s1 c s2 a s3 b hl;split at h
  ·split at h
   ·rename_i t xs h0;simp only[Ka]at h;subst h;exact⟨_,_,_,_,_,_,hl,h0⟩
   cases h
  cases h
 cases h
theorem Zxu {x:List UInt8}{X:XSt}{S:St}{is:List I}{z:Int}(hX:XOk X) (hE:Ext (B5 Vl x) X) (hS:SimX X S) (h:Zgl X is=some z) :
  F6 S is fun xs=>∃r,xs=[.c (.pb r 0)]/\r+1=S.next/\get S.roots r=some (.bx (.rf 0 [] 1 0 (x.map (Ae .Y)).length::[Value.int .i64 0,Value.int .i64 z].map .lf)):=by
 unfold Zgl at h;obtain⟨xs,ys,h,h1,h2,h3⟩:=Zfq hX hS is _ h;refine h3 _ ?_;split at h
 case h_2=>cases h
 rename_i r;split at h
 case h_2=>cases h
 rename_i hb;obtain⟨s,s1,s2,s3,t,xs,hl,h0⟩:=Yfb h;have h00:=hE.roots 0 0 _ h0 (by show 0<1;omega);have h01:lk (B5 Vl x).roots 0=some (0,.im .Y x):=rfl;rw[h01]at h00;simp only[Ka,Kb,true_and]at h00
 match ys,h1 with
 | [y],h1 =>
 have hy:y=.c (.pb r 0):=by
  have hpb:cC X.roots (.pb r 0)=.pb r 0:=by simp only[cC,hl]
  have:=h1.1;cases y with
  | c y =>
   have this:WkC y (cC X.roots (.pb r 0)):=this;rw[hpb]at this;rcases this with k|k
   ·rw[<-k]
   cases k
  | ag _=>exact this.elim
 subst hy;refine⟨r,rfl, ?_, ?_⟩
 ·rw[hS.next];exact Kq hb
 obtain⟨y',e1,e2⟩:=hS.roots r s _ hl _ rfl;rw[e1];cases y' with
 | bx cs =>
  have hc0:cC X.roots (.rw 0)=.rf 0 [] 1 0 x.length:=by simp only[cC,h0,<-h00];rfl
  match cs,e2 with
  | [c1,c2,c3],e2 =>
   obtain⟨k1,k2,k3,_⟩:=e2;have k1:WkC c1 (cC X.roots (.rw 0)):=k1;rw[hc0]at k1;have e1:c1=.rf 0 [] 1 0 x.length:=by rcases k1 with k|k;exact k.symm;cases k
   have e2:c2=.lf (.int .i64 0):=by rcases k2 with k|k;exact k.symm;cases k
   have e3:c3=.lf (.int .i64 z):=by rcases k3 with k|k;exact k.symm;cases k
   rw[e1,e2,e3,Ko];rfl
 | tr _ _=>exact e2.elim
 | im _ _=>exact e2.elim
 | ib _=>exact e2.elim
theorem Yrj (hm:P.follows .mixedOrders=true){F:List UInt8->Option Int}(hf:P.funcs[f]? = some fn) (hk:okF P fn 1 (okG Vl)=true) (h:∀x,fnC Φ H (sOf P fn) an (iOf P fn) x=F x) (x:List UInt8) (z:Int) (hz:F x=some z):Zdn P f (.sl 1 (x.map (Ae .Y))) [.int .i64 0,.int .i64 z]:=by
 obtain⟨a,b,c,d⟩:=Zg2 hm hk;obtain⟨co,hb,hs⟩:=Ze a;obtain⟨h1,h2⟩:=Zne Vl x d;have hx:=(h x).trans hz;refine Yrk (sz:=1) (es:=x.map (Ae .Y)) (tl:=[.int .i64 0,.int .i64 z]) hf hb b (Kea c) ?_;refine Jt hm (sOf P fn) an h1 h2 hx ?_ co hs;intro e X' S' g1 g2 g3 g4;cases e with
 | ret=>exact Zxu g1 g2 g3 g4
 | normal=>exact Zxu g1 g2 g3 g4
 | _=>simp at g4
end
end Go.Vs
namespace Go.Vs
variable [Glb]
theorem Zr5 {pl:Pls}{nx:Nat}:∀{caps:List A}{vs:List Value},Ab (VR pl nx) (caps.map V.a) vs->Ab (AR pl nx) caps vs
 | [],[],_=>trivial
 | _::_,_::_,h=>⟨h.1,Zr5 h.2⟩
 | [],_::_,h=>h.elim
 | _::_,[],h=>h.elim
theorem Zge:∀(as:List Arg) (cs:List C) (b:Nat),(inV as cs b).length=as.length
 | [],_,_=>rfl
 | .val ag l::as,cs,b=>by cases ag<;>simp [inV,Zge as]
 | .ptr l::as,cs,b=>by simp [inV,Zge as]
theorem Ytl {P:Program}{f g:FuncId}{n:Nat}{fn:Func}{c:Code}{as:List Arg}{out:Out}{is:List I}{caps:List A}(hf:P.funcs[f]? = some fn) (hb:fn.body=some c) (hi:Il P fn.results.toList=some is) (hn:n+1<=fn.ntmps) (hle:n<=as.length) (hcap:(Bm as).1.drop n=caps.map V.a)
  (h:Vw P fn.ntmps c ⟨Iw 0 ((Bm as).1.take n)++[(n,.fn g caps)],(Bm as).2.1,(Bm as).2.2,B3 as⟩ fun e S'=>match e with
   | .ret|.normal=>F6 S' is fun xs=>Hz as out S'.roots (Fc xs)
   | _=>False):Y3 (fun ws w R=>Calls P f (Im n g ws).toArray w R) as out:=by
 intro w own g0 pl vs hp hv;have hvl:vs.length=as.length:=by rw[<-hv.length];exact Zge _ _ _
 have hwl:(Im n g vs).length=n+1:=by simp [Im];omega
 refine calls_of_wp hf hb ?_;refine wp_mono (h w own pl g0 pl _ w ⟨hp, ?_,rfl, ?_⟩) ?_
 ·simp [hwl];omega
 ·intro t x hx;have key:∃v,(Im n g vs)[t]? = some v/\VR pl (Bm as).2.2 x v:=by
   rw[Ea]at hx;split at hx
   ·rename_i y hy;simp only[Ka]at hx;subst hx;obtain⟨_,h1⟩:=Zw hy;rw[Kxc]at h1;obtain⟨v,h2,h3⟩:=(Ab.take n hv).get t y h1;refine⟨v, ?_,h3⟩;unfold Im;rw[Ksa (Kfa.1 h2).1];exact h2
   simp only[get]at hx;split at hx
   ·rename_i e;simp only[Ka]at hx;subst hx e;refine⟨_, ?_,(vs.drop n),rfl,Zr5 (by rw[<-hcap];exact Ab.drop n hv)⟩;unfold Im;rw[Kia (by simp;omega)];simp only[Kua];rw[show n-min n vs.length=0 by omega];rfl
   cases hx
  obtain⟨v,h2,h3⟩:=key;have ht:t<(Im n g vs).length:=(Kfa.1 h2).1;have:((Im n g vs).toArray++Array.replicate (fn.ntmps-(Im n g vs).toArray.size) undef).getD t undef=v:=by
   rw[Kab,Kid (by simpa using ht)];simp [h2]
  rw[this];exact h3
 rintro e a' w' ⟨S',g',pl',q,hfx,hR⟩;have fin:F6 S' is (fun xs=>Hz as out S'.roots (Fc xs))->a'.defers=[]/\∃v,(results fn a'.tmps).run P w'=.ok v w'/\∃rv g' pl' roots nx res,Ending.returned v=.returned rv/\Hp w own pl g' pl' roots nx nx (B3 as) w'/\VR pl' nx res rv/\Hz as out roots res:=by
  intro hk;obtain⟨us,xs,h1,h2,h3⟩:=Zbe hR _ _ _ hi hk;have hp':=hR.hp;rw[hfx]at hp';refine⟨hR.defers,if h:us.toArray.size=1 then us.toArray[0] else .tuple us.toArray, ?_,_,g',pl',S'.roots,S'.next,Fc xs,rfl,hp', ?_,h3⟩
  ·rw[Zpn];rw[Kig];simp [h1]
  match xs,us,h2 with
  | [],[],_=>exact⟨[],rfl,trivial⟩
  | [x],[u],h2=>exact h2.1
  | x::y::l,u::u'::us,h2=>exact⟨u::u'::us,by simp,h2⟩
  | [_],_::_::_,h2=>exact h2.2.elim
  | _::_::_,[_],h2=>exact h2.2.elim
 cases e with
 | normal=>exact fin q
 | ret=>exact fin q
 | exit id=>exact q.elim
 | goto l=>exact q.elim
 | panic ch=>exact q.elim
 | outgrown=>exact q.elim
end Go.Vs
namespace Go.Vs
variable [Glb]
def S9 (g:FuncId):Nat->Nat->List XA->List (Nat×Nat×XV)
 | 0,i,l=>[(i,0,.fn g l)]
 | n+1,i,a::l=>(i,0,.a a)::S9 g n (i+1) l
 | _+1,_,[]=>[]
def Wd (n:Nat) (g:FuncId) (as:List GArg) (x:Tp (C3 as)):XSt :=
 ⟨S9 g n 0 (G2 as (inL (A1 as x) 0 (A4 (A1 as x)+Ch as)).1 (A4 (A1 as x))),(inL (A1 as x) 0 (A4 (A1 as x)+Ch as)).2.1++Ev as (inL (A1 as x) 0 (A4 (A1 as x)+Ch as)).1 (A4 (A1 as x)),(inL (A1 as x) 0 (A4 (A1 as x)+Ch as)).2.2,1,A4 (A1 as x)+Ch as⟩
noncomputable def fnH {P:Program}(Φ:List (Fx P)) (H:List (Nat×Hn)) (s:Stm) (an:An) (is:List I) (n:Nat) (g:FuncId) (as:List GArg) (rs:List (Bool×Ty)) (x:Tp (C3 as)):Option (Tp (Fo as rs)) :=
 Da Φ H s an (Wd n g as x) fun e X'=>match e with
  | .ret=>Wk as rs x X' is
  | .normal=>Wk as rs x X' is
  | _=>none
theorem Zu3 {s:Nat}:∀(l:List XA) (k i:Nat) (a:XA),l[i]? = some a->lk (Mx s k l) (k+i)=some (s,.a a)
 | [],k,i,a,h=>by simp at h
 | b::l,k,0,a,h=>by
  simp only[Kv,Ka]at h;subst h;simp only[Mx];rw[Bd,if_pos (by simp only;omega)]
 | b::l,k,i+1,a,h=>by
  have:=Zu3 (s:=s) l (k+1) i a (by simpa using h);simp only[Mx];rw[Bd,if_neg (by simp only;omega)]
  rwa [show k+(i+1)=k+1+i by omega]
theorem Zmn {g:FuncId}:∀(n i:Nat) (l:List XA){t st:Nat}{v:XV},lk (S9 g n i l) t=some (st,v)->st=0/\((t=i+n/\n<=l.length/\v=.fn g (l.drop n))\/(i<=t/\t<i+n/\∃a,v=.a a/\l[t-i]? = some a))
 | 0,i,l,t,st,v,h=>by
  simp only[S9]at h;rw[Bd]at h;split at h
  ·rename_i e;simp only[Ka,Kb]at h;exact⟨h.1.symm,.inl ⟨by simp only at e;omega,Kda _,by rw[<-h.2];rfl⟩⟩
  simp [lk]at h
 | n+1,i,[],t,st,v,h=>by simp [S9,lk]at h
 | n+1,i,a::l,t,st,v,h=>by
  simp only[S9]at h;rw[Bd]at h;split at h
  ·rename_i e;simp only at e;subst e;simp only[Ka,Kb]at h;exact⟨h.1.symm,.inr ⟨Kc _,by omega,a,h.2.symm,by simp⟩⟩
  rename_i e;simp only at e;obtain⟨h0,h1⟩:=Zmn n (i+1) l h;refine⟨h0, ?_⟩;rcases h1 with ⟨h1,h2,h3⟩|⟨h1,h2,b,h3,h4⟩
  ·exact .inl ⟨by omega,by simp;omega,by simpa using h3⟩
  refine .inr ⟨by omega,by omega,b,h3, ?_⟩;rw[show t-i=(t-(i+1))+1 by omega,Kpa];exact h4
theorem Zw1:∀(as:List GArg) (cs:List XC) (b:Nat),(G2 as cs b).length=as.length
 | [],_,_=>rfl
 | a::as,cs,b=>by
  simp only[G2];cases a.ptr<;>simp only[Kf,Zw1 as]
theorem Zsz {R:XRs}:∀(vs:List V) (L:List XA),vs.length=L.length->(∀(i:Nat) (a:XA),L[i]? = some a->∃z,vs[i]? = some (V.a z)/\WkA z (cA R a))->∃caps,vs=caps.map V.a/\Ab WkA caps (L.map (cA R))
 | [],[],_,_=>⟨[],rfl,trivial⟩
 | [],_::_,h,_=>by simp at h
 | _::_,[],h,_=>by simp at h
 | v::vs,a::L,h,hp=>by
  obtain⟨caps,h1,h2⟩:=Zsz vs L (by simpa using h) fun i b hb=>by simpa using hp (i+1) b (by simpa using hb)
  obtain⟨z,h3,h4⟩:=hp 0 a rfl;simp only[Kv,Ka]at h3;exact⟨z::caps,by rw[h3,h1];rfl,h4,h2⟩
theorem Zka:∀(as:List GArg) (x:Tp (C3 as)),(Ay as x).length=as.length
 | [],_=>rfl
 | a::as,x=>by simp only[Ay,Kf,Zka as]
theorem Yp8 (n:Nat) (g:FuncId) (as:List GArg) (x:Tp (C3 as)) (ho:okG as=true) (hn:n<=as.length):∃caps,(Bm (Ay as x)).1.drop n=caps.map V.a/\XOk (Wd n g as x)/\SimX (Wd n g as x) ⟨Iw 0 ((Bm (Ay as x)).1.take n)++[(n,.fn g caps)],(Bm (Ay as x)).2.1,(Bm (Ay as x)).2.2,B3 (Ay as x)⟩:=by
 obtain⟨h1,h2⟩:=Zne as x ho;generalize hL:G2 as (inL (A1 as x) 0 (A4 (A1 as x)+Ch as)).1 (A4 (A1 as x))=L;have hLl:L.length=as.length:=by rw[<-hL];exact Zw1 _ _ _
 have hvl:(Bm (Ay as x)).1.length=as.length:=by rw[<-Zka as x];exact Zge _ _ _
 have henv:(B5 as x).env=Mx 0 0 L:=by rw[<-hL];rfl
 have hpt:∀(i:Nat) (a:XA),L[i]? = some a->(∃z,(Bm (Ay as x)).1[i]? = some (V.a z)/\WkA z (cA (B5 as x).roots a))/\okA (B5 as x).roots (B5 as x).next (B5 as x).stamp a:=by
  intro i a hi;have hl:lk (B5 as x).env i=some (0,.a a):=by
   rw[henv];have:=Zu3 (s:=0) L 0 i a hi
   rwa [Kr]at this
  refine⟨?_,(h1.env i 0 _ hl).2⟩;rcases h2.env i 0 _ hl with h|⟨y,hy,hw⟩
  ·cases h
  obtain⟨_,h3⟩:=Zw hy;rw[Kxc]at h3;cases y with
  | a z=>exact⟨z,h3,hw⟩
  | _=>exact hw.elim
 obtain⟨caps,hc1,hc2⟩:=Zsz (R:=(B5 as x).roots) ((Bm (Ay as x)).1.drop n) (L.drop n) (by simp [hLl,hvl]) fun i a hi=>by
  rw[Kdb]at hi ⊢;exact (hpt _ a hi).1
 have hE:(Wd n g as x).env=S9 g n 0 L:=by rw[<-hL];rfl
 refine⟨caps,hc1,⟨h1.ids, ?_,h1.box,h1.fixle⟩,⟨h2.next,h2.fix, ?_,h2.roots⟩⟩
 ·intro t st v hl;rw[hE]at hl;obtain⟨rfl,h|⟨_,_,a,rfl,h4⟩⟩:=Zmn n 0 L hl
  ·obtain⟨_,_,rfl⟩:=h;refine⟨Nat.one_pos,fun a ha=>?_⟩;obtain⟨i,hi⟩:=Klc (Kkb ha);exact (hpt i a hi).2
  exact⟨Nat.one_pos,(hpt _ a h4).2⟩
 intro t st v hl;rw[hE]at hl;right;obtain⟨rfl,h|⟨_,h5,a,rfl,h4⟩⟩:=Zmn n 0 L hl
 ·obtain⟨rfl,_,rfl⟩:=h;refine⟨.fn g caps, ?_,rfl,hc2⟩;rw[Ea];cases hq:get (Iw 0 ((Bm (Ay as x)).1.take n)) (0+n) with
  | some y =>
   exfalso;obtain⟨_,h3⟩:=Zw hq;have:=(Kfa.1 h3).1;simp at this;omega
  | none=>simp only[get];rw[if_pos (by omega)]
 obtain⟨⟨z,h6,h7⟩,_⟩:=hpt _ a h4;refine⟨.a z, ?_,h7⟩;rw[Ea,Zfm (Kda _) (by rw[Kwa,if_pos (by omega)];exact h6)]
theorem Ytn {P:Program}{f g:FuncId}{n:Nat}{fn:Func}{Φ:List (Fx P)}{H:List (Nat×Hn)}{an:An}(hm:P.follows .mixedOrders=true){as:List GArg}{rs:List (Bool×Ty)}{F:Tp (C3 as)->Option (Tp (Fo as rs))}(hf:P.funcs[f]? = some fn) (hk:okF P fn (n+1) (okG as&&Nat.ble n as.length)=true) (h:∀x,fnH Φ H (sOf P fn) an (iOf P fn) n g as rs x=F x) (x:Tp (C3 as)) (y:Tp (Fo as rs)) (hy:F x=some y) :
  Y3 (fun ws w R=>Calls P f (Im n g ws).toArray w R) (Ay as x) (Mb as rs (Dz _ y)):=by
 obtain⟨a,b,c,d⟩:=Zg2 hm hk;simp only[Kd]at d;obtain⟨co,hb,hs⟩:=Ze a;obtain⟨caps,k1,k2,k3⟩:=Yp8 n g as x d.1 (Kea d.2);refine Ytl hf hb b (Kea c) (by rw[Zka];exact Kea d.2) k1 ?_;refine Jt hm (sOf P fn) an k2 k3 ((h x).trans hy) ?_ co hs;intro e X' S' g1 g2 g3 g4;cases e with
 | ret=>exact Zgm (E:=(Wd n g as x).env) d.1 g1 g2 g3 g4
 | normal=>exact Zgm (E:=(Wd n g as x).env) d.1 g1 g2 g3 g4
 | _=>simp at g4
end Go.Vs
