/-
  Loops whose first round is told by itself ('peeled'): what holds at the head of a later round need not hold at the first. Condition: none.
-/
import Derived.ChangeArms
import Derived.ChangeSlices
import Derived.WideShapes
import Derived.DataReads
import Derived.ChangeShapes
import Derived.Test.YtmfmjngkbddenaaGreatDoorVsW4
import Derived.Test.YtmfmjngkbddenaaGreatDoorVsW2
import Derived.Test.YtmfmjngkbddenaaGreatDoorVsW1
set_option linter.all false
namespace Go.Vs
variable [Glb]
section
variable {β:Type} {X:XSt} {S:St} {out:β} {P:Program}
def Ziq:List GArg->List GC->List V->Prop
 | [],[],[]=>True
 | a::as,g::gs,y::ys=>g.a=a/\a.ms.length=a.t.n/\(match a.ptr with
  | true=>∃r c,g.at? = some (r,c)/\y=.a (.c (.pb r c))
  | false=>g.at? = none)/\Ziq as gs ys
 | _,_,_=>False
theorem Zuz (hS:SimX X S):∀(as:List GArg) (vs:List XV) (ys:List V) (gs:List GC),Ab (fun y v=>WkV y (cV X.roots v)/\okV X.roots X.next X.stamp v) ys vs->Gi X as vs=some gs->Ziq as gs ys
 | [],[],[],gs,_,h=>by simp only[Gi,Ka]at h;subst h;trivial
 | a::as,v::vs,y::ys,gs,hw,h=>by
  simp only[Gi]at h;split at h
  ·rename_i g gs' h1 h2;split at h
   ·rename_i hb;simp only[Ka]at h;subst h;simp only[Kd,Gm]at hb;have ih:=Zuz hS as vs ys gs' hw.2 h2;unfold P6 at h1;split at h1
    ·rename_i c hp hag;simp only[Ka]at h1;subst h1;exact⟨rfl,Kr hb.2,by simp only[hp],ih⟩
    ·rename_i c hp hag;simp only[Ka]at h1;subst h1;exact⟨rfl,Kr hb.2,by simp only[hp],ih⟩
    ·rename_i r c hp;split at h1
     ·rename_i s es hle;split at h1
      ·simp only[Ka]at h1;subst h1;refine⟨rfl,Kr hb.2, ?_,ih⟩;simp only[hp];refine⟨r,c,rfl, ?_⟩;have:=hw.1.1;simp only[cV,cA,cC,hle]at this;exact this.c (by simp)
      ·simp at h1
     ·simp at h1
    ·simp at h1
   ·simp at h
  ·simp at h
 | [],_::_,_,_,_,h=>by simp [Gi]at h
 | _::_,[],_,_,_,h=>by simp [Gi]at h
 | [],[],_::_,_,hw,_=>hw.elim
 | _::_,_::_,[],_,hw,_=>hw.elim
theorem Ydo {R:List (Nat×Root)}{y:V}{ys:List V}{ag:Bool}{l:List (M×D)}{as:List Arg}{o:List (List D)}{us:List C}:Gx R (y::ys) (.val ag l::as) o us=Gx R ys as o us:=by
 conv=>lhs;unfold Gx
 split
 ·simp_all
 ·simp_all
 ·simp_all
 ·simp_all;rename_i hx;exact absurd rfl (hx y ys _ as rfl rfl rfl)
theorem Zdy:∀(as:List GArg) (gs:List GC) (ysV:List V) (x:Tp (C1 as)) (vs:List Sg) (cells:List XC) (us:List C){X X':XSt}{E:List (Nat×V)}{A R:List (Nat×Root)}{n f:Nat},XOk X->SimX X ⟨E,A++R,n,f⟩->Ziq as gs ysV->(∀r∈bxZ gs,get A r=none)->vs.map (·.1)=Ge as ->
  Ab WkC us (cells.map (cC X.roots))->(∀c∈cells,okC X.roots X.next X.stamp c)->bxX gs cells X=some X' ->
  ∃R',Gx R ysV (A2 as x) (bxG as vs) us=some R'/\XOk X'/\Ext X X'/\SimX X' ⟨E,A++R',n,f⟩/\Gw X X' (A++R) (A++R')/\X'.env=X.env
 | [],[],[],x,vs,cells,us,X,X',E,A,R,n,f,hX,hS,_,_,_,_,_,h=>by
  simp only[bxX,Ka]at h;subst h;exact⟨R,rfl,hX,Ext.refl X,hS,Gw.refl X _,rfl⟩
 | a::as,g::gs,y::ysV,x,vs,cells,us,X,X',E,A,R,n,f,hX,hS,hg,hA,hv,hw,ho,h=>by
  obtain⟨rfl,hms,hp,hg⟩:=hg;simp only[bxX]at h;cases hptr:g.a.ptr with
  | false =>
   simp only[hptr]at hp;simp only[hp]at h;simp only[bxZ,hp]at hA;simp only[Ge,hptr]at hv;obtain⟨R',q1,q2⟩:=Zdy as gs ysV (Tp.tl _ _ x) vs cells us hX hS hg hA hv hw ho h;refine⟨R', ?_,q2⟩;simp only[A2,mkG,hptr,bxG,Ydo];exact q1
  | true =>
   simp only[hptr]at hp;obtain⟨r,c,hat,rfl⟩:=hp;simp only[hat]at h;simp only[bxZ,hat]at hA;split at h
   ·rename_i s es hl;split at h
    ·rename_i hb;obtain⟨hb,hnH⟩:=Bool.and_eq_true_iff.1 hb;have hb:=Kea hb;rw[Gm]at hb;obtain⟨bs,g1,g2⟩:=Pr hS hl;have hAr:=hA r Ks;have hR:get R r=some (.bx bs):=by
      simp only[D6,hAr]at g1;exact g1
     have hbl:=g2.length;rw[Kt]at hbl;have hen:=Bt g.a.t (Tp.hd _ _ x);have hlen:(g.a.ms.zip (Af g.a.t (Tp.hd _ _ x))).length=g.a.ms.length:=by rw[List.length_zip];omega
     obtain⟨m1,m2,m3⟩:=Zf2 (R:=X.roots) (nx:=X.next) (st:=X.stamp) g.a.ms (cts g.a.t) (Af g.a.t (Tp.hd _ _ x)) ((es.drop c).take g.a.ms.length) ((bs.drop c).take g.a.ms.length) (cells.take (Fc g.a.o)) (us.take (Fc g.a.o))
      (fun j m d ty _ hd ht=>Zfs hnH hd ht) (by omega) (by rw[hen,Ry]) (by simp;omega)
      (by have:=Je (n:=g.a.ms.length) (Iy (n:=c) g2);rw[Kib,Kkb];exact this)
      (by rw[Kib];exact Je hw)
      (fun e he=>(hX.box r s es hl e (Knb (Kpb he))).2)
      (fun y hy=>ho y (Kpb hy))
     rw[Gm]at h;obtain⟨b1,b2,b3,b4⟩:=Ytj (es':=es.take c++(D7 X.stamp g.a.ms (cts g.a.t) ((es.drop c).take g.a.ms.length) (cells.take (Fc g.a.o))++es.drop (c+g.a.ms.length))) (bs':=bs.take c++(Gp (g.a.ms.zip (Af g.a.t (Tp.hd _ _ x))) ((bs.drop c).take g.a.ms.length) (us.take (Fc g.a.o))++bs.drop (c+g.a.ms.length))) hX hS hAr hl (by
      intro j e hj;have hlt:(es.take c).length=c:=by simp;omega
      by_cases h1:j<c
      ·rw[Kva (by omega),Kza,if_pos h1]at hj;exact⟨.inr hj,(hX.box r s es hl e (Kfa hj)).2⟩
      ·rw[Kla (by omega),hlt]at hj;by_cases h2:j-c<g.a.ms.length
       ·rw[Kva (by omega)]at hj;obtain⟨q1,q2⟩:=m3 _ e hj;refine⟨q1.imp id fun h=>?_,q2⟩;rw[Kza,if_pos h2,Kdb]at h
        rwa [show c+(j-c)=j by omega]at h
       ·rw[Kla (by omega),m2,Kdb]at hj;rw[show c+g.a.ms.length+(j-c-g.a.ms.length)=j by omega]at hj;exact⟨.inr hj,(hX.box r s es hl e (Kfa hj)).2⟩) (by
      rw[Kaa,Kaa,Kib,Kkb];exact M5 (Je g2) (M5 m1 (Iy g2)))
     -- the rest
     have key:∀c',okC X.roots X.next X.stamp c'->cC (X.setR r (.bx (es.take c++(D7 X.stamp g.a.ms (cts g.a.t) ((es.drop c).take g.a.ms.length) (cells.take (Fc g.a.o))++es.drop (c+g.a.ms.length))))).roots c'=.un\/cC (X.setR r (.bx (es.take c++(D7 X.stamp g.a.ms (cts g.a.t) ((es.drop c).take g.a.ms.length) (cells.take (Fc g.a.o))++es.drop (c+g.a.ms.length))))).roots c'=Ba [] (cC X.roots c'):=fun c' hc=>K8 (.inr (.inr (.inl ⟨_,_,_,rfl,hl⟩))) hc;have hw2:=Wz (ks:=[]) key (ys:=us.drop (Fc g.a.o)) (cs:=cells.drop (Fc g.a.o)) (fun c hc=>ho c (Knb hc)) (by rw[Kkb];exact Iy hw);have e3:(us.drop (Fc g.a.o)).map (Ba [])=us.drop (Fc g.a.o):=by
      have:Ba []=fun c=>c:=by funext c;rfl
      rw[this];simp
     rw[e3]at hw2;have ho2:∀c'∈cells.drop (Fc g.a.o),okC (X.setR r (.bx (es.take c++(D7 X.stamp g.a.ms (cts g.a.t) ((es.drop c).take g.a.ms.length) (cells.take (Fc g.a.o))++es.drop (c+g.a.ms.length))))).roots (X.setR r (.bx (es.take c++(D7 X.stamp g.a.ms (cts g.a.t) ((es.drop c).take g.a.ms.length) (cells.take (Fc g.a.o))++es.drop (c+g.a.ms.length))))).next (X.setR r (.bx (es.take c++(D7 X.stamp g.a.ms (cts g.a.t) ((es.drop c).take g.a.ms.length) (cells.take (Fc g.a.o))++es.drop (c+g.a.ms.length))))).stamp c':=fun c' hc=>okC.ext b2.next b2.stamp b2.roots (ho c' (Knb hc));cases hoo:g.a.o with
     | none =>
      simp only[Ge,hptr,hoo,Sv,Hm]at hv;simp only[hoo]at h hw2 ho2 b1 b2 b3 b4;obtain⟨R',q1,q2,q3,q4,q5,q6⟩:=Zdy as gs ysV (Tp.tl _ _ x) vs _ _ b1 b3 hg (fun q hq=>hA q (Ko _ hq)) hv hw2 ho2 h;refine⟨R', ?_,q2,b2.trans q3,q4,b4.trans q5 b2 q3,q6⟩;simp only[A2,mkG,hptr,bxG,hoo,Gx,hR,hlen,Ki];exact q1
     | some ot =>
      simp only[Ge,hptr,hoo,Sv,Hm]at hv;cases vs with
      | nil=>simp at hv
      | cons v vs =>
       simp only[Kc,List.cons.injEq]at hv;simp only[hoo]at h hw2 ho2 b1 b2 b3 b4;obtain⟨R',q1,q2,q3,q4,q5,q6⟩:=Zdy as gs ysV (Tp.tl _ _ x) vs _ _ b1 b3 hg (fun q hq=>hA q (Ko _ hq)) hv.2 hw2 ho2 h;refine⟨R', ?_,q2,b2.trans q3,q4,b4.trans q5 b2 q3,q6⟩;have hn:(Gh v).length=Fc (some ot):=by simp only[Gh,Bt,hv.1,Fc]
       simp only[A2,mkG,hptr,bxG,hoo,Gx,hR,hlen,hn];exact q1
    ·simp at h
   ·simp at h
 | [],_::_,_,_,_,_,_,_,_,_,_,_,_,_,_,_,h,_,_,_,_,_=>h.elim
 | _::_,[],_,_,_,_,_,_,_,_,_,_,_,_,_,_,h,_,_,_,_,_=>h.elim
 | [],[],_::_,_,_,_,_,_,_,_,_,_,_,_,_,_,h,_,_,_,_,_=>h.elim
 | _::_,_::_,[],_,_,_,_,_,_,_,_,_,_,_,_,_,h,_,_,_,_,_=>h.elim
theorem Zjx {c:XC}:∀(gs:List GC) (ys:List XC) (Z Z':XSt) (nx st:Nat),okC Z.roots nx st c->st<=Z.stamp->nx<=Z.next->bxX gs ys Z=some Z'->cC Z'.roots c=.un\/cC Z'.roots c=cC Z.roots c
 | [],ys,Z,Z',nx,st,_,_,_,h=>by simp only[bxX,Ka]at h;subst h;exact .inr rfl
 | g::gs,ys,Z,Z',nx,st,ho,hst,hnx,h=>by
  simp only[bxX]at h;split at h
  ·rename_i r c0 hat;split at h
   ·rename_i s es hl;split at h
    ·have ho':okC Z.roots Z.next Z.stamp c:=okC.ext hnx hst (fun _ _ _ h _=>h) ho;have old:∀es' q s z,lk ((r,Z.stamp,XR.bx es')::Z.roots) q=some (s,z)->s<Z.stamp->lk Z.roots q=some (s,z):=by
      intro es' q s z hl hs;rw[Bf]at hl;split at hl
      ·simp only[Ka,Kb]at hl;omega
      ·exact hl
     rcases Zjx gs _ (Z.setR r _) Z' Z.next Z.stamp (okC.ext (Kf _) (Kf _) (old _) ho') (Kac _) (Kf _) h with q|q
     ·exact .inl q
     ·rcases K8 (.inr (.inr (.inl ⟨_,_,_,rfl,hl⟩))) ho' with w|w
      ·exact .inl (q.trans w)
      ·exact .inr (q.trans w)
    ·simp at h
   ·simp at h
  ·exact Zjx gs _ _ _ nx st ho hst hnx h
theorem Zhp:∀vs:List Sg,(Fl vs).map De=vs.flatMap Gh
 | []=>rfl
 | v::vs=>by simp only[Fl,Kaa,Zay,Zhp vs,Kya,Gh]
theorem Zgv:∀(rs:List (Bool×Ty)) (vs:List Sg),vs.length=rs.length->(E4 rs vs).flatMap (·.2)=vs.flatMap Gh
 | [],[],_=>rfl
 | r::rs,v::vs,h=>by simp only[E4,Kya,Zgv rs vs (by simpa using h)]
 | [],_::_,h=>by simp at h
 | _::_,[],h=>by simp at h
theorem Yn:∀(as:List GArg) (vs:List Sg),vs.map (·.1)=Ge as->(bxG as vs).flatten=vs.flatMap Gh
 | [],vs,h=>by simp only[Ge,List.map_eq_nil_iff]at h;subst h;rfl
 | a::as,vs,h=>by
  simp only[Ge]at h;cases hp:a.ptr with
  | false=>simp only[hp]at h;simp only[bxG,hp];exact Yn as vs h
  | true =>
   simp only[hp]at h;cases ho:a.o with
   | none=>simp only[ho,Sv,Hm]at h;simp only[bxG,hp,ho,Kwc,Kj];exact Yn as vs h
   | some t =>
    simp only[ho,Sv,Hm]at h;cases vs with
    | nil=>simp at h
    | cons v vs =>
     simp only[Kc,List.cons.injEq]at h;simp only[bxG,hp,ho,Kwc,Kya,Yn as vs h.2]
theorem Zyg {R:XRs}:∀(rs:List (Bool×Ty)) (vs:List Sg) (us:List C) (cs:List XC),vs.map (·.1)=F8 rs->Ab WkC us (cs.map (cC R))->(∀(l:Nat),True)->(vs.flatMap Gh).length<=cs.length->Ab WkA (Fi (E4 rs vs) us) ((Lw rs cs).map (cA R))
 | [],_,_,_,_,_,_,_=>by cases ‹List Sg›<;>trivial
 | (ag,t)::rs,[],us,cs,h,_,_,_=>by simp [F8]at h
 | (ag,t)::rs,v::vs,us,cs,h,hw,_,hl=>by
  simp only[Kc,F8,List.cons.injEq]at h;have hn:(Gh v).length=t.n:=by rw[Gh,Bt,h.1]
  simp only[E4,Fi,Lw,Kc,hn];simp only[Kya,Kz,hn]at hl;refine⟨?_, ?_⟩
  ·have ht:=Je (n:=t.n) hw;rw[<-Kib]at ht;cases ag with
   | true=>simp only[Ln,if_true];exact ht
   | false =>
    simp only[Ln,Kma,if_false]
    match h1:us.take t.n,h2:cs.take t.n with
    | [],[]=>trivial
    | [u],[c]=>rw[h1,h2]at ht;exact ht.1
    | [],_::_=>rw[h1,h2]at ht;exact ht.elim
    | _::_,[]=>rw[h1,h2]at ht;exact ht.elim
    | [_],_::_::_=>rw[h1,h2]at ht;exact ht.2.elim
    | _::_::_,[_]=>rw[h1,h2]at ht;exact ht.2.elim
    | _::_::_,_::_::_=>trivial
  ·have hd:=Iy (n:=t.n) hw;rw[<-Kkb]at hd;exact Zyg rs vs _ _ h.2 hd (fun _=>trivial) (by rw[Kpa];omega)
theorem Zjy (hX:XOk X) (hS:SimX X S){as:List GArg}{rs:List (Bool×Ty)}{F:Tp (C1 as)->Option (Tp (Fj as rs))}{C:List Value->World->(Ending->World->Prop)->Prop}(hC:∀x y,F x=some y->X6 C (A2 as x) (Lr as rs (Du _ y))){vs:List XV}{us:List V}(hargs:Ab (fun y v=>WkV y (cV X.roots v)/\okV X.roots X.next X.stamp v) us vs){k:XV->XSt->Option β}(h:Zd0 X as rs F vs k=some out):ClT X S (fun K=>Zj0 C S us K) k out:=by
 have hnx:S.next=X.next:=hS.next;unfold Zd0 at h;split at h
 ·rename_i gs hg;split at h
  ·rename_i ow io how hio;split at h
   ·rename_i hc;simp only[Kd]at hc;obtain⟨hn1,hn2,hd1,hd2⟩:=hc;have hn1:=Qr hn1;have hn2:=Qr hn2;have hd1:=U1 hd1;have hd2:=U1 hd2;obtain⟨h,hwh⟩:=Zqg _ h;obtain⟨x,h,hf,hW,hz,hbx⟩:=Zuq hX hS as _ _ gs _ hargs hg h;obtain⟨y,hy,h⟩:=F5 h;rw[<-hz]at how hio hd2 hwh h;have hWcd:∀w∈K6 as gs x,CD X.roots w.2.1 w.2.2:=fun w hw=>(hW w hw).1
    -- what is taken
    obtain⟨o1,o2⟩:=Zxh (K6 as gs x) hWcd;obtain⟨rt,t1,t2⟩:=Wl hS _ _ ow S.roots o2 how hn1 (fun _ _=>rfl);rw[<-o1]at t1;obtain⟨d1,d2,d3⟩:=Yy ow hX hS (Sy hX how);obtain⟨v1,v2,v3,v4⟩:=Yx ow X;have d4:SimX (X.delRs ow) ⟨S.env,rt,S.next,S.fix⟩:=by
     refine Wi (R:=S.roots) d3 ?_;intro r s z hl hx;by_cases hm:r∈ow
     ·obtain⟨s',hg'⟩:=(Jn ow X r).1 hm;rw[hl]at hg';simp only[Ka,Kb]at hg';exact (hx hg'.2).elim
     ·rw[t2 r,if_neg hm]
    have d5:Gw X (X.delRs ow) S.roots rt:=by
     intro r s z hl hs;by_cases hm:r∈ow
     ·have key:∀(l:List Nat) (Y:XSt),r∈l->∀s x,lk (Y.delRs l).roots r=some (s,x)->Y.stamp<=s:=by
       intro l
       induction l with
       | nil=>intro Y h;simp at h
       | cons q l ih =>
        intro Y h s x hl;by_cases hq:r∈l
        ·have:=ih (Y.setR q .gone) hq s x hl;have e:(Y.setR q .gone).stamp=Y.stamp+1:=rfl;omega
        ·have hq':=(Kh.1 h).resolve_right hq;subst hq';have h2:lk ((Y.setR r .gone).delRs l).roots r=some (s,x):=hl;rw[(Jn l (Y.setR r .gone) r).2 hq]at h2;simp only[XSt.setR]at h2;rw[Bf,if_pos rfl]at h2;simp only[Ka,Kb]at h2;omega
      have:=key ow X hm s z hl;omega
     ·rw[t2 r,if_neg hm]
    have hseen:=Yth (hb:=bxZ gs) hS hWcd hio t2 hd1 hd2 hwh
    -- what is written
    obtain⟨X2,r1,h,i1,i2,i3,i4,i5,i6⟩:=Zn (X0:=X) (K6 as gs x) _ io _ d1 d4 hWcd hio h;have hnext2:X2.next=X.next:=by rw[<-hnx];exact i3.next.symm
    -- what is new
    have i3':SimX X2 ⟨S.env,r1,X2.next,S.fix⟩:=⟨rfl,i3.fix,i3.env,i3.roots⟩;obtain⟨n1,n2,n3,n4,n5,n6,n7⟩:=Zga (Fl ((Du _ y).take (A7 rs)++((Du _ y).drop (A7 rs)).drop (A7 (Hy as)))) i1 i3';split at h
    ·rename_i X4 hb
     -- lengths and types of what comes out
     have htys:=Zpc _ y;have hT:Fj as rs=F8 rs++(Hy as++Ge as):=by simp only[Fj,Yj]
     have hrl:(F8 rs).length=rs.length:=by
      have key:∀rs:List (Bool×Ty),(F8 rs).length=rs.length:=by
       intro rs;induction rs with
       | nil=>rfl
       | cons r rs ih=>simp only[F8,Ke,ih]
      exact key _
     have hres:((Du _ y).take (A7 rs)).map (·.1)=F8 rs:=by
      rw[Kib,htys,hT,Gm,<-hrl,Khd];rfl
     have hbxs:(((Du _ y).drop (A7 rs)).drop (A7 (Hy as))).map (·.1)=Ge as:=by
      rw[Kkb,Kkb,htys,hT,Gm,Gm,<-hrl,Kvc rfl,Kvc rfl]
     have hresl:((Du _ y).take (A7 rs)).length=rs.length:=by rw[<-hrl,<-hres,Kt]
     generalize hvr:(Du _ y).take (A7 rs)=vr at *
     generalize hvb:((Du _ y).drop (A7 rs)).drop (A7 (Hy as))=vb at *
     have hcells:(Fl (vr++vb)).map De=(E4 rs vr).flatMap (·.2)++(bxG as vb).flatten:=by
      rw[Zhp,List.flatMap_append,Zgv _ _ hresl,Yn _ _ hbxs]
     rw[hcells,hnext2,<-hnx]at n4 n5 n6;have hlenr:((E4 rs vr).flatMap (·.2)).length=A7 (Fl vr):=by
      rw[Zgv _ _ hresl,<-Zhp,Kt,Gm]
     have grel:=Zuz hS as _ _ gs hargs hg;have hbxlt:∀r∈bxZ gs,r<X.next:=by
      intro r hr;have key:∀(as:List GArg) (vs:List XV) (gs:List GC),(∀v∈vs,okV X.roots X.next X.stamp v)->Gi X as vs=some gs->r∈bxZ gs->r<X.next:=by
       intro as
       induction as with
       | nil =>
        intro vs gs _ hg hr;cases vs with
        | nil=>simp only[Gi,Ka]at hg;subst hg;simp [bxZ]at hr
        | cons _ _=>simp [Gi]at hg
       | cons a as ih =>
        intro vs gs hv hg hr;cases vs with
        | nil=>simp [Gi]at hg
        | cons v vs =>
         simp only[Gi]at hg;split at hg
         ·rename_i g gs' h1 h2;split at hg
          ·simp only[Ka]at hg;subst hg;simp only[bxZ]at hr;split at hr
           ·rename_i q c hat;rcases Kh.1 hr with rfl|hr
            ·unfold P6 at h1;split at h1
             ·simp only[Ka]at h1;subst h1;simp at hat
             ·simp only[Ka]at h1;subst h1;simp at hat
             ·split at h1
              ·rename_i hle;split at h1
               ·simp only[Ka]at h1;subst h1;simp only[Ka,Kb]at hat;obtain⟨rfl,_⟩:=hat;exact (hX.ids _ _ _ hle).1
               ·simp at h1
              ·simp at h1
             ·simp at h1
            ·exact ih vs gs' (fun v hv'=>hv v (Ko _ hv')) h2 hr
           ·exact ih vs gs' (fun v hv'=>hv v (Ko _ hv')) h2 hr
          ·simp at hg
         ·simp at hg
      refine key as _ gs ?_ hg hr;intro v hv;have kk:∀{us:List V} {vs:List XV},Ab (fun y v=>WkV y (cV X.roots v)/\okV X.roots X.next X.stamp v) us vs->v∈vs->okV X.roots X.next X.stamp v:=by
       intro us
       induction us with
       | nil=>intro vs ha hm;cases vs with
        | nil=>cases hm
        | cons _ _=>exact ha.elim
       | cons u us ih=>intro vs ha hm;cases vs with
        | nil=>exact ha.elim
        | cons w ws =>
         rcases Kh.1 hm with rfl|hm
         ·exact ha.1.2
         ·exact ih ha.2 hm
      exact kk hargs hv
     have hAnone:∀r,r<X.next->get (Au ((E4 rs vr).flatMap (·.2)++(bxG as vb).flatten) S.next).2.1 r=none:=by
      intro r hr;cases hq:get (Au ((E4 rs vr).flatMap (·.2)++(bxG as vb).flatten) S.next).2.1 r with
      | none=>rfl
      | some z=>have:=((He _ _).2 _ (Mm hq)).1;simp only at this;omega
     obtain⟨r2,b1,b2,b3,b4,b5,b6⟩:=Zdy as gs us x vb _ ((Au ((E4 rs vr).flatMap (·.2)++(bxG as vb).flatten) S.next).1.drop ((E4 rs vr).flatMap (·.2)).length) n1 n5 grel (fun r hr=>hAnone r (hbxlt r hr)) hbxs
      (by rw[hlenr,Kkb];exact Iy n6) (fun c hc=>n7 c (Knb hc)) hb
     -- together
     have hext:Ext X X4:=((d2.trans i2).trans n2).trans b3;have hsameN:Gw X2 (Cy (Fl (vr++vb)) X2).2 r1 ((Au ((E4 rs vr).flatMap (·.2)++(bxG as vb).flatten) S.next).2.1++r1):=by
      intro r s z hl hs;have h0:=n2.roots r s z hl hs;have:=(i1.ids r s z h0).1;rw[D6,hAnone r (by rw[<-hnext2];exact this)]
     have hsame:Gw X X4 S.roots ((Au ((E4 rs vr).flatMap (·.2)++(bxG as vb).flatten) S.next).2.1++r2) :=
      ((d5.trans i5 d2 i2).trans hsameN (d2.trans i2) n2).trans b5 ((d2.trans i2).trans n2) b3
     have keyC:∀c,okC (Cy (Fl (vr++vb)) X2).2.roots (Cy (Fl (vr++vb)) X2).2.next (Cy (Fl (vr++vb)) X2).2.stamp c->cC X4.roots c=.un\/cC X4.roots c=Ba [] (cC (Cy (Fl (vr++vb)) X2).2.roots c):=fun c hc=>Zjx gs _ _ _ _ _ hc (Kf _) (Kf _) hb;refine⟨_,_,h,b2,hext, ?_, ?_,Ej (Fi (E4 rs vr) (Au ((E4 rs vr).flatMap (·.2)++(bxG as vb).flatten) S.next).1),[],(Au ((E4 rs vr).flatMap (·.2)++(bxG as vb).flatten) S.next).2.1++r2, ?_, ?_,⟨rfl,hsame⟩, ?_⟩
     ·exact okV.ext b3.next b3.stamp b3.roots (Zoe (Zag _ _ n7))
     ·rw[b6,n3,i6,v1]
     ·have w0:=Zyi (Zyg rs vr _ _ hres n6 (fun _=>trivial) (by
       rw[Zf9];have:(vr.flatMap Gh).length=(Fl vr).length:=by rw[<-Zhp,Kt]
       rw[this];have key:∀a b:List Sg,(Fl a).length<=(Fl (a++b)).length:=by
        intro a b
        induction a with
        | nil=>simp [Fl]
        | cons v a ih=>simp only[Kl,Fl,Kz];omega
       exact key vr vb))
      have w1:=Ych (ks:=[]) keyC (Zoe (Zag _ _ n7)) w0;have e3:∀v:V,(∀f c,v≠.fn f c)->(∀r n,v≠.sb r n)->v.map (Ba [])=v:=by
       have hk:Ba []=fun c=>c:=by funext c;rfl
       have ha:A.map (fun c=>c)=fun x=>x:=by funext x;cases x<;>simp [A.map]
       intro v h1 h2;rw[hk];cases v with
       | un=>rfl
       | a x=>simp only[V.map,ha]
       | tp xs=>simp only[V.map,ha,List.map_id']
       | fn f c=>exact (h1 f c rfl).elim
       | sb r n=>exact (h2 r n rfl).elim
      rw[e3 _ (by intro f c;unfold Ej;split<;>simp) (by intro r n;unfold Ej;split<;>simp)]at w1
      exact w1
     ·rw[Oc];have:=b4;exact⟨rfl,this.fix,this.env,this.roots⟩
     ·intro K hK;refine⟨A2 as x,_,hC x y hy,_,hf,rt,t1, ?_, ?_,r1, ?_,r2, ?_, ?_⟩
      ·rw[Zmn _ _ hWcd hio,hbx];exact hn2
      ·rw[Zmn _ _ hWcd hio,hbx];exact hseen
      ·exact i4
      ·simp only[Lr,hvr,hvb];exact b1
      ·simp only[Lr,hvr,hvb];have hn4:(Au ((E4 rs vr).flatMap (·.2)++(bxG as vb).flatten) S.next).2.2=X4.next:=by
        rw[<-n4];have:=b4.next;have:=n5.next;simp only at *;omega
       rw[hn4];exact hK
    ·simp at h
   ·simp at h
  ·simp at h
 ·simp at h
theorem Zrp (hX:XOk X) (hS:SimX X S){e:GEnt P}{args:List Opd}{k:XV->XSt->Option β}(h:Zdz X e (args.map X.opd) k=some out):Zbj P X S e.f args k out :=
 (Zjy hX hS (C:=fun vs w R=>Calls P e.f vs.toArray w R) e.ok (Up hX hS args) h).mono fun K h=>.inl h
end
end Go.Vs
namespace Go.Vs
variable [Glb]
def Rm (P:Program) (c:Code) (Q:Exit->Act->World->Prop) (a:Act) (w:World):Prop :=
 ∀(b:Frame) (k:List Item) (cs:List Frame),∃e a' w',Q e a' w'/\Arrives P (lone (b.at a (.code c::.inLoop c::k)) cs w) b k cs e a' w'
theorem Rm.wp {P:Program}{c:Code}{Q:Exit->Act->World->Prop}{a:Act}{w:World}(h:Rm P c Q a w):(Code.loop c).wp P Q a w:=fun b k cs=>by
 obtain⟨e,a',w',hq,harr⟩:=h b k cs;exact⟨e,a',w',hq,.of_steps (.one step_loop) harr⟩
theorem Rm.round {P:Program}{c:Code}{Q:Exit->Act->World->Prop}{a:Act}{w:World}(h:c.wp P (Exit.then (Rm P c Q) Q) a w):Rm P c Q a w:=fun b k cs=>by
 obtain⟨e,a₁,w₁,hq,harr⟩:=h b (.inLoop c::k) cs;cases e with
 | normal =>
  obtain⟨e₂,a₂,w₂,hq₂,harr₂⟩:=hq b k cs;exact⟨e₂,a₂,w₂,hq₂,.of_steps (Steps.trans harr (.one step_inLoop)) harr₂⟩
 | exit id=>exact⟨_,a₁,w₁,hq,.pass (x:=.inLoop c) rfl (fun _ _=>.inl (by simp)) harr⟩
 | goto l=>exact⟨_,a₁,w₁,hq,.pass (x:=.inLoop c) rfl (fun _ _=>.inl (by simp)) harr⟩
 | ret=>exact⟨_,a₁,w₁,hq,.pass (x:=.inLoop c) rfl (fun _ _=>.inl (by simp)) harr⟩
 | panic ch=>exact⟨_,a₁,w₁,hq,.pass (x:=.inLoop c) rfl (fun _ _=>.inl (by simp)) harr⟩
 | outgrown=>exact⟨_,a₁,w₁,hq,.pass (x:=.inLoop c) rfl (fun _ _=>.inl (by simp)) harr⟩
def VwL (P:Program) (N:Nat) (c:Code) (S:St) (Q:Exit->St->Prop):Prop :=
 ∀(w0:World) (own0:Nat->Nat->Prop) (pl0:Pls) (g:Lab) (pl:Pls) (a:Act) (w:World),Rel N w0 own0 pl0 g pl S a w->Rm P c (PQ N w0 own0 pl0 S.fix Q) a w
variable {P:Program} {N:Nat} {S:St} {Q:Exit->St->Prop}
theorem Yvh {c:Code}(h:VwL P N c S Q):Vw P N (.loop c) S Q:=fun w0 own0 pl0 g pl a w hR=>(h w0 own0 pl0 g pl a w hR).wp
theorem Yce {c:Code}(h:Vw P N c S (B6 (fun S'=>VwL P N c S' Q) Q)):VwL P N c S Q:=fun w0 own0 pl0 g pl a w hR=>by
 refine Rm.round (wp_mono (h w0 own0 pl0 g pl a w hR) ?_);rintro e a' w' ⟨S',g',pl',q,hf,r⟩;cases e with
 | normal =>
  have:=q w0 own0 pl0 g' pl' a' w' r;rw[hf]at this;exact this
 | exit id=>exact⟨S',g',pl',q,hf,r⟩
 | goto l=>exact⟨S',g',pl',q,hf,r⟩
 | ret=>exact⟨S',g',pl',q,hf,r⟩
 | panic ch=>exact⟨S',g',pl',q,hf,r⟩
 | outgrown=>exact⟨S',g',pl',q,hf,r⟩
theorem Ycd {c:Code}{T:St}(hl:Le S T) (h:VwL P N c T Q):VwL P N c S Q:=fun w0 own0 pl0 g pl a w hR=>by
 obtain⟨g1,pl1,hR1⟩:=hl.2 N w0 own0 pl0 g pl a w hR;have:=h w0 own0 pl0 g1 pl1 a w hR1;rw[hl.1]at this;exact this
theorem Yvg {c:Code}(I:Nat->St->Prop) (hr:∀k T,I k T->Vw P N c T (B6 (fun S'=>∃k' T',k'<k/\I k' T'/\Le S' T') Q)):∀(n:Nat) (T:St),I n T->VwL P N c T Q:=by
 intro n
 induction n using Nat.strongRecOn with
 | _ n ih =>
  intro T hT;refine Yce fun w0 own0 pl0 g pl a w hR=>?_;refine wp_mono (hr n T hT w0 own0 pl0 g pl a w hR) ?_;rintro e a' w' ⟨S',g',pl',q,hf,r⟩;refine⟨S',g',pl', ?_,hf,r⟩;cases e with
  | normal =>
   obtain⟨k',T',hk,hI',hl'⟩:=q;exact Ycd hl' (ih k' hk T' hI')
  | exit id=>exact q
  | goto l=>exact q
  | ret=>exact q
  | panic ch=>exact q
  | outgrown=>exact q
def SwL (P:Program) (N:Nat) (s:Stm) (S:St) (Q:Exit->St->Prop):Prop:=∀c,trC P N c=some s->VwL P N c S Q
theorem Yar {x:Stm}(h:SwL P N x S Q):Sw P N (.loop x) S Q:=fun c hc=>by
 cases c with
 | loop a =>
  simp only[trC,Kx,Stm.loop.injEq]at hc;obtain⟨x',hx,rfl⟩:=hc;exact Yvh (h a hx)
 | region id ops d=>cases d<;>simp [trC]at hc
 | seq a b=>simp [trC,Kn,Kg]at hc
 | cond c a b=>simp [trC,Kn,Kg]at hc
 | _=>simp [trC]at hc
theorem Yuc {x:Stm}(h:Sw P N x S (B6 (fun S'=>SwL P N x S' Q) Q)):SwL P N x S Q:=fun c hc=>by
 refine Yce fun w0 own0 pl0 g pl a w hR=>?_;refine wp_mono (h c hc w0 own0 pl0 g pl a w hR) ?_;rintro e a' w' ⟨S',g',pl',q,hf,r⟩;refine⟨S',g',pl', ?_,hf,r⟩;cases e with
 | normal=>exact q c hc
 | exit id=>exact q
 | goto l=>exact q
 | ret=>exact q
 | panic ch=>exact q
 | outgrown=>exact q
theorem Yub {x:Stm}(I:Nat->St->Prop) (n:Nat) (h0:∃T,I n T/\Le S T) (hr:∀k T,I k T->Sw P N x T (B6 (fun S'=>∃k' T',k'<k/\I k' T'/\Le S' T') Q)):SwL P N x S Q:=fun c hc=>by
 obtain⟨T,hT,hl⟩:=h0;exact Ycd hl (Yvg I (fun k T hI=>hr k T hI c hc) n T hT)
end Go.Vs
namespace Go.Vs
variable [Glb]
def Nl (P:Program):List GI->St->(St->Prop)->Prop
 | [],S,K=>∃T,Le S T/\K T
 | g::l,S,K=>∃T,Le S T/\Jc P g T fun S'=>Nl P l S' K
section
variable {P:Program} {N:Nat} {S:St} {Q:Exit->St->Prop}
theorem Zyu {ops:Array Oper}{w0:World}{own0:Nat->Nat->Prop}{pl0:Pls}{fx:Nat}:∀(l:List Oper) (k:Nat) (gis:List GI) (S:St) (g:Lab) (pl:Pls) (a:Act) (w:World),(∀j,l[j]? = ops[k+j]?)->Fm P N ops l=some gis->S.fix=fx->Rel N w0 own0 pl0 g pl S a w->Nl P gis S (Q .normal) ->
  wpOps P ops (PQ N w0 own0 pl0 fx Q) (List.range' k l.length) a w
 | [],k,gis,S,g,pl,a,w,_,ht,hf,hR,h=>by
  simp only[Fm,Ka]at ht;subst ht;obtain⟨T,hl,hK⟩:=h;obtain⟨g',pl',hR'⟩:=hl.2 N w0 own0 pl0 g pl a w hR;exact⟨T,g',pl',hK,hl.1.trans hf,hR'⟩
 | o::l,k,gis,S,g,pl,a,w,hl,ht,hf,hR,h=>by
  simp only[Fm,Kn,Kg,Ka]at ht;obtain⟨gi,hgi,gs,hgs,rfl⟩:=ht;obtain⟨T,hle,h⟩:=h;obtain⟨g',pl',hR'⟩:=hle.2 N w0 own0 pl0 g pl a w hR;simp only[Ke,Kkf];rw[wpOps_cons];have h0:ops[k]? = some o:=by simpa using (hl 0).symm
  refine Yah hR' h0 hgi h ?_;intro S' g2 pl2 a' w' hf' hK hR2;exact Zyu l (k+1) gs S' g2 pl2 a' w' (fun j=>by have:=hl (j+1);simpa [Kmb,Nat.add_comm 1 j] using this) hgs (by rw[hf',hle.1,hf]) hR2 hK
theorem Yvc {id:Nat}{ops:Array Oper}{gis:List GI}(ht:Fm P N ops ops.toList=some gis) (h:Nl P gis S (Q .normal)):Vw P N (.region id ops false) S Q:=fun w0 own0 pl0 g pl a w hR=>by
 refine wp_region ?_;rw[List.range_eq_range',<-Ktb];exact Zyu ops.toList 0 gis S g pl a w (by simp) ht rfl hR h
theorem Yt8 {gis:List GI}(h:Nl P gis S (Q .normal)):Sw P N (.reg gis) S Q:=fun c hc=>by
 cases c with
 | region id ops d =>
  cases d with
  | false =>
   simp only[trC,Kx,Stm.reg.injEq]at hc;obtain⟨gs,hg,rfl⟩:=hc;exact Yvc hg h
  | true=>simp [trC]at hc
 | seq a b=>simp [trC,Kn,Kg]at hc
 | cond c a b=>simp [trC,Kn,Kg]at hc
 | _=>simp [trC]at hc
theorem Ytv {g:GI}{K K':St->Prop}(h:Jc P g S K) (hk:∀S',K S'->K' S'):Jc P g S K':=by
 have e:∀j:J,evJ P S (fun x ks roots nx=>K ⟨Bg g.dst x (B9 ks S.env),roots,nx,S.fix⟩) j->evJ P S (fun x ks roots nx=>K' ⟨Bg g.dst x (B9 ks S.env),roots,nx,S.fix⟩) j:=by
  intro j hj;obtain⟨x,ks,r,n,h1,h2⟩:=Zlg hj;exact h2 _ (hk _ h1)
 unfold Jc at h ⊢;split at h
 ·rename_i hg;exact e _ h
 ·rename_i t want hg;split at h
  ·exact⟨fun hb=>e _ (h.1 hb),fun hb=>hk _ (h.2 hb)⟩
  ·exact hk _ h
  ·exact h.elim
theorem Zyt {K:St->Prop}:∀(l l':List GI) (S:St),Nl P l S (fun S'=>Nl P l' S' K)->Nl P (l++l') S K
 | [],[],S,h=>by
  obtain⟨T,h1,U,h2,h3⟩:=h;exact⟨U,h1.trans h2,h3⟩
 | [],g::l',S,h=>by
  obtain⟨T,h1,U,h2,h3⟩:=h;exact⟨U,h1.trans h2,h3⟩
 | g::l,l',S,h=>by
  obtain⟨T,h1,h2⟩:=h;exact⟨T,h1,Ytv h2 fun S' h=>Zyt l l' S' h⟩
end
structure CEnt (P:Program) where
 f:FuncId
 F:List UInt8->Option Int
 ok:∀x h,F x=some h->Zcx P f (.sl 1 (x.map (Af .Y))) [.int .i64 0,.int .i64 h]
def Zei {P:Program}{β:Type}(X:XSt) (e:CEnt P) (vs:List XV) (k:XV->XSt->Option β):Option β:=match vs with
 | [.a (.c c)]=>Ei X.roots (.L .Y) [c] fun x rest=>match rest with
  | []=>bnd (e.F x) fun h=>k (.a (.c (.pb X.next 0))) (X.newR (.bx [(X.stamp,c),(X.stamp,.i .i64 0),(X.stamp,.i .i64 h)]))
  | _=>none
 | _=>none
theorem Zsh {P:Program}{β:Type}{X:XSt}{S:St}{out:β}(hX:XOk X) (hS:SimX X S){e:CEnt P}{args:List Opd}{k:XV->XSt->Option β}(h:Zei X e (args.map X.opd) k=some out):Zbj P X S e.f args k out:=by
 unfold Zei at h;split at h
 ·rename_i c hc;have ha:=Up hX hS args;rw[hc]at ha
  match hy:args.map S.opd,ha with
  | [y],ha =>
  obtain⟨⟨hw,ho⟩,_⟩:=ha;obtain⟨x,c0,rest,hcc,h,hcd⟩:=Mt (nx:=X.next) (st:=X.stamp) (.L .Y) [c] _ out (fun c' hc=>by simp only[Kta]at hc;subst hc;exact ho) h;split at h
  ·rw[Kq]at hcc;subst hcc;obtain⟨z,hz,h⟩:=F5 h;have hcd1:CD X.roots c (.sl 1 (x.map (Af .Y))):=hcd.1;have hyc:=hw.c hcd1.ne;have hnx:S.next=X.next:=hS.next;have hM:=e.ok x z hz;obtain⟨f1,f2,f3⟩:=Qp (x:=.bx [(X.stamp,c),(X.stamp,.i .i64 0),(X.stamp,.i .i64 z)]) (y:=.bx [cC X.roots c,.lf (.int .i64 0),.lf (.int .i64 z)]) (E:=S.env) (R:=S.roots) (n:=S.next) (f:=S.fix) hX hS (fun cs' h e he=>by
    simp only[XR.bx.injEq]at h;subst h;simp only[Kh,List.not_mem_nil,or_false]at he;rcases he with rfl|rfl|rfl
    ·exact⟨rfl,ho⟩
    ·exact⟨rfl,trivial⟩
    ·exact⟨rfl,trivial⟩) ⟨_,rfl,⟨WkC.refl _,WkC.refl _,WkC.refl _,trivial⟩⟩
   refine⟨_,_,h,f1,f2,Ksa _,rfl,.a (.c (.pb S.next 0)),[],(S.next,.bx [cC X.roots c,.lf (.int .i64 0),.lf (.int .i64 z)])::S.roots,Znz hnx, ?_,⟨rfl,fun r s x hl hs=>?_⟩,fun K hK=>?_⟩
   ·rw[Oc,hnx];exact f3
   ·simp only[XSt.newR]at hl;rw[Bf]at hl;split at hl
    ·simp only[Ka,Kb]at hl;omega
    ·rename_i hne;simp only[get];rw[if_neg (by rw[hnx];exact hne)]
   ·refine .inr (.inr (.inr ⟨cC X.roots c,_,_,by rw[hy,hyc],hM,Zd3 hS hcd1, ?_⟩));rw[hnx];rw[hnx]at hK;exact hK
  ·simp at h
 ·simp at h
structure HEnt (P:Program) where
 f:FuncId
 g:FuncId
 n:Nat
 args:List GArg
 res:List (Bool×Ty)
 F:Tp (C1 args)->Option (Tp (Fj args res))
 ok:∀x y,F x=some y->X6 (fun ws w R=>Calls P f (Ib n g ws).toArray w R) (A2 args x) (Lr args res (Du _ y))
def vaX:List XA->List XV
 | []=>[]
 | a::l=>.a a::vaX l
def Rr:List XV->List XV->List XV
 | [],r=>r
 | a::l,r=>a::Rr l r
def Py {β:Type}:Nat->List XV->List XV->(List XV->FuncId->List XA->Option β)->Option β
 | 0,[v],acc,k=>match v with
  | .fn g cs=>k acc g cs
  | _=>none
 | n+1,v::l,acc,k=>Py n l (Rr acc [v]) k
 | _,_,_,_=>none
def Zd1 {P:Program}{β:Type}(X:XSt) (e:HEnt P) (vs:List XV) (k:XV->XSt->Option β):Option β :=
 Py e.n vs [] fun us g cs=>match Nat.beq g e.g with
  | true=>Zd0 X e.args e.res e.F (Rr us (vaX cs)) k
  | false=>none
theorem Zdr:∀(l r:List XV),Rr l r=l++r
 | [],r=>rfl
 | a::l,r=>by simp only[Rr,Zdr l r,Kl]
theorem Zqe:∀l:List XA,vaX l=l.map XV.a
 | []=>rfl
 | a::l=>by simp only[vaX,Zqe l,Kc]
theorem Zsj {β:Type}{out:β}:∀(n:Nat) (vs acc:List XV){k:List XV->FuncId->List XA->Option β},Py n vs acc k=some out->∃us g cs,vs=us++[.fn g cs]/\us.length=n/\k (acc++us) g cs=some out
 | 0,[],acc,k,h=>by simp [Py]at h
 | 0,v::w::l,acc,k,h=>by simp [Py]at h
 | 0,[v],acc,k,h=>by
  simp only[Py]at h;split at h
  ·exact⟨[],_,_,rfl,rfl,by simpa using h⟩
  ·cases h
 | n+1,[],acc,k,h=>by simp [Py]at h
 | n+1,v::l,acc,k,h=>by
  simp only[Py]at h;obtain⟨us,g,cs,rfl,h1,h2⟩:=Zsj n l _ h;refine⟨v::us,g,cs,rfl,by simp [h1], ?_⟩;rw[Zdr]at h2;simpa using h2
theorem Zjh {X:XSt}:∀{ys:List A}{cs:List XA},Ab WkA ys (cs.map (cA X.roots))->(∀x∈cs,okA X.roots X.next X.stamp x)->Ab (fun y v=>WkV y (cV X.roots v)/\okV X.roots X.next X.stamp v) (ys.map V.a) (cs.map XV.a)
 | [],[],_,_=>trivial
 | y::ys,c::cs,h,ho=>⟨⟨h.1,ho c Ks⟩,Zjh h.2 fun x hx=>ho x (Ko _ hx)⟩
 | [],_::_,h,_=>h.elim
 | _::_,[],h,_=>h.elim
theorem Zq2 {α β:Type}{R:α->β->Prop}:∀{as:List α}{bs cs:List β},Ab R as (bs++cs)->∃a1 a2,as=a1++a2/\Ab R a1 bs/\Ab R a2 cs
 | as,[],cs,h=>⟨[],as,rfl,trivial,h⟩
 | [],b::bs,cs,h=>h.elim
 | a::as,b::bs,cs,h=>by
  obtain⟨a1,a2,rfl,h1,h2⟩:=Zq2 h.2;exact⟨a::a1,a2,rfl,⟨h.1,h1⟩,h2⟩
theorem Zrq {P:Program}{β:Type}{X:XSt}{S:St}{out:β}(hX:XOk X) (hS:SimX X S){e:HEnt P}{args:List Opd}{k:XV->XSt->Option β}(h:Zd1 X e (args.map X.opd) k=some out):Zbj P X S e.f args k out:=by
 unfold Zd1 at h;obtain⟨us,g,cs,hvs,hn,h⟩:=Zsj _ _ _ h;simp only[Kj]at h;split at h
 case h_2=>cases h
 rename_i hb;have hg:=Kr hb;subst hg;rw[Zdr,Zqe]at h;have ha:=Up hX hS args;rw[hvs]at ha;obtain⟨y1,y2,hy,h1,h2⟩:=Zq2 ha
 match y2,h2 with
 | [y],h2 =>
  obtain⟨⟨hw,ho⟩,_⟩:=h2;cases y with
  | fn q caps =>
   obtain⟨rfl,hw⟩:=hw;have hl:=h1.length;refine (Zjy hX hS e.ok (Ab.append h1 (Zjh hw ho)) h).mono fun K hK=>.inr (.inr (.inl ⟨y1,e.g,caps,hy, ?_⟩));rw[show y1.length=e.n by omega];exact hK
  | _=>exact hw.elim
inductive Fx (P:Program) where
 | see (e:SEnt P)
 | gen (e:GEnt P)
 | cur (e:CEnt P)
 | hof (e:HEnt P)
 | fs (e:SEnt P) (h:Yl P e.f=true)
 | fv (e:GEnt P) (h:Yl P e.f=true)
def Fx.f {P:Program}:Fx P->FuncId
 | .see e=>e.f
 | .gen e=>e.f
 | .cur e=>e.f
 | .hof e=>e.f
 | .fs e _=>e.f
 | .fv e _=>e.f
def R8 {P:Program}:List (Fx P)->FuncId->Option (Fx P)
 | [],_=>none
 | e::l,f=>match Nat.beq e.f f with
  | true=>some e
  | false=>R8 l f
theorem Li {P:Program}{f:FuncId}{e:Fx P}:∀{l:List (Fx P)},R8 l f=some e->e.f=f
 | [],h=>by simp [R8]at h
 | x::l,h=>by
  simp only[R8]at h;split at h
  ·rename_i hb;simp only[Ka]at h;subst h;exact Kr hb
  ·exact Li h
def hnt (H:List (Nat×Hn)) (d:Option Nat):Hn:=match d with
 | none=>.no
 | some t=>match H with
  | []=>.no
  | (q,h)::l=>match Nat.beq q t with
   | true=>h
   | false=>hnt l (some t)
def Zd2 {P:Program}{β:Type}(Φ:List (Fx P)) (X:XSt) (f:Opd) (args:List Opd) (k:XV->XSt->Option β):Option β:=match X.opd f with
 | .fn g cs=>match R8 Φ g with
  | some (.fs e _)=>Wd X e (Rr (args.map X.opd) (vaX cs)) k
  | some (.fv e _)=>Zdz X e (Rr (args.map X.opd) (vaX cs)) k
  | _=>none
 | _=>none
theorem Zru {P:Program}{β:Type}{Φ:List (Fx P)}{X:XSt}{S:St}{out:β}(hX:XOk X) (hS:SimX X S){f:Opd}{args:List Opd}{k:XV->XSt->Option β}(h:Zd2 Φ X f args k=some out):ClT X S (fun K=>evJ P S K (.wr (.calv f args))) k out:=by
 unfold Zd2 at h;split at h
 case h_2=>cases h
 rename_i g cs hf;have h1:=Gq hS f;have h2:=Fb hX f;rw[hf]at h1 h2;have ha:=Up hX hS args;rw[Zdr,Zqe]at h;cases hy:S.opd f with
 | fn q caps =>
  rw[hy]at h1;obtain⟨rfl,hw⟩:=h1;have hall:=Ab.append ha (Zjh hw h2);split at h
  ·rename_i e hb he;have:=Li he;simp only[Fx.f]at this;subst this;exact (Zzy hX hS hall h).mono fun K hK=>⟨_,_,hy,hb,.inr (.inl hK)⟩
  ·rename_i e hb he;have:=Li he;simp only[Fx.f]at this;subst this;exact (Zjy hX hS (C:=fun vs w R=>Calls P e.f vs.toArray w R) e.ok hall h).mono fun K hK=>⟨_,_,hy,hb,.inl hK⟩
  ·cases h
 | _=>rw[hy]at h1;exact h1.elim
def doX {P:Program}{β:Type}(Φ:List (Fx P)) (H:List (Nat×Hn)) (g:GI) (X:XSt) (k:XSt->Option β):Option β:=match g.op with
 | .rd i=>rdX X i fun v=>k (X.put g.dst v)
 | .wr j=>match j with
  | .call f args=>match R8 Φ f with
   | some (.see e)=>Wd X e (args.map X.opd) fun v X'=>k (X'.put g.dst v)
   | some (.gen e)=>Zdz X e (args.map X.opd) fun v X'=>k (X'.put g.dst v)
   | some (.cur e)=>Zei X e (args.map X.opd) fun v X'=>k (X'.put g.dst v)
   | some (.hof e)=>Zd1 X e (args.map X.opd) fun v X'=>k (X'.put g.dst v)
   | _=>none
  | .calv f args=>Zd2 Φ X f args fun v X'=>k (X'.put g.dst v)
  | j=>wrX X (hnt H g.dst) j fun v X'=>k (X'.put g.dst v)
def XSt.know (X:XSt) (t:Nat) (b:Bool):XSt:=X.put (some t) (.a (.c (.b b)))
def XSt.knowO (X:XSt) (c:Opd) (b:Bool):XSt:=match c with
 | .t n=>X.know n b
 | .k _=>X
def Zhk {P : Program} {β : Type} (Φ : List (Fx P)) (H : List (Nat × Hn)) (g : GI) (X : XSt) (k : XSt → Option β) : Option β := match g.guard with
  | none => doX Φ H g X k
  | some (t, want) => match lk X.env t with
    | some (_, .a (.c (.b b))) => cnd b
      (match want with
        | true => doX Φ H g (X.know t true) k
        | false => k ((X.know t true).put g.dst (.tp [])))
      (match want with
        | true => k ((X.know t false).put g.dst (.tp []))
        | false => doX Φ H g (X.know t false) k)
    | some (_, .tp _) => k (X.put g.dst (.tp []))
    | _ => none
def Wa {P:Program}{β:Type}(Φ:List (Fx P)) (H:List (Nat×Hn)):List GI->XSt->(XSt->Option β)->Option β
 | [],X,k=>k X
 | g::l,X,k=>Zhk Φ H g X fun X'=>Wa Φ H l X' k
def Zam {P:Program}{β:Type}(Φ:List (Fx P)) (H:List (Nat×Hn)):List (Nat×List It)->List GI->XSt->(XSt->Option β)->Option β
 | [],gis,X,k=>Wa Φ H gis X k
 | (n,its)::l,gis,X,k=>Ao (Wa (β:=Tp (It.tys its) ⊕ β) Φ H (gis.take n) X fun X'=>Lt X X' its fun s=>some (.inl s)) fun s=>Zam Φ H l (gis.drop n) (Ix X its s) k
def Mi (X:XSt) (i:I):List Nat:=match i with
 | .load _ x=>match X.opd x with
  | .a (.c (.pe r _ _ _ _ _ _))=>[r]
  | .a (.c (.pb r _))=>[r]
  | _=>[]
 | .b2s x=>match X.opd x with
  | .a (.c (.rw r))=>[r]
  | .a (.c (.rv r _ _))=>[r]
  | .a (.c (.rf r _ _ _ _ _))=>[r]
  | _=>[]
 | _=>[]
def Zu (X:XSt) (j:J):List Nat:=match j with
 | .rd i=>Mi X i
 | .wr _=>[]
def Lx (R:XRs):List Nat->List (Nat×Nat)
 | []=>[]
 | r::l=>match lk R r with
  | some (s,_)=>(r,s)::Lx R l
  | none=>Lx R l
def Vo (R:XRs):List Nat->Bool
 | []=>true
 | r::l=>match lk R r with
  | some _=>Vo R l
  | none=>false
def Oq (R:XRs):List (Nat×Nat)->Bool
 | []=>true
 | (r,s)::l=>Co R r s&&Oq R l
def Zg9 (l:List (Nat×Nat)):List XRs->Bool
 | []=>true
 | R::h=>Oq R l&&Zg9 l h
abbrev Ro:=List (List (Nat×Nat)×Nat)
def Zha (R:XRs) (n:Nat):Ro->Bool
 | []=>true
 | (l,hi)::ps=>(match Nat.ble n hi with
  | true=>Oq R l
  | false=>true)&&Zha R n ps
def doD {P:Program}{β:Type}(Φ:List (Fx P)) (H:List (Nat×Hn)) (g:GI) (X:XSt) (k:XV->XSt->Option β):Option β:=match g.op with
 | .rd i=>rdX X i fun v=>k v X
 | .wr j=>match j with
  | .call f args=>match R8 Φ f with
   | some (.see e)=>Wd X e (args.map X.opd) k
   | some (.gen e)=>Zdz X e (args.map X.opd) k
   | some (.cur e)=>Zei X e (args.map X.opd) k
   | some (.hof e)=>Zd1 X e (args.map X.opd) k
   | _=>none
  | .calv f args=>Zd2 Φ X f args k
  | j=>match Z8 X j with
   | true=>wrX X (hnt H g.dst) j k
   | false=>none
def Zpg {P : Program} {β : Type} (Φ : List (Fx P)) (H : List (Nat × Hn)) (g : GI) (X : XSt) (k : List Nat → XV → XSt → Option β) : Option β := match g.guard with
  | none => doD Φ H g X fun v X' => k (Zu X g.op) v X'
  | some (t, want) => match lk X.env t with
    | some (_, .a (.c (.b b))) => cnd b
      (match want with
        | true => doD Φ H g (X.know t true) fun v X' => k (Zu (X.know t true) g.op) v X'
        | false => k [] (.tp []) (X.know t true))
      (match want with
        | true => k [] (.tp []) (X.know t false)
        | false => doD Φ H g (X.know t false) fun v X' => k (Zu (X.know t false) g.op) v X')
    | some (_, .tp _) => k [] (.tp []) X
    | _ => none
def Zgb (m:Nat):Ro->Bool
 | []=>true
 | (_,hi)::l=>Nat.ble hi m&&Zgb m l
def Zv5 (n:Nat) (it:DI) (l:List DI) (m:Nat) (pend:Ro):Bool:=match l with
 | []=>it.w&&((List.range (n-1)).all (fun b=>it.anc.contains b)&&Zgb m pend)
 | _=>false
def R3 {P:Program}{β:Type}(Φ:List (Fx P)) (H:List (Nat×Hn)) (n:Nat):List DI->XSt->List XRs->Ro->(XSt->Option β)->Option β
 | [],X,_,_,k=>k X
 | it::l,X,hist,pend,k=>match Zv5 n it l hist.length pend with
  | true=>Zhk Φ H it.gi X k
  | false=>Zpg Φ H it.gi X fun loc v X'=>match it.w with
  | true=>match Zha X'.roots (hist.length+1) pend with
   | true=>R3 Φ H n l (X'.put it.gi.dst v) (X.roots::hist) pend k
   | false=>none
  | false=>match Vo X'.roots loc&&Zg9 (Lx X'.roots loc) (hist.take (hist.length-it.lo)) with
   | true=>R3 Φ H n l (X'.put it.gi.dst v) hist (match Nat.blt hist.length it.hi with
    | true=>(Lx X'.roots loc,it.hi)::pend
    | false=>pend) k
   | false=>none
inductive An where
 | d
 | rg (l:List (Nat×List It))
 | sq (j:Option (List It)) (a b:An)
 | cd (a b:An)
 | bl (a:An)
 | lp (its:List It) (a:An)
 | pl (a:An) (its:List It) (b:An)
open Classical in
noncomputable def Rq {β:Type}(a b:Option β):Option β:=if a=b then a else none
theorem Zq4 {β:Type}(a:Option β):Rq a a=a:=by unfold Rq;rw[if_pos rfl]
theorem Zq5 {β:Type}{a b:Option β}{r:β}(h:Rq a b=some r):a=some r/\b=some r:=by
 unfold Rq at h;split at h
 ·rename_i e;exact⟨h,by rw[<-e];exact h⟩
 ·cases h
noncomputable def Zdp {β:Type}(f:List DI->Option β):List (List DI)->Option β
 | []=>none
 | its::l=>match l with
  | []=>f its
  | _=>Rq (f its) (Zdp f l)
theorem Zq6 {β:Type}{f:List DI->Option β}{r:β}:∀{l:List (List DI)},Zdp f l=some r->∀its∈l,f its=some r
 | [],h,its,hi=>by cases hi
 | x::l,h,its,hi=>by
  simp only[Zdp]at h;split at h
  ·rcases Kh.1 hi with rfl|hi
   ·exact h
   ·cases hi
  ·obtain⟨h1,h2⟩:=Zq5 h;rcases Kh.1 hi with rfl|hi
   ·exact h1
   ·exact Zq6 h2 its hi
noncomputable def C8 {P:Program}(Φ:List (Fx P)) (H:List (Nat×Hn)):Stm->An->{β:Type}->XSt->(Exit->XSt->Option β)->Option β
 | .reg gis,an,_,X,k=>match an with
  | .rg l=>Zam Φ H l gis X (k .normal)
  | _=>Wa Φ H gis X (k .normal)
 | .seq x y,an,β,X,k=>match an with
  | .sq (some its) a b=>Ao (C8 Φ H x a (β:=Tp (It.tys its) ⊕ β) X fun e X'=>match e with
    | .normal=>Lt X X' its fun s=>some (.inl s)
    | e=>Ls (k e X')) fun s=>C8 Φ H y b (Ix X its s) k
  | .sq none a b=>C8 Φ H x a X fun e X'=>match e with
    | .normal=>C8 Φ H y b X' k
    | e=>k e X'
  | _=>C8 Φ H x .d X fun e X'=>match e with
    | .normal=>C8 Φ H y .d X' k
    | e=>k e X'
 | .cond c x y,an,_,X,k=>match X.opd c with
  | .a (.c (.b t))=>match an with
   | .cd a b=>cnd t (C8 Φ H x a (X.knowO c true) k) (C8 Φ H y b (X.knowO c false) k)
   | _=>cnd t (C8 Φ H x .d (X.knowO c true) k) (C8 Φ H y .d (X.knowO c false) k)
  | _=>none
 | .block id x,an,_,X,k=>C8 Φ H x (match an with|.bl a=>a|_=>.d) X fun e X'=>match e with
  | .exit id'=>match Nat.beq id' id with
   | true=>k .normal X'
   | false=>k (.exit id') X'
  | e=>k e X'
 | .loop x,an,β,X,k=>match an with
  | .lp its a=>Lt X X its fun s=>Ar (fun s=>C8 Φ H x a (β:=Tp (It.tys its) ⊕ β) (Ix X its s) fun e X'=>match e with
    | .normal=>Lt X X' its fun s=>some (.inl s)
    | e=>Ls (k e X')) s
  | .pl a1 its a=>C8 Φ H x a1 X fun e X1=>match e with
    | .normal=>Lt X1 X1 its fun s=>Ar (fun s=>C8 Φ H x a (β:=Tp (It.tys its) ⊕ β) (Ix X1 its s) fun e X'=>match e with
      | .normal=>Lt X1 X' its fun s=>some (.inl s)
      | e=>Ls (k e X')) s
    | e=>k e X1
  | _=>none
 | .exit id,_,_,X,k=>k (.exit id) X
 | .ret,_,_,X,k=>k .ret X
 | .skip,_,_,X,k=>k .normal X
 | .drw its,_,_,X,k=>match okD its with
  | true=>R3 Φ H its.length its X [] [] (k .normal)
  | false=>none
 | .alt l,_,_,X,k=>Zdp (fun its=>match okD its with
  | true=>R3 Φ H its.length its X [] [] (k .normal)
  | false=>none) l
section
variable {P:Program} {N:Nat} {β:Type} {out:β} {Φ:List (Fx P)} {H:List (Nat×Hn)}
theorem Zmv {X:XSt}{S:St}(hX:XOk X) (hS:SimX X S){t:Nat}{b:Bool}{s:Nat}(hl:lk X.env t=some (s,.a (.c (.b b)))):XOk (X.know t b)/\Ext X (X.know t b)/\SimX (X.know t b) S:=by
 obtain⟨a,c⟩:=I7 hX (d:=some t) (v:=.a (.c (.b b))) trivial;refine⟨a,c,⟨hS.next,hS.fix, ?_,hS.roots⟩⟩;intro q s' v hq;simp only[XSt.know,XSt.put]at hq;rw[Bf]at hq;split at hq
 ·rename_i e;simp only at e;subst e;simp only[Ka,Kb]at hq;obtain⟨_,rfl⟩:=hq;exact hS.env _ _ _ hl
 ·exact hS.env q s' v hq
theorem Zkl {X:XSt}{S:St}(hX:XOk X) (hS:SimX X S){g:GI}{k:XSt->Option β}(h:doX Φ H g X k=some out){K:St->Prop}
  (hk:∀X' S',XOk X'->Ext X X'->SimX X' S'->k X'=some out->K S'):evJ P S (fun x ks roots nx=>K ⟨Bg g.dst x (B9 ks S.env),roots,nx,S.fix⟩) g.op:=by
 unfold doX at h;split at h
 ·rename_i i hop;rw[hop];obtain⟨xv,h,ho,v,hw,hev⟩:=Zn5 hX hS h;show ev S (fun v=>K ⟨Bg g.dst v (B9 [] S.env),S.roots,S.next,S.fix⟩) i;refine hev _ ?_;obtain⟨a,b⟩:=I7 hX (d:=g.dst) ho;exact hk _ _ a b (My hS hw) h
 ·rename_i j hop;rw[hop];split at h
  ·rename_i f args;split at h
   ·rename_i e he;have hf:=Li he;simp only[Fx.f]at hf;subst hf;obtain⟨xv,X',h,h1,h2,h3,h4,v,ks,roots,h5,h6,_,h7⟩:=Zzz hX hS h;refine h7 _ ?_;obtain⟨a,b⟩:=I7 h1 (d:=g.dst) h3;exact hk _ _ a (h2.trans b) (My h6 h5) h
   ·rename_i e he;have hf:=Li he;simp only[Fx.f]at hf;subst hf;obtain⟨xv,X',h,h1,h2,h3,h4,v,ks,roots,h5,h6,_,h7⟩:=Zrp hX hS h;refine h7 _ ?_;obtain⟨a,b⟩:=I7 h1 (d:=g.dst) h3;exact hk _ _ a (h2.trans b) (My h6 h5) h
   ·rename_i e he;have hf:=Li he;simp only[Fx.f]at hf;subst hf;obtain⟨xv,X',h,h1,h2,h3,h4,v,ks,roots,h5,h6,_,h7⟩:=Zsh hX hS h;refine h7 _ ?_;obtain⟨a,b⟩:=I7 h1 (d:=g.dst) h3;exact hk _ _ a (h2.trans b) (My h6 h5) h
   ·rename_i e he;have hf:=Li he;simp only[Fx.f]at hf;subst hf;obtain⟨xv,X',h,h1,h2,h3,h4,v,ks,roots,h5,h6,_,h7⟩:=Zrq hX hS h;refine h7 _ ?_;obtain⟨a,b⟩:=I7 h1 (d:=g.dst) h3;exact hk _ _ a (h2.trans b) (My h6 h5) h
   ·simp at h
  ·rename_i f args;obtain⟨xv,X',h,h1,h2,h3,h4,v,ks,roots,h5,h6,_,h7⟩:=Zru hX hS h;refine h7 _ ?_;obtain⟨a,b⟩:=I7 h1 (d:=g.dst) h3;exact hk _ _ a (h2.trans b) (My h6 h5) h
  ·rename_i hno hnv;obtain⟨xv,X',h,h1,h2,h3,h4,v,ks,roots,h5,h6,_,h7⟩:=Yco hX hS h;have h8:wr S (fun x ks roots nx=>K ⟨Bg g.dst x (B9 ks S.env),roots,nx,S.fix⟩) j:=by
    refine h7 _ ?_;obtain⟨a,b⟩:=I7 h1 (d:=g.dst) h3;exact hk _ _ a (h2.trans b) (My h6 h5) h
   cases j with
   | call f args=>exact (hno f args rfl).elim
   | calv f args=>exact (hnv f args rfl).elim
   | _=>exact h8
theorem Yak {X:XSt}{S:St}(hX:XOk X) (hS:SimX X S){g:GI}{k:XSt->Option β}(h:Zhk Φ H g X k=some out){K:St->Prop}
  (hk:∀X' S',XOk X'->Ext X X'->SimX X' S'->k X'=some out->K S'):Jc P g S K:=by
 have skip:∀{X':XSt},XOk X'->Ext X X'->SimX X' S->k (X'.put g.dst (.tp []))=some out->K ⟨Bg g.dst (.tp []) S.env,S.roots,S.next,S.fix⟩:=by
  intro X' h1 h2 h3 h4;obtain⟨a,b⟩:=I7 h1 (d:=g.dst) (v:=.tp []) (fun x hx=>by simp at hx);exact hk _ _ a (h2.trans b) (My (v:=.tp []) (xv:=.tp []) h3 trivial) h4
 unfold Zhk at h;unfold Jc;split at h
 ·rename_i hg;simp only[hg];exact Zkl hX hS h hk
 ·rename_i t want hg;simp only[hg];split at h
  ·rename_i s b hl;have hv:get S.env t=some (.a (.c (.lf (.bool b)))):=by
    rcases hS.env t s _ hl with h|⟨y,y1,y2⟩
    ·simp at h
    ·rw[y1,y2.c (by simp [cC])];rfl
   rw[hv];simp only;obtain⟨a,c,d⟩:=Zmv hX hS hl;have hk':∀X' S',XOk X'->Ext (X.know t b) X'->SimX X' S'->k X'=some out->K S':=fun X' S' h1 h2 h3 h4=>hk X' S' h1 (c.trans h2) h3 h4;rcases Zef h with ⟨rfl,h⟩|⟨rfl,h⟩
   ·cases want with
    | true=>exact⟨fun _=>Zkl a d h hk',fun e=>(e rfl).elim⟩
    | false=>exact⟨fun e=>by simp at e,fun _=>skip a c d h⟩
   ·cases want with
    | true=>exact⟨fun e=>by simp at e,fun _=>skip a c d h⟩
    | false=>exact⟨fun _=>Zkl a d h hk',fun e=>(e rfl).elim⟩
  ·rename_i s l hl;have hv:∃y,get S.env t=some (.tp y):=by
    rcases hS.env t s _ hl with h|⟨y,y1,y2⟩
    ·simp at h
    ·cases y with
     | tp ys=>exact⟨ys,y1⟩
     | _=>exact y2.elim
   obtain⟨ys,hv⟩:=hv;rw[hv];exact skip hX (Ext.refl X) hS h
  ·simp at h
theorem Zol:∀{gis:List GI}{X:XSt}{S:St},XOk X->SimX X S->∀{k:XSt->Option β},Wa Φ H gis X k=some out->∀{K:St->Prop},
  (∀X' S',XOk X'->Ext X X'->SimX X' S'->k X'=some out->∃T,Le S' T/\K T)->Nl P gis S K
 | [],X,S,hX,hS,k,h,K,hk=>hk X S hX (Ext.refl X) hS h
 | g::l,X,S,hX,hS,k,h,K,hk=>by
  simp only[Wa]at h;refine⟨S,Le.refl S,Yak hX hS h ?_⟩;intro X' S' h1 h2 h3 h4;exact Zol h1 h3 h4 fun X2 S2 a b c d=>hk X2 S2 a (h2.trans b) c d
theorem Zvu {σ ρ:Type}{o:Option (σ ⊕ ρ)}{f:σ->Option ρ}{r:ρ}(h:Ao o f=some r):∃z,o=some z/\((∃s,z=.inl s/\f s=some r)\/z=.inr r):=by
 unfold Ao at h;split at h
 ·rename_i s;exact⟨_,rfl,.inl ⟨s,rfl,h⟩⟩
 ·simp only[Ka]at h;subst h;exact⟨_,rfl,.inr rfl⟩
 ·simp at h
theorem Zys:∀{l:List (Nat×List It)}{gis:List GI}{X:XSt}{S:St},XOk X->SimX X S->∀{k:XSt->Option β},Zam Φ H l gis X k=some out->∀{K:St->Prop},
  (∀X' S',XOk X'->Ext X X'->SimX X' S'->k X'=some out->∃T,Le S' T/\K T)->Nl P gis S K
 | [],gis,X,S,hX,hS,k,h,K,hk=>Zol hX hS h hk
 | (n,its)::l,gis,X,S,hX,hS,k,h,K,hk=>by
  simp only[Zam]at h;obtain⟨z,h1,h2⟩:=Zvu h;rw[<-Ksc n gis];refine Zyt _ _ _ (Zol hX hS h1 ?_);intro X' S' a b c d;obtain⟨s,hs,hle⟩:=Zgm hX a b c d;simp only[Ka]at hs;subst hs;rcases h2 with ⟨s',e,h2⟩|e
  ·simp only[Sum.inl.injEq]at e;subst e;obtain⟨u1,u2⟩:=Zh4 hX its s;exact⟨_,hle,Zys u1 (Zo8 _) h2 fun X2 S2 a' b' c' d'=>hk X2 S2 a' (u2.trans b') c' d'⟩
  ·simp at e
theorem Yt5 {s:Stm}{S:St}{Q:Exit->St->Prop}(h:Sw P N s S fun e S'=>∃T,Le S' T/\Q e T):Sw P N s S Q:=fun c hc=>Zqf (h c hc)
theorem Zsb {X:XSt}{S:St}(hX:XOk X) (hS:SimX X S){c:Opd}{t:Bool}(hc:X.opd c=.a (.c (.b t))):XOk (X.knowO c t)/\Ext X (X.knowO c t)/\SimX (X.knowO c t) S:=by
 cases c with
 | k v=>exact⟨hX,Ext.refl X,hS⟩
 | t n =>
  obtain⟨s,hl⟩:=Zhr (X:=X) (t:=n) hc (by simp);exact Zmv hX hS hl
theorem Yio {X:XSt}{S:St}(hS:SimX X S){i:I}{k:XV->Option β}(h:rdX X i k=some out){K:V->Prop}(hk:ev S K i){R':List (Nat×Root)}{n':Nat}(hl:∀r∈Mi X i,get R' r=get S.roots r):ev ⟨S.env,R',n',S.fix⟩ K i:=by
 have Sb:Sc i=true->ev ⟨S.env,R',n',S.fix⟩ K i:=fun hf=>Zlh (E:=S.env) (R:=S.roots) (n:=S.next) (f:=S.fix) hf hk;have hop:∀x:Opd,(⟨S.env,R',n',S.fix⟩:St).opd x=S.opd x:=fun x=>by cases x<;>rfl
 cases i with
 | load m x =>
  simp only[rdX]at h;split at h
  ·rename_i r v p i c t e hx;split at h
   ·rename_i hv;have hxS:S.opd x=.a (.c (.pe r p i c)):=by rw[Bj hS hx (by simp [cC,hv])];simp only[cC,hv]
    have hr:=hl r (by simp [Mi,hx]);have hn:(⟨S.env,R',n',S.fix⟩:St).node r p=S.node r p:=by simp only[St.node,hr]
    cases m<;>(simp only[ev,hop,hxS,hn]at hk ⊢;exact hk)
   ·simp at h
  ·rename_i r c hx;split at h
   ·rename_i s cs hr0;have hxS:S.opd x=.a (.c (.pb r c)):=by rw[Bj hS hx (by simp [cC,hr0])];simp only[cC,hr0]
    have hr:=hl r (by simp [Mi,hx]);have hn:(⟨S.env,R',n',S.fix⟩:St).bcells r=S.bcells r:=by simp only[St.bcells,hr]
    cases m<;>(simp only[ev,hop,hxS,hn]at hk ⊢;exact hk)
   ·simp at h
  ·rename_i b o hx;have hxS:S.opd x=.a (.c (.lf (.pointer (some ⟨b,o,none⟩)))):=by rw[Bj hS hx (by simp [cC])];rfl
   cases m<;>(simp only[ev,hop,hxS]at hk ⊢;exact hk)
  ·simp at h
 | b2s x =>
  simp only[rdX]at h;split at h
  ·rename_i s hx;have hxS:=Bj hS hx (by simp [cC]);simp only[ev,hop,hxS,cC]at hk ⊢;exact hk
  ·rename_i c hc hx;have known:cC X.roots c≠.un/\∀r p s lo n,cC X.roots c=.rf r p s lo n->r∈Mi X (.b2s x):=by
    unfold O5 at h;split at h
    ·rename_i r;split at h
     ·rename_i hr;exact⟨by simp [cC,hr],fun r' p s lo n e=>by simp only[cC,hr,C.rf.injEq]at e;rw[<-e.1];simp [Mi,hx]⟩
     ·rename_i hr;exact⟨by simp [cC,hr],fun r' p s lo n e=>by simp only[cC,hr,C.rf.injEq]at e;rw[<-e.1];simp [Mi,hx]⟩
     ·simp at h
    ·rename_i r lo n;split at h
     ·rename_i hr;exact⟨by simp [cC,hr],fun r' p s lo n e=>by simp only[cC,hr,C.rf.injEq]at e;rw[<-e.1];simp [Mi,hx]⟩
     ·rename_i hr;exact⟨by simp [cC,hr],fun r' p s lo n e=>by simp only[cC,hr,C.rf.injEq]at e;rw[<-e.1];simp [Mi,hx]⟩
     ·simp at h
    ·rename_i r v p lo t ws;split at h
     ·rename_i hv;exact⟨by simp [cC,hv],fun r' p s lo n e=>by simp only[cC,hv,C.rf.injEq]at e;rw[<-e.1];simp [Mi,hx]⟩
     ·simp at h
    ·simp at h
   have hxS:=Bj hS hx known.1;cases hcc:cC X.roots c with
   | rf r p s lo n =>
    have hr:=hl r (known.2 _ _ _ _ _ hcc);have hn:(⟨S.env,R',n',S.fix⟩:St).node r p=S.node r p:=by simp only[St.node,hr]
    rw[hcc]at hxS;simp only[ev,hop,hxS]at hk ⊢;split at hk
    ·rename_i he;simp only[V.a.injEq,A.c.injEq,C.rf.injEq]at he;obtain⟨rfl,rfl,rfl,rfl,rfl⟩:=he;simp only[hn];exact hk
    ·rename_i he;simp at he
    ·exact hk.elim
   | _ =>
    rw[hcc]at hxS
    first
     | (simp only[ev,hop,hxS]at hk;done)
     | (simp only[ev,hop,hxS]at hk ⊢;exact hk)
  ·simp at h
 | _=>exact Sb rfl
theorem Zsp {X:XSt}{S:St}(hX:XOk X) (hS:SimX X S){g:GI}{k:XV->XSt->Option β}(h:doD Φ H g X k=some out) :
  ∃xv X',k xv X'=some out/\XOk X'/\Ext X X'/\okV X'.roots X'.next X'.stamp xv/\X'.env=X.env/\∃v roots,WkV v (cV X'.roots xv)/\SimX X' ⟨S.env,roots,X'.next,S.fix⟩/\(∀r s x,lk X'.roots r=some (s,x)->s<X.stamp->get roots r=get S.roots r)/\(∀K:KW,K v [] roots X'.next->evJ P S K g.op) /\
   (F6 g=true->X'=X/\roots=S.roots/\∀R' n',(∀r∈Zu X g.op,get R' r=get S.roots r)->evJ P ⟨S.env,R',n',S.fix⟩ (fun x' _ _ _=>x'=v) g.op):=by
 unfold doD at h;split at h
 ·rename_i i hop;have h0:=h;obtain⟨xv,h,ho,v,hw,hev⟩:=Zn5 hX hS h;have hS':SimX X ⟨S.env,S.roots,X.next,S.fix⟩:=⟨rfl,hS.fix,hS.env,hS.roots⟩;refine⟨xv,X,h,hX,Ext.refl X,ho,rfl,v,S.roots,hw,hS',fun _ _ _ _ _=>rfl, ?_, ?_⟩
  ·intro K hK;rw[hop];show ev S (fun v=>K v [] S.roots S.next) i;refine hev _ ?_;rw[hS.next];exact hK
  ·intro _;refine⟨rfl,rfl,fun R' n' hl=>?_⟩;rw[hop]at hl ⊢;exact Yio hS h0 (hev (fun x'=>x'=v) rfl) hl
 ·rename_i j hop;have hrd:F6 g=true->False:=by
   intro e;obtain⟨d,o,gd⟩:=g;simp only at hop;subst hop;simp [F6]at e
  split at h
  ·rename_i f args;split at h
   ·rename_i e he;have hf:=Li he;simp only[Fx.f]at hf;subst hf;obtain⟨xv,X',h,h1,h2,h3,h4,v,ks,roots,h5,h6,⟨rfl,h8⟩,h7⟩:=Zzz hX hS h;exact⟨xv,X',h,h1,h2,h3,h4,v,roots,h5,h6,h8,fun K hK=>by rw[hop];exact h7 K hK,fun e=>(hrd e).elim⟩
   ·rename_i e he;have hf:=Li he;simp only[Fx.f]at hf;subst hf;obtain⟨xv,X',h,h1,h2,h3,h4,v,ks,roots,h5,h6,⟨rfl,h8⟩,h7⟩:=Zrp hX hS h;exact⟨xv,X',h,h1,h2,h3,h4,v,roots,h5,h6,h8,fun K hK=>by rw[hop];exact h7 K hK,fun e=>(hrd e).elim⟩
   ·rename_i e he;have hf:=Li he;simp only[Fx.f]at hf;subst hf;obtain⟨xv,X',h,h1,h2,h3,h4,v,ks,roots,h5,h6,⟨rfl,h8⟩,h7⟩:=Zsh hX hS h;exact⟨xv,X',h,h1,h2,h3,h4,v,roots,h5,h6,h8,fun K hK=>by rw[hop];exact h7 K hK,fun e=>(hrd e).elim⟩
   ·rename_i e he;have hf:=Li he;simp only[Fx.f]at hf;subst hf;obtain⟨xv,X',h,h1,h2,h3,h4,v,ks,roots,h5,h6,⟨rfl,h8⟩,h7⟩:=Zrq hX hS h;exact⟨xv,X',h,h1,h2,h3,h4,v,roots,h5,h6,h8,fun K hK=>by rw[hop];exact h7 K hK,fun e=>(hrd e).elim⟩
   ·simp at h
  ·rename_i f args;obtain⟨xv,X',h,h1,h2,h3,h4,v,ks,roots,h5,h6,⟨rfl,h8⟩,h7⟩:=Zru hX hS h;exact⟨xv,X',h,h1,h2,h3,h4,v,roots,h5,h6,h8,fun K hK=>by rw[hop];exact h7 K hK,fun e=>(hrd e).elim⟩
  ·rename_i hno hnv;split at h
   ·rename_i hpl;obtain⟨xv,X',h,h1,h2,h3,h4,v,ks,roots,h5,h6,h9,h7⟩:=Yco hX hS h;obtain⟨rfl,h8⟩:=h9 hpl;refine⟨xv,X',h,h1,h2,h3,h4,v,roots,h5,h6,h8,fun K hK=>?_,fun e=>(hrd e).elim⟩;rw[hop];have h10:=h7 K hK;cases j with
    | call f args=>exact (hno f args rfl).elim
    | calv f args=>exact (hnv f args rfl).elim
    | _=>exact h10
   ·simp at h
theorem Ytu {X:XSt}{S:St}(hX:XOk X) (hS:SimX X S){g:GI}{k:List Nat->XV->XSt->Option β}(h:Zpg Φ H g X k=some out) :
  ∃loc xv X',k loc xv X'=some out/\XOk X'/\Ext X X'/\okV X'.roots X'.next X'.stamp xv/\∃v roots,WkV v (cV X'.roots xv)/\SimX X' ⟨S.env,roots,X'.next,S.fix⟩/\(∀r s x,lk X'.roots r=some (s,x)->s<X.stamp->get roots r=get S.roots r)/\(∀K:KW,K v [] roots X'.next->B5 P g S K) /\
   (F6 g=true->X'.roots=X.roots/\roots=S.roots/\X'.next=X.next/\∀R' n',(∀r∈loc,get R' r=get S.roots r)->B5 P g ⟨S.env,R',n',S.fix⟩ (fun x' _ _ _=>x'=v)):=by
 unfold Zpg at h;split at h
 ·rename_i hg;obtain⟨xv,X',h,h1,h2,h3,h4,v,roots,h5,h6,h7,h8,h9⟩:=Zsp hX hS h;refine⟨_,xv,X',h,h1,h2,h3,v,roots,h5,h6,h7,fun K hK=>?_,fun e=>?_⟩
  ·simp only[B5,hg];exact h8 K hK
  ·obtain⟨rfl,rfl,h10⟩:=h9 e;exact⟨rfl,rfl,rfl,fun R' n' hl=>by simp only[B5,hg];exact h10 R' n' hl⟩
 ·rename_i t want hg;split at h
  ·rename_i s b hl;have hv:get S.env t=some (.a (.c (.lf (.bool b)))):=by
    rcases hS.env t s _ hl with h|⟨y,y1,y2⟩
    ·simp at h
    ·rw[y1,y2.c (by simp [cC])];rfl
   obtain⟨a,c,d⟩:=Zmv hX hS hl;have d':SimX (X.know t b) ⟨S.env,S.roots,(X.know t b).next,S.fix⟩:=⟨rfl,d.fix,d.env,d.roots⟩;have run:∀{loc:List Nat},loc=Zu (X.know t b) g.op->b=want->doD Φ H g (X.know t b) (fun v X'=>k loc v X')=some out->∃loc xv X',k loc xv X'=some out/\XOk X'/\Ext X X'/\okV X'.roots X'.next X'.stamp xv/\∃v roots,WkV v (cV X'.roots xv)/\SimX X' ⟨S.env,roots,X'.next,S.fix⟩/\(∀r s x,lk X'.roots r=some (s,x)->s<X.stamp->get roots r=get S.roots r)/\(∀K:KW,K v [] roots X'.next->B5 P g S K) /\
     (F6 g=true->X'.roots=X.roots/\roots=S.roots/\X'.next=X.next/\∀R' n',(∀r∈loc,get R' r=get S.roots r)->B5 P g ⟨S.env,R',n',S.fix⟩ (fun x' _ _ _=>x'=v)):=by
    intro loc hloc hb h;obtain⟨xv,X',h,h1,h2,h3,h4,v,roots,h5,h6,h7,h8,h9⟩:=Zsp a d h;refine⟨_,xv,X',h,h1,c.trans h2,h3,v,roots,h5,h6,fun r s x hl hs=>h7 r s x hl (Kka hs c.stamp),fun K hK=>?_,fun e=>?_⟩
    ·simp only[B5,hg,hv];exact⟨fun _=>h8 K hK,fun hne=>(hne hb).elim⟩
    ·obtain⟨rfl,rfl,h10⟩:=h9 e;refine⟨rfl,rfl,rfl,fun R' n' hl=>?_⟩;simp only[B5,hg,hv];exact⟨fun _=>h10 R' n' (by rw[<-hloc];exact hl),fun hne=>(hne hb).elim⟩
   have skip:b≠want->k [] (.tp []) (X.know t b)=some out->∃loc xv X',k loc xv X'=some out/\XOk X'/\Ext X X'/\okV X'.roots X'.next X'.stamp xv/\∃v roots,WkV v (cV X'.roots xv)/\SimX X' ⟨S.env,roots,X'.next,S.fix⟩/\(∀r s x,lk X'.roots r=some (s,x)->s<X.stamp->get roots r=get S.roots r)/\(∀K:KW,K v [] roots X'.next->B5 P g S K) /\
     (F6 g=true->X'.roots=X.roots/\roots=S.roots/\X'.next=X.next/\∀R' n',(∀r∈loc,get R' r=get S.roots r)->B5 P g ⟨S.env,R',n',S.fix⟩ (fun x' _ _ _=>x'=v)):=by
    intro hb h;have hnx:(X.know t b).next=S.next:=d.next.symm;refine⟨[],.tp [],_,h,a,c,(fun x hx=>by simp at hx),.tp [],S.roots,trivial,d',fun r s x hl hs=>rfl,fun K hK=>?_,fun e=>⟨rfl,rfl,rfl,fun R' n' hl=>?_⟩⟩
    ·simp only[B5,hg,hv];exact⟨fun e=>(hb e).elim,fun _=>by rw[<-hnx];exact hK⟩
    ·simp only[B5,hg,hv];exact⟨fun e=>(hb e).elim,fun _=>trivial⟩
   rcases Zef h with ⟨rfl,h⟩|⟨rfl,h⟩
   ·cases want with
    | true=>exact run rfl rfl h
    | false=>exact skip (by simp) h
   ·cases want with
    | true=>exact skip (by simp) h
    | false=>exact run rfl rfl h
  ·rename_i s l hl;have hv:∃y,get S.env t=some (.tp y):=by
    rcases hS.env t s _ hl with h|⟨y,y1,y2⟩
    ·simp at h
    ·cases y with
     | tp ys=>exact⟨ys,y1⟩
     | _=>exact y2.elim
   obtain⟨ys,hv⟩:=hv;have d':SimX X ⟨S.env,S.roots,X.next,S.fix⟩:=⟨rfl,hS.fix,hS.env,hS.roots⟩;refine⟨[],.tp [],X,h,hX,Ext.refl X,(fun x hx=>by simp at hx),.tp [],S.roots,trivial,d',fun r s x hl hs=>rfl,fun K hK=>?_,fun e=>⟨rfl,rfl,rfl,fun R' n' hl=>?_⟩⟩
   ·simp only[B5,hg,hv];rw[hS.next];exact hK
   ·simp only[B5,hg,hv]
  ·simp at h
def Ycz (R:XRs) (RV:List (Nat×Root)) (mR:XRs) (m:Mem):Prop:=∀r s x x',lk mR r=some (s,x)->lk R r=some (s,x')->get m.1 r=get RV r
theorem Zzu {R R':XRs}:∀{loc:List Nat},Oq R' (Lx R loc)=true->Vo R loc=true->∀r∈loc,∃s x x',lk R' r=some (s,x)/\lk R r=some (s,x')
 | [],_,_,r,hr=>by simp at hr
 | q::l,h,hi,r,hr=>by
  simp only[Vo]at hi;split at hi
  ·rename_i e hq;obtain⟨s,x'⟩:=e;simp only[Lx,hq,Oq,Kd]at h;rcases Kh.1 hr with rfl|hr
   ·obtain⟨x,hx⟩:=Zbc h.1;exact⟨s,x,x',hx,hq⟩
   ·exact Zzu h.2 hi r hr
  ·simp at hi
theorem Zzs {l:List (Nat×Nat)}:∀{h:List XRs},Zg9 l h=true->∀R∈h,Oq R l=true
 | [],_,R,hR=>by simp at hR
 | R::h,hs,R',hR=>by
  simp only[Zg9,Kd]at hs;rcases Kh.1 hR with rfl|hR
  ·exact hs.1
  ·exact Zzs hs.2 R' hR
theorem Zzv {R:XRs}{n:Nat}:∀{ps:Ro},Zha R n ps=true->∀p∈ps,n<=p.2->Oq R p.1=true
 | [],_,p,hp,_=>by simp at hp
 | (l,hi)::ps,h,p,hp,hn=>by
  simp only[Zha,Kd]at h;rcases Kh.1 hp with rfl|hp
  ·have:=h.1;rw[show Nat.ble n hi=true from Nat.ble_eq_true_of_le hn]at this;exact this
  ·exact Zzv h.2 p hp hn
def Zir (P:Program) (fix:Nat) (R:XRs) (RV:List (Nat×Root)) (p:Pend) (q:List (Nat×Nat)×Nat):Prop :=
 p.hi=q.2/\∃vals:List (Nat×Option Root),(∀R' n',(∀e∈vals,get R' e.1=e.2)->B5 P p.gi ⟨p.E,R',n',fix⟩ fun x' _ _ _=>x'=p.x) /\
  ∀e∈vals,∃s,(e.1,s)∈q.1/\∀x,lk R e.1=some (s,x)->get RV e.1=e.2
theorem Zzt {R:XRs}:∀{l:List (Nat×Nat)},Oq R l=true->∀p∈l,∃x,lk R p.1=some (p.2,x)
 | [],_,p,hp=>by simp at hp
 | (r,s)::l,h,p,hp=>by
  simp only[Oq,Kd]at h;rcases Kh.1 hp with rfl|hp
  ·exact Zbc h.1
  ·exact Zzt h.2 p hp
theorem Zpe {R:XRs}:∀{loc:List Nat}{r s:Nat}{x:XR},r∈loc->lk R r=some (s,x)->(r,s)∈Lx R loc
 | [],r,s,x,h,_=>by simp at h
 | q::l,r,s,x,h,hl=>by
  simp only[Lx];rcases Kh.1 h with rfl|h
  ·rw[hl];exact Ks
  ·split
   ·exact Ko _ (Zpe h hl)
   ·exact Zpe h hl
theorem Zwz {m:Nat}:∀{l:Ro},Zgb m l=true->∀q∈l,q.2<=m
 | [],_,q,h=>by cases h
 | (_,hi)::l,h,q,hq=>by
  simp only[Zgb,Kd]at h;rcases Kh.1 hq with rfl|hq
  ·exact Kea h.1
  ·exact Zwz h.2 q hq
theorem Ytx {S:St}{g:GI}{K:St->Prop}(h:Jc P g S K):B5 P g S fun x ks r n=>K ⟨Bg g.dst x (B9 ks S.env),r,n,S.fix⟩:=by
 obtain⟨d,op,gd⟩:=g;cases gd with
 | none=>exact h
 | some tw =>
  obtain⟨t,want⟩:=tw;unfold Jc at h;unfold B5
  try simp only at h ⊢
  generalize get S.env t=o at h ⊢;split at h
  ·exact⟨h.1,fun e=>h.2 e⟩
  ·exact h
  ·exact h.elim
theorem Zen {nI:Nat}:∀(l:List DI){X:XSt}{S:St}{hist:List XRs}{histV:List Mem}{pend:Ro}{pendV:List Pend}{k:XSt->Option β},XOk X->SimX X S->R3 Φ H nI l X hist pend k=some out->(∀it∈l,it.w=!F6 it.gi) ->
  Ab (fun mR m=>Ycz X.roots S.roots mR m/\∀r s x,lk mR r=some (s,x)->s<X.stamp) hist histV->(∀p∈pendV,∃q∈pend,Zir P S.fix X.roots S.roots p q)->(∀q∈pend,∀e∈q.1,e.2<X.stamp)->∀{K:St->Prop},
  (∀X' S',XOk X'->Ext X X'->SimX X' S'->k X'=some out->K S')->Ex P nI S.fix l S.env ((S.roots,S.next)::histV) pendV K
 | [],X,S,hist,histV,pend,pendV,k,hX,hS,h,_,_,_,_,K,hk=>hk X S hX (Ext.refl X) hS h
 | it::l,X,S,hist,histV,pend,pendV,k,hX,hS,h,hw,hH,hP,hPs,K,hk=>by
  simp only[R3]at h;have hlen:=hH.length;split at h
  case h_1 =>
   rename_i hlo;unfold Zv5 at hlo;split at hlo
   case h_2=>cases hlo
   simp only[Kd]at hlo;obtain⟨hwt,hanc,hnp⟩:=hlo;have hst:=Yak (P:=P) hX hS h (K:=K) hk;simp only[Ex];refine Zpj (Ytx hst) ?_;intro x ks r n hK;rw[if_pos hwt];refine⟨fun p hp hle=>?_,.inr ⟨trivial,hanc,hK⟩⟩;obtain⟨q,hq,hpq,_⟩:=hP p hp;have:=Zwz hnp q hq;exfalso;rw[hlen]at this;omega
  obtain⟨loc,xv,X',h,h1,h2,h3,v,roots,h5,h6,h7,h8,h9⟩:=Ytu hX hS h;have hwit:=hw it Ks;obtain⟨a,b⟩:=I7 h1 (d:=it.gi.dst) h3;have hsim:=My (d:=it.gi.dst) h6 h5;have hroots:(X'.put it.gi.dst xv).roots=X'.roots:=by cases it.gi.dst<;>rfl
  have hstamp:X'.stamp<=(X'.put it.gi.dst xv).stamp:=b.stamp;simp only[Ex];split at h
  ·-- it writes
   rename_i hwt;split at h
   ·rename_i hsp;refine h8 _ ?_;simp only[hwt,if_true];refine⟨?_,.inl ⟨trivial, ?_⟩⟩
    ·intro p hp hhi;obtain⟨q,hq,hpq,vals,hv1,hv2⟩:=hP p hp;have hsl:=Zzv hsp q hq (by rw[hlen,<-hpq];exact hhi);refine hv1 roots X'.next fun e he=>?_;obtain⟨s,hs1,hs2⟩:=hv2 e he;obtain⟨x,hx⟩:=Zzt hsl _ hs1;have hlt:=hPs q hq _ hs1;simp only at hx hlt;rw[h7 _ _ _ hx hlt];exact hs2 x (h2.roots _ _ _ hx hlt)
    ·refine Zen l (hist:=X.roots::hist) (histV:=(S.roots,S.next)::histV) (pend:=pend) a hsim h (fun it hit=>hw it (Ko _ hit)) ⟨⟨?_, ?_⟩, ?_⟩ ?_ ?_ fun X2 S2 q1 q2 q3 q4=>hk X2 S2 q1 ((h2.trans b).trans q2) q3 q4
     ·intro r s x x' hl hl';rw[hroots]at hl';exact (h7 r s x' hl' (hX.ids r s x hl).2).symm
     ·intro r s x hl;exact Kka (hX.ids r s x hl).2 (Kqa h2.stamp hstamp)
     ·refine hH.mono ?_;intro mR m ⟨g1,g2⟩;refine⟨?_,fun r s x hl=>Kka (g2 r s x hl) (Kqa h2.stamp hstamp)⟩;intro r s x x' hl hl';rw[hroots]at hl';have hlt:=g2 r s x hl;show get m.1 r=get roots r;rw[h7 r s x' hl' hlt];exact g1 r s x x' hl (h2.roots r s x' hl' hlt)
     ·intro p hp;obtain⟨q,hq,hpq,vals,hv1,hv2⟩:=hP p hp;refine⟨q,hq,hpq,vals,hv1,fun e he=>?_⟩;obtain⟨s,hs1,hs2⟩:=hv2 e he;refine⟨s,hs1,fun x hx=>?_⟩;rw[hroots]at hx;have hlt:=hPs q hq _ hs1;simp only at hlt;show get roots e.1=e.2;rw[h7 _ _ _ hx hlt];exact hs2 x (h2.roots _ _ _ hx hlt)
     ·intro q hq e he;exact Kka (hPs q hq e he) (Kqa h2.stamp hstamp)
   ·simp at h
  ·-- it reads
   rename_i hwt;have hrd:F6 it.gi=true:=by rw[hwt]at hwit;simpa using hwit.symm
   obtain⟨e1,rfl,e3,h10⟩:=h9 hrd;split at h
   ·rename_i hc;simp only[Kd]at hc;obtain⟨hc1,hc2⟩:=hc;have hnx:X'.next=S.next:=e3.trans hS.next.symm;rw[hnx]at h8;have next:∀pendV',(∀p∈pendV',p∈pendV\/(p=⟨it.gi,S.env,v,it.hi⟩/\hist.length<it.hi))->Ex P nI S.fix l (Bg it.gi.dst v S.env) ((S.roots,S.next)::histV) pendV' K:=by
     intro pendV' hpv;have hS2:SimX (X'.put it.gi.dst xv) ⟨Bg it.gi.dst v S.env,S.roots,S.next,S.fix⟩:=by rw[<-hnx];exact hsim
     have base:∀pend',R3 Φ H nI l (X'.put it.gi.dst xv) hist pend' k=some out->(∀p∈pendV',∃q∈pend',Zir P S.fix (X'.put it.gi.dst xv).roots S.roots p q)->(∀q∈pend',∀e∈q.1,e.2<(X'.put it.gi.dst xv).stamp)->Ex P nI S.fix l (Bg it.gi.dst v S.env) ((S.roots,S.next)::histV) pendV' K:=by
      intro pend' hd g1 g2;refine Zen l (S:=⟨Bg it.gi.dst v S.env,S.roots,S.next,S.fix⟩) a hS2 hd (fun it hit=>hw it (Ko _ hit)) (hH.mono ?_) g1 g2 fun X2 S2 q1 q2 q3 q4=>hk X2 S2 q1 ((h2.trans b).trans q2) q3 q4;intro mR m ⟨g1,g2⟩;refine⟨?_,fun r s x hl=>Kka (g2 r s x hl) (Kqa h2.stamp hstamp)⟩;rw[hroots,e1];exact g1
     have old:∀p∈pendV,∃q∈pend,Zir P S.fix (X'.put it.gi.dst xv).roots S.roots p q:=by
      rw[hroots,e1];exact hP
     have olds:∀q∈pend,∀e∈q.1,e.2<(X'.put it.gi.dst xv).stamp:=fun q hq e he=>Kka (hPs q hq e he) (Kqa h2.stamp hstamp);split at h
     ·refine base _ h ?_ ?_
      ·intro p hp;rcases hpv p hp with hp|⟨rfl,_⟩
       ·obtain⟨q,hq,hr⟩:=old p hp;exact⟨q,Ko _ hq,hr⟩
       ·refine⟨_,Ks,rfl,loc.map fun r=>(r,get S.roots r), ?_, ?_⟩
        ·intro R' n' hl;exact h10 R' n' fun r hr=>hl (r,get S.roots r) (Kca.2 ⟨r,hr,rfl⟩)
        ·intro e he;obtain⟨r,hr,rfl⟩:=Kca.1 he;have:∃s x,lk X'.roots r=some (s,x):=by
          have key:∀(l:List Nat),Vo X'.roots l=true->r∈l->∃s x,lk X'.roots r=some (s,x):=by
           intro l
           induction l with
           | nil=>intro _ h;simp at h
           | cons q l ih =>
            intro h hm;simp only[Vo]at h;split at h
            ·rename_i e hq;rcases Kh.1 hm with rfl|hm
             ·exact⟨e.1,e.2,hq⟩
             ·exact ih h hm
            ·simp at h
          exact key loc hc1 hr
         obtain⟨s,x,hl⟩:=this;exact⟨s,Zpe hr hl,fun _ _=>rfl⟩
      ·intro q hq e he;rcases Kh.1 hq with rfl|hq
       ·have key:∀(l:List Nat) (e:Nat×Nat),e∈Lx X'.roots l->e.2<X'.stamp:=by
         intro l
         induction l with
         | nil=>intro e h;simp [Lx]at h
         | cons q l ih =>
          intro e h;simp only[Lx]at h;split at h
          ·rename_i s x hq;rcases Kh.1 h with rfl|h
           ·exact (h1.ids _ _ _ hq).2
           ·exact ih e h
          ·exact ih e h
        exact Kka (key loc e he) hstamp
       ·exact olds q hq e he
     ·rename_i hlt;refine base _ h ?_ olds;intro p hp;rcases hpv p hp with hp|⟨_,hlt'⟩
      ·exact old p hp
      ·exfalso;have:Nat.blt hist.length it.hi=true:=by simpa [Nat.blt_eq] using hlt'
       rw[this]at hlt;simp at hlt
    have inHist:∀mm∈histV.take (histV.length-it.lo),∀r∈loc,get mm.1 r=get S.roots r:=by
     intro mm hmm r hr;rw[<-hlen]at hmm;obtain⟨i,hi,hget⟩:=Kjd hmm;have hi2:i<histV.length:=by simp at hi;omega
     have hi3:i<hist.length:=by rw[hlen];exact hi2
     obtain⟨m',hm1,hm2⟩:=hH.get i hist[i] (Ku hi3);have hmm':m'=mm:=by
      rw[Khg]at hget;rw[Ku hi2]at hm1;simp only[Ka]at hm1;rw[<-hm1,hget]
     subst hmm';have hin:hist[i]∈hist.take (hist.length-it.lo):=by
      rw[List.mem_iff_getElem];simp only[Kab]at hi;exact⟨i,by simp;omega,by simp⟩
     obtain⟨s,x,x',g1,g2⟩:=Zzu (Zzs hc2 _ hin) hc1 r hr;rw[e1]at g2;exact hm2.1 r s x x' g1 g2
    refine h8 _ ?_;simp only[hwt,Kma,if_false];split
    ·exact next pendV fun p hp=>.inl hp
    ·refine⟨fun mm hmm=>h10 mm.1 mm.2 (inHist mm hmm), ?_⟩;split
     ·rename_i hlt;refine next _ fun p hp=>?_;rcases Kh.1 hp with rfl|hp
      ·exact .inr ⟨rfl,by rw[hlen];exact hlt⟩
      ·exact .inl hp
     ·exact next pendV fun p hp=>.inl hp
   ·simp at h
theorem Zwp (ws:List Bool) (ancs:List (List Nat)):∀(gis:List GI) (i:Nat),(∀(j:Nat) (g:GI),gis[j]? = some g->ws.getD (i+j) false=!F6 g)->∀it∈Qm ws ancs i gis,it.w=!F6 it.gi
 | [],i,_,it,h=>by simp [Qm]at h
 | g::l,i,hw,it,h=>by
  simp only[Qm,Kh]at h;rcases h with rfl|h
  ·exact hw 0 g rfl
  ·refine Zwp ws ancs l (i+1) (fun j g hg=>?_) it h;rw[show i+1+j=i+(j+1) by omega];exact hw (j+1) g (by simpa using hg)
theorem Zwo {ancs:List (List Nat)}(gis:List GI):∀it∈Qm (gis.map fun g=>!F6 g) ancs 0 gis,it.w=!F6 it.gi:=by
 refine Zwp _ _ gis 0 fun j g hg=>?_;rw[Km,Kig,Kga,hg];rfl
theorem Ja (hm:P.follows .mixedOrders=true):∀(s:Stm) (an:An){β:Type}{out:β}{X:XSt}{S:St}{k:Exit->XSt->Option β},XOk X->SimX X S->C8 Φ H s an X k=some out->∀{Q:Exit->St->Prop},
  (∀e X' S',XOk X'->Ext X X'->SimX X' S'->k e X'=some out->Q e S')->Sw P N s S Q
 | .reg gis,an,β,out,X,S,k,hX,hS,h,Q,hQ=>by
  have h2:∃l,Zam Φ H l gis X (k .normal)=some out:=by
   cases an with
   | rg l=>exact⟨l,h⟩
   | _=>exact⟨[],h⟩
  obtain⟨l,h2⟩:=h2;exact Yt8 (Zys hX hS h2 fun X' S' a b c d=>⟨S',Le.refl S',hQ _ X' S' a b c d⟩)
 | .seq x y,an,β,out,X,S,k,hX,hS,h,Q,hQ=>by
  have plain:∀(a b:An),(C8 Φ H x a X fun e X'=>match e with|.normal=>C8 Φ H y b X' k|e=>k e X')=some out->Sw P N (.seq x y) S Q:=by
   intro a b h;refine E5 (Ja hm x a hX hS h ?_);intro e X' S' h1 h2 h3 h4;cases e with
   | normal=>exact Ja hm y b h1 h3 h4 fun e X2 S2 a' b' c' d'=>hQ e X2 S2 a' (h2.trans b') c' d'
   | _=>exact hQ _ X' S' h1 h2 h3 h4
  cases an with
  | sq j a b =>
   cases j with
   | none=>exact plain a b h
   | some its =>
    simp only[C8]at h;obtain⟨z,h1,h2⟩:=Zvu h;refine E5 (Yt5 (Ja hm x a hX hS h1 ?_));intro e X' S' g1 g2 g3 g4;cases e with
    | normal =>
     obtain⟨s,hs,hle⟩:=Zgm hX g1 g2 g3 g4;simp only[Ka]at hs;subst hs;rcases h2 with ⟨s',e,h2⟩|e
     ·simp only[Sum.inl.injEq]at e;subst e;obtain⟨u1,u2⟩:=Zh4 hX its s;exact⟨_,hle,Ja hm y b u1 (Zo8 _) h2 fun e X2 S2 a' b' c' d'=>hQ e X2 S2 a' (u2.trans b') c' d'⟩
     ·simp at e
    | _ =>
     obtain⟨r,hr,g5⟩:=Zxe g4;rcases h2 with ⟨s',e,h2⟩|e
     ·rw[hr]at e;simp at e
     ·rw[hr]at e;simp only[Sum.inr.injEq]at e;subst e;exact⟨S',Le.refl S',hQ _ X' S' g1 g2 g3 g5⟩
  | _=>exact plain .d .d h
 | .cond c x y,an,β,out,X,S,k,hX,hS,h,Q,hQ=>by
  simp only[C8]at h;split at h
  ·rename_i t hc;have hb:tv (S.opd c)=some t:=by rw[Bj hS hc (by simp [cC])];rfl
   have key:∃a b,cnd t (C8 Φ H x a (X.knowO c true) k) (C8 Φ H y b (X.knowO c false) k)=some out:=by
    split at h
    ·rename_i a b;exact⟨a,b,h⟩
    ·exact⟨.d,.d,h⟩
   obtain⟨a,b,h⟩:=key;rcases Zef h with ⟨rfl,h⟩|⟨rfl,h⟩
   ·obtain⟨a1,a2,a3⟩:=Zsb hX hS hc;exact Ox hb (fun _=>Ja hm x a a1 a3 h fun e X' S' g1 g2 g3 g4=>hQ e X' S' g1 (a2.trans g2) g3 g4) (fun e=>by simp at e)
   ·obtain⟨a1,a2,a3⟩:=Zsb hX hS hc;exact Ox hb (fun e=>by simp at e) (fun _=>Ja hm y b a1 a3 h fun e X' S' g1 g2 g3 g4=>hQ e X' S' g1 (a2.trans g2) g3 g4)
  ·simp at h
 | .block id x,an,β,out,X,S,k,hX,hS,h,Q,hQ=>by
  simp only[C8]at h;refine Zaw (Ja hm x _ hX hS h ?_);intro e X' S' g1 g2 g3 g4;cases e with
  | exit id' =>
   simp only at g4;simp only[Cg];split at g4
   ·rename_i hb;rw[if_pos (Kr hb)];exact hQ _ X' S' g1 g2 g3 g4
   ·rename_i hb;rw[if_neg (Kxe hb)];exact hQ _ X' S' g1 g2 g3 g4
  | _=>exact hQ _ X' S' g1 g2 g3 g4
 | .loop x,an,β,out,X,S,k,hX,hS,h,Q,hQ=>by
  have key:∀(its:List It) (a:An) (X0:XSt) (S0:St),XOk X0->Ext X X0->SimX X0 S0->(Lt X0 X0 its fun s=>Ar (fun s=>C8 Φ H x a (β:=Tp (It.tys its) ⊕ β) (Ix X0 its s) fun e X'=>match e with
    | .normal=>Lt X0 X' its fun s=>some (.inl s)
    | e=>Ls (k e X')) s)=some out->SwL P N x S0 Q:=by
   intro its a X0 S0 hX0 hE0 hS0 h;obtain⟨s0,h,hle⟩:=Zgm hX0 hX0 (Ext.refl X0) hS0 h;obtain⟨n,hn⟩:=Zna h;refine Yub (fun m T=>∃s,Hc (fun s=>C8 Φ H x a (β:=Tp (It.tys its) ⊕ β) (Ix X0 its s) fun e X'=>match e with
    | .normal=>Lt X0 X' its fun s=>some (.inl s)
    | e=>Ls (k e X')) m s=some out/\T=Ns (Ix X0 its s)) n ⟨_,⟨s0,hn,rfl⟩,hle⟩ ?_
   rintro m T ⟨s,hs,rfl⟩;cases m with
   | zero=>simp [Hc]at hs
   | succ m =>
    simp only[Hc]at hs;obtain⟨u1,u2⟩:=Zh4 hX0 its s;have hz:∃z,(C8 Φ H x a (β:=Tp (It.tys its) ⊕ β) (Ix X0 its s) fun e X'=>match e with
     | .normal=>Lt X0 X' its fun s=>some (.inl s)
     | e=>Ls (k e X'))=some z:=by
     split at hs
     ·exact⟨_,by assumption⟩
     ·exact⟨_,by assumption⟩
     ·simp at hs
    obtain⟨z,hz⟩:=hz;rw[hz]at hs;refine Ja hm x a u1 (Zo8 _) hz ?_;intro e X' S' g1 g2 g3 g4;cases e with
    | normal =>
     obtain⟨s',hs',hle'⟩:=Zgm hX0 g1 (u2.trans g2) g3 g4;simp only[Ka]at hs';subst hs';simp only at hs;exact⟨m,_,Ksa m,⟨s',hs,rfl⟩,hle'⟩
    | _ =>
     obtain⟨r,hr,g5⟩:=Zxe g4;subst hr;simp only[Ka]at hs;subst hs;exact hQ _ X' S' g1 (hE0.trans (u2.trans g2)) g3 g5
  cases an with
  | lp its a =>
   simp only[C8]at h;exact Yar (key its a X S hX (Ext.refl X) hS h)
  | pl a1 its a =>
   simp only[C8]at h;refine Yar (Yuc (Ja hm x a1 hX hS h ?_));intro e X' S' g1 g2 g3 g4;cases e with
   | normal=>exact key its a X' S' g1 g2 g3 g4
   | _=>exact hQ _ X' S' g1 g2 g3 g4
  | _=>simp [C8]at h
 | .exit id,an,β,out,X,S,k,hX,hS,h,Q,hQ=>Zpr (hQ _ X S hX (Ext.refl X) hS h)
 | .ret,an,β,out,X,S,k,hX,hS,h,Q,hQ=>Ti (hQ _ X S hX (Ext.refl X) hS h)
 | .skip,an,β,out,X,S,k,hX,hS,h,Q,hQ=>Wk (hQ _ X S hX (Ext.refl X) hS h)
 | .drw its,an,β,out,X,S,k,hX,hS,h,Q,hQ=>by
  simp only[C8]at h;split at h
  ·rename_i hok;intro c hc;have hw:∀it∈its,it.w=!F6 it.gi:=by
    cases c with
    | region id ops d =>
     cases d with
     | false=>simp [trC]at hc
     | true =>
      have hc:=Yca (show F3 P N ops=some (.drw its) by simpa only[trC] using hc);simp only[O3,Kn,Kg]at hc;obtain⟨gis,hgis,hg⟩:=hc;split at hg
      ·simp only[Ka]at hg;subst hg;exact Zwo gis
      ·simp at hg
    | seq a b=>simp [trC,Kn,Kg]at hc
    | cond c a b=>simp [trC,Kn,Kg]at hc
    | _=>simp [trC]at hc
   have hr:=Zen (P:=P) (nI:=its.length) (histV:=[]) (pendV:=[]) its hX hS h hw trivial (fun p hp=>by simp at hp) (fun q hq=>by simp at hq) (hQ .normal);have hfin:Sw P N (.drw its) S Q:=by
    obtain⟨E,R,n,f⟩:=S;exact Yap hm hok hr
   exact hfin c hc
  ·simp at h
 | .alt l,an,β,out,X,S,k,hX,hS,h,Q,hQ=>by
  simp only[C8]at h;have hall:=Zq6 h;intro c hc;cases c with
  | region id ops d =>
   cases d with
   | false=>simp [trC]at hc
   | true =>
    have hl:=Yb9 (show F3 P N ops=some (.alt l) by simpa only[trC] using hc);have hfin:Sw P N (.alt l) S Q:=by
     refine Yua hm fun its hi=>?_;have hx:=hall its hi;split at hx
     case h_2=>cases hx
     rename_i hok;obtain⟨ops',_,hg⟩:=Zwk hl its hi;have hw:∀it∈its,it.w=!F6 it.gi:=by
      simp only[O3,Kn,Kg]at hg;obtain⟨gis,hgis,hg⟩:=hg;split at hg
      ·simp only[Ka]at hg;subst hg;exact Zwo gis
      ·simp at hg
     exact⟨hok,Zen (P:=P) (nI:=its.length) (histV:=[]) (pendV:=[]) its hX hS hx hw trivial (fun p hp=>by simp at hp) (fun q hq=>by simp at hq) (hQ .normal)⟩
    exact hfin _ hc
  | seq a b=>simp [trC,Kn,Kg]at hc
  | cond c a b=>simp [trC,Kn,Kg]at hc
  | _=>simp [trC]at hc
end
end Go.Vs
namespace Go.Vs
variable [Glb]
def Cx:List XD->XSt->List XC×XSt
 | [],X=>([],X)
 | .lf c::l,X=>(Zfv c::(Cx l X).1,(Cx l X).2)
 | .sl t xs::l,X=>(.rw X.next::(Cx l (X.newR (.im t xs))).1,(Cx l (X.newR (.im t xs))).2)
def L8 (s:Nat):Nat->List XA->List (Nat×Nat×XV)
 | _,[]=>[]
 | i,a::l=>(i,s,.a a)::L8 s (i+1) l
def Fq:XSt:=⟨[],[],0,0,0⟩
def inX (args:List (Bool×Ty)) (x:Tp (args.map (·.2))):XSt :=
 ⟨L8 (Cx (F0 args x) Fq).2.stamp 0 (Lw args (Cx (F0 args x) Fq).1),(Cx (F0 args x) Fq).2.roots,(Cx (F0 args x) Fq).2.next,(Cx (F0 args x) Fq).2.stamp+1,0⟩
def Sr:List (Bool×Ty)->Bool
 | []=>true
 | (ag,t)::l=>(ag||Nat.beq t.n 1)&&Sr l
theorem Zm7:∀(l:List XD){X:XSt}{E:List (Nat×V)}{R:List (Nat×Root)}{f a:Nat},XOk X->SimX X ⟨E,R,X.next,f⟩ ->
  XOk (Cx l X).2/\(Cx l X).2.env=X.env/\(Cx l X).2.fix=X.fix/\X.next<=(Cx l X).2.next/\(Cx l X).2.next=(Ay ((l.map De).map fun d=>(M.rd,d)) (a,X.next)).2.2.2/\SimX (Cx l X).2 ⟨E,(Ay ((l.map De).map fun d=>(M.rd,d)) (a,X.next)).2.1++R,(Cx l X).2.next,f⟩ /\
  Ab WkC (Ay ((l.map De).map fun d=>(M.rd,d)) (a,X.next)).1 ((Cx l X).1.map (cC (Cx l X).2.roots))/\(∀c∈(Cx l X).1,okC (Cx l X).2.roots (Cx l X).2.next (Cx l X).2.stamp c) /\
  (∀q,q<X.next->lk (Cx l X).2.roots q=lk X.roots q)/\(∀q y,get (Ay ((l.map De).map fun d=>(M.rd,d)) (a,X.next)).2.1 q=some y->X.next<=q)
 | [],X,E,R,f,a,hX,hS=>⟨hX,rfl,rfl,Kf _,rfl,hS,trivial,by simp [Cx],fun q _=>rfl,fun q y h=>by simp [Ay,get]at h⟩
 | .lf c::l,X,E,R,f,a,hX,hS=>by
  obtain⟨a1,e,fx,nl,n,s,w,o,k,g⟩:=Zm7 (a:=a) l hX hS;have hd:De (.lf c)=.hole\/∃v,De (.lf c)=.lf v:=by cases c<;>first|exact .inl rfl|exact .inr ⟨_,rfl⟩
  have e1:(Ay (((XD.lf c::l).map De).map fun d=>(M.rd,d)) (a,X.next)).2=(Ay ((l.map De).map fun d=>(M.rd,d)) (a,X.next)).2:=by
   rcases hd with h|⟨v,h⟩<;>simp only[Kc,Ay,h,inC,Kj]
  refine⟨a1,e,fx,nl, ?_, ?_, ?_, ?_,k, ?_⟩
  ·rw[e1];exact n
  ·rw[e1];exact s
  ·cases c<;>first
    | exact⟨WkC.refl _,w⟩
    | exact⟨.inr rfl,w⟩
  ·intro c' hc;simp only[Cx,Kh]at hc;rcases hc with rfl|hc
   ·cases c<;>trivial
   ·exact o c' hc
  ·intro q y hq;rw[e1]at hq;exact g q y hq
 | .sl t xs::l,X,E,R,f,a,hX,hS=>by
  obtain⟨a1,b1,s1⟩:=Qp (x:=.im t xs) (y:=.im t.n (xs.map (Af t))) hX hS (fun cs h=>by simp at h) ⟨_,rfl,rfl,rfl⟩;obtain⟨a2,e,fx,nl,n,s,w,o,k,g⟩:=Zm7 (a:=a) l a1 s1;have e2:(X.newR (.im t xs)).next=X.next+1:=rfl;have e1:(Ay (((XD.sl t xs::l).map De).map fun d=>(M.rd,d)) (a,X.next)).2.1=(X.next,.im t.n (xs.map (Af t)))::(Ay ((l.map De).map fun d=>(M.rd,d)) (a,X.next+1)).2.1:=rfl;refine⟨a2,e,fx,Kqa (Kac _) nl,n, ?_,⟨?_,w⟩, ?_, ?_, ?_⟩
  ·refine Wi s ?_;intro r st x hl hx;rw[e1,e2];simp only[Kl,get];split
   ·rename_i h;subst h;rw[D6];cases hg:get (Ay ((l.map De).map fun d=>(M.rd,d)) (a,X.next+1)).2.1 X.next with
    | some y=>have:=g _ _ hg;rw[e2]at this;omega
    | none=>simp only[get,if_true]
   ·rename_i h;rw[D6,D6];cases hg:get (Ay ((l.map De).map fun d=>(M.rd,d)) (a,X.next+1)).2.1 r with
    | some y=>rfl
    | none=>simp only[get];rw[if_neg h]
  ·left;have:lk (Cx l (X.newR (.im t xs))).2.roots X.next=some (X.stamp,.im t xs):=by
    rw[k _ (by rw[e2];exact Ksa _)];exact Qo _ _
   show cC (Cx l (X.newR (.im t xs))).2.roots (.rw X.next)=.rf X.next [] t.n 0 (xs.map (Af t)).length;simp only[cC,this,Kt]
  ·intro c hc;have e3:(Cx (.sl t xs::l) X).1=.rw X.next::(Cx l (X.newR (.im t xs))).1:=rfl;rw[e3]at hc;rcases Kh.1 hc with rfl|hc
   ·show X.next<_;exact Kka (Ksa X.next) nl
   ·exact o c hc
  ·intro q hq;show lk (Cx l (X.newR (.im t xs))).2.roots q=_;rw[k q (by rw[e2];omega)];simp only[XSt.newR];rw[Bf,if_neg (by simp only;omega)]
  ·intro q y hq;rw[e1]at hq;simp only[get]at hq;split at hq
   ·omega
   ·have:=g q y hq;rw[e2]at this;omega
theorem Y0 {s:Nat}:∀{l:List XA}{i t st:Nat}{v:XV},lk (L8 s i l) t=some (st,v)->∃a,st=s/\v=.a a/\i<=t/\l[t-i]? = some a
 | [],i,t,st,v,h=>by simp [L8,lk]at h
 | a::l,i,t,st,v,h=>by
  simp only[L8]at h;rw[Bf]at h;split at h
  ·rename_i e;simp only at e;subst e;simp only[Ka,Kb]at h;exact⟨a,h.1.symm,h.2.symm,Kf _,by simp⟩
  ·obtain⟨b,h1,h2,h3,h4⟩:=Y0 h;refine⟨b,h1,h2,by omega, ?_⟩;rw[show t-i=(t-(i+1))+1 by omega,Ky];exact h4
theorem Zvo:∀(args:List (Bool×Ty)) (x:Tp (args.map (·.2))) (cs:List C) (b:Nat),Sr args=true->cs.length=((Bs args x).flatMap (·.2)).length->inV ((Bs args x).map Ca) cs b=(Fi (Bs args x) cs).map V.a
 | [],_,_,_,_,_=>rfl
 | (ag,t)::args,x,cs,b,ho,hl=>by
  simp only[Sr,Kd,Kbb]at ho;have hn:=Bt t (Tp.hd t _ x);simp only[Bs,Kya,Kz,hn]at hl;have ih:=Zvo args (Tp.tl t _ x) (cs.drop t.n) b ho.2 (by rw[Kpa,hl];omega);cases ag with
  | true =>
   simp only[Bs,Kc,Ca,inV,Fi,Ln,if_true,Kt,hn,ih]
  | false =>
   have h1:=Kr (ho.1.resolve_left (by simp));simp only[Bs,Kc,Ca,inV,Fi,Ln,Kma,if_false,Kt,hn,ih];congr 1;rw[h1]at hl ⊢;cases cs with
   | nil=>rw[Ki]at hl;omega
   | cons c cs=>rfl
theorem Zex:∀{l:List V}{i t:Nat}{v:V},i<=t->l[t-i]? = some v->get (Hu i l) t=some v
 | [],i,t,v,_,h=>by simp at h
 | a::l,i,t,v,hi,h=>by
  simp only[Hu,get];split
  ·rename_i e;subst e;simpa using h
  ·rename_i e;refine Zex (by omega) ?_;rw[show t-i=(t-(i+1))+1 by omega,Ky]at h;exact h
theorem Ypf (args:List (Bool×Ty)) (x:Tp (args.map (·.2))) (ho:Sr args=true):XOk (inX args x)/\SimX (inX args x) ⟨Hu 0 (Bl ((Bs args x).map Ca)).1,(Bl ((Bs args x).map Ca)).2.1,(Bl ((Bs args x).map Ca)).2.2,Bz ((Bs args x).map Ca)⟩:=by
 have he:XOk Fq:=⟨fun r s x h=>by simp [Fq,lk]at h,fun r s x h=>by simp [Fq,lk]at h,fun r s x h=>by simp [Fq,lk]at h,Kf _⟩;have hs:SimX Fq ⟨[],[],Fq.next,0⟩:=⟨rfl,rfl,fun t s v h=>by simp [Fq,lk]at h,fun r s x h=>by simp [Fq,lk]at h⟩;obtain⟨a,e,fx,nl,n,s,w,o,k,g⟩:=Zm7 (a:=0) (F0 args x) he hs;rw[Zgu]at n s w;have hfix:Bz ((Bs args x).map Ca)=0:=by unfold Bz;rw[Sa,U8,Zf5]
 have hcell:B4 ((Bs args x).map Ca)=Ay (((Bs args x).flatMap (·.2)).map fun d=>(M.rd,d)) (0,0):=by unfold B4;rw[Sa,hfix]
 have hroots:(Bl ((Bs args x).map Ca)).2.1=(Ay (((Bs args x).flatMap (·.2)).map fun d=>(M.rd,d)) (0,0)).2.1:=by
  show (B4 _).2.1++H7 (inB _ (B4 _).1) _=_;rw[Vk,hcell];simp [H7]
 have hnext:(Bl ((Bs args x).map Ca)).2.2=(Ay (((Bs args x).flatMap (·.2)).map fun d=>(M.rd,d)) (0,0)).2.2.2:=by show (B4 _).2.2.2=_;rw[hcell]
 have hval:(Bl ((Bs args x).map Ca)).1=inV ((Bs args x).map Ca) (Ay (((Bs args x).flatMap (·.2)).map fun d=>(M.rd,d)) (0,0)).1 (C4 (flat ((Bs args x).map Ca))):=by show inV _ (B4 _).1 _=_;rw[hcell]
 have hlen:(Ay (((Bs args x).flatMap (·.2)).map fun d=>(M.rd,d)) (0,0)).1.length=((Bs args x).flatMap (·.2)).length:=by
  have key:∀(l:List (M×D)) (k:Kk),(Ay l k).1.length=l.length:=by
   intro l
   induction l with
   | nil=>intro k;rfl
   | cons a l ih=>intro k;obtain⟨m,d⟩:=a;simp only[Ay,Ke,ih]
  rw[key,Kt]
 rw[hroots,hnext,hval,hfix,Zvo args x _ _ ho hlen];have hnx:Fq.next=0:=rfl;rw[hnx]at n s w;have same:∀r st z,lk (Cx (F0 args x) Fq).2.roots r=some (st,z)->st<(Cx (F0 args x) Fq).2.stamp->lk (Cx (F0 args x) Fq).2.roots r=some (st,z):=fun _ _ _ h _=>h;have hA:=Zod args x _ _ w (by
  have:(Cx (F0 args x) Fq).1.length=(F0 args x).length:=by
   have key:∀(l:List XD) (X:XSt),(Cx l X).1.length=l.length:=by
    intro l
    induction l with
    | nil=>intro X;rfl
    | cons d l ih=>intro X;cases d<;>simp only[Cx,Ke,ih]
   exact key _ _
  rw[this,<-Zrb,Kt])
 refine⟨⟨fun r st z h=>⟨(a.ids r st z h).1,Kqb (a.ids r st z h).2⟩, ?_, ?_,Koa _⟩,⟨?_,rfl, ?_, ?_⟩⟩
 ·intro t st v hl;obtain⟨b,rfl,rfl,_,h4⟩:=Y0 hl;refine⟨Ksa _, ?_⟩;exact okA.ext (Kf _) (Kac _) same (Zag args _ o b (Kfa h4))
 ·intro r st cs h e he;obtain⟨q1,q2⟩:=a.box r st cs h e he;exact⟨Kqb q1,okC.ext (Kf _) (Kac _) same q2⟩
 ·exact n.symm
 ·intro t st v hl;obtain⟨b,rfl,rfl,h3,h4⟩:=Y0 hl;obtain⟨y,y1,y2⟩:=Zqj (i:=t-0) (x:=cA (Cx (F0 args x) Fq).2.roots b) hA (by rw[Kga,h4];rfl);exact .inr ⟨.a y,Zex (Koa _) (by rw[Kga,y1];rfl),y2⟩
 ·intro r st z hl y hy;obtain⟨y',h1,h2⟩:=s.roots r st z hl y hy;exact⟨y',by simpa using h1,h2⟩
def U6 {β:Type}(X:XSt):List I->(List XA->Option β)->Option β
 | [],k=>k []
 | i::is,k=>rdX X i fun v=>match v with
  | .a x=>U6 X is fun xs=>k (x::xs)
  | _=>none
def Hq:List XA->List XC
 | []=>[]
 | .c c::l=>c::Hq l
 | .ag cs::l=>cs++Hq l
def F2:List (Bool×Ty)->List XA->Bool
 | [],[]=>true
 | (false,t)::rs,.c _::l=>Nat.beq t.n 1&&F2 rs l
 | (true,t)::rs,.ag cs::l=>Nat.beq cs.length t.n&&F2 rs l
 | _,_=>false
def Zad {β:Type}(R:XRs):(rs:List (Bool×Ty))->List XC->(Tp (rs.map (·.2))->Option β)->Option β
 | [],cs,k=>match cs with
  | []=>k ()
  | _=>none
 | (_,t)::rs,cs,k=>Ei R t cs fun x cs=>Zad R rs cs fun xs=>k (Tp.mk t _ x xs)
def Zfy (rs:List (Bool×Ty)) (X:XSt) (is:List I):Option (Tp (rs.map (·.2))) :=
 U6 X is fun xs=>match F2 rs xs,D8 X.roots (Hq xs) with
  | true,some ids=>match Mp ids with
   | true=>Zad X.roots rs (Hq xs) some
   | false=>none
  | _,_=>none
noncomputable def fnX {P:Program}(Φ:List (Fx P)) (H:List (Nat×Hn)) (s:Stm) (an:An) (is:List I) (args rs:List (Bool×Ty)) (x:Tp (args.map (·.2))):Option (Tp (rs.map (·.2))) :=
 C8 Φ H s an (inX args x) fun e X'=>match e with
  | .ret=>Zfy rs X' is
  | .normal=>Zfy rs X' is
  | _=>none
section
variable {P:Program}
theorem Ze3 {β:Type}{out:β}{X:XSt}{S:St}(hX:XOk X) (hS:SimX X S):∀(is:List I) (k:List XA->Option β),U6 X is k=some out ->
  ∃xs ys,k xs=some out/\Ab WkA ys (xs.map (cA X.roots))/\(∀x∈xs,okA X.roots X.next X.stamp x)/\∀K:List A->Prop,K ys->Ew S is K
 | [],k,h=>⟨[],[],h,trivial,by simp,fun K hK=>hK⟩
 | i::is,k,h=>by
  simp only[U6]at h;obtain⟨xv,h,ho,v,hw,hev⟩:=Zn5 hX hS h;simp only at h;split at h
  ·rename_i x;obtain⟨xs,ys,h,h1,h2,h3⟩:=Ze3 hX hS is _ h;cases v with
   | a y =>
    refine⟨x::xs,y::ys,h,⟨hw,h1⟩, ?_, ?_⟩
    ·intro z hz;rcases Kh.1 hz with rfl|hz
     ·exact ho
     ·exact h2 z hz
    ·intro K hK;simp only[Ew];exact hev _ (h3 _ hK)
   | _=>exact hw.elim
  ·simp at h
theorem Zx0 {β:Type}{out:β}{R:XRs}{nx st:Nat}:∀(rs:List (Bool×Ty)) (cs:List XC) (k:Tp (rs.map (·.2))->Option β),(∀c∈cs,okC R nx st c)->Zad R rs cs k=some out ->
  ∃y,k y=some out/\Ab (CD R) cs ((Bs rs y).flatMap (·.2))
 | [],cs,k,ho,h=>by
  simp only[Zad]at h;split at h
  ·exact⟨(),h,trivial⟩
  ·simp at h
 | (ag,t)::rs,cs,k,ho,h=>by
  simp only[Zad]at h;obtain⟨x,c0,c1,rfl,h1,h2⟩:=Mt t cs _ out ho h;obtain⟨y,h3,h4⟩:=Zx0 rs c1 _ (fun c hc=>ho c (Khc _ hc)) h1;refine⟨_,h3, ?_⟩;simp only[Bs,Tp.hd_mk,Tp.tl_mk,Kya];exact Ab.append h2 h4
theorem Zo6 {R:XRs}:∀(rs:List (Bool×Ty)) (y:Tp (rs.map (·.2))) (xs:List XA) (ys:List A),F2 rs xs=true->Ab WkA ys (xs.map (cA R))->ys.map (fun x=>((C7 x).1,(C7 x).2.length))=(Bs rs y).map (fun x=>(x.1,x.2.length))/\Ab WkC (ys.flatMap fun x=>(C7 x).2) ((Hq xs).map (cC R))
 | [],_,[],[],_,_=>⟨rfl,trivial⟩
 | (ag,t)::rs,y,x::xs,z::ys,h,hw=>by
  have hn:=Bt t (Tp.hd t _ y);cases ag with
  | false=>cases x with
   | c c =>
    simp only[F2,Kd]at h;obtain⟨a,b⟩:=Zo6 rs (Tp.tl t _ y) xs ys h.2 hw.2;cases z with
    | c z =>
     refine⟨?_,⟨hw.1,b⟩⟩;rw[Kc,a];simp only[Bs,Kc,C7,hn,Kr h.1,Ke,Ki]
    | ag _=>exact hw.1.elim
   | ag cs=>simp [F2]at h
  | true=>cases x with
   | c c=>simp [F2]at h
   | ag cs =>
    simp only[F2,Kd]at h;obtain⟨a,b⟩:=Zo6 rs (Tp.tl t _ y) xs ys h.2 hw.2;cases z with
    | c z=>exact hw.1.elim
    | ag zs =>
     have hl:=Ab.length (show Ab WkC zs (cs.map (cC R)) from hw.1);rw[Kt]at hl;refine⟨?_, ?_⟩
     ·rw[Kc,a];simp only[Bs,Kc,C7,hn,hl,Kr h.1]
     ·simp only[Kya,C7,Hq,Kaa];exact M5 hw.1 b
 | [],_,_::_,_,h,_=>by simp [F2]at h
 | (false,_)::_,_,[],_,h,_=>by simp [F2]at h
 | (true,_)::_,_,[],_,h,_=>by simp [F2]at h
 | [],_,[],_::_,_,h=>h.elim
 | _::_,_,_::_,[],_,h=>h.elim
theorem Zd7 {R:XRs}{nx st:Nat}:∀{xs:List XA},(∀x∈xs,okA R nx st x)->∀c∈Hq xs,okC R nx st c
 | [],_,c,hc=>by simp [Hq]at hc
 | .c x::l,h,c,hc=>by
  simp only[Hq,Kh]at hc;rcases hc with rfl|hc
  ·exact h _ Ks
  ·exact Zd7 (fun x hx=>h x (Ko _ hx)) c hc
 | .ag cs::l,h,c,hc=>by
  simp only[Hq,Kia]at hc;rcases hc with hc|hc
  ·exact h _ Ks c hc
  ·exact Zd7 (fun x hx=>h x (Ko _ hx)) c hc
theorem Zwb {rs:List (Bool×Ty)}{X:XSt}{S:St}{is:List I}{y:Tp (rs.map (·.2))}{av:List (Bool×List D)}(hX:XOk X) (hS:SimX X S) (h:Zfy rs X is=some y):Ew S is fun xs=>Gv (av.map Ca) ⟨Bs rs y,[],[]⟩ S.roots (Ej xs):=by
 unfold Zfy at h;obtain⟨xs,ys,h,h1,h2,h3⟩:=Ze3 hX hS is _ h;split at h
 ·rename_i ids hsh hids;split at h
  ·rename_i hnd;obtain⟨y',h,hcd⟩:=Zx0 rs _ _ (Zd7 h2) h;simp only[Ka]at h;subst h;obtain⟨s1,s2⟩:=Zo6 rs y' xs ys hsh h1;obtain⟨rt,f1,f2⟩:=Wl hS (Hq xs) _ ids S.roots hcd hids (Qr hnd) (fun _ _=>rfl);have hk:=La hcd s2;refine h3 _ (Vt (rt:=rt) (Vk av _) ?_ s1 ?_)
   ·rw[Sa];generalize av.flatMap (·.2)=l;have key:∀(l:List D) (k:Nat),Hb (l.map fun d=>(M.rd,d)) k=[]:=by
     intro l
     induction l with
     | nil=>intro k;rfl
     | cons d l ih=>intro k;cases d<;>exact ih k
    exact key l 0
   ·rw[hk];exact f1
  ·simp at h
 ·simp at h
theorem Yr5 (hm:P.follows .mixedOrders=true){f:FuncId}{fn:Func}{N:Nat}{s:Stm}{is:List I}{Φ:List (Fx P)}{H:List (Nat×Hn)}{an:An}{args rs:List (Bool×Ty)}(hf:P.funcs[f]? = some fn) (hb:(fn.body.bind (trC P fn.ntmps))=some s) (hi:Ia P fn.results.toList=some is) (hn:Nat.ble args.length fn.ntmps=true) (ho:Sr args=true)
  {x:Tp (args.map (·.2))} {y:Tp (rs.map (·.2))} (h:fnX Φ H s an is args rs x=some y):Gd P f ((Bs args x).map Ca) ⟨Bs rs y,[],[]⟩:=by
 obtain⟨c,hb,hs⟩:=Us hb;obtain⟨h1,h2⟩:=Ypf args x ho;have hl:((Bs args x).map Ca).length=args.length:=by
  have key:∀(as:List (Bool×Ty)) (x:Tp (as.map (·.2))),(Bs as x).length=as.length:=by
   intro as
   induction as with
   | nil=>intro x;rfl
   | cons a as ih=>intro x;obtain⟨ag,t⟩:=a;simp only[Bs,Ke,ih]
  rw[Kt,key]
 refine Zg1 hf hb hs hi (by rw[hl];exact Kea hn) ?_;refine Ja hm s an h1 h2 h ?_;intro e X' S' g1 g2 g3 g4;cases e with
 | ret=>exact Zwb g1 g3 g4
 | normal=>exact Zwb g1 g3 g4
 | _=>simp at g4
end
end Go.Vs
namespace Go.Vs
variable [Glb]
def A4:(as:List GArg)->Tp (C1 as)->List (M×XD)
 | [],_=>[]
 | a::as,x=>a.ms.zip (Oz a.t (Tp.hd a.t _ x))++A4 as (Tp.tl a.t _ x)
def Ze7:M->Nat
 | .io=>1
 | .rx=>1
 | _=>0
def A8:List (M×XD)->Nat
 | []=>0
 | (m,.sl _ _)::l=>Ze7 m+A8 l
 | _::l=>A8 l
def Ch:List GArg->Nat
 | []=>0
 | a::as=>match a.ptr with
  | true=>Ch as+1
  | false=>Ch as
def inL:List (M×XD)->Nat->Nat->List XC×XRs×Nat
 | [],_,k2=>([],[],k2)
 | (_,.lf c)::l,k1,k2=>(Zfv c::(inL l k1 k2).1,(inL l k1 k2).2)
 | (m,.sl t xs)::l,k1,k2=>match m with
  | .io=>(.rw k1::(inL l (k1+1) k2).1,(k1,0,.tr t xs)::(inL l (k1+1) k2).2.1,(inL l (k1+1) k2).2.2)
  | .rx=>(.rw k1::(inL l (k1+1) k2).1,(k1,0,.im t xs)::(inL l (k1+1) k2).2.1,(inL l (k1+1) k2).2.2)
  | .ow=>(.rw k2::(inL l k1 (k2+1)).1,(k2,0,.tr t xs)::(inL l k1 (k2+1)).2.1,(inL l k1 (k2+1)).2.2)
  | .rd=>(.rw k2::(inL l k1 (k2+1)).1,(k2,0,.im t xs)::(inL l k1 (k2+1)).2.1,(inL l k1 (k2+1)).2.2)
def Gk:List GArg->List XC->Nat->List XA
 | [],_,_=>[]
 | a::as,cs,b=>match a.ptr with
  | true=>.c (.pb b 0)::Gk as (cs.drop (A7 a.ms)) (b+1)
  | false=>(match a.ag with
   | true=>.ag (cs.take (A7 a.ms))
   | false=>match cs.take (A7 a.ms) with
    | [c]=>.c c
    | _=>.ag [])::Gk as (cs.drop (A7 a.ms)) b
def Ep:List GArg->List XC->Nat->XRs
 | [],_,_=>[]
 | a::as,cs,b=>match a.ptr with
  | true=>(b,0,.bx ((cs.take (A7 a.ms)).map fun c=>(0,c)))::Ep as (cs.drop (A7 a.ms)) (b+1)
  | false=>Ep as (cs.drop (A7 a.ms)) b
def B7 (as:List GArg) (x:Tp (C1 as)):XSt :=
 ⟨L8 0 0 (Gk as (inL (A4 as x) 0 (A8 (A4 as x)+Ch as)).1 (A8 (A4 as x))),(inL (A4 as x) 0 (A8 (A4 as x)+Ch as)).2.1++Ep as (inL (A4 as x) 0 (A8 (A4 as x)+Ch as)).1 (A8 (A4 as x)),(inL (A4 as x) 0 (A8 (A4 as x)+Ch as)).2.2,1,A8 (A4 as x)+Ch as⟩
def okG:List GArg->Bool
 | []=>true
 | a::as=>Nat.beq (A7 a.ms) a.t.n&&((a.ptr||a.ag)||Nat.beq a.t.n 1)&&okG as
def Zac {β:Type}(R:XRs):List Ty->List XC->(List Sg->List XC->Option β)->Option β
 | [],cs,k=>k [] cs
 | t::ts,cs,k=>Ei R t cs fun x cs=>Zac R ts cs fun vs cs=>k (⟨t,x⟩::vs) cs
def Qg {β:Type}(R:XRs):List (M×XD)->Nat->(List Sg->List Nat->Option β)->Option β
 | [],_,k=>k [] []
 | (_,.lf _)::l,n,k=>Qg R l n k
 | (m,.sl t xs)::l,n,k=>match m with
  | .io=>match lk R n with
   | some (_,.tr t' ys)=>Ps t' t ys fun ys=>chk (nEq ys.length xs.length) (Qg R l (n+1) fun vs ids=>k (⟨.L t,ys⟩::vs) (n::ids))
   | _=>none
  | .rx=>Qg R l (n+1) k
  | _=>Qg R l n k
def Zpf (R:XRs) (e:Nat×XC):Bool:=match e.1,e.2 with
 | 0,.rw r=>match lk R r with
  | some (0,.im _ _)=>true
  | _=>false
 | _,_=>false
def Jz (R:XRs):List M->List Ty->List (Nat×XC)->Option (List XC)
 | [],[],[]=>some []
 | m::ms,t::ts,e::es=>match m,Mf t with
  | .rx,true=>match Zpf R e with
   | true=>Jz R ms ts es
   | false=>none
  | _,_=>match Jz R ms ts es with
   | some cs=>some (e.2::cs)
   | none=>none
 | _,_,_=>none
def V8 (R:XRs):List GArg->Nat->Option (List XC)
 | [],_=>some []
 | a::as,b=>match a.ptr with
  | true=>match lk R b with
   | some (_,.bx es)=>match Jz R a.ms (cts a.t) es,V8 R as (b+1) with
    | some cs,some ds=>match Nat.beq cs.length (Fc a.o)&&Mn a.t with
     | true=>some (cs++ds)
     | false=>none
    | _,_=>none
   | _=>none
  | false=>V8 R as b
def Vr (as:List GArg) (rs:List (Bool×Ty)) (x:Tp (C1 as)) (X:XSt) (is:List I):Option (Tp (Fj as rs)) :=
 U6 X is fun xs=>match F2 rs xs,V8 X.roots as (A8 (A4 as x)) with
  | true,some ps=>match D8 X.roots (Hq xs++ps) with
   | some ids=>match Mp ids with
    | true=>Zac X.roots (F8 rs) (Hq xs) fun vr rest=>match rest with
     | []=>Qg X.roots (A4 as x) 0 fun vio ios=>match P0 ids ios with
      | true=>Zac X.roots (Ge as) ps fun vb rest=>match rest with
       | []=>Rx (Fj as rs) (vr++(vio++vb)) some
       | _=>none
      | false=>none
     | _=>none
    | false=>none
   | none=>none
  | _,_=>none
noncomputable def fnG {P:Program}(Φ:List (Fx P)) (H:List (Nat×Hn)) (s:Stm) (an:An) (is:List I) (as:List GArg) (rs:List (Bool×Ty)) (x:Tp (C1 as)):Option (Tp (Fj as rs)) :=
 C8 Φ H s an (B7 as x) fun e X'=>match e with
  | .ret=>Vr as rs x X' is
  | .normal=>Vr as rs x X' is
  | _=>none
theorem Zs {α:Type}:∀{l:List (Nat×Nat×α)}{r:Nat}{e:Nat×α},lk l r=some e->(r,e)∈l
 | [],r,e,h=>by simp [lk]at h
 | x::l,r,e,h=>by
  rw[Bf]at h;split at h
  ·rename_i hx;subst hx;simp only[Ka]at h;subst h;exact Ks
  ·exact Ko _ (Zs h)
theorem Zt {α:Type}:∀{l:List (Nat×Nat×α)}{r:Nat}{e:Nat×α},(l.map (·.1)).Nodup->(r,e)∈l->lk l r=some e
 | [],r,e,_,h=>by simp at h
 | x::l,r,e,hn,h=>by
  simp only[Kc,Kwa]at hn;rw[Bf];rcases Kh.1 h with rfl|h
  ·rw[if_pos rfl]
  ·rw[if_neg (fun he=>hn.1 (by rw[he];exact Kca.2 ⟨(r,e),h,rfl⟩))];exact Zt hn.2 h
def Cv (z:M×XD):M×D:=(z.1,De z.2)
theorem Zd5:∀(as:List GArg) (x:Tp (C1 as)),okG as=true->(A4 as x).map Cv=flat (A2 as x)
 | [],_,_=>rfl
 | a::as,x,h=>by
  simp only[okG,Kd]at h;have ih:=Zd5 as (Tp.tl a.t _ x) h.2;have e1:(a.ms.zip (Oz a.t (Tp.hd a.t _ x))).map Cv=a.ms.zip (Af a.t (Tp.hd a.t _ x)):=by
   rw[<-Zay];generalize Oz a.t (Tp.hd a.t _ x)=ds;generalize a.ms=ms
   induction ms generalizing ds with
   | nil=>rfl
   | cons m ms ih=>cases ds with
    | nil=>rfl
    | cons d ds=>simp only[Kgc,Kc,ih];rfl
  simp only[A4,Kaa,e1,ih,flat,A2,Kya];congr 1;simp only[mkG];cases a.ptr<;>rfl
theorem Znl:∀(as:List GArg) (x:Tp (C1 as)),H1 (A2 as x)=Ch as
 | [],_=>rfl
 | a::as,x=>by
  simp only[A2,Ch,mkG];cases a.ptr<;>simp only[H1,Znl as]
theorem Ypx (R:XRs) (c:XC):WkC (match De (.lf c) with|.lf v=>.lf v|_=>.un) (cC R (Zfv c)):=by
 cases c<;>first|exact .inl rfl|exact .inr rfl
theorem Ze6:∀(l:List (M×XD)),C4 (l.map Cv)=A8 l
 | []=>rfl
 | (m,.lf c)::l=>by
  have:N1 (Cv (m,.lf c))=0:=by cases c<;>cases m<;>rfl
  simp only[Kc,C4,A8,Ze6 l,this,Km]
 | (m,.sl t xs)::l=>by
  have:N1 (Cv (m,.sl t xs))=Ze7 m:=by cases m<;>rfl
  simp only[Kc,C4,A8,Ze6 l,this]
def Zqx (y:Nat×Root) (z:Nat×Nat×XR):Prop:=y.1=z.1/\z.2.1=0/\((∃(t:Ty) (xs:List t.den),z.2.2=.tr t xs/\y.2=.tr t.n (xs.map (Af t)))\/∃(t:Ty) (xs:List t.den),z.2.2=.im t xs/\y.2=.im t.n (xs.map (Af t)))
def Pm (l:List (M×XD)) (k1 k2:Nat):Prop :=
  Ab (fun c x=>(∀R:XRs,(∀z∈(inL l k1 k2).2.1,lk R z.1=some z.2)->WkC c (cC R x))/\∀nx st R,(∀z∈(inL l k1 k2).2.1,z.1<nx)->okC R nx st x) (Ay (l.map Cv) (k1,k2)).1 (inL l k1 k2).1 /\
  Ab Zqx (Ay (l.map Cv) (k1,k2)).2.1 (inL l k1 k2).2.1/\(Ay (l.map Cv) (k1,k2)).2.2.2=(inL l k1 k2).2.2/\k2<=(inL l k1 k2).2.2/\((inL l k1 k2).2.1.map (·.1)).Nodup/\∀z∈(inL l k1 k2).2.1,(k1<=z.1/\z.1<k1+A8 l)\/(k2<=z.1/\z.1<(inL l k1 k2).2.2)
theorem Zk:∀(l:List (M×XD)) (k1 k2:Nat),k1+A8 l<=k2->Pm l k1 k2
 | [],k1,k2,_=>⟨trivial,trivial,rfl,Kf _,List.nodup_nil,by simp [inL]⟩
 | (m,.lf c)::l,k1,k2,h=>by
  have hf:A8 ((m,.lf c)::l)=A8 l:=rfl;rw[hf]at h;obtain⟨a,b,n,u,d,e⟩:=Zk l k1 k2 h;have hd:(inC m (De (.lf c)) (k1,k2))=((match De (.lf c) with|.lf v=>.lf v|_=>.un),[],(k1,k2)):=by cases c<;>rfl
  have e1:(Ay (((m,XD.lf c)::l).map Cv) (k1,k2)).1=(match De (.lf c) with|.lf v=>.lf v|_=>.un)::(Ay (l.map Cv) (k1,k2)).1:=by
   simp only[Kc,Cv,Ay,hd]
  have e2:(Ay (((m,XD.lf c)::l).map Cv) (k1,k2)).2=(Ay (l.map Cv) (k1,k2)).2:=by
   simp only[Kc,Cv,Ay,hd,Kj]
  unfold Pm;rw[e1,e2,hf];refine⟨⟨⟨fun R _=>Ypx R c,fun nx st R _=>by cases c<;>trivial⟩,a⟩,b,n,u,d,e⟩
 | (m,.sl t xs)::l,k1,k2,h=>by
  have low:∀(x:XR) (y:Root),(inC m (De (.sl t xs)) (k1,k2))=(.rf k1 [] t.n 0 (xs.map (Af t)).length,[(k1,y)],(k1+1,k2))->Ze7 m=1->(inL ((m,.sl t xs)::l) k1 k2)=(.rw k1::(inL l (k1+1) k2).1,(k1,0,x)::(inL l (k1+1) k2).2.1,(inL l (k1+1) k2).2.2)->((x=.tr t xs/\y=.tr t.n (xs.map (Af t)))\/(x=.im t xs/\y=.im t.n (xs.map (Af t))))->Pm ((m,.sl t xs)::l) k1 k2:=by
   intro x y hd hm he hxy;have hf:A8 ((m,.sl t xs)::l)=1+A8 l:=by simp only[A8,hm]
   rw[hf]at h;obtain⟨a,b,n,u,d,e⟩:=Zk l (k1+1) k2 (by omega);have e1:(Ay (((m,XD.sl t xs)::l).map Cv) (k1,k2)).1=.rf k1 [] t.n 0 (xs.map (Af t)).length::(Ay (l.map Cv) (k1+1,k2)).1:=by
    simp only[Kc,Cv,Ay,hd]
   have e2:(Ay (((m,XD.sl t xs)::l).map Cv) (k1,k2)).2.1=(k1,y)::(Ay (l.map Cv) (k1+1,k2)).2.1:=by
    simp only[Kc,Cv,Ay,hd,Kjf]
   have e3:(Ay (((m,XD.sl t xs)::l).map Cv) (k1,k2)).2.2=(Ay (l.map Cv) (k1+1,k2)).2.2:=by
    simp only[Kc,Cv,Ay,hd]
   have goal:Pm ((m,.sl t xs)::l) k1 k2:=by
    unfold Pm;rw[e1,e2,e3,he,hf];refine⟨⟨⟨fun R hR=>?_,fun nx st R hR=>hR _ Ks⟩, ?_⟩,⟨⟨rfl,rfl, ?_⟩,b⟩,n,u, ?_, ?_⟩
    ·have:=hR (k1,0,x) Ks;left;rcases hxy with ⟨rfl,_⟩|⟨rfl,_⟩<;>simp only[cC,this,Kt]
    ·refine a.mono ?_;intro c z ⟨q1,q2⟩;exact⟨fun R hR=>q1 R fun w hw=>hR w (Ko _ hw),fun nx st R hR=>q2 nx st R fun w hw=>hR w (Ko _ hw)⟩
    ·rcases hxy with ⟨rfl,rfl⟩|⟨rfl,rfl⟩
     ·exact .inl ⟨t,xs,rfl,rfl⟩
     ·exact .inr ⟨t,xs,rfl,rfl⟩
    ·simp only[Kc,Kwa];refine⟨fun hm=>?_,d⟩;obtain⟨z,hz,hz2⟩:=Kca.1 hm;rcases e z hz with q|q<;>omega
    ·intro z hz;rcases Kh.1 hz with rfl|hz
     ·left;simp only;omega
     ·rcases e z hz with q|q
      ·left;omega
      ·exact .inr q
   exact goal
  have high:∀(x:XR) (y:Root),(inC m (De (.sl t xs)) (k1,k2))=(.rf k2 [] t.n 0 (xs.map (Af t)).length,[(k2,y)],(k1,k2+1))->Ze7 m=0->(inL ((m,.sl t xs)::l) k1 k2)=(.rw k2::(inL l k1 (k2+1)).1,(k2,0,x)::(inL l k1 (k2+1)).2.1,(inL l k1 (k2+1)).2.2)->((x=.tr t xs/\y=.tr t.n (xs.map (Af t)))\/(x=.im t xs/\y=.im t.n (xs.map (Af t))))->Pm ((m,.sl t xs)::l) k1 k2:=by
   intro x y hd hm he hxy;have hf:A8 ((m,.sl t xs)::l)=A8 l:=by simp only[A8,hm,Km]
   rw[hf]at h;obtain⟨a,b,n,u,d,e⟩:=Zk l k1 (k2+1) (by omega);have e1:(Ay (((m,XD.sl t xs)::l).map Cv) (k1,k2)).1=.rf k2 [] t.n 0 (xs.map (Af t)).length::(Ay (l.map Cv) (k1,k2+1)).1:=by
    simp only[Kc,Cv,Ay,hd]
   have e2:(Ay (((m,XD.sl t xs)::l).map Cv) (k1,k2)).2.1=(k2,y)::(Ay (l.map Cv) (k1,k2+1)).2.1:=by
    simp only[Kc,Cv,Ay,hd,Kjf]
   have e3:(Ay (((m,XD.sl t xs)::l).map Cv) (k1,k2)).2.2=(Ay (l.map Cv) (k1,k2+1)).2.2:=by
    simp only[Kc,Cv,Ay,hd]
   have goal:Pm ((m,.sl t xs)::l) k1 k2:=by
    unfold Pm;rw[e1,e2,e3,he,hf];refine⟨⟨⟨fun R hR=>?_,fun nx st R hR=>hR _ Ks⟩, ?_⟩,⟨⟨rfl,rfl, ?_⟩,b⟩,n,(by show k2<=(inL l k1 (k2+1)).2.2;omega), ?_, ?_⟩
    ·have:=hR (k2,0,x) Ks;left;rcases hxy with ⟨rfl,_⟩|⟨rfl,_⟩<;>simp only[cC,this,Kt]
    ·refine a.mono ?_;intro c z ⟨q1,q2⟩;exact⟨fun R hR=>q1 R fun w hw=>hR w (Ko _ hw),fun nx st R hR=>q2 nx st R fun w hw=>hR w (Ko _ hw)⟩
    ·rcases hxy with ⟨rfl,rfl⟩|⟨rfl,rfl⟩
     ·exact .inl ⟨t,xs,rfl,rfl⟩
     ·exact .inr ⟨t,xs,rfl,rfl⟩
    ·simp only[Kc,Kwa];refine⟨fun hm=>?_,d⟩;obtain⟨z,hz,hz2⟩:=Kca.1 hm;rcases e z hz with q|q<;>omega
    ·intro z hz;rcases Kh.1 hz with rfl|hz
     ·right;simp only;omega
     ·rcases e z hz with q|q
      ·exact .inl q
      ·right;simp only;omega
   exact goal
  cases m with
  | io=>exact low _ _ rfl rfl rfl (.inl ⟨rfl,rfl⟩)
  | rx=>exact low _ _ rfl rfl rfl (.inr ⟨rfl,rfl⟩)
  | ow=>exact high _ _ rfl rfl rfl (.inl ⟨rfl,rfl⟩)
  | rd=>exact high _ _ rfl rfl rfl (.inr ⟨rfl,rfl⟩)
theorem Yf {α β:Type}{R:α->β->Prop}:∀{as:List α}{bs:List β},Ab R as bs->∀b∈bs,∃a∈as,R a b
 | [],[],_,b,hb=>by simp at hb
 | a::as,b::bs,h,c,hc=>by
  rcases Kh.1 hc with rfl|hc
  ·exact⟨a,Ks,h.1⟩
  ·obtain⟨d,d1,d2⟩:=Yf h.2 c hc;exact⟨d,Ko _ d1,d2⟩
 | [],_::_,h,_,_=>h.elim
 | _::_,[],h,_,_=>h.elim
theorem Zq1:∀{ys:List (Nat×Root)}{zs:XRs},Ab Zqx ys zs->ys.map (·.1)=zs.map (·.1)
 | [],[],_=>rfl
 | y::ys,z::zs,h=>by simp only[Kc,Zq1 h.2,h.1.1]
 | [],_::_,h=>h.elim
 | _::_,[],h=>h.elim
theorem Zjk {a:GArg}{x:a.t.den}(h:A7 a.ms=a.t.n):(a.ms.zip (Af a.t x)).length=A7 a.ms:=by
 rw[List.length_zip,Bt,<-h,Gm];omega
theorem Zme {R:XRs}:∀(as:List GArg) (x:Tp (C1 as)) (us:List C) (cs:List XC) (b:Nat),okG as=true->us.length=(flat (A2 as x)).length->Ab (fun c x=>WkC c (cC R x)) us cs->(∀z∈Ep as cs b,lk R z.1=some z.2) ->
  Ab (fun v a=>WkV v (cV R (.a a))) (inV (A2 as x) us b) (Gk as cs b)
 | [],_,_,_,_,_,_,_,_=>trivial
 | a::as,x,us,cs,b,h,hl,hw,hB=>by
  simp only[okG,Kd,Kbb]at h;obtain⟨⟨h1,h2⟩,h3⟩:=h;have h1:=Kr h1;have hz:=Zjk (x:=Tp.hd a.t _ x) h1;have hcell:(mkG a (Tp.hd a.t _ x)).cells=a.ms.zip (Af a.t (Tp.hd a.t _ x)):=by simp only[mkG];cases a.ptr<;>rfl
  simp only[flat,A2,Kya,Kz,hcell,hz]at hl;have hdrop:Ab (fun c x=>WkC c (cC R x)) (us.drop (A7 a.ms)) (cs.drop (A7 a.ms)):=by
   have:Ab WkC us (cs.map (cC R)):=by
    clear hl hB
    induction us generalizing cs with
    | nil=>cases cs<;>exact hw
    | cons u us ih=>cases cs with
     | nil=>exact hw.elim
     | cons c cs=>exact⟨hw.1,ih cs hw.2⟩
   have:=Iy (n:=A7 a.ms) this;rw[<-Kkb]at this
   revert this
   generalize us.drop (A7 a.ms)=p;generalize cs.drop (A7 a.ms)=q;intro this
   induction p generalizing q with
   | nil=>cases q<;>exact this
   | cons u us ih=>cases q with
    | nil=>exact this.elim
    | cons c cs=>exact⟨this.1,ih cs this.2⟩
  have htake:Ab WkC (us.take (A7 a.ms)) ((cs.take (A7 a.ms)).map (cC R)):=by
   have:Ab WkC us (cs.map (cC R)):=by
    clear hl hB hdrop
    induction us generalizing cs with
    | nil=>cases cs<;>exact hw
    | cons u us ih=>cases cs with
     | nil=>exact hw.elim
     | cons c cs=>exact⟨hw.1,ih cs hw.2⟩
   have:=Je (n:=A7 a.ms) this
   rwa [<-Kib]at this
  have hlen:(us.drop (A7 a.ms)).length=(flat (A2 as (Tp.tl a.t _ x))).length:=by
   rw[Kpa,hl,flat];omega
  cases hp:a.ptr with
  | true =>
   simp only[Ep,hp]at hB;have ih:=Zme as (Tp.tl a.t _ x) _ _ (b+1) h3 hlen hdrop fun z hz=>hB z (Ko _ hz);have hb:=hB _ Ks;simp only at hb;simp only[A2,mkG,hp,inV,Gk,hz];refine⟨?_,ih⟩;simp only[cV,cA,cC,hb];exact WkC.refl _
  | false =>
   simp only[Ep,hp]at hB;have ih:=Zme as (Tp.tl a.t _ x) _ _ b h3 hlen hdrop hB;cases hag:a.ag with
   | true =>
    simp only[A2,mkG,hp,hag,inV,Gk,hz];exact⟨htake,ih⟩
   | false =>
    simp only[A2,mkG,hp,hag,inV,Gk,hz];refine⟨?_,ih⟩;have hn:a.t.n=1:=by
     rcases h2 with h2|h2
     ·rw[hp,hag]at h2;simp at h2
     ·exact Kr h2
    match h4:us.take (A7 a.ms),h5:cs.take (A7 a.ms) with
    | [u],[c]=>rw[h4,h5]at htake;exact htake.1
    | [],[] =>
     exfalso;have:(us.take (A7 a.ms)).length=0:=by rw[h4];rfl
     rw[Kab,hl,h1,hn]at this;omega
    | [],_::_=>rw[h4,h5]at htake;exact htake.elim
    | _::_,[]=>rw[h4,h5]at htake;exact htake.elim
    | [_],_::_::_=>rw[h4,h5]at htake;exact htake.2.elim
    | _::_::_,[_]=>rw[h4,h5]at htake;exact htake.2.elim
    | _::_::_,_::_::_ =>
     exfalso;have:(us.take (A7 a.ms)).length<=1:=by rw[Kab,h1,hn];omega
     rw[h4]at this;simp at this
theorem Zi:∀(as:List GArg) (cs:List XC) (b:Nat),((Ep as cs b).map (·.1)).Nodup/\∀z∈Ep as cs b,b<=z.1/\z.1<b+Ch as/\∃es,z.2=(0,.bx es)/\∀e∈es,e.1=0/\e.2∈cs
 | [],_,_=>⟨List.nodup_nil,by simp [Ep]⟩
 | a::as,cs,b=>by
  cases hp:a.ptr with
  | false =>
   simp only[Ep,hp,Ch];obtain⟨h1,h2⟩:=Zi as (cs.drop (A7 a.ms)) b;refine⟨h1,fun z hz=>?_⟩;obtain⟨q1,q2,es,q3,q4⟩:=h2 z hz;exact⟨q1,q2,es,q3,fun e he=>⟨(q4 e he).1,Knb (q4 e he).2⟩⟩
  | true =>
   simp only[Ep,hp,Ch];obtain⟨h1,h2⟩:=Zi as (cs.drop (A7 a.ms)) (b+1);refine⟨?_,fun z hz=>?_⟩
   ·simp only[Kc,Kwa];refine⟨fun hm=>?_,h1⟩;obtain⟨z,hz,hz2⟩:=Kca.1 hm;have:=(h2 z hz).1;omega
   ·rcases Kh.1 hz with rfl|hz
    ·refine⟨Kf _,by omega,_,rfl,fun e he=>?_⟩;obtain⟨c,hc,rfl⟩:=Kca.1 he;exact⟨rfl,Kpb hc⟩
    ·obtain⟨q1,q2,es,q3,q4⟩:=h2 z hz;exact⟨by omega,by omega,es,q3,fun e he=>⟨(q4 e he).1,Knb (q4 e he).2⟩⟩
theorem Zmf {R:XRs}:∀(as:List GArg) (x:Tp (C1 as)) (us:List C) (cs:List XC) (b:Nat),okG as=true->Ab (fun c x=>WkC c (cC R x)) us cs->∀r e,(r,e)∈Ep as cs b->∃y y',get (H7 (inB (A2 as x) us) b) r=some y/\cRt R e.2=some y'/\WkR y y'
 | [],_,_,_,_,_,_,r,e,h=>by simp [Ep]at h
 | a::as,x,us,cs,b,h,hw,r,e,he=>by
  simp only[okG,Kd]at h;have h1:=Kr h.1.1;have hz:=Zjk (x:=Tp.hd a.t _ x) h1;have conv:∀{us:List C} {cs:List XC},Ab (fun c x=>WkC c (cC R x)) us cs->Ab WkC us (cs.map (cC R)):=by
   intro us
   induction us with
   | nil=>intro cs h;cases cs<;>exact h
   | cons u us ih=>intro cs h;cases cs with
    | nil=>exact h.elim
    | cons c cs=>exact⟨h.1,ih h.2⟩
  have back:∀{us:List C} {cs:List XC},Ab WkC us (cs.map (cC R))->Ab (fun c x=>WkC c (cC R x)) us cs:=by
   intro us
   induction us with
   | nil=>intro cs h;cases cs<;>exact h
   | cons u us ih=>intro cs h;cases cs with
    | nil=>exact h.elim
    | cons c cs=>exact⟨h.1,ih h.2⟩
  have hdrop:Ab (fun c x=>WkC c (cC R x)) (us.drop (A7 a.ms)) (cs.drop (A7 a.ms)):=by
   refine back ?_;rw[Kkb];exact Iy (conv hw)
  have htake:Ab WkC (us.take (A7 a.ms)) ((cs.take (A7 a.ms)).map (cC R)):=by
   rw[Kib];exact Je (conv hw)
  cases hp:a.ptr with
  | false =>
   simp only[Ep,hp]at he;obtain⟨y,y',q⟩:=Zmf as (Tp.tl a.t _ x) _ _ b h.2 hdrop r e he;refine⟨y,y', ?_⟩;simp only[A2,mkG,hp,inB,hz];exact q
  | true =>
   simp only[Ep,hp]at he;simp only[A2,mkG,hp,inB,hz,H7,get];rcases Kh.1 he with he|he
   ·simp only[Kb]at he;obtain⟨rfl,rfl⟩:=he;rw[if_pos rfl];refine⟨_,_,rfl,rfl, ?_⟩;simp only[WkR,Krb];exact htake
   ·have:=((Zi as _ (b+1)).2 _ he).1;simp only at this;rw[if_neg (by omega)];exact Zmf as (Tp.tl a.t _ x) _ _ (b+1) h.2 hdrop r e he
theorem Ypd (as:List GArg) (x:Tp (C1 as)) (ho:okG as=true):Ab (fun c y=>WkC c (cC (B7 as x).roots y)) (B4 (A2 as x)).1 (inL (A4 as x) 0 (A8 (A4 as x)+Ch as)).1/\C4 (flat (A2 as x))=A8 (A4 as x)/\(∀z∈Ep as (inL (A4 as x) 0 (A8 (A4 as x)+Ch as)).1 (A8 (A4 as x)),lk (B7 as x).roots z.1=some z.2):=by
 have hflat:=Zd5 as x ho;have hfx:C4 (flat (A2 as x))=A8 (A4 as x):=by rw[<-hflat,Ze6]
 have hfix:Bz (A2 as x)=A8 (A4 as x)+Ch as:=by unfold Bz;rw[hfx,Znl]
 obtain⟨a,b,n,u,d,e⟩:=Zk (A4 as x) 0 (A8 (A4 as x)+Ch as) (by omega);have hcell:B4 (A2 as x)=Ay ((A4 as x).map Cv) (0,A8 (A4 as x)+Ch as):=by unfold B4;rw[hflat,hfix]
 rw[<-hcell]at a b n;obtain⟨hBk,hBz⟩:=Zi as (inL (A4 as x) 0 (A8 (A4 as x)+Ch as)).1 (A8 (A4 as x));have hnd:((B7 as x).roots.map (·.1)).Nodup:=by
  show (((inL (A4 as x) 0 (A8 (A4 as x)+Ch as)).2.1++Ep as (inL (A4 as x) 0 (A8 (A4 as x)+Ch as)).1 (A8 (A4 as x))).map (·.1)).Nodup;rw[Kaa,Kgd];refine⟨d,hBk, ?_⟩;intro p hp q hq epq;subst epq;obtain⟨z,hz,rfl⟩:=Kca.1 hp;obtain⟨z',hz',e2⟩:=Kca.1 hq;have h1:=e z hz;have h2:=hBz z' hz';omega
 exact⟨a.mono fun c y h=>h.1 _ fun z hz=>Zt hnd (Kee _ hz),hfx,fun z hz=>Zt hnd (Khc _ hz)⟩
theorem Zmi (as:List GArg) (x:Tp (C1 as)) (ho:okG as=true):XOk (B7 as x)/\SimX (B7 as x) ⟨Hu 0 (Bl (A2 as x)).1,(Bl (A2 as x)).2.1,(Bl (A2 as x)).2.2,Bz (A2 as x)⟩:=by
 have hflat:=Zd5 as x ho;have hfx:C4 (flat (A2 as x))=A8 (A4 as x):=by rw[<-hflat,Ze6]
 have hfix:Bz (A2 as x)=A8 (A4 as x)+Ch as:=by unfold Bz;rw[hfx,Znl]
 obtain⟨a,b,n,u,d,e⟩:=Zk (A4 as x) 0 (A8 (A4 as x)+Ch as) (by omega);have hcell:B4 (A2 as x)=Ay ((A4 as x).map Cv) (0,A8 (A4 as x)+Ch as):=by unfold B4;rw[hflat,hfix]
 rw[<-hcell]at a b n;obtain⟨hBk,hBz⟩:=Zi as (inL (A4 as x) 0 (A8 (A4 as x)+Ch as)).1 (A8 (A4 as x))
 -- all the roots' names
 have hnd:((B7 as x).roots.map (·.1)).Nodup:=by
  show (((inL (A4 as x) 0 (A8 (A4 as x)+Ch as)).2.1++Ep as (inL (A4 as x) 0 (A8 (A4 as x)+Ch as)).1 (A8 (A4 as x))).map (·.1)).Nodup;rw[Kaa,Kgd];refine⟨d,hBk, ?_⟩;intro p hp q hq epq;subst epq;obtain⟨z,hz,rfl⟩:=Kca.1 hp;obtain⟨z',hz',e2⟩:=Kca.1 hq;have h1:=e z hz;have h2:=hBz z' hz';omega
 have hlt:∀z∈(B7 as x).roots,z.1<(B7 as x).next:=by
  intro z hz;show z.1<(inL _ _ _).2.2;rcases Kia.1 hz with hz|hz
  ·have:=e z hz;omega
  ·have:=(hBz z hz).2.1;omega
 have hlkL:∀z∈(inL (A4 as x) 0 (A8 (A4 as x)+Ch as)).2.1,lk (B7 as x).roots z.1=some z.2:=fun z hz=>Zt hnd (Kee _ hz);have hlkB:∀z∈Ep as (inL (A4 as x) 0 (A8 (A4 as x)+Ch as)).1 (A8 (A4 as x)),lk (B7 as x).roots z.1=some z.2:=fun z hz=>Zt hnd (Khc _ hz);have hcells:Ab (fun c y=>WkC c (cC (B7 as x).roots y)) (B4 (A2 as x)).1 (inL (A4 as x) 0 (A8 (A4 as x)+Ch as)).1:=a.mono fun c y h=>h.1 _ hlkL;have hcok:∀c∈(inL (A4 as x) 0 (A8 (A4 as x)+Ch as)).1,okC (B7 as x).roots (B7 as x).next (B7 as x).stamp c:=by
  intro c hc;obtain⟨c',_,h⟩:=Yf a c hc;exact h.2 _ _ _ fun z hz=>hlt z (Kee _ hz)
 have hulen:(B4 (A2 as x)).1.length=(flat (A2 as x)).length:=by
  rw[hcell,<-hflat];have key:∀(l:List (M×D)) (k:Kk),(Ay l k).1.length=l.length:=by
   intro l
   induction l with
   | nil=>intro k;rfl
   | cons a l ih=>intro k;obtain⟨m,d⟩:=a;simp only[Ay,Ke,ih]
  exact key _ _
 have hargs:=Zme (R:=(B7 as x).roots) as x (B4 (A2 as x)).1 _ (A8 (A4 as x)) ho hulen hcells hlkB;have hAok:∀y∈Gk as (inL (A4 as x) 0 (A8 (A4 as x)+Ch as)).1 (A8 (A4 as x)),okA (B7 as x).roots (B7 as x).next (B7 as x).stamp y:=by
  have key:∀(bs:List GArg) (cs:List XC) (b:Nat),(∀c∈cs,okC (B7 as x).roots (B7 as x).next (B7 as x).stamp c)->(b+Ch bs<=(B7 as x).next)->∀y∈Gk bs cs b,okA (B7 as x).roots (B7 as x).next (B7 as x).stamp y:=by
   intro bs
   induction bs with
   | nil=>intro cs b _ _ y hy;simp [Gk]at hy
   | cons a bs ih =>
    intro cs b hc hb y hy;cases hp:a.ptr with
    | true =>
     simp only[Gk,hp,Kh]at hy;simp only[Ch,hp]at hb;rcases hy with rfl|hy
     ·show b<(B7 as x).next;omega
     ·exact ih _ (b+1) (fun c h=>hc c (Knb h)) (by omega) y hy
    | false =>
     simp only[Gk,hp,Kh]at hy;simp only[Ch,hp]at hb;rcases hy with rfl|hy
     ·cases a.ag with
      | true=>exact fun c h=>hc c (Kpb h)
      | false =>
       simp only;split
       ·rename_i c h4;exact hc c (Kpb (i:=A7 a.ms) (by rw[h4];exact Ks))
       ·exact fun c h=>by simp at h
     ·exact ih _ b (fun c h=>hc c (Knb h)) hb y hy
  refine key as _ _ hcok ?_;show _<=(inL _ _ _).2.2;omega
 have hst0:∀r s z,lk (B7 as x).roots r=some (s,z)->s=0:=by
  intro r s z hl;have hm:=Zs hl;rcases Kia.1 hm with hm|hm
  ·obtain⟨y,_,h⟩:=Yf b _ hm;exact h.2.1
  ·obtain⟨es,h,_⟩:=(hBz _ hm).2.2;simp only[Kb]at h;exact h.1
 refine⟨⟨?_, ?_, ?_, ?_⟩,⟨?_,hfix, ?_, ?_⟩⟩
 ·intro r s z hl;exact⟨hlt _ (Zs hl),by rw[hst0 r s z hl];exact Ksa 0⟩
 ·intro t s v hl;obtain⟨y,rfl,rfl,_,h4⟩:=Y0 hl;exact⟨Ksa 0,hAok y (Kfa h4)⟩
 ·intro r s cs hl en hen;have hm:=Zs hl;rcases Kia.1 hm with hm|hm
  ·obtain⟨y,_,h⟩:=Yf b _ hm;rcases h.2.2 with ⟨t,xs,h,_⟩|⟨t,xs,h,_⟩<;>simp at h
  ·obtain⟨es,h,h2⟩:=(hBz _ hm).2.2;simp only[Kb,XR.bx.injEq]at h;obtain⟨_,rfl⟩:=h;obtain⟨q1,q2⟩:=h2 en hen;exact⟨by rw[q1];exact Ksa 0,hcok _ q2⟩
 ·show A8 (A4 as x)+Ch as<=(inL _ _ _).2.2;exact u
 ·exact n
 ·intro t s v hl;obtain⟨y,rfl,rfl,_,h4⟩:=Y0 hl;right;obtain⟨i,hi,hget⟩:=Kjd (Kfa h4);have hlen:=hargs.length;rw[Kxc]at h4;have ht:t<(Gk as (inL (A4 as x) 0 (A8 (A4 as x)+Ch as)).1 (A8 (A4 as x))).length:=(Kja.1 h4).1;have hv:(inV (A2 as x) (B4 (A2 as x)).1 (A8 (A4 as x)))[t]? = some (inV (A2 as x) (B4 (A2 as x)).1 (A8 (A4 as x)))[t]:=Ku (by omega);obtain⟨y',q1,q2⟩:=hargs.get t _ hv;rw[h4]at q1;simp only[Ka]at q1;subst q1;refine⟨_,Zex (Koa _) ?_,q2⟩;rw[Kxc];show (inV (A2 as x) (B4 (A2 as x)).1 (C4 (flat (A2 as x))))[t]? = _;rw[hfx];exact hv
 ·intro r s z hl y hy;have hm:=Zs hl;have hroots:(Bl (A2 as x)).2.1=(B4 (A2 as x)).2.1++H7 (inB (A2 as x) (B4 (A2 as x)).1) (A8 (A4 as x)):=by show _++H7 _ (C4 _)=_;rw[hfx]
  show ∃y',get (Bl (A2 as x)).2.1 r=some y'/\WkR y' y;rw[hroots,D6];have hkeys:=Zq1 b;rcases Kia.1 hm with hm|hm
  ·obtain⟨y0,hy0,h⟩:=Yf b _ hm;have hg:get (B4 (A2 as x)).2.1 r=some y0.2:=G6 (by rw[hkeys];exact d) (by rw[<-show y0.1=r from h.1];exact hy0);rw[hg];refine⟨_,rfl, ?_⟩;rcases h.2.2 with ⟨t,xs,h1,h2⟩|⟨t,xs,h1,h2⟩
   ·simp only at h1;subst h1;simp only[cRt,Ka]at hy;subst hy;rw[h2];exact⟨rfl,rfl⟩
   ·simp only at h1;subst h1;simp only[cRt,Ka]at hy;subst hy;rw[h2];exact⟨rfl,rfl⟩
  ·have hno:get (B4 (A2 as x)).2.1 r=none:=by
    cases hq:get (B4 (A2 as x)).2.1 r with
    | none=>rfl
    | some w =>
     exfalso;have h1:r∈(B4 (A2 as x)).2.1.map (·.1):=Kca.2 ⟨_,Mm hq,rfl⟩;rw[hkeys]at h1;obtain⟨z1,hz1,e1⟩:=Kca.1 h1;have h2:=e z1 hz1;have h3:=hBz _ hm;simp only at h3;omega
   rw[hno];obtain⟨y1,y2,g1,g2,g3⟩:=Zmf (R:=(B7 as x).roots) as x (B4 (A2 as x)).1 _ (A8 (A4 as x)) ho hcells r (s,z) hm;simp only at g2;rw[hy]at g2;simp only[Ka]at g2;subst g2;exact⟨y1,g1,g3⟩
end Go.Vs
namespace Go.Vs
variable [Glb]
theorem Zn6 {β:Type}{out:β}{R:XRs}{nx st:Nat}:∀(ts:List Ty) (cs:List XC) (k:List Sg->List XC->Option β),(∀c∈cs,okC R nx st c)->Zac R ts cs k=some out ->
  ∃vs cs0 rest,cs=cs0++rest/\k vs rest=some out/\Ab (CD R) cs0 (vs.flatMap Gh)/\vs.map (·.1)=ts
 | [],cs,k,ho,h=>⟨[],[],cs,rfl,h,trivial,rfl⟩
 | t::ts,cs,k,ho,h=>by
  simp only[Zac]at h;obtain⟨x,c0,c1,rfl,h1,h2⟩:=Mt t cs _ out ho h;obtain⟨vs,d0,d1,rfl,h3,h4,h5⟩:=Zn6 ts c1 _ (fun c hc=>ho c (Khc _ hc)) h1;exact⟨⟨t,x⟩::vs,c0++d0,d1,by simp,h3,by simp only[Kya,Gh];exact Ab.append h2 h4,by simp [h5]⟩
theorem Vn {β:Type}{out:β}{X:XSt}{S:St}(hS:SimX X S):∀(l:List (M×XD)) (n:Nat) (k:List Sg->List Nat->Option β),Qg X.roots l n k=some out ->
  ∃vs ids,k vs ids=some out/\∀rt:List (Nat×Root),(∀r∈ids,get rt r=get S.roots r)->Ab (fun (x:Nat×Nat×Nat) (o:Nat×List (List D))=>get rt x.1=some (.tr o.1 o.2)/\o.1=x.2.1/\o.2.length=x.2.2) (Hb (l.map Cv) n) (vs.map ioG)
 | [],n,k,h=>⟨[],[],h,fun rt _=>trivial⟩
 | (m,.lf c)::l,n,k,h=>by
  simp only[Qg]at h;obtain⟨vs,ids,h1,h2⟩:=Vn hS l n k h;refine⟨vs,ids,h1,fun rt hr=>?_⟩;have:Hb (((m,XD.lf c)::l).map Cv) n=Hb (l.map Cv) n:=by cases c<;>cases m<;>rfl
  rw[this];exact h2 rt hr
 | (m,.sl t xs)::l,n,k,h=>by
  simp only[Qg]at h;cases m with
  | io =>
   simp only at h;split at h
   ·rename_i s t' ys hl;obtain⟨ys',h,rfl,g3,g4⟩:=Uu h;obtain⟨hn,h⟩:=Di h;simp only[nEq,decide_eq_true_eq]at hn;obtain⟨vs,ids,h1,h2⟩:=Vn hS l (n+1) _ h;refine⟨_,_,h1,fun rt hr=>?_⟩;obtain⟨y,y1,y2⟩:=hS.roots n s _ hl _ rfl;have hg:get S.roots n=some (.tr t'.n (ys.map (Af t'))):=by
     cases y with
     | tr _ _=>obtain⟨rfl,rfl⟩:=y2;exact y1
     | _=>exact y2.elim
    refine⟨⟨?_,rfl, ?_⟩,h2 rt fun r hr'=>hr r (Ko _ hr')⟩
    ·simp only[ioG];rw[hr n Ks,hg,g3]
    ·simp only[ioG,Kt];exact hn
   ·simp at h
  | rx =>
   simp only at h;obtain⟨vs,ids,h1,h2⟩:=Vn hS l (n+1) k h;exact⟨vs,ids,h1,h2⟩
  | rd =>
   simp only at h;obtain⟨vs,ids,h1,h2⟩:=Vn hS l n k h;exact⟨vs,ids,h1,h2⟩
  | ow =>
   simp only at h;obtain⟨vs,ids,h1,h2⟩:=Vn hS l n k h;exact⟨vs,ids,h1,h2⟩
theorem Zn0 {R0 R:XRs}(hold:∀r z,lk R r=some (0,z)->lk R0 r=some (0,z)):∀(ms:List M) (ts:List Ty) (ds:List D) (es:List (Nat×XC)) (ps:List XC) (us ys:List C) (cs0:List XC),(∀(j:Nat) (m:M) (d:D) (ty:Ty),ms[j]? = some m->ds[j]? = some d->ts[j]? = some ty->D4 (m,d)=(match m,Mf ty with|.rx,true=>true|_,_=>false))->ms.length=ds.length->ds.length=ts.length ->
  Jz R ms ts es=some ps->Ab WkC us (cs0.map (cC R0))->us.length=ms.length->Ab WkC ys (es.map fun e=>cC R e.2)->(∀(c:Nat) (e:Nat×XC),es[c]? = some e->e.1=0->cs0[c]? = some e.2) ->
  H6 (ms.zip ds) us ys/\Ab WkC (Dz (ms.zip ds) ys) (ps.map (cC R))/\∀p∈ps,∃e∈es,e.2=p
 | [],[],[],es,ps,us,ys,cs0,_,_,_,h,hu,hul,hy,_=>by
  cases es with
  | cons e es=>simp [Jz]at h
  | nil =>
   simp only[Jz,Ka]at h;subst h;cases us with
   | cons _ _=>simp at hul
   | nil=>cases ys with
    | nil=>exact⟨trivial,trivial,by simp⟩
    | cons _ _=>exact hy.elim
 | m::ms,t::ts,d::ds,es,ps,us,ys,cs0,hr,h1,h2,h,hu,hul,hy,hc=>by
  cases es with
  | nil=>simp [Jz]at h
  | cons e es =>
   simp only[Ke,Kaf]at h1 h2 hul;cases us with
   | nil=>simp at hul
   | cons u us =>
   simp only[Ke,Kaf]at hul;cases cs0 with
   | nil=>exact hu.elim
   | cons c0 cs0 =>
   cases ys with
   | nil=>exact hy.elim
   | cons y ys =>
   have hr0:=hr 0 m d t rfl rfl rfl;have hr':∀(j:Nat) (m:M) (d:D) (ty:Ty),ms[j]? = some m->ds[j]? = some d->ts[j]? = some ty->D4 (m,d)=(match m,Mf ty with|.rx,true=>true|_,_=>false):=fun j m d ty a b c=>hr (j+1) m d ty (by simpa using a) (by simpa using b) (by simpa using c);have hc':∀(c:Nat) (e':Nat×XC),es[c]? = some e'->e'.1=0->cs0[c]? = some e'.2:=fun c e' he h0=>by simpa using hc (c+1) e' (by simpa using he) h0
   have stay:D4 (m,d)=true->(match Zpf R e with|true=>Jz R ms ts es|false=>none)=some ps->H6 ((m::ms).zip (d::ds)) (u::us) (y::ys)/\Ab WkC (Dz ((m::ms).zip (d::ds)) (y::ys)) (ps.map (cC R))/\∀p∈ps,∃e'∈e::es,e'.2=p:=by
    intro hx h;split at h
    ·rename_i hst;unfold Zpf at hst;split at hst
     ·rename_i r he1 he2;split at hst
      ·rename_i t0 xs0 hz;obtain⟨q1,q2,q3⟩:=Zn0 hold ms ts ds es ps us ys cs0 hr' h1 h2 h hu.2 hul hy.2 hc';have hc0:=hc 0 e rfl he1;simp only[Kp,Ka]at hc0;subst hc0;have hz0:=hold r _ hz;have e1:cC R0 e.2=.rf r [] t0.n 0 xs0.length:=by rw[he2];simp only[cC,hz0]
       have e2:cC R e.2=.rf r [] t0.n 0 xs0.length:=by rw[he2];simp only[cC,hz]
       have a1:u=.rf r [] t0.n 0 xs0.length:=by have:=hu.1;rw[e1]at this;exact this.eq (by simp)
       have a2:y=.rf r [] t0.n 0 xs0.length:=by have:=hy.1;simp only[e2]at this;exact this.eq (by simp)
       refine⟨?_, ?_,fun p hp=>by obtain⟨e',h1,h2⟩:=q3 p hp;exact⟨e',Ko _ h1,h2⟩⟩
       ·simp only[Kgc,H6];exact⟨fun _=>by rw[a1,a2],q1⟩
       ·simp only[Kgc,Dz,hx,if_true];exact q2
      ·simp at hst
     ·simp at hst
    ·simp at h
   have go:D4 (m,d)=false->(match Jz R ms ts es with|some cs=>some (e.2::cs)|none=>none)=some ps->H6 ((m::ms).zip (d::ds)) (u::us) (y::ys)/\Ab WkC (Dz ((m::ms).zip (d::ds)) (y::ys)) (ps.map (cC R))/\∀p∈ps,∃e'∈e::es,e'.2=p:=by
    intro hx h;split at h
    ·rename_i cs hp;simp only[Ka]at h;subst h;obtain⟨q1,q2,q3⟩:=Zn0 hold ms ts ds es cs us ys cs0 hr' h1 h2 hp hu.2 hul hy.2 hc';refine⟨?_, ?_, ?_⟩
     ·simp only[Kgc,H6];exact⟨fun h=>by rw[hx]at h;simp at h,q1⟩
     ·simp only[Kgc,Dz,hx,Kma,if_false];exact⟨hy.1,q2⟩
     ·intro p hp;rcases Kh.1 hp with rfl|hp
      ·exact⟨e,Ks,rfl⟩
      ·obtain⟨e',h1,h2⟩:=q3 p hp;exact⟨e',Ko _ h1,h2⟩
    ·simp at h
   cases m with
   | rx =>
    cases hT:Mf t with
    | true =>
     simp only[hT]at hr0;simp only[Jz,hT]at h;exact stay hr0 h
    | false =>
     simp only[hT]at hr0;simp only[Jz,hT]at h;exact go hr0 h
   | _=>simp only[Jz]at h;exact go hr0 h
 | [],_::_,ds,_,_,_,_,_,_,h1,h2,_,_,_,_,_=>by rw[<-h1]at h2;simp at h2
 | _::_,[],ds,_,_,_,_,_,_,h1,h2,_,_,_,_,_=>by rw[Ki]at h2;rw[h2]at h1;simp at h1
 | [],[],_::_,_,_,_,_,_,_,h1,_,_,_,_,_,_=>by simp at h1
 | _::_,_::_,[],_,_,_,_,_,_,h1,_,_,_,_,_,_=>by simp at h1
theorem Zn2 {R0:XRs}{X:XSt}{S:St}(hS:SimX X S) (hX:XOk X) (hold:∀r s z,lk X.roots r=some (s,z)->s<1->lk R0 r=some (s,z)) (hcold:∀r s cs,lk X.roots r=some (s,.bx cs)->∀(c:Nat) (e:Nat×XC),cs[c]? = some e->e.1<1->∃s0 cs0,lk R0 r=some (s0,.bx cs0)/\cs0[c]? = some e) :
  ∀(as:List GArg) (x:Tp (C1 as)) (us:List C) (cs:List XC) (b:Nat) (ps:List XC),okG as=true->us.length=(flat (A2 as x)).length->Ab (fun c y=>WkC c (cC R0 y)) us cs->(∀z∈Ep as cs b,lk R0 z.1=some z.2)->V8 X.roots as b=some ps ->
  ∃bxs,Ab (fun x ys=>H6 x.1 x.2 ys) (inB (A2 as x) us) bxs/\(∀(j:Nat) (ys:List C),bxs[j]? = some ys->get S.roots (b+j)=some (.bx ys))/\Ab WkC (((inB (A2 as x) us).zip bxs).flatMap fun x=>Dz x.1.1 x.2) (ps.map (cC X.roots))/\(∀p∈ps,okC X.roots X.next X.stamp p) /\
   ∀vb:List Sg,vb.map (·.1)=Ge as->((inB (A2 as x) us).zip bxs).map (fun x=>(Dz x.1.1 x.2).length)=(bxG as vb).map (·.length)
 | [],x,us,cs,b,ps,_,_,_,_,h=>by
  simp only[V8,Ka]at h;subst h;exact⟨[],trivial,by simp,trivial,by simp,fun vb _=>rfl⟩
 | a::as,x,us,cs,b,ps,ho,hl,hw,hB,h=>by
  simp only[okG,Kd]at ho;have h1:=Kr ho.1.1;have hz:=Zjk (x:=Tp.hd a.t _ x) h1;have hcell:(mkG a (Tp.hd a.t _ x)).cells=a.ms.zip (Af a.t (Tp.hd a.t _ x)):=by simp only[mkG];cases a.ptr<;>rfl
  simp only[flat,A2,Kya,Kz,hcell,hz]at hl;have conv:∀{us:List C} {cs:List XC},Ab (fun c x=>WkC c (cC R0 x)) us cs->Ab WkC us (cs.map (cC R0)):=by
   intro us
   induction us with
   | nil=>intro cs h;cases cs<;>exact h
   | cons u us ih=>intro cs h;cases cs with
    | nil=>exact h.elim
    | cons c cs=>exact⟨h.1,ih h.2⟩
  have back:∀{us:List C} {cs:List XC},Ab WkC us (cs.map (cC R0))->Ab (fun c x=>WkC c (cC R0 x)) us cs:=by
   intro us
   induction us with
   | nil=>intro cs h;cases cs<;>exact h
   | cons u us ih=>intro cs h;cases cs with
    | nil=>exact h.elim
    | cons c cs=>exact⟨h.1,ih h.2⟩
  have hdrop:Ab (fun c x=>WkC c (cC R0 x)) (us.drop (A7 a.ms)) (cs.drop (A7 a.ms)):=by
   refine back ?_;rw[Kkb];exact Iy (conv hw)
  have htake:Ab WkC (us.take (A7 a.ms)) ((cs.take (A7 a.ms)).map (cC R0)):=by
   rw[Kib];exact Je (conv hw)
  have hlen:(us.drop (A7 a.ms)).length=(flat (A2 as (Tp.tl a.t _ x))).length:=by
   rw[Kpa,hl,flat];omega
  simp only[V8]at h;cases hp:a.ptr with
  | false =>
   simp only[hp]at h;simp only[Ep,hp]at hB;obtain⟨bxs,q1,q2,q3,q4,q5⟩:=Zn2 hS hX hold hcold as (Tp.tl a.t _ x) _ _ b ps ho.2 hlen hdrop hB h;refine⟨bxs, ?_,q2, ?_,q4,fun vb hv=>?_⟩
   ·simp only[A2,mkG,hp,inB,hz];exact q1
   ·simp only[A2,mkG,hp,inB,hz];exact q3
   ·simp only[Ge,hp]at hv;simp only[A2,mkG,hp,inB,hz,bxG];exact q5 vb hv
  | true =>
   simp only[hp]at h;simp only[Ep,hp]at hB;split at h
   ·rename_i s es hlk;split at h
    ·rename_i p1 p2 hpk hps;split at h
     ·rename_i hcnt;simp only[Ka]at h;subst h;obtain⟨hcnt,hnH⟩:=Bool.and_eq_true_iff.1 hcnt;have hcnt:=Kr hcnt;obtain⟨ys,g1,g2⟩:=Pr hS hlk;have hb0:=hB _ Ks;simp only at hb0;obtain⟨w1,w2,w3⟩:=Zn0 (R0:=R0) (R:=X.roots) (fun r z hz'=>hold r 0 z hz' (by omega)) a.ms (cts a.t) (Af a.t (Tp.hd a.t _ x)) es p1 (us.take (A7 a.ms)) ys (cs.take (A7 a.ms))
       (fun j m d ty _ hd ht=>Zfs hnH hd ht) (by rw[Bt,<-h1,Gm]) (by rw[Bt,Ry]) hpk htake (by rw[Kab,<-Gm a.ms];omega) g2 (by
        intro c e he h0;obtain⟨s0,cs0,k1,k2⟩:=hcold b s es hlk c e he (by omega);rw[hb0]at k1;simp only[Ka,Kb,XR.bx.injEq]at k1;rw[<-k1.2,Kga,Kx]at k2;obtain⟨c',k3,rfl⟩:=k2;exact k3)
      obtain⟨bxs,q1,q2,q3,q4,q5⟩:=Zn2 hS hX hold hcold as (Tp.tl a.t _ x) _ _ (b+1) p2 ho.2 hlen hdrop (fun z hz'=>hB z (Ko _ hz')) hps;refine⟨ys::bxs, ?_, ?_, ?_, ?_,fun vb hv=>?_⟩
      ·simp only[A2,mkG,hp,inB,hz];exact⟨w1,q1⟩
      ·intro j zs hj;cases j with
       | zero=>simp only[Kp,Ka]at hj;subst hj;exact g1
       | succ j=>rw[show b+(j+1)=b+1+j by omega];exact q2 j zs (by simpa using hj)
      ·simp only[A2,mkG,hp,inB,hz,Kgc,Kya,Kaa];exact M5 w2 q3
      ·intro p hp';rcases Kia.1 hp' with hp'|hp'
       ·obtain⟨e,he,rfl⟩:=w3 p hp';exact (hX.box b s es hlk e he).2
       ·exact q4 p hp'
      ·simp only[Ge,hp]at hv;have hw2:=w2.length;rw[Kt]at hw2;simp only[A2,mkG,hp,inB,hz,Kgc,Kc,hw2,hcnt];cases hoo:a.o with
       | none =>
        simp only[hoo,Sv,Hm]at hv;simp only[bxG,hp,hoo,Kc,Ki,Fc,q5 vb hv]
       | some t =>
        simp only[hoo,Sv,Hm]at hv;cases vb with
        | nil=>simp at hv
        | cons v vb =>
         simp only[Kc,List.cons.injEq]at hv;simp only[bxG,hp,hoo,Kc,Fc,Gh,Bt,hv.1,q5 vb hv.2]
     ·simp at h
    ·simp at h
   ·simp at h
theorem Zfx {as:List GArg}{rs:List (Bool×Ty)}{x:Tp (C1 as)}{X:XSt}{S:St}{is:List I}{y:Tp (Fj as rs)}{E:List (Nat×Nat×XV)}(ho:okG as=true) (hX:XOk X) (hE:Ext ⟨E,(B7 as x).roots,(B7 as x).next,(B7 as x).stamp,(B7 as x).fix⟩ X) (hS:SimX X S) (h:Vr as rs x X is=some y):Ew S is fun xs=>Gv (A2 as x) (Lr as rs (Du _ y)) S.roots (Ej xs):=by
 obtain⟨c1,c2,c3⟩:=Ypd as x ho;unfold Vr at h;obtain⟨xs,ys,h,h1,h2,h3⟩:=Ze3 hX hS is _ h;split at h
 ·rename_i ps hsh hps;split at h
  ·rename_i ids hids;split at h
   ·rename_i hnd;have hulen:(B4 (A2 as x)).1.length=(flat (A2 as x)).length:=by
     have key:∀(l:List (M×D)) (k:Kk),(Ay l k).1.length=l.length:=by
      intro l
      induction l with
      | nil=>intro k;rfl
      | cons a l ih=>intro k;obtain⟨m,d⟩:=a;simp only[Ay,Ke,ih]
     exact key _ _
    obtain⟨bxs,b1,b2,b3,b4,b5⟩:=Zn2 (R0:=(B7 as x).roots) hS hX (fun r s z hl hs=>hE.roots r s z hl hs) (fun r s cs hl c e he hs=>hE.cells r s cs hl c e he hs) as x _ _ _ ps ho hulen c1 c3 hps;have hcok:=Zd7 h2;obtain⟨vr,d0,d1,hd,h,hcr,htr⟩:=Zn6 _ _ _ hcok h;split at h
    ·rw[Kq]at hd;subst hd;obtain⟨vio,ios,h,hio⟩:=Vn hS _ _ _ h;split at h
     ·rename_i hdj;obtain⟨vb,e0,e1,he,h,hcb,htb⟩:=Zn6 _ _ _ b4 h;split at h
      ·rw[Kq]at he;subst he;obtain⟨y',hy,hsp⟩:=Zkb _ _ _ h;simp only[Ka]at hy;subst hy;have hT:Fj as rs=F8 rs++(Hy as++Ge as):=by simp only[Fj,Yj]
       have htys:=Zpc _ y';rw[hsp,hT,Kaa,Kaa,htr,htb]at htys;have htio:vio.map (·.1)=Hy as:=by
        have:=List.append_cancel_left htys;exact List.append_cancel_right this
       have hrl:(F8 rs).length=rs.length:=by
        have key:∀rs:List (Bool×Ty),(F8 rs).length=rs.length:=by
         intro rs;induction rs with
         | nil=>rfl
         | cons r rs ih=>simp only[F8,Ke,ih]
        exact key _
       have hvrl:vr.length=A7 rs:=by rw[Gm,<-hrl,<-htr,Kt]
       have hviol:vio.length=A7 (Hy as):=by rw[Gm,<-htio,Kt]
       have hout:Lr as rs (Du _ y')=⟨E4 rs vr,vio.map ioG,bxG as vb⟩:=by
        simp only[Lr,hsp];rw[Khd hvrl,Kvc hvrl,Khd hviol,Kvc hviol]
       rw[hout]
       -- shapes
       have shape:∀(rs:List (Bool×Ty)) (vr:List Sg) (xs:List XA) (ys:List A),vr.map (·.1)=F8 rs->F2 rs xs=true->Ab WkA ys (xs.map (cA X.roots))->ys.map (fun x=>((C7 x).1,(C7 x).2.length))=(E4 rs vr).map (fun x=>(x.1,x.2.length))/\Ab WkC (ys.flatMap fun x=>(C7 x).2) ((Hq xs).map (cC X.roots)):=by
        intro rs
        induction rs with
        | nil =>
         intro vr xs ys _ hs hw;cases xs with
         | cons _ _=>simp [F2]at hs
         | nil=>cases ys with
          | cons _ _=>exact hw.elim
          | nil=>cases vr<;>exact⟨rfl,trivial⟩
        | cons r rs ih =>
         intro vr xs ys hv hs hw;obtain⟨ag,t⟩:=r;cases vr with
         | nil=>simp [F8]at hv
         | cons v vr =>
          simp only[Kc,F8,List.cons.injEq]at hv;have hn:(Gh v).length=t.n:=by rw[Gh,Bt,hv.1]
          cases xs with
          | nil=>cases ag<;>simp [F2]at hs
          | cons x xs =>
           cases ys with
           | nil=>exact hw.elim
           | cons z ys =>
            cases ag with
            | false=>cases x with
             | ag cs=>simp [F2]at hs
             | c c =>
              simp only[F2,Kd]at hs;obtain⟨a,b⟩:=ih vr xs ys hv.2 hs.2 hw.2;cases z with
              | ag _=>exact hw.1.elim
              | c z =>
               refine⟨?_,⟨hw.1,b⟩⟩;rw[Kc,a];simp only[E4,Kc,C7,hn,Kr hs.1,Ke,Ki]
            | true=>cases x with
             | c c=>simp [F2]at hs
             | ag cs =>
              simp only[F2,Kd]at hs;obtain⟨a,b⟩:=ih vr xs ys hv.2 hs.2 hw.2;cases z with
              | c z=>exact hw.1.elim
              | ag zs =>
               have hl:=Ab.length (show Ab WkC zs (cs.map (cC X.roots)) from hw.1);rw[Kt]at hl;refine⟨?_, ?_⟩
               ·rw[Kc,a];simp only[E4,Kc,C7,hn,hl,Kr hs.1]
               ·simp only[Kya,C7,Hq,Kaa];exact M5 hw.1 b
       obtain⟨s1,s2⟩:=shape rs vr xs ys htr hsh h1;obtain⟨rt,t1,t2⟩:=Wl hS _ _ ids S.roots (Ab.append hcr hcb) hids (Qr hnd) (fun _ _=>rfl);have k1:=La hcr s2;have k2:=La hcb b3;refine h3 _ ⟨ys,Zsa ys,s1,bxs,b1, ?_,rt, ?_, ?_, ?_⟩
       ·intro j zs hj;rw[c2];exact b2 j zs hj
       ·rw[k1,k2,<-Kaa,Zgv rs vr (by rw[hvrl,Gm]),Yn as vb htb];exact t1
       ·exact b5 vb htb
       ·rw[<-Zd5 as x ho];refine hio rt fun r hr=>?_;rw[t2 r,if_neg (U1 hdj r hr)]
      ·simp at h
     ·simp at h
    ·simp at h
   ·simp at h
  ·simp at h
 ·simp at h
theorem Yr6 {P:Program}(hm:P.follows .mixedOrders=true){f:FuncId}{fn:Func}{s:Stm}{is:List I}{Φ:List (Fx P)}{H:List (Nat×Hn)}{an:An}{as:List GArg}{rs:List (Bool×Ty)}(hf:P.funcs[f]? = some fn) (hb:(fn.body.bind (trC P fn.ntmps))=some s) (hi:Ia P fn.results.toList=some is) (hn:Nat.ble as.length fn.ntmps=true) (ho:okG as=true)
  {x:Tp (C1 as)} {y:Tp (Fj as rs)} (h:fnG Φ H s an is as rs x=some y):Gd P f (A2 as x) (Lr as rs (Du _ y)):=by
 obtain⟨c,hb,hs⟩:=Us hb;obtain⟨h1,h2⟩:=Zmi as x ho;have hl:(A2 as x).length=as.length:=by
  have key:∀(as:List GArg) (x:Tp (C1 as)),(A2 as x).length=as.length:=by
   intro as
   induction as with
   | nil=>intro x;rfl
   | cons a as ih=>intro x;simp only[A2,Ke,ih]
  exact key _ _
 refine Zg1 hf hb hs hi (by rw[hl];exact Kea hn) ?_;refine Ja hm s an h1 h2 h ?_;intro e X' S' g1 g2 g3 g4;cases e with
 | ret=>exact Zfx (E:=(B7 as x).env) ho g1 g2 g3 g4
 | normal=>exact Zfx (E:=(B7 as x).env) ho g1 g2 g3 g4
 | _=>simp at g4
end Go.Vs
namespace Go.Vs
variable [Glb]
end Go.Vs
namespace Go.Vs
variable [Glb]
open Go.ChangeShapes Go.WideShapes
def Zaz (P:Program):Nat->List Field->Nat->Bool
 | o,[],tot=>o==tot
 | o,f::fs,tot=>f.offset==o&&Zaz P (o+P.cellsOf f.type) fs tot
def good (P:Program):Nat->TypeId->Bool
 | 0,_=>false
 | n+1,t=>match P.underlying t with
  | some .bool=>true
  | some (.int _)=>true
  | some .string=>true
  | some (.slice e)=>good P n e&&decide (0<P.cellsOf e)
  | some (.struct fs)=>Zaz P 0 fs.toList (P.cellsOf t)&&fs.toList.all fun f=>good P n f.type
  | _=>false
def DT (P:Program):Nat->TypeId->List D->Prop
 | 0,_,_=>False
 | n+1,t,ds=>match P.underlying t with
  | some .bool=>∃b,ds=[.lf (.bool b)]
  | some (.int k)=>∃z,ds=[.lf (.int k z)]/\(Lit.int k z).wf=true
  | some .string=>∃s:ByteArray,ds=[.lf (.string s)]/\s.size<=maxLen
  | some (.slice e)=>∃es,ds=[.sl (P.cellsOf e) es]/\es.length<=maxLen/\∀el∈es,DT P n e el
  | some (.struct fs)=>∃dss:List (List D),ds=dss.flatten/\Ab (fun (f:Field) x=>DT P n f.type x) fs.toList dss
  | _=>False
theorem Zt8 {H:Type}{P:Program}{W:World}{cs:List Value}{n:Nat}{rd:TypeId->List Value->Option (DataW H×List MemPlace)}(ih:∀t vs x,good P n t=true->rd t vs=some x->∃ds,Ab (Lies W) ds vs/\DT P n t ds) :
  ∀(fs:List Field) (xs:List (DataW H×List MemPlace)) (o:Nat),xs.length=fs.length->(∀(i:Nat) (f:Field),fs[i]? = some f->rd f.type ((cs.drop f.offset).take (P.cellsOf f.type))=xs[i]?)->Zaz P o fs cs.length=true->fs.all (fun f=>good P n f.type)=true ->
   ∃dss,Ab (Lies W) dss.flatten (cs.drop o)/\Ab (fun (f:Field) x=>DT P n f.type x) fs dss
 | [],xs,o,_,_,ht,_=>by
  simp only[Zaz,beq_iff_eq]at ht;subst ht;exact⟨[],by simp [Ab],trivial⟩
 | f::fs,xs,o,hl,hx,ht,hg=>by
  simp only[Zaz,Kd,beq_iff_eq]at ht;simp only[List.all_cons,Kd]at hg;cases xs with
  | nil=>simp at hl
  | cons x xs =>
   have h0:=hx 0 f rfl;simp only[Kp]at h0;rw[ht.1]at h0;obtain⟨d0,a1,a2⟩:=ih _ _ _ hg.1 h0;obtain⟨dss,b1,b2⟩:=Zt8 ih fs xs (o+P.cellsOf f.type) (by simpa using hl) (fun i g hi=>by simpa using hx (i+1) g (by simpa using hi)) ht.2 hg.2;refine⟨d0::dss, ?_,a2,b2⟩;have e:cs.drop o=(cs.drop o).take (P.cellsOf f.type)++cs.drop (o+P.cellsOf f.type):=by
    rw[<-Ked,Ksc]
   rw[e,Kwc];exact Ab.append a1 b1
theorem Zm8 {H:Type}{enc:TypeId×Value->H}{P:Program}{W:World}:∀(n:Nat) (t:TypeId) (fuel:Nat) (cs:List Value) (x:DataW H×List MemPlace),good P n t=true->DataW.trod enc P W 0 (fun _=>true) true fuel t cs=some x->∃ds,Ab (Lies W) ds cs/\DT P n t ds
 | 0,t,fuel,cs,x,hg,h=>by simp [good]at hg
 | n+1,t,fuel,cs,x,hg,h=>by
  simp only[good]at hg;simp only[DT];cases hu:P.underlying t with
  | none=>simp [hu]at hg
  | some du =>
   cases du with
   | bool =>
    obtain⟨b,rfl,_⟩:=DataW.trod_bool hu h;exact⟨[.lf (.bool b)],⟨.lf _ rfl,trivial⟩,b,rfl⟩
   | int k =>
    obtain⟨z,rfl,_,hw⟩:=DataW.trod_int hu h;exact⟨[.lf (.int k z)],⟨.lf _ rfl,trivial⟩,z,rfl,hw⟩
   | string =>
    obtain⟨s,rfl,_,hs⟩:=DataW.trod_string hu h;exact⟨[.lf (.string s)],⟨.lf _ rfl,trivial⟩,s,rfl,hs⟩
   | slice e =>
    simp only[hu,Kd,decide_eq_true_eq]at hg;obtain⟨hge,hsz⟩:=hg;rcases DataW.trod_slice hu h with ⟨rfl,_⟩|⟨a,len,cap,elems,rest,m,_,rfl,_,_,hlc,hcm,hel,hE,hR,_⟩
    ·exact⟨[.sl (P.cellsOf e) []],⟨.nil _ none,trivial⟩,[],rfl,Koa _,by simp⟩
    ·by_cases hcap:cap=0
     ·subst hcap;have:len=0:=by omega
      subst this;exact⟨[.sl (P.cellsOf e) []],⟨.nil _ _,trivial⟩,[],rfl,Koa _,by simp⟩
     ·have get:∀i,i<len->∃ecs y,W.cells? 0 (a.add (i*P.cellsOf e)) (P.cellsOf e)=some ecs/\DataW.trod enc P W 0 (fun _=>true) true m e ecs=some y:=by
       intro i hi;have h1:=hE i hi;rw[Ku (by omega)]at h1;simp only[Kg]at h1;obtain⟨ecs,h2,h3⟩:=h1;exact⟨ecs,_,h2,h3⟩
      have hspot:a.spot=none:=by
       have:∃ecs,W.cells? 0 (a.add (0*P.cellsOf e)) (P.cellsOf e)=some ecs:=by
        by_cases h0:0<len
        ·obtain⟨ecs,_,h2,_⟩:=get 0 h0;exact⟨ecs,h2⟩
        ·have hl0:len=0:=by omega
         subst hl0;obtain⟨hr1,hr2⟩:=hR rfl;have h1:=hr2 0 (by omega);rw[Ku (by omega)]at h1;simp only[Kg]at h1;obtain⟨ecs,h2,_⟩:=h1;exact⟨ecs,by simpa using h2⟩
       obtain⟨ecs,h2⟩:=this;have h3:=(World.cells?_some h2).2.2 0 hsz;have h4:=(World.cells?_some h2).2.1;rw[Ku (by omega)]at h3;have:=World.cell?_spot h3;simpa [Addr.add] using this
      obtain⟨b,off,spot⟩:=a;simp only at hspot;subst hspot;have each:∀i,i<len->∃(ds:List D) (ecs:List Value),Ab (Lies W) ds ecs/\DT P n e ds/\ecs.length=P.cellsOf e/\∀c v,ecs[c]? = some v->W.cell? ⟨b,off+(i*P.cellsOf e+c),none⟩=some v:=by
       intro i hi;obtain⟨ecs,y,h1,h2⟩:=get i hi;obtain⟨ds,h3,h4⟩:=Zm8 n e m ecs y hge h2;obtain⟨_,h5,h6⟩:=World.cells?_some h1;refine⟨ds,ecs,h3,h4,h5,fun c v hc=>?_⟩;have hlt:c<P.cellsOf e:=by rw[<-h5];exact (Kja.1 hc).1
       have:=h6 c hlt;rw[hc,add_plain,add_plain,Kmb]at this;exact this
      let fd:Nat->List D:=fun i=>if hi:i<len then Classical.choose (each i hi) else []
      let fv:Nat->List Value:=fun i=>if hi:i<len then Classical.choose (Classical.choose_spec (each i hi)) else []
      have spec:∀i (hi:i<len),Ab (Lies W) (fd i) (fv i)/\DT P n e (fd i)/\(fv i).length=P.cellsOf e/\∀c v,(fv i)[c]? = some v->W.cell? ⟨b,off+(i*P.cellsOf e+c),none⟩=some v:=by
       intro i hi;have:=Classical.choose_spec (Classical.choose_spec (each i hi));simp only[fd,fv,dif_pos hi];exact this
      have hget:∀i el,((List.range len).map fd)[i]? = some el->i<len/\el=fd i:=by
       intro i el h1;simp only[Kga,Kx]at h1;obtain⟨j,h2,rfl⟩:=h1;have hi:i<len:=by
        have:=(Kja.1 h2).1;simpa using this
       rw[Kud hi]at h2;simp only[Ka]at h2;subst h2;exact⟨hi,rfl⟩
      have hmem:∀el∈(List.range len).map fd,∃i,i<len/\el=fd i:=by
       intro el hm;obtain⟨i,hi,rfl⟩:=Kca.1 hm;exact⟨i,by simpa using hi,rfl⟩
      have key:=Lies.sl (W:=W) (P.cellsOf e) ((List.range len).map fd) b off cap (fun i c=>((fv i)[c]?).getD undef) (by simpa using hlc) ?_ ?_ ?_
      ·rw[Kt,Khf]at key;refine⟨[.sl (P.cellsOf e) ((List.range len).map fd)],⟨key,trivial⟩,_,rfl,by simp;omega, ?_⟩;intro el hm;obtain⟨i,hi,rfl⟩:=hmem el hm;exact (spec i hi).2.1
      ·intro el hm;obtain⟨i,hi,rfl⟩:=hmem el hm;rw[(spec i hi).1.length,(spec i hi).2.2.1]
      ·intro i c el d h1 h2;obtain⟨hi,rfl⟩:=hget i el h1;have hlt:c<(fv i).length:=by rw[<-(spec i hi).1.length];exact (Kja.1 h2).1
       rw[Ku hlt];exact (spec i hi).2.2.2 c _ (Ku hlt)
      ·intro i c el d h1 h2;obtain⟨hi,rfl⟩:=hget i el h1;obtain⟨v,h3,h4⟩:=(spec i hi).1.get c d h2;rw[h3];exact h4
   | struct fs =>
    simp only[hu,Kd]at hg;obtain⟨xs,m,rfl,_,hl,hx,hall⟩:=DataW.trod_struct hu h;obtain⟨dss,a1,a2⟩:=Zt8 (W:=W) (cs:=cs) (n:=n) (rd:=DataW.trod enc P W 0 (fun _=>true) true m) (fun t vs x g h=>Zm8 n t m vs x g h) fs.toList xs 0 (by simpa using hx) (fun i f hi=>hall i f (by simpa using hi)) (by rw[hl];exact hg.1) hg.2;exact⟨dss.flatten,a1,dss,rfl,a2⟩
   | _=>simp [hu]at hg
end Go.Vs
namespace Go.Vs
variable [Glb]
noncomputable def sOf (P:Program) (fn:Func):Stm:=(fn.body.bind (trC P fn.ntmps)).getD .skip
noncomputable def iOf (P:Program) (fn:Func):List I:=(Ia P fn.results.toList).getD []
def okF (P:Program) (fn:Func) (n:Nat) (ok:Bool):Bool:=match fn.body.bind (trC P fn.ntmps),Ia P fn.results.toList with
 | some _,some _=>Nat.ble n fn.ntmps&&ok
 | _,_=>false
section
variable {P:Program} {f:FuncId} {fn:Func} {Φ:List (Fx P)} {H:List (Nat×Hn)} {an:An}
theorem Zgf (hm:P.follows .mixedOrders=true){n:Nat}{ok:Bool}(h:okF P fn n ok=true):(fn.body.bind (trC P fn.ntmps))=some (sOf P fn)/\Ia P fn.results.toList=some (iOf P fn)/\Nat.ble n fn.ntmps=true/\ok=true:=by
 unfold okF at h;split at h
 ·rename_i s is h1 h2;simp only[Kd]at h;exact⟨by rw[sOf,h1];rfl,by rw[iOf,h2];rfl,h.1,h.2⟩
 ·simp at h
theorem Yr8 (hm:P.follows .mixedOrders=true){args rs:List (Bool×Ty)}{F:Tp (args.map (·.2))->Option (Tp (rs.map (·.2)))}(hf:P.funcs[f]? = some fn) (hk:okF P fn args.length (Sr args)=true) (h:∀x,fnX Φ H (sOf P fn) an (iOf P fn) args rs x=F x) (x:Tp (args.map (·.2))) (y:Tp (rs.map (·.2))) (hy:F x=some y):Gd P f ((Bs args x).map Ca) ⟨Bs rs y,[],[]⟩:=by
 obtain⟨a,b,c,d⟩:=Zgf hm hk;exact Yr5 (N:=0) hm hf a b c d ((h x).trans hy)
theorem Yr3 (hm:P.follows .mixedOrders=true){as:List GArg}{rs:List (Bool×Ty)}{F:Tp (C1 as)->Option (Tp (Fj as rs))}(hf:P.funcs[f]? = some fn) (hk:okF P fn as.length (okG as)=true) (h:∀x,fnG Φ H (sOf P fn) an (iOf P fn) as rs x=F x) (x:Tp (C1 as)) (y:Tp (Fj as rs)) (hy:F x=some y):Gd P f (A2 as x) (Lr as rs (Du _ y)):=by
 obtain⟨a,b,c,d⟩:=Zgf hm hk;exact Yr6 hm hf a b c d ((h x).trans hy)
end
def R9 (fit:TypeId->Ty->Bool):List Field->Ty->Bool
 | [],_=>false
 | [f],T=>fit f.type T
 | f::fs,.P a b=>fit f.type a&&R9 fit fs b
 | _,_=>false
def P2 (P:Program):Nat->TypeId->Ty->Bool
 | 0,_,_=>false
 | n+1,t,T=>match P.underlying t with
  | some .bool=>match T with
   | .B=>true
   | _=>false
  | some (.int k)=>match T with
   | .Y=>decide (k=.u8)
   | .I k'=>decide (k=k')
   | _=>false
  | some .string=>match T with
   | .S=>true
   | _=>false
  | some (.slice e)=>match T with
   | .L T=>Nat.beq (P.cellsOf e) T.n&&P2 P n e T
   | _=>false
  | some (.struct fs)=>R9 (P2 P n) fs.toList T
  | _=>false
def okT:(T:Ty)->T.den->Prop
 | .I k,z=>(Lit.int k z).wf=true
 | .S,l=>l.length<=maxLen
 | .L t,xs=>xs.length<=maxLen/\∀x∈xs,okT t x
 | .P a b,x=>okT a x.1/\okT b x.2
 | _,_=>True
theorem Zt7 {P:Program}{n:Nat}(ih:∀t T ds,P2 P n t T=true->DT P n t ds->∃x:T.den,ds=Af T x/\okT T x):∀(fs:List Field) (T:Ty) (dss:List (List D)),R9 (P2 P n) fs T=true->Ab (fun (f:Field) x=>DT P n f.type x) fs dss->∃x:T.den,dss.flatten=Af T x/\okT T x
 | [],T,dss,h,_=>by simp [R9]at h
 | [f],T,dss,h,ha=>by
  cases dss with
  | nil=>exact ha.elim
  | cons d dss =>
   cases dss with
   | cons _ _=>exact ha.2.elim
   | nil =>
    simp only[R9]at h;obtain⟨x,h1,h2⟩:=ih _ _ _ h ha.1;exact⟨x,by simp [h1],h2⟩
 | f::g::fs,T,dss,h,ha=>by
  cases T with
  | P a b =>
   simp only[R9,Kd]at h;cases dss with
   | nil=>exact ha.elim
   | cons d dss =>
    obtain⟨x,h1,h2⟩:=ih _ _ _ h.1 ha.1;obtain⟨y,h3,h4⟩:=Zt7 ih (g::fs) b dss h.2 ha.2;exact⟨(x,y),by simp only[Kwc,h1,h3,Af],h2,h4⟩
  | _=>simp [R9]at h
theorem Zwd {α:Type}{p:α->Prop}{e:α->List D}:∀(es:List (List D)),(∀el∈es,∃x,el=e x/\p x)->∃xs:List α,es=xs.map e/\∀x∈xs,p x
 | [],_=>⟨[],rfl,by simp⟩
 | el::es,h=>by
  obtain⟨x,h1,h2⟩:=h el Ks;obtain⟨xs,h3,h4⟩:=Zwd es fun el hel=>h el (Ko _ hel);exact⟨x::xs,by rw[Kc,h1,h3],fun y hy=>by rcases Kh.1 hy with rfl|hy;exact h2;exact h4 y hy⟩
theorem Zkm {P:Program}:∀(n:Nat) (t:TypeId) (T:Ty) (ds:List D),P2 P n t T=true->DT P n t ds->∃x:T.den,ds=Af T x/\okT T x
 | 0,t,T,ds,h,_=>by simp [P2]at h
 | n+1,t,T,ds,h,hd=>by
  unfold P2 at h;unfold DT at hd;split at h
  ·rename_i hu;simp only[hu]at hd;cases T<;>simp at h
   obtain⟨b,rfl⟩:=hd;exact⟨b,rfl,trivial⟩
  ·rename_i k hu;simp only[hu]at hd;obtain⟨z,rfl,hz⟩:=hd;cases T with
   | Y =>
    simp only[decide_eq_true_eq]at h;subst h;refine⟨u8 z, ?_,trivial⟩;have hz':0<=z/\z<256:=by
     simp only[Lit.wf,Kd,decide_eq_true_eq]at hz;have h0:IntKind.u8.min=0:=rfl;have h1:IntKind.u8.max=255:=rfl;omega
    simp only[Af,u8];congr 1;congr 1;congr 1;rw[UInt8.toNat_ofNat',Kdd (by omega)];omega
   | I k' =>
    simp only[decide_eq_true_eq]at h;subst h;exact⟨z,rfl,hz⟩
   | _=>simp at h
  ·rename_i hu;simp only[hu]at hd;cases T<;>simp at h
   obtain⟨s,rfl,hs⟩:=hd;refine⟨s.data.toList,by simp [Af], ?_⟩;show s.data.toList.length<=maxLen;rw[Ktb];exact hs
  ·rename_i e hu;simp only[hu]at hd;cases T with
   | L T =>
    simp only[Kd]at h;obtain⟨es,rfl,hl,he⟩:=hd;obtain⟨xs,rfl,hx⟩:=Zwd (e:=Af T) (p:=okT T) es fun el hel=>Zkm n e T el h.2 (he el hel);exact⟨xs,by simp only[Af];rw[Kr h.1],by simpa using hl,hx⟩
   | _=>simp at h
  ·rename_i fs hu;simp only[hu]at hd;obtain⟨dss,rfl,ha⟩:=hd;exact Zt7 (fun t T ds=>Zkm n t T ds) fs.toList T dss h ha
  ·simp at h
theorem Yp2 {H:Type}{enc:TypeId×Value->H}{P:Program}{W:World}{base n:Nat}{t:TypeId}{v:Value}{d:DataW H}{ps:List MemPlace}(ag:Bool) (T:Ty) (hg:good P n t=true) (hf:P2 P n t T=true) (ha:(match P.underlying t with|some (.struct _)=>ag|some (.slice _)=>!ag|some (.int _)=>!ag|some .bool=>!ag|some .string=>!ag|_=>false)=true)
  (hval:Value.okWide P W .any base t v) (h:DataW.Trod enc P W 0 (fun _=>true) true t v d ps):∃x:T.den,Jf W (ag,Af T x) v/\okT T x:=by
 obtain⟨fuel,hh⟩:=h;obtain⟨ds,h1,h2⟩:=Zm8 n t fuel _ _ hg hh;obtain⟨x,rfl,hx⟩:=Zkm n t T ds hf h2;refine⟨x, ?_,hx⟩;have one:ag=false->v.cells=#[v]->Jf W (ag,Af T x) v:=by
  intro e hv;subst e;simp only[Jf,Kma,if_false];rw[hv]at h1;cases hd:Af T x with
  | nil=>rw[hd]at h1;exact h1.elim
  | cons d ds =>
   rw[hd]at h1;cases ds with
   | nil=>exact⟨d,rfl,h1.1⟩
   | cons _ _=>exact h1.2.elim
 split at ha
 ·rename_i fs hu;subst ha;obtain⟨cs,rfl,_⟩:=WideShapes.okWide_struct hu hval;simp only[Jf,if_true];exact⟨cs.toList,by simp,by simpa [Value.cells] using h1⟩
 ·rename_i e hu;obtain⟨a,l,c,rfl⟩:=WideShapes.okWide_slice hu hval;exact one (by simpa using ha) rfl
 ·rename_i k hu;obtain⟨a,rfl⟩:=WideShapes.okWide_int hu hval;exact one (by simpa using ha) rfl
 ·rename_i hu;obtain⟨a,rfl⟩:=WideShapes.okWide_bool hu hval;exact one (by simpa using ha) rfl
 ·rename_i hu;obtain⟨a,rfl⟩:=WideShapes.okWide_string hu hval;exact one (by simpa using ha) rfl
 ·simp at ha
end Go.Vs
namespace Go.Vs
variable [Glb]
noncomputable section
theorem Zbf {n:Int}(h1:-9223372036854775808<=n) (h2:n<9223372036854775808):IntKind.i64.wrap n=n:=by
 have e1:IntKind.i64.bits=64:=rfl;have e2:IntKind.i64.signed=true:=rfl;simp only[IntKind.wrap,e1,e2,Kqc,Nat.reduceSub,decide_eq_true_eq];have e3:((2:Int)^64)=18446744073709551616:=by decide
 have e4:((2:Int)^63)=9223372036854775808:=by decide
 rw[e3,e4];by_cases h:0<=n
 ·have:n%18446744073709551616=n:=Kjg h (by omega);rw[this,if_neg (by omega)]
 ·have:n%18446744073709551616=n+18446744073709551616:=by omega
  rw[this,if_pos (by omega)];omega
theorem C3 {a b:Int}(h1:-9223372036854775808<=a+b) (h2:a+b<9223372036854775808):Aj .i64 a b=a+b:=Zbf h1 h2
theorem D3 {a b:Int}(h1:-9223372036854775808<=a-b) (h2:a-b<9223372036854775808):A1 .i64 a b=a-b:=Zbf h1 h2
theorem Zb {i n:Nat}(h:i+n<9223372036854775808):Aj .i64 (i:Int) (n:Int)=((i+n:Nat):Int):=by
 rw[C3 (by omega) (by omega)];omega
theorem Cw {i:Nat}(h:i<9223372036854775807):Aj .i64 (i:Int) 1=((i+1:Nat):Int):=Zb (n:=1) (by omega)
@[simp] theorem Es (i:Nat):nOf (i:Int)=i:=by simp [nOf]
@[simp] theorem Ha {α:Type} (xs:List α) (i:Nat):idx xs (i:Int)=xs[i]?:=by simp [idx]
@[simp] theorem N6 {α:Type} (xs:List α) (i:Nat):idx xs (Int.ofNat i)=xs[i]?:=Ha xs i
theorem Bp {α:Type}{xs:List α}{i:Nat}(h:i<xs.length):idx xs (i:Int)=some xs[i]:=by rw[Ha,Ku h]
@[simp] theorem Aa {α β:Type} (x:α) (f:α->Option β):bnd (some x) f=f x:=rfl
@[simp] theorem Av {β:Type} (k:Option β):chk true k=k:=rfl
@[simp] theorem Ad {β:Type} (x y:Option β):cnd true x y=x:=rfl
@[simp] theorem Ac {β:Type} (x y:Option β):cnd false x y=y:=rfl
@[simp] theorem Ax {σ ρ:Type} (s:σ) (f:σ->Option ρ):Ao (some (.inl s)) f=f s:=rfl
@[simp] theorem Oa {σ ρ:Type} (r:ρ) (f:σ->Option ρ):Ao (some (.inr r)) f=some r:=rfl
@[simp] theorem Yqy {σ ρ:Type} (r:ρ):Ls (σ:=σ) (some r)=some (.inr r):=rfl
@[simp] theorem Yv8 {α:Type} (x y:α):Zhb true x y=x:=rfl
@[simp] theorem Yv7 {α:Type} (x y:α):Zhb false x y=y:=rfl
@[simp] theorem Vh (a:Int):iEq a a=true:=by simp [iEq]
@[simp] theorem Eo (a:Int):iNe a a=false:=by simp [iNe]
@[simp] theorem Zzh (a:List UInt8):sEq a a=true:=by simp [sEq]
@[simp] theorem Zdu (a:Bool):bNe a a=false:=by simp [bNe]
@[simp] theorem Az:Ah true=false:=rfl
@[simp] theorem Bd:Ah false=true:=rfl
@[simp] theorem H2 (a:Nat):nEq a a=true:=by simp [nEq]
theorem A5 {a b:Int}(h:a<b):iLt a b=true:=by simp [iLt,h]
theorem A3 {a b:Int}(h:b<=a):iLt a b=false:=by simp [iLt];omega
theorem Df {a b:Int}(h:b<a):iGt a b=true:=by simp [iGt,h]
theorem Dx {a b:Int}(h:a<=b):iGt a b=false:=by simp [iGt];omega
theorem G8 {a b:Int}(h:a<=b):iLe a b=true:=by simp [iLe,h]
theorem Jp {a b:Int}(h:b<a):iLe a b=false:=by simp [iLe];omega
theorem Qd {a b:Int}(h:b<=a):iGe a b=true:=by simp [iGe,h]
theorem N5 {a b:Int}(h:a<b):iGe a b=false:=by simp [iGe];omega
theorem Eg {a b:Int}(h:a≠b):iEq a b=false:=by simp [iEq,h]
theorem Jq {a b:Int}(h:a≠b):iNe a b=true:=by simp [iNe,h]
theorem Bq {n sz:Nat}(h:n*sz<=140737488355328):A6 n sz=true:=by simp [A6,h]
theorem Yad {a b:List UInt8}(h:a.length+b.length<9223372036854775808):Wj a b=true:=by simp [Wj,h]
theorem Yqi {n m:Nat}(h:n*m<=140737488355328) (h2:n<=9223372036854775807):Qn (n:Int) m=true:=by
 simp only[Qn,decide_eq_true_eq];refine⟨by omega, ?_,by omega⟩;have:(n:Int)*(m:Int)=((n*m:Nat):Int):=by simp
 omega
@[simp] theorem Ai {α:Type} (xs:List α):Ae xs=(xs.length:Int):=rfl
@[simp] theorem Zfu {α:Type} (l:List α) (n:Nat) (x:α):(Aq l n x).length=l.length:=by simp [Aq]
@[simp] theorem Zmx {α:Type} (l:List α) (n:Nat) (x y:α):Aq (Aq l n x) n y=Aq l n y:=by simp [Aq]
theorem Zmw {α:Type}{l:List α}{n:Nat}(x:α) (h:n<l.length):(Aq l n x)[n]? = some x:=by simp [Aq,h]
theorem Lm {σ ρ:Type}{step:σ->Option (σ ⊕ ρ)}(inv:Nat->σ->Prop) (n:Nat) (Q:ρ->Prop) (hs:∀i s,i<n->inv i s->(∃s',step s=some (.inl s')/\inv (i+1) s')\/∃r,step s=some (.inr r)/\Q r) (he:∀s,inv n s->∃r,step s=some (.inr r)/\Q r) (s0:σ) (h0:inv 0 s0):∃r,Ar step s0=some r/\Q r:=by
 have key:∀k i s,n-i=k->i<=n->inv i s->∃r,Ar step s=some r/\Q r:=by
  intro k
  induction k with
  | zero =>
   intro i s hk hi h;have:i=n:=by omega
   subst this;obtain⟨r,h1,h2⟩:=he s h;exact⟨r,by rw[Qj,h1],h2⟩
  | succ k ih =>
   intro i s hk hi h;rcases hs i s (by omega) h with ⟨s',h1,h2⟩|⟨r,h1,h2⟩
   ·obtain⟨r,h3,h4⟩:=ih (i+1) s' (by omega) (by omega) h2;exact⟨r,by rw[Qj,h1];exact h3,h4⟩
   ·exact⟨r,by rw[Qj,h1],h2⟩
 exact key n 0 s0 (by omega) (by omega) h0
theorem Gn {σ ρ:Type}{step:σ->Option (σ ⊕ ρ)}(st:Nat->σ) (n:Nat) (r:ρ) (hs:∀i,i<n->step (st i)=some (.inl (st (i+1)))) (he:step (st n)=some (.inr r)) (s0:σ) (h0:s0=st 0):Ar step s0=some r:=by
 obtain⟨r',h1,h2⟩:=Lm (step:=step) (fun i s=>s=st i) n (fun x=>x=r) (fun i s hi h=>.inl ⟨_,by rw[h];exact hs i hi,rfl⟩) (fun s h=>⟨r,by rw[h];exact he,rfl⟩) s0 h0;rw[h1,h2]
def SzR (o:Option Int) (k:Int) (P:Prop):Prop:=∃z,o=some z/\z<=k/\(0<=z->P)
theorem SzR.done {k:Int}:SzR (some k) k True:=⟨k,rfl,Koc _,fun _=>trivial⟩
theorem SzR.mono {o:Option Int}{k k':Int}{P Q:Prop}(h:SzR o k P) (hk:k<=k') (hp:P->Q):SzR o k' Q:=by
 obtain⟨z,a,b,c⟩:=h;exact⟨z,a,by omega,fun h=>hp (c h)⟩
theorem SzR.sub {α:Type}{l:List α}{k:Int}{rest:Option Int}{P:Prop}(h0:0<=k) (hk:k<=4611686018427387904) (hl:l.length<=9223372036854775807) (h:(l.length:Int)<=k->SzR rest (k-l.length) P):SzR (cnd (iLt (A1 .i64 k (Ae l)) 0) (some (-1)) rest) k ((l.length:Int)<=k/\P):=by
 have e:A1 .i64 k (Ae l)=k-l.length:=D3 (by simp only[Ai];omega) (by simp only[Ai];omega);rw[e];by_cases hh:(l.length:Int)<=k
 ·rw[A3 (by omega)];obtain⟨z,a,b,c⟩:=h hh;exact⟨z,a,by omega,fun h=>⟨hh,c h⟩⟩
 ·rw[A5 (by omega)];exact⟨-1,rfl,by omega,fun h=>by omega⟩
theorem SzR.seq {o:Option Int}{k:Int}{P Q:Prop}{f:Int->Option Int}(h0:0<=k) (h:SzR o k P) (hf:∀z,0<=z->z<=k->SzR (f z) z Q):SzR (bnd o fun z=>cnd (iLt z 0) (some (-1)) (f z)) k (P/\Q):=by
 obtain⟨z,rfl,b,c⟩:=h;simp only[Aa];by_cases hz:0<=z
 ·rw[A3 hz];obtain⟨y,d,e,g⟩:=hf z hz b;exact⟨y,d,by omega,fun h=>⟨c hz,g h⟩⟩
 ·rw[A5 (by omega)];exact⟨-1,rfl,by omega,fun h=>by omega⟩
theorem SzR.one {o:Option Int}{k:Int}{P:Prop}(h0:0<=k) (h:SzR o k P):SzR (bnd o fun z=>cnd (iLt z 0) (some (-1)) (some z)) k P:=by
 obtain⟨z,rfl,b,c⟩:=h;simp only[Aa];by_cases hz:0<=z
 ·rw[A3 hz];exact⟨z,rfl,b,c⟩
 ·rw[A5 (by omega)];exact⟨-1,rfl,by omega,fun h=>by omega⟩
def Zhm {α:Type}(g:α×Int->Option Int) (x:List α×Int):Option Int:=cnd (iLt (A1 .i64 x.2 (Ae x.1)) 0) (some (-1)) (Ao (Ar (fun (z1:Int×Int)=>cnd (iLt z1.2 (Ae x.1)) (bnd (idx x.1 z1.2) fun e=>bnd (g (e,z1.1)) fun z3=>cnd (iLt z3 0) (some (.inr (.inr (-1)))) (some (.inl (z3,Aj .i64 z1.2 1)))) (some (.inr (.inl z1.1)))) (A1 .i64 x.2 (Ae x.1),0)) fun z1=>some z1)
theorem Yat {α : Type} {g : α × Int → Option Int} {P : α → Prop} {x : List α} {k B : Int} (h0 : 0 ≤ k) (hk : k ≤ B) (hB : B ≤ 4611686018427387904) (hl : x.length ≤ 9223372036854775807) (hg : ∀ e ∈ x, ∀ k, 0 ≤ k → k ≤ B → SzR (g (e, k)) k (P e)) : SzR (Zhm g (x, k)) k ((x.length : Int) ≤ k ∧ ∀ e ∈ x, P e) := by
  unfold Zhm;refine SzR.sub h0 (by omega) hl fun hle => ?_;have e : A1 .i64 k (Ae x) = k - x.length := D3 (by simp only [Ai]; omega) (by simp only [Ai]; omega);obtain ⟨r, h1, h2⟩ := Lm (step := fun (z1 : Int × Int) => cnd (iLt z1.2 (Ae x)) (bnd (idx x z1.2) fun e => bnd (g (e, z1.1)) fun z3 => cnd (iLt z3 0) (some (.inr (.inr (-1)))) (some (.inl (z3, Aj .i64 z1.2 1)))) (some (.inr (.inl z1.1)))) (ρ := Int ⊕ Int)
    (fun i s => s.2 = (i : Int) ∧ 0 ≤ s.1 ∧ s.1 ≤ k - x.length ∧ ∀ e ∈ x.take i, P e) x.length (fun r => SzR (Ao (some r) fun z => some z) (k - x.length) (∀ e ∈ x, P e)) (by
      rintro i ⟨z, j⟩ hi ⟨rfl, hz0, hzk, hp⟩;simp only at hz0 hzk hp ⊢;rw [A5 (by simp only [Ai]; omega), Ad, Bp hi, Aa];obtain ⟨y, h1, h2, h3⟩ := hg x[i] (Kcb hi) z hz0 (by omega);rw [h1, Aa];by_cases hy : 0 ≤ y
      · rw [A3 hy, Ac]
        left;refine ⟨_, rfl, Cw (by omega), hy, by simp only; omega, ?_⟩;intro e he;rw [Kzb hi] at he;rcases Kia.1 he with he | he
        · exact hp e he
        · rw [Kta] at he; subst he; exact h3 hy
      · rw [A5 (by omega), Ad]
        right;exact ⟨_, rfl, -1, rfl, by omega, fun h => by omega⟩)
    (by
      rintro ⟨z, j⟩ ⟨rfl, hz0, hzk, hp⟩;simp only at hz0 hzk hp ⊢;rw [A3 (by simp only [Ai]; omega), Ac];exact ⟨_, rfl, z, rfl, hzk, fun _ => by rw [Kdc] at hp; exact hp⟩) (A1 .i64 k (Ae x), 0) ⟨rfl, by simp only [e]; simp only at hle; omega, by simp only [e]; exact Koc _, by simp⟩
  simp only; rw [h1]; exact h2
def Za2 {α:Type}(g:α->Option α) (d:α) (bytes:Nat) (x:List α):Option (List α):=chk (iEq (Ae x) (Ae x)) (chk (Qn (Ae x) bytes) (Ao (Ar (fun (z1:List α×Int)=>cnd (iLt z1.2 (Ae x)) (bnd (idx x z1.2) fun z2=>bnd (g z2) fun z3=>bnd (idx z1.1 z1.2) fun z4=>some (.inl (Aq z1.1 (nOf z1.2) z3,Aj .i64 z1.2 1))) (some (.inr (.inl z1.1)))) (Fu (nOf (Ae x)) d,0)) fun z1=>some z1))
theorem Zpx {α:Type}{g:α->Option α}{d:α}{bytes:Nat}{x:List α}(hl:x.length*bytes<=140737488355328) (hl2:x.length<9223372036854775807) (hg:∀e∈x,g e=some e):Za2 g d bytes x=some x:=by
 unfold Za2;rw[Vh,Av,Ai,Yqi hl (by omega),Av];rw[Gn (fun i=>(x.take i++List.replicate (x.length-i) d,(i:Int))) x.length (.inl x)]
 ·rfl
 ·intro i hi;simp only;rw[A5 (by omega),Ad,Bp hi,Aa,hg _ (Kcb hi),Aa,Ha];have hlen:(x.take i++List.replicate (x.length-i) d).length=x.length:=by simp;omega
  rw[Ku (by rw[hlen];exact hi),Aa,Es,Cw (by omega)];congr 3;have e1:x.length-i=(x.length-(i+1))+1:=by omega
  rw[Aq,e1,List.replicate_succ,Kzb hi,Kxa];rw[Kze _ _ (by simp;omega)];have e2:i-(x.take i).length=0:=by simp;omega
  rw[e2];rfl
 ·simp only;rw[A3 (by omega),Ac];simp
 ·simp [Fu]
def U3 {α:Type}(g:α×α->Option Bool) (x:List α×List α):Option Bool:=cnd (iNe (Ae x.1) (Ae x.2)) (some false) (Ar (fun (z1:Int)=>cnd (iLt z1 (Ae x.1)) (bnd (idx x.1 z1) fun z2=>bnd (idx x.2 z1) fun z3=>bnd (g (z2,z3)) fun z4=>cnd (Ah z4) (some (.inr false)) (some (.inl (Aj .i64 z1 1)))) (some (.inr true))) 0)
theorem Zey {α:Type}{g:α×α->Option Bool}{x:List α}(hl:x.length<9223372036854775807) (hg:∀e∈x,g (e,e)=some true):U3 g (x,x)=some true:=by
 unfold U3;simp only[Eo,Ac];refine Gn (fun i=>(i:Int)) x.length true ?_ ?_ 0 rfl
 ·intro i hi;rw[A5 (by simp only[Ai];omega),Ad,Bp hi,Aa,Aa,hg _ (Kcb hi),Aa,Az,Ac,Cw (by omega)]
 ·rw[A3 (by simp only[Ai];omega),Ac]
def K1 {α:Type}(H:Int->α->Int->Prop):Int->List α->Int->Prop
 | m,[],m'=>m=m'
 | m,a::l,m'=>∃k,H m a k/\K1 H k l m'
theorem K1.snoc {α:Type}{H:Int->α->Int->Prop}:∀{l:List α}{m k m':Int}{a:α},K1 H m l k->H k a m'->K1 H m (l++[a]) m'
 | [],m,k,m',a,h,h2=>by simp only[K1]at h;subst h;exact⟨m',h2,rfl⟩
 | b::l,m,k,m',a,⟨j,h,h1⟩,h2=>⟨j,h,h1.snoc h2⟩
theorem Zv {α ρ : Type} {H : Int → α → Int → Prop} {K : Int} {x : List α} {m0 : Int} {step : List α × Int × Int → Option ((List α × Int × Int) ⊕ ((List α × Int) ⊕ ρ))} (hl : x.length < 9223372036854775807) (hK : 0 ≤ K)
    (hb : ∀ (l : List α) (m : Int) (i : Nat) (h : i < x.length) (hl : l.length = x.length), l[i]? = some x[i] → m0 ≤ m → m ≤ m0 + K * i → ∃ a m', step (l, (m, (i : Int))) = some (.inl (Aq l i a, (m', (i : Int) + 1))) ∧ H m a m' ∧ m ≤ m' ∧ m' ≤ m + K)
    (he : ∀ (l : List α) (m : Int), l.length = x.length → step (l, (m, (x.length : Int))) = some (.inr (.inl (l, m)))) :
    ∃ l' m', Ar step (x, (m0, 0)) = some (.inl (l', m')) ∧ K1 H m0 l' m' ∧ l'.length = x.length ∧ m0 ≤ m' ∧ m' ≤ m0 + K * x.length := by
  obtain ⟨r, h1, l', m', rfl, h2⟩ := Lm (step := step)
    (fun i s => s.2.2 = (i : Int) ∧ s.1.length = x.length ∧ s.1.drop i = x.drop i ∧ K1 H m0 (s.1.take i) s.2.1 ∧ m0 ≤ s.2.1 ∧ s.2.1 ≤ m0 + K * i) x.length (fun r => ∃ l' m', r = .inl (l', m') ∧ K1 H m0 l' m' ∧ l'.length = x.length ∧ m0 ≤ m' ∧ m' ≤ m0 + K * x.length) (by
      rintro i ⟨l, m, j⟩ hi ⟨rfl, h1, h2, h3, h4, h5⟩;simp only at h1 h2 h3 h4 h5 ⊢;have hli : i < l.length := by omega
      have e0 : l[i]? = some x[i] := by
        have e1 : (l.drop i)[0]? = (x.drop i)[0]? := by rw [h2]
        rw [Kdb, Kdb, Kw, Ku hi] at e1;exact e1
      obtain ⟨a, m', b1, b2, b3, b4⟩ := hb l m i hi h1 e0 h4 h5;rw [b1];left;refine ⟨_, rfl, by simp only; omega, by simp [h1], ?_, ?_, by simp only; omega, ?_⟩
      · simp only [Aq]
        rw [Kqf (by omega), ← Ked, h2, Ked]
      · simp only [Aq]
        rw [Kzb (by simp; omega), Kie (by omega), List.getElem_set_self];exact h3.snoc b2
      · simp only
        have : K * ((i + 1 : Nat) : Int) = K * i + K := by
          rw [Int.natCast_add, Int.mul_add]; simp
        omega)
    (by
      rintro ⟨l, m, j⟩ ⟨rfl, h1, h2, h3, h4, h5⟩;simp only at h1 h2 h3 h4 h5 ⊢;refine ⟨_, he l m h1, l, m, rfl, ?_, h1, h4, h5⟩;rw [← h1, Kdc] at h3;exact h3) (x, (m0, 0)) ⟨rfl, rfl, rfl, rfl, Koc _, by simp⟩
  exact ⟨l', m', h1, h2⟩
theorem Y8 {α ρ : Type} {H : Int → α → Int → Prop} {l : List α} {m0 m1 : Int} {step : Int × Int → Option ((Int × Int) ⊕ (Int ⊕ ρ))} (hl : l.length < 9223372036854775807) (hc : K1 H m0 l m1)
    (hb : ∀ (m m' : Int) (i : Nat) (h : i < l.length), H m l[i] m' → step (m, (i : Int)) = some (.inl (m', (i : Int) + 1))) (he : ∀ m, step (m, (l.length : Int)) = some (.inr (.inl m))) :
    Ar step (m0, 0) = some (.inl m1) := by
  obtain ⟨r, h1, h2⟩ := Lm (step := step)
    (fun i s => s.2 = (i : Int) ∧ K1 H s.1 (l.drop i) m1) l.length (fun r => r = .inl m1) (by
      rintro i ⟨m, j⟩ hi ⟨rfl, h⟩;simp only at h ⊢;rw [Kcc hi] at h;obtain ⟨k, h3, h4⟩ := h;rw [hb m k i hi h3];exact .inl ⟨_, rfl, by simp only; omega, h4⟩)
    (by
      rintro ⟨m, j⟩ ⟨rfl, h⟩;simp only at h ⊢;rw [he];rw [Kkg] at h;simp only [K1] at h;subst h;exact ⟨_, rfl, rfl⟩) (m0, 0) ⟨rfl, hc⟩
  rw [h1, h2]
end
end Go.Vs
namespace Go.Vs
variable [Glb]
theorem Win.uniq {L:Pl}{sz n:Nat}{u v:Value}(hu:Win L sz 0 n u) (hv:Win L sz 0 n v):u=v:=by
 obtain⟨_,_,_,A,rfl,hA⟩:=hu;obtain⟨_,_,_,B,rfl,hB⟩:=hv;rw[hA (.inr rfl),hB (.inr rfl)]
theorem Yqa {P:Program}{f:FuncId}{fn:Func}{c:Code}{is:List I}{sz:Nat}{es:List (List D)}{tl:List Value}(hf:P.funcs[f]? = some fn) (hb:fn.body=some c) (hi:Ia P fn.results.toList=some is) (hn:1<=fn.ntmps)
  (h:Vw P fn.ntmps c ⟨[(0,.a (.c (.rf 0 [] sz 0 es.length)))],[(0,.im sz es)],1,1⟩ fun e S'=>match e with
   | .ret|.normal=>Ew S' is fun xs=>∃r,xs=[.c (.pb r 0)]/\r+1=S'.next/\get S'.roots r=some (.bx (.rf 0 [] sz 0 es.length::tl.map .lf))
   | _=>False):Zcx P f (.sl sz es) tl:=by
 intro W v hgl hv;obtain⟨d,hd,hl⟩:=hv;simp only[List.cons.injEq,and_true]at hd;subst hd;obtain⟨pl,c1,c2,_⟩:=Zr (W:=W) (N:=1) (g:=fun _ _=>none) [.sl sz es] [v] (0,0) ⟨hl,trivial⟩ (by simp [Ay,inC]);have hcv:CR pl 1 (.rf 0 [] sz 0 es.length) v:=c1.1;have hp:Hp W (fun _ _=>False) pl (fun _ _=>none) pl [(0,.im sz es)] 1 1 1 W:=by
  refine⟨Fr.refl _ _ (fun b o v h=>⟨(hgl b o v h).1,fun k=>k,(hgl b o v h).2⟩),(fun b o x hx=>by cases hx),(fun _ _ _=>rfl),Kf _,Kf _, ?_⟩;intro r x hx;have:=c2 _ (Mm (l:=[(0,Root.im sz es)]) hx);exact⟨this.2.1,this.2.2⟩
 refine calls_of_wp hf hb ?_;refine wp_mono (h W _ pl _ pl _ W ⟨hp, ?_,rfl, ?_⟩) ?_
 ·simp;omega
 ·intro t x hx;simp only[get]at hx;split at hx
  ·rename_i e;simp only[Ka]at hx;subst hx e;have:(#[v]++Array.replicate (fn.ntmps-#[v].size) undef).getD 0 undef=v:=by
    rw[Keb,Kpd (by simp)];rfl
   rw[this];exact hcv
  ·simp at hx
 ·rintro e a' w' ⟨S',g',pl',q,hfx,hR⟩;have fin:Ew S' is (fun xs=>∃r,xs=[.c (.pb r 0)]/\r+1=S'.next/\get S'.roots r=some (.bx (.rf 0 [] sz 0 es.length::tl.map .lf)))->a'.defers=[]/\∃v',(results fn a'.tmps).run P w'=.ok v' w'/\∃g2 pl2 r0,Hp W (fun _ _=>False) pl2 g2 pl2 [(r0,.bx (.un::tl.map .lf))] (r0+1) r0 0 w'/\Ending.returned v'=.returned (.pointer (some ⟨(pl2 r0 []).b,(pl2 r0 []).off,none⟩))/\w'.cell? ⟨(pl2 r0 []).b,(pl2 r0 []).off,none⟩=some v:=by
   intro hk;obtain⟨us,xs,h1,h2,r,rfl,hr1,hr2⟩:=Zah hR _ _ _ hi hk
   match us,h2 with
   | [u],h2 =>
   obtain⟨_,hu⟩:CR pl' S'.next (.pb r 0) u:=h2.1;obtain⟨_,hb'⟩:=hR.hp.roots r _ hr2;obtain⟨v',k1,k2,k3,k4⟩:=hb' 0 _ rfl;have hvv:v'=v:=by
    obtain⟨_,w1⟩:=k2;have hfix:pl' 0 []=pl 0 []:=hR.hp.fixed 0 [] (by rw[hfx];exact Ksa _);rw[hfix]at w1;exact w1.uniq hcv.2
   refine⟨hR.defers,u, ?_,g',pl',r,⟨hR.hp.fr, ?_,(fun r p h=>absurd h (Kre _)),Koa _,Kac _, ?_⟩, ?_, ?_⟩
   ·rw[Zof];rw[Kzf];simp [h1]
   ·intro b o x hx;have:=hR.hp.lab b o x hx;rw[<-hr1]at this;exact this
   ·intro r' x hx;simp only[get]at hx;split at hx
    ·rename_i e;simp only[Ka]at hx;subst hx e;refine⟨Ksa _, ?_⟩;intro j y hy;cases j with
     | zero =>
      simp only[Kp,Ka]at hy;subst hy;exact⟨v',k1,CR.one k2,k3,k4⟩
     | succ j =>
      simp only[Ky]at hy;obtain⟨v2,m1,m2,m3,m4⟩:=hb' (j+1) y (by simpa using hy);refine⟨v2,m1, ?_,m3,m4⟩;simp only[Kga,Kx]at hy;obtain⟨z,_,rfl⟩:=hy;exact m2
    ·simp at hx
   ·rw[hu];simp
   ·rw[<-hvv];simpa using k1
  cases e with
  | normal=>exact fin q
  | ret=>exact fin q
  | exit id=>exact q.elim
  | goto l=>exact q.elim
  | panic ch=>exact q.elim
  | outgrown=>exact q.elim
end Go.Vs
namespace Go.Vs
variable [Glb]
def Uy:List GArg:=[⟨false,false,.L .Y,[.rx],none⟩]
def Zjv (R:XRs) (r:Nat):Option Int:=match lk R r with
 | some (_,.bx [(_,c),(_,a),(_,b)])=>match c,a,b with
  | .rw 0,.i .i64 (Int.ofNat 0),.i .i64 z=>match lk R 0 with
   | some (0,.im _ _)=>some z
   | _=>none
  | _,_,_=>none
 | _=>none
def Zfw (X:XSt) (is:List I):Option Int :=
 U6 X is fun xs=>match xs with
  | [.c (.pb r 0)]=>match Nat.beq (r+1) X.next with
   | true=>Zjv X.roots r
   | false=>none
  | _=>none
noncomputable def fnC {P:Program}(Φ:List (Fx P)) (H:List (Nat×Hn)) (s:Stm) (an:An) (is:List I) (x:List UInt8):Option Int :=
 C8 Φ H s an (B7 Uy x) fun e X'=>match e with
  | .ret=>Zfw X' is
  | .normal=>Zfw X' is
  | _=>none
section
variable {P:Program} {f:FuncId} {fn:Func} {Φ:List (Fx P)} {H:List (Nat×Hn)} {an:An}
theorem Yd0 {R:XRs}{r:Nat}{z:Int}(h:Zjv R r=some z):∃s s1 s2 s3 t xs,lk R r=some (s,.bx [(s1,.rw 0),(s2,.i .i64 0),(s3,.i .i64 z)])/\lk R 0=some (0,.im t xs):=by
 unfold Zjv at h;split at h
 ·rename_i s s1 c s2 a s3 b hl;split at h
  ·split at h
   ·rename_i t xs h0;simp only[Ka]at h;subst h;exact⟨_,_,_,_,_,_,hl,h0⟩
   ·cases h
  ·cases h
 ·cases h
theorem Zwa {x:List UInt8}{X:XSt}{S:St}{is:List I}{z:Int}(hX:XOk X) (hE:Ext (B7 Uy x) X) (hS:SimX X S) (h:Zfw X is=some z) :
  Ew S is fun xs=>∃r,xs=[.c (.pb r 0)]/\r+1=S.next/\get S.roots r=some (.bx (.rf 0 [] 1 0 (x.map (Af .Y)).length::[Value.int .i64 0,Value.int .i64 z].map .lf)):=by
 unfold Zfw at h;obtain⟨xs,ys,h,h1,h2,h3⟩:=Ze3 hX hS is _ h;refine h3 _ ?_;split at h
 case h_2=>cases h
 rename_i r;split at h
 case h_2=>cases h
 rename_i hb;obtain⟨s,s1,s2,s3,t,xs,hl,h0⟩:=Yd0 h;have h00:=hE.roots 0 0 _ h0 (by show 0<1;omega);have h01:lk (B7 Uy x).roots 0=some (0,.im .Y x):=rfl;rw[h01]at h00;simp only[Ka,Kb,true_and]at h00
 match ys,h1 with
 | [y],h1 =>
 have hy:y=.c (.pb r 0):=by
  have hpb:cC X.roots (.pb r 0)=.pb r 0:=by simp only[cC,hl]
  have:=h1.1;cases y with
  | c y =>
   have this:WkC y (cC X.roots (.pb r 0)):=this;rw[hpb]at this;rcases this with k|k
   ·rw[<-k]
   ·cases k
  | ag _=>exact this.elim
 subst hy;refine⟨r,rfl, ?_, ?_⟩
 ·rw[hS.next];exact Kr hb
 ·obtain⟨y',e1,e2⟩:=hS.roots r s _ hl _ rfl;rw[e1];cases y' with
  | bx cs =>
   have hc0:cC X.roots (.rw 0)=.rf 0 [] 1 0 x.length:=by simp only[cC,h0,<-h00];rfl
   match cs,e2 with
   | [c1,c2,c3],e2 =>
    obtain⟨k1,k2,k3,_⟩:=e2;have k1:WkC c1 (cC X.roots (.rw 0)):=k1;rw[hc0]at k1;have e1:c1=.rf 0 [] 1 0 x.length:=by rcases k1 with k|k;exact k.symm;cases k
    have e2:c2=.lf (.int .i64 0):=by rcases k2 with k|k;exact k.symm;cases k
    have e3:c3=.lf (.int .i64 z):=by rcases k3 with k|k;exact k.symm;cases k
    rw[e1,e2,e3,Kt];rfl
  | tr _ _=>exact e2.elim
  | im _ _=>exact e2.elim
  | ib _=>exact e2.elim
theorem Yp9 (hm:P.follows .mixedOrders=true){F:List UInt8->Option Int}(hf:P.funcs[f]? = some fn) (hk:okF P fn 1 (okG Uy)=true) (h:∀x,fnC Φ H (sOf P fn) an (iOf P fn) x=F x) (x:List UInt8) (z:Int) (hz:F x=some z):Zcx P f (.sl 1 (x.map (Af .Y))) [.int .i64 0,.int .i64 z]:=by
 obtain⟨a,b,c,d⟩:=Zgf hm hk;obtain⟨co,hb,hs⟩:=Us a;obtain⟨h1,h2⟩:=Zmi Uy x d;have hx:=(h x).trans hz;refine Yqa (sz:=1) (es:=x.map (Af .Y)) (tl:=[.int .i64 0,.int .i64 z]) hf hb b (Kea c) ?_;refine Ja hm (sOf P fn) an h1 h2 hx ?_ co hs;intro e X' S' g1 g2 g3 g4;cases e with
 | ret=>exact Zwa g1 g2 g3 g4
 | normal=>exact Zwa g1 g2 g3 g4
 | _=>simp at g4
end
end Go.Vs
namespace Go.Vs
variable [Glb]
theorem Zqz {pl:Pls}{nx:Nat}:∀{caps:List A}{vs:List Value},Ab (VR pl nx) (caps.map V.a) vs->Ab (AR pl nx) caps vs
 | [],[],_=>trivial
 | _::_,_::_,h=>⟨h.1,Zqz h.2⟩
 | [],_::_,h=>h.elim
 | _::_,[],h=>h.elim
theorem Zfr:∀(as:List Arg) (cs:List C) (b:Nat),(inV as cs b).length=as.length
 | [],_,_=>rfl
 | .val ag l::as,cs,b=>by cases ag<;>simp [inV,Zfr as]
 | .ptr l::as,cs,b=>by simp [inV,Zfr as]
theorem Yr2 {P:Program}{f g:FuncId}{n:Nat}{fn:Func}{c:Code}{as:List Arg}{out:Out}{is:List I}{caps:List A}(hf:P.funcs[f]? = some fn) (hb:fn.body=some c) (hi:Ia P fn.results.toList=some is) (hn:n+1<=fn.ntmps) (hle:n<=as.length) (hcap:(Bl as).1.drop n=caps.map V.a)
  (h:Vw P fn.ntmps c ⟨Hu 0 ((Bl as).1.take n)++[(n,.fn g caps)],(Bl as).2.1,(Bl as).2.2,Bz as⟩ fun e S'=>match e with
   | .ret|.normal=>Ew S' is fun xs=>Gv as out S'.roots (Ej xs)
   | _=>False):X6 (fun ws w R=>Calls P f (Ib n g ws).toArray w R) as out:=by
 intro w own g0 pl vs hp hv;have hvl:vs.length=as.length:=by rw[<-hv.length];exact Zfr _ _ _
 have hwl:(Ib n g vs).length=n+1:=by simp [Ib];omega
 refine calls_of_wp hf hb ?_;refine wp_mono (h w own pl g0 pl _ w ⟨hp, ?_,rfl, ?_⟩) ?_
 ·simp [hwl];omega
 ·intro t x hx;have key:∃v,(Ib n g vs)[t]? = some v/\VR pl (Bl as).2.2 x v:=by
   rw[D6]at hx;split at hx
   ·rename_i y hy;simp only[Ka]at hx;subst hx;obtain⟨_,h1⟩:=Yz hy;rw[Kxc]at h1;obtain⟨v,h2,h3⟩:=(Ab.take n hv).get t y h1;refine⟨v, ?_,h3⟩;unfold Ib;rw[Kva (Kja.1 h2).1];exact h2
   ·simp only[get]at hx;split at hx
    ·rename_i e;simp only[Ka]at hx;subst hx e;refine⟨_, ?_,(vs.drop n),rfl,Zqz (by rw[<-hcap];exact Ab.drop n hv)⟩;unfold Ib;rw[Kla (by simp;omega)];simp only[Kab];rw[show n-min n vs.length=0 by omega];rfl
    ·cases hx
  obtain⟨v,h2,h3⟩:=key;have ht:t<(Ib n g vs).length:=(Kja.1 h2).1;have:((Ib n g vs).toArray++Array.replicate (fn.ntmps-(Ib n g vs).toArray.size) undef).getD t undef=v:=by
   rw[Keb,Kpd (by simpa using ht)];simp [h2]
  rw[this];exact h3
 ·rintro e a' w' ⟨S',g',pl',q,hfx,hR⟩;have fin:Ew S' is (fun xs=>Gv as out S'.roots (Ej xs))->a'.defers=[]/\∃v,(results fn a'.tmps).run P w'=.ok v w'/\∃rv g' pl' roots nx res,Ending.returned v=.returned rv/\Hp w own pl g' pl' roots nx nx (Bz as) w'/\VR pl' nx res rv/\Gv as out roots res:=by
   intro hk;obtain⟨us,xs,h1,h2,h3⟩:=Zah hR _ _ _ hi hk;have hp':=hR.hp;rw[hfx]at hp';refine⟨hR.defers,if h:us.toArray.size=1 then us.toArray[0] else .tuple us.toArray, ?_,_,g',pl',S'.roots,S'.next,Ej xs,rfl,hp', ?_,h3⟩
   ·rw[Zof];rw[Kzf];simp [h1]
   ·match xs,us,h2 with
    | [],[],_=>exact⟨[],rfl,trivial⟩
    | [x],[u],h2=>exact h2.1
    | x::y::l,u::u'::us,h2=>exact⟨u::u'::us,by simp,h2⟩
    | [_],_::_::_,h2=>exact h2.2.elim
    | _::_::_,[_],h2=>exact h2.2.elim
  cases e with
  | normal=>exact fin q
  | ret=>exact fin q
  | exit id=>exact q.elim
  | goto l=>exact q.elim
  | panic ch=>exact q.elim
  | outgrown=>exact q.elim
end Go.Vs
