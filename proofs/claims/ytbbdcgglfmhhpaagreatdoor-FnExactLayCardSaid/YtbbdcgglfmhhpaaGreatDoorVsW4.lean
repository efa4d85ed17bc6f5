/-
  Loops whose first round is told by itself ('peeled'): what holds at the head of a later round need not hold at the first. Condition: none.
-/import Derived.Test.YtbbdcgglfmhhpaaGreatDoorVsW3
import Derived.Test.YtbbdcgglfmhhpaaGreatDoorVsW2
set_option linter.all false
namespace Go.Vs
variable [Glb]
def CRel (σ:List (Nat×Nat)) (X:XSt) (c c':XC):Prop :=
 c=.un\/(c=c'/\okC X.roots X.next X.stamp c)\/(∃v,(∀R,cC R c=.lf v)/\∀R,cC R c'=.lf v)\/∃id r',c=.rw id/\c'=.rw r'/\X.next<=id/\get σ r'=some id
def RInv (σ:List (Nat×Nat)) (X X' A:XSt):Prop:=∀r st x,lk A.roots r=some (st,x) ->
 (r<X.next/\get σ r=some r/\((st<X.stamp/\lk X'.roots r=some (st,x))\/(X.stamp<=st/\((∃(ty:Ty) (xs:List ty.den) (st':Nat),x=.tr ty xs/\lk X'.roots r=some (st',.tr ty xs))\/∃cs cs' st',x=.bx cs/\lk X'.roots r=some (st',.bx cs')/\All2 (fun (e e':Nat×XC)=>CRel σ X e.2 e'.2) cs cs')))) \/
 (X.next<=r/\∃(r':Nat) (ty:Ty) (xs:List ty.den) (st':Nat),x=.tr ty xs/\lk X'.roots r'=some (st',.tr ty xs)/\get σ r'=some r)
def EInv (σ:List (Nat×Nat)) (X X' A:XSt):Prop:=∀t st v,lk A.env t=some (st,v) ->
 (lk X'.env t=some (st,v)/\okV X.roots X.next X.stamp v)\/∃st' c c',v=.a (.c c)/\lk X'.env t=some (st',.a (.c c'))/\CRel σ X c c'
section
variable {σ:List (Nat×Nat)} {X X' A:XSt}
theorem tmp_lk {X:XSt}{t:Nat}{v:XV}(h:X.tmp t=v) (hv:v≠.un):∃s,lk X.env t=some (s,v):=by
 simp only[XSt.tmp,XSt.opd]at h
 split at h
 ·rename_i s w hl;subst h;exact⟨s,hl⟩
 ·exact (hv h.symm).elim
theorem sameT_ok (hX:XOk X) (hE:Ext X X'){t:Nat}(h:sameT X X' t=true):∃s v,lk X.env t=some (s,v)/\lk X'.env t=some (s,v):=by
 unfold sameT at h
 split at h
 ·rename_i s v s' v' h1 h2
  have:=Nat.eq_of_beq_eq_true h
  subst this
  have h3:=hE.env t s v' h2 (hX.env t s v h1).1
  rw[h1]at h3
  simp only[Option.some.injEq,Prod.mk.injEq,true_and]at h3
  subst h3
  exact⟨s,v,h1,h2⟩
 ·simp at h
theorem pkL_rel {c:XC}{ty:Ty}{v:Sg}(h:pkL c ty=some v):CRel σ X (leafS v) c:=by
 right;right;left
 unfold pkL at h
 split at h
 ·split at h
  ·rename_i hk
   simp only[kEq,decide_eq_true_eq]at hk
   subst hk
   simp only[Option.some.injEq]at h;subst h
   exact⟨_,fun _=>rfl,fun _=>rfl⟩
  ·simp at h
 ·simp only[Option.some.injEq]at h;subst h;exact⟨_,fun _=>rfl,fun _=>rfl⟩
 ·simp only[Option.some.injEq]at h;subst h;exact⟨_,fun _=>rfl,fun _=>rfl⟩
 ·simp only[Option.some.injEq]at h;subst h;exact⟨_,fun _=>rfl,fun _=>rfl⟩
 ·simp at h
theorem pkO_ok {R:XRs}{c:XC}{v:Sg}{r:Nat}(h:pkO R c=some (v,r)):c=.rw r/\∃(t:Ty) (xs:List t.den) (st:Nat),v=⟨.L t,xs⟩/\lk R r=some (st,.tr t xs):=by
 unfold pkO at h
 split at h
 ·split at h
  ·rename_i st t xs hl
   simp only[Option.some.injEq,Prod.mk.injEq]at h
   obtain⟨rfl,rfl⟩:=h
   exact⟨rfl,t,xs,st,rfl,hl⟩
  ·simp at h
 ·simp at h
theorem rinv_put (h:RInv σ X X' A){d:Option Nat}{v:XV}:RInv σ X X' (A.put d v):=by
 cases d<;>exact h
theorem einv_put (h:EInv σ X X' A){t:Nat}{c c':XC}{st':Nat}(hl:lk X'.env t=some (st',.a (.c c'))) (hc:CRel σ X c c'):EInv σ X X' (A.put (some t) (.a (.c c))):=by
 intro q st v hv
 simp only[XSt.put]at hv
 rw[lk_cons]at hv
 split at hv
 ·rename_i e
  simp only at e
  subst e
  simp only[Option.some.injEq,Prod.mk.injEq]at hv
  obtain⟨_,rfl⟩:=hv
  exact .inr ⟨st',c,c',rfl,hl,hc⟩
 ·exact h q st v hv
theorem rinv_new (h:RInv σ X X' A) (hn:X.next<=A.next){r' st':Nat}{t:Ty}{xs:List t.den}(hl:lk X'.roots r'=some (st',.tr t xs)) (hs:get σ r'=some A.next):RInv σ X X' (A.newR (.tr t xs)):=by
 intro q st v hv
 simp only[XSt.newR]at hv
 rw[lk_cons]at hv
 split at hv
 ·rename_i e
  simp only at e
  subst e
  simp only[Option.some.injEq,Prod.mk.injEq]at hv
  obtain⟨_,rfl⟩:=hv
  exact .inr ⟨hn,r',t,xs,st',rfl,hl,hs⟩
 ·exact h q st v hv
theorem rinv_set (h:RInv σ X X' A){r:Nat}{x:XR}(hr:r<X.next) (hg:get σ r=some r) (hst:X.stamp<=A.stamp) (hx:(∃(ty:Ty) (xs:List ty.den) (st':Nat),x=.tr ty xs/\lk X'.roots r=some (st',.tr ty xs))\/∃cs cs' st',x=.bx cs/\lk X'.roots r=some (st',.bx cs')/\All2 (fun (e e':Nat×XC)=>CRel σ X e.2 e'.2) cs cs'):RInv σ X X' (A.setR r x):=by
 intro q st v hv
 simp only[XSt.setR]at hv
 rw[lk_cons]at hv
 split at hv
 ·rename_i e
  simp only at e
  subst e
  simp only[Option.some.injEq,Prod.mk.injEq]at hv
  obtain⟨rfl,rfl⟩:=hv
  exact .inl ⟨hr,hg,.inr ⟨hst,hx⟩⟩
 ·exact h q st v hv
theorem upB_rel (hX:XOk X) (hE:Ext X X'):∀(bs:List Bc) (es es':List (Nat×XC)) (A:XSt) (n:Nat) (vs:List Sg) (s:List (Nat×Nat)) (m:Nat) (rest:List Sg),pkB X'.roots bs es es' n=some (vs,s,m)->A.next=n->X.next<=n->X.stamp<=A.stamp->(∀p∈s,get σ p.1=some p.2) ->
  (∀e∈es,e.1<X.stamp/\okC X.roots X.next X.stamp e.2)->(∀(c:Nat) (e':Nat×XC),es'[c]? = some e'->e'.1<X.stamp->es[c]? = some e')->RInv σ X X' A ->
  ∃us B,upB bs es A (vs++rest)=(us,B,rest)/\RInv σ X X' B/\B.env=A.env/\B.next=m/\n<=m/\X.stamp<=B.stamp/\s.map (·.2)=List.range' n (m-n)/\All2 (fun z (e':Nat×XC)=>CRel σ X (match z with|.inl e=>e.2|.inr x=>x) e'.2) us es'
 | [],[],[],A,n,vs,s,m,rest,h,hn,hx,hst,_,_,_,hR=>by
  simp only[pkB,Option.some.injEq,Prod.mk.injEq]at h
  obtain⟨rfl,rfl,rfl⟩:=h
  exact⟨[],A,rfl,hR,rfl,hn,Nat.le_refl _,hst,by simp,trivial⟩
 | .K::bs,e::es,e'::es',A,n,vs,s,m,rest,h,hn,hx,hst,hs,ho,hold,hR=>by
  simp only[pkB]at h
  split at h
  ·rename_i hb
   have hb:=Nat.eq_of_beq_eq_true hb
   obtain⟨us,B,h1,h2,h3,h4,h5,h6,h7,h8⟩:=upB_rel hX hE bs es es' A n vs s m rest h hn hx hst hs (fun e he=>ho e (List.mem_cons_of_mem _ he)) (fun c e' he hlt=>by simpa using hold (c+1) e' (by simpa using he) hlt) hR
   have h0:=hold 0 e' rfl (by rw[<-hb];exact (ho e List.mem_cons_self).1)
   simp only[List.getElem?_cons_zero,Option.some.injEq]at h0
   refine⟨.inl e::us,B,by simp only[upB,h1],h2,h3,h4,h5,h6,h7,.inr (.inl ⟨by rw[h0],(ho e List.mem_cons_self).2⟩),h8⟩
  ·simp at h
 | .U::bs,e::es,e'::es',A,n,vs,s,m,rest,h,hn,hx,hst,hs,ho,hold,hR=>by
  simp only[pkB]at h
  obtain⟨us,B,h1,h2,h3,h4,h5,h6,h7,h8⟩:=upB_rel hX hE bs es es' A n vs s m rest h hn hx hst hs (fun e he=>ho e (List.mem_cons_of_mem _ he)) (fun c e' he hlt=>by simpa using hold (c+1) e' (by simpa using he) hlt) hR
  exact⟨.inr .un::us,B,by simp only[upB,h1],h2,h3,h4,h5,h6,h7,.inl rfl,h8⟩
 | .L ty::bs,e::es,e'::es',A,n,vs,s,m,rest,h,hn,hx,hst,hs,ho,hold,hR=>by
  simp only[pkB]at h
  split at h
  ·rename_i v vs0 s0 m0 hv hp
   simp only[Option.some.injEq,Prod.mk.injEq]at h
   obtain⟨rfl,rfl,rfl⟩:=h
   obtain⟨us,B,h1,h2,h3,h4,h5,h6,h7,h8⟩:=upB_rel hX hE bs es es' A n vs0 s0 m0 rest hp hn hx hst hs (fun e he=>ho e (List.mem_cons_of_mem _ he)) (fun c e' he hlt=>by simpa using hold (c+1) e' (by simpa using he) hlt) hR
   exact⟨.inr (leafS v)::us,B,by simp only[List.cons_append,upB,h1],h2,h3,h4,h5,h6,h7,pkL_rel hv,h8⟩
  ·simp at h
 | .O ty::bs,e::es,e'::es',A,n,vs,s,m,rest,h,hn,hx,hst,hs,ho,hold,hR=>by
  simp only[pkB]at h
  split at h
  ·rename_i v r0 vs0 s0 m0 hv hp
   simp only[Option.some.injEq,Prod.mk.injEq]at h
   obtain⟨rfl,rfl,rfl⟩:=h
   obtain⟨hc,t,xs,st,rfl,hl⟩:=pkO_ok hv
   have hg:=hs (r0,n) List.mem_cons_self
   simp only at hg
   have hR':=rinv_new hR (by omega) hl (by rw[hn];exact hg)
   obtain⟨us,B,h1,h2,h3,h4,h5,h6,h7,h8⟩:=upB_rel hX hE bs es es' (A.newR (.tr t xs)) (n+1) vs0 s0 m0 rest hp (by show A.next+1=_;rw[hn]) (by omega) (by show X.stamp<=A.stamp+1;omega) (fun p hp=>hs p (List.mem_cons_of_mem _ hp)) (fun e he=>ho e (List.mem_cons_of_mem _ he)) (fun c e' he hlt=>by simpa using hold (c+1) e' (by simpa using he) hlt) hR'
   refine⟨.inr (.rw A.next)::us,B,by simp only[List.cons_append,upB,h1],h2,h3,h4,by omega,h6, ?_,.inr (.inr (.inr ⟨_,_,rfl,hc,by omega,by rw[hn];exact hg⟩)),h8⟩
   simp only[List.map_cons,h7]
   rw[show m0-n=(m0-(n+1))+1 by omega,List.range'_succ]
  ·simp at h
 | [],_::_,_,_,_,_,_,_,_,h,_,_,_,_,_,_,_=>by simp [pkB]at h
 | [],[],_::_,_,_,_,_,_,_,h,_,_,_,_,_,_,_=>by simp [pkB]at h
 | .K::_,[],_,_,_,_,_,_,_,h,_,_,_,_,_,_,_=>by simp [pkB]at h
 | .U::_,[],_,_,_,_,_,_,_,h,_,_,_,_,_,_,_=>by simp [pkB]at h
 | .L _::_,[],_,_,_,_,_,_,_,h,_,_,_,_,_,_,_=>by simp [pkB]at h
 | .O _::_,[],_,_,_,_,_,_,_,h,_,_,_,_,_,_,_=>by simp [pkB]at h
 | .K::_,_::_,[],_,_,_,_,_,_,h,_,_,_,_,_,_,_=>by simp [pkB]at h
 | .U::_,_::_,[],_,_,_,_,_,_,h,_,_,_,_,_,_,_=>by simp [pkB]at h
 | .L _::_,_::_,[],_,_,_,_,_,_,h,_,_,_,_,_,_,_=>by simp [pkB]at h
 | .O _::_,_::_,[],_,_,_,_,_,_,h,_,_,_,_,_,_,_=>by simp [pkB]at h
theorem stampB_rel {σ:List (Nat×Nat)}{X:XSt}{s:Nat}:∀{us:List ((Nat×XC) ⊕ XC)}{es':List (Nat×XC)},All2 (fun z (e':Nat×XC)=>CRel σ X (match z with|.inl e=>e.2|.inr x=>x) e'.2) us es'->All2 (fun (e e':Nat×XC)=>CRel σ X e.2 e'.2) (stampB s us) es'
 | [],[],_=>trivial
 | .inl e::us,e'::es',h=>⟨h.1,stampB_rel h.2⟩
 | .inr x::us,e'::es',h=>⟨h.1,stampB_rel h.2⟩
 | [],_::_,h=>h.elim
 | .inl _::_,[],h=>h.elim
 | .inr _::_,[],h=>h.elim
theorem up_rel (hX:XOk X) (hE:Ext X X'):∀(its:List It) (A:XSt) (n:Nat) (vs:List Sg) (s:List (Nat×Nat)) (m:Nat),pk X X' its n=some (vs,s,m)->A.next=n->X.next<=n->X.stamp<=A.stamp->(∀p∈s,get σ p.1=some p.2)->(∀r∈chgR X its,get σ r=some r) ->
  RInv σ X X' A->EInv σ X X' A->RInv σ X X' (up X its A vs)/\EInv σ X X' (up X its A vs)/\(up X its A vs).next=m/\n<=m/\s.map (·.2)=List.range' n (m-n)
 | [],A,n,vs,s,m,h,hn,hx,hst,hs,hc,hR,hEn=>by
  simp only[pk,Option.some.injEq,Prod.mk.injEq]at h
  obtain⟨rfl,rfl,rfl⟩:=h
  exact⟨hR,hEn,hn,Nat.le_refl _,by simp⟩
 | .kt t::l,A,n,vs,s,m,h,hn,hx,hst,hs,hc,hR,hEn=>by
  simp only[pk]at h
  split at h
  ·simp only[up];exact up_rel hX hE l A n vs s m h hn hx hst hs hc hR hEn
  ·simp at h
 | .lt t ty::l,A,n,vs,s,m,h,hn,hx,hst,hs,hc,hR,hEn=>by
  simp only[pk]at h
  split at h
  ·rename_i c ht
   split at h
   ·rename_i v vs0 s0 m0 hv hp
    simp only[Option.some.injEq,Prod.mk.injEq]at h
    obtain⟨rfl,rfl,rfl⟩:=h
    obtain⟨st',hl⟩:=tmp_lk ht (by simp)
    simp only[up]
    exact up_rel hX hE l _ n vs0 s0 m0 hp hn hx (by show X.stamp<=A.stamp+1;omega) hs hc (rinv_put hR) (einv_put hEn hl (pkL_rel hv))
   ·simp at h
  ·simp at h
 | .ot t ty::l,A,n,vs,s,m,h,hn,hx,hst,hs,hc,hR,hEn=>by
  simp only[pk]at h
  split at h
  ·rename_i c ht
   split at h
   ·rename_i v r0 vs0 s0 m0 hv hp
    simp only[Option.some.injEq,Prod.mk.injEq]at h
    obtain⟨rfl,rfl,rfl⟩:=h
    obtain⟨st',hl⟩:=tmp_lk ht (by simp)
    obtain⟨rfl,t',xs,st,rfl,hl2⟩:=pkO_ok hv
    have hg:=hs (r0,n) List.mem_cons_self
    simp only at hg
    have hR':=rinv_new hR (by omega) hl2 (by rw[hn];exact hg)
    simp only[up]
    obtain⟨a,b,c,d,e⟩:=up_rel hX hE l ((A.newR (.tr t' xs)).put (some t) (.a (.c (.rw A.next)))) (n+1) vs0 s0 m0 hp (by show A.next+1=_;rw[hn]) (by omega) (by show X.stamp<=A.stamp+1+1;omega) (fun p hp=>hs p (List.mem_cons_of_mem _ hp)) hc (rinv_put hR') (einv_put (A:=A.newR (.tr t' xs)) hEn hl (.inr (.inr (.inr ⟨_,_,rfl,rfl,by omega,by rw[hn];exact hg⟩))))
    refine⟨a,b,c,by omega, ?_⟩
    simp only[List.map_cons,e]
    rw[show m0-n=(m0-(n+1))+1 by omega,List.range'_succ]
   ·simp at h
  ·simp at h
 | .bx t cs::l,A,n,vs,s,m,h,hn,hx,hst,hs,hc,hR,hEn=>by
  simp only[pk]at h
  split at h
  ·rename_i r es r' es' hsame hb hb'
   split at h
   ·rename_i vs0 s0 m0 hrr hp
    have hrr:=Nat.eq_of_beq_eq_true hrr
    subst hrr
    split at h
    ·rename_i vs2 s2 m2 hp2
     simp only[Option.some.injEq,Prod.mk.injEq]at h
     obtain⟨rfl,rfl,rfl⟩:=h
     obtain⟨st,hl⟩:=boxOf_lk hb
     obtain⟨st',hl'⟩:=boxOf_lk hb'
     have hcr:chgR X (.bx t cs::l)=r::chgR X l:=by simp only[chgR,hb]
     rw[hcr]at hc
     obtain⟨us,B,h1,h2,h3,h4,h5,h6,h7,h8⟩:=upB_rel (σ:=σ) hX hE cs es es' A n vs0 s0 m0 vs2 hp hn hx hst (fun p hp=>hs p (List.mem_append_left _ hp)) (fun e he=>hX.box r st es hl e he) (fun c e' he hlt=>by
      obtain⟨q1,q2,q3,q4⟩:=hE.cells r st' es' hl' c e' he hlt
      rw[hl]at q3
      simp only[Option.some.injEq,Prod.mk.injEq,XR.bx.injEq]at q3
      rw[q3.2];exact q4) hR
     have hup:up X (.bx t cs::l) A (vs0++vs2)=up X l (B.setR r (.bx (stampB B.stamp us))) vs2:=by simp only[up,hb,h1]
     rw[hup]
     have hE2:EInv σ X X' (B.setR r (.bx (stampB B.stamp us))):=by
      intro q st v hv
      have:lk B.env q=some (st,v):=hv
      rw[h3]at this
      exact hEn q st v this
     obtain⟨a,b,c,d,e⟩:=up_rel hX hE l (B.setR r (.bx (stampB B.stamp us))) m0 vs2 s2 m2 hp2 h4 (by omega) (by show X.stamp<=B.stamp+1;omega) (fun p hp=>hs p (List.mem_append_right _ hp)) (fun q hq=>hc q (List.mem_cons_of_mem _ hq))
      (rinv_set h2 (hX.ids r st _ hl).1 (hc r List.mem_cons_self) h6 (.inr ⟨_,es',st',rfl,hl',stampB_rel h8⟩)) hE2
     refine⟨a,b,c,by omega, ?_⟩
     rw[List.map_append,h7,e,show m2-n=(m0-n)+(m2-m0) by omega]
     have:m0=n+(m0-n):=by omega
     rw[show List.range' m0 (m2-m0)=List.range' (n+1*(m0-n)) (m2-m0) by rw[Nat.one_mul,<-this]]
     rw[List.range'_append]
    ·simp at h
   ·simp at h
  ·simp at h
 | .sr t ty::l,A,n,vs,s,m,h,hn,hx,hst,hs,hc,hR,hEn=>by
  simp only[pk]at h
  split at h
  ·rename_i r hsame ht
   split at h
   ·rename_i st' t' xs hl
    split at h
    ·rename_i vs0 s0 m0 hp
     simp only[Option.some.injEq,Prod.mk.injEq]at h
     obtain⟨rfl,rfl,rfl⟩:=h
     have hcr:chgR X (.sr t ty::l)=r::chgR X l:=by simp only[chgR,ht]
     rw[hcr]at hc
     have hup:up X (.sr t ty::l) A (⟨.L t',xs⟩::vs0)=up X l (A.setR r (.tr t' xs)) vs0:=by simp only[up,ht]
     rw[hup]
     exact up_rel hX hE l (A.setR r (.tr t' xs)) n vs0 s0 m0 hp hn hx (by show X.stamp<=A.stamp+1;omega) hs (fun q hq=>hc q (List.mem_cons_of_mem _ hq)) (rinv_set hR (treeOf_lt hX ht) (hc r List.mem_cons_self) hst (.inl ⟨_,_,_,rfl,hl⟩)) hEn
    ·simp at h
   ·simp at h
  ·simp at h
theorem keep_c (hr:RInv σ X X' A){R0:XRs}{c:XC}(hc:okC R0 X.next X.stamp c):cC A.roots c=.un\/cC A.roots c=renC σ (cC X'.roots c):=by
 have root:∀{r:Nat},r<X.next->∀{st:Nat} {x:XR},lk A.roots r=some (st,x)->get σ r=some r/\((st<X.stamp/\lk X'.roots r=some (st,x))\/(X.stamp<=st/\((∃(ty:Ty) (xs:List ty.den) (st':Nat),x=.tr ty xs/\lk X'.roots r=some (st',.tr ty xs))\/∃cs cs' st',x=.bx cs/\lk X'.roots r=some (st',.bx cs')/\All2 (fun (e e':Nat×XC)=>CRel σ X e.2 e'.2) cs cs'))):=by
  intro r hlt st x hl
  rcases hr r st x hl with ⟨_,a,b⟩|⟨a,_⟩
  ·exact⟨a,b⟩
  ·omega
 cases c with
 | un=>exact .inl rfl
 | nl sz=>exact .inr rfl
 | lf v=>exact .inr rfl
 | i k z=>exact .inr rfl
 | y b=>exact .inr rfl
 | b x=>exact .inr rfl
 | s l=>exact .inr rfl
 | rw r =>
  cases hl:lk A.roots r with
  | none=>left;simp only[cC,hl]
  | some e =>
   obtain⟨st,x⟩:=e
   obtain⟨g,h|⟨_,h|h⟩⟩:=root hc hl
   ·cases x with
    | tr t xs=>right;simp only[cC,hl,h.2,renC,g]
    | im t xs=>right;simp only[cC,hl,h.2,renC,g]
    | _=>left;simp only[cC,hl]
   ·obtain⟨ty,xs,st',rfl,h⟩:=h
    right;simp only[cC,hl,h,renC,g]
   ·obtain⟨cs,cs',st',rfl,h,_⟩:=h
    left;simp only[cC,hl]
 | rv r lo n =>
  cases hl:lk A.roots r with
  | none=>left;simp only[cC,hl]
  | some e =>
   obtain⟨st,x⟩:=e
   obtain⟨g,h|⟨_,h|h⟩⟩:=root hc hl
   ·cases x with
    | tr t xs=>right;simp only[cC,hl,h.2,renC,g]
    | im t xs=>right;simp only[cC,hl,h.2,renC,g]
    | _=>left;simp only[cC,hl]
   ·obtain⟨ty,xs,st',rfl,h⟩:=h
    right;simp only[cC,hl,h,renC,g]
   ·obtain⟨cs,cs',st',rfl,h,_⟩:=h
    left;simp only[cC,hl]
 | rf r v p lo t ws =>
  cases hv:verOk A.roots r v with
  | false=>left;simp only[cC,hv]
  | true =>
   obtain⟨x,hl⟩:=verOk_lk hv
   obtain⟨g,h|⟨h,_⟩⟩:=root hc.1 hl
   ·right;simp only[cC,hv,verOk_of h.2,renC,g]
   ·have:=hc.2.1;omega
 | pe r v p i c t y =>
  cases hv:verOk A.roots r v with
  | false=>left;simp only[cC,hv]
  | true =>
   obtain⟨x,hl⟩:=verOk_lk hv
   obtain⟨g,h|⟨h,_⟩⟩:=root hc.1 hl
   ·right;simp only[cC,hv,verOk_of h.2,renC,g]
   ·have:=hc.2.1;omega
 | pb r c =>
  cases hl:lk A.roots r with
  | none=>left;simp only[cC,hl]
  | some e =>
   obtain⟨st,x⟩:=e
   obtain⟨g,h|⟨_,h|h⟩⟩:=root hc hl
   ·cases x with
    | bx cs=>right;simp only[cC,hl,h.2,renC,g]
    | _=>left;simp only[cC,hl]
   ·obtain⟨ty,xs,st',rfl,h⟩:=h
    left;simp only[cC,hl]
   ·obtain⟨cs,cs',st',rfl,h,_⟩:=h
    right;simp only[cC,hl,h,renC,g]
theorem rel_c (hn:(σ.map (·.2)).Nodup) (hr:RInv σ X X' A){c c':XC}(hc:CRel σ X c c'){y:C}(hy:WkC y (cC X'.roots c')):WkC (renC σ y) (cC A.roots c):=by
 rcases hc with rfl|⟨rfl,ho⟩|⟨v,h1,h2⟩|⟨id,r',rfl,rfl,hid,hg⟩
 ·exact .inr rfl
 ·exact wkC_map (κ:=renC σ) rfl hy (keep_c hr ho)
 ·rw[h2]at hy
  rw[h1,hy.eq (by simp)]
  exact .inl rfl
 ·cases hl:lk A.roots id with
  | none=>right;simp only[cC,hl]
  | some e =>
   obtain⟨st,x⟩:=e
   rcases hr id st x hl with ⟨a,_⟩|⟨_,r2,ty,xs,st',rfl,h1,h2⟩
   ·omega
   ·have:r2=r':=by rw[<-invN_get hn h2,<-invN_get hn hg]
    subst this
    simp only[cC,h1]at hy
    rw[hy.eq (by simp)]
    left
    simp only[cC,hl,renC,hg]
theorem rel_cs (hn:(σ.map (·.2)).Nodup) (hr:RInv σ X X' A):∀{es es':List (Nat×XC)}{ys:List C},All2 (fun (e e':Nat×XC)=>CRel σ X e.2 e'.2) es es'->All2 WkC ys (es'.map fun e=>cC X'.roots e.2)->All2 WkC (ys.map (renC σ)) (es.map fun e=>cC A.roots e.2)
 | [],[],[],_,_=>trivial
 | e::es,e'::es',y::ys,h,w=>⟨rel_c hn hr h.1 w.1,rel_cs hn hr h.2 w.2⟩
 | [],_::_,_,h,_=>h.elim
 | _::_,[],_,h,_=>h.elim
 | [],[],_::_,_,w=>w.elim
 | _::_,_::_,[],_,w=>w.elim
theorem le_of_inv {S':St}(hX:XOk X) (hX':XOk X') (hE:Ext X X') (hS:SimX X' S') (hok:okRen σ A.next S'.fix=true) (hf:A.fix=X'.fix) (hR:RInv σ X X' A) (hEn:EInv σ X X' A):Le S' (concS A):=by
 have hn:(σ.map (·.2)).Nodup:=by
  simp only[okRen,Bool.and_eq_true,decide_eq_true_eq]at hok
  exact hok.1.1
 refine Le.ren2 σ (by rw[hS.fix];exact hf) hok ?_ ?_
 ·intro t x hx
  simp only[concS,get_concE]at hx
  cases hl:lk A.env t with
  | none=>rw[hl]at hx;simp at hx
  | some e =>
   obtain⟨st,v⟩:=e
   rw[hl]at hx
   simp only[Option.map_some,Option.some.injEq]at hx
   subst hx
   rcases hEn t st v hl with ⟨h1,h2⟩|⟨st',c,c',rfl,h1,h2⟩
   ·rcases hS.env t st v h1 with rfl|⟨y,g1,g2⟩
    ·exact .inl rfl
    ·exact .inr ⟨y,g1,wkV_map (κ:=renC σ) rfl (fun c hc=>keep_c hR hc) (okV.ext (Nat.le_refl _) (Nat.le_refl _) hE.roots h2) g2⟩
   ·rcases hS.env t st' _ h1 with h|⟨y,g1,g2⟩
    ·simp at h
    ·refine .inr ⟨y,g1, ?_⟩
     cases y with
     | a y=>cases y with
      | c y=>exact rel_c hn hR h2 g2
      | ag _=>exact g2.elim
     | _=>exact g2.elim
 ·intro r x hx
  simp only[concS,get_concR]at hx
  split at hx
  ·rename_i st z hl
   rcases hR r st z hl with ⟨a,b,c⟩|⟨a,r',ty,xs,st',rfl,h1,h2⟩
   ·have same:∀{st':Nat} {z':XR},lk X'.roots r=some (st',z')->(∀y,cRt X'.roots z'=some y->∀y',WkR y' y->WkR (renRoot σ y') x)->(∃y,cRt X'.roots z'=some y)->∃r0 y,get S'.roots r0=some y/\get σ r0=some r/\WkR (renRoot σ y) x:=by
     intro st' z' hl' hw ⟨y,hy⟩
     obtain⟨y',g1,g2⟩:=hS.roots r st' z' hl' y hy
     exact⟨r,y',g1,b,hw y hy y' g2⟩
    rcases c with ⟨c1,c2⟩|⟨c1,⟨ty,xs,st',rfl,c2⟩|⟨cs,cs',st',rfl,c2,c3⟩⟩
    ·refine same c2 ?_ ?_
     ·intro y hy y' hw
      cases z with
      | tr t xs =>
       simp only[cRt,Option.some.injEq]at hx hy;subst hx hy
       cases y'<;>first|exact hw|exact hw.elim
      | im t xs =>
       simp only[cRt,Option.some.injEq]at hx hy;subst hx hy
       cases y'<;>first|exact hw|exact hw.elim
      | bx cs =>
       simp only[cRt,Option.some.injEq]at hx hy;subst hx hy
       cases y' with
       | bx ys =>
        have h1:All2 WkC ys ((cs.map (·.2)).map (cC X'.roots)):=by rw[List.map_map];exact hw
        have h2:=wkCs_map (κ:=renC σ) rfl (fun c hc=>keep_c hR hc) (fun c hc=>by
         obtain⟨e,he,rfl⟩:=List.mem_map.1 hc
         exact okC.ext (Nat.le_refl _) (Nat.le_refl _) hE.roots (hX.box r st cs (hE.roots r st _ c2 c1) e he).2) h1
        rw[List.map_map]at h2
        exact h2
       | _=>exact hw.elim
      | gone=>simp [cRt]at hx
     ·cases z with
      | gone=>simp [cRt]at hx
      | _=>exact⟨_,rfl⟩
    ·refine same c2 ?_ ⟨_,rfl⟩
     intro y hy y' hw
     simp only[cRt,Option.some.injEq]at hx hy;subst hx hy
     cases y'<;>first|exact hw|exact hw.elim
    ·refine same c2 ?_ ⟨_,rfl⟩
     intro y hy y' hw
     simp only[cRt,Option.some.injEq]at hx hy;subst hx hy
     cases y' with
     | bx ys=>exact rel_cs hn hR c3 hw
     | _=>exact hw.elim
   ·obtain⟨y',g1,g2⟩:=hS.roots r' st' _ h1 _ rfl
    simp only[cRt,Option.some.injEq]at hx;subst hx
    refine⟨r',y',g1,h2, ?_⟩
    cases y'<;>first|exact g2|exact g2.elim
  ·simp at hx
theorem disj_ok {l:List Nat}:∀{m:List Nat},disjN l m=true->∀r∈m,r ∉ l
 | [],_,r,hr=>by simp at hr
 | q::m,h,r,hr=>by
  simp only[disjN]at h
  split at h
  ·simp at h
  ·rename_i hq
   rcases List.mem_cons.1 hr with rfl|hr
   ·exact fun hm=>by rw[hasN_mem.2 hm]at hq;simp at hq
   ·exact disj_ok h r hr
theorem sameR_ok (hX:XOk X) (hE:Ext X X'):∀{l:List Nat},sameR X X' l=true->∀r∈l,∀e,lk X.roots r=some e->lk X'.roots r=some e
 | [],_,r,hr,_,_=>by simp at hr
 | q::l,h,r,hr,e,he=>by
  simp only[sameR]at h
  split at h
  ·rename_i s x s' x' h1 h2
   simp only[Bool.and_eq_true]at h
   have hs:=Nat.eq_of_beq_eq_true h.1
   subst hs
   rcases List.mem_cons.1 hr with rfl|hr
   ·have h3:=hE.roots r s x' h2 (hX.ids r s x h1).2
    rw[h1]at h3 he
    simp only[Option.some.injEq,Prod.mk.injEq,true_and]at h3 he
    rw[h2,<-h3];exact congrArg some he
   ·exact sameR_ok hX hE h.2 r hr e he
  ·rename_i h1
   rcases List.mem_cons.1 hr with rfl|hr
   ·rw[h1]at he;simp at he
   ·exact sameR_ok hX hE h r hr e he
  ·simp at h
theorem get_pairs:∀{s:List (Nat×Nat)}{σ:List (Nat×Nat)},(s.map (·.1)).Nodup->∀p∈s,get (s++σ) p.1=some p.2
 | [],σ,_,p,hp=>by simp at hp
 | q::s,σ,hn,p,hp=>by
  simp only[List.map_cons,List.nodup_cons]at hn
  simp only[List.cons_append,get]
  rcases List.mem_cons.1 hp with rfl|hp
  ·rw[if_pos rfl]
  ·rw[if_neg (fun e=>hn.1 (by rw[e];exact List.mem_map.2 ⟨p,hp,rfl⟩))]
   exact get_pairs hn.2 p hp
theorem get_diag (n r:Nat) (h:r<n):get ((List.range n).map fun r=>(r,r)) r=some r:=by
 have key:∀l:List Nat,r∈l->get (l.map fun r=>(r,r)) r=some r:=by
  intro l
  induction l with
  | nil=>intro h;simp at h
  | cons a l ih =>
   intro h
   simp only[List.map_cons,get]
   split
   ·rename_i e;rw[e]
   ·rename_i e
    exact ih ((List.mem_cons.1 h).resolve_left fun e'=>e e'.symm)
 exact key _ (List.mem_range.2 h)
theorem get_out {s σ:List (Nat×Nat)}{r:Nat}(h:r ∉ s.map (·.1)):get (s++σ) r=get σ r:=by
 induction s with
 | nil=>rfl
 | cons q s ih =>
  simp only[List.map_cons,List.mem_cons,not_or]at h
  simp only[List.cons_append,get]
  rw[if_neg (fun e=>h.1 e.symm)]
  exact ih h.2
theorem pack_ok {β:Type}{out:β}{S':St}{its:List It}{k:Tp (It.tys its)->Option β}(hX:XOk X) (hX':XOk X') (hE:Ext X X') (hS:SimX X' S') (h:packX X X' its k=some out) :
  ∃s,k s=some out/\Le S' (concS (unpackX X its s)):=by
 unfold packX at h
 split at h
 ·rename_i vs s m hsame hp
  split at h
  ·rename_i hc
   simp only[Bool.and_eq_true]at hc
   obtain⟨hnd,hd1,hd2⟩:=hc
   have hnd:=nodupN_ok hnd
   obtain⟨x,hk,hsp⟩:=coll_some _ _ _ h
   refine⟨x,hk, ?_⟩
   have hps:∀p∈s,get (s++(List.range X.next).map fun r=>(r,r)) p.1=some p.2:=get_pairs hnd
   have hdiag:∀r,r<X.next->r ∉ s.map (·.1)->get (s++(List.range X.next).map fun r=>(r,r)) r=some r:=fun r h1 h2=>by rw[get_out h2,get_diag _ _ h1]
   have hchg:∀r∈chgR X its,r<X.next:=by
    intro r hr
    have key:∀l:List It,r∈chgR X l->r<X.next:=by
     intro l
     induction l with
     | nil=>intro h;simp [chgR]at h
     | cons i l ih =>
      intro h
      cases i with
      | bx t cs =>
       simp only[chgR]at h
       split at h
       ·rename_i q es hb
        rcases List.mem_cons.1 h with rfl|h
        ·obtain⟨st,hl⟩:=boxOf_lk hb;exact (hX.ids _ _ _ hl).1
        ·exact ih h
       ·exact ih h
      | sr t ty =>
       simp only[chgR]at h
       split at h
       ·rename_i q hb
        rcases List.mem_cons.1 h with rfl|h
        ·exact treeOf_lt hX hb
        ·exact ih h
       ·exact ih h
      | _=>exact ih h
    exact key its hr
   obtain⟨hb0,hb1⟩:=base0_ok hX its
   have R0:RInv (s++(List.range X.next).map fun r=>(r,r)) X X' (base0 X its):=by
    intro r st z hl
    obtain⟨h1,h2⟩:=keptRs_lk hl
    have h3:=hX.ids r st z h1
    exact .inl ⟨h3.1,hdiag r h3.1 (disj_ok hd1 r h2),.inl ⟨h3.2,sameR_ok hX hE hsame r h2 _ h1⟩⟩
   have E0:EInv (s++(List.range X.next).map fun r=>(r,r)) X X' (base0 X its):=by
    intro t st v hl
    have h1:=keptE_lk hl
    have ht:t∈keptT its:=by
     have key:∀(l:List Nat),(∃e,lk (keptE X l) t=some e)->t∈l:=by
      intro l
      induction l with
      | nil=>rintro ⟨e,he⟩;simp [keptE,lk]at he
      | cons q l ih =>
       rintro ⟨e,he⟩
       simp only[keptE]at he
       split at he
       ·rw[lk_cons]at he
        split at he
        ·rename_i e;exact List.mem_cons.2 (.inl e.symm)
        ·exact List.mem_cons_of_mem _ (ih ⟨e,he⟩)
       ·exact List.mem_cons_of_mem _ (ih ⟨e,he⟩)
     exact key _ ⟨_,hl⟩
    have hsameT:sameT X X' t=true:=by
     have key:∀(l:List It) (n:Nat) (r:List Sg×List (Nat×Nat)×Nat),pk X X' l n=some r->t∈keptT l->sameT X X' t=true:=by
      intro l
      induction l with
      | nil=>intro n r _ h;simp [keptT]at h
      | cons i l ih =>
       intro n r hr h
       cases i with
       | kt q =>
        simp only[pk]at hr
        split at hr
        ·rename_i hq
         rcases List.mem_cons.1 h with rfl|h
         ·exact hq
         ·exact ih _ _ hr h
        ·simp at hr
       | lt q ty =>
        simp only[pk]at hr
        split at hr
        ·split at hr
         ·rename_i h1 h2;exact ih _ _ h2 h
         ·simp at hr
        ·simp at hr
       | ot q ty =>
        simp only[pk]at hr
        split at hr
        ·split at hr
         ·rename_i h1 h2;exact ih _ _ h2 h
         ·simp at hr
        ·simp at hr
       | bx q cs =>
        simp only[pk]at hr
        split at hr
        ·rename_i hq hb1 hb2
         split at hr
         ·split at hr
          ·rename_i h3
           rcases List.mem_cons.1 h with rfl|h
           ·exact hq
           ·exact ih _ _ h3 h
          ·simp at hr
         ·simp at hr
        ·simp at hr
       | sr q ty =>
        simp only[pk]at hr
        split at hr
        ·rename_i hq hb1
         split at hr
         ·split at hr
          ·rename_i h3
           rcases List.mem_cons.1 h with rfl|h
           ·exact hq
           ·exact ih _ _ h3 h
          ·simp at hr
         ·simp at hr
        ·simp at hr
     exact key its _ _ hp ht
    obtain⟨s',v',g1,g2⟩:=sameT_ok hX hE hsameT
    rw[h1]at g1
    simp only[Option.some.injEq,Prod.mk.injEq]at g1
    obtain⟨rfl,rfl⟩:=g1
    exact .inl ⟨g2,(hX.env _ _ _ h1).2⟩
   obtain⟨hR,hEn,hnx,hle,hrng⟩:=up_rel hX hE its (base0 X its) X.next vs s m hp rfl (Nat.le_refl _) (Nat.le_refl _) hps (fun r hr=>hdiag r (hchg r hr) (disj_ok hd2 r hr)) R0 E0
   obtain⟨hU1,hU2⟩:=unpack_ok hX its x
   have hun:unpackX X its x=up X its (base0 X its) vs:=by simp only[unpackX,hsp]
   rw[hun]at hU2 ⊢
   refine le_of_inv hX hX' hE hS ?_ (by rw[hU2.fix,hE.fix]) hR hEn
   simp only[okRen,Bool.and_eq_true,decide_eq_true_eq,List.all_eq_true,Bool.or_eq_true,beq_iff_eq]
   refine⟨⟨?_, ?_⟩, ?_⟩
   ·rw[List.map_append,hrng,List.map_map]
    rw[List.nodup_append]
    refine⟨List.nodup_range', ?_, ?_⟩
    ·have:(List.range X.next).map ((fun x:Nat×Nat=>x.2) ∘ fun r=>(r,r))=List.range X.next:=by simp [Function.comp_def]
     rw[this];exact List.nodup_range
    ·intro a ha b hb e
     subst e
     have h1:=(List.mem_range'_1.1 ha).1
     simp only[List.mem_map,Function.comp_def,List.mem_range]at hb
     obtain⟨q,hq,rfl⟩:=hb
     omega
   ·intro p hp'
    rcases List.mem_append.1 hp' with h1|h1
    ·have:p.2∈s.map (·.2):=List.mem_map.2 ⟨p,h1,rfl⟩
     rw[hrng,List.mem_range'_1]at this
     have hfx:=hX.fixle
     have hf2:S'.fix=X.fix:=by rw[hS.fix,hE.fix]
     exact⟨by rw[hnx];omega,.inl (by rw[hf2];omega)⟩
    ·obtain⟨q,hq,rfl⟩:=List.mem_map.1 h1
     rw[List.mem_range]at hq
     exact⟨by rw[hnx];simp only;omega,.inr rfl⟩
   ·have hf2:S'.fix=X.fix:=by rw[hS.fix,hE.fix]
    rw[hf2,hnx]
    exact Nat.le_trans hX.fixle hle
  ·simp at h
 ·simp at h
end
end Go.Vs
namespace Go.Vs
variable [Glb]
theorem le_nl_env {E:List (Nat×V)}{R:List (Nat×Root)}{n f sz:Nat}(t:Nat) (ht:get E t=some (.a (.c (.nl sz)))):Le ⟨E,R,n,f⟩ ⟨put E t (.a (.c (.rf n [] sz 0 0))),(n,.tr sz [])::R,n+1,f⟩:=by
 refine⟨rfl, ?_⟩
 intro N w0 own0 pl0 g pl a w hR
 have h4:=hR.env t _ ht
 obtain⟨b1,b2,b3,b4⟩:=rel_nil sz hR
 refine⟨_,_,⟨b1,b2,b3, ?_⟩⟩
 intro u x hx
 rw[get_put]at hx
 split at hx
 ·rename_i e
  subst e
  simp only[Option.some.injEq]at hx
  subst hx
  exact cr_nil h4
 ·exact b4 u x hx
theorem le_nl_box {E:List (Nat×V)}{R:List (Nat×Root)}{n f sz:Nat}{cs:List C}(r c:Nat) (hr:get R r=some (.bx cs)) (hc:cs[c]? = some (.nl sz)):Le ⟨E,R,n,f⟩ ⟨E,(n,.tr sz [])::put R r (.bx (cs.set c (.rf n [] sz 0 0))),n+1,f⟩:=by
 refine⟨rfl, ?_⟩
 intro N w0 own0 pl0 g pl a w hR
 have hlt:=(hR.hp.roots r _ hr).1
 have hold:=(hR.hp.roots r _ hr).2
 obtain⟨b1,b2,b3,b4⟩:=rel_nil sz hR
 obtain⟨c1,c2,c3,c4,c5,c6⟩:=b1
 refine⟨_,_,⟨⟨c1,c2,c3,c4,c5, ?_⟩,b2,b3,b4⟩⟩
 intro u x hx
 simp only[get]at hx
 split at hx
 ·rename_i e
  exact c6 u x (by simp only[get,if_pos e];exact hx)
 ·rename_i e
  rw[get_put]at hx
  split at hx
  ·rename_i e2
   subst e2
   simp only[Option.some.injEq]at hx
   subst hx
   have hb:=c6 r (.bx cs) (by simp only[get,if_neg e];exact hr)
   refine⟨hb.1, ?_⟩
   intro k y hy
   rw[List.getElem?_set]at hy
   split at hy
   ·rename_i e3
    subst e3
    split at hy
    ·simp only[Option.some.injEq]at hy
     subst hy
     obtain⟨v,d1,d2,d3,d4⟩:=hb.2 c _ hc
     obtain⟨v',e1,e2,_,_⟩:=hold c _ hc
     have hp:plNew pl n (fun _=>⟨true,0,0,0,sz,none⟩) r []=pl r []:=plNew_agree pl n _ r [] hlt
     rw[hp]at d1 d3 d4 ⊢
     exact⟨v,d1,cr_nil d2,d3,d4⟩
    ·simp at hy
   ·exact hb.2 k y hy
  ·exact c6 u x (by simp only[get,if_neg e];exact hx)
theorem Le.refl (S:St):Le S S:=⟨rfl,fun N w0 own0 pl0 g pl a w h=>⟨g,pl,h⟩⟩
theorem Le.trans {S T U:St}(h1:Le S T) (h2:Le T U):Le S U:=⟨h2.1.trans h1.1,fun N w0 own0 pl0 g pl a w h=>by
 obtain⟨g',pl',h'⟩:=h1.2 N w0 own0 pl0 g pl a w h
 exact h2.2 N w0 own0 pl0 g' pl' a w h'⟩
theorem sim_put {X:XSt}{E:List (Nat×V)}{R:List (Nat×Root)}{n f:Nat}(hS:SimX X ⟨E,R,n,f⟩){d:Option Nat}{v:V}{xv:XV}(h:WkV v (cV X.roots xv)):SimX (X.put d xv) ⟨setEnv d v E,R,n,f⟩:=by
 cases d with
 | none=>exact hS
 | some d =>
  refine⟨hS.next,hS.fix, ?_,hS.roots⟩
  intro t s w hl
  simp only[XSt.put]at hl
  rw[lk_cons]at hl
  simp only[setEnv,get_put]
  split at hl
  ·rename_i e
   simp only at e
   simp only[Option.some.injEq,Prod.mk.injEq]at hl
   obtain⟨_,rfl⟩:=hl
   rw[if_pos e]
   exact .inr ⟨v,rfl,h⟩
  ·rename_i e
   rw[if_neg e]
   exact hS.env t s w hl
theorem sim_cell {X:XSt}{E:List (Nat×V)}{R:List (Nat×Root)}{n f r c s:Nat}{cs:List (Nat×XC)}{ys:List C}{x:XC}{y:C}(hX:XOk X) (hS:SimX X ⟨E,R,n,f⟩) (hl:lk X.roots r=some (s,.bx cs)) (hy:get R r=some (.bx ys)) (hw:All2 WkC ys (cs.map fun e=>cC X.roots e.2)) (hx:okC X.roots X.next X.stamp x) (hxy:WkC y (cC X.roots x)) :
  XOk (X.setR r (.bx (cs.set c (X.stamp,x))))/\Ext X (X.setR r (.bx (cs.set c (X.stamp,x))))/\SimX (X.setR r (.bx (cs.set c (X.stamp,x)))) ⟨E,put R r (.bx (ys.set c y)),n,f⟩:=by
 obtain⟨a,b⟩:=chg_ok hX (x:=.bx (cs.set c (X.stamp,x))) (Nat.le_refl _) (hX.ids r s _ hl).1 (by
  intro cs' e j en hj
  simp only[XR.bx.injEq]at e
  subst e
  rw[List.getElem?_set]at hj
  split at hj
  ·split at hj
   ·simp only[Option.some.injEq]at hj;subst hj;exact⟨.inl rfl,hx⟩
   ·simp at hj
  ·exact⟨.inr ⟨s,cs,hl,hj⟩,(hX.box r s cs hl en (List.mem_of_getElem? hj)).2⟩)
 refine⟨a,b, ?_⟩
 have key:∀c',okC X.roots X.next X.stamp c'->cC ((r,X.stamp,.bx (cs.set c (X.stamp,x)))::X.roots) c'=.un\/cC ((r,X.stamp,.bx (cs.set c (X.stamp,x)))::X.roots) c'=killCs [] (cC X.roots c'):=fun c' hc=>cC_cons (.inr (.inr (.inl ⟨_,_,_,rfl,hl⟩))) hc
 have hn:n=X.next:=hS.next
 subst hn
 refine sim_step (X':=X.setR r (.bx (cs.set c (X.stamp,x)))) (ks:=[]) (roots:=put R r (.bx (ys.set c y))) hX hS rfl rfl key ?_
 intro q s' z hq
 simp only[XSt.setR]at hq
 rw[lk_cons]at hq
 split at hq
 ·rename_i e
  simp only at e;subst e
  simp only[Option.some.injEq,Prod.mk.injEq]at hq
  obtain⟨_,rfl⟩:=hq
  right
  intro y' hy'
  simp only[cRt,Option.some.injEq]at hy';subst hy'
  refine⟨_,by rw[get_put,if_pos rfl], ?_⟩
  have w1:All2 WkC (ys.set c y) (((cs.map (·.2)).set c x).map (cC X.roots)):=by
   have w0:All2 WkC ys ((cs.map (·.2)).map (cC X.roots)):=by rw[List.map_map];exact hw
   clear key a b hl hy hw
   generalize cs.map (·.2)=us at w0
   induction us generalizing ys c with
   | nil=>cases ys with
    | nil=>trivial
    | cons _ _=>exact w0.elim
   | cons u us ih=>cases ys with
    | nil=>exact w0.elim
    | cons y0 ys=>cases c with
     | zero=>exact⟨hxy,w0.2⟩
     | succ c=>exact⟨w0.1,ih w0.2⟩
  have w2:=wkCs_kill (ks:=[]) key (by
   intro c' hc'
   rcases List.mem_or_eq_of_mem_set hc' with h|h
   ·obtain⟨e,he,rfl⟩:=List.mem_map.1 h
    exact (hX.box r s cs hl e he).2
   ·rw[h];exact hx) w1
  have e3:(ys.set c y).map (killCs [])=ys.set c y:=by
   have:killCs []=fun c=>c:=by funext c;rfl
   rw[this];simp
  rw[e3]at w2
  simp only[WkR]
  have e4:(cs.map (·.2)).set c x=(cs.set c (X.stamp,x)).map (·.2):=by simp [List.map_set]
  rw[e4,List.map_map]at w2
  exact w2
 ·rename_i e
  left
  exact⟨hq,by rw[omap_nil,get_put,if_neg e]⟩
def nrmB (r:Nat):List Bc->Nat->XSt->XSt
 | [],_,X=>X
 | .O ty::bs,c,X=>match lk X.roots r with
  | some (_,.bx cs)=>match cs[c]? with
   | some (_,.nl n)=>match Nat.beq n ty.n with
    | true=>nrmB r bs (c+1) ((X.newR (.tr ty [])).setR r (.bx (cs.set c (X.stamp+1,.rw X.next))))
    | false=>nrmB r bs (c+1) X
   | _=>nrmB r bs (c+1) X
  | _=>nrmB r bs (c+1) X
 | _::bs,c,X=>nrmB r bs (c+1) X
def nrm:List It->XSt->XSt
 | [],X=>X
 | .ot t ty::l,X=>match X.tmp t with
  | .a (.c (.nl n))=>match Nat.beq n ty.n with
   | true=>nrm l ((X.newR (.tr ty [])).put (some t) (.a (.c (.rw X.next))))
   | false=>nrm l X
  | _=>nrm l X
 | .bx t cs::l,X=>match boxOf X t with
  | some (r,_)=>nrm l (nrmB r cs 0 X)
  | none=>nrm l X
 | _::l,X=>nrm l X
def NrOk (X X':XSt) (S:St):Prop:=XOk X'/\Ext X X'/\∃S',Le S S'/\SimX X' S'
theorem nrmB_ok {r:Nat}:∀(bs:List Bc) (c:Nat){X:XSt}{S:St},XOk X->SimX X S->NrOk X (nrmB r bs c X) S
 | [],c,X,S,hX,hS=>⟨hX,Ext.refl X,S,Le.refl S,hS⟩
 | .K::bs,c,X,S,hX,hS=>nrmB_ok bs _ hX hS
 | .U::bs,c,X,S,hX,hS=>nrmB_ok bs _ hX hS
 | .L _::bs,c,X,S,hX,hS=>nrmB_ok bs _ hX hS
 | .O ty::bs,c,X,S,hX,hS=>by
  simp only[nrmB]
  split
  ·rename_i s cs hl
   split
   ·rename_i sc n hc
    split
    ·rename_i hn
     have hn:=Nat.eq_of_beq_eq_true hn
     subst hn
     obtain⟨E,R,nx,f⟩:=S
     have hnx:nx=X.next:=hS.next
     subst hnx
     obtain⟨ys,g1,g2⟩:=box_sim hS hl
     obtain⟨y,y1,y2⟩:=wk_get (i:=c) (x:=C.nl ty.n) g2 (by rw[List.getElem?_map,hc];rfl)
     have y3:=y2.eq (by simp)
     subst y3
     obtain⟨a,b,d⟩:=newR_ok (x:=.tr ty []) (y:=.tr ty.n []) hX hS (fun cs h=>by simp at h) ⟨_,rfl,rfl,rfl⟩
     have hlt:=(hX.ids r s _ hl).1
     have hl2:lk (X.newR (.tr ty [])).roots r=some (s,.bx cs):=by simp only[XSt.newR];rw[lk_cons,if_neg (by simp only;omega)];exact hl
     obtain⟨ys2,g3,g4⟩:=box_sim d hl2
     have e1:ys2=ys:=by
      simp only[get]at g3
      rw[if_neg (by omega),g1]at g3
      simp only[Option.some.injEq,Root.bx.injEq]at g3
      exact g3.symm
     subst e1
     obtain⟨a',b',d'⟩:=sim_cell (c:=c) (x:=.rw X.next) (y:=.rf X.next [] ty.n 0 0) a d hl2 g3 g4 (Nat.lt_succ_self _) (by
      left
      simp only[cC,newR_lk];rfl)
     have hput:put ((X.next,Root.tr ty.n [])::R) r (.bx (ys2.set c (.rf X.next [] ty.n 0 0)))=(X.next,Root.tr ty.n [])::put R r (.bx (ys2.set c (.rf X.next [] ty.n 0 0))):=by
      simp only[put];rw[if_neg (by omega)]
     rw[hput]at d'
     obtain⟨r1,r2,S',r3,r4⟩:=nrmB_ok bs (c+1) a' d'
     exact⟨r1,(b.trans b').trans r2,S',(le_nl_box r c g1 y1).trans r3,r4⟩
    ·exact nrmB_ok bs _ hX hS
   ·exact nrmB_ok bs _ hX hS
  ·exact nrmB_ok bs _ hX hS
theorem nrm_ok:∀(its:List It){X:XSt}{S:St},XOk X->SimX X S->NrOk X (nrm its X) S
 | [],X,S,hX,hS=>⟨hX,Ext.refl X,S,Le.refl S,hS⟩
 | .kt _::l,X,S,hX,hS=>nrm_ok l hX hS
 | .lt _ _::l,X,S,hX,hS=>nrm_ok l hX hS
 | .sr _ _::l,X,S,hX,hS=>nrm_ok l hX hS
 | .bx t cs::l,X,S,hX,hS=>by
  simp only[nrm]
  split
  ·rename_i r es hb
   obtain⟨a,b,S1,c,d⟩:=nrmB_ok cs 0 hX hS
   obtain⟨a',b',S2,c',d'⟩:=nrm_ok l a d
   exact⟨a',b.trans b',S2,c.trans c',d'⟩
  ·exact nrm_ok l hX hS
 | .ot t ty::l,X,S,hX,hS=>by
  simp only[nrm]
  split
  ·rename_i n ht
   split
   ·rename_i hn
    have hn:=Nat.eq_of_beq_eq_true hn
    subst hn
    obtain⟨E,R,nx,f⟩:=S
    have hnx:nx=X.next:=hS.next
    subst hnx
    obtain⟨s,hl⟩:=tmp_lk ht (by simp)
    rcases hS.env t s _ hl with h|⟨y,y1,y2⟩
    ·simp at h
    ·have y3:=y2.c (by simp [cC])
     subst y3
     obtain⟨a,b,d⟩:=newR_ok (x:=.tr ty []) (y:=.tr ty.n []) hX hS (fun cs h=>by simp at h) ⟨_,rfl,rfl,rfl⟩
     obtain⟨a',b'⟩:=put_ok a (d:=some t) (v:=.a (.c (.rw X.next))) (Nat.lt_succ_self X.next)
     have d':=sim_put d (d:=some t) (v:=.a (.c (.rf X.next [] ty.n 0 0))) (xv:=.a (.c (.rw X.next))) (rw_wk (newR_lk _ _) rfl)
     obtain⟨r1,r2,S',r3,r4⟩:=nrm_ok l a' d'
     exact⟨r1,(b.trans b').trans r2,S',(le_nl_env t y1).trans r3,r4⟩
   ·exact nrm_ok l hX hS
  ·exact nrm_ok l hX hS
def packN {β:Type}(X X':XSt) (its:List It) (k:Tp (It.tys its)->Option β):Option β:=packX X (nrm its X') its k
theorem packN_ok {β:Type}{out:β}{X X':XSt}{S':St}{its:List It}{k:Tp (It.tys its)->Option β}(hX:XOk X) (hX':XOk X') (hE:Ext X X') (hS:SimX X' S') (h:packN X X' its k=some out) :
  ∃s,k s=some out/\Le S' (concS (unpackX X its s)):=by
 obtain⟨a,b,S2,c,d⟩:=nrm_ok its hX' hS
 obtain⟨s,h1,h2⟩:=pack_ok hX a (hE.trans b) d h
 exact⟨s,h1,c.trans h2⟩
def iterX {σ ρ:Type}(step:σ->Option (σ ⊕ ρ)):Nat->σ->Option ρ
 | 0,_=>none
 | n+1,s=>match step s with
  | some (.inl s')=>iterX step n s'
  | some (.inr r)=>some r
  | none=>none
open Classical in
noncomputable def loopX {σ ρ:Type}(step:σ->Option (σ ⊕ ρ)) (s:σ):Option ρ:=if h:∃r n,iterX step n s=some r then some (Classical.choose h) else none
theorem loopX_some {σ ρ:Type}{step:σ->Option (σ ⊕ ρ)}{s:σ}{r:ρ}(h:loopX step s=some r):∃n,iterX step n s=some r:=by
 unfold loopX at h
 split at h
 ·rename_i hx
  simp only[Option.some.injEq]at h
  subst h
  exact Classical.choose_spec hx
 ·simp at h
theorem iterX_more {σ ρ:Type}{step:σ->Option (σ ⊕ ρ)}{r:ρ}:∀{n:Nat}{s:σ},iterX step n s=some r->∀m,n<=m->iterX step m s=some r
 | 0,s,h,m,_=>by simp [iterX]at h
 | n+1,s,h,m,hm=>by
  obtain⟨m,rfl⟩:∃k,m=k+1:=⟨m-1,by omega⟩
  simp only[iterX]at h ⊢
  split at h
  ·exact iterX_more h m (by omega)
  ·exact h
  ·simp at h
theorem loopX_of {σ ρ:Type}{step:σ->Option (σ ⊕ ρ)}{s:σ}{r:ρ}{n:Nat}(h:iterX step n s=some r):loopX step s=some r:=by
 unfold loopX
 have hx:∃r n,iterX step n s=some r:=⟨r,n,h⟩
 rw[dif_pos hx]
 obtain⟨m,hm⟩:=Classical.choose_spec hx
 have h1:=iterX_more h (max n m) (Nat.le_max_left _ _)
 have h2:=iterX_more hm (max n m) (Nat.le_max_right _ _)
 rw[h1]at h2
 rw[<-h2]
theorem loopX_eq {σ ρ:Type}(step:σ->Option (σ ⊕ ρ)) (s:σ):loopX step s=match step s with
  | some (.inl s')=>loopX step s'
  | some (.inr r)=>some r
  | none=>none:=by
 have key:∀r,loopX step s=some r ↔ (match step s with
  | some (.inl s')=>loopX step s'
  | some (.inr r)=>some r
  | none=>none)=some r:=by
  intro r
  constructor
  ·intro h
   obtain⟨n,hn⟩:=loopX_some h
   cases n with
   | zero=>simp [iterX]at hn
   | succ n =>
    simp only[iterX]at hn
    split at hn
    ·exact loopX_of hn
    ·exact hn
    ·simp at hn
  ·intro h
   split at h
   ·rename_i s' hs
    obtain⟨n,hn⟩:=loopX_some h
    exact loopX_of (n:=n+1) (by simp only[iterX,hs];exact hn)
   ·rename_i r' hs
    exact loopX_of (n:=1) (by simp only[iterX,hs];exact h)
   ·simp at h
 cases h:loopX step s with
 | some r=>exact ((key r).1 h).symm
 | none =>
  cases h2:(match step s with
   | some (.inl s')=>loopX step s'
   | some (.inr r)=>some r
   | none=>none) with
  | none=>rfl
  | some r=>rw[(key r).2 h2]at h;simp at h
def joinX {σ ρ:Type}(o:Option (σ ⊕ ρ)) (f:σ->Option ρ):Option ρ:=match o with
 | some (.inl s)=>f s
 | some (.inr r)=>some r
 | none=>none
def outX {σ ρ:Type}(o:Option ρ):Option (σ ⊕ ρ):=match o with
 | some r=>some (.inr r)
 | none=>none
theorem outX_some {σ ρ:Type}{o:Option ρ}{z:σ ⊕ ρ}(h:outX o=some z):∃r,z=.inr r/\o=some r:=by
 cases o with
 | none=>simp [outX]at h
 | some r=>simp only[outX,Option.some.injEq]at h;exact⟨r,h.symm,rfl⟩
end Go.Vs
namespace Go.Vs
variable [Glb]
structure GArg where
 ptr:Bool
 ag:Bool
 t:Ty
 ms:List M
 o:Option Ty
def optT:Option Ty->List Ty
 | none=>[]
 | some t=>[t]
def cts:Ty->List Ty
 | .P a b=>appT (cts a) (cts b)
 | t=>[t]
def isLT:Ty->Bool
 | .L _=>true
 | _=>false
def ioTy1:List M->List Ty->List Ty
 | m::ms,t::ts=>match m,isLT t with
  | .io,true=>t::ioTy1 ms ts
  | _,_=>ioTy1 ms ts
 | _,_=>[]
def ioTys:List GArg->List Ty
 | []=>[]
 | a::as=>appT (ioTy1 a.ms (cts a.t)) (ioTys as)
def bxTys:List GArg->List Ty
 | []=>[]
 | a::as=>match a.ptr with
  | true=>appT (optT a.o) (bxTys as)
  | false=>bxTys as
def argTys:List GArg->List Ty
 | []=>[]
 | a::as=>a.t::argTys as
def resTys:List (Bool×Ty)->List Ty
 | []=>[]
 | r::rs=>r.2::resTys rs
def outTys (as:List GArg) (rs:List (Bool×Ty)):List Ty:=appT (resTys rs) (appT (ioTys as) (bxTys as))
def lenL {α:Type}:List α->Nat
 | []=>0
 | _::l=>Nat.succ (lenL l)
def encS (v:Sg):List D:=encT v.1 v.2
def mkG (a:GArg) (x:a.t.den):Arg:=match a.ptr with
 | true=>.ptr (a.ms.zip (encT a.t x))
 | false=>.val a.ag (a.ms.zip (encT a.t x))
def argsG:(as:List GArg)->Tp (argTys as)->List Arg
 | [],_=>[]
 | a::as,x=>mkG a (Tp.hd a.t _ x)::argsG as (Tp.tl a.t _ x)
def resG:List (Bool×Ty)->List Sg->List (Bool×List D)
 | (ag,_)::rs,v::vs=>(ag,encS v)::resG rs vs
 | _,_=>[]
def ioG:Sg->Nat×List (List D)
 | ⟨.L t,xs⟩=>(t.n,xs.map (encT t))
 | _=>(0,[])
def bxG:List GArg->List Sg->List (List D)
 | [],_=>[]
 | a::as,vs=>match a.ptr with
  | true=>match a.o,vs with
   | none,vs=>[]::bxG as vs
   | some _,v::vs=>encS v::bxG as vs
   | some _,[]=>[]
  | false=>bxG as vs
def outG (as:List GArg) (rs:List (Bool×Ty)) (vs:List Sg):Out :=
 ⟨resG rs (vs.take (lenL rs)),((vs.drop (lenL rs)).take (lenL (ioTys as))).map ioG,bxG as ((vs.drop (lenL rs)).drop (lenL (ioTys as)))⟩
structure GEnt (P:Program) where
 f:FuncId
 args:List GArg
 res:List (Bool×Ty)
 F:Tp (argTys args)->Option (Tp (outTys args res))
 ok:∀x y,F x=some y->Runs P f (argsG args x) (outG args res (spread _ y))
structure GC where
 a:GArg
 cs:List XC
 at?:Option (Nat×Nat)
def gather1 (X:XSt) (a:GArg) (v:XV):Option GC:=match a.ptr,a.ag,v with
 | false,false,.a (.c c)=>some ⟨a,[c],none⟩
 | false,true,.a (.ag cs)=>some ⟨a,cs,none⟩
 | true,_,.a (.c (.pb r c))=>match lk X.roots r with
  | some (_,.bx es)=>match Nat.ble (c+lenL a.ms) es.length with
   | true=>some ⟨a,((es.drop c).take (lenL a.ms)).map (·.2),some (r,c)⟩
   | false=>none
  | _=>none
 | _,_,_=>none
def gather (X:XSt):List GArg->List XV->Option (List GC)
 | [],[]=>some []
 | a::as,v::vs=>match gather1 X a v,gather X as vs with
  | some g,some gs=>match Nat.beq (lenL g.cs) a.t.n&&Nat.beq (lenL a.ms) a.t.n with
   | true=>some (g::gs)
   | false=>none
  | _,_=>none
 | _,_=>none
def zipG:List GC->List (M×XC)
 | []=>[]
 | g::gs=>g.a.ms.zip g.cs++zipG gs
def owZ:List (M×XC)->List XC
 | []=>[]
 | (m,c)::l=>match m with
  | .ow=>c::owZ l
  | _=>owZ l
def ioZ (R:XRs):List (M×XC)->Option (List Nat)
 | []=>some []
 | (m,c)::l=>match m with
  | .io=>match c with
   | .rw r=>match lk R r,ioZ R l with
    | some (_,.tr _ _),some ids=>some (r::ids)
    | _,_=>none
   | .rf r _ [(_,_)] 0 _ _=>match lk R r,ioZ R l with
    | some (_,.tr _ _),some ids=>some (r::ids)
    | _,_=>none
   | .nl _=>ioZ R l
   | c=>match isLeafX c with
    | true=>ioZ R l
    | false=>none
  | _=>ioZ R l
def rdZ:List (M×XC)->List Nat
 | []=>[]
 | (m,c)::l=>match m with
  | .rd=>refC c++rdZ l
  | .rx=>refC c++rdZ l
  | _=>rdZ l
def bxZ:List GC->List Nat
 | []=>[]
 | g::gs=>match g.at? with
  | some (r,_)=>r::bxZ gs
  | none=>bxZ gs
def readG {β:Type}(R:XRs):(as:List GArg)->List GC->(Tp (argTys as)->Option β)->Option β
 | [],_,k=>k ()
 | a::as,gs,k=>match gs with
  | g::gs=>readT R a.t g.cs fun x rest=>match rest with
   | []=>readG R as gs fun xs=>k (Tp.mk a.t _ x xs)
   | _=>none
  | []=>none
def nEq (a b:Nat):Bool:=decide (a=b)
def getCX {β:Type}:(T:Ty)->Nat->(t:Ty)->T.den->(List t.den->Option β)->Option β
 | .L t0,c,t,e,f=>match c with
  | 0=>castL t0 t e f
  | _=>none
 | .P a b,c,t,e,f=>match Nat.blt c a.n with
  | true=>getCX a c t e.1 f
  | false=>getCX b (c-a.n) t e.2 f
 | _,_,_,_,_=>none
def setCX {β:Type}:(T:Ty)->Nat->(t:Ty)->List t.den->T.den->(T.den->Option β)->Option β
 | .L t0,c,t,ws,e,f=>match c with
  | 0=>castL t t0 ws f
  | _=>none
 | .P a b,c,t,ws,e,f=>match Nat.blt c a.n with
  | true=>setCX a c t ws e.1 fun x=>f (x,e.2)
  | false=>setCX b (c-a.n) t ws e.2 fun x=>f (e.1,x)
 | _,_,_,_,_,_=>none
def wholeX {β:Type}(R:XRs):List (M×XC)->Option β->Option β
 | [],k=>k
 | (m,c)::l,k=>match m with
  | .io=>match c with
   | .rf r v [(i,j)] 0 t ws=>match lk R r with
    | some (v',.tr T xs)=>match Nat.beq v' v with
     | true=>bnd (idx xs (Int.ofNat i)) fun e=>getCX T j t e fun o=>chk (nEq o.length ws.length) (wholeX R l k)
     | false=>none
    | _=>none
   | _=>wholeX R l k
  | _=>wholeX R l k
def ioX {β:Type}:List (M×XC)->List Sg->XSt->(XSt->Option β)->Option β
 | [],[],X,k=>k X
 | (m,c)::l,vs,X,k=>match m with
  | .io=>match c with
   | .rw r=>match vs with
    | ⟨.L t',xs'⟩::vs=>match lk X.roots r with
     | some (_,.tr t xs)=>castL t' t xs' fun xs'=>chk (nEq xs'.length xs.length) (ioX l vs (X.setR r (.tr t xs')) k)
     | _=>none
    | _=>none
   | .rf r _ [(i,j)] 0 t ws=>match vs with
    | ⟨.L t',xs'⟩::vs=>match lk X.roots r with
     | some (_,.tr T xs)=>castL t' t xs' fun xs'=>chk (nEq xs'.length ws.length) (bnd (idx xs (Int.ofNat i)) fun e=>setCX T j t xs' e fun e'=>ioX l vs (X.setR r (.tr T (lSet xs i e'))) k)
     | _=>none
    | _=>none
   | .nl _=>match vs with
    | _::vs=>ioX l vs X k
    | []=>none
   | _=>ioX l vs X k
  | _=>ioX l vs X k
 | [],_::_,_,_=>none
def mixX (s:Nat):List M->List Ty->List (Nat×XC)->List XC->List (Nat×XC)
 | m::ms,t::ts,e::es,ys=>match m,isLT t with
  | .rx,true=>e::mixX s ms ts es ys
  | _,_=>match ys with
   | y::ys=>(s,y)::mixX s ms ts es ys
   | []=>e::mixX s ms ts es []
 | _,_,_,_=>[]
def optN:Option Ty->Nat
 | none=>0
 | some t=>t.n
def bxX:List GC->List XC->XSt->Option XSt
 | [],_,X=>some X
 | g::gs,ys,X=>match g.at? with
  | some (r,c)=>match lk X.roots r with
   | some (_,.bx es)=>match Nat.ble (c+lenL g.a.ms) es.length with
    | true=>bxX gs (ys.drop (optN g.a.o)) (X.setR r (.bx (es.take c++(mixX X.stamp g.a.ms (cts g.a.t) ((es.drop c).take (lenL g.a.ms)) (ys.take (optN g.a.o))++es.drop (c+lenL g.a.ms)))))
    | false=>none
   | _=>none
  | none=>bxX gs ys X
def tcellsS:List Sg->List XD
 | []=>[]
 | v::vs=>tcells v.1 v.2++tcellsS vs
def callGF {β:Type}(X:XSt) (as:List GArg) (rs:List (Bool×Ty)) (F:Tp (argTys as)->Option (Tp (outTys as rs))) (vs:List XV) (k:XV->XSt->Option β):Option β:=match gather X as vs with
 | some gs=>match ownIds X.roots (owZ (zipG gs)),ioZ X.roots (zipG gs) with
  | some ow,some io=>match nodupN ow&&(nodupN (io++bxZ gs)&&(disjN ow io&&disjN (ow++(io++bxZ gs)) (rdZ (zipG gs)))) with
   | true=>wholeX X.roots (zipG gs) <| readG X.roots as gs fun x=>bnd (F x) fun y =>
    ioX (zipG gs) (((spread _ y).drop (lenL rs)).take (lenL (ioTys as))) (X.delRs ow) fun X2 =>
     match bxX gs ((newXs (tcellsS ((spread _ y).take (lenL rs)++((spread _ y).drop (lenL rs)).drop (lenL (ioTys as)))) X2).1.drop (lenL (tcellsS ((spread _ y).take (lenL rs))))) (newXs (tcellsS ((spread _ y).take (lenL rs)++((spread _ y).drop (lenL rs)).drop (lenL (ioTys as)))) X2).2 with
     | some X4=>k (resX (resAs rs (newXs (tcellsS ((spread _ y).take (lenL rs)++((spread _ y).drop (lenL rs)).drop (lenL (ioTys as)))) X2).1)) X4
     | none=>none
   | false=>none
  | _,_=>none
 | none=>none
def callG {P:Program}{β:Type}(X:XSt) (e:GEnt P) (vs:List XV) (k:XV->XSt->Option β):Option β:=callGF X e.args e.res e.F vs k
end Go.Vs
namespace Go.Vs
variable [Glb]
theorem lenL_eq {α:Type}:∀l:List α,lenL l=l.length
 | []=>rfl
 | _::l=>by simp only[lenL,List.length_cons,lenL_eq l]
theorem appT_eq:∀(a b:List Ty),appT a b=a++b
 | [],b=>rfl
 | t::a,b=>by simp only[appT,List.cons_append,appT_eq a b]
theorem cts_len:∀t:Ty,(cts t).length=t.n
 | .I _=>rfl
 | .Y=>rfl
 | .B=>rfl
 | .S=>rfl
 | .L _=>rfl
 | .P a b=>by simp only[cts,appT_eq,List.length_append,cts_len a,cts_len b,Ty.n]
theorem spread_tys:∀(ts:List Ty) (y:Tp ts),(spread ts y).map (·.1)=ts
 | [],_=>rfl
 | t::ts,y=>by simp only[spread,List.map_cons,spread_tys ts]
def zip3:List M->List XC->List D->List (M×XC×D)
 | m::ms,c::cs,d::ds=>(m,c,d)::zip3 ms cs ds
 | _,_,_=>[]
def toV (R:XRs) (w:M×XC×D):M×C×D:=(w.1,cC R w.2.1,w.2.2)
def allW:(as:List GArg)->List GC->Tp (argTys as)->List (M×XC×D)
 | [],_,_=>[]
 | a::as,g::gs,x=>zip3 a.ms g.cs (encT a.t (Tp.hd a.t _ x))++allW as gs (Tp.tl a.t _ x)
 | _,[],_=>[]
section
variable {β:Type} {X:XSt} {S:St} {out:β} {P:Program}
theorem zipA_3 {R:XRs}:∀(ms:List M) (cs:List XC) (ds:List D),ms.length=cs.length->cs.length=ds.length->zipA (cs.map (cC R)) (ms.zip ds)=some ((zip3 ms cs ds).map (toV R))
 | [],[],[],_,_=>rfl
 | m::ms,c::cs,d::ds,h1,h2=>by
  simp only[List.length_cons,Nat.add_right_cancel_iff]at h1 h2
  simp only[List.map_cons,List.zip_cons_cons,zipA,zipA_3 ms cs ds h1 h2,Option.map_some,zip3]
  rfl
 | [],_::_,_,h,_=>by simp at h
 | _::_,[],_,h,_=>by simp at h
 | [],[],_::_,_,h=>by simp at h
 | _::_,_::_,[],_,h=>by simp at h
theorem zip3_cd {R:XRs}:∀{ms:List M}{cs:List XC}{ds:List D},All2 (CD R) cs ds->∀w∈zip3 ms cs ds,CD R w.2.1 w.2.2
 | [],_,_,_,w,hw=>by simp [zip3]at hw
 | m::ms,[],_,_,w,hw=>by simp [zip3]at hw
 | m::ms,c::cs,[],h,w,hw=>h.elim
 | m::ms,c::cs,d::ds,h,w,hw=>by
  simp only[zip3,List.mem_cons]at hw
  rcases hw with rfl|hw
  ·exact h.1
  ·exact zip3_cd h.2 w hw
theorem zip3_zip:∀{ms:List M}{cs:List XC}{ds:List D},cs.length=ds.length->(zip3 ms cs ds).map (fun w=>(w.1,w.2.1))=ms.zip cs
 | [],_,_,_=>by simp [zip3]
 | m::ms,[],[],_=>by simp [zip3]
 | m::ms,c::cs,d::ds,h=>by
  simp only[List.length_cons,Nat.add_right_cancel_iff]at h
  simp only[zip3,List.map_cons,List.zip_cons_cons,zip3_zip h]
 | m::ms,c::cs,[],h=>by simp at h
 | m::ms,[],_::_,h=>by simp at h
theorem gather1_ok (hX:XOk X) (hS:SimX X S){a:GArg}{v:XV}{y:V}{g:GC}{x:a.t.den}(hw:WkV y (cV X.roots v)) (ho:okV X.roots X.next X.stamp v) (h:gather1 X a v=some g) (hl:g.cs.length=a.t.n) (hm:a.ms.length=a.t.n) (hcd:All2 (CD X.roots) g.cs (encT a.t x)) :
  flatA S.roots y (mkG a x)=some ((zip3 a.ms g.cs (encT a.t x)).map (toV X.roots)):=by
 have hen:=encT_len a.t x
 have hz:=zipA_3 (R:=X.roots) a.ms g.cs (encT a.t x) (by omega) (by omega)
 have hlen:(a.ms.zip (encT a.t x)).length=a.ms.length:=by rw[List.length_zip];omega
 unfold gather1 at h
 split at h
 ·rename_i c hp hag
  simp only[Option.some.injEq]at h;subst h
  simp only at hcd hz hl
  match hd:encT a.t x,hcd with
  | [d],hcd =>
   rw[hd]at hz
   rw[hw.c hcd.1.ne]
   simp only[mkG,hp,hag,flatA,hd]
   exact hz
 ·rename_i cs hp hag
  simp only[Option.some.injEq]at h;subst h
  simp only at hcd hz hl
  cases y with
  | a z=>cases z with
   | ag ys =>
    have:=cd_known hcd hw
    subst this
    simp only[mkG,hp,hag,flatA]
    exact hz
   | c _=>exact hw.elim
  | _=>exact hw.elim
 ·rename_i r c hp
  split at h
  ·rename_i s es hle
   split at h
   ·rename_i hb
    simp only[Option.some.injEq]at h;subst h
    simp only at hcd hz hl
    have hb:=Nat.le_of_ble_eq_true hb
    rw[lenL_eq]at hb hcd hz hl
    simp only[cV,cA,cC,hle]at hw
    have hy:=hw.c (by simp)
    subst hy
    obtain⟨bs,g1,g2⟩:=box_sim hS hle
    have hbl:=g2.length
    rw[List.length_map]at hbl
    have g3:All2 WkC ((bs.drop c).take a.ms.length) ((((es.drop c).take a.ms.length).map (·.2)).map (cC X.roots)):=by
     have:=wk_take (n:=a.ms.length) (wk_drop (n:=c) g2)
     rw[List.map_map,List.map_take,List.map_drop]
     exact this
    have g4:=cd_known hcd g3
    simp only[mkG,hp,flatA,g1,hlen]
    rw[if_pos (by omega),g4,lenL_eq]
    exact hz
   ·simp at h
  ·simp at h
 ·simp at h
theorem gather_ok (hX:XOk X) (hS:SimX X S):∀(as:List GArg) (vs:List XV) (ys:List V) (gs:List GC) (k:Tp (argTys as)->Option β),All2 (fun y v=>WkV y (cV X.roots v)/\okV X.roots X.next X.stamp v) ys vs->gather X as vs=some gs->readG X.roots as gs k=some out ->
  ∃x,k x=some out/\flatAs S.roots ys (argsG as x)=some ((allW as gs x).map (toV X.roots))/\(∀w∈allW as gs x,CD X.roots w.2.1 w.2.2/\okC X.roots X.next X.stamp w.2.1)/\(allW as gs x).map (fun w=>(w.1,w.2.1))=zipG gs/\(handBx ys (argsG as x)).map (·.1)=bxZ gs
 | [],[],[],gs,k,_,hg,h=>by
  simp only[gather,Option.some.injEq]at hg;subst hg
  exact⟨(),h,rfl,by simp [allW],rfl,rfl⟩
 | a::as,v::vs,y::ys,gs,k,hw,hg,h=>by
  simp only[gather]at hg
  split at hg
  ·rename_i g gs' h1 h2
   split at hg
   ·rename_i hb
    simp only[Option.some.injEq]at hg;subst hg
    simp only[Bool.and_eq_true,lenL_eq]at hb
    have hb1:=Nat.eq_of_beq_eq_true hb.1
    have hb2:=Nat.eq_of_beq_eq_true hb.2
    simp only[readG]at h
    have hok:∀c∈g.cs,okC X.roots X.next X.stamp c:=by
     have h1':=h1
     unfold gather1 at h1'
     have ho:=hw.1.2
     split at h1'
     ·simp only[Option.some.injEq]at h1';subst h1';intro c hc;simp only[List.mem_singleton]at hc;subst hc;exact ho
     ·simp only[Option.some.injEq]at h1';subst h1';exact ho
     ·split at h1'
      ·rename_i s es hle
       split at h1'
       ·simp only[Option.some.injEq]at h1';subst h1'
        intro c hc
        obtain⟨e,he,rfl⟩:=List.mem_map.1 hc
        exact (hX.box _ s es hle e (List.mem_of_mem_drop (List.mem_of_mem_take he))).2
       ·simp at h1'
      ·simp at h1'
     ·simp at h1'
    obtain⟨x,c0,rest,hc,h,hcd⟩:=readT_ok a.t g.cs _ out hok h
    split at h
    ·rw[List.append_nil]at hc
     subst hc
     obtain⟨xs,h,f1,f2,f3,f4⟩:=gather_ok hX hS as vs ys gs' _ hw.2 h2 h
     have g1:=gather1_ok (x:=x) hX hS hw.1.1 hw.1.2 h1 hb1 hb2 hcd
     refine⟨_,h, ?_, ?_, ?_, ?_⟩
     ·simp only[argsG,Tp.hd_mk,Tp.tl_mk,flatAs,g1,f1,allW,List.map_append]
     ·intro w hw'
      simp only[allW,Tp.hd_mk,Tp.tl_mk,List.mem_append]at hw'
      rcases hw' with hw'|hw'
      ·refine⟨zip3_cd hcd w hw', ?_⟩
       have key:∀(ms:List M) (cs:List XC) (ds:List D),w∈zip3 ms cs ds->w.2.1∈cs:=by
        intro ms
        induction ms with
        | nil=>intro cs ds h;simp [zip3]at h
        | cons m ms ih =>
         intro cs ds h
         cases cs with
         | nil=>simp [zip3]at h
         | cons c cs=>cases ds with
          | nil=>simp [zip3]at h
          | cons d ds =>
           simp only[zip3,List.mem_cons]at h
           rcases h with rfl|h
           ·exact List.mem_cons_self
           ·exact List.mem_cons_of_mem _ (ih cs ds h)
       exact hok _ (key _ _ _ hw')
      ·exact f2 w hw'
     ·simp only[allW,Tp.hd_mk,Tp.tl_mk,List.map_append,zipG,f3]
      have hga:g.a=a:=by
       unfold gather1 at h1
       split at h1
       ·simp only[Option.some.injEq]at h1;subst h1;rfl
       ·simp only[Option.some.injEq]at h1;subst h1;rfl
       ·split at h1
        ·split at h1
         ·simp only[Option.some.injEq]at h1;subst h1;rfl
         ·simp at h1
        ·simp at h1
       ·simp at h1
      rw[zip3_zip (by rw[encT_len];exact hb1),hga]
     ·-- variables that are handed
      simp only[argsG,Tp.hd_mk,Tp.tl_mk]
      have h1':=h1
      unfold gather1 at h1'
      split at h1'
      ·rename_i c hp hag
       simp only[Option.some.injEq]at h1';subst h1'
       simp only[mkG,hp,bxZ,handBx,f4]
      ·rename_i cs hp hag
       simp only[Option.some.injEq]at h1';subst h1'
       simp only[mkG,hp,bxZ,handBx,f4]
      ·rename_i r c hp
       split at h1'
       ·rename_i s es hle
        split at h1'
        ·simp only[Option.some.injEq]at h1';subst h1'
         have hy:y=.a (.c (.pb r c)):=by
          have:=hw.1.1
          simp only[cV,cA,cC,hle]at this
          exact this.c (by simp)
         subst hy
         simp only[mkG,hp,bxZ,handBx,List.map_cons,f4]
        ·simp at h1'
       ·simp at h1'
      ·simp at h1'
    ·simp at h
   ·simp at hg
  ·simp at hg
 | [],_::_,_,_,_,_,hg,_=>by simp [gather]at hg
 | _::_,[],_,_,_,_,hg,_=>by simp [gather]at hg
 | [],[],_::_,_,_,hw,_,_=>hw.elim
 | _::_,_::_,[],_,_,hw,_,_=>hw.elim
theorem owZ_fl {R:XRs}:∀(W:List (M×XC×D)),(∀w∈W,CD R w.2.1 w.2.2)->(((W.map (toV R)).filter isOw).map (·.2.1))=(owZ (W.map fun w=>(w.1,w.2.1))).map (cC R)/\All2 (CD R) (owZ (W.map fun w=>(w.1,w.2.1))) (((W.map (toV R)).filter isOw).map (·.2.2))
 | [],_=>⟨rfl,trivial⟩
 | (m,c,d)::W,h=>by
  obtain⟨a,b⟩:=owZ_fl W fun w hw=>h w (List.mem_cons_of_mem _ hw)
  have hc:=h _ List.mem_cons_self
  cases m with
  | ow =>
   have e:isOw (toV R (M.ow,c,d))=true:=rfl
   simp only[List.map_cons,List.filter_cons,e,if_true,owZ]
   exact⟨by rw[a];rfl,⟨hc,b⟩⟩
  | rd =>
   have e:isOw (toV R (M.rd,c,d))=false:=rfl
   simp only[List.map_cons,List.filter_cons,e,owZ]
   exact⟨a,b⟩
  | rx =>
   have e:isOw (toV R (M.rx,c,d))=false:=rfl
   simp only[List.map_cons,List.filter_cons,e,owZ]
   exact⟨a,b⟩
  | io =>
   have e:isOw (toV R (M.io,c,d))=false:=rfl
   simp only[List.map_cons,List.filter_cons,e,owZ]
   exact⟨a,b⟩
theorem cd_rw {R:XRs}{r s:Nat}{t:Ty}{xs:List t.den}{d:D}(hl:lk R r=some (s,.tr t xs)) (h:CD R (.rw r) d):d=.sl t.n (xs.map (encT t)):=by
 refine cd_fun h (.inr (.inr ⟨t,xs,r,[],0,xs.map (encT t),by simp [cC,hl], ?_,by simp, ?_,rfl,.inl rfl⟩))
 ·simp only[nodeX,hl];rfl
 ·rw[List.drop_zero,List.take_of_length_le (by simp)]
theorem leaf_cd {R:XRs}{c:XC}{d:D}(hl:isLeafX c=true) (h:CD R c d):∃v,cC R c=.lf v/\d=.lf v:=by
 rcases h with h|⟨n,rfl,_⟩|⟨t,ws,r,p,lo,l,h1,_⟩
 ·exact h
 ·simp [isLeafX]at hl
 ·exfalso
  cases c<;>simp [isLeafX]at hl<;>simp [cC]at h1
theorem rf_cd {R:XRs}{r v lo:Nat}{p:Path}{t:Ty}{ws:List t.den}{d:D}(h:CD R (.rf r v p lo t ws) d):cC R (.rf r v p lo t ws)=.rf r p t.n lo ws.length/\∃(t':Ty) (ws':List t'.den),d=.sl t'.n (ws'.map (encT t')):=by
 rcases h with ⟨v',h,_⟩|⟨n,h,_⟩|⟨t',ws',r',p',lo',l,h,_,_,_,hd,_⟩
 ·simp only[cC]at h;split at h<;>simp at h
 ·simp at h
 ·refine⟨?_,t',ws',hd⟩
  simp only[cC]at h ⊢
  split at h
  ·rfl
  ·simp at h
theorem getCX_ok {β:Type}{out:β}:∀(T:Ty) (c:Nat) (t:Ty) (e:T.den) (f:List t.den->Option β),getCX T c t e f=some out->∃o,f o=some out/\(encT T e)[c]? = some (.sl t.n (o.map (encT t)))
 | .L t0,c,t,e,f,h=>by
  unfold getCX at h
  cases c with
  | zero =>
   obtain⟨o,h1,rfl,h3,_⟩:=cast_some h
   exact⟨o,h1,by simp only[encT,List.getElem?_cons_zero,h3]⟩
  | succ c=>simp at h
 | .P a b,c,t,e,f,h=>by
  unfold getCX at h
  split at h
  ·rename_i hb
   obtain⟨o,h1,h2⟩:=getCX_ok a c t e.1 f h
   refine⟨o,h1, ?_⟩
   have hb:c<a.n:=Nat.le_of_ble_eq_true hb
   simp only[encT]
   rw[List.getElem?_append_left (by rw[encT_len];exact hb)];exact h2
  ·rename_i hb
   obtain⟨o,h1,h2⟩:=getCX_ok b (c-a.n) t e.2 f h
   refine⟨o,h1, ?_⟩
   have hb:a.n<=c:=by
    exact Nat.le_of_lt_succ (Nat.lt_of_not_le (Nat.not_le_of_not_ble_eq_true (by rw[show (c+1).ble a.n=false from hb];simp)))
   simp only[encT]
   rw[List.getElem?_append_right (by rw[encT_len];exact hb),encT_len];exact h2
 | .I _,c,t,e,f,h=>by simp [getCX]at h
 | .Y,c,t,e,f,h=>by simp [getCX]at h
 | .B,c,t,e,f,h=>by simp [getCX]at h
 | .S,c,t,e,f,h=>by simp [getCX]at h
theorem setCX_ok {β:Type}{out:β}:∀(T:Ty) (c:Nat) (t:Ty) (ws:List t.den) (e:T.den) (f:T.den->Option β),setCX T c t ws e f=some out->∃e' o,f e'=some out/\encT T e'=(encT T e).set c (.sl t.n (ws.map (encT t)))/\(encT T e)[c]? = some (.sl t.n o)
 | .L t0,c,t,ws,e,f,h=>by
  unfold setCX at h
  cases c with
  | zero =>
   obtain⟨o,h1,rfl,h3,_⟩:=cast_some h
   exact⟨o,e.map (encT t),h1,by simp only[encT,List.set_cons_zero,h3],rfl⟩
  | succ c=>simp at h
 | .P a b,c,t,ws,e,f,h=>by
  unfold setCX at h
  split at h
  ·rename_i hb
   obtain⟨e',o,h1,h2,h3⟩:=setCX_ok a c t ws e.1 _ h
   refine⟨(e',e.2),o,h1, ?_, ?_⟩
   ·have hb:c<a.n:=Nat.le_of_ble_eq_true hb
    simp only[encT]
    rw[List.set_append_left _ _ (by rw[encT_len];exact hb),h2]
   ·have hb:c<a.n:=Nat.le_of_ble_eq_true hb
    simp only[encT]
    rw[List.getElem?_append_left (by rw[encT_len];exact hb)];exact h3
  ·rename_i hb
   obtain⟨e',o,h1,h2,h3⟩:=setCX_ok b (c-a.n) t ws e.2 _ h
   have hb:a.n<=c:=by
    exact Nat.le_of_lt_succ (Nat.lt_of_not_le (Nat.not_le_of_not_ble_eq_true (by rw[show (c+1).ble a.n=false from hb];simp)))
   refine⟨(e.1,e'),o,h1, ?_, ?_⟩
   ·simp only[encT]
    rw[List.set_append_right _ _ (by rw[encT_len];exact hb),encT_len,h2]
   ·simp only[encT]
    rw[List.getElem?_append_right (by rw[encT_len];exact hb),encT_len];exact h3
 | .I _,c,t,ws,e,f,h=>by simp [setCX]at h
 | .Y,c,t,ws,e,f,h=>by simp [setCX]at h
 | .B,c,t,ws,e,f,h=>by simp [setCX]at h
 | .S,c,t,ws,e,f,h=>by simp [setCX]at h
theorem wholeX_ok {β:Type}{out:β}{R:XRs}:∀(Z:List (M×XC)){k:Option β},wholeX R Z k=some out->k=some out/\∀(r v i j:Nat) (t:Ty) (ws:List t.den),(M.io,XC.rf r v [(i,j)] 0 t ws)∈Z->∃(T:Ty) (xs:List T.den) (o:List t.den),lk R r=some (v,.tr T xs)/\nodeAt T.n (xs.map (encT T)) [(i,j)]=some (t.n,o.map (encT t))/\o.length=ws.length
 | [],k,h=>⟨h,by simp⟩
 | (m,c)::Z,k,h=>by
  have skip:wholeX R Z k=some out->(∀(r v i j:Nat) (t:Ty) (ws:List t.den),¬((m,c)=(M.io,XC.rf r v [(i,j)] 0 t ws)))->k=some out/\∀(r v i j:Nat) (t:Ty) (ws:List t.den),(M.io,XC.rf r v [(i,j)] 0 t ws)∈(m,c)::Z->∃(T:Ty) (xs:List T.den) (o:List t.den),lk R r=some (v,.tr T xs)/\nodeAt T.n (xs.map (encT T)) [(i,j)]=some (t.n,o.map (encT t))/\o.length=ws.length:=by
   intro h hne
   obtain⟨a,b⟩:=wholeX_ok Z h
   exact⟨a,fun r v i j t ws hm=>b r v i j t ws ((List.mem_cons.1 hm).resolve_left fun e=>hne r v i j t ws e.symm)⟩
  simp only[wholeX]at h
  cases m with
  | io =>
   simp only at h
   split at h
   ·rename_i r v i j t ws
    split at h
    ·rename_i v' T xs hl
     split at h
     ·rename_i hb
      have hb:=Nat.eq_of_beq_eq_true hb
      subst hb
      obtain⟨e,he,h⟩:=bnd_some h
      obtain⟨o,h,ho⟩:=getCX_ok T j t e _ h
      obtain⟨hn,h⟩:=chk_some h
      simp only[nEq,decide_eq_true_eq]at hn
      obtain⟨a,b⟩:=wholeX_ok Z h
      refine⟨a,fun r2 v2 i2 j2 t2 ws2 hm=>?_⟩
      rcases List.mem_cons.1 hm with e'|hm
      ·simp only[Prod.mk.injEq,XC.rf.injEq,true_and,List.cons.injEq,and_true]at e'
       obtain⟨rfl,rfl,⟨rfl,rfl⟩,rfl,e5⟩:=e'
       have e5:=eq_of_heq e5
       subst e5
       refine⟨T,xs,o,hl, ?_,hn⟩
       simp only[nodeAt,List.getElem?_map]
       have he':xs[i2]? = some e:=by simpa [idx] using he
       rw[he']
       simp only[Option.map_some,Option.bind_some,ho]
      ·exact b r2 v2 i2 j2 t2 ws2 hm
     ·simp at h
    ·simp at h
   ·rename_i hne
    exact skip h fun r v i j t ws e=>by
     simp only[Prod.mk.injEq,true_and]at e
     exact hne r v i j t ws e
  | rd=>exact skip h fun r v i j t ws e=>by simp at e
  | rx=>exact skip h fun r v i j t ws e=>by simp at e
  | ow=>exact skip h fun r v i j t ws e=>by simp at e
theorem ioZ_fl {R:XRs}:∀(W:List (M×XC×D)) (io:List Nat),(∀w∈W,CD R w.2.1 w.2.2)->ioZ R (W.map fun w=>(w.1,w.2.1))=some io->handIo (W.map (toV R))=io
 | [],io,_,h=>by simp only[List.map_nil,ioZ,Option.some.injEq]at h;subst h;rfl
 | (m,c,d)::W,io,hc,h=>by
  have ih:=fun io h=>ioZ_fl W io (fun w hw=>hc w (List.mem_cons_of_mem _ hw)) h
  have hcd:=hc _ List.mem_cons_self
  simp only at hcd
  simp only[List.map_cons,ioZ]at h
  cases m with
  | io =>
   simp only at h
   split at h
   ·rename_i r
    split at h
    ·rename_i s t xs ids hl hi
     simp only[Option.some.injEq]at h;subst h
     have hd:=cd_rw hl hcd
     subst hd
     simp only[List.map_cons,toV,cC,hl,handIo,ih ids hi]
    ·simp at h
   ·rename_i r v i j t ws
    split at h
    ·rename_i s T xs ids hl hi
     simp only[Option.some.injEq]at h;subst h
     obtain⟨e1,t1,ws1,rfl⟩:=rf_cd hcd
     simp only[List.map_cons,toV,e1,handIo,ih ids hi]
    ·simp at h
   ·rename_i n
    rcases hcd with ⟨v,h1,_⟩|⟨n',h1,rfl⟩|⟨t,ws,r,p,lo,l,h1,_⟩
    ·simp [cC]at h1
    ·simp only[List.map_cons,toV,cC,handIo];exact ih io h
    ·simp [cC]at h1
   ·split at h
    ·rename_i hlf
     obtain⟨v,h1,rfl⟩:=leaf_cd hlf hcd
     simp only[List.map_cons,toV,h1,handIo];exact ih io h
    ·simp at h
  | rd=>simp only[List.map_cons,toV,handIo];exact ih io h
  | rx=>simp only[List.map_cons,toV,handIo];exact ih io h
  | ow=>simp only[List.map_cons,toV,handIo];exact ih io h
theorem ref_root {R:XRs}{c:XC}{r:Nat}{p:Path}{s lo n:Nat}(h:cC R c=.rf r p s lo n):r∈refC c:=by
 cases c with
 | rw q=>simp only[cC]at h;split at h<;>simp at h<;>simp [refC,h.1]
 | rv q _ _=>simp only[cC]at h;split at h<;>simp at h<;>simp [refC,h.1]
 | rf q v p' lo' t ws=>simp only[cC]at h;split at h<;>simp at h;simp [refC,h.1]
 | pe _ _ _ _ _ _ _=>simp only[cC]at h;split at h<;>simp at h
 | pb _ _=>simp only[cC]at h;split at h<;>simp at h
 | _=>simp [cC]at h
theorem rdZ_mem:∀{Z:List (M×XC)}{m:M}{c:XC}{r:Nat},(m,c)∈Z->m=.rd\/m=.rx->r∈refC c->r∈rdZ Z
 | [],m,c,r,h,_,_=>by simp at h
 | (m',c')::Z,m,c,r,h,hm,hr=>by
  rcases List.mem_cons.1 h with e|h'
  ·simp only[Prod.mk.injEq]at e
   obtain⟨rfl,rfl⟩:=e
   rcases hm with rfl|rfl<;>(simp only[rdZ];exact List.mem_append_left _ hr)
  ·cases m' with
   | rd=>simp only[rdZ];exact List.mem_append_right _ (rdZ_mem h' hm hr)
   | rx=>simp only[rdZ];exact List.mem_append_right _ (rdZ_mem h' hm hr)
   | ow=>simp only[rdZ];exact rdZ_mem h' hm hr
   | io=>simp only[rdZ];exact rdZ_mem h' hm hr
theorem ioZ_mem {R:XRs}:∀{Z:List (M×XC)}{io:List Nat}{c:XC},ioZ R Z=some io->(M.io,c)∈Z->(∃r s t xs,c=.rw r/\lk R r=some (s,.tr t xs)/\r∈io)\/((∃n,c=.nl n)\/isLeafX c=true)\/∃r v i j t ws s T xs,c=.rf r v [(i,j)] 0 t ws/\lk R r=some (s,.tr T xs)/\r∈io
 | [],io,c,_,hc=>by simp at hc
 | (m,c')::Z,io,c,h,hc=>by
  simp only[ioZ]at h
  cases m with
  | io =>
   simp only at h
   split at h
   ·rename_i r
    split at h
    ·rename_i s t xs ids hl hi
     simp only[Option.some.injEq]at h;subst h
     rcases List.mem_cons.1 hc with e|hc
     ·simp only[Prod.mk.injEq,true_and]at e;subst e
      exact .inl ⟨r,s,t,xs,rfl,hl,List.mem_cons_self⟩
     ·rcases ioZ_mem hi hc with ⟨r',s',t',xs',a,b,d⟩|h|h
      ·exact .inl ⟨r',s',t',xs',a,b,List.mem_cons_of_mem _ d⟩
      ·exact .inr (.inl h)
      ·obtain⟨a1,a2,a3,a4,a5,a6,a7,a8,a9,b1,b2,b3⟩:=h
       exact .inr (.inr ⟨a1,a2,a3,a4,a5,a6,a7,a8,a9,b1,b2,List.mem_cons_of_mem _ b3⟩)
    ·simp at h
   ·rename_i r v i j t ws
    split at h
    ·rename_i s T xs ids hl hi
     simp only[Option.some.injEq]at h;subst h
     rcases List.mem_cons.1 hc with e|hc
     ·simp only[Prod.mk.injEq,true_and]at e;subst e
      exact .inr (.inr ⟨r,v,i,j,t,ws,s,T,xs,rfl,hl,List.mem_cons_self⟩)
     ·rcases ioZ_mem hi hc with ⟨r',s',t',xs',a,b,d⟩|h|h
      ·exact .inl ⟨r',s',t',xs',a,b,List.mem_cons_of_mem _ d⟩
      ·exact .inr (.inl h)
      ·obtain⟨a1,a2,a3,a4,a5,a6,a7,a8,a9,b1,b2,b3⟩:=h
       exact .inr (.inr ⟨a1,a2,a3,a4,a5,a6,a7,a8,a9,b1,b2,List.mem_cons_of_mem _ b3⟩)
    ·simp at h
   ·rename_i n
    rcases List.mem_cons.1 hc with e|hc
    ·simp only[Prod.mk.injEq,true_and]at e;subst e;exact .inr (.inl (.inl ⟨n,rfl⟩))
    ·exact ioZ_mem h hc
   ·split at h
    ·rename_i hlf
     rcases List.mem_cons.1 hc with e|hc
     ·simp only[Prod.mk.injEq,true_and]at e;subst e;exact .inr (.inl (.inr hlf))
     ·exact ioZ_mem h hc
    ·simp at h
  | rd=>exact ioZ_mem h ((List.mem_cons.1 hc).resolve_left (by simp))
  | rx=>exact ioZ_mem h ((List.mem_cons.1 hc).resolve_left (by simp))
  | ow=>exact ioZ_mem h ((List.mem_cons.1 hc).resolve_left (by simp))
theorem seen_ok (hS:SimX X S){W:List (M×XC×D)}{ow io hb:List Nat}{rt:List (Nat×Root)}(hW:∀w∈W,CD X.roots w.2.1 w.2.2) (hio:ioZ X.roots (W.map fun w=>(w.1,w.2.1))=some io) (hrt:∀r,get rt r=if r∈ow then none else get S.roots r) (hd1:∀r∈io,r ∉ ow) (hd2:∀r∈rdZ (W.map fun w=>(w.1,w.2.1)),r ∉ ow++(io++hb)) (hwh:∀(r v i j:Nat) (t:Ty) (ws:List t.den),(M.io,XC.rf r v [(i,j)] 0 t ws)∈W.map (fun w=>(w.1,w.2.1))->∃(T:Ty) (xs:List T.den) (o:List t.den),lk X.roots r=some (v,.tr T xs)/\nodeAt T.n (xs.map (encT T)) [(i,j)]=some (t.n,o.map (encT t))/\o.length=ws.length):∀x∈W.map (toV X.roots),seen rt (io++hb) x:=by
 intro x hx
 obtain⟨⟨m,c,d⟩,hw,rfl⟩:=List.mem_map.1 hx
 have hcd:=hW _ hw
 simp only at hcd
 have hz:(m,c)∈W.map fun w=>(w.1,w.2.1):=List.mem_map.2 ⟨_,hw,rfl⟩
 simp only[toV]
 have rdcase:(m=.rd\/m=.rx)->∀{t:Ty} {ws:List t.den} {r:Nat} {p:Path} {lo:Nat} {l:List (List D)},cC X.roots c=.rf r p t.n lo ws.length->nodeX X.roots r p=some (t.n,l)->lo+ws.length<=l.length->(l.drop lo).take ws.length=ws.map (encT t)->(lo=0\/0<ws.length) ->
   t.n=t.n/\(lo=0\/0<ws.length)/\r ∉ io++hb/\∃l,nodeIn rt r p=some (t.n,l)/\lo+ws.length<=l.length/\ws.map (encT t)=(l.drop lo).take ws.length:=by
  intro hm t ws r p lo l h1 h2 h3 h4 h5
  have hr:=hd2 r (rdZ_mem hz hm (ref_root h1))
  rw[List.mem_append,not_or]at hr
  refine⟨rfl,h5,hr.2,l, ?_,h3,h4.symm⟩
  have:=node_sim hS h2
  unfold nodeIn at this ⊢
  rw[hrt r,if_neg hr.1]
  exact this
 rcases hcd with ⟨v,h1,rfl⟩|⟨n,rfl,rfl⟩|⟨t,ws,r,p,lo,l,h1,h2,h3,h4,rfl,h6⟩
 ·cases m<;>first|trivial|exact h1
 ·cases m<;>first|trivial|exact⟨rfl,rfl⟩
 ·cases m with
  | ow=>trivial
  | rd=>rw[h1];exact rdcase (.inl rfl) h1 h2 h3 h4 h6
  | rx=>rw[h1];exact rdcase (.inr rfl) h1 h2 h3 h4 h6
  | io =>
   rcases ioZ_mem hio hz with ⟨r',s,t',xs,rfl,hl,hin⟩|(⟨n,rfl⟩|hlf)|⟨r',v,i,j,t',ws',s,T,xs,rfl,hl,hin⟩
   ·simp only[cC,hl,C.rf.injEq]at h1
    obtain⟨rfl,rfl,e3,rfl,e5⟩:=h1
    obtain⟨y',y1,y2⟩:=hS.roots r' s _ hl _ rfl
    have hg:get S.roots r'=some (.tr t'.n (xs.map (encT t'))):=by
     cases y' with
     | tr _ _=>obtain⟨rfl,rfl⟩:=y2;exact y1
     | _=>exact y2.elim
    simp only[nodeX,hl,nodeAt,Option.some.injEq,Prod.mk.injEq]at h2
    obtain⟨e6,rfl⟩:=h2
    rw[List.drop_zero,<-e5,List.take_of_length_le (by simp)]at h4
    simp only[cC,hl]
    refine⟨e3,rfl,by rw[List.length_map,e5],t'.n,xs.map (encT t'),by rw[hrt r',if_neg (hd1 r' hin)];exact hg, ?_⟩
    simp only[nodeAt,Option.some.injEq,Prod.mk.injEq]
    exact⟨e3,h4⟩
   ·simp [cC]at h1
   ·exfalso
    cases c<;>simp [isLeafX]at hlf<;>simp [cC]at h1
   ·obtain⟨T',xs',o,w1,w2,w3⟩:=hwh _ _ _ _ _ _ hz
    have hv:verOk X.roots r' v=true:=verOk_of w1
    simp only[cC,hv,C.rf.injEq]at h1
    obtain⟨rfl,rfl,e3,rfl,e5⟩:=h1
    obtain⟨y',y1,y2⟩:=hS.roots r' _ _ w1 _ rfl
    have hg:get S.roots r'=some (.tr T'.n (xs'.map (encT T'))):=by
     cases y' with
     | tr _ _=>obtain⟨rfl,rfl⟩:=y2;exact y1
     | _=>exact y2.elim
    simp only[nodeX,w1,w2,Option.some.injEq,Prod.mk.injEq]at h2
    obtain⟨e6,rfl⟩:=h2
    rw[List.drop_zero,<-e5,<-w3,List.take_of_length_le (by simp)]at h4
    simp only[cC,hv]
    refine⟨e3,rfl,by rw[List.length_map,e5],T'.n,xs'.map (encT T'),by rw[hrt r',if_neg (hd1 r' hin)];exact hg, ?_⟩
    rw[w2,e3,h4]
end
end Go.Vs
namespace Go.Vs
variable [Glb]
section
variable {β:Type} {X:XSt} {S:St} {out:β} {P:Program}
theorem set_tree {E:List (Nat×V)}{R:List (Nat×Root)}{n f r s:Nat}{t:Ty}{xs xs':List t.den}(hX:XOk X) (hS:SimX X ⟨E,R,n,f⟩) (hl:lk X.roots r=some (s,.tr t xs)) (hn:xs'.length=xs.length) :
  XOk (X.setR r (.tr t xs'))/\Ext X (X.setR r (.tr t xs'))/\SimX (X.setR r (.tr t xs')) ⟨E,put R r (.tr t.n (xs'.map (encT t))),n,f⟩:=by
 obtain⟨a,b⟩:=chg_ok hX (x:=.tr t xs') (Nat.le_refl _) (hX.ids r s _ hl).1 (fun cs h=>by simp at h)
 refine⟨a,b, ?_⟩
 have key:∀c',okC X.roots X.next X.stamp c'->cC ((r,X.stamp,.tr t xs')::X.roots) c'=.un\/cC ((r,X.stamp,.tr t xs')::X.roots) c'=killCs [] (cC X.roots c'):=fun c' hc=>cC_cons (.inr (.inr (.inr ⟨t,xs',xs,s,rfl,hl,hn⟩))) hc
 have e:=hS.next
 simp only at e
 subst e
 refine sim_step (X':=X.setR r (.tr t xs')) (ks:=[]) (roots:=put R r (.tr t.n (xs'.map (encT t)))) hX hS rfl rfl key ?_
 intro q s' z hq
 simp only[XSt.setR]at hq
 rw[lk_cons]at hq
 split at hq
 ·rename_i e
  simp only at e;subst e
  simp only[Option.some.injEq,Prod.mk.injEq]at hq
  obtain⟨_,rfl⟩:=hq
  right
  intro y hy
  simp only[cRt,Option.some.injEq]at hy;subst hy
  exact⟨.tr t.n (xs'.map (encT t)),by rw[get_put,if_pos rfl],rfl,rfl⟩
 ·rename_i e
  left
  exact⟨hq,by rw[omap_nil,get_put,if_neg e]⟩
def Same (X X':XSt) (R R':List (Nat×Root)):Prop:=∀r s x,lk X'.roots r=some (s,x)->s<X.stamp->get R' r=get R r
theorem Same.refl (X:XSt) (R:List (Nat×Root)):Same X X R R:=fun _ _ _ _ _=>rfl
theorem Same.trans {X Y Z:XSt}{R R' R2:List (Nat×Root)}(h1:Same X Y R R') (h2:Same Y Z R' R2) (e1:Ext X Y) (e2:Ext Y Z):Same X Z R R2:=fun r s x hl hs=>by
 have hs':=Nat.lt_of_lt_of_le hs e1.stamp
 rw[h2 r s x hl hs']
 exact h1 r s x (e2.roots r s x hl hs') hs
theorem same_set {r:Nat}{x:XR}{R:List (Nat×Root)}{y:Root}:Same X (X.setR r x) R (put R r y):=by
 intro q s z hq hs
 simp only[XSt.setR]at hq
 rw[lk_cons]at hq
 split at hq
 ·simp only[Option.some.injEq,Prod.mk.injEq]at hq;omega
 ·rename_i e;rw[get_put,if_neg e]
theorem ioX_ok {X0:XSt}:∀(W:List (M×XC×D)) (vs:List Sg){X:XSt}{E:List (Nat×V)}{R:List (Nat×Root)}{n f:Nat}(io:List Nat) (k:XSt->Option β),XOk X->SimX X ⟨E,R,n,f⟩->(∀w∈W,CD X0.roots w.2.1 w.2.2)->ioZ X0.roots (W.map fun w=>(w.1,w.2.1))=some io->ioX (W.map fun w=>(w.1,w.2.1)) vs X k=some out ->
  ∃X' R',k X'=some out/\XOk X'/\Ext X X'/\SimX X' ⟨E,R',n,f⟩/\backIo R (W.map (toV X0.roots)) (vs.map ioG)=some R'/\Same X X' R R'/\X'.env=X.env
 | [],vs,X,E,R,n,f,io,k,hX,hS,hW,hio,h=>by
  cases vs with
  | nil=>simp only[List.map_nil,ioX]at h;exact⟨X,R,h,hX,Ext.refl X,hS,rfl,Same.refl X R,rfl⟩
  | cons v vs=>simp [ioX]at h
 | (m,c,d)::W,vs,X,E,R,n,f,io,k,hX,hS,hW,hio,h=>by
  have hcd:=hW _ List.mem_cons_self
  have hW':=fun w hw=>hW w (List.mem_cons_of_mem _ hw)
  simp only at hcd
  simp only[List.map_cons,ioZ]at hio
  simp only[List.map_cons,ioX]at h
  have plain:∀(io':List Nat),ioZ X0.roots (W.map fun w=>(w.1,w.2.1))=some io'->ioX (W.map fun w=>(w.1,w.2.1)) vs X k=some out->(∀o,backIo R (toV X0.roots (m,c,d)::W.map (toV X0.roots)) o=backIo R (W.map (toV X0.roots)) o) ->
    ∃X' R',k X'=some out/\XOk X'/\Ext X X'/\SimX X' ⟨E,R',n,f⟩/\backIo R (((m,c,d)::W).map (toV X0.roots)) (vs.map ioG)=some R'/\Same X X' R R'/\X'.env=X.env:=by
   intro io' h1 h2 h3
   obtain⟨X',R',q1,q2,q3,q4,q5,q6,q7⟩:=ioX_ok W vs io' k hX hS hW' h1 h2
   exact⟨X',R',q1,q2,q3,q4,by rw[List.map_cons,h3];exact q5,q6,q7⟩
  cases m with
  | rd=>exact plain io hio h fun o=>by cases o<;>simp only[toV,backIo]
  | rx=>exact plain io hio h fun o=>by cases o<;>simp only[toV,backIo]
  | ow=>exact plain io hio h fun o=>by cases o<;>simp only[toV,backIo]
  | io =>
   simp only at hio h
   split at h
   ·rename_i r
    simp only at hio
    split at hio
    ·rename_i s0 t0 xs0 ids hl0 hi0
     simp only[Option.some.injEq]at hio;subst hio
     split at h
     ·rename_i t' ys vs'
      split at h
      ·rename_i s t xs hl
       obtain⟨xs',h,rfl,g3,g4⟩:=cast_some h
       obtain⟨hn,h⟩:=chk_some h
       simp only[nEq,decide_eq_true_eq]at hn
       obtain⟨a,b,c'⟩:=set_tree (xs':=xs') hX hS hl hn
       obtain⟨X',R',q1,q2,q3,q4,q5,q6,q7⟩:=ioX_ok W vs' ids k a c' hW' hi0 h
       have hd:=cd_rw hl0 hcd
       subst hd
       obtain⟨y',y1,y2⟩:=hS.roots r s _ hl _ rfl
       have hg:get R r=some (.tr t'.n (xs.map (encT t'))):=by
        cases y' with
        | tr _ _=>obtain⟨rfl,rfl⟩:=y2;exact y1
        | _=>exact y2.elim
       refine⟨X',R',q1,q2,b.trans q3,q4, ?_,same_set.trans q6 b q3,q7⟩
       simp only[List.map_cons,toV,cC,hl0,ioG,backIo,hg,updNode,g3]
       exact q5
      ·simp at h
     ·simp at h
    ·simp at hio
   ·rename_i r v i j t0 ws
    simp only at hio
    split at hio
    ·rename_i s0 T0 xs0 ids hl0 hi0
     simp only[Option.some.injEq]at hio;subst hio
     split at h
     ·rename_i t' ys vs'
      split at h
      ·rename_i s T xs hl
       obtain⟨xs',h,rfl,g3,g4⟩:=cast_some h
       obtain⟨hn,h⟩:=chk_some h
       obtain⟨e,he,h⟩:=bnd_some h
       obtain⟨e',o,h,u1,u2⟩:=setCX_ok T j t' xs' e _ h
       obtain⟨a,b,c'⟩:=set_tree (xs':=lSet xs i e') hX hS hl (by simp [lSet])
       obtain⟨X',R',q1,q2,q3,q4,q5,q6,q7⟩:=ioX_ok W vs' ids k a c' hW' hi0 h
       obtain⟨e1,t1,ws1,rfl⟩:=rf_cd hcd
       obtain⟨y',y1,y2⟩:=hS.roots r s _ hl _ rfl
       have hg:get R r=some (.tr T.n (xs.map (encT T))):=by
        cases y' with
        | tr _ _=>obtain⟨rfl,rfl⟩:=y2;exact y1
        | _=>exact y2.elim
       refine⟨X',R',q1,q2,b.trans q3,q4, ?_,same_set.trans q6 b q3,q7⟩
       have he':xs[i]? = some e:=by simpa [idx] using he
       have hup:updNode (xs.map (encT T)) [(i,j)] (fun _=>ys.map (encT t'))=(lSet xs i e').map (encT T):=by
        simp only[updNode,List.getElem?_map,he',Option.map_some,u2,lSet,List.map_set,u1,g3]
       simp only[List.map_cons,toV,e1,ioG,backIo,hg,hup]
       exact q5
      ·simp at h
     ·simp at h
    ·simp at hio
   ·rename_i nn
    simp only at hio
    split at h
    ·rename_i v vs'
     obtain⟨X',R',q1,q2,q3,q4,q5,q6,q7⟩:=ioX_ok W vs' io k hX hS hW' hio h
     refine⟨X',R',q1,q2,q3,q4, ?_,q6,q7⟩
     rcases hcd with ⟨v',h1,_⟩|⟨n',h1,rfl⟩|⟨t,ws,r,p,lo,l,h1,_⟩
     ·simp [cC]at h1
     ·simp only[List.map_cons,toV,cC,backIo];exact q5
     ·simp [cC]at h1
    ·simp at h
   ·rename_i h1 h2 h3
    split at hio
    ·exact (h1 _ rfl).elim
    ·exact (h2 _ _ _ _ _ _ rfl).elim
    ·exact (h3 _ rfl).elim
    ·split at hio
     ·rename_i hlf
      obtain⟨v,h1,rfl⟩:=leaf_cd hlf hcd
      exact plain io hio h fun o=>by cases o<;>simp only[toV,h1,backIo]
     ·simp at hio
theorem set_box {E:List (Nat×V)}{A R:List (Nat×Root)}{n f r s:Nat}{es es':List (Nat×XC)}{bs':List C}(hX:XOk X) (hS:SimX X ⟨E,A++R,n,f⟩) (hA:get A r=none) (hl:lk X.roots r=some (s,.bx es)) (hc:∀(c:Nat) (e:Nat×XC),es'[c]? = some e->(e.1=X.stamp\/es[c]? = some e)/\okC X.roots X.next X.stamp e.2) (hw:All2 WkC bs' (es'.map fun e=>cC X.roots e.2)) :
  XOk (X.setR r (.bx es'))/\Ext X (X.setR r (.bx es'))/\SimX (X.setR r (.bx es')) ⟨E,A++put R r (.bx bs'),n,f⟩/\Same X (X.setR r (.bx es')) (A++R) (A++put R r (.bx bs')):=by
 obtain⟨a,b⟩:=chg_ok hX (x:=.bx es') (Nat.le_refl _) (hX.ids r s _ hl).1 (by
  intro cs h c e he
  simp only[XR.bx.injEq]at h;subst h
  obtain⟨h1,h2⟩:=hc c e he
  exact⟨h1.imp id fun h=>⟨s,es,hl,h⟩,h2⟩)
 have key:∀c',okC X.roots X.next X.stamp c'->cC ((r,X.stamp,.bx es')::X.roots) c'=.un\/cC ((r,X.stamp,.bx es')::X.roots) c'=killCs [] (cC X.roots c'):=fun c' hc=>cC_cons (.inr (.inr (.inl ⟨_,_,_,rfl,hl⟩))) hc
 have e:=hS.next
 simp only at e
 subst e
 have hgo:∀q,r≠q->get (A++put R r (.bx bs')) q=get (A++R) q:=by
  intro q hq
  rw[get_append,get_append,get_put,if_neg hq]
 refine⟨a,b, ?_, ?_⟩
 ·refine sim_step (X':=X.setR r (.bx es')) (ks:=[]) (roots:=A++put R r (.bx bs')) hX hS rfl rfl key ?_
  intro q s' z hq
  simp only[XSt.setR]at hq
  rw[lk_cons]at hq
  split at hq
  ·rename_i e
   simp only at e;subst e
   simp only[Option.some.injEq,Prod.mk.injEq]at hq
   obtain⟨_,rfl⟩:=hq
   right
   intro y hy
   simp only[cRt,Option.some.injEq]at hy;subst hy
   refine⟨.bx bs',by rw[get_append,hA,get_put,if_pos rfl], ?_⟩
   have w0:All2 WkC bs' ((es'.map (·.2)).map (cC X.roots)):=by rw[List.map_map];exact hw
   have w1:=wkCs_kill (ks:=[]) key (fun c hc'=>by
    obtain⟨e,he,rfl⟩:=List.mem_map.1 hc'
    obtain⟨i,hi⟩:=List.getElem?_of_mem he
    exact (hc i e hi).2) w0
   have e3:bs'.map (killCs [])=bs':=by
    have:killCs []=fun c=>c:=by funext c;rfl
    rw[this];simp
   rw[e3,List.map_map]at w1
   exact w1
  ·rename_i e
   left
   exact⟨hq,by rw[omap_nil];exact hgo q e⟩
 ·intro q s' z hq hs
  simp only[XSt.setR]at hq
  rw[lk_cons]at hq
  split at hq
  ·simp only[Option.some.injEq,Prod.mk.injEq]at hq;omega
  ·rename_i e;exact hgo q e
theorem isRx_T:∀{t:Ty}{x:t.den}{j:Nat}{d:D}{ty:Ty}{m:M},(encT t x)[j]? = some d->(cts t)[j]? = some ty->isRx (m,d)=(match m,isLT ty with|.rx,true=>true|_,_=>false)
 | .I _,x,0,d,ty,m,h,ht=>by simp [encT,cts]at h ht;subst h ht;cases m<;>rfl
 | .Y,x,0,d,ty,m,h,ht=>by simp [encT,cts]at h ht;subst h ht;cases m<;>rfl
 | .B,x,0,d,ty,m,h,ht=>by simp [encT,cts]at h ht;subst h ht;cases m<;>rfl
 | .S,x,0,d,ty,m,h,ht=>by simp [encT,cts]at h ht;subst h ht;cases m<;>rfl
 | .L _,x,0,d,ty,m,h,ht=>by simp [encT,cts]at h ht;subst h ht;cases m<;>rfl
 | .I _,x,j+1,d,ty,m,h,ht=>by simp [encT]at h
 | .Y,x,j+1,d,ty,m,h,ht=>by simp [encT]at h
 | .B,x,j+1,d,ty,m,h,ht=>by simp [encT]at h
 | .S,x,j+1,d,ty,m,h,ht=>by simp [encT]at h
 | .L _,x,j+1,d,ty,m,h,ht=>by simp [encT]at h
 | .P a b,x,j,d,ty,m,h,ht=>by
  simp only[encT,cts,appT_eq]at h ht
  by_cases hj:j<a.n
  ·rw[List.getElem?_append_left (by rw[encT_len];exact hj)]at h
   rw[List.getElem?_append_left (by rw[cts_len];exact hj)]at ht
   exact isRx_T h ht
  ·rw[List.getElem?_append_right (by rw[encT_len];omega),encT_len]at h
   rw[List.getElem?_append_right (by rw[cts_len];omega),cts_len]at ht
   exact isRx_T h ht
theorem mix_ok2 {R:XRs}{nx st:Nat}:∀(ms:List M) (ts:List Ty) (ds:List D) (es:List (Nat×XC)) (bs:List C) (ys:List XC) (us:List C),(∀(j:Nat) (m:M) (d:D) (ty:Ty),ms[j]? = some m->ds[j]? = some d->ts[j]? = some ty->isRx (m,d)=(match m,isLT ty with|.rx,true=>true|_,_=>false))->ms.length=ds.length->ds.length=ts.length->es.length=ds.length ->
  All2 WkC bs (es.map fun e=>cC R e.2)->All2 WkC us (ys.map (cC R))->(∀e∈es,okC R nx st e.2)->(∀y∈ys,okC R nx st y) ->
  All2 WkC (mixCs (ms.zip ds) bs us) ((mixX st ms ts es ys).map fun e=>cC R e.2)/\(mixX st ms ts es ys).length=ms.length/\∀(j:Nat) (e:Nat×XC),(mixX st ms ts es ys)[j]? = some e->(e.1=st\/es[j]? = some e)/\okC R nx st e.2
 | [],[],[],[],[],ys,us,_,_,_,_,_,_,_,_=>⟨trivial,rfl,by simp [mixX]⟩
 | m::ms,t::ts,d::ds,e::es,b::bs,ys,us,hr,h1,h2,h3,hb,hu,ho,hy=>by
  simp only[List.length_cons,Nat.add_right_cancel_iff]at h1 h2 h3
  have hr0:=hr 0 m d t rfl rfl rfl
  have hr':∀(j:Nat) (m:M) (d:D) (ty:Ty),ms[j]? = some m->ds[j]? = some d->ts[j]? = some ty->isRx (m,d)=(match m,isLT ty with|.rx,true=>true|_,_=>false):=fun j m d ty a b c=>hr (j+1) m d ty (by simpa using a) (by simpa using b) (by simpa using c)
  have ho':=fun e he=>ho e (List.mem_cons_of_mem _ he)
  have old:isRx (m,d)=true->All2 WkC (mixCs ((m::ms).zip (d::ds)) (b::bs) us) (((e::mixX st ms ts es ys)).map fun e=>cC R e.2)/\(e::mixX st ms ts es ys).length=(m::ms).length/\∀(j:Nat) (e':Nat×XC),(e::mixX st ms ts es ys)[j]? = some e'->(e'.1=st\/(e::es)[j]? = some e')/\okC R nx st e'.2:=by
   intro hx
   obtain⟨q1,q2,q3⟩:=mix_ok2 ms ts ds es bs ys us hr' h1 h2 h3 hb.2 hu ho' hy
   refine⟨?_,by simp [q2], ?_⟩
   ·simp only[List.zip_cons_cons,mixCs,hx,if_true,List.map_cons]
    exact⟨hb.1,q1⟩
   ·intro j e' he
    cases j with
    | zero=>simp only[List.getElem?_cons_zero,Option.some.injEq]at he;subst he;exact⟨.inr rfl,ho _ List.mem_cons_self⟩
    | succ j=>simpa using q3 j e' (by simpa using he)
  have new:isRx (m,d)=false->All2 WkC (mixCs ((m::ms).zip (d::ds)) (b::bs) us) ((match ys with|y::ys=>(st,y)::mixX st ms ts es ys|[]=>e::mixX st ms ts es []:List (Nat×XC)).map fun e=>cC R e.2)/\(match ys with|y::ys=>(st,y)::mixX st ms ts es ys|[]=>e::mixX st ms ts es []).length=(m::ms).length/\∀(j:Nat) (e':Nat×XC),(match ys with|y::ys=>(st,y)::mixX st ms ts es ys|[]=>e::mixX st ms ts es [])[j]? = some e'->(e'.1=st\/(e::es)[j]? = some e')/\okC R nx st e'.2:=by
   intro hx
   cases ys with
   | nil =>
    cases us with
    | cons u us=>exact hu.elim
    | nil =>
     obtain⟨q1,q2,q3⟩:=mix_ok2 ms ts ds es bs [] [] hr' h1 h2 h3 hb.2 trivial ho' (by simp)
     refine⟨?_,by simp [q2], ?_⟩
     ·simp only[List.zip_cons_cons,mixCs,hx,Bool.false_eq_true,if_false,List.map_cons]
      exact⟨hb.1,q1⟩
     ·intro j e' he
      cases j with
      | zero=>simp only[List.getElem?_cons_zero,Option.some.injEq]at he;subst he;exact⟨.inr rfl,ho _ List.mem_cons_self⟩
      | succ j=>simpa using q3 j e' (by simpa using he)
   | cons y ys =>
    cases us with
    | nil=>exact hu.elim
    | cons u us =>
     obtain⟨q1,q2,q3⟩:=mix_ok2 ms ts ds es bs ys us hr' h1 h2 h3 hb.2 hu.2 ho' (fun z hz=>hy z (List.mem_cons_of_mem _ hz))
     refine⟨?_,by simp [q2], ?_⟩
     ·simp only[List.zip_cons_cons,mixCs,hx,Bool.false_eq_true,if_false,List.map_cons]
      exact⟨hu.1,q1⟩
     ·intro j e' he
      cases j with
      | zero=>simp only[List.getElem?_cons_zero,Option.some.injEq]at he;subst he;exact⟨.inl rfl,hy _ List.mem_cons_self⟩
      | succ j=>simpa using q3 j e' (by simpa using he)
  cases m with
  | rx =>
   cases hT:isLT t with
   | true =>
    simp only[hT]at hr0
    simp only[mixX,hT]
    exact old hr0
   | false =>
    simp only[hT]at hr0
    simp only[mixX,hT]
    exact new hr0
  | _=>simp only[mixX];exact new hr0
 | [],_::_,ds,_,_,_,_,_,h1,h2,_,_,_,_,_=>by rw[<-h1]at h2;simp at h2
 | _::_,[],ds,_,_,_,_,_,h1,h2,_,_,_,_,_=>by rw[List.length_nil]at h2;rw[h2]at h1;simp at h1
 | [],[],_::_,_,_,_,_,_,h1,_,_,_,_,_,_=>by simp at h1
 | _::_,_::_,[],_,_,_,_,_,h1,_,_,_,_,_,_=>by simp at h1
 | [],[],[],_::_,_,_,_,_,_,_,h3,_,_,_,_=>by simp at h3
 | _::_,_::_,_::_,[],_,_,_,_,_,_,h3,_,_,_,_=>by simp at h3
 | [],[],[],[],_::_,_,_,_,_,_,_,hb,_,_,_=>hb.elim
 | _::_,_::_,_::_,_::_,[],_,_,_,_,_,_,hb,_,_,_=>hb.elim
end
end Go.Vs
namespace Go.Vs
variable [Glb]
section
variable {β:Type} {X:XSt} {S:St} {out:β} {P:Program}
def GRel:List GArg->List GC->List V->Prop
 | [],[],[]=>True
 | a::as,g::gs,y::ys=>g.a=a/\a.ms.length=a.t.n/\(match a.ptr with
  | true=>∃r c,g.at? = some (r,c)/\y=.a (.c (.pb r c))
  | false=>g.at? = none)/\GRel as gs ys
 | _,_,_=>False
theorem grel_of (hS:SimX X S):∀(as:List GArg) (vs:List XV) (ys:List V) (gs:List GC),All2 (fun y v=>WkV y (cV X.roots v)/\okV X.roots X.next X.stamp v) ys vs->gather X as vs=some gs->GRel as gs ys
 | [],[],[],gs,_,h=>by simp only[gather,Option.some.injEq]at h;subst h;trivial
 | a::as,v::vs,y::ys,gs,hw,h=>by
  simp only[gather]at h
  split at h
  ·rename_i g gs' h1 h2
   split at h
   ·rename_i hb
    simp only[Option.some.injEq]at h;subst h
    simp only[Bool.and_eq_true,lenL_eq]at hb
    have ih:=grel_of hS as vs ys gs' hw.2 h2
    unfold gather1 at h1
    split at h1
    ·rename_i c hp hag
     simp only[Option.some.injEq]at h1;subst h1
     exact⟨rfl,Nat.eq_of_beq_eq_true hb.2,by simp only[hp],ih⟩
    ·rename_i c hp hag
     simp only[Option.some.injEq]at h1;subst h1
     exact⟨rfl,Nat.eq_of_beq_eq_true hb.2,by simp only[hp],ih⟩
    ·rename_i r c hp
     split at h1
     ·rename_i s es hle
      split at h1
      ·simp only[Option.some.injEq]at h1;subst h1
       refine⟨rfl,Nat.eq_of_beq_eq_true hb.2, ?_,ih⟩
       simp only[hp]
       refine⟨r,c,rfl, ?_⟩
       have:=hw.1.1
       simp only[cV,cA,cC,hle]at this
       exact this.c (by simp)
      ·simp at h1
     ·simp at h1
    ·simp at h1
   ·simp at h
  ·simp at h
 | [],_::_,_,_,_,h=>by simp [gather]at h
 | _::_,[],_,_,_,h=>by simp [gather]at h
 | [],[],_::_,_,hw,_=>hw.elim
 | _::_,_::_,[],_,hw,_=>hw.elim
theorem backBx_val {R:List (Nat×Root)}{y:V}{ys:List V}{ag:Bool}{l:List (M×D)}{as:List Arg}{o:List (List D)}{us:List C}:backBx R (y::ys) (.val ag l::as) o us=backBx R ys as o us:=by
 conv=>lhs;unfold backBx
 split
 ·simp_all
 ·simp_all
 ·simp_all
 ·simp_all
  rename_i hx
  exact absurd rfl (hx y ys _ as rfl rfl rfl)
theorem bxX_ok:∀(as:List GArg) (gs:List GC) (ysV:List V) (x:Tp (argTys as)) (vs:List Sg) (cells:List XC) (us:List C){X X':XSt}{E:List (Nat×V)}{A R:List (Nat×Root)}{n f:Nat},XOk X->SimX X ⟨E,A++R,n,f⟩->GRel as gs ysV->(∀r∈bxZ gs,get A r=none)->vs.map (·.1)=bxTys as ->
  All2 WkC us (cells.map (cC X.roots))->(∀c∈cells,okC X.roots X.next X.stamp c)->bxX gs cells X=some X' ->
  ∃R',backBx R ysV (argsG as x) (bxG as vs) us=some R'/\XOk X'/\Ext X X'/\SimX X' ⟨E,A++R',n,f⟩/\Same X X' (A++R) (A++R')/\X'.env=X.env
 | [],[],[],x,vs,cells,us,X,X',E,A,R,n,f,hX,hS,_,_,_,_,_,h=>by
  simp only[bxX,Option.some.injEq]at h;subst h
  exact⟨R,rfl,hX,Ext.refl X,hS,Same.refl X _,rfl⟩
 | a::as,g::gs,y::ysV,x,vs,cells,us,X,X',E,A,R,n,f,hX,hS,hg,hA,hv,hw,ho,h=>by
  obtain⟨rfl,hms,hp,hg⟩:=hg
  simp only[bxX]at h
  cases hptr:g.a.ptr with
  | false =>
   simp only[hptr]at hp
   simp only[hp]at h
   simp only[bxZ,hp]at hA
   simp only[bxTys,hptr]at hv
   obtain⟨R',q1,q2⟩:=bxX_ok as gs ysV (Tp.tl _ _ x) vs cells us hX hS hg hA hv hw ho h
   refine⟨R', ?_,q2⟩
   simp only[argsG,mkG,hptr,bxG,backBx_val]
   exact q1
  | true =>
   simp only[hptr]at hp
   obtain⟨r,c,hat,rfl⟩:=hp
   simp only[hat]at h
   simp only[bxZ,hat]at hA
   split at h
   ·rename_i s es hl
    split at h
    ·rename_i hb
     have hb:=Nat.le_of_ble_eq_true hb
     rw[lenL_eq]at hb
     obtain⟨bs,g1,g2⟩:=box_sim hS hl
     have hAr:=hA r List.mem_cons_self
     have hR:get R r=some (.bx bs):=by
      simp only[get_append,hAr]at g1;exact g1
     have hbl:=g2.length
     rw[List.length_map]at hbl
     have hen:=encT_len g.a.t (Tp.hd _ _ x)
     have hlen:(g.a.ms.zip (encT g.a.t (Tp.hd _ _ x))).length=g.a.ms.length:=by rw[List.length_zip];omega
     obtain⟨m1,m2,m3⟩:=mix_ok2 (R:=X.roots) (nx:=X.next) (st:=X.stamp) g.a.ms (cts g.a.t) (encT g.a.t (Tp.hd _ _ x)) ((es.drop c).take g.a.ms.length) ((bs.drop c).take g.a.ms.length) (cells.take (optN g.a.o)) (us.take (optN g.a.o))
      (fun j m d ty _ hd ht=>isRx_T hd ht) (by omega) (by rw[hen,cts_len]) (by simp;omega)
      (by have:=wk_take (n:=g.a.ms.length) (wk_drop (n:=c) g2);rw[List.map_take,List.map_drop];exact this)
      (by rw[List.map_take];exact wk_take hw)
      (fun e he=>(hX.box r s es hl e (List.mem_of_mem_drop (List.mem_of_mem_take he))).2)
      (fun y hy=>ho y (List.mem_of_mem_take hy))
     rw[lenL_eq]at h
     obtain⟨b1,b2,b3,b4⟩:=set_box (es':=es.take c++(mixX X.stamp g.a.ms (cts g.a.t) ((es.drop c).take g.a.ms.length) (cells.take (optN g.a.o))++es.drop (c+g.a.ms.length))) (bs':=bs.take c++(mixCs (g.a.ms.zip (encT g.a.t (Tp.hd _ _ x))) ((bs.drop c).take g.a.ms.length) (us.take (optN g.a.o))++bs.drop (c+g.a.ms.length))) hX hS hAr hl (by
      intro j e hj
      have hlt:(es.take c).length=c:=by simp;omega
      by_cases h1:j<c
      ·rw[List.getElem?_append_left (by omega),List.getElem?_take,if_pos h1]at hj
       exact⟨.inr hj,(hX.box r s es hl e (List.mem_of_getElem? hj)).2⟩
      ·rw[List.getElem?_append_right (by omega),hlt]at hj
       by_cases h2:j-c<g.a.ms.length
       ·rw[List.getElem?_append_left (by omega)]at hj
        obtain⟨q1,q2⟩:=m3 _ e hj
        refine⟨q1.imp id fun h=>?_,q2⟩
        rw[List.getElem?_take,if_pos h2,List.getElem?_drop]at h
        rwa [show c+(j-c)=j by omega]at h
       ·rw[List.getElem?_append_right (by omega),m2,List.getElem?_drop]at hj
        rw[show c+g.a.ms.length+(j-c-g.a.ms.length)=j by omega]at hj
        exact⟨.inr hj,(hX.box r s es hl e (List.mem_of_getElem? hj)).2⟩) (by
      rw[List.map_append,List.map_append,List.map_take,List.map_drop]
      exact wk_app (wk_take g2) (wk_app m1 (wk_drop g2)))
     -- the rest
     have key:∀c',okC X.roots X.next X.stamp c'->cC (X.setR r (.bx (es.take c++(mixX X.stamp g.a.ms (cts g.a.t) ((es.drop c).take g.a.ms.length) (cells.take (optN g.a.o))++es.drop (c+g.a.ms.length))))).roots c'=.un\/cC (X.setR r (.bx (es.take c++(mixX X.stamp g.a.ms (cts g.a.t) ((es.drop c).take g.a.ms.length) (cells.take (optN g.a.o))++es.drop (c+g.a.ms.length))))).roots c'=killCs [] (cC X.roots c'):=fun c' hc=>cC_cons (.inr (.inr (.inl ⟨_,_,_,rfl,hl⟩))) hc
     have hw2:=wkCs_kill (ks:=[]) key (ys:=us.drop (optN g.a.o)) (cs:=cells.drop (optN g.a.o)) (fun c hc=>ho c (List.mem_of_mem_drop hc)) (by rw[List.map_drop];exact wk_drop hw)
     have e3:(us.drop (optN g.a.o)).map (killCs [])=us.drop (optN g.a.o):=by
      have:killCs []=fun c=>c:=by funext c;rfl
      rw[this];simp
     rw[e3]at hw2
     have ho2:∀c'∈cells.drop (optN g.a.o),okC (X.setR r (.bx (es.take c++(mixX X.stamp g.a.ms (cts g.a.t) ((es.drop c).take g.a.ms.length) (cells.take (optN g.a.o))++es.drop (c+g.a.ms.length))))).roots (X.setR r (.bx (es.take c++(mixX X.stamp g.a.ms (cts g.a.t) ((es.drop c).take g.a.ms.length) (cells.take (optN g.a.o))++es.drop (c+g.a.ms.length))))).next (X.setR r (.bx (es.take c++(mixX X.stamp g.a.ms (cts g.a.t) ((es.drop c).take g.a.ms.length) (cells.take (optN g.a.o))++es.drop (c+g.a.ms.length))))).stamp c':=fun c' hc=>okC.ext b2.next b2.stamp b2.roots (ho c' (List.mem_of_mem_drop hc))
     cases hoo:g.a.o with
     | none =>
      simp only[bxTys,hptr,hoo,optT,appT]at hv
      simp only[hoo]at h hw2 ho2 b1 b2 b3 b4
      obtain⟨R',q1,q2,q3,q4,q5,q6⟩:=bxX_ok as gs ysV (Tp.tl _ _ x) vs _ _ b1 b3 hg (fun q hq=>hA q (List.mem_cons_of_mem _ hq)) hv hw2 ho2 h
      refine⟨R', ?_,q2,b2.trans q3,q4,b4.trans q5 b2 q3,q6⟩
      simp only[argsG,mkG,hptr,bxG,hoo,backBx,hR,hlen,List.length_nil]
      exact q1
     | some ot =>
      simp only[bxTys,hptr,hoo,optT,appT]at hv
      cases vs with
      | nil=>simp at hv
      | cons v vs =>
       simp only[List.map_cons,List.cons.injEq]at hv
       simp only[hoo]at h hw2 ho2 b1 b2 b3 b4
       obtain⟨R',q1,q2,q3,q4,q5,q6⟩:=bxX_ok as gs ysV (Tp.tl _ _ x) vs _ _ b1 b3 hg (fun q hq=>hA q (List.mem_cons_of_mem _ hq)) hv.2 hw2 ho2 h
       refine⟨R', ?_,q2,b2.trans q3,q4,b4.trans q5 b2 q3,q6⟩
       have hn:(encS v).length=optN (some ot):=by simp only[encS,encT_len,hv.1,optN]
       simp only[argsG,mkG,hptr,bxG,hoo,backBx,hR,hlen,hn]
       exact q1
    ·simp at h
   ·simp at h
 | [],_::_,_,_,_,_,_,_,_,_,_,_,_,_,_,_,h,_,_,_,_,_=>h.elim
 | _::_,[],_,_,_,_,_,_,_,_,_,_,_,_,_,_,h,_,_,_,_,_=>h.elim
 | [],[],_::_,_,_,_,_,_,_,_,_,_,_,_,_,_,h,_,_,_,_,_=>h.elim
 | _::_,_::_,[],_,_,_,_,_,_,_,_,_,_,_,_,_,h,_,_,_,_,_=>h.elim
theorem bxX_c {c:XC}:∀(gs:List GC) (ys:List XC) (Z Z':XSt) (nx st:Nat),okC Z.roots nx st c->st<=Z.stamp->nx<=Z.next->bxX gs ys Z=some Z'->cC Z'.roots c=.un\/cC Z'.roots c=cC Z.roots c
 | [],ys,Z,Z',nx,st,_,_,_,h=>by simp only[bxX,Option.some.injEq]at h;subst h;exact .inr rfl
 | g::gs,ys,Z,Z',nx,st,ho,hst,hnx,h=>by
  simp only[bxX]at h
  split at h
  ·rename_i r c0 hat
   split at h
   ·rename_i s es hl
    split at h
    ·have ho':okC Z.roots Z.next Z.stamp c:=okC.ext hnx hst (fun _ _ _ h _=>h) ho
     have old:∀es' q s z,lk ((r,Z.stamp,XR.bx es')::Z.roots) q=some (s,z)->s<Z.stamp->lk Z.roots q=some (s,z):=by
      intro es' q s z hl hs
      rw[lk_cons]at hl
      split at hl
      ·simp only[Option.some.injEq,Prod.mk.injEq]at hl;omega
      ·exact hl
     rcases bxX_c gs _ (Z.setR r _) Z' Z.next Z.stamp (okC.ext (Nat.le_refl _) (Nat.le_refl _) (old _) ho') (Nat.le_succ _) (Nat.le_refl _) h with q|q
     ·exact .inl q
     ·rcases cC_cons (.inr (.inr (.inl ⟨_,_,_,rfl,hl⟩))) ho' with w|w
      ·exact .inl (q.trans w)
      ·exact .inr (q.trans w)
    ·simp at h
   ·simp at h
  ·exact bxX_c gs _ _ _ nx st ho hst hnx h
theorem tcellsS_enc:∀vs:List Sg,(tcellsS vs).map encD=vs.flatMap encS
 | []=>rfl
 | v::vs=>by simp only[tcellsS,List.map_append,tcells_enc,tcellsS_enc vs,List.flatMap_cons,encS]
theorem resG_flat:∀(rs:List (Bool×Ty)) (vs:List Sg),vs.length=rs.length->(resG rs vs).flatMap (·.2)=vs.flatMap encS
 | [],[],_=>rfl
 | r::rs,v::vs,h=>by simp only[resG,List.flatMap_cons,resG_flat rs vs (by simpa using h)]
 | [],_::_,h=>by simp at h
 | _::_,[],h=>by simp at h
theorem bxG_flat:∀(as:List GArg) (vs:List Sg),vs.map (·.1)=bxTys as->(bxG as vs).flatten=vs.flatMap encS
 | [],vs,h=>by simp only[bxTys,List.map_eq_nil_iff]at h;subst h;rfl
 | a::as,vs,h=>by
  simp only[bxTys]at h
  cases hp:a.ptr with
  | false=>simp only[hp]at h;simp only[bxG,hp];exact bxG_flat as vs h
  | true =>
   simp only[hp]at h
   cases ho:a.o with
   | none=>simp only[ho,optT,appT]at h;simp only[bxG,hp,ho,List.flatten_cons,List.nil_append];exact bxG_flat as vs h
   | some t =>
    simp only[ho,optT,appT]at h
    cases vs with
    | nil=>simp at h
    | cons v vs =>
     simp only[List.map_cons,List.cons.injEq]at h
     simp only[bxG,hp,ho,List.flatten_cons,List.flatMap_cons,bxG_flat as vs h.2]
theorem resAs_wkG {R:XRs}:∀(rs:List (Bool×Ty)) (vs:List Sg) (us:List C) (cs:List XC),vs.map (·.1)=resTys rs->All2 WkC us (cs.map (cC R))->(∀(l:Nat),True)->(vs.flatMap encS).length<=cs.length->All2 WkA (newRes (resG rs vs) us) ((resAs rs cs).map (cA R))
 | [],_,_,_,_,_,_,_=>by cases ‹List Sg›<;>trivial
 | (ag,t)::rs,[],us,cs,h,_,_,_=>by simp [resTys]at h
 | (ag,t)::rs,v::vs,us,cs,h,hw,_,hl=>by
  simp only[List.map_cons,resTys,List.cons.injEq]at h
  have hn:(encS v).length=t.n:=by rw[encS,encT_len,h.1]
  simp only[resG,newRes,resAs,List.map_cons,hn]
  simp only[List.flatMap_cons,List.length_append,hn]at hl
  refine⟨?_, ?_⟩
  ·have ht:=wk_take (n:=t.n) hw
   rw[<-List.map_take]at ht
   cases ag with
   | true=>simp only[newA,if_true];exact ht
   | false =>
    simp only[newA,Bool.false_eq_true,if_false]
    match h1:us.take t.n,h2:cs.take t.n with
    | [],[]=>trivial
    | [u],[c]=>rw[h1,h2]at ht;exact ht.1
    | [],_::_=>rw[h1,h2]at ht;exact ht.elim
    | _::_,[]=>rw[h1,h2]at ht;exact ht.elim
    | [_],_::_::_=>rw[h1,h2]at ht;exact ht.2.elim
    | _::_::_,[_]=>rw[h1,h2]at ht;exact ht.2.elim
    | _::_::_,_::_::_=>trivial
  ·have hd:=wk_drop (n:=t.n) hw
   rw[<-List.map_drop]at hd
   exact resAs_wkG rs vs _ _ h.2 hd (fun _=>trivial) (by rw[List.length_drop];omega)
theorem callGF_ok (hX:XOk X) (hS:SimX X S){as:List GArg}{rs:List (Bool×Ty)}{F:Tp (argTys as)->Option (Tp (outTys as rs))}{C:List Value->World->(Ending->World->Prop)->Prop}(hC:∀x y,F x=some y->RunsC C (argsG as x) (outG as rs (spread _ y))){vs:List XV}{us:List V}(hargs:All2 (fun y v=>WkV y (cV X.roots v)/\okV X.roots X.next X.stamp v) us vs){k:XV->XSt->Option β}(h:callGF X as rs F vs k=some out):ClT X S (fun K=>callOkC C S us K) k out:=by
 have hnx:S.next=X.next:=hS.next
 unfold callGF at h
 split at h
 ·rename_i gs hg
  split at h
  ·rename_i ow io how hio
   split at h
   ·rename_i hc
    simp only[Bool.and_eq_true]at hc
    obtain⟨hn1,hn2,hd1,hd2⟩:=hc
    have hn1:=nodupN_ok hn1
    have hn2:=nodupN_ok hn2
    have hd1:=disj_ok hd1
    have hd2:=disj_ok hd2
    obtain⟨h,hwh⟩:=wholeX_ok _ h
    obtain⟨x,h,hf,hW,hz,hbx⟩:=gather_ok hX hS as _ _ gs _ hargs hg h
    obtain⟨y,hy,h⟩:=bnd_some h
    rw[<-hz]at how hio hd2 hwh h
    have hWcd:∀w∈allW as gs x,CD X.roots w.2.1 w.2.2:=fun w hw=>(hW w hw).1
    -- what is taken
    obtain⟨o1,o2⟩:=owZ_fl (allW as gs x) hWcd
    obtain⟨rt,t1,t2⟩:=takeAll_sim hS _ _ ow S.roots o2 how hn1 (fun _ _=>rfl)
    rw[<-o1]at t1
    obtain⟨d1,d2,d3⟩:=delRs_ok ow hX hS (ownIds_lt hX how)
    obtain⟨v1,v2,v3,v4⟩:=delRs_env ow X
    have d4:SimX (X.delRs ow) ⟨S.env,rt,S.next,S.fix⟩:=by
     refine sim_roots (R:=S.roots) d3 ?_
     intro r s z hl hx
     by_cases hm:r∈ow
     ·obtain⟨s',hg'⟩:=(delRs_lk ow X r).1 hm
      rw[hl]at hg'
      simp only[Option.some.injEq,Prod.mk.injEq]at hg'
      exact (hx hg'.2).elim
     ·rw[t2 r,if_neg hm]
    have d5:Same X (X.delRs ow) S.roots rt:=by
     intro r s z hl hs
     by_cases hm:r∈ow
     ·have key:∀(l:List Nat) (Y:XSt),r∈l->∀s x,lk (Y.delRs l).roots r=some (s,x)->Y.stamp<=s:=by
       intro l
       induction l with
       | nil=>intro Y h;simp at h
       | cons q l ih =>
        intro Y h s x hl
        by_cases hq:r∈l
        ·have:=ih (Y.setR q .gone) hq s x hl
         have e:(Y.setR q .gone).stamp=Y.stamp+1:=rfl
         omega
        ·have hq':=(List.mem_cons.1 h).resolve_right hq
         subst hq'
         have h2:lk ((Y.setR r .gone).delRs l).roots r=some (s,x):=hl
         rw[(delRs_lk l (Y.setR r .gone) r).2 hq]at h2
         simp only[XSt.setR]at h2
         rw[lk_cons,if_pos rfl]at h2
         simp only[Option.some.injEq,Prod.mk.injEq]at h2
         omega
      have:=key ow X hm s z hl
      omega
     ·rw[t2 r,if_neg hm]
    have hseen:=seen_ok (hb:=bxZ gs) hS hWcd hio t2 hd1 hd2 hwh
    -- what is written
    obtain⟨X2,r1,h,i1,i2,i3,i4,i5,i6⟩:=ioX_ok (X0:=X) (allW as gs x) _ io _ d1 d4 hWcd hio h
    have hnext2:X2.next=X.next:=by rw[<-hnx];exact i3.next.symm
    -- what is new
    have i3':SimX X2 ⟨S.env,r1,X2.next,S.fix⟩:=⟨rfl,i3.fix,i3.env,i3.roots⟩
    obtain⟨n1,n2,n3,n4,n5,n6,n7⟩:=newXs_ok (tcellsS ((spread _ y).take (lenL rs)++((spread _ y).drop (lenL rs)).drop (lenL (ioTys as)))) i1 i3'
    split at h
    ·rename_i X4 hb
     -- lengths and types of what comes out
     have htys:=spread_tys _ y
     have hT:outTys as rs=resTys rs++(ioTys as++bxTys as):=by simp only[outTys,appT_eq]
     have hrl:(resTys rs).length=rs.length:=by
      have key:∀rs:List (Bool×Ty),(resTys rs).length=rs.length:=by
       intro rs;induction rs with
       | nil=>rfl
       | cons r rs ih=>simp only[resTys,List.length_cons,ih]
      exact key _
     have hres:((spread _ y).take (lenL rs)).map (·.1)=resTys rs:=by
      rw[List.map_take,htys,hT,lenL_eq,<-hrl,List.take_left']
      rfl
     have hbxs:(((spread _ y).drop (lenL rs)).drop (lenL (ioTys as))).map (·.1)=bxTys as:=by
      rw[List.map_drop,List.map_drop,htys,hT,lenL_eq,lenL_eq,<-hrl,List.drop_left' rfl,List.drop_left' rfl]
     have hresl:((spread _ y).take (lenL rs)).length=rs.length:=by rw[<-hrl,<-hres,List.length_map]
     generalize hvr:(spread _ y).take (lenL rs)=vr at *
     generalize hvb:((spread _ y).drop (lenL rs)).drop (lenL (ioTys as))=vb at *
     have hcells:(tcellsS (vr++vb)).map encD=(resG rs vr).flatMap (·.2)++(bxG as vb).flatten:=by
      rw[tcellsS_enc,List.flatMap_append,resG_flat _ _ hresl,bxG_flat _ _ hbxs]
     rw[hcells,hnext2,<-hnx]at n4 n5 n6
     have hlenr:((resG rs vr).flatMap (·.2)).length=lenL (tcellsS vr):=by
      rw[resG_flat _ _ hresl,<-tcellsS_enc,List.length_map,lenL_eq]
     have grel:=grel_of hS as _ _ gs hargs hg
     have hbxlt:∀r∈bxZ gs,r<X.next:=by
      intro r hr
      have key:∀(as:List GArg) (vs:List XV) (gs:List GC),(∀v∈vs,okV X.roots X.next X.stamp v)->gather X as vs=some gs->r∈bxZ gs->r<X.next:=by
       intro as
       induction as with
       | nil =>
        intro vs gs _ hg hr
        cases vs with
        | nil=>simp only[gather,Option.some.injEq]at hg;subst hg;simp [bxZ]at hr
        | cons _ _=>simp [gather]at hg
       | cons a as ih =>
        intro vs gs hv hg hr
        cases vs with
        | nil=>simp [gather]at hg
        | cons v vs =>
         simp only[gather]at hg
         split at hg
         ·rename_i g gs' h1 h2
          split at hg
          ·simp only[Option.some.injEq]at hg;subst hg
           simp only[bxZ]at hr
           split at hr
           ·rename_i q c hat
            rcases List.mem_cons.1 hr with rfl|hr
            ·unfold gather1 at h1
             split at h1
             ·simp only[Option.some.injEq]at h1;subst h1;simp at hat
             ·simp only[Option.some.injEq]at h1;subst h1;simp at hat
             ·split at h1
              ·rename_i hle
               split at h1
               ·simp only[Option.some.injEq]at h1;subst h1
                simp only[Option.some.injEq,Prod.mk.injEq]at hat
                obtain⟨rfl,_⟩:=hat
                exact (hX.ids _ _ _ hle).1
               ·simp at h1
              ·simp at h1
             ·simp at h1
            ·exact ih vs gs' (fun v hv'=>hv v (List.mem_cons_of_mem _ hv')) h2 hr
           ·exact ih vs gs' (fun v hv'=>hv v (List.mem_cons_of_mem _ hv')) h2 hr
          ·simp at hg
         ·simp at hg
      refine key as _ gs ?_ hg hr
      intro v hv
      have kk:∀{us:List V} {vs:List XV},All2 (fun y v=>WkV y (cV X.roots v)/\okV X.roots X.next X.stamp v) us vs->v∈vs->okV X.roots X.next X.stamp v:=by
       intro us
       induction us with
       | nil=>intro vs ha hm;cases vs with
        | nil=>cases hm
        | cons _ _=>exact ha.elim
       | cons u us ih=>intro vs ha hm;cases vs with
        | nil=>exact ha.elim
        | cons w ws =>
         rcases List.mem_cons.1 hm with rfl|hm
         ·exact ha.1.2
         ·exact ih ha.2 hm
      exact kk hargs hv
     have hAnone:∀r,r<X.next->get (newCs ((resG rs vr).flatMap (·.2)++(bxG as vb).flatten) S.next).2.1 r=none:=by
      intro r hr
      cases hq:get (newCs ((resG rs vr).flatMap (·.2)++(bxG as vb).flatten) S.next).2.1 r with
      | none=>rfl
      | some z=>have:=((newCs_le _ _).2 _ (mem_of_get hq)).1;simp only at this;omega
     obtain⟨r2,b1,b2,b3,b4,b5,b6⟩:=bxX_ok as gs us x vb _ ((newCs ((resG rs vr).flatMap (·.2)++(bxG as vb).flatten) S.next).1.drop ((resG rs vr).flatMap (·.2)).length) n1 n5 grel (fun r hr=>hAnone r (hbxlt r hr)) hbxs
      (by rw[hlenr,List.map_drop];exact wk_drop n6) (fun c hc=>n7 c (List.mem_of_mem_drop hc)) hb
     -- together
     have hext:Ext X X4:=((d2.trans i2).trans n2).trans b3
     have hsameN:Same X2 (newXs (tcellsS (vr++vb)) X2).2 r1 ((newCs ((resG rs vr).flatMap (·.2)++(bxG as vb).flatten) S.next).2.1++r1):=by
      intro r s z hl hs
      have h0:=n2.roots r s z hl hs
      have:=(i1.ids r s z h0).1
      rw[get_append,hAnone r (by rw[<-hnext2];exact this)]
     have hsame:Same X X4 S.roots ((newCs ((resG rs vr).flatMap (·.2)++(bxG as vb).flatten) S.next).2.1++r2) :=
      ((d5.trans i5 d2 i2).trans hsameN (d2.trans i2) n2).trans b5 ((d2.trans i2).trans n2) b3
     have keyC:∀c,okC (newXs (tcellsS (vr++vb)) X2).2.roots (newXs (tcellsS (vr++vb)) X2).2.next (newXs (tcellsS (vr++vb)) X2).2.stamp c->cC X4.roots c=.un\/cC X4.roots c=killCs [] (cC (newXs (tcellsS (vr++vb)) X2).2.roots c):=fun c hc=>bxX_c gs _ _ _ _ _ hc (Nat.le_refl _) (Nat.le_refl _) hb
     refine⟨_,_,h,b2,hext, ?_, ?_,resV (newRes (resG rs vr) (newCs ((resG rs vr).flatMap (·.2)++(bxG as vb).flatten) S.next).1),[],(newCs ((resG rs vr).flatMap (·.2)++(bxG as vb).flatten) S.next).2.1++r2, ?_, ?_,⟨rfl,hsame⟩, ?_⟩
     ·exact okV.ext b3.next b3.stamp b3.roots (resX_okV (resAs_ok _ _ n7))
     ·rw[b6,n3,i6,v1]
     ·have w0:=resX_wk (resAs_wkG rs vr _ _ hres n6 (fun _=>trivial) (by
       rw[newXs_len]
       have:(vr.flatMap encS).length=(tcellsS vr).length:=by rw[<-tcellsS_enc,List.length_map]
       rw[this]
       have key:∀a b:List Sg,(tcellsS a).length<=(tcellsS (a++b)).length:=by
        intro a b
        induction a with
        | nil=>simp [tcellsS]
        | cons v a ih=>simp only[List.cons_append,tcellsS,List.length_append];omega
       exact key vr vb))
      have w1:=wkV_kill (ks:=[]) keyC (resX_okV (resAs_ok _ _ n7)) w0
      have e3:∀v:V,(∀f c,v≠.fn f c)->(∀r n,v≠.sb r n)->v.map (killCs [])=v:=by
       have hk:killCs []=fun c=>c:=by funext c;rfl
       have ha:A.map (fun c=>c)=fun x=>x:=by funext x;cases x<;>simp [A.map]
       intro v h1 h2
       rw[hk]
       cases v with
       | un=>rfl
       | a x=>simp only[V.map,ha]
       | tp xs=>simp only[V.map,ha,List.map_id']
       | fn f c=>exact (h1 f c rfl).elim
       | sb r n=>exact (h2 r n rfl).elim
      rw[e3 _ (by intro f c;unfold resV;split<;>simp) (by intro r n;unfold resV;split<;>simp)]at w1
      exact w1
     ·rw[killEnv_nil]
      have:=b4
      exact⟨rfl,this.fix,this.env,this.roots⟩
     ·intro K hK
      refine⟨argsG as x,_,hC x y hy,_,hf,rt,t1, ?_, ?_,r1, ?_,r2, ?_, ?_⟩
      ·rw[ioZ_fl _ _ hWcd hio,hbx];exact hn2
      ·rw[ioZ_fl _ _ hWcd hio,hbx];exact hseen
      ·exact i4
      ·simp only[outG,hvr,hvb];exact b1
      ·simp only[outG,hvr,hvb]
       have hn4:(newCs ((resG rs vr).flatMap (·.2)++(bxG as vb).flatten) S.next).2.2=X4.next:=by
        rw[<-n4];have:=b4.next;have:=n5.next;simp only at *;omega
       rw[hn4];exact hK
    ·simp at h
   ·simp at h
  ·simp at h
 ·simp at h
theorem callG_ok (hX:XOk X) (hS:SimX X S){e:GEnt P}{args:List Opd}{k:XV->XSt->Option β}(h:callG X e (args.map X.opd) k=some out):ClOk P X S e.f args k out :=
 (callGF_ok hX hS (C:=fun vs w R=>Calls P e.f vs.toArray w R) e.ok (args_sim hX hS args) h).mono fun K h=>.inl h
end
end Go.Vs
namespace Go.Vs
variable [Glb]
def LoopAt (P:Program) (c:Code) (Q:Exit->Act->World->Prop) (a:Act) (w:World):Prop :=
 ∀(b:Frame) (k:List Item) (cs:List Frame),∃e a' w',Q e a' w'/\Arrives P (lone (b.at a (.code c::.inLoop c::k)) cs w) b k cs e a' w'
theorem LoopAt.wp {P:Program}{c:Code}{Q:Exit->Act->World->Prop}{a:Act}{w:World}(h:LoopAt P c Q a w):(Code.loop c).wp P Q a w:=fun b k cs=>by
 obtain⟨e,a',w',hq,harr⟩:=h b k cs
 exact⟨e,a',w',hq,.of_steps (.one step_loop) harr⟩
theorem LoopAt.round {P:Program}{c:Code}{Q:Exit->Act->World->Prop}{a:Act}{w:World}(h:c.wp P (Exit.then (LoopAt P c Q) Q) a w):LoopAt P c Q a w:=fun b k cs=>by
 obtain⟨e,a₁,w₁,hq,harr⟩:=h b (.inLoop c::k) cs
 cases e with
 | normal =>
  obtain⟨e₂,a₂,w₂,hq₂,harr₂⟩:=hq b k cs
  exact⟨e₂,a₂,w₂,hq₂,.of_steps (Steps.trans harr (.one step_inLoop)) harr₂⟩
 | exit id=>exact⟨_,a₁,w₁,hq,.pass (x:=.inLoop c) rfl (fun _ _=>.inl (by simp)) harr⟩
 | goto l=>exact⟨_,a₁,w₁,hq,.pass (x:=.inLoop c) rfl (fun _ _=>.inl (by simp)) harr⟩
 | ret=>exact⟨_,a₁,w₁,hq,.pass (x:=.inLoop c) rfl (fun _ _=>.inl (by simp)) harr⟩
 | panic ch=>exact⟨_,a₁,w₁,hq,.pass (x:=.inLoop c) rfl (fun _ _=>.inl (by simp)) harr⟩
 | outgrown=>exact⟨_,a₁,w₁,hq,.pass (x:=.inLoop c) rfl (fun _ _=>.inl (by simp)) harr⟩
def VwL (P:Program) (N:Nat) (c:Code) (S:St) (Q:Exit->St->Prop):Prop :=
 ∀(w0:World) (own0:Nat->Nat->Prop) (pl0:Pls) (g:Lab) (pl:Pls) (a:Act) (w:World),Rel N w0 own0 pl0 g pl S a w->LoopAt P c (PQ N w0 own0 pl0 S.fix Q) a w
variable {P:Program} {N:Nat} {S:St} {Q:Exit->St->Prop}
theorem vwl_vw {c:Code}(h:VwL P N c S Q):Vw P N (.loop c) S Q:=fun w0 own0 pl0 g pl a w hR=>(h w0 own0 pl0 g pl a w hR).wp
theorem vwl_round {c:Code}(h:Vw P N c S (thenQ (fun S'=>VwL P N c S' Q) Q)):VwL P N c S Q:=fun w0 own0 pl0 g pl a w hR=>by
 refine LoopAt.round (wp_mono (h w0 own0 pl0 g pl a w hR) ?_)
 rintro e a' w' ⟨S',g',pl',q,hf,r⟩
 cases e with
 | normal =>
  have:=q w0 own0 pl0 g' pl' a' w' r
  rw[hf]at this
  exact this
 | exit id=>exact⟨S',g',pl',q,hf,r⟩
 | goto l=>exact⟨S',g',pl',q,hf,r⟩
 | ret=>exact⟨S',g',pl',q,hf,r⟩
 | panic ch=>exact⟨S',g',pl',q,hf,r⟩
 | outgrown=>exact⟨S',g',pl',q,hf,r⟩
theorem vwl_le {c:Code}{T:St}(hl:Le S T) (h:VwL P N c T Q):VwL P N c S Q:=fun w0 own0 pl0 g pl a w hR=>by
 obtain⟨g1,pl1,hR1⟩:=hl.2 N w0 own0 pl0 g pl a w hR
 have:=h w0 own0 pl0 g1 pl1 a w hR1
 rw[hl.1]at this
 exact this
theorem vwl_inv {c:Code}(I:Nat->St->Prop) (hr:∀k T,I k T->Vw P N c T (thenQ (fun S'=>∃k' T',k'<k/\I k' T'/\Le S' T') Q)):∀(n:Nat) (T:St),I n T->VwL P N c T Q:=by
 intro n
 induction n using Nat.strongRecOn with
 | _ n ih =>
  intro T hT
  refine vwl_round fun w0 own0 pl0 g pl a w hR=>?_
  refine wp_mono (hr n T hT w0 own0 pl0 g pl a w hR) ?_
  rintro e a' w' ⟨S',g',pl',q,hf,r⟩
  refine⟨S',g',pl', ?_,hf,r⟩
  cases e with
  | normal =>
   obtain⟨k',T',hk,hI',hl'⟩:=q
   exact vwl_le hl' (ih k' hk T' hI')
  | exit id=>exact q
  | goto l=>exact q
  | ret=>exact q
  | panic ch=>exact q
  | outgrown=>exact q
def SwL (P:Program) (N:Nat) (s:Stm) (S:St) (Q:Exit->St->Prop):Prop:=∀c,trC P N c=some s->VwL P N c S Q
theorem sw_of_l {x:Stm}(h:SwL P N x S Q):Sw P N (.loop x) S Q:=fun c hc=>by
 cases c with
 | loop a =>
  simp only[trC,Option.map_eq_some_iff,Stm.loop.injEq]at hc
  obtain⟨x',hx,rfl⟩:=hc
  exact vwl_vw (h a hx)
 | region id ops d=>cases d<;>simp [trC]at hc
 | seq a b=>simp [trC,Option.bind_eq_bind,Option.bind_eq_some_iff]at hc
 | cond c a b=>simp [trC,Option.bind_eq_bind,Option.bind_eq_some_iff]at hc
 | _=>simp [trC]at hc
theorem swl_round {x:Stm}(h:Sw P N x S (thenQ (fun S'=>SwL P N x S' Q) Q)):SwL P N x S Q:=fun c hc=>by
 refine vwl_round fun w0 own0 pl0 g pl a w hR=>?_
 refine wp_mono (h c hc w0 own0 pl0 g pl a w hR) ?_
 rintro e a' w' ⟨S',g',pl',q,hf,r⟩
 refine⟨S',g',pl', ?_,hf,r⟩
 cases e with
 | normal=>exact q c hc
 | exit id=>exact q
 | goto l=>exact q
 | ret=>exact q
 | panic ch=>exact q
 | outgrown=>exact q
theorem swl_inv {x:Stm}(I:Nat->St->Prop) (n:Nat) (h0:∃T,I n T/\Le S T) (hr:∀k T,I k T->Sw P N x T (thenQ (fun S'=>∃k' T',k'<k/\I k' T'/\Le S' T') Q)):SwL P N x S Q:=fun c hc=>by
 obtain⟨T,hT,hl⟩:=h0
 exact vwl_le hl (vwl_inv I (fun k T hI=>hr k T hI c hc) n T hT)
end Go.Vs
namespace Go.Vs
variable [Glb]
def RunL (P:Program):List GI->St->(St->Prop)->Prop
 | [],S,K=>∃T,Le S T/\K T
 | g::l,S,K=>∃T,Le S T/\stepO P g T fun S'=>RunL P l S' K
section
variable {P:Program} {N:Nat} {S:St} {Q:Exit->St->Prop}
theorem runL_ok {ops:Array Oper}{w0:World}{own0:Nat->Nat->Prop}{pl0:Pls}{fx:Nat}:∀(l:List Oper) (k:Nat) (gis:List GI) (S:St) (g:Lab) (pl:Pls) (a:Act) (w:World),(∀j,l[j]? = ops[k+j]?)->trOpers P N ops l=some gis->S.fix=fx->Rel N w0 own0 pl0 g pl S a w->RunL P gis S (Q .normal) ->
  wpOps P ops (PQ N w0 own0 pl0 fx Q) (List.range' k l.length) a w
 | [],k,gis,S,g,pl,a,w,_,ht,hf,hR,h=>by
  simp only[trOpers,Option.some.injEq]at ht;subst ht
  obtain⟨T,hl,hK⟩:=h
  obtain⟨g',pl',hR'⟩:=hl.2 N w0 own0 pl0 g pl a w hR
  exact⟨T,g',pl',hK,hl.1.trans hf,hR'⟩
 | o::l,k,gis,S,g,pl,a,w,hl,ht,hf,hR,h=>by
  simp only[trOpers,Option.bind_eq_bind,Option.bind_eq_some_iff,Option.some.injEq]at ht
  obtain⟨gi,hgi,gs,hgs,rfl⟩:=ht
  obtain⟨T,hle,h⟩:=h
  obtain⟨g',pl',hR'⟩:=hle.2 N w0 own0 pl0 g pl a w hR
  simp only[List.length_cons,List.range'_succ]
  rw[wpOps_cons]
  have h0:ops[k]? = some o:=by simpa using (hl 0).symm
  refine stepO_ok hR' h0 hgi h ?_
  intro S' g2 pl2 a' w' hf' hK hR2
  exact runL_ok l (k+1) gs S' g2 pl2 a' w' (fun j=>by have:=hl (j+1);simpa [Nat.add_assoc,Nat.add_comm 1 j] using this) hgs (by rw[hf',hle.1,hf]) hR2 hK
theorem vw_regionL {id:Nat}{ops:Array Oper}{gis:List GI}(ht:trOpers P N ops ops.toList=some gis) (h:RunL P gis S (Q .normal)):Vw P N (.region id ops false) S Q:=fun w0 own0 pl0 g pl a w hR=>by
 refine wp_region ?_
 rw[List.range_eq_range',<-Array.length_toList]
 exact runL_ok ops.toList 0 gis S g pl a w (by simp) ht rfl hR h
theorem sw_regL {gis:List GI}(h:RunL P gis S (Q .normal)):Sw P N (.reg gis) S Q:=fun c hc=>by
 cases c with
 | region id ops d =>
  cases d with
  | false =>
   simp only[trC,Option.map_eq_some_iff,Stm.reg.injEq]at hc
   obtain⟨gs,hg,rfl⟩:=hc
   exact vw_regionL hg h
  | true=>simp [trC]at hc
 | seq a b=>simp [trC,Option.bind_eq_bind,Option.bind_eq_some_iff]at hc
 | cond c a b=>simp [trC,Option.bind_eq_bind,Option.bind_eq_some_iff]at hc
 | _=>simp [trC]at hc
theorem stepO_mono {g:GI}{K K':St->Prop}(h:stepO P g S K) (hk:∀S',K S'->K' S'):stepO P g S K':=by
 have e:∀j:J,evJ P S (fun x ks roots nx=>K ⟨setEnv g.dst x (killEnv ks S.env),roots,nx,S.fix⟩) j->evJ P S (fun x ks roots nx=>K' ⟨setEnv g.dst x (killEnv ks S.env),roots,nx,S.fix⟩) j:=by
  intro j hj
  obtain⟨x,ks,r,n,h1,h2⟩:=evJ_ext hj
  exact h2 _ (hk _ h1)
 unfold stepO at h ⊢
 split at h
 ·rename_i hg;exact e _ h
 ·rename_i t want hg
  split at h
  ·exact⟨fun hb=>e _ (h.1 hb),fun hb=>hk _ (h.2 hb)⟩
  ·exact hk _ h
  ·exact h.elim
theorem runL_app {K:St->Prop}:∀(l l':List GI) (S:St),RunL P l S (fun S'=>RunL P l' S' K)->RunL P (l++l') S K
 | [],[],S,h=>by
  obtain⟨T,h1,U,h2,h3⟩:=h
  exact⟨U,h1.trans h2,h3⟩
 | [],g::l',S,h=>by
  obtain⟨T,h1,U,h2,h3⟩:=h
  exact⟨U,h1.trans h2,h3⟩
 | g::l,l',S,h=>by
  obtain⟨T,h1,h2⟩:=h
  exact⟨T,h1,stepO_mono h2 fun S' h=>runL_app l l' S' h⟩
end
structure CEnt (P:Program) where
 f:FuncId
 F:List UInt8->Option Int
 ok:∀x h,F x=some h->Makes P f (.sl 1 (x.map (encT .Y))) [.int .i64 0,.int .i64 h]
def curX {P:Program}{β:Type}(X:XSt) (e:CEnt P) (vs:List XV) (k:XV->XSt->Option β):Option β:=match vs with
 | [.a (.c c)]=>readT X.roots (.L .Y) [c] fun x rest=>match rest with
  | []=>bnd (e.F x) fun h=>k (.a (.c (.pb X.next 0))) (X.newR (.bx [(X.stamp,c),(X.stamp,.i .i64 0),(X.stamp,.i .i64 h)]))
  | _=>none
 | _=>none
theorem curX_ok {P:Program}{β:Type}{X:XSt}{S:St}{out:β}(hX:XOk X) (hS:SimX X S){e:CEnt P}{args:List Opd}{k:XV->XSt->Option β}(h:curX X e (args.map X.opd) k=some out):ClOk P X S e.f args k out:=by
 unfold curX at h
 split at h
 ·rename_i c hc
  have ha:=args_sim hX hS args
  rw[hc]at ha
  match hy:args.map S.opd,ha with
  | [y],ha =>
  obtain⟨⟨hw,ho⟩,_⟩:=ha
  obtain⟨x,c0,rest,hcc,h,hcd⟩:=readT_ok (nx:=X.next) (st:=X.stamp) (.L .Y) [c] _ out (fun c' hc=>by simp only[List.mem_singleton]at hc;subst hc;exact ho) h
  split at h
  ·rw[List.append_nil]at hcc
   subst hcc
   obtain⟨z,hz,h⟩:=bnd_some h
   have hcd1:CD X.roots c (.sl 1 (x.map (encT .Y))):=hcd.1
   have hyc:=hw.c hcd1.ne
   have hnx:S.next=X.next:=hS.next
   have hM:=e.ok x z hz
   obtain⟨f1,f2,f3⟩:=newR_ok (x:=.bx [(X.stamp,c),(X.stamp,.i .i64 0),(X.stamp,.i .i64 z)]) (y:=.bx [cC X.roots c,.lf (.int .i64 0),.lf (.int .i64 z)]) (E:=S.env) (R:=S.roots) (n:=S.next) (f:=S.fix) hX hS (fun cs' h e he=>by
    simp only[XR.bx.injEq]at h
    subst h
    simp only[List.mem_cons,List.not_mem_nil,or_false]at he
    rcases he with rfl|rfl|rfl
    ·exact⟨rfl,ho⟩
    ·exact⟨rfl,trivial⟩
    ·exact⟨rfl,trivial⟩) ⟨_,rfl,⟨WkC.refl _,WkC.refl _,WkC.refl _,trivial⟩⟩
   refine⟨_,_,h,f1,f2,Nat.lt_succ_self _,rfl,.a (.c (.pb S.next 0)),[],(S.next,.bx [cC X.roots c,.lf (.int .i64 0),.lf (.int .i64 z)])::S.roots,pb_wk hnx, ?_,⟨rfl,fun r s x hl hs=>?_⟩,fun K hK=>?_⟩
   ·rw[killEnv_nil,hnx];exact f3
   ·simp only[XSt.newR]at hl
    rw[lk_cons]at hl
    split at hl
    ·simp only[Option.some.injEq,Prod.mk.injEq]at hl;omega
    ·rename_i hne
     simp only[get]
     rw[if_neg (by rw[hnx];exact hne)]
   ·refine .inr (.inr (.inr ⟨cC X.roots c,_,_,by rw[hy,hyc],hM,cd_sees hS hcd1, ?_⟩))
    rw[hnx];rw[hnx]at hK;exact hK
  ·simp at h
 ·simp at h
structure HEnt (P:Program) where
 f:FuncId
 g:FuncId
 n:Nat
 args:List GArg
 res:List (Bool×Ty)
 F:Tp (argTys args)->Option (Tp (outTys args res))
 ok:∀x y,F x=some y->RunsC (fun ws w R=>Calls P f (wrapF n g ws).toArray w R) (argsG args x) (outG args res (spread _ y))
def vaX:List XA->List XV
 | []=>[]
 | a::l=>.a a::vaX l
def appV:List XV->List XV->List XV
 | [],r=>r
 | a::l,r=>a::appV l r
def cutV {β:Type}:Nat->List XV->List XV->(List XV->FuncId->List XA->Option β)->Option β
 | 0,[v],acc,k=>match v with
  | .fn g cs=>k acc g cs
  | _=>none
 | n+1,v::l,acc,k=>cutV n l (appV acc [v]) k
 | _,_,_,_=>none
def callH {P:Program}{β:Type}(X:XSt) (e:HEnt P) (vs:List XV) (k:XV->XSt->Option β):Option β :=
 cutV e.n vs [] fun us g cs=>match Nat.beq g e.g with
  | true=>callGF X e.args e.res e.F (appV us (vaX cs)) k
  | false=>none
theorem appV_eq:∀(l r:List XV),appV l r=l++r
 | [],r=>rfl
 | a::l,r=>by simp only[appV,appV_eq l r,List.cons_append]
theorem vaX_eq:∀l:List XA,vaX l=l.map XV.a
 | []=>rfl
 | a::l=>by simp only[vaX,vaX_eq l,List.map_cons]
theorem cutV_ok {β:Type}{out:β}:∀(n:Nat) (vs acc:List XV){k:List XV->FuncId->List XA->Option β},cutV n vs acc k=some out->∃us g cs,vs=us++[.fn g cs]/\us.length=n/\k (acc++us) g cs=some out
 | 0,[],acc,k,h=>by simp [cutV]at h
 | 0,v::w::l,acc,k,h=>by simp [cutV]at h
 | 0,[v],acc,k,h=>by
  simp only[cutV]at h
  split at h
  ·exact⟨[],_,_,rfl,rfl,by simpa using h⟩
  ·cases h
 | n+1,[],acc,k,h=>by simp [cutV]at h
 | n+1,v::l,acc,k,h=>by
  simp only[cutV]at h
  obtain⟨us,g,cs,rfl,h1,h2⟩:=cutV_ok n l _ h
  refine⟨v::us,g,cs,rfl,by simp [h1], ?_⟩
  rw[appV_eq]at h2
  simpa using h2
theorem all2_va2 {X:XSt}:∀{ys:List A}{cs:List XA},All2 WkA ys (cs.map (cA X.roots))->(∀x∈cs,okA X.roots X.next X.stamp x)->All2 (fun y v=>WkV y (cV X.roots v)/\okV X.roots X.next X.stamp v) (ys.map V.a) (cs.map XV.a)
 | [],[],_,_=>trivial
 | y::ys,c::cs,h,ho=>⟨⟨h.1,ho c List.mem_cons_self⟩,all2_va2 h.2 fun x hx=>ho x (List.mem_cons_of_mem _ hx)⟩
 | [],_::_,h,_=>h.elim
 | _::_,[],h,_=>h.elim
theorem all2_splitR {α β:Type}{R:α->β->Prop}:∀{as:List α}{bs cs:List β},All2 R as (bs++cs)->∃a1 a2,as=a1++a2/\All2 R a1 bs/\All2 R a2 cs
 | as,[],cs,h=>⟨[],as,rfl,trivial,h⟩
 | [],b::bs,cs,h=>h.elim
 | a::as,b::bs,cs,h=>by
  obtain⟨a1,a2,rfl,h1,h2⟩:=all2_splitR h.2
  exact⟨a::a1,a2,rfl,⟨h.1,h1⟩,h2⟩
theorem callH_ok {P:Program}{β:Type}{X:XSt}{S:St}{out:β}(hX:XOk X) (hS:SimX X S){e:HEnt P}{args:List Opd}{k:XV->XSt->Option β}(h:callH X e (args.map X.opd) k=some out):ClOk P X S e.f args k out:=by
 unfold callH at h
 obtain⟨us,g,cs,hvs,hn,h⟩:=cutV_ok _ _ _ h
 simp only[List.nil_append]at h
 split at h
 case h_2=>cases h
 rename_i hb
 have hg:=Nat.eq_of_beq_eq_true hb
 subst hg
 rw[appV_eq,vaX_eq]at h
 have ha:=args_sim hX hS args
 rw[hvs]at ha
 obtain⟨y1,y2,hy,h1,h2⟩:=all2_splitR ha
 match y2,h2 with
 | [y],h2 =>
  obtain⟨⟨hw,ho⟩,_⟩:=h2
  cases y with
  | fn q caps =>
   obtain⟨rfl,hw⟩:=hw
   have hl:=h1.length
   refine (callGF_ok hX hS e.ok (All2.append h1 (all2_va2 hw ho)) h).mono fun K hK=>.inr (.inr (.inl ⟨y1,e.g,caps,hy, ?_⟩))
   rw[show y1.length=e.n by omega]
   exact hK
  | _=>exact hw.elim
inductive Fx (P:Program) where
 | see (e:SEnt P)
 | gen (e:GEnt P)
 | cur (e:CEnt P)
 | hof (e:HEnt P)
 | fs (e:SEnt P) (h:bodied P e.f=true)
 | fv (e:GEnt P) (h:bodied P e.f=true)
def Fx.f {P:Program}:Fx P->FuncId
 | .see e=>e.f
 | .gen e=>e.f
 | .cur e=>e.f
 | .hof e=>e.f
 | .fs e _=>e.f
 | .fv e _=>e.f
def findE {P:Program}:List (Fx P)->FuncId->Option (Fx P)
 | [],_=>none
 | e::l,f=>match Nat.beq e.f f with
  | true=>some e
  | false=>findE l f
theorem findE_f {P:Program}{f:FuncId}{e:Fx P}:∀{l:List (Fx P)},findE l f=some e->e.f=f
 | [],h=>by simp [findE]at h
 | x::l,h=>by
  simp only[findE]at h
  split at h
  ·rename_i hb
   simp only[Option.some.injEq]at h
   subst h
   exact Nat.eq_of_beq_eq_true hb
  ·exact findE_f h
def hnt (H:List (Nat×Hn)) (d:Option Nat):Hn:=match d with
 | none=>.no
 | some t=>match H with
  | []=>.no
  | (q,h)::l=>match Nat.beq q t with
   | true=>h
   | false=>hnt l (some t)
def calvX {P:Program}{β:Type}(Φ:List (Fx P)) (X:XSt) (f:Opd) (args:List Opd) (k:XV->XSt->Option β):Option β:=match X.opd f with
 | .fn g cs=>match findE Φ g with
  | some (.fs e _)=>seeX X e (appV (args.map X.opd) (vaX cs)) k
  | some (.fv e _)=>callG X e (appV (args.map X.opd) (vaX cs)) k
  | _=>none
 | _=>none
theorem calvX_ok {P:Program}{β:Type}{Φ:List (Fx P)}{X:XSt}{S:St}{out:β}(hX:XOk X) (hS:SimX X S){f:Opd}{args:List Opd}{k:XV->XSt->Option β}(h:calvX Φ X f args k=some out):ClT X S (fun K=>evJ P S K (.wr (.calv f args))) k out:=by
 unfold calvX at h
 split at h
 case h_2=>cases h
 rename_i g cs hf
 have h1:=opd_sim hS f
 have h2:=opd_okV hX f
 rw[hf]at h1 h2
 have ha:=args_sim hX hS args
 rw[appV_eq,vaX_eq]at h
 cases hy:S.opd f with
 | fn q caps =>
  rw[hy]at h1
  obtain⟨rfl,hw⟩:=h1
  have hall:=All2.append ha (all2_va2 hw h2)
  split at h
  ·rename_i e hb he
   have:=findE_f he
   simp only[Fx.f]at this
   subst this
   exact (seeV_ok hX hS hall h).mono fun K hK=>⟨_,_,hy,hb,.inr (.inl hK)⟩
  ·rename_i e hb he
   have:=findE_f he
   simp only[Fx.f]at this
   subst this
   exact (callGF_ok hX hS (C:=fun vs w R=>Calls P e.f vs.toArray w R) e.ok hall h).mono fun K hK=>⟨_,_,hy,hb,.inl hK⟩
  ·cases h
 | _=>rw[hy]at h1;exact h1.elim
def doX {P:Program}{β:Type}(Φ:List (Fx P)) (H:List (Nat×Hn)) (g:GI) (X:XSt) (k:XSt->Option β):Option β:=match g.op with
 | .rd i=>rdX X i fun v=>k (X.put g.dst v)
 | .wr j=>match j with
  | .call f args=>match findE Φ f with
   | some (.see e)=>seeX X e (args.map X.opd) fun v X'=>k (X'.put g.dst v)
   | some (.gen e)=>callG X e (args.map X.opd) fun v X'=>k (X'.put g.dst v)
   | some (.cur e)=>curX X e (args.map X.opd) fun v X'=>k (X'.put g.dst v)
   | some (.hof e)=>callH X e (args.map X.opd) fun v X'=>k (X'.put g.dst v)
   | _=>none
  | .calv f args=>calvX Φ X f args fun v X'=>k (X'.put g.dst v)
  | j=>wrX X (hnt H g.dst) j fun v X'=>k (X'.put g.dst v)
def XSt.know (X:XSt) (t:Nat) (b:Bool):XSt:=X.put (some t) (.a (.c (.b b)))
def XSt.knowO (X:XSt) (c:Opd) (b:Bool):XSt:=match c with
 | .t n=>X.know n b
 | .k _=>X
def stepX {P : Program} {β : Type} (Φ : List (Fx P)) (H : List (Nat × Hn)) (g : GI) (X : XSt) (k : XSt → Option β) : Option β := match g.guard with
  | none => doX Φ H g X k
  | some (t, want) => match lk X.env t with
    | some (_, .a (.c (.b b))) => cnd b
      (match want with
        | true => doX Φ H g (X.know t true) k
        | false => k ((X.know t true).put g.dst (.tp [])))
      (match want with
        | true => k ((X.know t false).put g.dst (.tp []))
        | false => doX Φ H g (X.know t false) k)
    | some (_, .tp _) => k (X.put g.dst (.tp []))
    | _ => none
def runO {P:Program}{β:Type}(Φ:List (Fx P)) (H:List (Nat×Hn)):List GI->XSt->(XSt->Option β)->Option β
 | [],X,k=>k X
 | g::l,X,k=>stepX Φ H g X fun X'=>runO Φ H l X' k
def runG {P:Program}{β:Type}(Φ:List (Fx P)) (H:List (Nat×Hn)):List (Nat×List It)->List GI->XSt->(XSt->Option β)->Option β
 | [],gis,X,k=>runO Φ H gis X k
 | (n,its)::l,gis,X,k=>joinX (runO (β:=Tp (It.tys its) ⊕ β) Φ H (gis.take n) X fun X'=>packN X X' its fun s=>some (.inl s)) fun s=>runG Φ H l (gis.drop n) (unpackX X its s) k
def locX (X:XSt) (i:I):List Nat:=match i with
 | .load _ x=>match X.opd x with
  | .a (.c (.pe r _ _ _ _ _ _))=>[r]
  | .a (.c (.pb r _))=>[r]
  | _=>[]
 | .b2s x=>match X.opd x with
  | .a (.c (.rw r))=>[r]
  | .a (.c (.rv r _ _))=>[r]
  | .a (.c (.rf r _ _ _ _ _))=>[r]
  | _=>[]
 | _=>[]
def locJ (X:XSt) (j:J):List Nat:=match j with
 | .rd i=>locX X i
 | .wr _=>[]
def stampsX (R:XRs):List Nat->List (Nat×Nat)
 | []=>[]
 | r::l=>match lk R r with
  | some (s,_)=>(r,s)::stampsX R l
  | none=>stampsX R l
def isLk (R:XRs):List Nat->Bool
 | []=>true
 | r::l=>match lk R r with
  | some _=>isLk R l
  | none=>false
def sameL (R:XRs):List (Nat×Nat)->Bool
 | []=>true
 | (r,s)::l=>verOk R r s&&sameL R l
def sameH (l:List (Nat×Nat)):List XRs->Bool
 | []=>true
 | R::h=>sameL R l&&sameH l h
abbrev XPend:=List (List (Nat×Nat)×Nat)
def sameP (R:XRs) (n:Nat):XPend->Bool
 | []=>true
 | (l,hi)::ps=>(match Nat.ble n hi with
  | true=>sameL R l
  | false=>true)&&sameP R n ps
def doD {P:Program}{β:Type}(Φ:List (Fx P)) (H:List (Nat×Hn)) (g:GI) (X:XSt) (k:XV->XSt->Option β):Option β:=match g.op with
 | .rd i=>rdX X i fun v=>k v X
 | .wr j=>match j with
  | .call f args=>match findE Φ f with
   | some (.see e)=>seeX X e (args.map X.opd) k
   | some (.gen e)=>callG X e (args.map X.opd) k
   | some (.cur e)=>curX X e (args.map X.opd) k
   | some (.hof e)=>callH X e (args.map X.opd) k
   | _=>none
  | .calv f args=>calvX Φ X f args k
  | j=>match plainW X j with
   | true=>wrX X (hnt H g.dst) j k
   | false=>none
def stepD {P : Program} {β : Type} (Φ : List (Fx P)) (H : List (Nat × Hn)) (g : GI) (X : XSt) (k : List Nat → XV → XSt → Option β) : Option β := match g.guard with
  | none => doD Φ H g X fun v X' => k (locJ X g.op) v X'
  | some (t, want) => match lk X.env t with
    | some (_, .a (.c (.b b))) => cnd b
      (match want with
        | true => doD Φ H g (X.know t true) fun v X' => k (locJ (X.know t true) g.op) v X'
        | false => k [] (.tp []) (X.know t true))
      (match want with
        | true => k [] (.tp []) (X.know t false)
        | false => doD Φ H g (X.know t false) fun v X' => k (locJ (X.know t false) g.op) v X')
    | some (_, .tp _) => k [] (.tp []) X
    | _ => none
def noPend (m:Nat):XPend->Bool
 | []=>true
 | (_,hi)::l=>Nat.ble hi m&&noPend m l
def lastOk (n:Nat) (it:DI) (l:List DI) (m:Nat) (pend:XPend):Bool:=match l with
 | []=>it.w&&((List.range (n-1)).all (fun b=>it.anc.contains b)&&noPend m pend)
 | _=>false
def drawX {P:Program}{β:Type}(Φ:List (Fx P)) (H:List (Nat×Hn)) (n:Nat):List DI->XSt->List XRs->XPend->(XSt->Option β)->Option β
 | [],X,_,_,k=>k X
 | it::l,X,hist,pend,k=>match lastOk n it l hist.length pend with
  | true=>stepX Φ H it.gi X k
  | false=>stepD Φ H it.gi X fun loc v X'=>match it.w with
  | true=>match sameP X'.roots (hist.length+1) pend with
   | true=>drawX Φ H n l (X'.put it.gi.dst v) (X.roots::hist) pend k
   | false=>none
  | false=>match isLk X'.roots loc&&sameH (stampsX X'.roots loc) (hist.take (hist.length-it.lo)) with
   | true=>drawX Φ H n l (X'.put it.gi.dst v) hist (match Nat.blt hist.length it.hi with
    | true=>(stampsX X'.roots loc,it.hi)::pend
    | false=>pend) k
   | false=>none
inductive An where
 | d
 | rg (l:List (Nat×List It))
 | sq (j:Option (List It)) (a b:An)
 | cd (a b:An)
 | bl (a:An)
 | lp (its:List It) (a:An)
 | pl (a:An) (its:List It) (b:An)
open Classical in
noncomputable def alt2 {β:Type}(a b:Option β):Option β:=if a=b then a else none
theorem alt2_self {β:Type}(a:Option β):alt2 a a=a:=by unfold alt2;rw[if_pos rfl]
theorem alt2_some {β:Type}{a b:Option β}{r:β}(h:alt2 a b=some r):a=some r/\b=some r:=by
 unfold alt2 at h
 split at h
 ·rename_i e;exact⟨h,by rw[<-e];exact h⟩
 ·cases h
noncomputable def altX {β:Type}(f:List DI->Option β):List (List DI)->Option β
 | []=>none
 | its::l=>match l with
  | []=>f its
  | _=>alt2 (f its) (altX f l)
theorem altX_some {β:Type}{f:List DI->Option β}{r:β}:∀{l:List (List DI)},altX f l=some r->∀its∈l,f its=some r
 | [],h,its,hi=>by cases hi
 | x::l,h,its,hi=>by
  simp only[altX]at h
  split at h
  ·rcases List.mem_cons.1 hi with rfl|hi
   ·exact h
   ·cases hi
  ·obtain⟨h1,h2⟩:=alt2_some h
   rcases List.mem_cons.1 hi with rfl|hi
   ·exact h1
   ·exact altX_some h2 its hi
noncomputable def runX {P:Program}(Φ:List (Fx P)) (H:List (Nat×Hn)):Stm->An->{β:Type}->XSt->(Exit->XSt->Option β)->Option β
 | .reg gis,an,_,X,k=>match an with
  | .rg l=>runG Φ H l gis X (k .normal)
  | _=>runO Φ H gis X (k .normal)
 | .seq x y,an,β,X,k=>match an with
  | .sq (some its) a b=>joinX (runX Φ H x a (β:=Tp (It.tys its) ⊕ β) X fun e X'=>match e with
    | .normal=>packN X X' its fun s=>some (.inl s)
    | e=>outX (k e X')) fun s=>runX Φ H y b (unpackX X its s) k
  | .sq none a b=>runX Φ H x a X fun e X'=>match e with
    | .normal=>runX Φ H y b X' k
    | e=>k e X'
  | _=>runX Φ H x .d X fun e X'=>match e with
    | .normal=>runX Φ H y .d X' k
    | e=>k e X'
 | .cond c x y,an,_,X,k=>match X.opd c with
  | .a (.c (.b t))=>match an with
   | .cd a b=>cnd t (runX Φ H x a (X.knowO c true) k) (runX Φ H y b (X.knowO c false) k)
   | _=>cnd t (runX Φ H x .d (X.knowO c true) k) (runX Φ H y .d (X.knowO c false) k)
  | _=>none
 | .block id x,an,_,X,k=>runX Φ H x (match an with|.bl a=>a|_=>.d) X fun e X'=>match e with
  | .exit id'=>match Nat.beq id' id with
   | true=>k .normal X'
   | false=>k (.exit id') X'
  | e=>k e X'
 | .loop x,an,β,X,k=>match an with
  | .lp its a=>packN X X its fun s=>loopX (fun s=>runX Φ H x a (β:=Tp (It.tys its) ⊕ β) (unpackX X its s) fun e X'=>match e with
    | .normal=>packN X X' its fun s=>some (.inl s)
    | e=>outX (k e X')) s
  | .pl a1 its a=>runX Φ H x a1 X fun e X1=>match e with
    | .normal=>packN X1 X1 its fun s=>loopX (fun s=>runX Φ H x a (β:=Tp (It.tys its) ⊕ β) (unpackX X1 its s) fun e X'=>match e with
      | .normal=>packN X1 X' its fun s=>some (.inl s)
      | e=>outX (k e X')) s
    | e=>k e X1
  | _=>none
 | .exit id,_,_,X,k=>k (.exit id) X
 | .ret,_,_,X,k=>k .ret X
 | .skip,_,_,X,k=>k .normal X
 | .drw its,_,_,X,k=>match okD its with
  | true=>drawX Φ H its.length its X [] [] (k .normal)
  | false=>none
 | .alt l,_,_,X,k=>altX (fun its=>match okD its with
  | true=>drawX Φ H its.length its X [] [] (k .normal)
  | false=>none) l
section
variable {P:Program} {N:Nat} {β:Type} {out:β} {Φ:List (Fx P)} {H:List (Nat×Hn)}
theorem know_ok {X:XSt}{S:St}(hX:XOk X) (hS:SimX X S){t:Nat}{b:Bool}{s:Nat}(hl:lk X.env t=some (s,.a (.c (.b b)))):XOk (X.know t b)/\Ext X (X.know t b)/\SimX (X.know t b) S:=by
 obtain⟨a,c⟩:=put_ok hX (d:=some t) (v:=.a (.c (.b b))) trivial
 refine⟨a,c,⟨hS.next,hS.fix, ?_,hS.roots⟩⟩
 intro q s' v hq
 simp only[XSt.know,XSt.put]at hq
 rw[lk_cons]at hq
 split at hq
 ·rename_i e
  simp only at e;subst e
  simp only[Option.some.injEq,Prod.mk.injEq]at hq
  obtain⟨_,rfl⟩:=hq
  exact hS.env _ _ _ hl
 ·exact hS.env q s' v hq
theorem doX_ok {X:XSt}{S:St}(hX:XOk X) (hS:SimX X S){g:GI}{k:XSt->Option β}(h:doX Φ H g X k=some out){K:St->Prop}
  (hk:∀X' S',XOk X'->Ext X X'->SimX X' S'->k X'=some out->K S'):evJ P S (fun x ks roots nx=>K ⟨setEnv g.dst x (killEnv ks S.env),roots,nx,S.fix⟩) g.op:=by
 unfold doX at h
 split at h
 ·rename_i i hop
  rw[hop]
  obtain⟨xv,h,ho,v,hw,hev⟩:=rdX_ok hX hS h
  show ev S (fun v=>K ⟨setEnv g.dst v (killEnv [] S.env),S.roots,S.next,S.fix⟩) i
  refine hev _ ?_
  obtain⟨a,b⟩:=put_ok hX (d:=g.dst) ho
  exact hk _ _ a b (sim_put hS hw) h
 ·rename_i j hop
  rw[hop]
  split at h
  ·rename_i f args
   split at h
   ·rename_i e he
    have hf:=findE_f he
    simp only[Fx.f]at hf
    subst hf
    obtain⟨xv,X',h,h1,h2,h3,h4,v,ks,roots,h5,h6,_,h7⟩:=seeX_ok hX hS h
    refine h7 _ ?_
    obtain⟨a,b⟩:=put_ok h1 (d:=g.dst) h3
    exact hk _ _ a (h2.trans b) (sim_put h6 h5) h
   ·rename_i e he
    have hf:=findE_f he
    simp only[Fx.f]at hf
    subst hf
    obtain⟨xv,X',h,h1,h2,h3,h4,v,ks,roots,h5,h6,_,h7⟩:=callG_ok hX hS h
    refine h7 _ ?_
    obtain⟨a,b⟩:=put_ok h1 (d:=g.dst) h3
    exact hk _ _ a (h2.trans b) (sim_put h6 h5) h
   ·rename_i e he
    have hf:=findE_f he
    simp only[Fx.f]at hf
    subst hf
    obtain⟨xv,X',h,h1,h2,h3,h4,v,ks,roots,h5,h6,_,h7⟩:=curX_ok hX hS h
    refine h7 _ ?_
    obtain⟨a,b⟩:=put_ok h1 (d:=g.dst) h3
    exact hk _ _ a (h2.trans b) (sim_put h6 h5) h
   ·rename_i e he
    have hf:=findE_f he
    simp only[Fx.f]at hf
    subst hf
    obtain⟨xv,X',h,h1,h2,h3,h4,v,ks,roots,h5,h6,_,h7⟩:=callH_ok hX hS h
    refine h7 _ ?_
    obtain⟨a,b⟩:=put_ok h1 (d:=g.dst) h3
    exact hk _ _ a (h2.trans b) (sim_put h6 h5) h
   ·simp at h
  ·rename_i f args
   obtain⟨xv,X',h,h1,h2,h3,h4,v,ks,roots,h5,h6,_,h7⟩:=calvX_ok hX hS h
   refine h7 _ ?_
   obtain⟨a,b⟩:=put_ok h1 (d:=g.dst) h3
   exact hk _ _ a (h2.trans b) (sim_put h6 h5) h
  ·rename_i hno hnv
   obtain⟨xv,X',h,h1,h2,h3,h4,v,ks,roots,h5,h6,_,h7⟩:=wrX_ok hX hS h
   have h8:wr S (fun x ks roots nx=>K ⟨setEnv g.dst x (killEnv ks S.env),roots,nx,S.fix⟩) j:=by
    refine h7 _ ?_
    obtain⟨a,b⟩:=put_ok h1 (d:=g.dst) h3
    exact hk _ _ a (h2.trans b) (sim_put h6 h5) h
   cases j with
   | call f args=>exact (hno f args rfl).elim
   | calv f args=>exact (hnv f args rfl).elim
   | _=>exact h8
theorem stepX_ok {X:XSt}{S:St}(hX:XOk X) (hS:SimX X S){g:GI}{k:XSt->Option β}(h:stepX Φ H g X k=some out){K:St->Prop}
  (hk:∀X' S',XOk X'->Ext X X'->SimX X' S'->k X'=some out->K S'):stepO P g S K:=by
 have skip:∀{X':XSt},XOk X'->Ext X X'->SimX X' S->k (X'.put g.dst (.tp []))=some out->K ⟨setEnv g.dst (.tp []) S.env,S.roots,S.next,S.fix⟩:=by
  intro X' h1 h2 h3 h4
  obtain⟨a,b⟩:=put_ok h1 (d:=g.dst) (v:=.tp []) (fun x hx=>by simp at hx)
  exact hk _ _ a (h2.trans b) (sim_put (v:=.tp []) (xv:=.tp []) h3 trivial) h4
 unfold stepX at h
 unfold stepO
 split at h
 ·rename_i hg
  simp only[hg]
  exact doX_ok hX hS h hk
 ·rename_i t want hg
  simp only[hg]
  split at h
  ·rename_i s b hl
   have hv:get S.env t=some (.a (.c (.lf (.bool b)))):=by
    rcases hS.env t s _ hl with h|⟨y,y1,y2⟩
    ·simp at h
    ·rw[y1,y2.c (by simp [cC])];rfl
   rw[hv]
   simp only
   obtain⟨a,c,d⟩:=know_ok hX hS hl
   have hk':∀X' S',XOk X'->Ext (X.know t b) X'->SimX X' S'->k X'=some out->K S':=fun X' S' h1 h2 h3 h4=>hk X' S' h1 (c.trans h2) h3 h4
   rcases cnd_some h with ⟨rfl,h⟩|⟨rfl,h⟩
   ·cases want with
    | true=>exact⟨fun _=>doX_ok a d h hk',fun e=>(e rfl).elim⟩
    | false=>exact⟨fun e=>by simp at e,fun _=>skip a c d h⟩
   ·cases want with
    | true=>exact⟨fun e=>by simp at e,fun _=>skip a c d h⟩
    | false=>exact⟨fun _=>doX_ok a d h hk',fun e=>(e rfl).elim⟩
  ·rename_i s l hl
   have hv:∃y,get S.env t=some (.tp y):=by
    rcases hS.env t s _ hl with h|⟨y,y1,y2⟩
    ·simp at h
    ·cases y with
     | tp ys=>exact⟨ys,y1⟩
     | _=>exact y2.elim
   obtain⟨ys,hv⟩:=hv
   rw[hv]
   exact skip hX (Ext.refl X) hS h
  ·simp at h
theorem runO_ok:∀{gis:List GI}{X:XSt}{S:St},XOk X->SimX X S->∀{k:XSt->Option β},runO Φ H gis X k=some out->∀{K:St->Prop},
  (∀X' S',XOk X'->Ext X X'->SimX X' S'->k X'=some out->∃T,Le S' T/\K T)->RunL P gis S K
 | [],X,S,hX,hS,k,h,K,hk=>hk X S hX (Ext.refl X) hS h
 | g::l,X,S,hX,hS,k,h,K,hk=>by
  simp only[runO]at h
  refine⟨S,Le.refl S,stepX_ok hX hS h ?_⟩
  intro X' S' h1 h2 h3 h4
  exact runO_ok h1 h3 h4 fun X2 S2 a b c d=>hk X2 S2 a (h2.trans b) c d
theorem joinX_some {σ ρ:Type}{o:Option (σ ⊕ ρ)}{f:σ->Option ρ}{r:ρ}(h:joinX o f=some r):∃z,o=some z/\((∃s,z=.inl s/\f s=some r)\/z=.inr r):=by
 unfold joinX at h
 split at h
 ·rename_i s;exact⟨_,rfl,.inl ⟨s,rfl,h⟩⟩
 ·simp only[Option.some.injEq]at h;subst h;exact⟨_,rfl,.inr rfl⟩
 ·simp at h
theorem runG_ok:∀{l:List (Nat×List It)}{gis:List GI}{X:XSt}{S:St},XOk X->SimX X S->∀{k:XSt->Option β},runG Φ H l gis X k=some out->∀{K:St->Prop},
  (∀X' S',XOk X'->Ext X X'->SimX X' S'->k X'=some out->∃T,Le S' T/\K T)->RunL P gis S K
 | [],gis,X,S,hX,hS,k,h,K,hk=>runO_ok hX hS h hk
 | (n,its)::l,gis,X,S,hX,hS,k,h,K,hk=>by
  simp only[runG]at h
  obtain⟨z,h1,h2⟩:=joinX_some h
  rw[<-List.take_append_drop n gis]
  refine runL_app _ _ _ (runO_ok hX hS h1 ?_)
  intro X' S' a b c d
  obtain⟨s,hs,hle⟩:=packN_ok hX a b c d
  simp only[Option.some.injEq]at hs
  subst hs
  rcases h2 with ⟨s',e,h2⟩|e
  ·simp only[Sum.inl.injEq]at e
   subst e
   obtain⟨u1,u2⟩:=unpack_ok hX its s
   exact⟨_,hle,runG_ok u1 (sim_conc _) h2 fun X2 S2 a' b' c' d'=>hk X2 S2 a' (u2.trans b') c' d'⟩
  ·simp at e
theorem sw_le_post {s:Stm}{S:St}{Q:Exit->St->Prop}(h:Sw P N s S fun e S'=>∃T,Le S' T/\Q e T):Sw P N s S Q:=fun c hc=>vw_le_post (h c hc)
theorem cond_know {X:XSt}{S:St}(hX:XOk X) (hS:SimX X S){c:Opd}{t:Bool}(hc:X.opd c=.a (.c (.b t))):XOk (X.knowO c t)/\Ext X (X.knowO c t)/\SimX (X.knowO c t) S:=by
 cases c with
 | k v=>exact⟨hX,Ext.refl X,hS⟩
 | t n =>
  obtain⟨s,hl⟩:=tmp_lk (X:=X) (t:=n) hc (by simp)
  exact know_ok hX hS hl
theorem ev_loc {X:XSt}{S:St}(hS:SimX X S){i:I}{k:XV->Option β}(h:rdX X i k=some out){K:V->Prop}(hk:ev S K i){R':List (Nat×Root)}{n':Nat}(hl:∀r∈locX X i,get R' r=get S.roots r):ev ⟨S.env,R',n',S.fix⟩ K i:=by
 have free:freeI i=true->ev ⟨S.env,R',n',S.fix⟩ K i:=fun hf=>ev_free (E:=S.env) (R:=S.roots) (n:=S.next) (f:=S.fix) hf hk
 have hop:∀x:Opd,(⟨S.env,R',n',S.fix⟩:St).opd x=S.opd x:=fun x=>by cases x<;>rfl
 cases i with
 | load m x =>
  simp only[rdX]at h
  split at h
  ·rename_i r v p i c t e hx
   split at h
   ·rename_i hv
    have hxS:S.opd x=.a (.c (.pe r p i c)):=by rw[opd_c hS hx (by simp [cC,hv])];simp only[cC,hv]
    have hr:=hl r (by simp [locX,hx])
    have hn:(⟨S.env,R',n',S.fix⟩:St).node r p=S.node r p:=by simp only[St.node,hr]
    cases m<;>(simp only[ev,hop,hxS,hn]at hk ⊢;exact hk)
   ·simp at h
  ·rename_i r c hx
   split at h
   ·rename_i s cs hr0
    have hxS:S.opd x=.a (.c (.pb r c)):=by rw[opd_c hS hx (by simp [cC,hr0])];simp only[cC,hr0]
    have hr:=hl r (by simp [locX,hx])
    have hn:(⟨S.env,R',n',S.fix⟩:St).bcells r=S.bcells r:=by simp only[St.bcells,hr]
    cases m<;>(simp only[ev,hop,hxS,hn]at hk ⊢;exact hk)
   ·simp at h
  ·rename_i b o hx
   have hxS:S.opd x=.a (.c (.lf (.pointer (some ⟨b,o,none⟩)))):=by rw[opd_c hS hx (by simp [cC])];rfl
   cases m<;>(simp only[ev,hop,hxS]at hk ⊢;exact hk)
  ·simp at h
 | b2s x =>
  simp only[rdX]at h
  split at h
  ·rename_i s hx
   have hxS:=opd_c hS hx (by simp [cC])
   simp only[ev,hop,hxS,cC]at hk ⊢
   exact hk
  ·rename_i c hc hx
   have known:cC X.roots c≠.un/\∀r p s lo n,cC X.roots c=.rf r p s lo n->r∈locX X (.b2s x):=by
    unfold winX at h
    split at h
    ·rename_i r
     split at h
     ·rename_i hr;exact⟨by simp [cC,hr],fun r' p s lo n e=>by simp only[cC,hr,C.rf.injEq]at e;rw[<-e.1];simp [locX,hx]⟩
     ·rename_i hr;exact⟨by simp [cC,hr],fun r' p s lo n e=>by simp only[cC,hr,C.rf.injEq]at e;rw[<-e.1];simp [locX,hx]⟩
     ·simp at h
    ·rename_i r lo n
     split at h
     ·rename_i hr;exact⟨by simp [cC,hr],fun r' p s lo n e=>by simp only[cC,hr,C.rf.injEq]at e;rw[<-e.1];simp [locX,hx]⟩
     ·rename_i hr;exact⟨by simp [cC,hr],fun r' p s lo n e=>by simp only[cC,hr,C.rf.injEq]at e;rw[<-e.1];simp [locX,hx]⟩
     ·simp at h
    ·rename_i r v p lo t ws
     split at h
     ·rename_i hv;exact⟨by simp [cC,hv],fun r' p s lo n e=>by simp only[cC,hv,C.rf.injEq]at e;rw[<-e.1];simp [locX,hx]⟩
     ·simp at h
    ·simp at h
   have hxS:=opd_c hS hx known.1
   cases hcc:cC X.roots c with
   | rf r p s lo n =>
    have hr:=hl r (known.2 _ _ _ _ _ hcc)
    have hn:(⟨S.env,R',n',S.fix⟩:St).node r p=S.node r p:=by simp only[St.node,hr]
    rw[hcc]at hxS
    simp only[ev,hop,hxS]at hk ⊢
    split at hk
    ·rename_i he
     simp only[V.a.injEq,A.c.injEq,C.rf.injEq]at he
     obtain⟨rfl,rfl,rfl,rfl,rfl⟩:=he
     simp only[hn];exact hk
    ·rename_i he;simp at he
    ·exact hk.elim
   | _ =>
    rw[hcc]at hxS
    first
     | (simp only[ev,hop,hxS]at hk;done)
     | (simp only[ev,hop,hxS]at hk ⊢;exact hk)
  ·simp at h
 | _=>exact free rfl
theorem doD_ok {X:XSt}{S:St}(hX:XOk X) (hS:SimX X S){g:GI}{k:XV->XSt->Option β}(h:doD Φ H g X k=some out) :
  ∃xv X',k xv X'=some out/\XOk X'/\Ext X X'/\okV X'.roots X'.next X'.stamp xv/\X'.env=X.env/\∃v roots,WkV v (cV X'.roots xv)/\SimX X' ⟨S.env,roots,X'.next,S.fix⟩/\(∀r s x,lk X'.roots r=some (s,x)->s<X.stamp->get roots r=get S.roots r)/\(∀K:KW,K v [] roots X'.next->evJ P S K g.op) /\
   (isRd g=true->X'=X/\roots=S.roots/\∀R' n',(∀r∈locJ X g.op,get R' r=get S.roots r)->evJ P ⟨S.env,R',n',S.fix⟩ (fun x' _ _ _=>x'=v) g.op):=by
 unfold doD at h
 split at h
 ·rename_i i hop
  have h0:=h
  obtain⟨xv,h,ho,v,hw,hev⟩:=rdX_ok hX hS h
  have hS':SimX X ⟨S.env,S.roots,X.next,S.fix⟩:=⟨rfl,hS.fix,hS.env,hS.roots⟩
  refine⟨xv,X,h,hX,Ext.refl X,ho,rfl,v,S.roots,hw,hS',fun _ _ _ _ _=>rfl, ?_, ?_⟩
  ·intro K hK
   rw[hop]
   show ev S (fun v=>K v [] S.roots S.next) i
   refine hev _ ?_
   rw[hS.next];exact hK
  ·intro _
   refine⟨rfl,rfl,fun R' n' hl=>?_⟩
   rw[hop]at hl ⊢
   exact ev_loc hS h0 (hev (fun x'=>x'=v) rfl) hl
 ·rename_i j hop
  have hrd:isRd g=true->False:=by
   intro e
   obtain⟨d,o,gd⟩:=g
   simp only at hop
   subst hop
   simp [isRd]at e
  split at h
  ·rename_i f args
   split at h
   ·rename_i e he
    have hf:=findE_f he
    simp only[Fx.f]at hf
    subst hf
    obtain⟨xv,X',h,h1,h2,h3,h4,v,ks,roots,h5,h6,⟨rfl,h8⟩,h7⟩:=seeX_ok hX hS h
    exact⟨xv,X',h,h1,h2,h3,h4,v,roots,h5,h6,h8,fun K hK=>by rw[hop];exact h7 K hK,fun e=>(hrd e).elim⟩
   ·rename_i e he
    have hf:=findE_f he
    simp only[Fx.f]at hf
    subst hf
    obtain⟨xv,X',h,h1,h2,h3,h4,v,ks,roots,h5,h6,⟨rfl,h8⟩,h7⟩:=callG_ok hX hS h
    exact⟨xv,X',h,h1,h2,h3,h4,v,roots,h5,h6,h8,fun K hK=>by rw[hop];exact h7 K hK,fun e=>(hrd e).elim⟩
   ·rename_i e he
    have hf:=findE_f he
    simp only[Fx.f]at hf
    subst hf
    obtain⟨xv,X',h,h1,h2,h3,h4,v,ks,roots,h5,h6,⟨rfl,h8⟩,h7⟩:=curX_ok hX hS h
    exact⟨xv,X',h,h1,h2,h3,h4,v,roots,h5,h6,h8,fun K hK=>by rw[hop];exact h7 K hK,fun e=>(hrd e).elim⟩
   ·rename_i e he
    have hf:=findE_f he
    simp only[Fx.f]at hf
    subst hf
    obtain⟨xv,X',h,h1,h2,h3,h4,v,ks,roots,h5,h6,⟨rfl,h8⟩,h7⟩:=callH_ok hX hS h
    exact⟨xv,X',h,h1,h2,h3,h4,v,roots,h5,h6,h8,fun K hK=>by rw[hop];exact h7 K hK,fun e=>(hrd e).elim⟩
   ·simp at h
  ·rename_i f args
   obtain⟨xv,X',h,h1,h2,h3,h4,v,ks,roots,h5,h6,⟨rfl,h8⟩,h7⟩:=calvX_ok hX hS h
   exact⟨xv,X',h,h1,h2,h3,h4,v,roots,h5,h6,h8,fun K hK=>by rw[hop];exact h7 K hK,fun e=>(hrd e).elim⟩
  ·rename_i hno hnv
   split at h
   ·rename_i hpl
    obtain⟨xv,X',h,h1,h2,h3,h4,v,ks,roots,h5,h6,h9,h7⟩:=wrX_ok hX hS h
    obtain⟨rfl,h8⟩:=h9 hpl
    refine⟨xv,X',h,h1,h2,h3,h4,v,roots,h5,h6,h8,fun K hK=>?_,fun e=>(hrd e).elim⟩
    rw[hop]
    have h10:=h7 K hK
    cases j with
    | call f args=>exact (hno f args rfl).elim
    | calv f args=>exact (hnv f args rfl).elim
    | _=>exact h10
   ·simp at h
theorem stepD_ok {X:XSt}{S:St}(hX:XOk X) (hS:SimX X S){g:GI}{k:List Nat->XV->XSt->Option β}(h:stepD Φ H g X k=some out) :
  ∃loc xv X',k loc xv X'=some out/\XOk X'/\Ext X X'/\okV X'.roots X'.next X'.stamp xv/\∃v roots,WkV v (cV X'.roots xv)/\SimX X' ⟨S.env,roots,X'.next,S.fix⟩/\(∀r s x,lk X'.roots r=some (s,x)->s<X.stamp->get roots r=get S.roots r)/\(∀K:KW,K v [] roots X'.next->stepV P g S K) /\
   (isRd g=true->X'.roots=X.roots/\roots=S.roots/\X'.next=X.next/\∀R' n',(∀r∈loc,get R' r=get S.roots r)->stepV P g ⟨S.env,R',n',S.fix⟩ (fun x' _ _ _=>x'=v)):=by
 unfold stepD at h
 split at h
 ·rename_i hg
  obtain⟨xv,X',h,h1,h2,h3,h4,v,roots,h5,h6,h7,h8,h9⟩:=doD_ok hX hS h
  refine⟨_,xv,X',h,h1,h2,h3,v,roots,h5,h6,h7,fun K hK=>?_,fun e=>?_⟩
  ·simp only[stepV,hg];exact h8 K hK
  ·obtain⟨rfl,rfl,h10⟩:=h9 e
   exact⟨rfl,rfl,rfl,fun R' n' hl=>by simp only[stepV,hg];exact h10 R' n' hl⟩
 ·rename_i t want hg
  split at h
  ·rename_i s b hl
   have hv:get S.env t=some (.a (.c (.lf (.bool b)))):=by
    rcases hS.env t s _ hl with h|⟨y,y1,y2⟩
    ·simp at h
    ·rw[y1,y2.c (by simp [cC])];rfl
   obtain⟨a,c,d⟩:=know_ok hX hS hl
   have d':SimX (X.know t b) ⟨S.env,S.roots,(X.know t b).next,S.fix⟩:=⟨rfl,d.fix,d.env,d.roots⟩
   have run:∀{loc:List Nat},loc=locJ (X.know t b) g.op->b=want->doD Φ H g (X.know t b) (fun v X'=>k loc v X')=some out->∃loc xv X',k loc xv X'=some out/\XOk X'/\Ext X X'/\okV X'.roots X'.next X'.stamp xv/\∃v roots,WkV v (cV X'.roots xv)/\SimX X' ⟨S.env,roots,X'.next,S.fix⟩/\(∀r s x,lk X'.roots r=some (s,x)->s<X.stamp->get roots r=get S.roots r)/\(∀K:KW,K v [] roots X'.next->stepV P g S K) /\
     (isRd g=true->X'.roots=X.roots/\roots=S.roots/\X'.next=X.next/\∀R' n',(∀r∈loc,get R' r=get S.roots r)->stepV P g ⟨S.env,R',n',S.fix⟩ (fun x' _ _ _=>x'=v)):=by
    intro loc hloc hb h
    obtain⟨xv,X',h,h1,h2,h3,h4,v,roots,h5,h6,h7,h8,h9⟩:=doD_ok a d h
    refine⟨_,xv,X',h,h1,c.trans h2,h3,v,roots,h5,h6,fun r s x hl hs=>h7 r s x hl (Nat.lt_of_lt_of_le hs c.stamp),fun K hK=>?_,fun e=>?_⟩
    ·simp only[stepV,hg,hv]
     exact⟨fun _=>h8 K hK,fun hne=>(hne hb).elim⟩
    ·obtain⟨rfl,rfl,h10⟩:=h9 e
     refine⟨rfl,rfl,rfl,fun R' n' hl=>?_⟩
     simp only[stepV,hg,hv]
     exact⟨fun _=>h10 R' n' (by rw[<-hloc];exact hl),fun hne=>(hne hb).elim⟩
   have skip:b≠want->k [] (.tp []) (X.know t b)=some out->∃loc xv X',k loc xv X'=some out/\XOk X'/\Ext X X'/\okV X'.roots X'.next X'.stamp xv/\∃v roots,WkV v (cV X'.roots xv)/\SimX X' ⟨S.env,roots,X'.next,S.fix⟩/\(∀r s x,lk X'.roots r=some (s,x)->s<X.stamp->get roots r=get S.roots r)/\(∀K:KW,K v [] roots X'.next->stepV P g S K) /\
     (isRd g=true->X'.roots=X.roots/\roots=S.roots/\X'.next=X.next/\∀R' n',(∀r∈loc,get R' r=get S.roots r)->stepV P g ⟨S.env,R',n',S.fix⟩ (fun x' _ _ _=>x'=v)):=by
    intro hb h
    have hnx:(X.know t b).next=S.next:=d.next.symm
    refine⟨[],.tp [],_,h,a,c,(fun x hx=>by simp at hx),.tp [],S.roots,trivial,d',fun r s x hl hs=>rfl,fun K hK=>?_,fun e=>⟨rfl,rfl,rfl,fun R' n' hl=>?_⟩⟩
    ·simp only[stepV,hg,hv]
     exact⟨fun e=>(hb e).elim,fun _=>by rw[<-hnx];exact hK⟩
    ·simp only[stepV,hg,hv]
     exact⟨fun e=>(hb e).elim,fun _=>trivial⟩
   rcases cnd_some h with ⟨rfl,h⟩|⟨rfl,h⟩
   ·cases want with
    | true=>exact run rfl rfl h
    | false=>exact skip (by simp) h
   ·cases want with
    | true=>exact skip (by simp) h
    | false=>exact run rfl rfl h
  ·rename_i s l hl
   have hv:∃y,get S.env t=some (.tp y):=by
    rcases hS.env t s _ hl with h|⟨y,y1,y2⟩
    ·simp at h
    ·cases y with
     | tp ys=>exact⟨ys,y1⟩
     | _=>exact y2.elim
   obtain⟨ys,hv⟩:=hv
   have d':SimX X ⟨S.env,S.roots,X.next,S.fix⟩:=⟨rfl,hS.fix,hS.env,hS.roots⟩
   refine⟨[],.tp [],X,h,hX,Ext.refl X,(fun x hx=>by simp at hx),.tp [],S.roots,trivial,d',fun r s x hl hs=>rfl,fun K hK=>?_,fun e=>⟨rfl,rfl,rfl,fun R' n' hl=>?_⟩⟩
   ·simp only[stepV,hg,hv]
    rw[hS.next];exact hK
   ·simp only[stepV,hg,hv]
  ·simp at h
def HRel (R:XRs) (RV:List (Nat×Root)) (mR:XRs) (m:Mem):Prop:=∀r s x x',lk mR r=some (s,x)->lk R r=some (s,x')->get m.1 r=get RV r
theorem sameL_ok {R R':XRs}:∀{loc:List Nat},sameL R' (stampsX R loc)=true->isLk R loc=true->∀r∈loc,∃s x x',lk R' r=some (s,x)/\lk R r=some (s,x')
 | [],_,_,r,hr=>by simp at hr
 | q::l,h,hi,r,hr=>by
  simp only[isLk]at hi
  split at hi
  ·rename_i e hq
   obtain⟨s,x'⟩:=e
   simp only[stampsX,hq,sameL,Bool.and_eq_true]at h
   rcases List.mem_cons.1 hr with rfl|hr
   ·obtain⟨x,hx⟩:=verOk_lk h.1
    exact⟨s,x,x',hx,hq⟩
   ·exact sameL_ok h.2 hi r hr
  ·simp at hi
theorem sameH_ok {l:List (Nat×Nat)}:∀{h:List XRs},sameH l h=true->∀R∈h,sameL R l=true
 | [],_,R,hR=>by simp at hR
 | R::h,hs,R',hR=>by
  simp only[sameH,Bool.and_eq_true]at hs
  rcases List.mem_cons.1 hR with rfl|hR
  ·exact hs.1
  ·exact sameH_ok hs.2 R' hR
theorem sameP_ok {R:XRs}{n:Nat}:∀{ps:XPend},sameP R n ps=true->∀p∈ps,n<=p.2->sameL R p.1=true
 | [],_,p,hp,_=>by simp at hp
 | (l,hi)::ps,h,p,hp,hn=>by
  simp only[sameP,Bool.and_eq_true]at h
  rcases List.mem_cons.1 hp with rfl|hp
  ·have:=h.1
   rw[show Nat.ble n hi=true from Nat.ble_eq_true_of_le hn]at this
   exact this
  ·exact sameP_ok h.2 p hp hn
def PRel (P:Program) (fix:Nat) (R:XRs) (RV:List (Nat×Root)) (p:Pend) (q:List (Nat×Nat)×Nat):Prop :=
 p.hi=q.2/\∃vals:List (Nat×Option Root),(∀R' n',(∀e∈vals,get R' e.1=e.2)->stepV P p.gi ⟨p.E,R',n',fix⟩ fun x' _ _ _=>x'=p.x) /\
  ∀e∈vals,∃s,(e.1,s)∈q.1/\∀x,lk R e.1=some (s,x)->get RV e.1=e.2
theorem sameL_mem {R:XRs}:∀{l:List (Nat×Nat)},sameL R l=true->∀p∈l,∃x,lk R p.1=some (p.2,x)
 | [],_,p,hp=>by simp at hp
 | (r,s)::l,h,p,hp=>by
  simp only[sameL,Bool.and_eq_true]at h
  rcases List.mem_cons.1 hp with rfl|hp
  ·exact verOk_lk h.1
  ·exact sameL_mem h.2 p hp
theorem stamps_mem {R:XRs}:∀{loc:List Nat}{r s:Nat}{x:XR},r∈loc->lk R r=some (s,x)->(r,s)∈stampsX R loc
 | [],r,s,x,h,_=>by simp at h
 | q::l,r,s,x,h,hl=>by
  simp only[stampsX]
  rcases List.mem_cons.1 h with rfl|h
  ·rw[hl];exact List.mem_cons_self
  ·split
   ·exact List.mem_cons_of_mem _ (stamps_mem h hl)
   ·exact stamps_mem h hl
theorem noPend_ok {m:Nat}:∀{l:XPend},noPend m l=true->∀q∈l,q.2<=m
 | [],_,q,h=>by cases h
 | (_,hi)::l,h,q,hq=>by
  simp only[noPend,Bool.and_eq_true]at h
  rcases List.mem_cons.1 hq with rfl|hq
  ·exact Nat.le_of_ble_eq_true h.1
  ·exact noPend_ok h.2 q hq
theorem stepV_of_O {S:St}{g:GI}{K:St->Prop}(h:stepO P g S K):stepV P g S fun x ks r n=>K ⟨setEnv g.dst x (killEnv ks S.env),r,n,S.fix⟩:=by
 obtain⟨d,op,gd⟩:=g
 cases gd with
 | none=>exact h
 | some tw =>
  obtain⟨t,want⟩:=tw
  unfold stepO at h
  unfold stepV
  try simp only at h ⊢
  generalize get S.env t=o at h ⊢
  split at h
  ·exact⟨h.1,fun e=>h.2 e⟩
  ·exact h
  ·exact h.elim
theorem drawX_ok {nI:Nat}:∀(l:List DI){X:XSt}{S:St}{hist:List XRs}{histV:List Mem}{pend:XPend}{pendV:List Pend}{k:XSt->Option β},XOk X->SimX X S->drawX Φ H nI l X hist pend k=some out->(∀it∈l,it.w=!isRd it.gi) ->
  All2 (fun mR m=>HRel X.roots S.roots mR m/\∀r s x,lk mR r=some (s,x)->s<X.stamp) hist histV->(∀p∈pendV,∃q∈pend,PRel P S.fix X.roots S.roots p q)->(∀q∈pend,∀e∈q.1,e.2<X.stamp)->∀{K:St->Prop},
  (∀X' S',XOk X'->Ext X X'->SimX X' S'->k X'=some out->K S')->runD P nI S.fix l S.env ((S.roots,S.next)::histV) pendV K
 | [],X,S,hist,histV,pend,pendV,k,hX,hS,h,_,_,_,_,K,hk=>hk X S hX (Ext.refl X) hS h
 | it::l,X,S,hist,histV,pend,pendV,k,hX,hS,h,hw,hH,hP,hPs,K,hk=>by
  simp only[drawX]at h
  have hlen:=hH.length
  split at h
  case h_1 =>
   rename_i hlo
   unfold lastOk at hlo
   split at hlo
   case h_2=>cases hlo
   simp only[Bool.and_eq_true]at hlo
   obtain⟨hwt,hanc,hnp⟩:=hlo
   have hst:=stepX_ok (P:=P) hX hS h (K:=K) hk
   simp only[runD]
   refine stepV_mono (stepV_of_O hst) ?_
   intro x ks r n hK
   rw[if_pos hwt]
   refine⟨fun p hp hle=>?_,.inr ⟨trivial,hanc,hK⟩⟩
   obtain⟨q,hq,hpq,_⟩:=hP p hp
   have:=noPend_ok hnp q hq
   exfalso
   rw[hlen]at this
   omega
  obtain⟨loc,xv,X',h,h1,h2,h3,v,roots,h5,h6,h7,h8,h9⟩:=stepD_ok hX hS h
  have hwit:=hw it List.mem_cons_self
  obtain⟨a,b⟩:=put_ok h1 (d:=it.gi.dst) h3
  have hsim:=sim_put (d:=it.gi.dst) h6 h5
  have hroots:(X'.put it.gi.dst xv).roots=X'.roots:=by cases it.gi.dst<;>rfl
  have hstamp:X'.stamp<=(X'.put it.gi.dst xv).stamp:=b.stamp
  simp only[runD]
  split at h
  ·-- it writes
   rename_i hwt
   split at h
   ·rename_i hsp
    refine h8 _ ?_
    simp only[hwt,if_true]
    refine⟨?_,.inl ⟨trivial, ?_⟩⟩
    ·intro p hp hhi
     obtain⟨q,hq,hpq,vals,hv1,hv2⟩:=hP p hp
     have hsl:=sameP_ok hsp q hq (by rw[hlen,<-hpq];exact hhi)
     refine hv1 roots X'.next fun e he=>?_
     obtain⟨s,hs1,hs2⟩:=hv2 e he
     obtain⟨x,hx⟩:=sameL_mem hsl _ hs1
     have hlt:=hPs q hq _ hs1
     simp only at hx hlt
     rw[h7 _ _ _ hx hlt]
     exact hs2 x (h2.roots _ _ _ hx hlt)
    ·refine drawX_ok l (hist:=X.roots::hist) (histV:=(S.roots,S.next)::histV) (pend:=pend) a hsim h (fun it hit=>hw it (List.mem_cons_of_mem _ hit)) ⟨⟨?_, ?_⟩, ?_⟩ ?_ ?_ fun X2 S2 q1 q2 q3 q4=>hk X2 S2 q1 ((h2.trans b).trans q2) q3 q4
     ·intro r s x x' hl hl'
      rw[hroots]at hl'
      exact (h7 r s x' hl' (hX.ids r s x hl).2).symm
     ·intro r s x hl
      exact Nat.lt_of_lt_of_le (hX.ids r s x hl).2 (Nat.le_trans h2.stamp hstamp)
     ·refine hH.mono ?_
      intro mR m ⟨g1,g2⟩
      refine⟨?_,fun r s x hl=>Nat.lt_of_lt_of_le (g2 r s x hl) (Nat.le_trans h2.stamp hstamp)⟩
      intro r s x x' hl hl'
      rw[hroots]at hl'
      have hlt:=g2 r s x hl
      show get m.1 r=get roots r
      rw[h7 r s x' hl' hlt]
      exact g1 r s x x' hl (h2.roots r s x' hl' hlt)
     ·intro p hp
      obtain⟨q,hq,hpq,vals,hv1,hv2⟩:=hP p hp
      refine⟨q,hq,hpq,vals,hv1,fun e he=>?_⟩
      obtain⟨s,hs1,hs2⟩:=hv2 e he
      refine⟨s,hs1,fun x hx=>?_⟩
      rw[hroots]at hx
      have hlt:=hPs q hq _ hs1
      simp only at hlt
      show get roots e.1=e.2
      rw[h7 _ _ _ hx hlt]
      exact hs2 x (h2.roots _ _ _ hx hlt)
     ·intro q hq e he
      exact Nat.lt_of_lt_of_le (hPs q hq e he) (Nat.le_trans h2.stamp hstamp)
   ·simp at h
  ·-- it reads
   rename_i hwt
   have hrd:isRd it.gi=true:=by rw[hwt]at hwit;simpa using hwit.symm
   obtain⟨e1,rfl,e3,h10⟩:=h9 hrd
   split at h
   ·rename_i hc
    simp only[Bool.and_eq_true]at hc
    obtain⟨hc1,hc2⟩:=hc
    have hnx:X'.next=S.next:=e3.trans hS.next.symm
    rw[hnx]at h8
    have next:∀pendV',(∀p∈pendV',p∈pendV\/(p=⟨it.gi,S.env,v,it.hi⟩/\hist.length<it.hi))->runD P nI S.fix l (setEnv it.gi.dst v S.env) ((S.roots,S.next)::histV) pendV' K:=by
     intro pendV' hpv
     have hS2:SimX (X'.put it.gi.dst xv) ⟨setEnv it.gi.dst v S.env,S.roots,S.next,S.fix⟩:=by rw[<-hnx];exact hsim
     have base:∀pend',drawX Φ H nI l (X'.put it.gi.dst xv) hist pend' k=some out->(∀p∈pendV',∃q∈pend',PRel P S.fix (X'.put it.gi.dst xv).roots S.roots p q)->(∀q∈pend',∀e∈q.1,e.2<(X'.put it.gi.dst xv).stamp)->runD P nI S.fix l (setEnv it.gi.dst v S.env) ((S.roots,S.next)::histV) pendV' K:=by
      intro pend' hd g1 g2
      refine drawX_ok l (S:=⟨setEnv it.gi.dst v S.env,S.roots,S.next,S.fix⟩) a hS2 hd (fun it hit=>hw it (List.mem_cons_of_mem _ hit)) (hH.mono ?_) g1 g2 fun X2 S2 q1 q2 q3 q4=>hk X2 S2 q1 ((h2.trans b).trans q2) q3 q4
      intro mR m ⟨g1,g2⟩
      refine⟨?_,fun r s x hl=>Nat.lt_of_lt_of_le (g2 r s x hl) (Nat.le_trans h2.stamp hstamp)⟩
      rw[hroots,e1];exact g1
     have old:∀p∈pendV,∃q∈pend,PRel P S.fix (X'.put it.gi.dst xv).roots S.roots p q:=by
      rw[hroots,e1];exact hP
     have olds:∀q∈pend,∀e∈q.1,e.2<(X'.put it.gi.dst xv).stamp:=fun q hq e he=>Nat.lt_of_lt_of_le (hPs q hq e he) (Nat.le_trans h2.stamp hstamp)
     split at h
     ·refine base _ h ?_ ?_
      ·intro p hp
       rcases hpv p hp with hp|⟨rfl,_⟩
       ·obtain⟨q,hq,hr⟩:=old p hp
        exact⟨q,List.mem_cons_of_mem _ hq,hr⟩
       ·refine⟨_,List.mem_cons_self,rfl,loc.map fun r=>(r,get S.roots r), ?_, ?_⟩
        ·intro R' n' hl
         exact h10 R' n' fun r hr=>hl (r,get S.roots r) (List.mem_map.2 ⟨r,hr,rfl⟩)
        ·intro e he
         obtain⟨r,hr,rfl⟩:=List.mem_map.1 he
         have:∃s x,lk X'.roots r=some (s,x):=by
          have key:∀(l:List Nat),isLk X'.roots l=true->r∈l->∃s x,lk X'.roots r=some (s,x):=by
           intro l
           induction l with
           | nil=>intro _ h;simp at h
           | cons q l ih =>
            intro h hm
            simp only[isLk]at h
            split at h
            ·rename_i e hq
             rcases List.mem_cons.1 hm with rfl|hm
             ·exact⟨e.1,e.2,hq⟩
             ·exact ih h hm
            ·simp at h
          exact key loc hc1 hr
         obtain⟨s,x,hl⟩:=this
         exact⟨s,stamps_mem hr hl,fun _ _=>rfl⟩
      ·intro q hq e he
       rcases List.mem_cons.1 hq with rfl|hq
       ·have key:∀(l:List Nat) (e:Nat×Nat),e∈stampsX X'.roots l->e.2<X'.stamp:=by
         intro l
         induction l with
         | nil=>intro e h;simp [stampsX]at h
         | cons q l ih =>
          intro e h
          simp only[stampsX]at h
          split at h
          ·rename_i s x hq
           rcases List.mem_cons.1 h with rfl|h
           ·exact (h1.ids _ _ _ hq).2
           ·exact ih e h
          ·exact ih e h
        exact Nat.lt_of_lt_of_le (key loc e he) hstamp
       ·exact olds q hq e he
     ·rename_i hlt
      refine base _ h ?_ olds
      intro p hp
      rcases hpv p hp with hp|⟨_,hlt'⟩
      ·exact old p hp
      ·exfalso
       have:Nat.blt hist.length it.hi=true:=by simpa [Nat.blt_eq] using hlt'
       rw[this]at hlt;simp at hlt
    have inHist:∀mm∈histV.take (histV.length-it.lo),∀r∈loc,get mm.1 r=get S.roots r:=by
     intro mm hmm r hr
     rw[<-hlen]at hmm
     obtain⟨i,hi,hget⟩:=List.getElem_of_mem hmm
     have hi2:i<histV.length:=by simp at hi;omega
     have hi3:i<hist.length:=by rw[hlen];exact hi2
     obtain⟨m',hm1,hm2⟩:=hH.get i hist[i] (List.getElem?_eq_getElem hi3)
     have hmm':m'=mm:=by
      rw[List.getElem_take]at hget
      rw[List.getElem?_eq_getElem hi2]at hm1
      simp only[Option.some.injEq]at hm1
      rw[<-hm1,hget]
     subst hmm'
     have hin:hist[i]∈hist.take (hist.length-it.lo):=by
      rw[List.mem_iff_getElem]
      simp only[List.length_take]at hi
      exact⟨i,by simp;omega,by simp⟩
     obtain⟨s,x,x',g1,g2⟩:=sameL_ok (sameH_ok hc2 _ hin) hc1 r hr
     rw[e1]at g2
     exact hm2.1 r s x x' g1 g2
    refine h8 _ ?_
    simp only[hwt,Bool.false_eq_true,if_false]
    split
    ·exact next pendV fun p hp=>.inl hp
    ·refine⟨fun mm hmm=>h10 mm.1 mm.2 (inHist mm hmm), ?_⟩
     split
     ·rename_i hlt
      refine next _ fun p hp=>?_
      rcases List.mem_cons.1 hp with rfl|hp
      ·exact .inr ⟨rfl,by rw[hlen];exact hlt⟩
      ·exact .inl hp
     ·exact next pendV fun p hp=>.inl hp
   ·simp at h
theorem mkIts_w0 (ws:List Bool) (ancs:List (List Nat)):∀(gis:List GI) (i:Nat),(∀(j:Nat) (g:GI),gis[j]? = some g->ws.getD (i+j) false=!isRd g)->∀it∈mkIts ws ancs i gis,it.w=!isRd it.gi
 | [],i,_,it,h=>by simp [mkIts]at h
 | g::l,i,hw,it,h=>by
  simp only[mkIts,List.mem_cons]at h
  rcases h with rfl|h
  ·exact hw 0 g rfl
  ·refine mkIts_w0 ws ancs l (i+1) (fun j g hg=>?_) it h
   rw[show i+1+j=i+(j+1) by omega]
   exact hw (j+1) g (by simpa using hg)
theorem mkIts_w {ancs:List (List Nat)}(gis:List GI):∀it∈mkIts (gis.map fun g=>!isRd g) ancs 0 gis,it.w=!isRd it.gi:=by
 refine mkIts_w0 _ _ gis 0 fun j g hg=>?_
 rw[Nat.zero_add,List.getD_eq_getElem?_getD,List.getElem?_map,hg]
 rfl
theorem runX_ok (hm:P.follows .mixedOrders=true):∀(s:Stm) (an:An){β:Type}{out:β}{X:XSt}{S:St}{k:Exit->XSt->Option β},XOk X->SimX X S->runX Φ H s an X k=some out->∀{Q:Exit->St->Prop},
  (∀e X' S',XOk X'->Ext X X'->SimX X' S'->k e X'=some out->Q e S')->Sw P N s S Q
 | .reg gis,an,β,out,X,S,k,hX,hS,h,Q,hQ=>by
  have h2:∃l,runG Φ H l gis X (k .normal)=some out:=by
   cases an with
   | rg l=>exact⟨l,h⟩
   | _=>exact⟨[],h⟩
  obtain⟨l,h2⟩:=h2
  exact sw_regL (runG_ok hX hS h2 fun X' S' a b c d=>⟨S',Le.refl S',hQ _ X' S' a b c d⟩)
 | .seq x y,an,β,out,X,S,k,hX,hS,h,Q,hQ=>by
  have plain:∀(a b:An),(runX Φ H x a X fun e X'=>match e with|.normal=>runX Φ H y b X' k|e=>k e X')=some out->Sw P N (.seq x y) S Q:=by
   intro a b h
   refine sw_seq (runX_ok hm x a hX hS h ?_)
   intro e X' S' h1 h2 h3 h4
   cases e with
   | normal=>exact runX_ok hm y b h1 h3 h4 fun e X2 S2 a' b' c' d'=>hQ e X2 S2 a' (h2.trans b') c' d'
   | _=>exact hQ _ X' S' h1 h2 h3 h4
  cases an with
  | sq j a b =>
   cases j with
   | none=>exact plain a b h
   | some its =>
    simp only[runX]at h
    obtain⟨z,h1,h2⟩:=joinX_some h
    refine sw_seq (sw_le_post (runX_ok hm x a hX hS h1 ?_))
    intro e X' S' g1 g2 g3 g4
    cases e with
    | normal =>
     obtain⟨s,hs,hle⟩:=packN_ok hX g1 g2 g3 g4
     simp only[Option.some.injEq]at hs
     subst hs
     rcases h2 with ⟨s',e,h2⟩|e
     ·simp only[Sum.inl.injEq]at e
      subst e
      obtain⟨u1,u2⟩:=unpack_ok hX its s
      exact⟨_,hle,runX_ok hm y b u1 (sim_conc _) h2 fun e X2 S2 a' b' c' d'=>hQ e X2 S2 a' (u2.trans b') c' d'⟩
     ·simp at e
    | _ =>
     obtain⟨r,hr,g5⟩:=outX_some g4
     rcases h2 with ⟨s',e,h2⟩|e
     ·rw[hr]at e;simp at e
     ·rw[hr]at e
      simp only[Sum.inr.injEq]at e
      subst e
      exact⟨S',Le.refl S',hQ _ X' S' g1 g2 g3 g5⟩
  | _=>exact plain .d .d h
 | .cond c x y,an,β,out,X,S,k,hX,hS,h,Q,hQ=>by
  simp only[runX]at h
  split at h
  ·rename_i t hc
   have hb:tv (S.opd c)=some t:=by rw[opd_c hS hc (by simp [cC])];rfl
   have key:∃a b,cnd t (runX Φ H x a (X.knowO c true) k) (runX Φ H y b (X.knowO c false) k)=some out:=by
    split at h
    ·rename_i a b;exact⟨a,b,h⟩
    ·exact⟨.d,.d,h⟩
   obtain⟨a,b,h⟩:=key
   rcases cnd_some h with ⟨rfl,h⟩|⟨rfl,h⟩
   ·obtain⟨a1,a2,a3⟩:=cond_know hX hS hc
    exact sw_cond hb (fun _=>runX_ok hm x a a1 a3 h fun e X' S' g1 g2 g3 g4=>hQ e X' S' g1 (a2.trans g2) g3 g4) (fun e=>by simp at e)
   ·obtain⟨a1,a2,a3⟩:=cond_know hX hS hc
    exact sw_cond hb (fun e=>by simp at e) (fun _=>runX_ok hm y b a1 a3 h fun e X' S' g1 g2 g3 g4=>hQ e X' S' g1 (a2.trans g2) g3 g4)
  ·simp at h
 | .block id x,an,β,out,X,S,k,hX,hS,h,Q,hQ=>by
  simp only[runX]at h
  refine sw_block (runX_ok hm x _ hX hS h ?_)
  intro e X' S' g1 g2 g3 g4
  cases e with
  | exit id' =>
   simp only at g4
   simp only[blockQ]
   split at g4
   ·rename_i hb
    rw[if_pos (Nat.eq_of_beq_eq_true hb)]
    exact hQ _ X' S' g1 g2 g3 g4
   ·rename_i hb
    rw[if_neg (Nat.ne_of_beq_eq_false hb)]
    exact hQ _ X' S' g1 g2 g3 g4
  | _=>exact hQ _ X' S' g1 g2 g3 g4
 | .loop x,an,β,out,X,S,k,hX,hS,h,Q,hQ=>by
  have key:∀(its:List It) (a:An) (X0:XSt) (S0:St),XOk X0->Ext X X0->SimX X0 S0->(packN X0 X0 its fun s=>loopX (fun s=>runX Φ H x a (β:=Tp (It.tys its) ⊕ β) (unpackX X0 its s) fun e X'=>match e with
    | .normal=>packN X0 X' its fun s=>some (.inl s)
    | e=>outX (k e X')) s)=some out->SwL P N x S0 Q:=by
   intro its a X0 S0 hX0 hE0 hS0 h
   obtain⟨s0,h,hle⟩:=packN_ok hX0 hX0 (Ext.refl X0) hS0 h
   obtain⟨n,hn⟩:=loopX_some h
   refine swl_inv (fun m T=>∃s,iterX (fun s=>runX Φ H x a (β:=Tp (It.tys its) ⊕ β) (unpackX X0 its s) fun e X'=>match e with
    | .normal=>packN X0 X' its fun s=>some (.inl s)
    | e=>outX (k e X')) m s=some out/\T=concS (unpackX X0 its s)) n ⟨_,⟨s0,hn,rfl⟩,hle⟩ ?_
   rintro m T ⟨s,hs,rfl⟩
   cases m with
   | zero=>simp [iterX]at hs
   | succ m =>
    simp only[iterX]at hs
    obtain⟨u1,u2⟩:=unpack_ok hX0 its s
    have hz:∃z,(runX Φ H x a (β:=Tp (It.tys its) ⊕ β) (unpackX X0 its s) fun e X'=>match e with
     | .normal=>packN X0 X' its fun s=>some (.inl s)
     | e=>outX (k e X'))=some z:=by
     split at hs
     ·exact⟨_,by assumption⟩
     ·exact⟨_,by assumption⟩
     ·simp at hs
    obtain⟨z,hz⟩:=hz
    rw[hz]at hs
    refine runX_ok hm x a u1 (sim_conc _) hz ?_
    intro e X' S' g1 g2 g3 g4
    cases e with
    | normal =>
     obtain⟨s',hs',hle'⟩:=packN_ok hX0 g1 (u2.trans g2) g3 g4
     simp only[Option.some.injEq]at hs'
     subst hs'
     simp only at hs
     exact⟨m,_,Nat.lt_succ_self m,⟨s',hs,rfl⟩,hle'⟩
    | _ =>
     obtain⟨r,hr,g5⟩:=outX_some g4
     subst hr
     simp only[Option.some.injEq]at hs
     subst hs
     exact hQ _ X' S' g1 (hE0.trans (u2.trans g2)) g3 g5
  cases an with
  | lp its a =>
   simp only[runX]at h
   exact sw_of_l (key its a X S hX (Ext.refl X) hS h)
  | pl a1 its a =>
   simp only[runX]at h
   refine sw_of_l (swl_round (runX_ok hm x a1 hX hS h ?_))
   intro e X' S' g1 g2 g3 g4
   cases e with
   | normal=>exact key its a X' S' g1 g2 g3 g4
   | _=>exact hQ _ X' S' g1 g2 g3 g4
  | _=>simp [runX]at h
 | .exit id,an,β,out,X,S,k,hX,hS,h,Q,hQ=>sw_exit (hQ _ X S hX (Ext.refl X) hS h)
 | .ret,an,β,out,X,S,k,hX,hS,h,Q,hQ=>sw_ret (hQ _ X S hX (Ext.refl X) hS h)
 | .skip,an,β,out,X,S,k,hX,hS,h,Q,hQ=>sw_skip (hQ _ X S hX (Ext.refl X) hS h)
 | .drw its,an,β,out,X,S,k,hX,hS,h,Q,hQ=>by
  simp only[runX]at h
  split at h
  ·rename_i hok
   intro c hc
   have hw:∀it∈its,it.w=!isRd it.gi:=by
    cases c with
    | region id ops d =>
     cases d with
     | false=>simp [trC]at hc
     | true =>
      have hc:=trReg_drw (show trReg P N ops=some (.drw its) by simpa only[trC] using hc)
      simp only[trDraw,Option.bind_eq_bind,Option.bind_eq_some_iff]at hc
      obtain⟨gis,hgis,hg⟩:=hc
      split at hg
      ·simp only[Option.some.injEq]at hg
       subst hg
       exact mkIts_w gis
      ·simp at hg
    | seq a b=>simp [trC,Option.bind_eq_bind,Option.bind_eq_some_iff]at hc
    | cond c a b=>simp [trC,Option.bind_eq_bind,Option.bind_eq_some_iff]at hc
    | _=>simp [trC]at hc
   have hr:=drawX_ok (P:=P) (nI:=its.length) (histV:=[]) (pendV:=[]) its hX hS h hw trivial (fun p hp=>by simp at hp) (fun q hq=>by simp at hq) (hQ .normal)
   have hfin:Sw P N (.drw its) S Q:=by
    obtain⟨E,R,n,f⟩:=S
    exact sw_go hm hok hr
   exact hfin c hc
  ·simp at h
 | .alt l,an,β,out,X,S,k,hX,hS,h,Q,hQ=>by
  simp only[runX]at h
  have hall:=altX_some h
  intro c hc
  cases c with
  | region id ops d =>
   cases d with
   | false=>simp [trC]at hc
   | true =>
    have hl:=trReg_alt (show trReg P N ops=some (.alt l) by simpa only[trC] using hc)
    have hfin:Sw P N (.alt l) S Q:=by
     refine sw_runs hm fun its hi=>?_
     have hx:=hall its hi
     split at hx
     case h_2=>cases hx
     rename_i hok
     obtain⟨ops',_,hg⟩:=mapO_of hl its hi
     have hw:∀it∈its,it.w=!isRd it.gi:=by
      simp only[trDraw,Option.bind_eq_bind,Option.bind_eq_some_iff]at hg
      obtain⟨gis,hgis,hg⟩:=hg
      split at hg
      ·simp only[Option.some.injEq]at hg
       subst hg
       exact mkIts_w gis
      ·simp at hg
     exact⟨hok,drawX_ok (P:=P) (nI:=its.length) (histV:=[]) (pendV:=[]) its hX hS hx hw trivial (fun p hp=>by simp at hp) (fun q hq=>by simp at hq) (hQ .normal)⟩
    exact hfin _ hc
  | seq a b=>simp [trC,Option.bind_eq_bind,Option.bind_eq_some_iff]at hc
  | cond c a b=>simp [trC,Option.bind_eq_bind,Option.bind_eq_some_iff]at hc
  | _=>simp [trC]at hc
end
end Go.Vs
namespace Go.Vs
variable [Glb]
def lendXs:List XD->XSt->List XC×XSt
 | [],X=>([],X)
 | .lf c::l,X=>(leafC c::(lendXs l X).1,(lendXs l X).2)
 | .sl t xs::l,X=>(.rw X.next::(lendXs l (X.newR (.im t xs))).1,(lendXs l (X.newR (.im t xs))).2)
def envA (s:Nat):Nat->List XA->List (Nat×Nat×XV)
 | _,[]=>[]
 | i,a::l=>(i,s,.a a)::envA s (i+1) l
def empX:XSt:=⟨[],[],0,0,0⟩
def inX (args:List (Bool×Ty)) (x:Tp (args.map (·.2))):XSt :=
 ⟨envA (lendXs (resCells args x) empX).2.stamp 0 (resAs args (lendXs (resCells args x) empX).1),(lendXs (resCells args x) empX).2.roots,(lendXs (resCells args x) empX).2.next,(lendXs (resCells args x) empX).2.stamp+1,0⟩
def okArgs:List (Bool×Ty)->Bool
 | []=>true
 | (ag,t)::l=>(ag||Nat.beq t.n 1)&&okArgs l
theorem lendXs_ok:∀(l:List XD){X:XSt}{E:List (Nat×V)}{R:List (Nat×Root)}{f a:Nat},XOk X->SimX X ⟨E,R,X.next,f⟩ ->
  XOk (lendXs l X).2/\(lendXs l X).2.env=X.env/\(lendXs l X).2.fix=X.fix/\X.next<=(lendXs l X).2.next/\(lendXs l X).2.next=(inCs ((l.map encD).map fun d=>(M.rd,d)) (a,X.next)).2.2.2/\SimX (lendXs l X).2 ⟨E,(inCs ((l.map encD).map fun d=>(M.rd,d)) (a,X.next)).2.1++R,(lendXs l X).2.next,f⟩ /\
  All2 WkC (inCs ((l.map encD).map fun d=>(M.rd,d)) (a,X.next)).1 ((lendXs l X).1.map (cC (lendXs l X).2.roots))/\(∀c∈(lendXs l X).1,okC (lendXs l X).2.roots (lendXs l X).2.next (lendXs l X).2.stamp c) /\
  (∀q,q<X.next->lk (lendXs l X).2.roots q=lk X.roots q)/\(∀q y,get (inCs ((l.map encD).map fun d=>(M.rd,d)) (a,X.next)).2.1 q=some y->X.next<=q)
 | [],X,E,R,f,a,hX,hS=>⟨hX,rfl,rfl,Nat.le_refl _,rfl,hS,trivial,by simp [lendXs],fun q _=>rfl,fun q y h=>by simp [inCs,get]at h⟩
 | .lf c::l,X,E,R,f,a,hX,hS=>by
  obtain⟨a1,e,fx,nl,n,s,w,o,k,g⟩:=lendXs_ok (a:=a) l hX hS
  have hd:encD (.lf c)=.hole\/∃v,encD (.lf c)=.lf v:=by cases c<;>first|exact .inl rfl|exact .inr ⟨_,rfl⟩
  have e1:(inCs (((XD.lf c::l).map encD).map fun d=>(M.rd,d)) (a,X.next)).2=(inCs ((l.map encD).map fun d=>(M.rd,d)) (a,X.next)).2:=by
   rcases hd with h|⟨v,h⟩<;>simp only[List.map_cons,inCs,h,inC,List.nil_append]
  refine⟨a1,e,fx,nl, ?_, ?_, ?_, ?_,k, ?_⟩
  ·rw[e1];exact n
  ·rw[e1];exact s
  ·cases c<;>first
    | exact⟨WkC.refl _,w⟩
    | exact⟨.inr rfl,w⟩
  ·intro c' hc
   simp only[lendXs,List.mem_cons]at hc
   rcases hc with rfl|hc
   ·cases c<;>trivial
   ·exact o c' hc
  ·intro q y hq;rw[e1]at hq;exact g q y hq
 | .sl t xs::l,X,E,R,f,a,hX,hS=>by
  obtain⟨a1,b1,s1⟩:=newR_ok (x:=.im t xs) (y:=.im t.n (xs.map (encT t))) hX hS (fun cs h=>by simp at h) ⟨_,rfl,rfl,rfl⟩
  obtain⟨a2,e,fx,nl,n,s,w,o,k,g⟩:=lendXs_ok (a:=a) l a1 s1
  have e2:(X.newR (.im t xs)).next=X.next+1:=rfl
  have e1:(inCs (((XD.sl t xs::l).map encD).map fun d=>(M.rd,d)) (a,X.next)).2.1=(X.next,.im t.n (xs.map (encT t)))::(inCs ((l.map encD).map fun d=>(M.rd,d)) (a,X.next+1)).2.1:=rfl
  refine⟨a2,e,fx,Nat.le_trans (Nat.le_succ _) nl,n, ?_,⟨?_,w⟩, ?_, ?_, ?_⟩
  ·refine sim_roots s ?_
   intro r st x hl hx
   rw[e1,e2]
   simp only[List.cons_append,get]
   split
   ·rename_i h
    subst h
    rw[get_append]
    cases hg:get (inCs ((l.map encD).map fun d=>(M.rd,d)) (a,X.next+1)).2.1 X.next with
    | some y=>have:=g _ _ hg;rw[e2]at this;omega
    | none=>simp only[get,if_true]
   ·rename_i h
    rw[get_append,get_append]
    cases hg:get (inCs ((l.map encD).map fun d=>(M.rd,d)) (a,X.next+1)).2.1 r with
    | some y=>rfl
    | none=>simp only[get];rw[if_neg h]
  ·left
   have:lk (lendXs l (X.newR (.im t xs))).2.roots X.next=some (X.stamp,.im t xs):=by
    rw[k _ (by rw[e2];exact Nat.lt_succ_self _)];exact newR_lk _ _
   show cC (lendXs l (X.newR (.im t xs))).2.roots (.rw X.next)=.rf X.next [] t.n 0 (xs.map (encT t)).length
   simp only[cC,this,List.length_map]
  ·intro c hc
   have e3:(lendXs (.sl t xs::l) X).1=.rw X.next::(lendXs l (X.newR (.im t xs))).1:=rfl
   rw[e3]at hc
   rcases List.mem_cons.1 hc with rfl|hc
   ·show X.next<_
    exact Nat.lt_of_lt_of_le (Nat.lt_succ_self X.next) nl
   ·exact o c hc
  ·intro q hq
   show lk (lendXs l (X.newR (.im t xs))).2.roots q=_
   rw[k q (by rw[e2];omega)]
   simp only[XSt.newR];rw[lk_cons,if_neg (by simp only;omega)]
  ·intro q y hq
   rw[e1]at hq
   simp only[get]at hq
   split at hq
   ·omega
   ·have:=g q y hq;rw[e2]at this;omega
theorem envA_lk {s:Nat}:∀{l:List XA}{i t st:Nat}{v:XV},lk (envA s i l) t=some (st,v)->∃a,st=s/\v=.a a/\i<=t/\l[t-i]? = some a
 | [],i,t,st,v,h=>by simp [envA,lk]at h
 | a::l,i,t,st,v,h=>by
  simp only[envA]at h
  rw[lk_cons]at h
  split at h
  ·rename_i e
   simp only at e;subst e
   simp only[Option.some.injEq,Prod.mk.injEq]at h
   exact⟨a,h.1.symm,h.2.symm,Nat.le_refl _,by simp⟩
  ·obtain⟨b,h1,h2,h3,h4⟩:=envA_lk h
   refine⟨b,h1,h2,by omega, ?_⟩
   rw[show t-i=(t-(i+1))+1 by omega,List.getElem?_cons_succ];exact h4
theorem inV_res:∀(args:List (Bool×Ty)) (x:Tp (args.map (·.2))) (cs:List C) (b:Nat),okArgs args=true->cs.length=((argsD args x).flatMap (·.2)).length->inV ((argsD args x).map mkArg) cs b=(newRes (argsD args x) cs).map V.a
 | [],_,_,_,_,_=>rfl
 | (ag,t)::args,x,cs,b,ho,hl=>by
  simp only[okArgs,Bool.and_eq_true,Bool.or_eq_true]at ho
  have hn:=encT_len t (Tp.hd t _ x)
  simp only[argsD,List.flatMap_cons,List.length_append,hn]at hl
  have ih:=inV_res args (Tp.tl t _ x) (cs.drop t.n) b ho.2 (by rw[List.length_drop,hl];omega)
  cases ag with
  | true =>
   simp only[argsD,List.map_cons,mkArg,inV,newRes,newA,if_true,List.length_map,hn,ih]
  | false =>
   have h1:=Nat.eq_of_beq_eq_true (ho.1.resolve_left (by simp))
   simp only[argsD,List.map_cons,mkArg,inV,newRes,newA,Bool.false_eq_true,if_false,List.length_map,hn,ih]
   congr 1
   rw[h1]at hl ⊢
   cases cs with
   | nil=>rw[List.length_nil]at hl;omega
   | cons c cs=>rfl
theorem env0_of:∀{l:List V}{i t:Nat}{v:V},i<=t->l[t-i]? = some v->get (env0 i l) t=some v
 | [],i,t,v,_,h=>by simp at h
 | a::l,i,t,v,hi,h=>by
  simp only[env0,get]
  split
  ·rename_i e;subst e;simpa using h
  ·rename_i e
   refine env0_of (by omega) ?_
   rw[show t-i=(t-(i+1))+1 by omega,List.getElem?_cons_succ]at h;exact h
theorem inX_ok (args:List (Bool×Ty)) (x:Tp (args.map (·.2))) (ho:okArgs args=true):XOk (inX args x)/\SimX (inX args x) ⟨env0 0 (inAs ((argsD args x).map mkArg)).1,(inAs ((argsD args x).map mkArg)).2.1,(inAs ((argsD args x).map mkArg)).2.2,fixN ((argsD args x).map mkArg)⟩:=by
 have he:XOk empX:=⟨fun r s x h=>by simp [empX,lk]at h,fun r s x h=>by simp [empX,lk]at h,fun r s x h=>by simp [empX,lk]at h,Nat.le_refl _⟩
 have hs:SimX empX ⟨[],[],empX.next,0⟩:=⟨rfl,rfl,fun t s v h=>by simp [empX,lk]at h,fun r s x h=>by simp [empX,lk]at h⟩
 obtain⟨a,e,fx,nl,n,s,w,o,k,g⟩:=lendXs_ok (a:=0) (resCells args x) he hs
 rw[resCells_enc]at n s w
 have hfix:fixN ((argsD args x).map mkArg)=0:=by unfold fixN;rw[flat_mk,fixCs_rd,nBox_mk]
 have hcell:inCells ((argsD args x).map mkArg)=inCs (((argsD args x).flatMap (·.2)).map fun d=>(M.rd,d)) (0,0):=by unfold inCells;rw[flat_mk,hfix]
 have hroots:(inAs ((argsD args x).map mkArg)).2.1=(inCs (((argsD args x).flatMap (·.2)).map fun d=>(M.rd,d)) (0,0)).2.1:=by
  show (inCells _).2.1++rootB (inB _ (inCells _).1) _=_
  rw[inB_mk,hcell];simp [rootB]
 have hnext:(inAs ((argsD args x).map mkArg)).2.2=(inCs (((argsD args x).flatMap (·.2)).map fun d=>(M.rd,d)) (0,0)).2.2.2:=by show (inCells _).2.2.2=_;rw[hcell]
 have hval:(inAs ((argsD args x).map mkArg)).1=inV ((argsD args x).map mkArg) (inCs (((argsD args x).flatMap (·.2)).map fun d=>(M.rd,d)) (0,0)).1 (fixCs (flat ((argsD args x).map mkArg))):=by show inV _ (inCells _).1 _=_;rw[hcell]
 have hlen:(inCs (((argsD args x).flatMap (·.2)).map fun d=>(M.rd,d)) (0,0)).1.length=((argsD args x).flatMap (·.2)).length:=by
  have key:∀(l:List (M×D)) (k:Kk),(inCs l k).1.length=l.length:=by
   intro l
   induction l with
   | nil=>intro k;rfl
   | cons a l ih=>intro k;obtain⟨m,d⟩:=a;simp only[inCs,List.length_cons,ih]
  rw[key,List.length_map]
 rw[hroots,hnext,hval,hfix,inV_res args x _ _ ho hlen]
 have hnx:empX.next=0:=rfl
 rw[hnx]at n s w
 have same:∀r st z,lk (lendXs (resCells args x) empX).2.roots r=some (st,z)->st<(lendXs (resCells args x) empX).2.stamp->lk (lendXs (resCells args x) empX).2.roots r=some (st,z):=fun _ _ _ h _=>h
 have hA:=resAs_wk args x _ _ w (by
  have:(lendXs (resCells args x) empX).1.length=(resCells args x).length:=by
   have key:∀(l:List XD) (X:XSt),(lendXs l X).1.length=l.length:=by
    intro l
    induction l with
    | nil=>intro X;rfl
    | cons d l ih=>intro X;cases d<;>simp only[lendXs,List.length_cons,ih]
   exact key _ _
  rw[this,<-argsD_len,List.length_map])
 refine⟨⟨fun r st z h=>⟨(a.ids r st z h).1,Nat.lt_succ_of_lt (a.ids r st z h).2⟩, ?_, ?_,Nat.zero_le _⟩,⟨?_,rfl, ?_, ?_⟩⟩
 ·intro t st v hl
  obtain⟨b,rfl,rfl,_,h4⟩:=envA_lk hl
  refine⟨Nat.lt_succ_self _, ?_⟩
  exact okA.ext (Nat.le_refl _) (Nat.le_succ _) same (resAs_ok args _ o b (List.mem_of_getElem? h4))
 ·intro r st cs h e he
  obtain⟨q1,q2⟩:=a.box r st cs h e he
  exact⟨Nat.lt_succ_of_lt q1,okC.ext (Nat.le_refl _) (Nat.le_succ _) same q2⟩
 ·exact n.symm
 ·intro t st v hl
  obtain⟨b,rfl,rfl,h3,h4⟩:=envA_lk hl
  obtain⟨y,y1,y2⟩:=wkA_get (i:=t-0) (x:=cA (lendXs (resCells args x) empX).2.roots b) hA (by rw[List.getElem?_map,h4];rfl)
  exact .inr ⟨.a y,env0_of (Nat.zero_le _) (by rw[List.getElem?_map,y1];rfl),y2⟩
 ·intro r st z hl y hy
  obtain⟨y',h1,h2⟩:=s.roots r st z hl y hy
  exact⟨y',by simpa using h1,h2⟩
def exitX {β:Type}(X:XSt):List I->(List XA->Option β)->Option β
 | [],k=>k []
 | i::is,k=>rdX X i fun v=>match v with
  | .a x=>exitX X is fun xs=>k (x::xs)
  | _=>none
def cellsAs:List XA->List XC
 | []=>[]
 | .c c::l=>c::cellsAs l
 | .ag cs::l=>cs++cellsAs l
def shapeX:List (Bool×Ty)->List XA->Bool
 | [],[]=>true
 | (false,t)::rs,.c _::l=>Nat.beq t.n 1&&shapeX rs l
 | (true,t)::rs,.ag cs::l=>Nat.beq cs.length t.n&&shapeX rs l
 | _,_=>false
def readR {β:Type}(R:XRs):(rs:List (Bool×Ty))->List XC->(Tp (rs.map (·.2))->Option β)->Option β
 | [],cs,k=>match cs with
  | []=>k ()
  | _=>none
 | (_,t)::rs,cs,k=>readT R t cs fun x cs=>readR R rs cs fun xs=>k (Tp.mk t _ x xs)
def leaveX (rs:List (Bool×Ty)) (X:XSt) (is:List I):Option (Tp (rs.map (·.2))) :=
 exitX X is fun xs=>match shapeX rs xs,ownIds X.roots (cellsAs xs) with
  | true,some ids=>match nodupN ids with
   | true=>readR X.roots rs (cellsAs xs) some
   | false=>none
  | _,_=>none
noncomputable def fnX {P:Program}(Φ:List (Fx P)) (H:List (Nat×Hn)) (s:Stm) (an:An) (is:List I) (args rs:List (Bool×Ty)) (x:Tp (args.map (·.2))):Option (Tp (rs.map (·.2))) :=
 runX Φ H s an (inX args x) fun e X'=>match e with
  | .ret=>leaveX rs X' is
  | .normal=>leaveX rs X' is
  | _=>none
section
variable {P:Program}
theorem exitX_ok {β:Type}{out:β}{X:XSt}{S:St}(hX:XOk X) (hS:SimX X S):∀(is:List I) (k:List XA->Option β),exitX X is k=some out ->
  ∃xs ys,k xs=some out/\All2 WkA ys (xs.map (cA X.roots))/\(∀x∈xs,okA X.roots X.next X.stamp x)/\∀K:List A->Prop,K ys->resK S is K
 | [],k,h=>⟨[],[],h,trivial,by simp,fun K hK=>hK⟩
 | i::is,k,h=>by
  simp only[exitX]at h
  obtain⟨xv,h,ho,v,hw,hev⟩:=rdX_ok hX hS h
  simp only at h
  split at h
  ·rename_i x
   obtain⟨xs,ys,h,h1,h2,h3⟩:=exitX_ok hX hS is _ h
   cases v with
   | a y =>
    refine⟨x::xs,y::ys,h,⟨hw,h1⟩, ?_, ?_⟩
    ·intro z hz
     rcases List.mem_cons.1 hz with rfl|hz
     ·exact ho
     ·exact h2 z hz
    ·intro K hK
     simp only[resK]
     exact hev _ (h3 _ hK)
   | _=>exact hw.elim
  ·simp at h
theorem readR_ok {β:Type}{out:β}{R:XRs}{nx st:Nat}:∀(rs:List (Bool×Ty)) (cs:List XC) (k:Tp (rs.map (·.2))->Option β),(∀c∈cs,okC R nx st c)->readR R rs cs k=some out ->
  ∃y,k y=some out/\All2 (CD R) cs ((argsD rs y).flatMap (·.2))
 | [],cs,k,ho,h=>by
  simp only[readR]at h
  split at h
  ·exact⟨(),h,trivial⟩
  ·simp at h
 | (ag,t)::rs,cs,k,ho,h=>by
  simp only[readR]at h
  obtain⟨x,c0,c1,rfl,h1,h2⟩:=readT_ok t cs _ out ho h
  obtain⟨y,h3,h4⟩:=readR_ok rs c1 _ (fun c hc=>ho c (List.mem_append_right _ hc)) h1
  refine⟨_,h3, ?_⟩
  simp only[argsD,Tp.hd_mk,Tp.tl_mk,List.flatMap_cons]
  exact All2.append h2 h4
theorem shape_ok {R:XRs}:∀(rs:List (Bool×Ty)) (y:Tp (rs.map (·.2))) (xs:List XA) (ys:List A),shapeX rs xs=true->All2 WkA ys (xs.map (cA R))->ys.map (fun x=>((cellsA x).1,(cellsA x).2.length))=(argsD rs y).map (fun x=>(x.1,x.2.length))/\All2 WkC (ys.flatMap fun x=>(cellsA x).2) ((cellsAs xs).map (cC R))
 | [],_,[],[],_,_=>⟨rfl,trivial⟩
 | (ag,t)::rs,y,x::xs,z::ys,h,hw=>by
  have hn:=encT_len t (Tp.hd t _ y)
  cases ag with
  | false=>cases x with
   | c c =>
    simp only[shapeX,Bool.and_eq_true]at h
    obtain⟨a,b⟩:=shape_ok rs (Tp.tl t _ y) xs ys h.2 hw.2
    cases z with
    | c z =>
     refine⟨?_,⟨hw.1,b⟩⟩
     rw[List.map_cons,a]
     simp only[argsD,List.map_cons,cellsA,hn,Nat.eq_of_beq_eq_true h.1,List.length_cons,List.length_nil]
    | ag _=>exact hw.1.elim
   | ag cs=>simp [shapeX]at h
  | true=>cases x with
   | c c=>simp [shapeX]at h
   | ag cs =>
    simp only[shapeX,Bool.and_eq_true]at h
    obtain⟨a,b⟩:=shape_ok rs (Tp.tl t _ y) xs ys h.2 hw.2
    cases z with
    | c z=>exact hw.1.elim
    | ag zs =>
     have hl:=All2.length (show All2 WkC zs (cs.map (cC R)) from hw.1)
     rw[List.length_map]at hl
     refine⟨?_, ?_⟩
     ·rw[List.map_cons,a]
      simp only[argsD,List.map_cons,cellsA,hn,hl,Nat.eq_of_beq_eq_true h.1]
     ·simp only[List.flatMap_cons,cellsA,cellsAs,List.map_append]
      exact wk_app hw.1 b
 | [],_,_::_,_,h,_=>by simp [shapeX]at h
 | (false,_)::_,_,[],_,h,_=>by simp [shapeX]at h
 | (true,_)::_,_,[],_,h,_=>by simp [shapeX]at h
 | [],_,[],_::_,_,h=>h.elim
 | _::_,_,_::_,[],_,h=>h.elim
theorem cellsAs_ok {R:XRs}{nx st:Nat}:∀{xs:List XA},(∀x∈xs,okA R nx st x)->∀c∈cellsAs xs,okC R nx st c
 | [],_,c,hc=>by simp [cellsAs]at hc
 | .c x::l,h,c,hc=>by
  simp only[cellsAs,List.mem_cons]at hc
  rcases hc with rfl|hc
  ·exact h _ List.mem_cons_self
  ·exact cellsAs_ok (fun x hx=>h x (List.mem_cons_of_mem _ hx)) c hc
 | .ag cs::l,h,c,hc=>by
  simp only[cellsAs,List.mem_append]at hc
  rcases hc with hc|hc
  ·exact h _ List.mem_cons_self c hc
  ·exact cellsAs_ok (fun x hx=>h x (List.mem_cons_of_mem _ hx)) c hc
theorem leaveX_ok {rs:List (Bool×Ty)}{X:XSt}{S:St}{is:List I}{y:Tp (rs.map (·.2))}{av:List (Bool×List D)}(hX:XOk X) (hS:SimX X S) (h:leaveX rs X is=some y):resK S is fun xs=>Leaves (av.map mkArg) ⟨argsD rs y,[],[]⟩ S.roots (resV xs):=by
 unfold leaveX at h
 obtain⟨xs,ys,h,h1,h2,h3⟩:=exitX_ok hX hS is _ h
 split at h
 ·rename_i ids hsh hids
  split at h
  ·rename_i hnd
   obtain⟨y',h,hcd⟩:=readR_ok rs _ _ (cellsAs_ok h2) h
   simp only[Option.some.injEq]at h
   subst h
   obtain⟨s1,s2⟩:=shape_ok rs y' xs ys hsh h1
   obtain⟨rt,f1,f2⟩:=takeAll_sim hS (cellsAs xs) _ ids S.roots hcd hids (nodupN_ok hnd) (fun _ _=>rfl)
   have hk:=cd_known hcd s2
   refine h3 _ (leaves_vals (rt:=rt) (inB_mk av _) ?_ s1 ?_)
   ·rw[flat_mk]
    generalize av.flatMap (·.2)=l
    have key:∀(l:List D) (k:Nat),ioOf (l.map fun d=>(M.rd,d)) k=[]:=by
     intro l
     induction l with
     | nil=>intro k;rfl
     | cons d l ih=>intro k;cases d<;>exact ih k
    exact key l 0
   ·rw[hk];exact f1
  ·simp at h
 ·simp at h
theorem runs_of_fn (hm:P.follows .mixedOrders=true){f:FuncId}{fn:Func}{N:Nat}{s:Stm}{is:List I}{Φ:List (Fx P)}{H:List (Nat×Hn)}{an:An}{args rs:List (Bool×Ty)}(hf:P.funcs[f]? = some fn) (hb:(fn.body.bind (trC P fn.ntmps))=some s) (hi:trRes P fn.results.toList=some is) (hn:Nat.ble args.length fn.ntmps=true) (ho:okArgs args=true)
  {x:Tp (args.map (·.2))} {y:Tp (rs.map (·.2))} (h:fnX Φ H s an is args rs x=some y):Runs P f ((argsD args x).map mkArg) ⟨argsD rs y,[],[]⟩:=by
 obtain⟨c,hb,hs⟩:=body_of hb
 obtain⟨h1,h2⟩:=inX_ok args x ho
 have hl:((argsD args x).map mkArg).length=args.length:=by
  have key:∀(as:List (Bool×Ty)) (x:Tp (as.map (·.2))),(argsD as x).length=as.length:=by
   intro as
   induction as with
   | nil=>intro x;rfl
   | cons a as ih=>intro x;obtain⟨ag,t⟩:=a;simp only[argsD,List.length_cons,ih]
  rw[List.length_map,key]
 refine runs_of_sw hf hb hs hi (by rw[hl];exact Nat.le_of_ble_eq_true hn) ?_
 refine runX_ok hm s an h1 h2 h ?_
 intro e X' S' g1 g2 g3 g4
 cases e with
 | ret=>exact leaveX_ok g1 g3 g4
 | normal=>exact leaveX_ok g1 g3 g4
 | _=>simp at g4
end
end Go.Vs
