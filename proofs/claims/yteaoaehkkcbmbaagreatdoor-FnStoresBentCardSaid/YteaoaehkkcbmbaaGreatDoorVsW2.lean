import Derived.Deep.LoopGhost
import Derived.Orders
import Derived.IntWalk
import Derived.Test.YteaoaehkkcbmbaaGreatDoorVsW1
set_option linter.all false
namespace Go.Vs
variable [Glb]
def Nq(E:List (Nat×V)):Bz [] E=E:=rfl
def S7:∀(o:List (Nat×Ao)) (b:List (Nat×V)) (t:Nat),get (Bz o b) t=(get b t).map (V.map (BE o)):=by
 have f:∀x:A,A.map (λc=>c) x=x:=by intro x;cases x<;>simp[A.map]
 have m:∀x:V,V.map (λc=>c) x=x:=by
  intro x;have j:∀l:List A,l.map (A.map λc=>c)=l:=λl=>by induction l with
   |nil=>rfl
   |cons x l n=>rw[A2,f,n]
  cases x<;>simp[V.map,f,j]
 have d:∀(g h:C->C) (x:A),A.map h (A.map g x)=A.map (λc=>h (g c)) x:=by intro g h x;cases x<;>simp[A.map]
 have e:∀(g h:C->C) (x:V),(∀r c,g (.pb r c)=.pb r c)->V.map h (V.map g x)=V.map (λc=>h (g c)) x:=by
  intro g h x p;cases x<;>simp[V.map,d,p]
 have C8:∀(k:V->V) (b:List (Nat×V)) (t:Nat),get (b.map λx=>(x.1,k x.2)) t=(get b t).map k:=by
  intro k b t
  induction b with
  |nil=>rfl
  |cons a b n=>
   obtain⟨i,x⟩:=a;simp only[A2,get];split
   .rfl
   exact n
 intro o
 induction o with
 |nil=>
  intro b t;have:V.map (BE [])=λx=>x:=by funext x;exact m x
  rw[this];cases q:get b t<;>simp[Bz,q]
 |cons k o n=>
  intro b t;simp only[Bz];rw[n,C8];cases get b t with
  |none=>rfl
  |some x=>simp only[Dg];rw[e _ _ _ λ_ _=>rfl];rfl
def AR.killed{pl d:Aw}{i b:Nat}{k:C->C}(h:∀z u,CR pl i z u->CR d b (k z) u){x:A}{v:Value}(j:AR pl i x v):AR d b (x.map k) v:=by
 have f:∀{e:List C} {a:List Value},Ai (CR pl i) e a->Ai (CR d b) (e.map k) a:=by
  intro e
  induction e with
  |nil=>intro a h;cases a<;>exact h
  |cons c e m=>intro a g;cases a with
   |nil=>exact g.elim
   |cons u a=>exact⟨h _ _ g.1,m g.2⟩
 cases x with
 |c c=>exact h _ _ j
 |ag e=>obtain⟨a,rfl,l⟩:=j;exact⟨a,rfl,f l⟩
def VR.killed{pl i:Aw}{o g:Nat}{k:C->C}(h:∀z u,CR pl o z u->CR i g (k z) u){x:V}{v:Value}(m:VR pl o x v):VR i g (x.map k) v:=by
 have w:∀{e:List C} {d:List Value},Ai (CR pl o) e d->Ai (CR i g) (e.map k) d:=by
  intro e
  induction e with
  |nil=>intro d h;cases d<;>exact h
  |cons c e q=>intro d l;cases d with
   |nil=>exact l.elim
   |cons u d=>exact⟨h _ _ l.1,q l.2⟩
 have j:∀{e:List A} {d:List Value},Ai (AR pl o) e d->Ai (AR i g) (e.map (A.map k)) d:=by
  intro e
  induction e with
  |nil=>intro d h;cases d<;>exact h
  |cons c e q=>intro d l;cases d with
   |nil=>exact l.elim
   |cons u d=>exact⟨AR.killed h l.1,q l.2⟩
 cases x with
 |un=>trivial
 |a x=>exact AR.killed h m
 |tp F=>obtain⟨d,rfl,p⟩:=m;exact⟨d,rfl,j p⟩
 |fn f e=>obtain⟨d,rfl,p⟩:=m;exact⟨d,rfl,j p⟩
 |sb r n=>
  obtain⟨D,rfl⟩:=m;have s:=h (.pb r 0) (.pointer (some ⟨(pl r []).b,(pl r []).off+0,none⟩)) ⟨D,rfl⟩;simp only[V.map];split
  .rename_i E B;rw[B]at s;obtain⟨y,t⟩:=s;simp only[AL,Value.pointer.injEq,Ac]at t;exact⟨y,by rw[t]⟩
  trivial
def Bm(d:Option Nat)(x:V)(a:List (Nat×V)):List (Nat×V):=
 match d with
 |some d=>put a d x
 |none=>a
def FJ(P:Program)(S:St)(K:V->List (Nat×Ao)->List (Nat×Root)->Nat->Prop):J->Prop
 |.rd i=>ev S (λv=>K v [] S.roots S.next) i
 |.wr (.call f b)=>Vf P S f (b.map S.opd) K
 |.wr (.calv f b)=>∃g c,S.opd f=.fn g c/\Vc P g=true/\Vf P S g (b.map S.opd++c.map .a) K
 |.wr j=>wr S K j
def JP(P:Program)(g:GI)(S:St)(K:St->Prop):Prop:=
 match g.guard with
 |none=>FJ P S (λx f d h=>K ⟨Bm g.dst x (Bz f S.env),d,h,S.fix⟩) g.op
 |some (t,e)=>match get S.env t with
  |some (.a (.c (.lf (.bool b))))=>(b=e->FJ P S (λx f d h=>K ⟨Bm g.dst x (Bz f S.env),d,h,S.fix⟩) g.op)/\(b≠e->K ⟨Bm g.dst (.tp []) S.env,S.roots,S.next,S.fix⟩)
  |some (.tp _)=>K ⟨Bm g.dst (.tp []) S.env,S.roots,S.next,S.fix⟩
  |_=>False
def B4(P:Program):List GI->St->(St->Prop)->Prop
 |[],S,K=>K S
 |g::l,S,K=>JP P g S λa=>B4 P l a K
def lc(P:Program)(o:Oper):Option J:=
 match Dy P o.type o.op with
 |some i=>some (.rd i)
 |none=>(E1 P o.op).map .wr
def Mq(P:Program)(N:Nat)(b:Array Oper)(o:Oper):Option GI:=do
 let j <- lc P o
 if o.dst.all (·<N) then
  match o.guard with
  |none=>some ⟨o.dst,j,none⟩
  |some (k,a)=>
   let t <- (b[k]?).bind (·.dst)
   some ⟨o.dst,j,some (t,a)⟩
 else none
def GL(P:Program)(N:Nat)(a:Array Oper):List Oper->Option (List GI)
 |[]=>some []
 |o::l=>do some ((<- Mq P N a o)::(<- GL P N a l))
variable {P:Program} {N:Nat} {w0:World} {own0:Nat->Nat->Prop} {pl0:Aw} {g:Bp} {pl:Aw} {S:St} {a:Act} {w:World}
def Rel.put(i:Rel N w0 own0 pl0 g pl S a w){b:Aw}{k:Bp}{c:List (Nat×Root)}{j:Nat}{m:World}{ks:List (Nat×Ao)}{d:Option Nat}{x:V}{v:Value}(hd:d.all (·<N)=true)(l:Hp w0 own0 pl0 k b c j j S.fix m)
  (n:∀z u,CR pl S.next z u->CR b j (BE ks z) u) (o:VR b j x v):Rel N w0 own0 pl0 k b ⟨Bm d x (Bz ks S.env),c,j,S.fix⟩ (a.put d v) m:=by
 have h:∀t y,get (Bz ks S.env) t=some y->VR b j y (a.tmps.getD t undef):=by
  intro t y f;rw[S7]at f;simp only[BP]at f;obtain⟨z,p,rfl⟩:=f;exact (i.env t z p).killed n
 cases d with
 |none=>exact⟨l,i.size,i.defers,h⟩
 |some d=>
  simp only[Option.all_some,AA]at hd;refine⟨l, ?_,i.defers, ?_⟩
  .simp[Act.put,i.size]
  intro t y f;simp only[Bm]at f;rw[Bn]at f;simp only[Act.put];split at f
  .rename_i e;subst e;simp only[Ac]at f;subst f;rw[Fg,RJ (by rw[i.size];exact hd)];exact o
  rename_i e;rw[Fg,UA e,<-Fg];exact h t y f
def dD(d:Rel N w0 own0 pl0 g pl S a w):∀(tys:List TypeId) (l:List Operand) (c:List Opd),JT P tys l=some c->Ai (VR pl S.next) (c.map S.opd) (l.map a.eval)
 |[],[],c,h=>by simp only[JT,Ac]at h;subst h;trivial
 |_::_,[],c,h=>by simp only[JT,Ac]at h;subst h;trivial
 |[],x::l,c,h=>by
  simp only[JT,Bv,AO,Ac]at h;obtain⟨y,e,f,b,rfl⟩:=h;exact⟨Cc d e,dD d [] l f b⟩
 |t::i,x::l,c,h=>by
  simp only[JT,Bv,AO,Ac]at h;obtain⟨y,e,f,b,rfl⟩:=h;exact⟨Cc d e,dD d i l f b⟩
def Next(N:Nat)(w0:World)(own0:Nat->Nat->Prop)(pl0:Aw)(f:Nat)(K:St->Prop)(next:Act->World->Prop):Prop:=
 ∀b h c d e,b.fix=f->K b->Rel N w0 own0 pl0 h c b d e->next d e
def Rl{o:Oper}{s:Sem Value}{next:Act->World->Prop}{Q:Exit->Act->World->Prop}{K:V->List (Nat×Ao)->List (Nat×Root)->Nat->Prop}(j:(execOp a.eval o)=do pure (.value (<- s)))(p:MO P w0 own0 pl0 pl S K s w)
  (l:∀v f x e b d h c,VR c d x v->Hp w0 own0 pl0 h c b d d S.fix f->(∀z u,CR pl S.next z u->CR c d (BE e z) u)->K x e b d->next (a.put o.dst v) f):o.wp P a w next Q:=by
 obtain⟨v,f,x,e,b,d,h,c,n,q,m,k,i⟩:=p;unfold Oper.wp;rw[j];simp only[Sem.run_bind,n];exact l v f x e b d h c q m k i
def rC:W->Bool
 |.call _ _=>true
 |.calv _ _=>true
 |_=>false
def j3(H:Rel N w0 own0 pl0 g pl S a w){o:Oper}{j:J}(ht:lc P o=some j){K:V->List (Nat×Ao)->List (Nat×Root)->Nat->Prop}(h:FJ P S K j){next:Act->World->Prop}{Q:Exit->Act->World->Prop}
  (L:∀v Z x U p O g' D,VR D O x v->Hp w0 own0 pl0 g' D p O O S.fix Z->(∀z u,CR pl S.next z u->CR D O (BE U z) u)->K x U p O->next (a.put o.dst v) Z):
  o.wp P a w next Q:=by
 unfold lc at ht;split at ht
 .rename_i i hi;simp only[Ac]at ht;subst ht;obtain⟨v,x,hr,q,hK⟩:=po (K:=λv=>K v [] S.roots S.next) H hi h;unfold Oper.wp;rw[hr];exact L v w x [] S.roots S.next g pl q H.hp (λ_ _ h=>h) hK
 simp only[BP]at ht;obtain⟨j',k,rfl⟩:=ht;obtain⟨a0,op,X,pos,F,G⟩:=o;have E:(∀x:W,rC x=true->j'≠x)->FJ P S K (.wr j')->wr S K j':=by
  intro a1 hh;cases j'<;>first|exact hh|exact (a1 _ rfl rfl).elim
 cases op with
 |alloc e=>
  refine Rl rfl (Zp9 H k (E ?_ h)) L;intro x q e;subst e;simp only[E1,Bv,AO,Ac]at k;obtain⟨_,_,_,_,_,_,k⟩:=k;(subst k;cases q)
 |box e x=>
  refine Rl rfl (Zqb H k (E ?_ h)) L;intro x q e;subst e;simp only[E1,BP]at k;obtain⟨_,_,k⟩:=k;(subst k;cases q)
 |buildSlice t len b1=>
  refine Rl rfl (Zqd H k (E ?_ h)) L;intro x q e;subst e;simp only[E1]at k;split at k
  .simp only[Bv,AO]at k;obtain⟨_,_,_,_,_,_,k⟩:=k;split at k
   .simp only[AO,Ac]at k;obtain⟨_,_,k⟩:=k;(subst k;cases q)
   simp at k
  simp at k
 |convert s d x=>
  refine Rl rfl (Zqf H k (E ?_ h)) L;intro x q e;subst e;simp only[E1,Bv,AO]at k;obtain⟨_,_,k⟩:=k;split at k
  .split at k
   .simp only[Ac]at k;(subst k;cases q)
   simp at k
  simp at k
 |makeSlice t l c=>
  refine Rl rfl (Zqe H k (E ?_ h)) L;intro x q e;subst e;simp only[E1]at k;split at k
  .simp only[Bv,AO]at k;obtain⟨_,_,_,_,_,_,k⟩:=k;split at k
   .simp only[AO,Ac]at k;obtain⟨_,_,_,_,k⟩:=k;(subst k;cases q)
   simp at k
  simp at k
 |store t x v=>
  have a1:∀x:W,rC x=true->j'≠x:=by
   intro x q e;subst e;simp only[E1,Bv,AO,Ac]at k;obtain⟨_,_,_,_,_,_,k⟩:=k;(subst k;cases q)
  obtain⟨Z,U,p,O,g',D,hr,hp,hk,hK⟩:=Zn0 H k (E a1 h);unfold Oper.wp;rw[show execOp a.eval ⟨a0,.store t x v,X,pos,F,G⟩=(do Instr.storeAt t (a.eval x) (a.eval v);pure .skip) from rfl];simp only[Sem.run_bind,hr];exact L undef Z .un U p O g' D trivial hp hk hK
 |call c=>
  obtain⟨R,m,tys⟩:=c;cases R with
  |builtin b=>
   cases b with
   |append=>
    refine Rl ?_ (Zqa H (ty:=X) k (E ?_ h)) L
    .simp[execOp,resolve,invoke,builtin]
    intro x q e;subst e;simp only[E1]at k;split at k
    .split at k
     .simp only[Bv,AO]at k;obtain⟨_,_,_,_,_,_,k⟩:=k;split at k
      .simp only[AO,Ac]at k;obtain⟨_,_,_,_,k⟩:=k;(subst k;cases q)
      simp at k
     .simp only[Bv,AO]at k;obtain⟨_,_,_,_,_,_,k⟩:=k;split at k
      .simp only[AO,Ac]at k;obtain⟨_,_,_,_,k⟩:=k;(subst k;cases q)
      simp at k
     simp at k
    simp at k
   |clear=>
    refine Rl ?_ (Zqc H (ty:=X) k (E ?_ h)) L
    .simp[execOp,resolve,invoke,builtin]
    intro x q e;subst e;simp only[E1]at k;split at k
    .split at k
     .simp only[Bv,AO]at k;obtain⟨_,_,_,_,_,_,k⟩:=k;split at k
      .simp only[AO,Ac]at k;obtain⟨_,_,k⟩:=k;(subst k;cases q)
      simp at k
     simp at k
    simp at k
   |_=>simp[E1]at k
  |invoke r n=>simp[E1]at k
  |value x=>
   cases x with
   |tmp t=>
    simp only[E1,Bv,AO,Ac]at k;obtain⟨xs,a2,rfl⟩:=k;obtain⟨g,a3,a9,B,hc⟩:=h;have T:=Cc H (P:=P) (ty:=0) (x:=.tmp t) (y:=.t t) rfl;rw[a9]at T;obtain⟨cs,a8,a7⟩:=T;have I:Ai (VR pl S.next) (xs.map S.opd) (m.toList.map a.eval):=dD H _ _ _ a2;have a4:Ai (VR pl S.next) (xs.map S.opd++a3.map .a) (m.toList.map a.eval++cs):=by
     refine Ai.append I ?_;have b0:∀(l:List A) (Y:List Value),Ai (AR pl S.next) l Y->Ai (VR pl S.next) (l.map .a) Y:=by
      intro l
      induction l with
      |nil=>intro Y h;cases Y<;>exact h
      |cons x l ih=>intro Y h;cases Y with
       |nil=>exact h.elim
       |cons u Y=>exact⟨h.1,ih Y h.2⟩
     exact b0 _ _ a7
    have a6:=nS H.hp a4 hc;unfold Vc at B;split at B
    .rename_i fn hf;simp only[A6,DN,DO]at B;unfold Oper.wp;have M:(execOp a.eval ⟨a0,.call ⟨.value (.tmp t),m,tys⟩,X,pos,F,G⟩).run P w=.ok (.enter g (m.map a.eval++cs.toArray)) w:=by
      cases a5:fn.body with
      |none=>rw[a5]at B;simp at B
      |some c=>simp[execOp,resolve,invoke,callFunc,Deferred.ofValue,a8,hf,B.2,a5]
     rw[M,Oper.upon_enter];rw[show m.map a.eval++cs.toArray=(m.toList.map a.eval++cs).toArray from (by apply Array.ext';simp)];refine Calls.mono a6 ?_;rintro e Z ⟨rv,x,U,p,O,g',D,rfl,q,hp,hk,hK⟩;exact L rv Z x U p O g' D q hp hk hK
    simp at B
   |const v=>simp[E1]at k
   |global v=>simp[E1]at k
   |func f=>
    simp only[E1]at k;split at k
    .rename_i fn hf;split at k
     .rename_i C;simp only[BP]at k;obtain⟨xs,a2,rfl⟩:=k;simp only[A6,DN,DO]at C;have I:Ai (VR pl S.next) (xs.map S.opd) (m.toList.map a.eval):=dD H _ _ _ a2;have hc:=nS H.hp I h;unfold Oper.wp;have M:(execOp a.eval ⟨a0,.call ⟨.value (.func f),m,tys⟩,X,pos,F,G⟩).run P w=.ok (.enter f (m.map a.eval)) w:=by
       cases B:fn.body with
       |none=>rw[B]at C;simp at C
       |some c=>simp[execOp,resolve,invoke,callFunc,Deferred.ofValue,Act.eval,hf,C.2,B]
      rw[M,Oper.upon_enter];rw[show m.map a.eval=(m.toList.map a.eval).toArray from (by apply Array.ext';simp)];refine Calls.mono hc ?_;rintro e Z ⟨rv,x,U,p,O,g',D,rfl,q,hp,hk,hK⟩;exact L rv Z x U p O g' D q hp hk hK
     simp at k
    simp at k
 |_=>simp[E1]at k
def vH(n:Rel N w0 own0 pl0 g pl S a w){f:Array Oper}{i:Nat}{o:Oper}{H:GI}(R:f[i]?= some o)(e:Mq P N f o=some H){K:St->Prop}(h:JP P H S K){next:Act->World->Prop}{Q:Exit->Act->World->Prop}
  (I:Next N w0 own0 pl0 S.fix K next):wpOp P f Q i next a w:=by
 unfold wpOp;rw[R];simp only;unfold Mq at e;simp only[Bv,AO]at e;obtain⟨j,M,e⟩:=e;split at e
 .rename_i hd;have r:FJ P S (λx z c F=>K ⟨Bm o.dst x (Bz z S.env),c,F,S.fix⟩) j->o.wp P a w next Q:=by
   intro h;refine j3 n M h ?_;intro v Y x z c F J G V T O L;exact I ⟨Bm o.dst x (Bz z S.env),c,F,S.fix⟩ J G _ _ rfl L (n.put hd T O V)
  have skip:K ⟨Bm o.dst (.tp []) S.env,S.roots,S.next,S.fix⟩->next (a.put o.dst undef) w:=by
   intro h;exact I ⟨Bm o.dst (.tp []) S.env,S.roots,S.next,S.fix⟩ g pl _ _ rfl h (n.put (ks:=[]) (x:=.tp []) hd n.hp (λ_ _ h=>h) ⟨[],rfl,trivial⟩)
  split at e
  .rename_i p;simp only[Ac]at e;subst e;rw[Af (by simp[Region.wanted,p])];exact .inl (r h)
  rename_i k s p;simp only[AO,Ac]at e;obtain⟨t,⟨W,C,B⟩,rfl⟩:=e;simp only[JP]at h;have E:yielded f a.tmps k=match a.tmps[t]? with|some (.bool b)=>some b|_=>none:=by
   unfold yielded;rw[C];simp only[DF,B];rfl
  split at h
  .rename_i b A;have D:=n.env t _ A;have d:a.tmps.getD t undef=.bool b:=D.1;have q:a.tmps[t]?= some (.bool b):=by
    rw[Fg]at d;cases y:a.tmps[t]? with
    |none=>rw[y]at d;simp[undef]at d
    |some u=>rw[y]at d;simp at d;rw[d]
   by_cases l:b=s
   .rw[Af (by simp[Region.wanted,p,E,q,l])];exact .inl (r (h.1 l))
   rw[Ae (by simp[Region.wanted,p,E,q,l])];exact skip (h.2 l)
  .rename_i Z A;have D:=n.env t _ A;obtain⟨X,m,_⟩:=D;have U:Region.wanted o (yielded f a.tmps)=false:=by
    simp only[Region.wanted,p,E];rw[Fg]at m;cases y:a.tmps[t]? with
    |none=>simp
    |some u=>
     rw[y]at m;simp only[Eg]at m;subst m;simp
   rw[Ae (by rw[U];simp)];exact skip h
  exact h.elim
 simp at e
end Go.Vs
namespace Go.Vs
variable [Glb]
def Hp.next(h:∃x:Nat,x=0):True:=trivial
def PQ(N:Nat)(i:World)(b:Nat->Nat->Prop)(f:Aw)(g:Nat)(Q:Exit->St->Prop)(e:Exit)(a:Act)(w:World):Prop:=
 ∃c h d,Q e c/\c.fix=g/\Rel N i b f h d c a w
def Vw(P:Program)(N:Nat)(c:Code)(S:St)(Q:Exit->St->Prop):Prop:=
 ∀(e:World) (b:Nat->Nat->Prop) (d:Aw) (g:Bp) (pl:Aw) (a:Act) (w:World),Rel N e b d g pl S a w->c.wp P (PQ N e b d S.fix Q) a w
def Bi(next:St->Prop)(Q:Exit->St->Prop):Exit->St->Prop
 |.normal,S=>next S
 |e,S=>Q e S
def Bl(id:Nat)(Q:Exit->St->Prop):Exit->St->Prop
 |.exit a,S=>if a=id then Q .normal S else Q (.exit a) S
 |e,S=>Q e S
def Le(S T:St):Prop:=T.fix=S.fix/\∀(N:Nat) (e:World) (b:Nat->Nat->Prop) (c:Aw) (g:Bp) (pl:Aw) (a:Act) (w:World),Rel N e b c g pl S a w->∃f d,Rel N e b c f d T a w
variable {P:Program} {N:Nat} {S:St} {Q:Exit->St->Prop}
def wk{c:Code}{j:Exit->St->Prop}(h:Vw P N c S Q)(m:∀e d,Q e d->j e d):Vw P N c S j:=λn b i g pl a w l=>wp_mono (h n b i g pl a w l) λe a w ⟨d,k,f,q,r⟩=>⟨d,k,f,m _ _ q,r⟩
def Zpt(h:Q .normal S):Vw P N .skip S Q:=λ_ _ _ g pl _ _ a=>wp_skip ⟨S,g,pl,h,rfl,a⟩
def Zpn{id:Nat}(h:Q (.exit id) S):Vw P N (.exit id) S Q:=λ_ _ _ g pl _ _ a=>wp_exit ⟨S,g,pl,h,rfl,a⟩
def Zpr(h:Q .ret S):Vw P N .ret S Q:=λ_ _ _ g pl _ _ a=>wp_ret ⟨S,g,pl,h,rfl,a⟩
def Zps{x y:Code}(h:Vw P N x S (Bi (λd=>Vw P N y d Q) Q)):Vw P N (.seq x y) S Q:=λk c j g pl a w n=>by
 refine wp_seq (wp_mono (h k c j g pl a w n) ?_);rintro e m o ⟨d,f,b,q,i,r⟩;cases e with
 |normal=>
  have:=q k c j f b m o r;rw[i]at this;exact this
 |exit id=>exact⟨d,f,b,q,i,r⟩
 |goto l=>exact⟨d,f,b,q,i,r⟩
 |ret=>exact⟨d,f,b,q,i,r⟩
 |panic p=>exact⟨d,f,b,q,i,r⟩
 |outgrown=>exact⟨d,f,b,q,i,r⟩
def tv:V->Option Bool
 |.a (.c (.lf (.bool b)))=>some b
 |_=>none
def Zpk{c:Operand}{x y:Code}{o:Opd}(m:BL P 0 c=some o){b:Bool}(e:tv (S.opd o)=some b)(q:b=true->Vw P N x S Q)(p:b=false->Vw P N y S Q):Vw P N (.cond c x y) S Q:=λl d f g pl a w i=>by
 have k:=Cc i m;have j:a.eval c=.bool b:=by
  unfold tv at e;split at e
  .rename_i r n;simp only[Ac]at e;subst e;rw[n]at k;exact k.1
  simp at e
 refine wp_cond_split j (λh=>q h l d f g pl a w i) λh=>p h l d f g pl a w i
def Zpj{id:Nat}{c:Code}(h:Vw P N c S (Bl id Q)):Vw P N (.block id c) S Q:=λo j k g pl a w m=>by
 refine wp_block (wp_mono (h o j k g pl a w m) ?_);rintro e p t ⟨d,f,b,q,i,r⟩;cases e with
 |exit n=>
  simp only[Exit.inBlock,Bl]at q ⊢;split
  .rename_i h;rw[Af h]at q;exact⟨d,f,b,q,i,r⟩
  rename_i h;rw[Ae h]at q;exact⟨d,f,b,q,i,r⟩
 |normal=>exact⟨d,f,b,q,i,r⟩
 |goto l=>exact⟨d,f,b,q,i,r⟩
 |ret=>exact⟨d,f,b,q,i,r⟩
 |panic s=>exact⟨d,f,b,q,i,r⟩
 |outgrown=>exact⟨d,f,b,q,i,r⟩
def Zpo{c:Code}(I:Nat->St->Prop)(n:Nat)(F:∃T,I n T/\Le S T)(J:∀k T,T.fix=S.fix->I k T->Vw P N c T (Bi (λi=>∃s p,s<k/\I s p/\Le i p) Q)):Vw P N (.loop c) S Q:=λt b h g pl a w v=>by
 obtain⟨T,hT,B⟩:=F;obtain⟨D,z,x⟩:=B.2 N t b h g pl a w v;refine wp_loop_ghost (λk a w=>∃T g pl,I k T/\T.fix=S.fix/\Rel N t b h g pl T a w) n ⟨T,D,z,hT,B.1,x⟩ ?_;rintro k a w ⟨T,g,pl,G,j,v⟩;refine wp_mono (J k T j G t b h g pl a w v) ?_;rintro e C K ⟨i,m,f,q,d,r⟩;cases e with
 |normal=>
  obtain⟨s,p,H,u,o⟩:=q;obtain⟨E,A,y⟩:=o.2 N t b h m f C K r;exact⟨s,H,p,E,A,u,by rw[o.1,d,j],y⟩
 |exit id=>exact⟨i,m,f,q,by rw[d,j],r⟩
 |goto l=>exact⟨i,m,f,q,by rw[d,j],r⟩
 |ret=>exact⟨i,m,f,q,by rw[d,j],r⟩
 |panic L=>exact⟨i,m,f,q,by rw[d,j],r⟩
 |outgrown=>exact⟨i,m,f,q,by rw[d,j],r⟩
def Le.sub{T:St}(b:T.next=S.next)(c:T.fix=S.fix)(q:∀t x,get T.env t=some x->get S.env t=some x)(s:∀r x,get T.roots r=some x->get S.roots r=some x):Le S T:=⟨c,λN y e u g pl a w p=>⟨g,pl,by
 obtain⟨l,m,n,o⟩:=p;obtain⟨f,h,i,j,v,k⟩:=l;refine⟨⟨f, ?_, ?_, ?_, ?_, ?_⟩,m,n, ?_⟩
 .rw[b];exact h
 .rw[c];exact i
 .rw[c,b];exact j
 .exact AE _
 .intro r x d;rw[b];exact k r x (s r x d)
 .intro t x d;rw[b];exact o t x (q t x d)⟩⟩
def ti{c:Array Oper}{v:World}{d:Nat->Nat->Prop}{f:Aw}{t:Nat}:∀(l:List Oper) (k:Nat) (b:List GI) (S:St) (g:Bp) (pl:Aw) (a:Act) (w:World),(∀j,l[j]?= c[k+j]?)->GL P N c l=some b->S.fix=t->Rel N v d f g pl S a w->B4 P b S (Q .normal) ->
  wpOps P c (PQ N v d f t Q) (List.range' k l.length) a w
 |[],k,b,S,g,pl,a,w,_,e,n,i,h=>by
  simp only[GL,Ac]at e;subst e;exact⟨S,g,pl,h,n,i⟩
 |o::l,k,b,S,g,pl,a,w,u,e,n,i,h=>by
  simp only[GL,Bv,AO,Ac]at e;obtain⟨E,q,A,r,rfl⟩:=e;simp only[Aq,Yo];rw[wpOps_cons];have B:c[k]?= some o:=by simpa using (u 0).symm
  refine vH i B q h ?_;intro x z s y D p C m;exact ti l (k+1) A x z s y D (λj=>by have:=u (j+1);simpa[FQ,Nat.add_comm 1 j] using this) r (by rw[p,n]) m C
def Zpp{id:Nat}{b:Array Oper}{c:List GI}(f:GL P N b b.toList=some c)(h:B4 P c S (Q .normal)):Vw P N (.region id b false) S Q:=λj d i g pl a w e=>by
 refine wp_region ?_;rw[m8,<-Hh];exact ti b.toList 0 c S g pl a w (by simp) f rfl e h
end Go.Vs
namespace Go.Vs
variable [Glb]
def ZV{S : St}{K : V → Prop}{i : I}(h : ev S K i) : ∃ x, K x ∧ ∀ l : V → Prop, l x → ev S l i := by
  cases i with
  |mv x => exact ⟨_, h, λl k => k⟩
  |pick c a b=>
    simp only[ev] at h ⊢;split at h
    · rename_i t z
      cases t
      · exact ⟨_, h.2 rfl, λl k => ⟨λe => by simp at e, λ_ => k⟩⟩
      exact ⟨_, h.1 rfl, λl k => ⟨λ_ => k, λe => by simp at e⟩⟩
    exact h.elim
  |load n x=>
    cases n <;> simp only[ev] at h ⊢ <;> split at h <;> first
      |exact h.elim
      |(obtain ⟨d, e, h⟩ := h; exact ⟨_, h, λl k => ⟨d, e, k⟩⟩)
      |(obtain ⟨d, e, f, h⟩ := h; exact ⟨_, h, λl k => ⟨d, e, f, k⟩⟩)
  |nilc x=>
    simp only[ev] at h ⊢;split at h <;> first
      |exact h.elim
      |(exact ⟨_, h, λl k => k⟩)
  |bin C x y=>
    simp only[ev] at h ⊢;split at h <;> first
      |exact h.elim
      |(obtain ⟨d, e, h⟩ := h; exact ⟨_, h, λl k => ⟨d, e, k⟩⟩)
  |beq neg x y=>
    simp only[ev] at h ⊢;split at h <;> first
      |exact h.elim
      |exact ⟨_, h, λl k => k⟩
  |aeq neg m x y=>
    simp only[ev] at h ⊢;split at h <;> first
      |exact h.elim
      |(obtain ⟨D, E, s, u, v, w, h⟩ := h; exact ⟨_, h, λl k => ⟨D, E, s, u, v, w, k⟩⟩)
  |un C x=>
    simp only[ev] at h ⊢;split at h <;> first
      |exact h.elim
      |(obtain ⟨d, e, h⟩ := h; exact ⟨_, h, λl k => ⟨d, e, k⟩⟩)
  |conv F x=>
    simp only[ev] at h ⊢;split at h <;> first
      |exact h.elim
      |(exact ⟨_, h, λl k => k⟩)
  |b2s x=>
    simp only[ev] at h ⊢;split at h <;> first
      |exact h.elim
      |(obtain ⟨d, e, h⟩ := h; exact ⟨_, h, λl k => ⟨d, e, k⟩⟩)
      |(exact ⟨_, h, λl k => k⟩)
  |slc G x B A=>
    simp only[ev] at h ⊢;split at h <;> first
      |exact h.elim
      |(obtain ⟨d, e, h⟩ := h; exact ⟨_, h, λl k => ⟨d, e, k⟩⟩)
      |(exact ⟨_, h, λl k => k⟩)
  |ssl x B A=>
    simp only[ev] at h ⊢;split at h <;> first
      |exact h.elim
      |(obtain ⟨e, h⟩ := h; exact ⟨_, h, λl k => ⟨e, k⟩⟩)
  |fld o n x=>
    cases n <;> simp only[ev] at h ⊢ <;> split at h <;> first
      |exact h.elim
      |(obtain ⟨d, e, h⟩ := h; exact ⟨_, h, λl k => ⟨d, e, k⟩⟩)
      |(obtain ⟨e, h⟩ := h; exact ⟨_, h, λl k => ⟨e, k⟩⟩)
  |fad o x=>
    simp only[ev] at h ⊢;split at h <;> first
      |exact h.elim
      |(exact ⟨_, h, λl k => k⟩)
  |iad r x j=>
    simp only[ev] at h ⊢;split at h <;> first
      |exact h.elim
      |(obtain ⟨d, e, h⟩ := h; exact ⟨_, h, λl k => ⟨d, e, k⟩⟩)
  |iaa len r x j=>
    simp only[ev] at h ⊢;split at h <;> first
      |exact h.elim
      |(obtain ⟨e, h⟩ := h; exact ⟨_, h, λl k => ⟨e, k⟩⟩)
  |idx x j=>
    simp only[ev] at h ⊢;split at h <;> first
      |exact h.elim
      |(obtain ⟨d, e, f, h⟩ := h; exact ⟨_, h, λl k => ⟨d, e, f, k⟩⟩)
  |ixa len n r x j=>
    cases n <;> simp only[ev] at h ⊢ <;> first
      |exact h.elim
      | (split at h <;> first
          |exact h.elim
          |(obtain ⟨d, e, f, h⟩ := h; exact ⟨_, h, λl k => ⟨d, e, f, k⟩⟩))
  |ext n x=>
    simp only[ev] at h ⊢;split at h <;> first
      |exact h.elim
      |(obtain ⟨d, e, h⟩ := h; exact ⟨_, h, λl k => ⟨d, e, k⟩⟩)
  |len x=>
    simp only[ev] at h ⊢;split at h <;> first
      |exact h.elim
      |(exact ⟨_, h, λl k => k⟩)
  |sid x=>
    simp only[ev] at h ⊢;split at h <;> first
      |exact h.elim
      |(exact ⟨_, h, λl k => k⟩)
  |sln x=>
    simp only[ev] at h ⊢;split at h <;> first
      |exact h.elim
      |(exact ⟨_, h, λl k => k⟩)
  |build zero p=>
    simp only[ev] at h ⊢;obtain ⟨d, e, h⟩ := h;exact ⟨_, h, λl k => ⟨d, e, k⟩⟩
  |mkf g q=>
    simp only[ev] at h ⊢;obtain ⟨d, e, h⟩ := h;exact ⟨_, h, λl k => ⟨d, e, k⟩⟩
abbrev KW:=V->List (Nat×Ao)->List (Nat×Root)->Nat->Prop
def NP{S:St}{K:KW}{j:W}(h:wr S K j):∃x F r n,K x F r n/\∀m:KW,m x F r n->wr S m j:=by
 cases j with
 |alloc zero=>exact⟨_,_,_,_,h,λm k=>k⟩
 |box x=>
  simp only[wr]at h ⊢;obtain⟨d,e,h⟩:=h;exact⟨_,_,_,_,h,λm k=>⟨d,e,k⟩⟩
 |lit z len zero w=>
  simp only[wr]at h ⊢;rcases h with ⟨d,e,f,G,h⟩|⟨d,e,h⟩
  .exact⟨_,_,_,_,h,λm k=>.inl ⟨d,e,f,G,k⟩⟩
  exact⟨_,_,_,_,h,λm k=>.inr ⟨d,e,k⟩⟩
 |store n x v=>
  simp only[wr]at h ⊢;split at h
  .rename_i o;obtain⟨a,b,c,d,e,f,h⟩:=h;exact⟨_,_,_,_,h,λm k=>⟨a,b,c,d,e,f,k⟩⟩
  .rename_i o;obtain⟨a,b,c,d,e,f,g,i,j,h⟩:=h;exact⟨_,_,_,_,h,λm k=>⟨a,b,c,d,e,f,g,i,j,k⟩⟩
  exact h.elim
 |s2b x=>
  simp only[wr]at h ⊢;split at h
  .exact⟨_,_,_,_,h,λm k=>k⟩
  exact h.elim
 |mks z p zero l c=>
  simp only[wr]at h ⊢;split at h
  .rename_i J L;obtain⟨a,b,c,d,e,h⟩:=h;exact⟨_,_,_,_,h,λm k=>⟨a,b,c,d,e,k⟩⟩
  exact h.elim
 |app z p zero x y=>
  simp only[wr]at h ⊢;obtain⟨b,t,u,h⟩:=h;split at h
  .rename_i o;exact⟨_,_,_,_,h.2,λm k=>⟨b,t,u,h.1,k⟩⟩
  .rename_i o;obtain⟨A,B,C,l,D,E,h|⟨s,e,I,h⟩⟩:=h
   .exact⟨_,_,_,_,h.2,λm k=>⟨b,t,u,A,B,C,l,D,E,.inl ⟨h.1,k⟩⟩⟩
   exact⟨_,_,_,_,h,λm k=>⟨b,t,u,A,B,C,l,D,E,.inr ⟨s,e,I,k⟩⟩⟩
  exact h.elim
 |aps zero x y=>
  simp only[wr]at h ⊢;obtain⟨b,t,u,h⟩:=h;split at h
  .rename_i o;exact⟨_,_,_,_,h.2,λm k=>⟨b,t,u,h.1,k⟩⟩
  exact h.elim
 |clr z zero x=>
  simp only[wr]at h ⊢;split at h
  .obtain⟨a,H,b,c,h⟩:=h;exact⟨_,_,_,_,h,λm k=>⟨a,H,b,c,k⟩⟩
  .exact⟨_,_,_,_,h,λm k=>k⟩
  exact h.elim
 |call f q=>exact h.elim
 |calv f q=>exact h.elim
def nR{P:Program}{S:St}{K:KW}{f:FuncId}{C:List V}(h:Vf P S f C K):∃x B r n,K x B r n/\∀i:KW,i x B r n->Vf P S f C i:=by
 rcases h with ⟨m,g,l,o,t,A,v,u,b,w,p,y,s,a⟩|⟨D,z,l,b,a⟩|⟨F,q,j,e,m,g,l,o,t,A,v,u,b,w,p,y,s,a⟩|⟨c,d,tl,e,E,b,a⟩
 .exact⟨_,_,_,_,a,λi k=>.inl ⟨m,g,l,o,t,A,v,u,b,w,p,y,s,k⟩⟩
 .exact⟨_,_,_,_,a,λi k=>.inr (.inl ⟨D,z,l,b,k⟩)⟩
 .exact⟨_,_,_,_,a,λi k=>.inr (.inr (.inl ⟨F,q,j,e,m,g,l,o,t,A,v,u,b,w,p,y,s,k⟩))⟩
 exact⟨_,_,_,_,a,λi k=>.inr (.inr (.inr ⟨c,d,tl,e,E,b,k⟩))⟩
def gj{P:Program}{S:St}{K:KW}{j:J}(h:FJ P S K j):∃x p r n,K x p r n/\∀e:KW,e x p r n->FJ P S e j:=by
 cases j with
 |rd i=>
  obtain⟨x,A,z⟩:=ZV (K:=λv=>K v [] S.roots S.next) h;exact⟨x,_,_,_,A,λe k=>z (λv=>e v [] S.roots S.next) k⟩
 |wr j=>
  cases j with
  |call f m=>
   exact nR h
  |alloc zero=>exact NP (j:=.alloc zero) h
  |box x=>exact NP (j:=.box x) h
  |lit d len zero b=>exact NP (j:=.lit d len zero b) h
  |store n x v=>exact NP (j:=.store n x v) h
  |s2b x=>exact NP (j:=.s2b x) h
  |mks d a zero l c=>exact NP (j:=.mks d a zero l c) h
  |app d a zero x y=>exact NP (j:=.app d a zero x y) h
  |aps zero x y=>exact NP (j:=.aps zero x y) h
  |clr d zero x=>exact NP (j:=.clr d zero x) h
  |calv f m=>
   obtain⟨g,o,s,t,u⟩:=h;obtain⟨x,p,r,n,w,k⟩:=nR u;exact⟨x,p,r,n,w,λe q=>⟨g,o,s,t,k e q⟩⟩
def CI(P:Program)(g:GI)(S:St)(K:KW):Prop:=
 match g.guard with
 |none=>FJ P S K g.op
 |some (t,d)=>match get S.env t with
  |some (.a (.c (.lf (.bool b))))=>(b=d->FJ P S K g.op)/\(b≠d->K (.tp []) [] S.roots S.next)
  |some (.tp _)=>K (.tp []) [] S.roots S.next
  |_=>False
def lC{P:Program}{g:GI}{S:St}{K:KW}(h:CI P g S K):∃x f r n,K x f r n/\∀a:KW,a x f r n->CI P g S a:=by
 unfold CI at h ⊢;cases j:g.guard with
 |none=>simp only[j]at h ⊢;exact gj h
 |some l=>
  obtain⟨t,c⟩:=l;simp only[j]at h ⊢;split at h
  .rename_i b i;by_cases d:b=c
   .obtain⟨x,f,r,n,m,o⟩:=gj (h.1 d);exact⟨x,f,r,n,m,λa k=>⟨λ_=>o a k,λe=>(e d).elim⟩⟩
   exact⟨_,_,_,_,h.2 d,λa k=>⟨λe=>(d e).elim,λ_=>k⟩⟩
  .rename_i i;exact⟨_,_,_,_,h,λa k=>k⟩
  exact h.elim
end Go.Vs
namespace Go.Vs
variable [Glb]
structure DI where
 gi:GI
 anc:List Nat
 w:Bool
 lo:Nat
 hi:Nat
 deriving Inhabited
abbrev Mem:=List (Nat×Root)×Nat
structure Pend where
 gi:GI
 E:List (Nat×V)
 x:V
 hi:Nat
def Cj(p:Nat->Bool):Nat->List (Option Nat×V)->List (Nat×V)
 |_,[]=>[]
 |i,(some d,x)::l=>if p i then (d,x)::Cj p (i+1) l else Cj p (i+1) l
 |i,(none,_)::l=>Cj p (i+1) l
def PO(d:Option (List (Nat×Ao)))(c:List (Nat×Ao))(i n:Nat)(a:List Nat):Prop:=match d with
 |none=>c=[]
 |some k=>if i+1=n then c=k/\∀b,b<i->b∈a else c=[]
def Zi4{k:List (Nat×Ao)}{i n:Nat}{a:List Nat}(h:i+1=n)(c:∀b,b<i->b∈a):PO (some k) k i n a:=by
 unfold PO;simp only;rw[Af h];exact⟨trivial,c⟩
def Zi5{k:List (Nat×Ao)}{i n:Nat}{a:List Nat}(h:i+1≠n):PO (some k) [] i n a:=by
 unfold PO;simp only;rw[Ae h];trivial
def V3(a:Option (List (Nat×Ao)))(R:List (Option Nat×V))(E:List (Nat×V)):List (Nat×V):=match a with
 |none=>Cj (λ_=>true) 0 R++E
 |some k=>match R.getLast? with
  |some y=>Bm y.1 y.2 (Bz k (Cj (λ_=>true) 0 R.dropLast++E))
  |none=>E
def KQ(P:Program)(c:Nat)(f:Nat->List (Nat×V)):List DI->List (Option Nat×V)->List Mem->List Pend->(St->Prop)->Prop
 |[],D,m::_,_,K=>K ⟨Cj (λ_=>true) 0 D++f D.length,m.1,m.2,c⟩
 |d::l,D,m::a,e,K=>
  CI P d.gi ⟨Cj (λj=>d.anc.contains j) 0 D++f D.length,m.1,m.2,c⟩ λx h r n=>
   if d.w then (∀p∈e,a.length+1<=p.hi->CI P p.gi ⟨p.E,r,n,c⟩ λg _ _ _=>g=p.x) /\
    ((h=[]/\KQ P c f l (D++[(d.gi.dst,x)]) ((r,n)::m::a) e K)\/(l=[]/\(∀b,b<D.length->b∈d.anc)/\K ⟨Bm d.gi.dst x (Bz h (Cj (λ_=>true) 0 D++f (D.length+1))),r,n,c⟩))
   else (∀i∈a.take (a.length-d.lo),CI P d.gi ⟨Cj (λj=>d.anc.contains j) 0 D++f D.length,i.1,i.2,c⟩ λg _ _ _=>g=x) /\
    KQ P c f l (D++[(d.gi.dst,x)]) (m::a) (if a.length<d.hi then ⟨d.gi,Cj (λj=>d.anc.contains j) 0 D++f D.length,x,d.hi⟩::e else e) K
 |_,_,[],_,_=>False
def nW:List DI->Nat
 |[]=>0
 |a::l=>(if a.w then 1 else 0)+nW l
def ga(p:Nat->Bool):∀(D R:List (Option Nat×V)) (i:Nat),Cj p i (D++R)=Cj p i D++Cj p (i+D.length) R
 |[],R,i=>rfl
 |(some d,x)::D,R,i=>by
  simp only[A1,Cj,ga p D R (i+1),Aq];rw[show i+1+D.length=i+(D.length+1) by omega];split<;>rfl
 |(none,x)::D,R,i=>by
  simp only[A1,Cj,ga p D R (i+1),Aq];rw[show i+1+D.length=i+(D.length+1) by omega]
def gb(p:Nat->Bool):∀(R:List (Option Nat×V)) (i:Nat),(∀j,i<=j->p j=false)->Cj p i R=[]
 |[],i,_=>rfl
 |(some d,x)::R,i,h=>by simp only[Cj];rw[h i (AE _)];simp;exact gb p R (i+1) λj a=>h j (by omega)
 |(none,x)::R,i,h=>gb p R (i+1) λj a=>h j (by omega)
def lD{P:Program}{g:GI}{S:St}{K a:KW}(h:CI P g S K)(e:∀x b r n,K x b r n->a x b r n):CI P g S a:=by
 obtain⟨x,b,r,n,c,d⟩:=lC h;exact d a (e _ _ _ _ c)
structure Drawn (P:Program) (fix:Nat) (E0:Nat->List (Nat×V)) (its:List DI) (k0:Nat) (D:List (Option Nat×V)) (R:List (Option Nat×V)) (M:List Mem) (KS:Option (List (Nat×Ao))):Prop where
 len:R.length=its.length
 dst:∀(j:Nat) (it:DI) (y:Option Nat×V),its[j]?= some it->R[j]?= some y->y.1=it.gi.dst
 mlen:M.length=k0+nW its+1
 rd:∀(j:Nat) (it:DI) (y:Option Nat×V),its[j]?= some it->R[j]?= some y->it.w=false->∀(k:Nat) (mm:Mem),it.lo<=k->k<=it.hi->M[k]?= some mm->CI P it.gi ⟨Cj (λj=>it.anc.contains j) 0 (D++R)++E0 (D.length+j),mm.1,mm.2,fix⟩ λx' _ _ _=>x'=y.2
 wr:∀(j:Nat) (it:DI) (y:Option Nat×V),its[j]?= some it->R[j]?= some y->it.w=true->∀(mm mm':Mem),M[k0+nW (its.take j)]?= some mm->M[k0+nW (its.take j)+1]?= some mm'->CI P it.gi ⟨Cj (λj=>it.anc.contains j) 0 (D++R)++E0 (D.length+j),mm.1,mm.2,fix⟩ λx' ks r n=>x'=y.2/\PO KS ks (D.length+j) (D.length+its.length) it.anc/\r=mm'.1/\n=mm'.2
def ZC{P:Program}{S:Nat}{E0:Nat->List (Nat×V)}{K:St->Prop}:∀(c:List DI) (D:List (Option Nat×V)) (m:Mem) (d:List Mem) (v:List Pend),(∀(j:Nat) (q:DI),c[j]?= some q->∀a∈q.anc,a<D.length+j)->KQ P S E0 c D (m::d) v K ->
  ∃R X Q,Drawn P S E0 c d.length D R (d.reverse++m::X) Q/\(∀k,Q=some k->∃q,c[c.length-1]?= some q/\q.w=true)/\(∀p∈v,∀(k:Nat) (l:Mem),d.length+1<=k->k<=p.hi->(d.reverse++m::X)[k]?= some l->CI P p.gi ⟨p.E,l.1,l.2,S⟩ λx' _ _ _=>x'=p.x) /\
   ∃l:Mem,(d.reverse++m::X)[d.length+nW c]?= some l/\K ⟨V3 Q (D++R) (E0 (D++R).length),l.1,l.2,S⟩
 |[],D,m,d,v,_,h=>by
  refine⟨[],[],none,⟨rfl,by simp,by simp[nW],by simp,by simp⟩,(λk o=>by cases o), ?_,m,by simp[nW],by simpa[KQ,V3] using h⟩;intro p hp k l o _ g;rw[KF (by simp;omega)]at g;simp at g
 |q::c,D,m,d,v,Y,h=>by
  simp only[KQ]at h;obtain⟨x,ks,r,n,z,I⟩:=lC h;have hE:∀R:List (Option Nat×V),Cj (λj=>q.anc.contains j) 0 (D++R)=Cj (λj=>q.anc.contains j) 0 D:=by
   intro R;rw[ga,gb _ R _ ?_,AB];intro j f;have a5:j ∉ q.anc:=λhm=>by have:=Y 0 q rfl j hm;omega
   simpa using a5
  have J:∀j b,c[j]?= some b->∀a∈b.anc,a<(D++[(q.gi.dst,x)]).length+j:=by
   intro j b f a ha;have:=Y (j+1) b (by simpa using f) a ha;simp;omega
  have U:∀j:Nat,(D++[(q.gi.dst,x)]).length+j=D.length+(j+1):=λj=>by simp;omega
  have A:∀R,D++(q.gi.dst,x)::R=D++[(q.gi.dst,x)]++R:=λR=>by simp
  cases G:q.w with
  |true=>
   rw[G]at z;simp only[BF]at z;obtain⟨hp,⟨a1,L⟩|⟨a1,a3,L⟩⟩:=z
   case inr=>
    subst a1;refine⟨[(q.gi.dst,x)],[(r,n)],some ks,⟨rfl, ?_, ?_, ?_, ?_⟩,(λk _=>⟨q,rfl,G⟩), ?_,(r,n), ?_, ?_⟩
    .intro j b y f t;cases j with
     |zero=>simp at f t;subst f t;rfl
     |succ j=>simp at f
    .simp[nW,G]
    .intro j b y f t s k l W M o;cases j with
     |zero=>simp at f;subst f;rw[G]at s;simp at s
     |succ j=>simp at f
    .intro j b y f t s l F o u;cases j with
     |zero=>
      simp at f t;subst f t;simp only[AP,nW,AL]at o u;have e1:l=m:=by rw[Dh (by simp)]at o;simpa using o.symm
      have Z:F=(r,n):=by rw[Dh (by simp)]at u;simpa using u.symm
      subst e1 Z;rw[hE];refine I _ ⟨rfl, ?_,rfl,rfl⟩;exact Zi4 (by simp) a3
     |succ j=>simp at f
    .intro p C k l o B g;by_cases a0:k=d.length+1
     .subst a0;have Z:l=(r,n):=by rw[Dh (by simp)]at g;simpa using g.symm
      subst Z;exact hp p C B
     rw[KF (by simp;omega)]at g;simp at g
    .rw[Dh (by simp)];simp[nW,G]
    simpa[V3] using L
   subst a1;obtain⟨R,X,Q,hd,T,O,l,g,hK⟩:=ZC c _ (r,n) (m::d) v J L;have hM:(m::d).reverse++(r,n)::X=d.reverse++m::(r,n)::X:=by simp
   rw[hM]at hd O g;have N:nW (q::c)=1+nW c:=by simp[nW,G]
   have H:∀k,Q=some k->∃b,(q::c)[(q::c).length-1]?= some b/\b.w=true:=by
    intro k o;obtain⟨b,z,h2⟩:=T k o;cases c with
    |nil=>simp at z
    |cons x c=>exact⟨b,by simpa using z,h2⟩
   refine⟨(q.gi.dst,x)::R,(r,n)::X,Q,⟨by simp[hd.len], ?_, ?_, ?_, ?_⟩,H, ?_,l, ?_,by rw[A];exact hK⟩
   .intro j b y f t;cases j with
    |zero=>simp at f t;subst f t;rfl
    |succ j=>exact hd.dst j b y (by simpa using f) (by simpa using t)
   .rw[hd.mlen,N];simp only[Aq];omega
   .intro j b y f t s k l W M o;cases j with
    |zero=>simp at f;subst f;rw[G]at s;simp at s
    |succ j=>
     rw[A,<-U j];exact hd.rd j b y (by simpa using f) (by simpa using t) s k l W M o
   .intro j b y f t s l F o u;cases j with
    |zero=>
     simp at f t;subst f t;simp only[AP,nW,AL]at o u;have e1:l=m:=by rw[Dh (by simp)]at o;simpa using o.symm
     have Z:F=(r,n):=by rw[Dh (by simp)]at u;simpa using u.symm
     subst e1 Z;rw[hE];refine I _ ⟨rfl, ?_,rfl,rfl⟩;cases Q with
     |none=>rfl
     |some k=>
      obtain⟨b,z,h2⟩:=T k rfl;exact Zi5 λe=>by
       have:c.length=0:=by simp only[Aq]at e;omega
       have:=RK this;subst this;simp at z
    |succ j=>
     rw[A,<-U j];simp only[AT,nW,G,BF]at o u;refine lD (hd.wr j b y (by simpa using f) (by simpa using t) s l F (by rw[<-o];congr 1;simp only[Aq];omega) (by rw[<-u];congr 1;simp only[Aq];omega)) ?_;rintro x' a7 r' n' ⟨f1,f2,f3,f4⟩;exact⟨f1,by rw[show (D++[(q.gi.dst,x)]).length+c.length=D.length+(q::c).length by simp;omega]at f2;exact f2,f3,f4⟩
   .intro p C k l o B g;by_cases a0:k=d.length+1
    .subst a0;have Z:l=(r,n):=by rw[Dh (by simp)]at g;simpa using g.symm
     subst Z;exact hp p C B
    exact O p C k l (by simp only[Aq];omega) B g
   rw[N,<-g];congr 1;simp only[Aq];omega
  |false=>
   rw[G]at z;simp only[C6,BC]at z;obtain⟨a6,L⟩:=z;obtain⟨R,X,Q,hd,T,O,l,g,hK⟩:=ZC c _ m d _ J L;have N:nW (q::c)=nW c:=by simp[nW,G]
   have H:∀k,Q=some k->∃b,(q::c)[(q::c).length-1]?= some b/\b.w=true:=by
    intro k o;obtain⟨b,z,h2⟩:=T k o;cases c with
    |nil=>simp at z
    |cons x c=>exact⟨b,by simpa using z,h2⟩
   refine⟨(q.gi.dst,x)::R,X,Q,⟨by simp[hd.len], ?_, ?_, ?_, ?_⟩,H, ?_,l, ?_,by rw[A];exact hK⟩
   .intro j b y f t;cases j with
    |zero=>simp at f t;subst f t;rfl
    |succ j=>exact hd.dst j b y (by simpa using f) (by simpa using t)
   .rw[hd.mlen,N]
   .intro j b y f t s k l W M o;cases j with
    |zero=>
     simp at f t;subst f t;rw[hE];rcases mU k d.length with a2|a4|a8
     .rw[E3 (by simpa using a2),List.getElem?_reverse a2]at o;refine a6 l ?_;refine CP (i:=d.length-1-k) ?_;rw[EM,Af (by omega)];exact o
     .subst a4;have e1:l=m:=by rw[Dh (by simp)]at o;simpa using o.symm
      subst e1;exact I _ rfl
     have:=O ⟨q.gi,Cj (λj=>q.anc.contains j) 0 D++E0 D.length,x,q.hi⟩ (by rw[Af (by omega)];simp) k l (by omega) M o;exact this
    |succ j=>
     rw[A,<-U j];exact hd.rd j b y (by simpa using f) (by simpa using t) s k l W M o
   .intro j b y f t s l F o u;cases j with
    |zero=>simp at f;subst f;rw[G]at s;simp at s
    |succ j=>
     rw[A,<-U j];simp only[AT,nW,G,C6,BC,A7]at o u;refine lD (hd.wr j b y (by simpa using f) (by simpa using t) s l F o u) ?_;rintro x' a7 r' n' ⟨f1,f2,f3,f4⟩;exact⟨f1,by rw[show (D++[(q.gi.dst,x)]).length+c.length=D.length+(q::c).length by simp;omega]at f2;exact f2,f3,f4⟩
   .intro p C k l o B g;exact O p (by split<;>simp[C]) k l o B g
   rw[N];exact g
end Go.Vs
namespace Go.Vs
variable [Glb]
def Rel.sub{N:Nat}{e:World}{b:Nat->Nat->Prop}{c:Aw}{g:Bp}{pl:Aw}{S:St}{a:Act}{w:World}(d:Rel N e b c g pl S a w){env:List (Nat×V)}(f:∀t x,get env t=some x->get S.env t=some x):Rel N e b c g pl ⟨env,S.roots,S.next,S.fix⟩ a w:=
 ⟨d.hp,d.size,d.defers,λt x h=>d.env t x (f t x h)⟩
variable {P:Program} {N:Nat} {w0:World} {own0:Nat->Nat->Prop} {pl0:Aw} {g:Bp} {pl:Aw} {S:St} {a:Act} {w:World}
def vJ(p:Rel N w0 own0 pl0 g pl S a w){e:Array Oper}{i:Nat}{o:Oper}{B:GI}(O:e[i]?= some o)(d:Mq P N e o=some B){K:KW}(h:CI P B S K){next:Act->World->Prop}{Q:Exit->Act->World->Prop}
  (E:∀v L x J f s M n,VR n s x v->Hp w0 own0 pl0 M n f s s S.fix L->(∀z u,CR pl S.next z u->CR n s (BE J z) u)->K x J f s->next (a.put B.dst v) L):wpOp P e Q i next a w:=by
 unfold wpOp;rw[O];simp only;unfold Mq at d;simp only[Bv,AO]at d;obtain⟨j,I,d⟩:=d;split at d
 .rename_i hd;split at d
  .rename_i q;simp only[Ac]at d;subst d;rw[Af (by simp[Region.wanted,q])];exact .inl (j3 p I h E)
  rename_i k y q;simp only[AO,Ac]at d;obtain⟨t,⟨T,F,D⟩,rfl⟩:=d;simp only[CI]at h;have skip:K (.tp []) [] S.roots S.next->next (a.put o.dst undef) w:=λh=>E undef w (.tp []) [] S.roots S.next g pl ⟨[],rfl,trivial⟩ p.hp (λ_ _ h=>h) h;have H:yielded e a.tmps k=match a.tmps[t]? with|some (.bool b)=>some b|_=>none:=by
   unfold yielded;rw[F];simp only[DF,D];rfl
  split at h
  .rename_i b C;have G:=p.env t _ C;have c:a.tmps.getD t undef=.bool b:=G.1;have r:a.tmps[t]?= some (.bool b):=by
    rw[Fg]at c;cases A:a.tmps[t]? with
    |none=>rw[A]at c;simp[undef]at c
    |some u=>rw[A]at c;simp at c;rw[c]
   by_cases l:b=y
   .rw[Af (by simp[Region.wanted,q,H,r,l])];exact .inl (j3 p I (h.1 l) E)
   rw[Ae (by simp[Region.wanted,q,H,r,l])];exact skip (h.2 l)
  .rename_i V C;have G:=p.env t _ C;obtain⟨U,m,_⟩:=G;have R:Region.wanted o (yielded e a.tmps)=false:=by
    simp only[Region.wanted,q,H];rw[Fg]at m;cases A:a.tmps[t]? with
    |none=>simp
    |some u=>
     rw[A]at m;simp only[Eg]at m;subst m;simp
   rw[Ae (by rw[R];simp)];exact skip h
  exact h.elim
 simp at d
def wa{c:Array Oper}{o:Oper}{d:GI}(b:Mq P N c o=some d):d.dst.all (·<N)=true:=by
 unfold Mq at b;simp only[Bv,AO]at b;obtain⟨j,e,b⟩:=b;split at b
 .rename_i hd;split at b
  .simp only[Ac]at b;subst b;exact hd
  simp only[AO,Ac]at b;obtain⟨t,_,rfl⟩:=b;exact hd
 simp at b
def cN{p:Nat->Bool}{c:List (Nat×V)}{t:Nat}{y:V}:∀{R:List (Option Nat×V)}{i:Nat},get (Cj p i R++c) t=some y->(∃j,R[j]?= some (some t,y)/\p (i+j)=true)\/get c t=some y
 |[],i,h=>.inr h
 |(some d,x)::R,i,h=>by
  have b:get (Cj p (i+1) R++c) t=some y->(∃j,((some d,x)::R)[j]?= some (some t,y)/\p (i+j)=true)\/get c t=some y:=λh=>by
   rcases cN h with ⟨j,f,k⟩|h
   .exact .inl ⟨j+1,by simpa using f,by rw[show i+(j+1)=i+1+j by omega];exact k⟩
   exact .inr h
  simp only[Cj]at h;split at h
  .rename_i l;simp only[A1,get]at h;split at h
   .rename_i e;subst e;simp only[Ac]at h;subst h;exact .inl ⟨0,rfl,l⟩
   exact b h
  exact b h
 |(none,x)::R,i,h=>by
  simp only[Cj]at h;rcases cN h with ⟨j,f,k⟩|h
  .exact .inl ⟨j+1,by simpa using f,by rw[show i+(j+1)=i+1+j by omega];exact k⟩
  exact .inr h
def az:∀(l r:List DI),nW (l++r)=nW l+nW r
 |[],r=>by simp[nW]
 |x::l,r=>by simp only[A1,nW,az l r];omega
def bA{b:List DI}{i:Nat}{c:DI}(h:b[i]?= some c):nW (b.take (i+1))=nW (b.take i)+if c.w then 1 else 0:=by
 rw[UB,h,az];simp[nW]
def Zki(b:List DI)(i j:Nat)(h:i<=j):nW (b.take i)<=nW (b.take j):=by
 have:b.take j=b.take i++(b.drop i).take (j-i):=by rw[<-List.take_add];congr 1;omega
 rw[this,az];omega
def Zkh(b:List DI)(i:Nat):nW (b.take i)<=nW b:=by
 have:nW b=nW (b.take i)+nW (b.drop i):=by rw[<-az,Jg]
 omega
def b_(b:List DI):∀(i r:Nat),r<nW (b.take i)->∃d c,d<i/\b[d]?= some c/\c.w=true/\nW (b.take d)=r
 |0,r,h=>by simp[nW]at h
 |i+1,r,h=>by
  cases f:b[i]? with
  |none=>
   have e:b.take (i+1)=b.take i:=by
    rw[F3 (by have:=UC.1 f;omega),F3 (UC.1 f)]
   rw[e]at h;obtain⟨d,c,n,j⟩:=b_ b i r h;exact⟨d,c,by omega,j⟩
  |some m=>
   rw[bA f]at h;by_cases k:r<nW (b.take i)
   .obtain⟨d,c,n,j⟩:=b_ b i r k;exact⟨d,c,by omega,j⟩
   cases l:m.w with
   |false=>rw[l]at h;simp at h;omega
   |true=>rw[l]at h;simp at h;exact⟨i,m,by omega,f,l,by omega⟩
def tD{b:List DI}{i j:Nat}{c:DI}(d:b[i]?= some c)(e:c.w=true)(h:i<j):nW (b.take i)<nW (b.take j):=by
 have:=bA d;rw[e]at this;simp at this;have:=Zki b (i+1) j (by omega);omega
end Go.Vs
namespace Go.Vs
variable [Glb]
def QV{p:Nat->Bool}{E:List (Nat×V)}{t:Nat}:∀{R:List (Option Nat×V)}{i:Nat},(∀j z,R[j]?= some (some t,z)->p (i+j)=false)->get (Cj p i R++E) t=get E t
 |[],i,_=>rfl
 |(some d,x)::R,i,h=>by
  have b:=QV (p:=p) (E:=E) (t:=t) (R:=R) (i:=i+1) λj z a=>by
   have:=h (j+1) z (by simpa using a);rwa[show i+1+j=i+(j+1) by omega]
  simp only[Cj];split
  .rename_i c;have hd:d≠t:=λe=>by subst e;have:=h 0 x rfl;rw[AL,c]at this;cases this
   simp only[A1,get];rw[Ae hd];exact b
  exact b
 |(none,x)::R,i,h=>by
  simp only[Cj];exact QV λj z a=>by have:=h (j+1) z (by simpa using a);rwa[show i+1+j=i+(j+1) by omega]
def QW{p:Nat->Bool}{E:List (Nat×V)}{t:Nat}{y:V}:∀{R:List (Option Nat×V)}{i:Nat},((R.filterMap (·.1)).Nodup)->(∃j,R[j]?= some (some t,y)/\p (i+j)=true)->get (Cj p i R++E) t=some y
 |[],i,_,⟨j,c,_⟩=>by simp at c
 |(some d,x)::R,i,g,⟨j,c,h⟩=>by
  simp only[RL (f:=λx:Option Nat×V=>x.1) (a:=(some d,x)) (b:=d) rfl,E4]at g;cases j with
  |zero=>
   simp only[AD,Ac,A5]at c;obtain⟨rfl,rfl⟩:=c;simp only[Cj];rw[Af (by simpa using h)];simp[get]
  |succ j=>
   have k:R[j]?= some (some t,y):=by simpa using c
   have l:=QW (p:=p) (E:=E) (R:=R) (i:=i+1) g.2 ⟨j,k,by rw[show i+1+j=i+(j+1) by omega];exact h⟩;have hd:d≠t:=λe=>g.1 (by rw[RM];exact⟨(some t,y),CP k,by rw[e]⟩);simp only[Cj];split
   .simp only[A1,get];rw[Ae hd];exact l
   exact l
 |(none,x)::R,i,g,⟨j,c,h⟩=>by
  simp only[Yp (f:=λx:Option Nat×V=>x.1) (a:=(none,x)) rfl]at g;simp only[Cj];cases j with
  |zero=>simp at c
  |succ j=>exact QW g ⟨j,by simpa using c,by rw[show i+1+j=i+(j+1) by omega];exact h⟩
def cO{p:Nat->Bool}{E:List (Nat×V)}{t:Nat}{y:V}{R:List (Option Nat×V)}{i:Nat}(f:(R.filterMap (·.1)).Nodup)(h:get (Cj p i R++E) t=some y):(∃j,R[j]?= some (some t,y)/\p (i+j)=true)\/((∀j z,R[j]?= some (some t,z)->p (i+j)=false)/\get E t=some y):=by
 by_cases d:∃j z,R[j]?= some (some t,z)/\p (i+j)=true
 .obtain⟨j,z,b,c⟩:=d;have:=QW (E:=E) f ⟨j,b,c⟩;rw[h]at this;simp only[Ac]at this;subst this;exact .inl ⟨j,b,c⟩
 have a:∀j z,R[j]?= some (some t,z)->p (i+j)=false:=λj z e=>by
  cases g:p (i+j) with
  |false=>rfl
  |true=>exact (d ⟨j,z,e,g⟩).elim
 rw[QV a]at h;exact .inr ⟨a,h⟩
def SW(a:List DI)(i t:Nat):Bool:=a.all λb=>!(b.gi.dst==some t)||b.anc.contains i
def Hy(b:List DI)(a:List (Nat×V))(i:Nat):List (Nat×V):=a.filter λx=>SW b i x.1
def qV(a:List (Nat×V))(q:Nat->Bool)(t:Nat):get (a.filter λx=>q x.1) t=if q t then get a t else none:=by
 induction a with
 |nil=>simp[get]
 |cons y a c=>
  obtain⟨k,x⟩:=y;simp only[MH];split
  .rename_i b;simp only[get];split
   .rename_i e;subst e;simp[b]
   exact c
  rename_i b;rw[c];by_cases e:k=t
  .subst e;rw[Ae b,Ae b]
  simp only[get,Ae e]
def fo{b:List DI}{a:List (Nat×V)}{i t:Nat}{z:V}(h:get (Hy b a i) t=some z):get a t=some z/\∀(j:Nat) (c:DI),b[j]?= some c->c.gi.dst=some t->i∈c.anc:=by
 have e:get (Hy b a i) t=if SW b i t then get a t else none:=qV a (λt=>SW b i t) t
 rw[e]at h;split at h
 .rename_i f;refine⟨h,λj c d hd=>?_⟩;have:=DE.1 f c (CP d);simpa[hd] using this
 simp at h
def fp{b:List DI}{a:List (Nat×V)}{i t:Nat}(h:∀(j:Nat) (c:DI),b[j]?= some c->c.gi.dst=some t->i∈c.anc):get (Hy b a i) t=get a t:=by
 have e:get (Hy b a i) t=if SW b i t then get a t else none:=qV a (λt=>SW b i t) t
 rw[e,Af];refine DE.2 λc d=>?_;obtain⟨j,f⟩:=Kd d;by_cases hd:c.gi.dst=some t
 .simp[h j c f hd]
 simp[hd]
def QJ(o:Oper):List Nat:=(o.after.toList.filter λe=>Region.binds .any e).map (·.on)
def Q1(a:List DI)(j:Nat):Bool:=match a[j]? with|some b=>b.w|none=>false
def Ze(a:List DI)(j:Nat):List Nat:=match a[j]? with|some b=>b.anc|none=>[]
def Hm:GI->Bool
 |⟨_,.rd _,_⟩=>true
 |_=>false
def LB(its:List DI)(i:Nat)(o:Oper)(it:DI):Bool:=
 (QJ o).all (·<i)&&it.anc.all (·<i)&&it.anc.all (λa=>(QJ o).contains a||(QJ o).any λj=>(Ze its j).contains a) &&
 (!it.w||(List.range i).all λj=>!Q1 its j||it.anc.contains j) &&
 (it.w||((it.lo==0||it.anc.any λj=>Q1 its j&&nW (its.take j)+1==it.lo) &&
  (decide (nW its<=it.hi)||(List.range its.length).any λj=>Q1 its j&&nW (its.take j)==it.hi&&(Ze its j).contains i)))&&(it.w||Hm it.gi)
def KO(a:List DI):Nat->List Oper->List DI->Bool
 |_,[],[]=>true
 |i,o::b,c::l=>LB a i o c&&KO a (i+1) b l
 |_,_,_=>false
def Z4{d:List DI}:∀{c:List Oper}{l:List DI}{i:Nat},KO d i c l=true->c.length=l.length/\∀(j:Nat) (f:DI),l[j]?= some f->∃o,c[j]?= some o/\LB d (i+j) o f=true
 |[],[],i,_=>⟨rfl,by simp⟩
 |o::c,f::l,i,h=>by
  simp only[KO,A6]at h;obtain⟨k,m⟩:=Z4 h.2;refine⟨by simp[k],λj g e=>?_⟩;cases j with
  |zero=>simp at e;subst e;exact⟨o,rfl,h.1⟩
  |succ j=>
   obtain⟨n,a,b⟩:=m j g (by simpa using e);exact⟨n,by simpa using a,by rw[show i+(j+1)=i+1+j by omega];exact b⟩
 |[],_::_,_,h=>by simp[KO]at h
 |_::_,[],_,h=>by simp[KO]at h
structure Laid (P:Program) (N:Nat) (ops:Array Oper) (its:List DI):Prop where
 len:ops.size=its.length
 op:∀(i:Nat) (it:DI),its[i]?= some it->∃o,ops[i]?= some o/\Mq P N ops o=some it.gi/\(∀e∈o.after.toList,Region.binds .any e=true->e.on<i)/\(∀a∈it.anc,a<i) /\
  (∀listed:Nat->Prop,(∀e∈o.after.toList,Region.binds .any e=true->listed e.on)->(∀j itj,its[j]?= some itj->listed j->∀a∈itj.anc,listed a)->∀a∈it.anc,listed a)
 wr:∀(i:Nat) (it:DI),its[i]?= some it->it.w=true->∀j itj,j<i->its[j]?= some itj->itj.w=true->j∈it.anc
 lo:∀(i:Nat) (it:DI),its[i]?= some it->it.w=false->it.lo=0\/∃j itj,j∈it.anc/\its[j]?= some itj/\itj.w=true/\nW (its.take j)+1=it.lo
 hi:∀(i:Nat) (it:DI),its[i]?= some it->it.w=false->nW its<=it.hi\/∃j itj,its[j]?= some itj/\itj.w=true/\nW (its.take j)=it.hi/\i∈itj.anc
 rd:∀(i:Nat) (it:DI),its[i]?= some it->it.w=false->∃r,it.gi.op=.rd r
 nodup:(its.filterMap (·.gi.dst)).Nodup
def rE{a:List DI}{j:Nat}(h:Q1 a j=true):∃b,a[j]?= some b/\b.w=true:=by
 unfold Q1 at h;split at h
 .rename_i b c;exact⟨b,c,h⟩
 simp at h
def r6{P:Program}{N:Nat}{d:Array Oper}{m:List DI}(O:KO m 0 d.toList m=true)(T:GL P N d d.toList=some (m.map (·.gi)))(hn:(m.filterMap (·.gi.dst)).Nodup):Laid P N d m:=by
 obtain⟨h1,h2⟩:=Z4 O;have G:∀(l:List Oper) (H:List GI),GL P N d l=some H->∀(j:Nat) (F:GI),H[j]?= some F->∃o:Oper,l[j]?= some o/\Mq P N d o=some F:=by
  intro l
  induction l with
  |nil=>intro H h j F n;simp only[GL,Ac]at h;subst h;simp at n
  |cons o l ih=>
   intro H h j F n;simp only[GL,Bv,AO,Ac]at h;obtain⟨g,hg,K,R,rfl⟩:=h;cases j with
   |zero=>simp at n;subst n;exact⟨o,rfl,hg⟩
   |succ j=>obtain⟨Z,a,b⟩:=ih K R j F (by simpa using n);exact⟨Z,by simpa using a,b⟩
 have t:∀(i:Nat) (f:DI),m[i]?= some f->∃o,d.toList[i]?= some o/\d[i]?= some o/\Mq P N d o=some f.gi/\LB m i o f=true:=by
  intro i f q;obtain⟨o,a,b⟩:=h2 i f q;obtain⟨Z,J,b'⟩:=G _ _ T i f.gi (by rw[CQ,q];rfl);rw[a]at J;simp only[Ac]at J;subst J;exact⟨o,a,by rw[<-Yk];exact a,b',by rw[A7]at b;exact b⟩
 refine⟨by rw[<-Hh];exact h1, ?_, ?_, ?_, ?_, ?_,hn⟩
 .intro i f q;obtain⟨o,_,a,b,c⟩:=t i f q;simp only[LB,A6]at c;obtain⟨⟨⟨⟨⟨C,D⟩,E⟩,z⟩,u⟩,A⟩:=c;refine⟨o,a,b, ?_, ?_, ?_⟩
  .intro e Q M;have:=DE.1 C e.on (Ym (Oi.2 ⟨Q,M⟩));simpa using this
  .intro x V;have:=DE.1 D x V;simpa using this
  intro v hp hc x V;have y:∀j∈QJ o,v j:=by
   intro j n;simp only[QJ,CC,Oi]at n;obtain⟨e,⟨Q,M⟩,rfl⟩:=n;exact hp e Q M
  have:=DE.1 E x V;simp only[CE,m9,UD]at this;rcases this with k|⟨j,n,k⟩
  .exact y x k
  unfold Ze at k;split at k
  .rename_i p s;exact hc j p s (y j n) x k
  simp at k
 .intro i f q B j p n s U;obtain⟨o,_,a,b,c⟩:=t i f q;simp only[LB,A6]at c;obtain⟨⟨⟨⟨⟨C,D⟩,E⟩,z⟩,u⟩,A⟩:=c;rw[B]at z;simp only[Od,Yq]at z;have:=DE.1 z j (by simpa using n);have S:Q1 m j=true:=by unfold Q1;rw[s];exact U
  rw[S]at this;simpa using this
 .intro i f q B;obtain⟨o,_,a,b,c⟩:=t i f q;simp only[LB,A6]at c;obtain⟨⟨⟨⟨⟨C,D⟩,E⟩,z⟩,u⟩,A⟩:=c;rw[B]at u;simp only[Yq,A6,CE,CJ,UD]at u;rcases u.1 with k|⟨j,n,W,X⟩
  .exact .inl k
  obtain⟨p,I,L⟩:=rE W;exact .inr ⟨j,p,n,I,L,X⟩
 .intro i f q B;obtain⟨o,_,a,b,c⟩:=t i f q;simp only[LB,A6]at c;obtain⟨⟨⟨⟨⟨C,D⟩,E⟩,z⟩,u⟩,A⟩:=c;rw[B]at u;simp only[Yq,A6,CE,AA,UD,CJ,m9]at u;rcases u.2 with k|⟨j,n,⟨W,X⟩,Y⟩
  .exact .inl k
  obtain⟨p,I,L⟩:=rE W;refine .inr ⟨j,p,I,L,X, ?_⟩;unfold Ze at Y;rw[I]at Y;exact Y
 intro i f q B;obtain⟨o,_,a,b,c⟩:=t i f q;simp only[LB,A6]at c;obtain⟨⟨⟨⟨⟨C,D⟩,E⟩,z⟩,u⟩,A⟩:=c;rw[B,Yq]at A;cases hq:f.gi with
 |mk a0 op gu=>
  rw[hq]at A;cases op with
  |rd r=>exact⟨r,rfl⟩
  |wr w=>simp[Hm]at A
def qB:∀{l:List DI}{i j d:Nat},(l.filterMap (·.gi.dst)).Nodup->∀(g:i<l.length) (n:j<l.length),i≠j->l[i].gi.dst=some d->l[j].gi.dst=some d->False
 |[],_,_,_,_,g,_,_,_,_=>by simp at g
 |x::l,i,j,d,a,g,n,m,b,c=>by
  have h:(l.filterMap (·.gi.dst)).Nodup:=by
   cases p:x.gi.dst with
   |none=>rw[Yp (by exact p)]at a;exact a
   |some e=>rw[RL (by exact p)]at a;exact (E4.1 a).2
  have f:∀{k:Nat} (o:k<l.length),l[k].gi.dst=some d->d∈l.filterMap (·.gi.dst):=λo e=>RM.2 ⟨_,EN o,e⟩;cases i with
  |zero=>
   cases j with
   |zero=>exact m rfl
   |succ j=>
    simp only[dc,UE]at b c;rw[RL (by exact b)]at a;exact (E4.1 a).1 (f _ c)
  |succ i=>
   cases j with
   |zero=>
    simp only[dc,UE]at b c;rw[RL (by exact c)]at a;exact (E4.1 a).1 (f _ b)
   |succ j=>
    simp only[UE]at b c;exact qB (l:=l) h (by simpa using g) (by simpa using n) (by omega) b c
def Zny{P:Program}{a:GI}{r:I}(g:a.op=.rd r){S:St}{K:KW}(h:CI P a S K):CI P a S λx d f n=>K x d f n/\d=[]/\f=S.roots/\n=S.next:=by
 have c:FJ P S K a.op->FJ P S (λx d f n=>K x d f n/\d=[]/\f=S.roots/\n=S.next) a.op:=by
  intro h;rw[g]at h ⊢;obtain⟨x,l,m⟩:=ZV (K:=λv=>K v [] S.roots S.next) h;exact m (λv=>K v [] S.roots S.next/\([]:List (Nat×Ao))=[]/\S.roots=S.roots/\S.next=S.next) ⟨l,rfl,rfl,rfl⟩
 unfold CI at h ⊢;cases i:a.guard with
 |none=>simp only[i]at h ⊢;exact c h
 |some k=>
  obtain⟨t,j⟩:=k;simp only[i]at h ⊢;split at h
  .rename_i b o;exact⟨λe=>c (h.1 e),λe=>by simpa using h.2 e⟩
  .simpa using h
  exact h.elim
def qC{p p':Nat->Bool}:∀{l:List Nat},(∀x∈l,p' x=true->p x=true)->(∃i∈l,p i=true/\p' i=false)->(l.filter p').length<(l.filter p).length
 |[],_,h=>by obtain⟨i,h,_⟩:=h;simp at h
 |x::l,c,h=>by
  have j:(l.filter p').length<=(l.filter p).length:=by
   clear h;have a:∀x∈l,p' x=true->p x=true:=λy e=>c y (by simp[e]);clear c
   induction l with
   |nil=>simp
   |cons y l m=>
    have:=m λz k=>a z (by simp[k]);simp only[MH];cases b:p' y with
    |true=>rw[a y (by simp) b];simpa using this
    |false=>cases p y<;>simp<;>omega
  obtain⟨i,d,b,f⟩:=h;simp only[MH];rcases AX.1 d with rfl|d
  .rw[b,f];simp;omega
  have:=qC (p:=p) (p':=p') (l:=l) (λy e=>c y (by simp[e])) ⟨i,d,b,f⟩;cases g:p' x with
  |true=>rw[c x (by simp) g];simpa using this
  |false=>cases p x<;>simp<;>omega
variable {P:Program} {N:Nat} {ops:Array Oper} {its:List DI} {w0:World} {own0:Nat->Nat->Prop} {pl0:Aw} {fix:Nat} {E0:List (Nat×V)} {R:List (Option Nat×V)} {M:List Mem} {KS:Option (List (Nat×Ao))} {Q:Exit->St->Prop}
def LS{l:Array Bool}{i j:Nat}(a:i<l.size):(l.setIfInBounds i true).getD j false=if j=i then true else l.getD j false:=by
 rw[Fg,Fg];by_cases h:j=i
 .subst h;rw[RJ a];simp
 rw[UA (λe=>h e.symm)];simp[h]
def oe{E:List (Nat×V)}(hL:Laid P N ops its)(hD:Drawn P fix (Hy its E) its 0 [] R M KS)(hKS:∀k,KS=some k->∃it,its[its.length-1]?= some it/\it.w=true){mm1:Mem}(hm1:M[nW its]?= some mm1)(hQ:Q .normal ⟨V3 KS R (Hy its E its.length),mm1.1,mm1.2,fix⟩):
  ∀(fuel:Nat) (listed:Array Bool) (k:Nat) (mm:Mem) (g:Bp) (pl:Aw) (a:Act) (w:World),listed.size=its.length->((List.range its.length).filter λi=>!listed.getD i false).length<=fuel ->
   (∀j itj,its[j]?= some itj->listed.getD j false=true->∀b∈itj.anc,listed.getD b false=true) ->
   (∀j itj,its[j]?= some itj->itj.w=true->(listed.getD j false=true ↔ nW (its.take j)<k))->k<=nW its->M[k]?= some mm ->
   (∀k,KS=some k->listed.getD (its.length-1) false=false) ->
   Rel N w0 own0 pl0 g pl ⟨Cj (λj=>listed.getD j false) 0 R++E,mm.1,mm.2,fix⟩ a w ->
   wpAny P .any ops (PQ N w0 own0 pl0 fix Q) fuel listed a w:=by
 have hRn:(R.filterMap (·.1)).Nodup:=by
  have:R.filterMap (·.1)=its.filterMap (·.gi.dst):=by
   have hl:=hD.len;have hd:=hD.dst;clear hm1 hQ hL hD hKS
   induction R generalizing its with
   |nil=>cases its with
    |nil=>rfl
    |cons=>simp at hl
   |cons y R ih=>cases its with
    |nil=>simp at hl
    |cons it its=>
     have e:=hd 0 it y rfl rfl;have:=ih (its:=its) (by simpa using hl) λj it y h1 h2=>hd (j+1) it y (by simpa using h1) (by simpa using h2);cases hq:it.gi.dst with
     |none=>rw[Yp (by rw[e,hq]),Yp (by exact hq),this]
     |some d=>rw[RL (by rw[e,hq]),RL (by exact hq),this]
  rw[this];exact hL.nodup
 have hready:∀(listed:Array Bool) (i:Nat),listed.size=its.length->i∈Region.ready .any ops listed->∃it o,its[i]?= some it/\ops[i]?= some o/\listed.getD i false=false/\∀e∈o.after.toList,Region.binds .any e=true->listed.getD e.on false=true:=by
  intro listed i hs hi;unfold Region.ready at hi;simp only[Oi,Hz,A6,CV]at hi;obtain⟨h1,h2,h3⟩:=hi;have hi2:i<its.length:=by rw[<-hL.len];exact h1
  refine⟨its[i],ops[i],BW hi2,MD h1, ?_, ?_⟩
  .rw[Fg,MD (by omega)]at h2 ⊢;exact h2
  intro e he hb;rw[MD h1]at h3;simp only[Dg,Eg,U2]at h3;have:=h3 e (by simpa using he);rw[hb]at this;simpa using this
 have hdone:∀(listed:Array Bool),listed.size=its.length->Region.ready .any ops listed=[]->∀i,i<its.length->listed.getD i false=true:=by
  intro listed hs hr i
  induction i using Nat.strongRecOn with
  |_ i ih=>
   intro hi;obtain⟨o,ho,_,hpre,_⟩:=hL.op i its[i] (BW hi);cases hq:listed.getD i false with
   |true=>rfl
   |false=>
    exfalso;have:i∈Region.ready .any ops listed:=by
     unfold Region.ready;simp only[Oi,Hz,A6,CV];refine⟨by rw[hL.len];exact hi, ?_, ?_⟩
     .rw[Fg,MD (by omega)]at hq ⊢;exact hq
     rw[ho];simp only[Dg,Eg,U2];intro e he;cases hb:Region.binds .any e with
     |false=>rfl
     |true=>
      have h1:=hpre e (by simpa using he) hb;simp[ih e.on h1 (by omega)]
    rw[hr]at this;simp at this
 have hfin:∀(listed:Array Bool) (k:Nat) (mm:Mem) (g:Bp) (pl:Aw) (a:Act) (w:World),listed.size=its.length->(∀j itj,its[j]?= some itj->itj.w=true->(listed.getD j false=true ↔ nW (its.take j)<k))->k<=nW its->M[k]?= some mm ->
   (∀k,KS=some k->listed.getD (its.length-1) false=false) ->
   Rel N w0 own0 pl0 g pl ⟨Cj (λj=>listed.getD j false) 0 R++E,mm.1,mm.2,fix⟩ a w->Region.ready .any ops listed=[]->PQ N w0 own0 pl0 fix Q .normal a w:=by
  intro listed k mm g pl a w hs hwk hk hmm hno hR hr;have hall:=hdone listed hs hr;have hK0:KS=none:=by
   cases hc:KS with
   |none=>rfl
   |some k=>
    obtain⟨it,h1,_⟩:=hKS k hc;have:=hall _ (CY.1 h1).1;rw[hno k hc]at this;cases this
  subst hK0;have hkk:k=nW its:=by
   rcases Jc k (nW its) with h|h
   .exfalso;obtain⟨i',it',h1,h2,h3,h4⟩:=b_ its its.length k (by rw[Jd];exact h);have:=(hwk i' it' h2 h3).1 (hall i' h1);omega
   omega
  subst hkk;rw[hm1]at hmm;simp only[Ac]at hmm;subst hmm;refine⟨_,g,pl,hQ,rfl,hR.sub ?_⟩;intro t y hy;rcases cO hRn hy with ⟨j,h1,h2⟩|⟨hno,h⟩
  .refine QW hRn ⟨j,h1, ?_⟩;have:j<R.length:=(CY.1 h1).1;rw[A7];exact hall j (by rw[<-hD.len];exact this)
  refine (QV λj z hj=>?_).trans (fo h).1;have:=hno j z hj;cases this
 intro fuel
 induction fuel with
 |zero=>
  intro listed k mm g pl a w hs hf hcl hwk hk hmm hno hR;have hr:Region.ready .any ops listed=[]:=by
   rw[m_];intro i hi;obtain⟨it,o,h1,h2,h3,h4⟩:=hready listed i hs hi;have hi2:i<its.length:=(CY.1 h1).1;have:i∈(List.range its.length).filter λi=>!listed.getD i false:=Oi.2 ⟨Hz.2 hi2,by rw[h3];rfl⟩;have h0:((List.range its.length).filter λi=>!listed.getD i false)=[]:=RK (by omega);rw[h0]at this;simp at this
  exact⟨hr,hfin listed k mm g pl a w hs hwk hk hmm hno hR hr⟩
 |succ fuel ih=>
  intro listed k mm g pl a w hs hf hcl hwk hk hmm hno hR;refine⟨λhr=>hfin listed k mm g pl a w hs hwk hk hmm hno hR hr,λi hi=>?_⟩;obtain⟨it,o,h1,h2,h3,h4⟩:=hready listed i hs hi;have hi2:i<its.length:=(CY.1 h1).1;obtain⟨o',ho',htr,hpre,hlt,hanc⟩:=hL.op i it h1;rw[h2]at ho';simp only[Ac]at ho';subst ho';have hancL:=hanc (λj=>listed.getD j false=true) h4 (λj itj hj hl=>hcl j itj hj hl);obtain⟨y,hy⟩:∃y,R[i]?= some y:=⟨_,BW (by rw[hD.len];exact hi2)⟩;have hyd:=hD.dst i it y h1 hy;have hRE:=hR.sub (env:=Cj (λj=>it.anc.contains j) 0 R++Hy its E i) (by
   intro t z hz;rcases cO hRn hz with ⟨j,e1,e2⟩|⟨_,h⟩
   .exact QW hRn ⟨j,e1,hancL _ (by simpa using e2)⟩
   .obtain⟨g1,g2⟩:=fo h;refine (QV λj z' hj=>?_).trans g1;rw[A7];have hjl:j<its.length:=by rw[<-hD.len];exact (CY.1 hj).1
    have hjd:=hD.dst j its[j] _ (BW hjl) hj;cases hl:listed.getD j false with
    |false=>rfl
    |true=>
     have:=hcl j its[j] (BW hjl) hl i (g2 j its[j] (BW hjl) hjd.symm);rw[h3]at this;cases this)
  -- what comes next
  have next:∀(k':Nat) (mm':Mem) (ks:List (Nat×Ao)) (v:Value) (w':World) (g':Bp) (pl':Aw),ks=[]->(∀k,KS=some k->i≠its.length-1)->VR pl' mm'.2 y.2 v->Hp w0 own0 pl0 g' pl' mm'.1 mm'.2 mm'.2 fix w'->(∀z u,CR pl mm.2 z u->CR pl' mm'.2 (BE ks z) u)->M[k']?= some mm'->k'<=nW its ->
    (∀j itj,its[j]?= some itj->itj.w=true->((listed.setIfInBounds i true).getD j false=true ↔ nW (its.take j)<k')) ->
    wpAny P .any ops (PQ N w0 own0 pl0 fix Q) fuel (listed.setIfInBounds i true) (a.put it.gi.dst v) w':=by
   intro k' mm' ks v w' g' pl' hks hil hv hp hkk hmm' hk' hwk';have hkeep:∀(t:Nat) (z:V),get (Cj (λj=>listed.getD j false) 0 R++E) t=some z->((∃j,j≠i/\R[j]?= some (some t,z))\/((∀j z',R[j]?= some (some t,z')->(listed.setIfInBounds i true).getD j false=false)/\get E t=some z))->get (Bz ks (Cj (λj=>listed.getD j false) 0 R++E)) t=some z:=by
    intro t z hz hor;subst hks;rw[Nq];exact hz
   refine ih (listed.setIfInBounds i true) k' mm' g' pl' _ w' (by simp[hs]) ?_ ?_ hwk' hk' hmm' (λk hk=>by rw[LS (by omega),Ae (λe=>hil k hk e.symm)];exact hno k hk) ?_
   .have:=qC (p:=λj=>!listed.getD j false) (p':=λj=>!(listed.setIfInBounds i true).getD j false) (l:=List.range its.length) (by
     intro x _ hx;rw[LS (by omega)]at hx;split at hx
     .simp at hx
     .exact hx) ⟨i,Hz.2 hi2,by rw[h3];rfl,by rw[LS (by omega)];simp⟩
    omega
   .intro j itj hj hl b hb;rw[LS (by omega)]at hl ⊢;split
    .rfl
    split at hl
    .rename_i e;subst e;rw[h1]at hj;simp only[Ac]at hj;subst hj;exact hancL b hb
    exact hcl j itj hj hl b hb
   have hput:=hR.put (ks:=ks) (wa htr) hp hkk hv;refine hput.sub ?_;intro t z hz;show get (Bm it.gi.dst y.2 (Bz ks (Cj (λj=>listed.getD j false) 0 R++E))) t=some z;rcases cO hRn hz with ⟨j,e1,e2⟩|⟨hno,h⟩
   .rw[A7,LS (by omega)]at e2;by_cases hji:j=i
    .subst hji;rw[hy]at e1;simp only[Ac]at e1;subst e1;simp only at hyd;rw[<-hyd];simp only[Bm];rw[Bn,Af rfl]
    rw[Ae hji]at e2;have hget:get (Bz ks (Cj (λj=>listed.getD j false) 0 R++E)) t=some z:=hkeep t z (QW hRn ⟨j,e1,by rw[A7];exact e2⟩) (.inl ⟨j,hji,e1⟩);cases hq:it.gi.dst with
    |none=>exact hget
    |some d=>
     simp only[Bm];rw[Bn];split
     .rename_i e;subst e;exfalso
      -- two operations cannot yield the same
      have u1:its[i]?.bind (·.gi.dst)=some d:=by rw[h1];exact hq
      have hjl:j<its.length:=by rw[<-hD.len];exact (CY.1 e1).1
      have u2:=hD.dst j its[j] _ (BW hjl) e1;exact qB hL.nodup hi2 hjl (λe=>hji e.symm) (by have:=BW hi2;rw[h1]at this;simp only[Ac]at this;rw[<-this];exact hq) (by rw[<-u2])
     exact hget
   have hno':∀j z',R[j]?= some (some t,z')->(listed.setIfInBounds i true).getD j false=false:=λj z' hj=>by have:=hno j z' hj;rwa[A7]at this
   have hold:get (Cj (λj=>listed.getD j false) 0 R++E) t=some z:=by
    refine (QV λj z' hj=>?_).trans h;rw[A7];have:=hno' j z' hj;rw[LS (by omega)]at this;split at this
    .cases this
    exact this
   cases hq:it.gi.dst with
   |none=>exact hkeep t z hold (.inr ⟨hno',h⟩)
   |some d=>
    simp only[Bm];rw[Bn];split
    .rename_i e;subst e;have:=hno' i y.2 (by rw[hy];congr 1;rw[Prod.ext_iff];exact⟨by rw[hyd,hq],rfl⟩);rw[LS (by omega),Af rfl]at this;cases this
    exact hkeep t z hold (.inr ⟨hno',h⟩)
  cases hw:it.w with
  |false=>
   have hlo:it.lo<=k:=by
    rcases hL.lo i it h1 hw with h|⟨j,itj,ha,hj,hwj,e⟩
    .omega
    have:=(hwk j itj hj hwj).1 (hancL j ha);omega
   have hhi:k<=it.hi:=by
    rcases hL.hi i it h1 hw with h|⟨j,itj,hj,hwj,e,hm⟩
    .omega
    rcases Jc it.hi k with hlt'|hge
    .exfalso;have:=(hwk j itj hj hwj).2 (by omega);have:=hcl j itj hj this i hm;rw[h3]at this;simp at this
    exact hge
   have hst:=hD.rd i it y h1 hy hw k mm hlo hhi hmm;simp only[A0,Ay,A7]at hst;obtain⟨r,hop⟩:=hL.rd i it h1 hw;refine vJ hRE h2 htr (Zny hop hst) ?_;rintro v w' x ks roots nx g' pl' hv hp hkk ⟨rfl,rfl,rfl,rfl⟩;refine next k mm [] v w' g' pl' rfl (λk hk e=>?_) hv hp hkk hmm hk ?_
   .obtain⟨it',q1,q2⟩:=hKS k hk;rw[<-e,h1]at q1;simp only[Ac]at q1;subst q1;rw[hw]at q2;cases q2
   intro j itj hj hwj;rw[LS (by omega)];split
   .rename_i e;subst e;rw[h1]at hj;simp only[Ac]at hj;subst hj;rw[hw]at hwj;simp at hwj
   exact hwk j itj hj hwj
  |true=>
   have hck:nW (its.take i)=k:=by
    have hge:k<=nW (its.take i):=by
     rcases Jc (nW (its.take i)) k with h|h
     .have:=(hwk i it h1 hw).2 h;rw[h3]at this;simp at this
     exact h
    rcases Jc k (nW (its.take i)) with h|h
    .exfalso;obtain⟨i',it',e1,e2,e3,e4⟩:=b_ its i k h;have:=(hwk i' it' e2 e3).1 (hancL i' (hL.wr i it h1 hw i' it' e1 e2 e3));omega
    omega
   have hk1:k+1<=nW its:=by
    have e1:=bA h1;rw[hw]at e1;simp at e1;have:=Zkh its (i+1);omega
   obtain⟨mm',hmm'⟩:∃mm',M[k+1]?= some mm':=⟨_,BW (by rw[hD.mlen];omega)⟩;have hst:=hD.wr i it y h1 hy hw mm mm' (by rw[A7,hck];exact hmm) (by rw[A7,hck];exact hmm');simp only[A0,Ay,A7]at hst;refine vJ hRE h2 htr hst ?_;rintro v w' x ks roots nx g' pl' hv hp hkk ⟨rfl,hks,rfl,rfl⟩;by_cases hlast:∃kk,KS=some kk/\i+1=its.length
   .obtain⟨kk,hkq,hin⟩:=hlast;subst hkq;simp only[PO]at hks;rw[Af (by omega)]at hks;obtain⟨rfl,hanc0⟩:=hks;have hkn:nW its=k+1:=by
     have e1:=bA h1;rw[hw,hin,Jd]at e1;simp at e1;omega
    rw[hkn,hmm']at hm1;simp only[Ac]at hm1;subst hm1;have hall:∀b,b<its.length->(listed.setIfInBounds i true).getD b false=true:=by
     intro b hb;rw[LS (by omega)];split
     .rfl
     exact hancL b (hanc0 b (by omega))
    have hRl:R.length=i+1:=by rw[hD.len];omega
    have hR0:R.getLast?= some y:=by
     rw[List.getLast?_eq_getElem?,hRl];exact hy
    have hdl:∀(j:Nat) (z:Option Nat×V),R.dropLast[j]?= some z->j<i/\R[j]?= some z:=by
     intro j z hj;have hjl:=(CY.1 hj).1;rw[List.length_dropLast,hRl]at hjl;rw[List.getElem?_dropLast,Af (by omega)]at hj;exact⟨by omega,hj⟩
    have fin:PQ N w0 own0 pl0 fix Q .normal (a.put it.gi.dst v) w':=by
     have hput:=hR.put (ks:=ks) (wa htr) hp hkk hv;refine⟨_,g',pl',hQ,rfl,hput.sub ?_⟩;intro t z hz;show get (Bm it.gi.dst y.2 (Bz ks (Cj (λj=>listed.getD j false) 0 R++E))) t=some z;simp only[V3,hR0]at hz;rw[hyd]at hz;have old:∀u,get (Cj (λ_=>true) 0 R.dropLast++Hy its E its.length) t=some u->get (Cj (λj=>listed.getD j false) 0 R++E) t=some u:=by
      intro u hu;have hn':(R.dropLast.filterMap (·.1)).Nodup:=((List.dropLast_sublist R).filterMap _).nodup hRn;rcases cO hn' hu with ⟨j,q1,_⟩|⟨q1,q2⟩
      .obtain⟨q3,q4⟩:=hdl j _ q1;exact QW hRn ⟨j,q4,by rw[A7];exact hancL j (hanc0 j q3)⟩
      obtain⟨q3,q4⟩:=fo q2;refine (QV λj z' hj=>?_).trans q3;exfalso;have hjl:j<its.length:=by rw[<-hD.len];exact (CY.1 hj).1
      have hjd:=hD.dst j its[j] _ (BW hjl) hj;have hm:=q4 j its[j] (BW hjl) hjd.symm;obtain⟨_,_,_,_,hlt2,_⟩:=hL.op j its[j] (BW hjl);have:=hlt2 _ hm;omega
     cases hq:it.gi.dst with
     |none=>
      rw[hq]at hz;simp only[Bm]at hz ⊢;rw[S7]at hz ⊢;simp only[BP]at hz ⊢;obtain⟨u,hu,rfl⟩:=hz;exact⟨u,old u hu,rfl⟩
     |some d=>
      rw[hq]at hz;simp only[Bm]at hz ⊢;rw[Bn]at hz ⊢;split
      .rename_i e;rw[Af e]at hz;exact hz
      rename_i e;rw[Ae e]at hz;rw[S7]at hz ⊢;simp only[BP]at hz ⊢;obtain⟨u,hu,rfl⟩:=hz;exact⟨u,old u hu,rfl⟩
    have hrdy:Region.ready .any ops (listed.setIfInBounds i true)=[]:=by
     rw[m_];intro i' hi';obtain⟨it',o',q1,q2,q3,q4⟩:=hready _ i' (by simp[hs]) hi';rw[hall i' (CY.1 q1).1]at q3;cases q3
    cases fuel with
    |zero=>exact⟨hrdy,fin⟩
    |succ fuel=>exact⟨λ_=>fin,λi' hi'=>by rw[hrdy]at hi';cases hi'⟩
   have hks0:ks=[]:=by
    cases KS with
    |none=>exact hks
    |some kk=>
     simp only[PO]at hks;rw[Ae (λe=>hlast ⟨kk,rfl,by omega⟩)]at hks;exact hks
   refine next (k+1) mm' ks v w' g' pl' hks0 (λkk hkk0 e=>hlast ⟨kk,hkk0,by omega⟩) hv hp hkk hmm' hk1 ?_;intro j itj hj hwj;rw[LS (by omega)];split
   .rename_i e;subst e;simp only[true_iff];omega
   rename_i hji;rw[hwk j itj hj hwj];have hne:nW (its.take j)≠k:=by
    intro e;rcases Jc i j with h|h
    .have:=tD h1 hw h;omega
    have:=tD hj hwj (show j<i by omega);omega
   omega
def Zpm{S:St}{id:Nat}(x:P.follows .mixedOrders=true)(p:KO its 0 ops.toList its=true)(s:GL P N ops ops.toList=some (its.map (·.gi)))(z:(its.filterMap (·.gi.dst)).Nodup)
  (h:KQ P S.fix (Hy its S.env) its [] [(S.roots,S.next)] [] (Q .normal)):Vw P N (.region id ops true) S Q:=λw0 own0 pl0 g pl a w f=>by
 have n:=r6 p s z;obtain⟨R,E,KS,i,m,_,D,e,l⟩:=ZC its [] (S.roots,S.next) [] [] (λj C q b v=>by
  obtain⟨_,_,_,_,r,_⟩:=n.op j C q;have:=r b v;simp only[Ay];omega) h
 simp only[Ay,A7,A0,de]at i e l;rw[i.len]at l;refine wp_region_any x ?_;have d:=n.len;refine oe n i m e l ops.size (Array.replicate ops.size false) 0 (S.roots,S.next) g pl a w.drew (by simp[d]) ?_ ?_ ?_ (Cq _) rfl ?_ ?_
 .rw[d];exact CW (Yr _ _) (by simp)
 .intro j u q c;exfalso;rw[Fg]at c;simp only[L5]at c;split at c<;>simp at c
 .intro j u q A;refine⟨λc=>?_,λh=>by omega⟩;exfalso;rw[Fg]at c;simp only[L5]at c;split at c<;>simp at c
 .intro k _;rw[Fg];simp only[L5];split<;>simp
 have o:Rel N w0 own0 pl0 g pl S a w.drew:=⟨f.hp.drew,f.size,f.defers,f.env⟩;refine o.sub ?_;intro t y B;rcases cN B with ⟨j,_,c⟩|h
 .exfalso;rw[Fg]at c;simp only[L5]at c;split at c<;>simp at c
 exact h
end Go.Vs
namespace Go.Vs
variable [Glb]
def Ib:Nat->List V->List (Nat×V)
 |_,[]=>[]
 |i,v::l=>(i,v)::Ib (i+1) l
def Vy:∀{l:List V}{i t:Nat}{x:V},get (Ib i l) t=some x->i<=t/\l[t-i]?= some x
 |[],_,_,_,h=>by simp[Ib,get]at h
 |v::l,i,t,x,h=>by
  simp only[Ib,get]at h;split at h
  .rename_i e;subst e;simp only[Ac]at h;subst h;exact⟨AE _,by simp⟩
  obtain⟨b,a⟩:=Vy h;refine⟨by omega, ?_⟩;rw[show t-i=(t-(i+1))+1 by omega,AN];exact a
def IZ(P:Program):List ResultVar->Option (List I)
 |[]=>some []
 |.tmp t::l=>(IZ P l).map (.mv (.t t)::·)
 |.cell a t::l=>do some (.load (<- QG P t) (.t a)::(<- IZ P l))
def Fa(S:St):List I->(List A->Prop)->Prop
 |[],K=>K []
 |i::l,K=>ev S (λv=>match v with|.a x=>Fa S l λb=>K (x::b)|_=>False) i
def oP(a:List A):Kh (Ey a)=some a:=by
 match a with
 |[]=>rfl
 |[x]=>rfl
 |x::y::l=>rfl
variable {P:Program} {N:Nat} {w0:World} {own0:Nat->Nat->Prop} {pl0:Aw} {g:Bp} {pl:Aw} {S:St} {a:Act} {w:World}
def tZ(b:Array Value):ResultVar->Sem Value
 |.tmp t=>pure (b.getD t undef)
 |.cell a t=>do loadVar t (<- asAddr (b.getD a undef))
def kA(fn:Func)(b:Array Value):results fn b=(do
  let vs <- fn.results.mapM (tZ b)
  pure (if h:vs.size=1 then vs[0] else .tuple vs)):=by
 unfold results;congr 1
def rq{f:ResultVar->Sem Value}{x:ResultVar}{l:List ResultVar}{v:Value}{b:List Value}(c:(f x).run P w=.ok v w)(d:(l.mapM f).run P w=.ok b w):((x::l).mapM f).run P w=.ok (v::b) w:=by
 rw[dX];simp[c,d]
def W1(hR:Rel N w0 own0 pl0 g pl S a w):∀(l:List ResultVar) (is:List I) (K:List A->Prop),IZ P l=some is->Fa S is K ->
  ∃vs xs,(l.mapM (tZ a.tmps)).run P w=.ok vs w/\Ai (AR pl S.next) xs vs/\K xs
 |[],is,K,ht,h=>by
  simp only[IZ,Ac]at ht;subst ht;exact⟨[],[],by simp,trivial,h⟩
 |.tmp t::l,is,K,ht,h=>by
  simp only[IZ,BP]at ht;obtain⟨is',ht',rfl⟩:=ht;simp only[Fa,ev]at h;cases hx:S.opd (.t t) with
  |a x=>
   rw[hx]at h;simp only at h;obtain⟨vs,xs,h1,h2,h3⟩:=W1 hR l is' _ ht' h;have hv:=Cc hR (P:=P) (ty:=0) (x:=.tmp t) (y:=.t t) rfl;rw[hx]at hv;exact⟨a.tmps.getD t undef::vs,x::xs,rq rfl h1,⟨hv,h2⟩,h3⟩
  |un=>rw[hx]at h;exact h.elim
  |tp xs=>rw[hx]at h;exact h.elim
  |fn f cs=>rw[hx]at h;exact h.elim
  |sb r n=>rw[hx]at h;exact h.elim
 |.cell x t::l,is,K,ht,h=>by
  simp only[IZ,Bv,AO,Ac]at ht;obtain⟨n,hn,is',ht',rfl⟩:=ht;simp only[Fa]at h;obtain ⟨v, y, hr, hy, hK⟩ := po hR (P := P) (o := ⟨none, .load t (.tmp x), 0, "", #[], none⟩) (i := .load n (.t x)) (by simp [Dy, hn, BL]) h;cases y with
  |a y=>
   simp only at hK;obtain⟨vs,xs,h1,h2,h3⟩:=W1 hR l is' _ ht' hK;refine⟨v::vs,y::xs,rq ?_ h1,⟨hy,h2⟩,h3⟩;have hr1:(do pure (.value (<- Instr.loadAt t (a.tmps.getD x undef))):Sem Go.Next).run P w=.ok (.value v) w:=hr;have hptr:∃ad,a.tmps.getD x undef=.pointer (some ad):=by
    have hv:=Cc hR (P:=P) (ty:=0) (x:=.tmp x) (y:=.t x) rfl;have hv':VR pl S.next (S.opd (.t x)) (a.tmps.getD x undef):=hv;cases n with
    |none=>
     simp only[ev]at h;split at h
     .rename_i he;rw[he]at hv';exact⟨_,hv'.2.2⟩
     .rename_i he;rw[he]at hv';exact⟨_,hv'.2⟩
     .rename_i he;rw[he]at hv';exact⟨_,hv'.1⟩
     exact h.elim
    |some m=>
     simp only[ev]at h;split at h
     .rename_i he;rw[he]at hv';exact⟨_,hv'.2.2⟩
     .rename_i he;rw[he]at hv';exact⟨_,hv'.2⟩
     .rename_i he;rw[he]at hv';exact⟨_,hv'.1⟩
     exact h.elim
   obtain⟨ad,had⟩:=hptr;rw[had]at hr1;show (do loadVar t (<- asAddr (a.tmps.getD x undef)):Sem Value).run P w=.ok v w;rw[had];simp only[Instr.loadAt,Instr.sureAddr,asAddr,Sem.run_bind,Sem.run_pure]at hr1 ⊢;cases hl:(loadVar t ad).run P w with
   |ok u w'=>
    simp[hl]at hr1 ⊢;exact hr1
   |halt e w'=>simp[hl]at hr1
  |un=>exact hK.elim
  |tp xs=>exact hK.elim
  |fn f cs=>exact hK.elim
  |sb r n=>exact hK.elim
def Zl4{f : FuncId}{fn : Func}{c : Code}{d : List Arg}{k : Out}{K : List I}(U : P.funcs[f]?= some fn)(T : fn.body = some c)(V : IZ P fn.results.toList = some K)(hn : d.length ≤ fn.ntmps)
    (h : Vw P fn.ntmps c ⟨Ib 0 (BX d).1, (BX d).2.1, (BX d).2.2, C3 d⟩ fun e n => match e with
      |.ret | .normal => Fa n K λp => HS d k n.roots (Ey p)
      |_ => False) : Gp P f d k := by
  intro w own g pl D X Q;have s : ∀ (d : List Arg) (E : List C) (b : Nat), (EJ d E b).length = d.length := by
    intro d
    induction d with
    |nil => intro E b; rfl
    |cons x d R => intro E b; cases x with
      |val ag l => cases ag <;> simp[EJ, R]
      |ptr l => simp[EJ, R]
  have Z : D.length = d.length := by rw[← Q.length]; exact s _ _ _
  refine calls_of_wp U T ?_;refine wp_mono (h w own pl g pl _ w ⟨X, ?_, rfl, ?_⟩) ?_
  · simp; omega
  · intro t x hx
    obtain ⟨_, B⟩ := Vy hx;rw[M8] at B;obtain ⟨v, i, G⟩ := Q.get t x B;have Y : t < D.length := (CY.1 i).1;have : (D.toArray ++ Array.replicate (fn.ntmps - D.toArray.size) undef).getD t undef = v := by
      rw[Fg, Oh (by simpa using Y)];simp[i]
    rw[this];exact G
  rintro e O M ⟨n, F, m, q, J, H⟩;have r : Fa n K (λp => HS d k n.roots (Ey p)) → O.defers = [] ∧ ∃ v, (results fn O.tmps).run P M = .ok v M ∧ ∃ rv F m j L A, Ending.returned v = .returned rv ∧ Hp w own pl F m j L L (C3 d) M ∧ VR m L A rv ∧ HS d k j A := by
    intro W;obtain ⟨o, p, B, i, G⟩ := W1 H _ _ _ V W;have z := H.hp;rw[J] at z;refine ⟨H.defers, if h : o.toArray.size = 1 then o.toArray[0] else .tuple o.toArray, ?_, _, F, m, n.roots, n.next, Ey p, rfl, z, ?_, G⟩
    · rw[kA]
      rw[df];simp[B]
    match p, o, i with
    |[], [], _ => exact ⟨[], rfl, trivial⟩
    |[x], [u], i => exact i.1
    |x :: y :: l, u :: u' :: o, i => exact ⟨u :: u' :: o, by simp, i⟩
    |[_], _ :: _ :: _, i => exact i.2.elim
    |_ :: _ :: _, [_], i => exact i.2.elim
  cases e with
  |normal => exact r q
  |ret => exact r q
  |exit id => exact q.elim
  |goto l => exact q.elim
  |panic ch => exact q.elim
  |outgrown => exact q.elim
end Go.Vs
namespace Go.Vs
variable [Glb]
inductive Lst (ops:Array Oper):Array Bool->List Nat->Prop
 |nil {l:Array Bool}:Region.ready .any ops l=[]->Lst ops l []
 |cons {l:Array Bool} {i:Nat} {L:List Nat}:i∈Region.ready .any ops l->Lst ops (l.setIfInBounds i true) L->Lst ops l (i::L)
def Wd(l:Array Bool):Nat:=(l.toList.filter (! ·)).length
def js{ops:Array Oper}{l:Array Bool}{i:Nat}(h:i∈Region.ready .any ops l):l[i]?= some false:=by
 simp only[Region.ready,Oi,A6,CV]at h;have a:=h.2.1;rw[Fg]at a;cases c:l[i]? with
 |none=>rw[c]at a;cases a
 |some b=>rw[c]at a;simp at a;rw[a]
def sI{l:Array Bool}{i:Nat}(h:l[i]?= some false):Wd (l.setIfInBounds i true)+1=Wd l:=by
 unfold Wd;rw[mO];have a:l.toList[i]?= some false:=by simpa using h
 clear h;generalize l.toList=m at a
 induction m generalizing i with
 |nil=>simp at a
 |cons b m c=>
  cases i with
  |zero=>
   simp only[AD,Ac]at a;subst a;simp
  |succ i=>
   simp only[AN]at a;have:=c a;simp only[Ys,MH];cases b<;>simp<;>omega
def rm{a:Array Oper}:∀(b t:Nat) (l:Array Bool),Wd l<=b->Lst a l (Region.linearise.go .any a b t l [])
 |0,t,l,h=>by
  simp only[Region.linearise.go,de];refine .nil ?_;cases e:Region.ready .any a l with
  |nil=>rfl
  |cons i r=>
   have:=js (ops:=a) (l:=l) (i:=i) (by rw[e];exact B5);have:=sI this;omega
 |b+1,t,l,h=>by
  simp only[Region.linearise.go]
  change Lst a l (match (Region.ready .any a l)[t%(Region.ready .any a l).length]? with
   |some i=>Region.linearise.go .any a b (t / (Region.ready .any a l).length) (l.setIfInBounds i true) [i]
   |none=>[].reverse)
  cases c:(Region.ready .any a l)[t%(Region.ready .any a l).length]? with
  |none=>
   refine .nil ?_;cases e:Region.ready .any a l with
   |nil=>rfl
   |cons x g=>
    rw[e]at c;have d:t%(x::g).length<(x::g).length:=KG _ (by simp);simp at c;simp at d;omega
  |some i=>
   have f:=CP c;simp only;rw[linearise_go_acc];refine .cons f (rm b _ _ ?_);have:=sI (js f);omega
def x7{P:Program}{c:Array Oper}{Q:Exit->Act->World->Prop}{L:List Nat}{l:Array Bool}(e:Lst c l L):∀(b:Nat) (a:Act) (w:World),wpAny P .any c Q b l a w->wpOps P c Q L a w:=by
 induction e with
 |nil h=>
  intro b a w d;cases b with
  |zero=>exact d.2
  |succ n=>exact d.1 h
 | @cons l i L h e g=>
  intro b a w d;cases b with
  |zero=>
   have:=d.1;rw[this]at h;cases h
  |succ n=>
   rw[wpOps_cons];exact wpOp_mono (λa w f=>g n a w f) (d.2 i h)
def Gr(a:Array Oper)(j i:Nat):Array Oper:=a.modify j λo=>{ o with after:=o.after.push ⟨i,.data⟩ }
def Om(a:Array Oper)(j i:Nat):(Gr a j i).size=a.size:=by simp[Gr]
def ed(a:Array Oper)(j i k:Nat):(Gr a j i)[k]?= (a[k]?).map λo=>if k=j then { o with after:=o.after.push ⟨i,.data⟩ } else o:=by
 unfold Gr;rw[Array.getElem?_modify];by_cases h:j=k
 .subst h;simp
 rw[Ae h];cases a[k]? with
 |none=>rfl
 |some o=>simp[Ne.symm h]
def QC(a:Array Oper)(l:Array Bool)(k:Nat):Bool:=!l.getD k true&&((a[k]?).map (·.after.all λe=>!Region.binds .any e||l.getD e.on false)).getD false
def Kq{a:Array Oper}{l:Array Bool}{k:Nat}:k∈Region.ready .any a l ↔ k<a.size/\QC a l k=true:=by
 simp only[Region.ready,Oi,Hz];rfl
def SU{a:Array Oper}{l:Array Bool}{j i k:Nat}:QC (Gr a j i) l k=(QC a l k&&(decide (k≠j)||l.getD i false)):=by
 unfold QC;rw[ed];cases a[k]? with
 |none=>simp
 |some o=>
  by_cases h:k=j
  .subst h;simp[Array.all_push,Region.binds,UF]
  simp[h]
def tJ{a:Array Oper}{l:Array Bool}{j i:Nat}(h:Region.ready .any a l=[]):Region.ready .any (Gr a j i) l=[]:=by
 cases b:Region.ready .any (Gr a j i) l with
 |nil=>rfl
 |cons k r=>
  have:k∈Region.ready .any (Gr a j i) l:=by rw[b];exact B5
  rw[Kq,Om,SU,A6]at this;have:k∈Region.ready .any a l:=Kq.2 ⟨this.1,this.2.1⟩;rw[h]at this;cases this
def Zb1{l:Array Bool}{i k:Nat}(h:l.getD i false=true):(l.setIfInBounds k true).getD i false=true:=by
 rw[Fg]at h ⊢;by_cases c:k=i
 .subst c;cases a:l[k]? with
  |none=>rw[a]at h;cases h
  |some b=>
   have:k<l.size:=by
    rcases Jc k l.size with q|q
    .exact q
    rw[U8 q]at a;cases a
   rw[RJ this];rfl
 rw[UA c];exact h
def rn{a:Array Oper}{j i:Nat}{l:Array Bool}{L:List Nat}(h:Lst a l L)(b:l.getD i false=true):Lst (Gr a j i) l L:=by
 induction h with
 |nil h=>exact .nil (tJ h)
 |cons h d c=>
  refine .cons ?_ (c (Zb1 b));rw[Kq]at h ⊢;rw[Om,SU,b,dg,PL];exact h
def ur{a:Array Oper}{l:Array Bool}{k:Nat}(h:k∈Region.ready .any a l):(l.setIfInBounds k true).getD k false=true:=by
 have b:=js h;have:k<l.size:=by
  rcases Jc k l.size with q|q
  .exact q
  rw[U8 q]at b;cases b
 rw[Fg,RJ this];rfl
def Zj5{a:Array Oper}{i j:Nat}(b:i≠j){l:Array Bool}{L:List Nat}(h:Lst a l L):Lst (Gr a j i) l L\/Lst (Gr a i j) l L:=by
 induction h with
 |nil h=>exact .inl (.nil (tJ h))
 | @cons l k L h c f=>
  by_cases d:k=i
  .subst d;refine .inl (.cons ?_ (rn c (ur h)));rw[Kq]at h ⊢;rw[Om,SU,h.2,AF b];exact⟨h.1,rfl⟩
  by_cases e:k=j
  .subst e;refine .inr (.cons ?_ (rn c (ur h)));rw[Kq]at h ⊢;rw[Om,SU,h.2,AF (Ne.symm b)];exact⟨h.1,rfl⟩
  have g:k∈Region.ready .any (Gr a j i) l:=by
   rw[Kq]at h ⊢;rw[Om,SU,h.2,AF e];exact⟨h.1,rfl⟩
  have m:k∈Region.ready .any (Gr a i j) l:=by
   rw[Kq]at h ⊢;rw[Om,SU,h.2,AF d];exact⟨h.1,rfl⟩
  rcases f with q|q
  .exact .inl (.cons g q)
  exact .inr (.cons m q)
def QL(f:Nat->Nat)(o:Oper):Oper:={ o with after:=o.after.map λe=>{ e with on:=f e.on },guard:=o.guard.map λg=>(f g.1,g.2) }
def Jx(f g:Nat->Nat)(a:Array Oper):Array Oper:=((List.range a.size).filterMap λk=>(a[g k]?).map (QL f)).toArray
def OK(f g:Nat->Nat)(n:Nat):Bool:=(List.range n).all λk=>decide (f k<n)&&(decide (g k<n)&&((g (f k)==k)&&(f (g k)==k)))
def VI(a:Array Oper)(n:Nat):Bool:=a.all λo=>o.after.all (λe=>decide (e.on<n))&&(match o.guard with|some (k,_)=>decide (k<n)|none=>true)
section
variable {f g:Nat->Nat} {ops:Array Oper}
def Nm(h:OK f g ops.size=true){k:Nat}(a:k<ops.size):f k<ops.size/\g k<ops.size/\g (f k)=k/\f (g k)=k:=by
 have:=DE.1 h k (Hz.2 a);simpa using this
def jx(h:OK f g ops.size=true){k:Nat}(d:k<ops.size):(Jx f g ops)[k]?= (ops[g k]?).map (QL f):=by
 have b:∀(l:List Nat),(∀x∈l,∃o,ops[g x]?= some o)->(l.filterMap λk=>(ops[g k]?).map (QL f))[k]?= (l[k]?).bind λx=>(ops[g x]?).map (QL f):=by
  intro l
  induction l generalizing k with
  |nil=>intro _;simp
  |cons x l i=>
   intro a;obtain⟨o,c⟩:=a x B5;rw[ma,c];simp only[Dg];cases k with
   |zero=>simp[c]
   |succ k=>
    simp only[AN];exact i (by omega) λy e=>a y (Bx _ e)
 unfold Jx;rw[mS,b _ (λx a=>?_),PJ d]
 .rfl
 have:=(Nm h (Hz.1 a)).2.1;exact⟨_,MD this⟩
def bd(h:OK f g ops.size=true):(Jx f g ops).size=ops.size:=by
 unfold Jx;have b:∀(l:List Nat),(∀x∈l,x<ops.size)->(l.filterMap λk=>(ops[g k]?).map (QL f)).length=l.length:=by
  intro l
  induction l with
  |nil=>intro _;rfl
  |cons x l d=>
   intro a;have:=(Nm h (a x B5)).2.1;rw[ma,MD this];simp only[Dg,Aq];rw[d λy c=>a y (Bx _ c)]
 show (List.filterMap _ _).toArray.size=_;rw[d_,b _ λx a=>Hz.1 a,Yl]
def sY(h:OK f g ops.size=true)(q:VI ops ops.size=true){l i:Array Bool}(t:∀k,k<ops.size->i[f k]?= l[k]?){k:Nat}(d:k<ops.size):QC (Jx f g ops) i (f k)=QC ops l k:=by
 obtain⟨n,v,p,w⟩:=Nm h d;unfold QC;rw[jx h n,p];have m:∀b,∀j,j<ops.size->i.getD (f j) b=l.getD j b:=λb j s=>by rw[Fg,Fg,t j s]
 rw[m _ k d];congr 1;have u:ops[k]?= some ops[k]:=MD d;rw[u];simp only[Dg,Eg];have c:=mb.1 q k d;simp only[A6]at c;have a:=c.1;generalize ops[k]=o at a;show (Array.map _ o.after).all _=_;rw[Array.all_map];rw[J7,dh,dh];rw[dh]at a;refine forall_congr' λe=>forall_congr' λr=>?_;have:=a e r;simp only[AA]at this;simp only[Function.comp,Region.binds,m _ _ this]
def Zj3(h:OK f g ops.size=true)(t:VI ops ops.size=true){l:Array Bool}{L:List Nat}(s:Lst ops l L):∀i:Array Bool,l.size=ops.size->i.size=ops.size->(∀k,k<ops.size->i[f k]?= l[k]?)->Lst (Jx f g ops) i (L.map f):=by
 induction s with
 | @nil l z=>
  intro i v w o;refine .nil ?_;cases y:Region.ready .any (Jx f g ops) i with
  |nil=>rfl
  |cons q r=>
   have p:q∈Region.ready .any (Jx f g ops) i:=by rw[y];exact B5
   rw[Kq,bd h]at p;obtain⟨a,b,c,d⟩:=Nm h p.1;have:=sY h t o b;rw[d]at this;rw[this]at p;have m:g q∈Region.ready .any ops l:=Kq.2 ⟨b,p.2⟩;rw[z]at m;cases m
 | @cons l k L n s A=>
  intro i v w o;rw[Kq]at n;obtain⟨a,b,c,d⟩:=Nm h n.1;refine .cons (Kq.2 ⟨by rw[bd h];exact a,by rw[sY h t o n.1];exact n.2⟩) (A _ (by simp[v]) (by simp[w]) λj u=>?_);by_cases e:k=j
  .subst e;rw[RJ (by omega),RJ (by omega)]
  have x:f k≠f j:=λq=>e (by rw[<-c,q,(Nm h u).2.2.1]);rw[UA x,UA e];exact o j u
def sa{P:Program}{Q:Exit->Act->World->Prop}(h:OK f g ops.size=true)(q:VI ops ops.size=true):∀(L:List Nat),(∀k∈L,k<ops.size)->∀a w,wpOps P (Jx f g ops) Q (L.map f) a w->wpOps P ops Q L a w
 |[],_,a,w,b=>b
 |k::L,r,a,w,b=>by
  have d:=r k B5;obtain⟨u,A,v,B⟩:=Nm h d;rw[A2,wpOps_cons]at b;rw[wpOps_cons];have x:=λa w=>sa (P:=P) (Q:=Q) h q L (λj n=>r j (Bx _ n)) a w;refine wpOp_mono x ?_;unfold wpOp at b ⊢;have s:ops[k]?= some ops[k]:=MD d;rw[jx h u,v,s]at b;rw[s];simp only[Dg]at b;have i:=mb.1 q k d;simp only[A6]at i;have c:=i.2;generalize ops[k]=o at b c;have e:Region.wanted (QL f o) (yielded (Jx f g ops) a.tmps)=Region.wanted o (yielded ops a.tmps):=by
   unfold Region.wanted QL;cases l:o.guard with
   |none=>simp[l]
   |some p=>
    obtain⟨j,t⟩:=p;rw[l]at c;have n:j<ops.size:=by simpa using c
    obtain⟨y,C,z,D⟩:=Nm h n;simp only[l,Dg];have:yielded (Jx f g ops) a.tmps (f j)=yielded ops a.tmps j:=by
     unfold yielded;rw[jx h y,z];cases ops[j]? with
     |none=>rfl
     |some o=>rfl
    rw[this]
  rw[e]at b;simp only at b ⊢;split
  .rename_i m;rw[Af m]at b;exact b
  rename_i m;rw[Ae m]at b;exact b
end
def Zj2{b:Array Oper}{l:Array Bool}{L:List Nat}(h:Lst b l L):∀k∈L,k<b.size:=by
 induction h with
 |nil _=>intro k a;cases a
 |cons h d c=>
  intro k a;rcases AX.1 a with rfl|a
  .exact (Kq.1 h).1
  exact c k a
def j4{P:Program}{c:Array Oper}{Q:Exit->Act->World->Prop}{j i:Nat}:∀(L:List Nat) a w,wpOps P (Gr c j i) Q L a w->wpOps P c Q L a w
 |[],a,w,b=>b
 |k::L,a,w,b=>by
  rw[wpOps_cons]at b ⊢;refine wpOp_mono (λa w=>j4 (j:=j) (i:=i) L a w) ?_;unfold wpOp at b ⊢;rw[ed]at b;cases f:c[k]? with
  |none=>rw[f]at b;exact b
  |some o=>
   rw[f]at b;simp only[Dg]at b ⊢;have g:yielded (Gr c j i) a.tmps=yielded c a.tmps:=by
    funext m;unfold yielded;rw[ed];cases c[m]? with
    |none=>rfl
    |some o=>
     simp only[Dg];by_cases e:m=j
     .rw[Af e];rfl
     rw[Ae e]
   rw[g]at b;by_cases d:k=j
   .rw[Af d]at b;exact b
   rw[Ae d]at b;exact b
def J2(a:Array Oper):Array Bool:=Array.replicate a.size false
def Lw(c:Array Oper)(l:List (Array Oper)):Prop:=∀L,Lst c (J2 c) L->∃b∈l,∃d,Lst b (J2 b) d/\∀(P:Program) (Q:Exit->Act->World->Prop) (a:Act) (w:World),wpOps P b Q d a w->wpOps P c Q L a w
def Z7(a:Array Oper):Lw a [a]:=λL b=>⟨a,Db.2 rfl,L,b,λ_ _ _ _ h=>h⟩
def yQ{b:Array Oper}{i j:Nat}{l l2:List (Array Oper)}(g:i≠j)(m:Lw (Gr b j i) l)(n:Lw (Gr b i j) l2):Lw b (l++l2):=λL o=>by
 have p:J2 (Gr b j i)=J2 b:=by unfold J2;rw[Om]
 have r:J2 (Gr b i j)=J2 b:=by unfold J2;rw[Om]
 rcases Zj5 g o with q|q
 .rw[<-p]at q;obtain⟨c,f,e,d,k⟩:=m L q;exact⟨c,RN _ f,e,d,λP Q a w h=>j4 L a w (k P Q a w h)⟩
 rw[<-r]at q;obtain⟨c,f,e,d,k⟩:=n L q;exact⟨c,Jh _ f,e,d,λP Q a w h=>j4 L a w (k P Q a w h)⟩
def yP{f g:Nat->Nat}{b:Array Oper}{l:List (Array Oper)}(h:OK f g b.size=true)(i:VI b b.size=true)(n:Lw (Jx f g b) l):Lw b l:=λL e=>by
 have p:=Zj2 e;have q:=Zj3 h i e (J2 (Jx f g b)) (by simp[J2]) (by simp[J2,bd h]) λk j=>by
  have:=(Nm h j).1;unfold J2;rw[bd h,L5,L5,Af this,Af j]
 obtain⟨c,r,m,d,s⟩:=n _ q;exact⟨c,r,m,d,λP Q a w o=>sa h i L p a w (s P Q a w o)⟩
def cW(a:Array Oper):Array Oper:=if (OK (λk=>(Region.linearise .any a 0).idxOf k) (λk=>(Region.linearise .any a 0).getD k 0) a.size&&VI a a.size)=true then Jx (λk=>(Region.linearise .any a 0).idxOf k) (λk=>(Region.linearise .any a 0).getD k 0) a else a
def oS{a:Array Oper}{l:List (Array Oper)}(h:Lw (cW a) l):Lw a l:=by
 unfold cW at h;split at h
 .rename_i b;simp only[A6]at b;exact yP b.1 b.2 h
 exact h
def Zj4(a:Array Oper)(t:Nat):Lst a (J2 a) (Region.linearise .any a t):=by
 unfold Region.linearise;refine rm a.size t _ ?_;unfold Wd;refine CW (Yr _ _) ?_;simp[J2]
def x8{P:Program}{N:Nat}{S:St}{Q:Exit->St->Prop}{c:Array Oper}{d:List DI}(u:KO d 0 c.toList d=true)(z:GL P N c c.toList=some (d.map (·.gi)))(D:(d.filterMap (·.gi.dst)).Nodup)
  (h:KQ P S.fix (Hy d S.env) d [] [(S.roots,S.next)] [] (Q .normal)) {B:World} {f:Nat->Nat->Prop} {l:Aw} {g:Bp} {pl:Aw} {a:Act} {w:World} (n:Rel N B f l g pl S a w):
  wpAny P .any c (PQ N B f l S.fix Q) c.size (Array.replicate c.size false) a { w with drawn:=w.drawn+1 }:=by
 have r:=r6 u z D;obtain⟨R,J,I,o,q,_,H,m,p⟩:=ZC d [] (S.roots,S.next) [] [] (λj G v b C=>by
  obtain⟨_,_,_,_,x,_⟩:=r.op j G v;have:=x b C;simp only[Ay];omega) h
 simp only[Ay,A7,A0,de]at o m p;rw[o.len]at p;have i:=r.len;refine oe r o q m p c.size (Array.replicate c.size false) 0 (S.roots,S.next) g pl a w.drew (by simp[i]) ?_ ?_ ?_ (Cq _) rfl ?_ ?_
 .rw[i];exact CW (Yr _ _) (by simp)
 .intro j A v e;exfalso;rw[Fg]at e;simp only[L5]at e;split at e<;>simp at e
 .intro j A v E;refine⟨λe=>?_,λh=>by omega⟩;exfalso;rw[Fg]at e;simp only[L5]at e;split at e<;>simp at e
 .intro k _;rw[Fg];simp only[L5];split<;>simp
 have s:Rel N B f l g pl S a w.drew:=⟨n.hp.drew,n.size,n.defers,n.env⟩;refine s.sub ?_;intro t y F;rcases cN F with ⟨j,_,e⟩|h
 .exfalso;rw[Fg]at e;simp only[L5]at e;split at e<;>simp at e
 exact h
def Zpl{P:Program}{N:Nat}{S:St}{Q:Exit->St->Prop}{id:Nat}{d:Array Oper}{l:List (Array Oper)}(q:P.follows .mixedOrders=true)(p:Lw d l)
  (h:∀b∈l,∃c:List DI,KO c 0 b.toList c=true/\GL P N b b.toList=some (c.map (·.gi))/\(c.filterMap (·.gi.dst)).Nodup/\KQ P S.fix (Hy c S.env) c [] [(S.roots,S.next)] [] (Q .normal)):Vw P N (.region id d true) S Q:=λv i s g pl a w o=>by
 refine wp_region_draw λt=>?_;simp only[Region.schedule,q,Bool.true_or,BF];obtain⟨b,e,u,f,r⟩:=p _ (Zj4 d t);obtain⟨c,j,k,m,n⟩:=h b e;exact r _ _ _ _ (x7 f b.size _ _ (x8 j k m n o))
end Go.Vs
namespace Go.Vs
variable [Glb]
inductive Stm where
 |reg (gis:List GI)
 |drw (its:List DI)
 |alt (l:List (List DI))
 |seq (x y:Stm)
 |cond (c:Opd) (x y:Stm)
 |block (id:Nat) (x:Stm)
 |loop (x:Stm)
 |exit (id:Nat)
 |ret
 |skip
 deriving Inhabited
def sU:List Nat->List Nat
 |[]=>[]
 |x::l=>let r:=sU l;if r.contains x then r else x::r
def jM:List Oper->List (List Nat)->List (List Nat)
 |[],a=>a
 |o::l,a=>jM l (a++[sU (QJ o++(QJ o).flatMap λj=>a.getD j [])])
def fY(a:List Bool):Nat->Nat
 |0=>0
 |n+1=>(if a.getD n false then 1 else 0)+fY a n
def qb(b:List Bool)(a:List (List Nat))(i:Nat):Nat->List Nat->Nat
 |m,[]=>m
 |m,j::l=>if b.getD j false&&(a.getD j []).contains i then fY b j else qb b a i m l
def OR(b:List Bool)(a:List (List Nat)):Nat->List GI->List DI
 |_,[]=>[]
 |i,g::l=>⟨g,a.getD i [],b.getD i false,if b.getD i false then 0 else ((a.getD i []).filter λj=>b.getD j false).length,if b.getD i false then 0 else qb b a i (fY b b.length) (List.range b.length)⟩::OR b a (i+1) l
def NJ(P:Program)(N:Nat)(b:Array Oper):Option (List DI):=do
 let gis <- GL P N b b.toList
 let a:=OR (gis.map λg=>!Hm g) (jM b.toList []) 0 gis
 if KO a 0 b.toList a&&decide ((a.filterMap (·.gi.dst)).Nodup) then some a else none
def jP(c:List Bool)(a:List (List Nat)):∀(b:List GI) (i:Nat),(OR c a i b).map (·.gi)=b
 |[],i=>rfl
 |g::l,i=>by simp only[OR,A2,jP c a l (i+1)]
def Zk2(b:List Bool)(a:List (List Nat)):Option (Nat×Nat):=((List.range b.length).flatMap λj=>(List.range j).map λi=>(i,j)).find? λp=>b.getD p.1 false&&(b.getD p.2 false&&!(a.getD p.2 []).contains p.1)
def Sb(P:Program)(N:Nat):Nat->Array Oper->List (Array Oper)
 |0,a=>[a]
 |n+1,a=>match GL P N a a.toList with
  |none=>[a]
  |some b=>match Zk2 (b.map λg=>!Hm g) (jM a.toList []) with
   |none=>[a]
   |some (i,j)=>if i=j then [a] else Sb P N n (cW (Gr a j i))++Sb P N n (cW (Gr a i j))
def ff(P:Program)(N:Nat):∀(n:Nat) (a:Array Oper),Lw a (Sb P N n a)
 |0,a=>Z7 a
 |n+1,a=>by
  simp only[Sb];split
  .exact Z7 a
  split
  .exact Z7 a
  split
  .exact Z7 a
  rename_i b;exact yQ b (oS (ff P N n _)) (oS (ff P N n _))
def OP{α β:Type}(f:α->Option β):List α->Option (List β)
 |[]=>some []
 |a::l=>match f a,OP f l with
  |some b,some r=>some (b::r)
  |_,_=>none
def rr{α β:Type}{f:α->Option β}:∀{l:List α}{r:List β},OP f l=some r->∀a∈l,∃b∈r,f a=some b
 |[],_,_,a,d=>by cases d
 |x::l,r,h,a,d=>by
  simp only[OP]at h;split at h
  .rename_i b k e j;simp only[Ac]at h;subst h;rcases AX.1 d with rfl|d
   .exact⟨b,B5,e⟩
   obtain⟨c,g,i⟩:=rr j a d;exact⟨c,Bx _ g,i⟩
  cases h
def ru{α β:Type}{f:α->Option β}:∀{l:List α}{r:List β},OP f l=some r->∀b∈r,∃a∈l,f a=some b
 |[],r,h,b,d=>by simp only[OP,Ac]at h;subst h;cases d
 |x::l,r,h,b,d=>by
  simp only[OP]at h;split at h
  .rename_i k m e j;simp only[Ac]at h;subst h;rcases AX.1 d with rfl|d
   .exact⟨x,B5,e⟩
   obtain⟨c,g,i⟩:=ru j b d;exact⟨c,Bx _ g,i⟩
  cases h
def Hf(P:Program)(N:Nat)(a:Array Oper):Option Stm:=match NJ P N a with
 |some b=>some (.drw b)
 |none=>match OP (NJ P N) (Sb P N 6 a) with
  |some l=>some (.alt l)
  |none=>none
def wd{P:Program}{N:Nat}{b:Array Oper}{a:List DI}(h:Hf P N b=some (.drw a)):NJ P N b=some a:=by
 unfold Hf at h;split at h
 .rename_i x c;simp only[Ac,Stm.drw.injEq]at h;rw[<-h];exact c
 split at h<;>simp at h
def wc{P:Program}{N:Nat}{a:Array Oper}{l:List (List DI)}(h:Hf P N a=some (.alt l)):OP (NJ P N) (Sb P N 6 a)=some l:=by
 unfold Hf at h;split at h
 .simp at h
 split at h
 .rename_i x b;simp only[Ac,Stm.alt.injEq]at h;rw[<-h];exact b
 simp at h
def rD:Stm->Bool
 |.drw _=>true
 |.alt _=>true
 |_=>false
def Zoz{P:Program}{N:Nat}{a:Array Oper}{s:Stm}(h:Hf P N a=some s):rD s=true:=by
 unfold Hf at h;split at h
 .simp only[Ac]at h;subst h;rfl
 split at h
 .simp only[Ac]at h;subst h;rfl
 simp at h
def Pr{P:Program}{N:Nat}{a:Array Oper}{s:Stm}(b:rD s=false):(Hf P N a=some s)=False:=eq_false λh=>by rw[Zoz h]at b;cases b
@[simp] def Zqv{P:Program}{N:Nat}{a:Array Oper}{g:List GI}:(Hf P N a=some (.reg g))=False:=Pr rfl
@[simp] def Zqw{P:Program}{N:Nat}{a:Array Oper}{x y:Stm}:(Hf P N a=some (.seq x y))=False:=Pr rfl
@[simp] def Zqx{P:Program}{N:Nat}{a:Array Oper}{c:Opd}{x y:Stm}:(Hf P N a=some (.cond c x y))=False:=Pr rfl
@[simp] def Zqy{P:Program}{N:Nat}{a:Array Oper}{i:Nat}{x:Stm}:(Hf P N a=some (.block i x))=False:=Pr rfl
@[simp] def Zqz{P:Program}{N:Nat}{a:Array Oper}{x:Stm}:(Hf P N a=some (.loop x))=False:=Pr rfl
@[simp] def Zq0{P:Program}{N:Nat}{a:Array Oper}{i:Nat}:(Hf P N a=some (.exit i))=False:=Pr rfl
@[simp] def Zq1{P:Program}{N:Nat}{a:Array Oper}:(Hf P N a=some .ret)=False:=Pr rfl
@[simp] def Zq2{P:Program}{N:Nat}{a:Array Oper}:(Hf P N a=some .skip)=False:=Pr rfl
def Bu(P:Program)(N:Nat):Code->Option Stm
 |.skip=>some .skip
 |.label _=>some .skip
 |.region _ d false=>(GL P N d d.toList).map .reg
 |.region _ d true=>Hf P N d
 |.seq a b=>do some (.seq (<- Bu P N a) (<- Bu P N b))
 |.cond c a b=>do some (.cond (<- BL P 0 c) (<- Bu P N a) (<- Bu P N b))
 |.block id a=>(Bu P N a).map (.block id)
 |.loop a=>(Bu P N a).map .loop
 |.exit id=>some (.exit id)
 |.ret=>some .ret
 |_=>none
def Sw(P:Program)(N:Nat)(s:Stm)(S:St)(Q:Exit->St->Prop):Prop:=∀c,Bu P N c=some s->Vw P N c S Q
variable {P:Program} {N:Nat} {S:St} {Q:Exit->St->Prop}
def K2(h:Q .normal S):Sw P N .skip S Q:=λc e=>by
 cases c with
 |skip=>exact Zpt h
 |label l=>exact λ_ _ _ g pl _ _ f=>wp_label ⟨S,g,pl,h,rfl,f⟩
 |region id i d=>cases d<;>simp[Bu]at e
 |seq a b=>simp[Bu,Bv,AO]at e
 |cond c a b=>simp[Bu,Bv,AO]at e
 |_=>simp[Bu]at e
def K1(h:Q .ret S):Sw P N .ret S Q:=λc e=>by
 cases c with
 |ret=>exact Zpr h
 |region id f d=>cases d<;>simp[Bu]at e
 |seq a b=>simp[Bu,Bv,AO]at e
 |cond c a b=>simp[Bu,Bv,AO]at e
 |_=>simp[Bu]at e
def Ra{id:Nat}(h:Q (.exit id) S):Sw P N (.exit id) S Q:=λc e=>by
 cases c with
 |exit i=>simp[Bu]at e;subst e;exact Zpn h
 |region id f d=>cases d<;>simp[Bu]at e
 |seq a b=>simp[Bu,Bv,AO]at e
 |cond c a b=>simp[Bu,Bv,AO]at e
 |_=>simp[Bu]at e
def Ch{x y:Stm}(h:Sw P N x S (Bi (λg=>Sw P N y g Q) Q)):Sw P N (.seq x y) S Q:=λc f=>by
 cases c with
 |seq a b=>
  simp only[Bu,Bv,AO,Ac,Stm.seq.injEq]at f;obtain⟨l,i,m,j,rfl,rfl⟩:=f;refine Zps (wk (h a i) ?_);intro e g q;cases e<;>first|exact q b j|exact q
 |region id k d=>cases d<;>simp[Bu]at f
 |cond c a b=>simp[Bu,Bv,AO]at f
 |_=>simp[Bu]at f
def HO{o:Opd}{x y:Stm}{b:Bool}(f:tv (S.opd o)=some b)(j:b=true->Sw P N x S Q)(g:b=false->Sw P N y S Q):Sw P N (.cond o x y) S Q:=λc e=>by
 cases c with
 |cond c a d=>
  simp only[Bu,Bv,AO,Ac,Stm.cond.injEq]at e;obtain⟨n,i,p,k,q,l,rfl,rfl,rfl⟩:=e;exact Zpk i f (λh=>j h a k) λh=>g h d l
 |region id m d=>cases d<;>simp[Bu]at e
 |seq a b=>simp[Bu,Bv,AO]at e
 |_=>simp[Bu]at e
def NF{id:Nat}{x:Stm}(h:Sw P N x S (Bl id Q)):Sw P N (.block id x) S Q:=λc e=>by
 cases c with
 |block i a=>
  simp only[Bu,BP,Stm.block.injEq]at e;obtain⟨j,f,rfl,rfl⟩:=e;exact Zpj (h a f)
 |region id g d=>cases d<;>simp[Bu]at e
 |seq a b=>simp[Bu,Bv,AO]at e
 |cond c a b=>simp[Bu,Bv,AO]at e
 |_=>simp[Bu]at e
def Zn6{x:Stm}(I:Nat->St->Prop)(n:Nat)(i:∃T,I n T/\Le S T)(m:∀k T,T.fix=S.fix->I k T->Sw P N x T (Bi (λh=>∃g f,g<k/\I g f/\Le h f) Q)):Sw P N (.loop x) S Q:=λc e=>by
 cases c with
 |loop a=>
  simp only[Bu,BP,Stm.loop.injEq]at e;obtain⟨q,o,rfl⟩:=e;exact Zpo I n i λk T l j=>m k T l j a o
 |region id p d=>cases d<;>simp[Bu]at e
 |seq a b=>simp[Bu,Bv,AO]at e
 |cond c a b=>simp[Bu,Bv,AO]at e
 |_=>simp[Bu]at e
def C5{f:List GI}(h:B4 P f S (Q .normal)):Sw P N (.reg f) S Q:=λc e=>by
 cases c with
 |region id i d=>
  cases d with
  |false=>
   simp only[Bu,BP,Stm.reg.injEq]at e;obtain⟨j,g,rfl⟩:=e;exact Zpp g h
  |true=>simp[Bu]at e
 |seq a b=>simp[Bu,Bv,AO]at e
 |cond c a b=>simp[Bu,Bv,AO]at e
 |_=>simp[Bu]at e
def yn{b:Array Oper}{a:List DI}(d:NJ P N b=some a):KO a 0 b.toList a=true/\GL P N b b.toList=some (a.map (·.gi))/\(a.filterMap (·.gi.dst)).Nodup:=by
 simp only[NJ,Bv,AO]at d;obtain⟨f,e,d⟩:=d;split at d
 .rename_i c;simp only[Ac]at d;simp only[A6,AA]at c;subst d;exact⟨c.1,by rw[jP];exact e,c.2⟩
 simp at d
def Zn7{s:Stm}{a:Exit->St->Prop}(h:Sw P N s S Q)(f:∀e b,Q e b->a e b):Sw P N s S a:=λc d=>wk (h c d) f
def W6{f : FuncId}{fn : Func}{c : Code}{s : Stm}{a : List Arg}{b : Out}{is : List I}(i : P.funcs[f]?= some fn)(g : fn.body = some c)(l : Bu P fn.ntmps c = some s)(j : IZ P fn.results.toList = some is)(k : a.length ≤ fn.ntmps)
    (h : Sw P fn.ntmps s ⟨Ib 0 (BX a).1, (BX a).2.1, (BX a).2.2, C3 a⟩ fun e d => match e with
      |.ret | .normal => Fa d is λm => HS a b d.roots (Ey m)
      |_ => False) : Gp P f a b := Zl4 i g j k (h c l)
end Go.Vs
namespace Go.Vs
variable [Glb]
def PZ{P:Program}{N:Nat}{b:Option Code}{s:Stm}(h:(b.bind (Bu P N))=some s):∃c,b=some c/\Bu P N c=some s:=by
 cases b with
 |none=>simp at h
 |some c=>exact⟨c,rfl,h⟩
def bD(a:List UInt8):List (List D):=a.map λb=>[.lf (.int .u8 b.toNat)]
@[simp] def AW(a:List UInt8):(bD a).length=a.length:=by simp[bD]
variable {P:Program}
def SO{c:List Arg}{b:List (Bool×List D)}{a rt:List (Nat×Root)}{xs:List A}(d:Ds c (CA c).1=[])(e:Il (flat c) 0=[])(f:xs.map (λx=>((DX x).1,(DX x).2.length))=b.map (λx=>(x.1,x.2.length)))
  (g:Dd a (xs.flatMap λx=>(DX x).2)=some (b.flatMap (·.2),rt)):HS c ⟨b,[],[]⟩ a (Ey xs):=by
 refine⟨xs,oP xs,f,[],by rw[d];trivial,by simp,rt, ?_,by rw[d];rfl,by rw[e];trivial⟩;rw[d];simpa using g
def Rr{z:Int}(a:-9223372036854775808<=z)(b:z<9223372036854775808):IntKind.i64.wrap z=z:=IntWalk.i64_in z ⟨a,by omega⟩
end Go.Vs
namespace Go.Vs
variable [Glb]
def C4(s:List (Nat×Nat)):C->C
 |.rf r p d b n=>match get s r with
  |some a=>.rf a p d b n
  |none=>.un
 |.pe r p i c=>match get s r with
  |some a=>.pe a p i c
  |none=>.un
 |.pb r c=>match get s r with
  |some a=>.pb a c
  |none=>.un
 |x=>x
def HK(s:List (Nat×Nat)):Root->Root
 |.bx a=>.bx (a.map (C4 s))
 |.ib a=>.ib (a.map (C4 s))
 |x=>x
def KZ:List (Nat×Nat)->Nat->Nat
 |[],r=>r
 |(a,b)::s,r=>if b=r then a else KZ s r
def Nz(s:List (Nat×Nat))(b a:Nat):Bool:=decide ((s.map (·.2)).Nodup)&&s.all (λx=>decide (x.2<b)&&(decide (a<=x.2)||x.1==x.2))&&decide (a<=b)
def aN{α:Type}:∀{l:List (Nat×α)}{k:Nat}{x:α},get l k=some x->(k,x)∈l
 |[],_,_,h=>by simp[get]at h
 |(j,y)::l,k,x,h=>by
  simp only[get]at h;split at h
  .rename_i e;subst e;simp only[Ac]at h;subst h;exact B5
  exact Bx _ (aN h)
def VN:∀{s:List (Nat×Nat)}{r c:Nat},(s.map (·.2)).Nodup->get s r=some c->KZ s c=r
 |[],_,_,_,h=>by simp[get]at h
 |(a,b)::s,r,c,d,h=>by
  simp only[A2,E4]at d;simp only[get]at h;simp only[KZ];split at h
  .rename_i e;simp only[Ac]at h;rw[Af h];exact e
  have:b≠c:=λe=>d.1 (by rw[e];exact CC.2 ⟨(r,c),aN h,rfl⟩);rw[Ae this];exact VN d.2 h
def i7:∀{s:List (Nat×Nat)}{r:Nat},(∀x∈s,x.2=r->x.1=r)->KZ s r=r
 |[],_,_=>rfl
 |(a,b)::s,r,h=>by
  simp only[KZ];split
  .rename_i e;exact h (a,b) B5 e
  exact i7 λx c=>h x (Bx _ c)
def CR.ren{pl f:Aw}{g e:Nat}{s:List (Nat×Nat)}(d:∀r a,get s r=some a->a<e/\∀p,f a p=pl r p){x:C}{v:Value}(h:CR pl g x v):CR f e (C4 s x) v:=by
 cases x with
 |rf r p j k n=>
  simp only[C4];cases b:get s r with
  |none=>exact CR.one h
  |some a=>exact⟨(d r a b).1,by rw[(d r a b).2];exact h.2⟩
 |pe r p i c=>
  simp only[C4];cases b:get s r with
  |none=>exact CR.one h
  |some a=>exact⟨(d r a b).1,by rw[(d r a b).2];exact h.2⟩
 |pb r c=>
  simp only[C4];cases b:get s r with
  |none=>exact CR.one h
  |some a=>exact⟨(d r a b).1,by rw[(d r a b).2];exact h.2⟩
 |un=>exact h
 |nl j=>exact h
 |lf u=>exact h
def Er.ren{L:Nat->Nat->Prop}{w:World}{g I:Bp}{pl m:Aw}{N B:Nat}{s:List (Nat×Nat)}(E:∀r k,get s r=some k->k<B/\∀p,m k p=pl r p)(J:∀b o r p k,g b o=some (r,p)->get s r=some k->I b o=some (k,p))
  {r k:Nat} {x:Root} (G:get s r=some k) (h:Er L w g pl N r x):Er L w I m B k (HK s x):=by
 have e:=(E r k G).2;have K:∀{p:Ao} {C:Nat} {q:List (List D)},NodeC w pl r p C q->NodeC w m k p C q:=by
  intro p C q h;refine⟨by rw[e];exact h.szp,by rw[e];exact h.le,by rw[e];exact h.nil,h.szs, ?_⟩;intro i el c d t u;rw[e,e];exact h.cells i el c d t u
 cases x with
 |tr C q=>
  intro p n F;obtain⟨t,u⟩:=h p n F;refine⟨K t, ?_⟩;intro j z;rw[e]at z ⊢;obtain⟨a,b,c⟩:=u j z;exact⟨J _ _ _ _ _ a G,b,c⟩
 |im C q=>
  intro p n F;obtain⟨t,u⟩:=h p n F;refine⟨K t, ?_⟩;intro j z;rw[e]at z ⊢;exact u j z
 |bx M=>
  intro c x A;simp only[CQ,BP]at A;obtain⟨y,H,rfl⟩:=A;obtain⟨v,a,b,l,f⟩:=h c y H;rw[e];exact⟨v,a,b.ren E,J _ _ _ _ _ l G,f⟩
 |ib M=>
  intro c x A;simp only[CQ,BP]at A;obtain⟨y,H,rfl⟩:=A;obtain⟨v,a,b,l⟩:=h c y H;rw[e];exact⟨v,a,b.ren E,l⟩
def NR(s:List (Nat×Nat))(E T:List (Nat×V)):Prop:=∀t x,get T t=some x->x=.un\/∃y,get E t=some y/\y.map (C4 s)=x
def RW(s:List (Nat×Nat))(R T:List (Nat×Root)):Prop:=∀r x,get T r=some x->∃a y,get R a=some y/\get s a=some r/\HK s y=x
def KU{s:List (Nat×Nat)}{E:List (Nat×V)}:NR s E []:=λt x h=>by simp[get]at h
def KV{s:List (Nat×Nat)}{E T:List (Nat×V)}{u:Nat}(h:NR s E T):NR s E ((u,.un)::T):=λt x a=>by
 simp only[get]at a;split at a
 .simp only[Ac]at a;exact .inl a.symm
 exact h t x a
def KT{s:List (Nat×Nat)}{E T:List (Nat×V)}{u:Nat}{x y:V}(b:get E u=some y)(c:y.map (C4 s)=x)(h:NR s E T):NR s E ((u,x)::T):=λt z a=>by
 simp only[get]at a;split at a
 .rename_i e;subst e;simp only[Ac]at a;subst a;exact .inr ⟨y,b,c⟩
 exact h t z a
def Lp{s:List (Nat×Nat)}{R:List (Nat×Root)}:RW s R []:=λt x h=>by simp[get]at h
def Du{s:List (Nat×Nat)}{R T:List (Nat×Root)}{u:Nat}{x y:Root}(b:Nat)(c:get R b=some y)(d:get s b=some u)(f:HK s y=x)(h:RW s R T):RW s R ((u,x)::T):=λt z a=>by
 simp only[get]at a;split at a
 .rename_i e;subst e;simp only[Ac]at a;subst a;exact⟨b,y,c,d,f⟩
 exact h t z a
def Le.ren{S T:St}(s:List (Nat×Nat))(l:T.fix=S.fix)(j:Nz s T.next S.fix=true)(R:NR s S.env T.env)(U:RW s S.roots T.roots):Le S T:=⟨l,λN w0 B W g pl a w Q=>by
 simp only[Nz,A6,AA,DE,CE,CJ]at j;obtain⟨⟨n,c⟩,m⟩:=j;obtain⟨I,J,K,L⟩:=Q;obtain⟨C,D,E,Y,Z,F⟩:=I;have k:∀r f,get s r=some f->f<T.next/\∀p,(λr p=>pl (KZ s r) p) f p=pl r p:=λr f h=>⟨(c _ (aN h)).1,λp=>by simp only[VN n h]⟩;refine⟨λb o=>(g b o).bind λx=>(get s x.1).map λf=>(f,x.2),λr p=>pl (KZ s r) p,⟨⟨C, ?_, ?_, ?_,AE _, ?_⟩,J,K, ?_⟩⟩
 .intro b o x d;simp only[AO,BP]at d;obtain⟨y,v,f,q,rfl⟩:=d;obtain⟨G,H,_⟩:=D b o y v;exact⟨G,H,(k _ _ q).1⟩
 .intro r p i;rw[l]at i;have:KZ s r=r:=i7 λx d e=>by
   rcases (c x d).2 with h|h
   .omega
   omega
  simp only[this];exact E r p i
 .rw[l];exact m
 .intro r x d;obtain⟨X,y,M,A,rfl⟩:=U r x d;refine⟨(k _ _ A).1,(F X y M).2.ren k ?_ A⟩;intro b o r1 p r2 O P;simp only[O,DF,P,Dg]
 .intro t x d;rcases R t x d with rfl|⟨y,v,rfl⟩
  .trivial
  .exact VR.killed (λz u V=>V.ren k) (L t y v)⟩
def GN:List (Nat×V)->List (Nat×V)->List (Nat×V)
 |[],E=>E
 |(t,x)::l,E=>GN l (put E t x)
def G1:List Nat->List (Nat×V)->List (Nat×V)
 |[],_=>[]
 |k::l,E=>match Vs.get E k with
  |some x=>(k,x)::G1 l E
  |none=>G1 l E
variable {P:Program} {N:Nat} {Q:Exit->St->Prop}
def xH{α:Type}(f:Nat)(c:α->List (Nat×V))(a:α->List (Nat×Root))(h:Nat)(g:α->Prop)(m:α->Nat)(b:List Nat)(E:List (Nat×V))(k:Nat)(e:St):Prop:=
 ∃d,g d/\m d<k/\e.fix=f/\∃s,Nz s h f=true/\NR s e.env (GN (c d) (G1 b E))/\RW s e.roots (a d)
def cZ{α:Type}{x:Stm}{E:List (Nat×V)}{R:List (Nat×Root)}{n f:Nat}(c:List Nat)(d:α->List (Nat×V))(b:α->List (Nat×Root))(i:Nat)(g:α->Prop)(m:α->Nat)(h:α)(j:List (Nat×Nat))(r:g h)(l:Nz j i f=true)(z:NR j E (GN (d h) (G1 c E)))(A:RW j R (b h))
  (C:∀a,g a->Sw P N x ⟨GN (d a) (G1 c E),b a,i,f⟩ (Bi (xH f d b i g m c E (m a)) Q)):Sw P N (.loop x) ⟨E,R,n,f⟩ Q:=by
 refine Zn6 (λk T=>∃a,g a/\k=m a/\T=⟨GN (d a) (G1 c E),b a,i,f⟩) (m h) ⟨_,⟨h,r,rfl,rfl⟩,Le.ren j rfl l z A⟩ ?_;rintro k T F ⟨a,B,rfl,rfl⟩;refine Zn7 (C a B) ?_;intro e D q;cases e<;>try exact q
 obtain⟨o,t,u,p,s,v,w,y⟩:=q;exact⟨m o,_,u,⟨o,t,rfl,rfl⟩,Le.ren s p.symm (by rw[p];exact v) w y⟩
def BG{α:Type}{p:α->Prop}:∀x∈([]:List α),p x:=by simp
def Gf{α:Type}{p:α->Prop}{a:α}{l:List α}(h:p a)(c:∀x∈l,p x):∀x∈a::l,p x:=by
 intro x b;rcases AX.1 b with rfl|b
 .exact h
 exact c x b
end Go.Vs
namespace Go.Vs
variable [Glb]
def Zpw{n:Nat}(h:n<9223372036854775808):IntKind.i64.wrap (n:Int)=(n:Int):=Rr (by omega) (by omega)
def j0(n a:Nat):BitVec.ofInt n (a:Int)=BitVec.ofNat n a:=by
 apply BitVec.eq_of_toNat_eq;simp[BitVec.toNat_ofInt,BitVec.toNat_ofNat]
def x4{a b:Nat}(d:a<9223372036854775808)(c:b<9223372036854775808):IntKind.i64.wrap (((BitVec.ofInt IntKind.i64.bits (a:Int)&&&BitVec.ofInt IntKind.i64.bits (b:Int)).toNat:Nat):Int)=((a&&&b:Nat):Int):=by
 rw[j0,j0,BitVec.toNat_and,BitVec.toNat_ofNat,BitVec.toNat_ofNat,show IntKind.i64.bits=64 from rfl,KH (by omega),KH (by omega)];exact Zpw (Nat.and_lt_two_pow (n:=63) a c)
def x5{a k m:Nat}(b:a<9223372036854775808)(d:m=2^k-1)(c:k<63):IntKind.i64.wrap (((BitVec.ofInt IntKind.i64.bits (a:Int)&&&BitVec.ofInt IntKind.i64.bits (m:Int)).toNat:Nat):Int)=((a%2^k:Nat):Int):=by
 have e:2^k<2^63:=Nat.pow_lt_pow_right (by omega) c;rw[x4 b (by omega),d,mc]
def MZ(x:Nat):Nat:=if 2*x > 65535 then (2*x) ^^^ 69665 else 2*x
def KP:Nat->Nat->Nat
 |0,x=>x
 |n+1,x=>KP n (MZ x)
def Vn(x:Nat)(b:UInt8):Nat:=KP 8 (x ^^^ (256*b.toNat))
def EP(l:List UInt8):Nat:=l.foldl Vn 65535
def yR{x:Nat}(h:x<65536):MZ x<65536:=by
 unfold MZ;split
 .rename_i a;have e:(2*x ^^^ 69665) >>> 16=0:=by
   rw[Nat.shiftRight_xor_distrib,di,di];have:2*x / 2^16=1:=by omega
   rw[this,show 69665 / 2^16=1 from rfl];rfl
  rw[di]at e;omega
 omega
def oV{n:Nat}:∀{x:Nat},x<65536->KP n x<65536:=by
 induction n with
 |zero=>exact λh=>h
 |succ n a=>exact λh=>a (yR h)
def yT{n:Nat}:∀{x:Nat},KP (n+1) x=MZ (KP n x):=by
 induction n with
 |zero=>intro x;rfl
 |succ n a=>intro x;rw[KP,a];rfl
def fh{x:Nat}(h:x<65536)(b:UInt8):x ^^^ (256*b.toNat)<65536:=me (n:=16) h (by have:=b.toNat_lt;omega)
def yS{x:Nat}(h:x<65536)(b:UInt8):Vn x b<65536:=oV (fh h b)
def yU{l:List UInt8}{i:Nat}(h:i<l.length):EP (l.take (i+1))=Vn (EP (l.take i)) l[i]:=by
 rw[I8 h];simp only[EP,RO,Oe,Yt]
def Na(l:List UInt8):EP l<65536:=by
 have:∀(l:List UInt8) (x:Nat),x<65536->l.foldl Vn x<65536:=by
  intro l
  induction l with
  |nil=>exact λx h=>h
  |cons b l a=>intro x h;rw[Oe];exact a _ (yS h b)
 unfold EP;exact this l 65535 (by decide)
end Go.Vs
namespace Go.Vs
variable [Glb]
def sD(l:List (List UInt8)):List (List D):=l.map λb=>[.sl 1 (bD b)]
@[simp] def AZ(l:List (List UInt8)):(sD l).length=l.length:=by simp[sD]
def QP{l:List (List UInt8)}{i:Nat}(h:i<l.length):(sD l)[i]?= some [.sl 1 (bD l[i])]:=by simp[sD,h]
def w2(v:Nat):List UInt8:=[UInt8.ofNat (v / 256),UInt8.ofNat v]
@[simp] def Zq3(v:Nat):(w2 v).length=2:=rfl
def Pk{a:List (Nat×Root)}{r c n:Nat}{b:List (List D)}(h:get a r=some (.tr c b))(d:n=b.length):Dd a [.rf r [] c 0 n]=some ([.sl c b],BV a r []):=by
 subst d;simp[Dd,DZ,h,AH]
def Zbv{l:List (List UInt8)}{i:Nat}(h:i<l.length):(l.take (i+1)).flatten=(l.take i).flatten++l[i]:=by
 rw[I8 h];simp only[mf,Ji,MG,AB]
def I0{a e:List (Nat×Root)}{r c n:Nat}{b:List (List D)}{l:List C}{d:List D}(h:get a r=some (.tr c b))(f:n=b.length)(g:Dd (BV a r []) l=some (d,e)):Dd a (.rf r [] c 0 n::l)=some (.sl c b::d,e):=by
 subst f;simp[Dd,DZ,h,AH,g]
def I1{a c:List (Nat×Root)}{v:Value}{l:List C}{b:List D}(d:Dd a l=some (b,c)):Dd a (.lf v::l)=some (.lf v::b,c):=by
 simp[Dd,DZ,d]
end Go.Vs
namespace Go.Vs
variable [Glb]
variable {P:Program} {E:List (Nat×V)} {R:List (Nat×Root)} {n f d:Nat} {l:List GI} {K:St->Prop}
end Go.Vs
namespace Go.Vs
variable [Glb]
def oT:Opd->List Nat
 |.t n=>[n]
 |.k _=>[]
def oM:Option Opd->List Nat
 |some x=>oT x
 |none=>[]
def K5:I->List Nat
 |.mv x=>oT x
 |.pick c a b=>oT c++(oT a++oT b)
 |.load _ x=>oT x
 |.nilc x=>oT x
 |.bin _ x y=>oT x++oT y
 |.beq _ x y=>oT x++oT y
 |.aeq _ _ x y=>oT x++oT y
 |.un _ x=>oT x
 |.conv _ x=>oT x
 |.b2s x=>oT x
 |.slc _ x g f=>oT x++(oM g++oM f)
 |.ssl x g f=>oT x++(oM g++oM f)
 |.fld _ _ x=>oT x
 |.fad _ x=>oT x
 |.iad _ x i=>oT x++oT i
 |.iaa _ _ x i=>oT x++oT i
 |.idx x i=>oT x++oT i
 |.ixa _ _ _ x i=>oT x++oT i
 |.ext _ x=>oT x
 |.len x=>oT x
 |.sln x=>oT x
 |.sid x=>oT x
 |.build _ d=>d.flatMap λy=>oT y.2.2
 |.mkf _ e=>e.flatMap oT
def NK:W->List Nat
 |.alloc _=>[]
 |.box x=>oT x
 |.lit _ _ _ b=>b.flatMap λy=>oT y.2
 |.store _ x v=>oT x++oT v
 |.s2b x=>oT x
 |.mks _ _ _ l c=>oT l++oT c
 |.app _ _ _ x y=>oT x++oT y
 |.aps _ x y=>oT x++oT y
 |.clr _ _ x=>oT x
 |.call _ a=>a.flatMap oT
 |.calv f a=>oT f++a.flatMap oT
def lq:J->List Nat
 |.rd i=>K5 i
 |.wr w=>NK w
def Rm(g:GI):List Nat:=(match g.guard with|some (t,_)=>[t]|none=>[])++lq g.op
def Qs:I->Bool
 |.load _ _=>false
 |.b2s _=>false
 |_=>true
def Qr(g:GI):Bool:=match g.op with
 |.rd i=>Qs i
 |_=>false
section
variable {E E':List (Nat×V)} {R R':List (Nat×Root)} {n n' f:Nat}
def CL{x:Opd}(h:∀t∈oT x,get E t=get E' t):(⟨E,R,n,f⟩:St).opd x=(⟨E',R',n',f⟩:St).opd x:=by
 cases x with
 |t k=>simp only[St.opd,h k (by simp[oT])]
 |k v=>rfl
def bO{x:Option Opd}(h:∀t∈oM x,get E t=get E' t):x.map (⟨E,R,n,f⟩:St).opd=x.map (⟨E',R',n',f⟩:St).opd:=by
 cases x with
 |none=>rfl
 |some x=>simp only[Dg];rw[CL h]
def aF:∀(c:List (Nat×Nat×Opd)) (d:List C),(∀t∈c.flatMap (λy=>oT y.2.2),get E t=get E' t)->Ie ⟨E,R,n,f⟩ d c=Ie ⟨E',R',n',f⟩ d c
 |[],d,_=>rfl
 |(a,b,x)::c,d,h=>by
  simp only[DM,H0]at h;simp only[Ie];rw[CL (R':=R') (n':=n') h.1];split
  .split
   .exact aF c _ h.2
   rfl
  rfl
def Zh:∀(a:List Opd),(∀t∈a.flatMap oT,get E t=get E' t)->a.map (⟨E,R,n,f⟩:St).opd=a.map (⟨E',R',n',f⟩:St).opd
 |[],_=>rfl
 |x::l,h=>by
  simp only[DM,H0]at h;simp only[A2];rw[CL (R':=R') (n':=n') h.1,Zh l h.2]
def Zbg{K:V->Prop}{i:I}(d:∀t∈K5 i,get E t=get E' t)(h:ev ⟨E,R,n,f⟩ K i):ev ⟨E',R,n,f⟩ K i:=by
 cases i with
 |mv x=>simp only[ev]at h ⊢;rw[<-CL (R:=R) (n:=n) d];exact h
 |pick c a b=>
  simp only[K5,H0]at d;simp only[ev]at h ⊢;rw[<-CL (R:=R) (n:=n) d.1,<-CL (R:=R) (n:=n) d.2.1,<-CL (R:=R) (n:=n) d.2.2];exact h
 |load k x=>cases k<;>(simp only[ev]at h ⊢;rw[<-CL (R:=R) (n:=n) d];exact h)
 |nilc x=>simp only[ev]at h ⊢;rw[<-CL (R:=R) (n:=n) d];exact h
 |bin p x y=>simp only[K5,H0]at d;simp only[ev]at h ⊢;rw[<-CL (R:=R) (n:=n) d.1,<-CL (R:=R) (n:=n) d.2];exact h
 |aeq p m x y=>simp only[K5,H0]at d;simp only[ev]at h ⊢;rw[<-CL (R:=R) (n:=n) d.1,<-CL (R:=R) (n:=n) d.2];exact h
 |beq p x y=>simp only[K5,H0]at d;simp only[ev]at h ⊢;rw[<-CL (R:=R) (n:=n) d.1,<-CL (R:=R) (n:=n) d.2];exact h
 |un p x=>simp only[ev]at h ⊢;rw[<-CL (R:=R) (n:=n) d];exact h
 |conv k x=>simp only[ev]at h ⊢;rw[<-CL (R:=R) (n:=n) d];exact h
 |b2s x=>simp only[ev]at h ⊢;rw[<-CL (R:=R) (n:=n) d];exact h
 |slc z x r q=>simp only[K5,H0]at d;simp only[ev]at h ⊢;rw[<-CL (R:=R) (n:=n) d.1,<-bO (R:=R) (n:=n) d.2.1,<-bO (R:=R) (n:=n) d.2.2];exact h
 |ssl x r q=>simp only[K5,H0]at d;simp only[ev]at h ⊢;rw[<-CL (R:=R) (n:=n) d.1,<-bO (R:=R) (n:=n) d.2.1,<-bO (R:=R) (n:=n) d.2.2];exact h
 |fld o k x=>cases k<;>(simp only[ev]at h ⊢;rw[<-CL (R:=R) (n:=n) d];exact h)
 |fad o x=>simp only[ev]at h ⊢;rw[<-CL (R:=R) (n:=n) d];exact h
 |iad z x y=>simp only[K5,H0]at d;simp only[ev]at h ⊢;rw[<-CL (R:=R) (n:=n) d.1,<-CL (R:=R) (n:=n) d.2];exact h
 |iaa l z x y=>simp only[K5,H0]at d;simp only[ev]at h ⊢;rw[<-CL (R:=R) (n:=n) d.1,<-CL (R:=R) (n:=n) d.2];exact h
 |idx x y=>simp only[K5,H0]at d;simp only[ev]at h ⊢;rw[<-CL (R:=R) (n:=n) d.1,<-CL (R:=R) (n:=n) d.2];exact h
 |ixa l k z x y=>simp only[K5,H0]at d;cases k<;>simp only[ev]at h ⊢<;>(rw[<-CL (R:=R) (n:=n) d.1,<-CL (R:=R) (n:=n) d.2];exact h)
 |ext i x=>simp only[ev]at h ⊢;rw[<-CL (R:=R) (n:=n) d];exact h
 |len x=>simp only[ev]at h ⊢;rw[<-CL (R:=R) (n:=n) d];exact h
 |sln x=>simp only[ev]at h ⊢;rw[<-CL (R:=R) (n:=n) d];exact h
 |sid x=>simp only[ev]at h ⊢;rw[<-CL (R:=R) (n:=n) d];exact h
 |build z e=>simp only[ev]at h ⊢;rw[<-aF (R:=R) (n:=n) e z d];exact h
 |mkf g j=>simp only[ev]at h ⊢;rw[<-Zh (R:=R) (n:=n) j d];exact h
def NO{K:KW}{j:W}(a:∀t∈NK j,get E t=get E' t)(h:wr ⟨E,R,n,f⟩ K j):wr ⟨E',R,n,f⟩ K j:=by
 cases j with
 |alloc z=>exact h
 |box x=>simp only[wr]at h ⊢;rw[<-CL (R:=R) (n:=n) a];exact h
 |lit s l z d=>
  simp only[wr]at h ⊢;rw[<-aF (E:=E) (E':=E') (R:=R) (n:=n) (d.map λx=>(x.1*s,s,x.2)) (AQ l z) (by simpa[NK,List.flatMap_map] using a)];exact h
 |store k x v=>simp only[NK,H0]at a;simp only[wr]at h ⊢;rw[<-CL (R:=R) (n:=n) a.1,<-CL (R:=R) (n:=n) a.2];exact h
 |s2b x=>simp only[wr]at h ⊢;rw[<-CL (R:=R) (n:=n) a];exact h
 |mks s b z l c=>simp only[NK,H0]at a;simp only[wr]at h ⊢;rw[<-CL (R:=R) (n:=n) a.1,<-CL (R:=R) (n:=n) a.2];exact h
 |app s b z x y=>simp only[NK,H0]at a;simp only[wr]at h ⊢;rw[<-CL (R:=R) (n:=n) a.1,<-CL (R:=R) (n:=n) a.2];exact h
 |aps z x y=>simp only[NK,H0]at a;simp only[wr]at h ⊢;rw[<-CL (R:=R) (n:=n) a.1,<-CL (R:=R) (n:=n) a.2];exact h
 |clr s z x=>simp only[NK]at a;simp only[wr]at h ⊢;rw[<-CL (R:=R) (n:=n) a];exact h
 |call g e=>exact h
 |calv g e=>exact h
def pn{P:Program}{K:KW}{j:J}(d:∀t∈lq j,get E t=get E' t)(h:FJ P ⟨E,R,n,f⟩ K j):FJ P ⟨E',R,n,f⟩ K j:=by
 cases j with
 |rd i=>exact Zbg (R:=R) (n:=n) (f:=f) (K:=λv=>K v [] R n) (i:=i) d h
 |wr w=>
  cases w with
  |call g l=>
   simp only[FJ]at h ⊢;rw[<-Zh (R:=R) (n:=n) l d];exact h
  |alloc z=>exact NO (j:=.alloc z) d h
  |box x=>exact NO (j:=.box x) d h
  |lit a b c e=>exact NO (j:=.lit a b c e) d h
  |store k x v=>exact NO (j:=.store k x v) d h
  |s2b x=>exact NO (j:=.s2b x) d h
  |mks a b c x y=>exact NO (j:=.mks a b c x y) d h
  |app a b c x y=>exact NO (j:=.app a b c x y) d h
  |aps a x y=>exact NO (j:=.aps a x y) d h
  |clr a b x=>exact NO (j:=.clr a b x) d h
  |calv g l=>
   simp only[lq,NK,H0]at d;simp only[FJ]at h ⊢;rw[<-Zh (R:=R) (n:=n) l d.2,<-CL (R:=R) (n:=n) d.1];exact h
def lB{P:Program}{K:KW}{g:GI}(c:∀t∈Rm g,get E t=get E' t)(h:CI P g ⟨E,R,n,f⟩ K):CI P g ⟨E',R,n,f⟩ K:=by
 unfold CI at h ⊢;cases a:g.guard with
 |none=>simp only[a]at h ⊢;exact pn (λt b=>c t (by simp[Rm,a,b])) h
 |some i=>
  obtain⟨t,d⟩:=i;simp only[a]at h ⊢;have b:get E t=get E' t:=c t (by simp[Rm,a]);rw[<-b];have j:∀K,FJ P ⟨E,R,n,f⟩ K g.op->FJ P ⟨E',R,n,f⟩ K g.op:=λK=>pn (λt b=>c t (by simp[Rm,a,b]));split at h
  .exact⟨λe=>j _ (h.1 e),h.2⟩
  .exact h
  exact h.elim
def gk{K:V->Prop}{i:I}(b:Qs i=true)(h:ev ⟨E,R,n,f⟩ K i):ev ⟨E,R',n',f⟩ K i:=by
 cases i with
 |load k x=>simp[Qs]at b
 |b2s x=>simp[Qs]at b
 |build z a=>simp only[ev]at h ⊢;rw[<-aF (E:=E) (R:=R) (n:=n) a z λ_ _=>rfl];exact h
 |fld o k x=>cases k<;>exact h
 |ixa l k z x y=>cases k<;>exact h
 |_=>exact h
def Znw{P:Program}{g:GI}{v:V}(a:Qr g=true)(h:CI P g ⟨E,R,n,f⟩ λx _ _ _=>x=v):CI P g ⟨E,R',n',f⟩ λx _ _ _=>x=v:=by
 unfold CI at h ⊢;obtain⟨d,l,j⟩:=g;cases l with
 |wr w=>simp[Qr]at a
 |rd i=>
  have b:Qs i=true:=a;cases j with
  |none=>exact gk (R:=R) (n:=n) (K:=λx=>x=v) b h
  |some k=>
   obtain⟨t,c⟩:=k;simp only at h ⊢;split at h
   .exact⟨λe=>gk (R:=R) (n:=n) (K:=λx=>x=v) b (h.1 e),h.2⟩
   .exact h
   exact h.elim
end
def Ga(P:Program)(f:Nat)(c:Nat):List DI->List (Nat×V)->List Mem->List Pend->(St->Prop)->Prop
 |[],E,m::_,_,K=>K ⟨E,m.1,m.2,c⟩
 |e::l,E,m::a,d,K=>
  CI P e.gi ⟨E,m.1,m.2,c⟩ λx h r n=>
   if e.w then (∀p∈d,a.length+1<=p.hi->CI P p.gi ⟨p.E,r,n,c⟩ λg _ _ _=>g=p.x) /\
    ((h=[]/\Ga P f c l (Bm e.gi.dst x E) ((r,n)::m::a) d K)\/(l=[]/\(List.range (f-1)).all (λb=>e.anc.contains b)=true/\K ⟨Bm e.gi.dst x (Bz h E),r,n,c⟩))
   else if Qr e.gi then Ga P f c l (Bm e.gi.dst x E) (m::a) d K
   else (∀i∈a.take (a.length-e.lo),CI P e.gi ⟨E,i.1,i.2,c⟩ λg _ _ _=>g=x) /\
    Ga P f c l (Bm e.gi.dst x E) (m::a) (if a.length<e.hi then ⟨e.gi,E,x,e.hi⟩::d else d) K
 |_,_,[],_,_=>False
def IG(a:List DI):List Nat:=a.filterMap (·.gi.dst)
def EI(b:List DI)(a:Nat):Option Nat:=(b[a]?).bind (·.gi.dst)
def SV(b:List DI):Bool:=(List.range b.length).all λi=>match b[i]? with
 |some c=>(Rm c.gi).all λt=>!((IG b).contains t)||((c.anc.any λa=>EI b a==some t)||SW b i t)
 |none=>true
def hO(l r:List (Nat×V))(t:Nat):get (l++r) t=match get l t with|some x=>some x|none=>get r t:=by
 induction l with
 |nil=>rfl
 |cons a l b=>
  obtain⟨k,x⟩:=a;simp only[A1,get];split
  .rfl
  exact b
def Tr{p:Nat->Bool}{t:Nat}:∀(D:List (Option Nat×V)) (i:Nat),(∀(j:Nat) (y:V),D[j]?≠some (some t,y))->get (Cj p i D) t=none
 |[],i,_=>rfl
 |(none,x)::D,i,h=>by simp only[Cj];exact Tr D _ λj y=>by simpa using h (j+1) y
 |(some d,x)::D,i,h=>by
  have hd:d≠t:=λe=>h 0 x (by simp[e]);have a:=Tr (p:=p) (t:=t) D (i+1) λj y=>by simpa using h (j+1) y
  simp only[Cj];split
  .simp only[get,Ae hd];exact a
  exact a
def cP{p:Nat->Bool}{t:Nat}{x:V}:∀(D:List (Option Nat×V)) (i a:Nat),D[a]?= some (some t,x)->p (i+a)=true->(∀(b:Nat) (y:V),D[b]?= some (some t,y)->b=a)->get (Cj p i D) t=some x
 |[],i,a,h,_,_=>by simp at h
 |(j,y)::D,i,0,h,c,f=>by
  simp only[AD,Ac,A5]at h;obtain⟨rfl,rfl⟩:=h;simp only[AL]at c;simp only[Cj,c,BF,get]
 |(j,y)::D,i,a+1,h,c,f=>by
  have g:=cP (p:=p) (t:=t) (x:=x) D (i+1) a (by simpa using h) (by rw[show i+1+a=i+(a+1) by omega];exact c) λb z k=>by
   have:=f (b+1) z (by simpa using k);omega
  cases j with
  |none=>simp only[Cj];exact g
  |some d=>
   have hd:d≠t:=λe=>by have:=f 0 y (by simp[e]);omega
   simp only[Cj];split
   .simp only[get,Ae hd];exact g
   exact g
def ZE:∀(c:List DI),(IG c).Nodup->∀(a b t:Nat),EI c a=some t->EI c b=some t->a=b
 |[],_,a,b,t,h,_=>by simp[EI]at h
 |k::c,g,a,b,t,i,j=>by
  have f:∀(c:List DI) (a t:Nat),EI c a=some t->t∈IG c:=by
   intro c a t h;simp only[EI,AO]at h;obtain⟨k,l,m⟩:=h;exact RM.2 ⟨k,CP l,m⟩
  cases hd:k.gi.dst with
  |none=>
   have e:IG (k::c)=IG c:=by simp[IG,hd]
   rw[e]at g;cases a with
   |zero=>simp[EI,hd]at i
   |succ a=>cases b with
    |zero=>simp[EI,hd]at j
    |succ b=>rw[ZE c g a b t (by simpa[EI] using i) (by simpa[EI] using j)]
  |some d=>
   have e:IG (k::c)=d::IG c:=by simp[IG,hd]
   rw[e,E4]at g;cases a with
   |zero=>
    have:d=t:=by simpa[EI,hd] using i
    subst this;cases b with
    |zero=>rfl
    |succ b=>exact (g.1 (f c b d (by simpa[EI] using j))).elim
   |succ a=>cases b with
    |zero=>
     have:d=t:=by simpa[EI,hd] using j
     subst this;exact (g.1 (f c a d (by simpa[EI] using i))).elim
    |succ b=>rw[ZE c g.2 a b t (by simpa[EI] using i) (by simpa[EI] using j)]
def xU(P:Program)(d:Nat)(c b:List Pend):Prop:=∀a∈b,(∃p∈c,p.gi=a.gi/\p.x=a.x/\p.hi=a.hi/\∀t∈Rm a.gi,get p.E t=get a.E t)\/(∀r n,CI P a.gi ⟨a.E,r,n,d⟩ λx _ _ _=>x=a.x)
def W4{P:Program}{fix:Nat}{c:List DI}{env:List (Nat×V)}{K:St->Prop}(Z:SV c=true)(W:(IG c).Nodup)(H:∀(j:Nat) (g:DI),c[j]?= some g->∀a∈g.anc,a<j):
  ∀(A:List DI) (D:List (Option Nat×V)) (E:List (Nat×V)) (m:Mem) (U:List Mem) (L G:List Pend),(∀j,A[j]?= c[D.length+j]?)->(∀(j:Nat) (y:Option Nat×V),D[j]?= some y->y.1=EI c j) ->
   (∀(j d:Nat) (x:V),D[j]?= some (some d,x)->get E d=some x)->(∀t,(∀j,j<D.length->EI c j≠some t)->get E t=get env t)->xU P fix L G->Ga P c.length fix A E (m::U) L K ->
   KQ P fix (Hy c env) A D (m::U) G λS'=>∃T,Le S' T/\K T
 |A,D,E,m,U,L,G,I,hD,hE,hN,hP,h=>by
  have uniq:∀(a b:Nat) (t:Nat) (x y:V),D[a]?= some (some t,x)->D[b]?= some (some t,y)->b=a:=λa b t x y f S=>ZE c W b a t (hD b _ S).symm (hD a _ f).symm;have O:∀(t:Nat),(∀j,j<D.length->EI c j≠some t)->∀(j:Nat) (y:V),D[j]?≠some (some t,y):=by
   intro t v j y i;exact v j (CY.1 i).1 (hD j _ i).symm
  have F:∀(t:Nat),t ∉ IG c->∀(j:Nat) (g:DI),c[j]?= some g->g.gi.dst≠some t:=λt v j g i hd=>v (RM.2 ⟨g,CP i,hd⟩);have k:∀(t:Nat),t ∉ IG c->∀j,j<D.length->EI c j≠some t:=by
   intro t v j _ i;simp only[EI,AO]at i;obtain⟨g,f,S⟩:=i;exact F t v j g f S
  cases A with
  |nil=>
   simp only[Ga]at h;simp only[KQ];refine⟨⟨E,m.1,m.2,fix⟩,Le.sub rfl rfl ?_ (λr x h=>h),h⟩;intro t x hx;rw[hO];by_cases v:t∈IG c
   .obtain⟨g,f,S⟩:=RM.1 v;obtain⟨j,i⟩:=Kd f;have a0:c.length<=D.length:=by
     have:=I 0;simp only[dj,AL]at this;exact UC.1 this.symm
    have a5:j<D.length:=CO (CY.1 i).1 a0;have s:D[j]?= some D[j]:=BW a5;have hd:D[j].1=some t:=by rw[hD j _ s];simp[EI,i,S]
    have l:D[j]?= some (some t,D[j].2):=by rw[s,<-hd]
    have:get E t=some D[j].2:=hE j t _ l;rw[hx]at this;simp only[Ac]at this;rw[cP D 0 j l rfl λb y hb=>uniq j b t _ _ l hb,this]
   rw[Tr D 0 (O t (k t v))];simp only;rw[fp (λj g i hd=>(F t v j g i hd).elim),<-hN t (k t v)];exact hx
  |cons g A=>
   have M:c[D.length]?= some g:=by simpa using (I 0).symm
   have a9:D.length<c.length:=(CY.1 M).1;have a4:∀t∈Rm g.gi,get E t=get (Cj (λj=>g.anc.contains j) 0 D++Hy c env D.length) t:=by
    intro t v;have:=DE.1 Z D.length (Hz.2 a9);simp only[M]at this;have:=DE.1 this t v;simp only[CE,CV,UD,CJ]at this;rw[hO];have Q:(∀(j:Nat) (o:DI),c[j]?= some o->o.gi.dst=some t->D.length∈o.anc)->get E t=get (Hy c env D.length) t/\∀(j:Nat) (y:V),D[j]?≠some (some t,y):=by
     intro ho;have Y:∀j,j<D.length->EI c j≠some t:=by
      intro j i hd;simp only[EI,AO]at hd;obtain⟨o,f,S⟩:=hd;have:=H j o f _ (ho j o f S);omega
     exact⟨by rw[fp ho];exact hN t Y,O t Y⟩
    rcases this with f|⟨a,f,S⟩|f
    .have hm:t ∉ IG c:=λhm=>by simp[hm]at f
     obtain⟨o1,o2⟩:=Q λj o i hd=>(F t hm j o i hd).elim;rw[Tr D 0 o2];exact o1
    .have Y:=H _ _ M a f;have s:D[a]?= some D[a]:=BW Y;have hd:D[a].1=some t:=by rw[hD a _ s,S]
     have l:D[a]?= some (some t,D[a].2):=by rw[s,<-hd]
     rw[cP D 0 a l (by simpa using f) λb y hb=>uniq a b t _ _ l hb,hE a t _ l]
    obtain⟨o1,o2⟩:=Q λj o i hd=>by
     have:=DE.1 f o (CP i);simpa[hd] using this
    rw[Tr D 0 o2];exact o1
   simp only[Ga]at h;obtain⟨x,ks,r,n,f,a7⟩:=lC h;have a8:∀K':KW,K' x ks r n->CI P g.gi ⟨Cj (λj=>g.anc.contains j) 0 D++Hy c env D.length,m.1,m.2,fix⟩ K':=λK' hk=>lB a4 (a7 K' hk);have N:∀j,A[j]?= c[(D++[(g.gi.dst,x)]).length+j]?:=by
    intro j;have:=I (j+1);simp only[AN]at this;rw[this];congr 1;simp;omega
   have a1:∀(j:Nat) (y:Option Nat×V),(D++[(g.gi.dst,x)])[j]?= some y->y.1=EI c j:=by
    intro j y s;by_cases i:j<D.length
    .rw[E3 i]at s;exact hD j y s
    rw[Dh (by omega)]at s;have:j=D.length:=by
     have:=(CY.1 s).1;simp at this;omega
    subst this;simp only[UG,AD,Ac]at s;subst s;simp[EI,M]
   have a2:∀(j d:Nat) (y:V),(D++[(g.gi.dst,x)])[j]?= some (some d,y)->get (Bm g.gi.dst x E) d=some y:=by
    intro j d y s;by_cases i:j<D.length
    .have a6:=s;rw[E3 i]at a6;have h3:=hE j d y a6;cases B:g.gi.dst with
     |none=>exact h3
     |some d'=>
      have X:d'≠d:=by
       intro e;subst e;have:=ZE c W j D.length d' (hD j _ a6).symm (by simp[EI,M,B]);omega
      simp only[Bm,Bn,Ae X];exact h3
    rw[Dh (by omega)]at s;have:j=D.length:=by
     have:=(CY.1 s).1;simp at this;omega
    subst this;simp only[UG,AD,Ac,A5]at s;rw[s.1];simp only[Bm,Bn,BF,s.2]
   have a3:∀t,(∀j,j<(D++[(g.gi.dst,x)]).length->EI c j≠some t)->get (Bm g.gi.dst x E) t=get env t:=by
    intro t v;simp only[Cb,Aq,Ay]at v;have h0:=hN t λj i=>v j (by omega);cases B:g.gi.dst with
    |none=>exact h0
    |some d'=>
     have X:d'≠t:=λe=>v D.length (by omega) (by simp only[EI,M,DF,B,e]);simp only[Bm,Bn,Ae X];exact h0
   simp only[KQ];refine a8 _ ?_;cases hw:g.w with
   |true=>
    rw[hw]at f;simp only[BF]at f ⊢;obtain⟨hp,f⟩:=f;refine⟨?_, ?_⟩
    .intro p' C b1;rcases hP p' C with ⟨p,q1,q2,q3,q4,q5⟩|q
     .have:=hp p q1 (by rw[q4];exact b1);rw[q2,q3]at this;exact lB q5 this
     exact q r n
    rcases f with ⟨b0,J⟩|⟨e0,ea,J⟩
    .exact .inl ⟨b0,W4 Z W H A _ _ _ _ L G N a1 a2 a3 hP J⟩
    refine .inr ⟨e0,λb hb=>?_,⟨Bm g.gi.dst x (Bz ks E),r,n,fix⟩,Le.sub rfl rfl ?_ (λr x h=>h),J⟩
    .have hn:c.length=D.length+1:=by
      have f:=I 1;rw[e0]at f;simp only[AN,dj]at f;have:=UC.1 f.symm;omega
     have:=DE.1 ea b (Hz.2 (by omega));simpa using this
    intro t z R;have a0:c.length=D.length+1:=by
     have f:=I 1;rw[e0]at f;simp only[AN,dj]at f;have:=UC.1 f.symm;omega
    have Q:g.gi.dst≠some t->∀u,get E t=some u->get (Cj (λ_=>true) 0 D++Hy c env (D.length+1)) t=some u:=by
     intro X u hu;rw[hO];by_cases v:t∈IG c
     .obtain⟨o,f,S⟩:=RM.1 v;obtain⟨j,i⟩:=Kd f;have a5:j<D.length:=by
       have:=(CY.1 i).1;rcases Jc j D.length with h|h
       .exact h
       exfalso;have:j=D.length:=by omega
       subst this;rw[M]at i;simp only[Ac]at i;subst i;exact X S
      have s:D[j]?= some D[j]:=BW a5;have hd:D[j].1=some t:=by rw[hD j _ s];simp[EI,i,S]
      have l:D[j]?= some (some t,D[j].2):=by rw[s,<-hd]
      have:get E t=some D[j].2:=hE j t _ l;rw[hu]at this;simp only[Ac]at this;rw[cP D 0 j l rfl λb y hb=>uniq j b t _ _ l hb,this]
     rw[Tr D 0 (O t (k t v))];simp only;rw[fp (λj g i hd=>(F t v j g i hd).elim),<-hN t (k t v)];exact hu
    cases B:g.gi.dst with
    |none=>
     rw[B]at R Q;simp only[Bm]at R ⊢;rw[S7]at R ⊢;simp only[BP]at R ⊢;obtain⟨u,hu,rfl⟩:=R;exact⟨u,Q (by simp) u hu,rfl⟩
    |some d=>
     rw[B]at R Q;simp only[Bm]at R ⊢;rw[Bn]at R ⊢;split
     .rename_i e;rw[Af e]at R;exact R
     rename_i e;rw[Ae e]at R;rw[S7]at R ⊢;simp only[BP]at R ⊢;obtain⟨u,hu,rfl⟩:=R;exact⟨u,Q (by simpa using e) u hu,rfl⟩
   |false=>
    rw[hw]at f;simp only[C6,BC]at f ⊢;cases hf:Qr g.gi with
    |true=>
     rw[hf]at f;simp only[BF]at f;have hs:∀r n,CI P g.gi ⟨Cj (λj=>g.anc.contains j) 0 D++Hy c env D.length,r,n,fix⟩ λx' _ _ _=>x'=x:=λr n=>Znw hf (a8 _ rfl);refine⟨λmm _=>hs _ _,W4 Z W H A _ _ _ _ L _ N a1 a2 a3 ?_ f⟩;split
     .intro p' C;rcases AX.1 C with rfl|C
      .exact .inr hs
      exact hP p' C
     exact hP
    |false=>
     rw[hf]at f;simp only[C6,BC]at f;obtain⟨hh,J⟩:=f;refine⟨λmm b2=>lB a4 (hh mm b2),W4 Z W H A _ _ _ _ _ _ N a1 a2 a3 ?_ J⟩;split
     .intro p' C;rcases AX.1 C with rfl|C
      .exact .inl ⟨_,B5,rfl,rfl,rfl,a4⟩
      rcases hP p' C with ⟨p,q1,q⟩|q
      .exact .inl ⟨p,Bx _ q1,q⟩
      exact .inr q
     exact hP
def ls{P:Program}{N:Nat}{c:Code}{S:St}{Q:Exit->St->Prop}(h:Vw P N c S λe l=>∃T,Le l T/\Q e T):Vw P N c S Q:=λn b d g pl a w r=>by
 refine wp_mono (h n b d g pl a w r) ?_;rintro e o u ⟨l,p,j,⟨T,m,t⟩,s,f⟩;obtain⟨q,k,i⟩:=m.2 N n b d p j o u f;exact⟨T,q,k,t,by rw[m.1,s],i⟩
def Zn9{P:Program}{N:Nat}{S:St}{Q:Exit->St->Prop}{f:List DI}(u:P.follows .mixedOrders=true)(n:SV f=true)(h:Ga P f.length S.fix f S.env [(S.roots,S.next)] [] (Q .normal)):Sw P N (.drw f) S Q:=λc i=>by
 cases c with
 |region id x d=>
  cases d with
  |false=>simp[Bu]at i
  |true=>
   simp only[Bu]at i;have g:=wd i;simp only[NJ,Bv,AO]at g;obtain⟨r,k,g⟩:=g;split at g
   .rename_i e;simp only[Ac]at g;simp only[A6,AA]at e;subst g;refine ls (Zpm u e.1 (by rw[jP];exact k) e.2 ?_);have m:=Z4 e.1;have l:=W4 (P:=P) (fix:=S.fix) (env:=S.env) (K:=Q .normal) n e.2 (by
     intro j w t a s;obtain⟨o,_,q⟩:=m.2 j w t;simp only[LB,A6,DE,AA,A7]at q;exact q.1.1.1.1.2 a s) _ [] S.env (S.roots,S.next) [] [] [] (by intro j;simp) (by simp) (by simp) (λ_ _=>rfl) (by intro p v;cases v) h
    exact l
   simp at g
 |seq a b=>simp[Bu,Bv,AO]at i
 |cond c a b=>simp[Bu,Bv,AO]at i
 |_=>simp[Bu]at i
def Zoa{P:Program}{N:Nat}{S:St}{Q:Exit->St->Prop}{l:List (List DI)}(A:P.follows .mixedOrders=true)(h:∀e∈l,SV e=true/\Ga P e.length S.fix e S.env [(S.roots,S.next)] [] (Q .normal)):Sw P N (.alt l) S Q:=λc f=>by
 cases c with
 |region id m d=>
  cases d with
  |false=>simp[Bu]at f
  |true=>
   have z:=wc (show Hf P N m=some (.alt l) by simpa only[Bu] using f);refine ls (Zpl A (ff P N 6 m) λn r=>?_);obtain⟨e,x,w⟩:=rr z n r;obtain⟨g,t,i⟩:=yn w;obtain⟨s,C⟩:=h e x;have q:=Z4 g;have k:=W4 (P:=P) (fix:=S.fix) (env:=S.env) (K:=Q .normal) s i (by
    intro j D y a v;obtain⟨o,_,u⟩:=q.2 j D y;simp only[LB,A6,DE,AA,A7]at u;exact u.1.1.1.1.2 a v) _ [] S.env (S.roots,S.next) [] [] [] (by intro j;simp) (by simp) (by simp) (λ_ _=>rfl) (by intro p B;cases B) C
   exact⟨e,g,t,i,k⟩
 |seq a b=>simp[Bu,Bv,AO]at f
 |cond c a b=>simp[Bu,Bv,AO]at f
 |_=>simp[Bu]at f
end Go.Vs
namespace Go.Vs
variable [Glb]
section
variable {E:List (Nat×V)} {R:List (Nat×Root)} {n f:Nat}
def Cm{t:Nat}{v:V}(a:get E t=some v):ev ⟨E,R,n,f⟩ (λx=>x=v) (.mv (.t t)):=by simp only[ev,St.opd,a,Eg]
def Su{v:V}:ev ⟨E,R,n,f⟩ (λx=>x=v) (.mv (.k v)):=rfl
def GT{b:BinOp}{x y:Opd}{u v r:Value}(e:St.opd ⟨E,R,n,f⟩ x=.a (.c (.lf u)))(g:St.opd ⟨E,R,n,f⟩ y=.a (.c (.lf v)))(d:LR b u v=some r):ev ⟨E,R,n,f⟩ (λx=>x=.a (.c (.lf r))) (.bin b x y):=by simp only[ev,e,g];exact⟨r,d,rfl⟩
def pq{k i:IntKind}{x y:Opd}{a b:Int}(c:Nat)(g:St.opd ⟨E,R,n,f⟩ x=.a (.c (.lf (.int k a))))(h:St.opd ⟨E,R,n,f⟩ y=.a (.c (.lf (.int i b))))(d:b=(c:Nat))(e:c<=k.bits):ev ⟨E,R,n,f⟩ (λx=>x=.a (.c (.lf (.int k (a.fdiv (2^c)))))) (.bin .shr x y):=by
 subst d;simp only[ev,g,h];refine⟨_, ?_,rfl⟩;simp only[LR,Gn,PI e];rw[Af (by omega)]
def V2{b:UnOp}{x:Opd}{u r:Value}(e:St.opd ⟨E,R,n,f⟩ x=.a (.c (.lf u)))(d:iz b u=some r):ev ⟨E,R,n,f⟩ (λx=>x=.a (.c (.lf r))) (.un b x):=by simp only[ev,e];exact⟨r,d,rfl⟩
def pp{k d:IntKind}{x:Opd}{z:Int}(b:St.opd ⟨E,R,n,f⟩ x=.a (.c (.lf (.int d z)))):ev ⟨E,R,n,f⟩ (λx=>x=.a (.c (.lf (.int k (k.wrap z))))) (.conv k x):=by simp only[ev,b]
def V1{x:Opd}{r e d m:Nat}{p:Ao}(b:St.opd ⟨E,R,n,f⟩ x=.a (.c (.rf r p e d m))):ev ⟨E,R,n,f⟩ (λx=>x=.a (.c (.lf (.int .i64 m)))) (.len x):=by simp only[ev,b]
def V0{x:Opd}{d:Nat}(b:St.opd ⟨E,R,n,f⟩ x=.a (.c (.nl d))):ev ⟨E,R,n,f⟩ (λx=>x=.a (.c (.lf (.int .i64 0)))) (.len x):=by simp only[ev,b]
def II{b:Nat}{x i:Opd}{r m j:Nat}{p:Ao}{k:IntKind}{z:Int}(e:St.opd ⟨E,R,n,f⟩ x=.a (.c (.rf r p b 0 m)))(d:St.opd ⟨E,R,n,f⟩ i=.a (.c (.lf (.int k z))))(g:z=(j:Nat))(h:j<m):ev ⟨E,R,n,f⟩ (λx=>x=.a (.c (.pe r p j 0))) (.iad b x i):=by
 subst g;simp only[ev,e,d,Gn,A7];exact⟨trivial,⟨by omega,by omega⟩,trivial⟩
def DJ{x:Opd}{r i c:Nat}{p:Ao}{m:Nat×List (List D)}{e:List D}{v:Value}(h:St.opd ⟨E,R,n,f⟩ x=.a (.c (.pe r p i c)))(d:St.node ⟨E,R,n,f⟩ r p=some m)(b:m.2[i]?= some e)(g:e[c]?= some (.lf v)):ev ⟨E,R,n,f⟩ (λx=>x=.a (.c (.lf v))) (.load none x):=by simp only[ev,h];exact⟨.lf v,by rw[d];simp only[DF,b,g],rfl⟩
def DK{x:Opd}{r i c d:Nat}{p:Ao}{m:Nat×List (List D)}{e:List D}{b:List (List D)}(k:St.opd ⟨E,R,n,f⟩ x=.a (.c (.pe r p i c)))(h:St.node ⟨E,R,n,f⟩ r p=some m)(g:m.2[i]?= some e)(j:e[c]?= some (.sl d b)):ev ⟨E,R,n,f⟩ (λx=>x=.a (.c (.rf r (p++[(i,c)]) d 0 b.length))) (.load none x):=by simp only[ev,k];exact⟨.sl d b,by rw[h];simp only[DF,g,j],rfl⟩
def Fj{x:Opd}{r c:Nat}{b:List C}{y:C}(e:St.opd ⟨E,R,n,f⟩ x=.a (.c (.pb r c)))(d:St.bcells ⟨E,R,n,f⟩ r=some b)(g:b[c]?= some y):ev ⟨E,R,n,f⟩ (λx=>x=.a (.c y)) (.load none x):=by simp only[ev,e];exact⟨_,by rw[d];simp only[DF,g],rfl⟩
def O5{x:Opd}{r c m:Nat}{b d:List C}(h:St.opd ⟨E,R,n,f⟩ x=.a (.c (.pb r c)))(g:St.bcells ⟨E,R,n,f⟩ r=some b)(e:c+m<=b.length)(i:(b.drop c).take m=d):ev ⟨E,R,n,f⟩ (λx=>x=.a (.ag d)) (.load (some m) x):=by simp only[ev,h];exact⟨_,g,e,by rw[i]⟩
def O6{x:Opd}{r i c m:Nat}{p:Ao}{b:Nat×List (List D)}{e:List D}{d:List C}(k:St.opd ⟨E,R,n,f⟩ x=.a (.c (.pe r p i c)))(j:St.node ⟨E,R,n,f⟩ r p=some b)(g:b.2[i]?= some e)(h:c+m<=e.length)(l:AM r p i c ((e.drop c).take m)=d):ev ⟨E,R,n,f⟩ (λx=>x=.a (.ag d)) (.load (some m) x):=by simp only[ev,k];exact⟨e,by rw[j];exact g,h,by rw[l]⟩
def Sv{x:Opd}{r c:Nat}(b:St.opd ⟨E,R,n,f⟩ x=.a (.c (.pb r c))):ev ⟨E,R,n,f⟩ (λx=>x=.a (.c (.pb r c))) (.nilc x):=by simp only[ev,b]
def Sx{x:Opd}{r i c:Nat}{p:Ao}(b:St.opd ⟨E,R,n,f⟩ x=.a (.c (.pe r p i c))):ev ⟨E,R,n,f⟩ (λx=>x=.a (.c (.pe r p i c))) (.nilc x):=by simp only[ev,b]
def Dq{o:Nat}{x:Opd}{r c:Nat}(b:St.opd ⟨E,R,n,f⟩ x=.a (.c (.pb r c))):ev ⟨E,R,n,f⟩ (λx=>x=.a (.c (.pb r (c+o)))) (.fad o x):=by simp only[ev,b]
def Dr{o:Nat}{x:Opd}{r i c:Nat}{p:Ao}(b:St.opd ⟨E,R,n,f⟩ x=.a (.c (.pe r p i c))):ev ⟨E,R,n,f⟩ (λx=>x=.a (.c (.pe r p i (c+o)))) (.fad o x):=by simp only[ev,b]
def ZZ{c a b:Opd}{w:Value}(e:St.opd ⟨E,R,n,f⟩ c=.a (.c (.lf (.bool true))))(d:St.opd ⟨E,R,n,f⟩ a=.a (.c (.lf w))):ev ⟨E,R,n,f⟩ (λx=>x=.a (.c (.lf w))) (.pick c a b):=by
 simp only[ev,e];exact⟨λ_=>d,λh=>by simp at h⟩
def ZY{c a b:Opd}{w:Value}(e:St.opd ⟨E,R,n,f⟩ c=.a (.c (.lf (.bool false))))(d:St.opd ⟨E,R,n,f⟩ b=.a (.c (.lf w))):ev ⟨E,R,n,f⟩ (λx=>x=.a (.c (.lf w))) (.pick c a b):=by
 simp only[ev,e];exact⟨λh=>by simp at h,λ_=>d⟩
end
section
variable {P:Program} {E:List (Nat×V)} {R:List (Nat×Root)} {n f d t:Nat} {w b:Bool} {l:List GI} {K:St->Prop}
def vI{S:St}{g:Option Nat}{i:I}{v:V}(h:ev S (λx=>x=v) i){K:KW}(c:K v [] S.roots S.next):CI P ⟨g,.rd i,none⟩ S K:=by
 obtain⟨x,e,a⟩:=ZV h;subst e;exact a (λv=>K v [] S.roots S.next) c
def Ar{i:I}{v:V}(h:ev ⟨E,R,n,f⟩ (λx=>x=v) i)(c:B4 P l ⟨put E d v,R,n,f⟩ K):B4 P (⟨some d,.rd i,none⟩::l) ⟨E,R,n,f⟩ K:=by
 obtain⟨x,e,a⟩:=ZV h;subst e;exact a (λx=>B4 P l ⟨put E d x,R,n,f⟩ K) c
def bQ{j:J}{e:Option Nat}(i:get E t=some (.a (.c (.lf (.bool b)))))(g:b=true->B4 P (⟨e,j,some (t,w)⟩::l) ⟨E,R,n,f⟩ K)(h:b=false->B4 P (⟨e,j,some (t,w)⟩::l) ⟨E,R,n,f⟩ K):B4 P (⟨e,j,some (t,w)⟩::l) ⟨E,R,n,f⟩ K:=by
 cases b
 .exact h rfl
 exact g rfl
def Ju{j:J}{e:Option Nat}(g:get E t=some (.a (.c (.lf (.bool w)))))(h:B4 P (⟨e,j,none⟩::l) ⟨E,R,n,f⟩ K):B4 P (⟨e,j,some (t,w)⟩::l) ⟨E,R,n,f⟩ K:=by
 simp only[B4,JP]at h ⊢;rw[g];exact⟨λ_=>h,λh=>(h rfl).elim⟩
def Jv{j:J}{d:Nat}(i:get E t=some (.a (.c (.lf (.bool b)))))(g:b≠w)(h:B4 P l ⟨put E d (.tp []),R,n,f⟩ K):B4 P (⟨some d,j,some (t,w)⟩::l) ⟨E,R,n,f⟩ K:=by
 simp only[B4,JP];rw[i];exact⟨λe=>(g e).elim,λ_=>h⟩
variable {nI:Nat} {hist:List Mem} {pend:List Pend} {a:List Nat} {lo hi:Nat} {ld:List DI}
def jo:K ⟨E,R,n,f⟩->Ga P nI f [] E ((R,n)::hist) pend K:=λh=>h
def Cn{i:I}{v:V}(h:ev ⟨E,R,n,f⟩ (λx=>x=v) i)(c:Qs i=true)(e:Ga P nI f ld (put E d v) ((R,n)::hist) pend K):Ga P nI f (⟨⟨some d,.rd i,none⟩,a,false,lo,hi⟩::ld) E ((R,n)::hist) pend K:=by
 simp only[Ga];refine vI h ?_;simp only[C6,BC];rw[Af (show Qr ⟨some d,.rd i,none⟩=true from c)];exact e
def Cg{i:I}{v:V}(h:ev ⟨E,R,n,f⟩ (λx=>x=v) i)(j:∀g∈hist.take (hist.length-lo),ev ⟨E,g.1,g.2,f⟩ (λx=>x=v) i)(c:¬hist.length<hi)(e:Ga P nI f ld (put E d v) ((R,n)::hist) pend K):Ga P nI f (⟨⟨some d,.rd i,none⟩,a,false,lo,hi⟩::ld) E ((R,n)::hist) pend K:=by
 simp only[Ga];refine vI h ?_;simp only[C6,BC,Ae c];split
 .exact e
 exact⟨j,e⟩
def jp{j:W}{e:Option Nat}(i:∀x y,j≠.call x y)(h:wr ⟨E,R,n,f⟩ (λx g r c=>(∀p∈pend,hist.length+1<=p.hi->CI P p.gi ⟨p.E,r,c,f⟩ λk _ _ _=>k=p.x)/\((g=[]/\Ga P nI f ld (Bm e x E) ((r,c)::(R,n)::hist) pend K)\/(ld=[]/\(List.range (nI-1)).all (λb=>a.contains b)=true/\K ⟨Bm e x (Bz g E),r,c,f⟩))) j):Ga P nI f (⟨⟨e,.wr j,none⟩,a,true,lo,hi⟩::ld) E ((R,n)::hist) pend K:=by
 cases j<;>first|exact h|exact (i _ _ rfl).elim|exact (show False from h).elim
def Ev{j:W}{e:Option Nat}(g:∀x y,j≠.call x y)(h:wr ⟨E,R,n,f⟩ (λx i c k=>B4 P l ⟨Bm e x (Bz i E),c,k,f⟩ K) j):B4 P (⟨e,.wr j,none⟩::l) ⟨E,R,n,f⟩ K:=by
 cases j<;>first|exact h|exact (g _ _ rfl).elim|exact (show False from h).elim
def SZ{fn:FuncId}{c:List Opd}{g:Option Nat}(h:fK P ⟨E,R,n,f⟩ fn (c.map (St.opd ⟨E,R,n,f⟩)) (λx i e j=>B4 P l ⟨Bm g x (Bz i E),e,j,f⟩ K)):B4 P (⟨g,.wr (.call fn c),none⟩::l) ⟨E,R,n,f⟩ K:=.inl h
end
def Hd{S:St}{K:KW}{x v:Opd}{r c n:Nat}{d b:List C}(j:S.opd x=.a (.c (.pb r c)))(i:Ov (S.opd v)=some d)(g:d.length=n)(h:get S.roots r=some (.bx b))(f:c+n<=b.length)(e:K .un [] (put S.roots r (.bx (b.take c++(d++b.drop (c+n))))) S.next):wr S K (.store n x v):=by
 simp only[wr,j];exact⟨d,i,g,b,h,f,e⟩
def cY{P:Program}{N:Nat}{E:List (Nat×V)}{R:List (Nat×Root)}{n f:Nat}{Q:Exit->St->Prop}{a:List DI}(c:P.follows .mixedOrders=true)(b:SV a=true)(h:Ga P a.length f a E [(R,n)] [] (Q .normal)):Sw P N (.drw a) ⟨E,R,n,f⟩ Q:=Zn9 c b h
end Go.Vs
namespace Go.Vs
variable [Glb]
def jB{c:List Arg}{b:List (Bool×List D)}{f:List D}{a k:List (Nat×Root)}{r:V}{e:List A}{l:List (M×D)}{i d:List C}(m:Kh r=some e)(o:e.map (λx=>((DX x).1,(DX x).2.length))=b.map (λx=>(x.1,x.2.length)))(g:Ds c (CA c).1=[(l,i)])(t:IV l i d)(s:get a (DL (flat c))=some (.bx d))
  (p:Dd a ((e.flatMap λx=>(DX x).2)++EZ l d)=some (b.flatMap (·.2)++f,k)) (q:(EZ l d).length=f.length) (n:Il (flat c) 0=[]):HS c ⟨b,[],[f]⟩ a r:=by
 refine⟨e,m,o,[d],by rw[g];exact⟨t,trivial⟩, ?_,k, ?_,by rw[g];simp[q],by rw[n];trivial⟩
 .intro j y h;cases j with
  |zero=>simp at h;subst h;exact s
  |succ j=>simp at h
 rw[g];simpa using p
@[simp] def Zqq(l:List UInt8)(n:Nat):(bD l).take n=bD (l.take n):=by simp[bD,Fp]
@[simp] def Zqp(l:List UInt8)(n:Nat):(bD l).drop n=bD (l.drop n):=by simp[bD,F4]
def kG:IV [] [] []:=trivial
def Kz{x:M×D}{l:List (M×D)}{c y:C}{a b:List C}(h:EK x=false)(t:IV l a b):IV (x::l) (c::a) (y::b):=⟨λe=>(by rw[h]at e;cases e),t⟩
def Nu{d:List Arg}{c:List (Bool×List D)}{b i:List (Nat×Root)}{x:A}(e:Ds d (CA d).1=[])(f:Il (flat d) 0=[])(g:[x].map (λx=>((DX x).1,(DX x).2.length))=c.map (λx=>(x.1,x.2.length)))
  (h:Dd b ([x].flatMap λx=>(DX x).2)=some (c.flatMap (·.2),i)):HS d ⟨c,[],[]⟩ b (.a x):=SO (xs:=[x]) e f g h
end Go.Vs
namespace Go.Vs
variable [Glb]
end Go.Vs
namespace Go.Vs
variable [Glb]
section
variable {α:Type} (s:α->Nat) (mk:Nat->α->α)
end
abbrev Wr:=Int×List UInt8
def wE(w:Wr):List D:=[.lf (.int .i64 w.1),.sl 1 (bD w.2)]
def wD(l:List Wr):List (List D):=l.map wE
@[simp] def dG(l:List Wr):(wD l).length=l.length:=by simp[wD]
def T9{l:List Wr}{i:Nat}(h:i<l.length):(wD l)[i]?= some [.lf (.int .i64 l[i].1),.sl 1 (bD l[i].2)]:=by simp[wD,h,wE]
end Go.Vs
namespace Go.Vs
variable [Glb]
def tP{N:Nat}{C:World}{k:Nat->Nat->Prop}{m:Aw}{g:Bp}{pl:Aw}{E:List (Nat×V)}{R:List (Nat×Root)}{n f:Nat}{a:Act}{w:World}(z:Nat)(Q:Rel N C k m g pl ⟨E,R,n,f⟩ a w):
  Rel N C k m g (FY pl n λ_=>⟨true,0,0,0,z,none⟩) ⟨E,(n,.tr z [])::R,n+1,f⟩ a w:=by
 obtain⟨L,M,O,P⟩:=Q;obtain⟨D,F,G,A,T,H⟩:=L;have up:∀x v,CR pl n x v->CR (FY pl n λ_=>⟨true,0,0,0,z,none⟩) (n+1) x v:=λx v h=>(h.agree (D6 pl n _)).mono (by omega);refine⟨⟨D, ?_, ?_, ?_,AE _, ?_⟩,M,O, ?_⟩
 .intro b o x d;obtain⟨I,J,K⟩:=F b o x d;exact⟨I,J,G5 K⟩
 .intro r p l;have s:r<n:=CO l A;rw[D6 pl n _ r p s];exact G r p l
 .exact Nat.le_succ_of_le A
 .intro r x d;simp only[get]at d;split at d
  .rename_i e;subst e;simp only[Ac]at d;subst d;refine⟨DG _, ?_⟩;intro p U u;cases p with
   |nil=>
    simp only[AH,Ac]at u;subst u;refine⟨⟨by rw[CU],Cq _,λ_=>by rw[CU],by simp,by simp⟩, ?_⟩;intro j B;rw[CU]at B;simp at B
   |cons q p=>obtain⟨i,c⟩:=q;simp[AH]at u
  rename_i e;obtain⟨l,y⟩:=H r x d;refine⟨G5 l,Keep.root' (w:=w) (g:=g) (pl:=pl) (nx:=n) ⟨λb o q S=>⟨S,rfl,rfl⟩,λ_ _ _=>rfl,λp=>D6 pl n _ r p l⟩ up y⟩
 intro t x d;exact ((P t x d).agree (D6 pl n _)).mono (HR n)
def oU{pl:Aw}{n a:Nat}{v:Value}(h:v=.slice none 0 0):CR (FY pl n λ_=>⟨true,0,0,0,a,none⟩) (n+1) (.rf n [] a 0 0) v:=by
 subst h;refine⟨DG _, ?_⟩;rw[CU];exact⟨rfl,λ_=>rfl,AE _,none,rfl,λ_=>rfl⟩
section
variable {P:Program} {N:Nat} {s:Stm} {Q:Exit->St->Prop} {E:List (Nat×V)} {R:List (Nat×Root)} {n f:Nat}
end
end Go.Vs
namespace Go.Vs
inductive Ty where
 |I (k:IntKind)
 |Y
 |B
 |S
 |L (t:Ty)
 |H (t:Ty)
 |P (a b:Ty)
 deriving DecidableEq,Inhabited
@[reducible] def Ty.den:Ty->Type
 |.I _=>Int
 |.Y=>UInt8
 |.B=>Bool
 |.S=>List UInt8
 |.L t=>List t.den
 |.H t=>Option (List t.den)
 |.P a b=>a.den×b.den
def Ty.n:Ty->Nat
 |.P a b=>a.n+b.n
 |_=>1
def Ty.flat:Ty->Bool
 |.L _=>false
 |.H _=>false
 |.P a b=>a.flat&&b.flat
 |_=>true
def Al:(t:Ty)->t.den->List D
 |.I k,z=>[.lf (.int k z)]
 |.Y,b=>[.lf (.int .u8 b.toNat)]
 |.B,x=>[.lf (.bool x)]
 |.S,l=>[.lf (.string ⟨l.toArray⟩)]
 |.L t,c=>[.sl t.n (List.map (Al t) c)]
 |.H t,o=>[match o with|some c=>.sl t.n (List.map (Al t) c)|none=>.hole]
 |.P a b,x=>Al a x.1++Al b x.2
def Cv:∀(t:Ty) (x:t.den),(Al t x).length=t.n
 |.I _,_=>rfl
 |.Y,_=>rfl
 |.B,_=>rfl
 |.S,_=>rfl
 |.L _,_=>rfl
 |.H _,_=>rfl
 |.P a b,x=>by simp only[Al,Cb,Cv a,Cv b,Ty.n]
def idx{α:Type}(a:List α)(z:Int):Option α:=if 0<=z then a[z.toNat]? else none
def Aa{α β:Type}(o:Option α)(f:α->Option β):Option β:=match o with
 |some x=>f x
 |none=>none
def A3{β:Type}(c:Bool)(k:Option β):Option β:=match c with
 |true=>k
 |false=>none
def Ab{β:Type}(c:Bool)(x y:Option β):Option β:=match c with
 |true=>x
 |false=>y
def cM{α:Type}(c:Bool)(x y:α):α:=match c with
 |true=>x
 |false=>y
def G6{α β:Type}{o:Option α}{f:α->Option β}{r:β}(h:Aa o f=some r):∃x,o=some x/\f x=some r:=by
 cases o with
 |none=>simp[Aa]at h
 |some x=>exact⟨x,rfl,h⟩
def Es{β:Type}{c:Bool}{k:Option β}{r:β}(h:A3 c k=some r):c=true/\k=some r:=by
 cases c with
 |false=>simp[A3]at h
 |true=>exact⟨rfl,h⟩
def Z5{β:Type}{c:Bool}{x y:Option β}{r:β}(h:Ab c x y=some r):(c=true/\x=some r)\/(c=false/\y=some r):=by
 cases c with
 |false=>exact .inr ⟨rfl,h⟩
 |true=>exact .inl ⟨rfl,h⟩
def SE{α:Type}{a:List α}{z:Int}{x:α}(h:idx a z=some x):0<=z/\a[z.toNat]?= some x:=by
 unfold idx at h;split at h
 .exact⟨by assumption,h⟩
 simp at h
def u8(z:Int):UInt8:=UInt8.ofNat z.toNat
def Aj(b:UInt8):Int:=(b.toNat:Int)
def Am{α:Type}(a:List α):Int:=(a.length:Int)
def A9(z:Int):Nat:=z.toNat
def Au(k:IntKind)(a b:Int):Int:=k.wrap (a+b)
def Br(k:IntKind)(a b:Int):Int:=k.wrap (a-b)
def Fu(k:IntKind)(a b:Int):Int:=k.wrap (a*b)
def Zht(k:IntKind)(a b:Int):Int:=k.wrap (a.tdiv b)
def EX(a b:Int):Int:=a.tmod b
def Bg(k:IntKind)(a b:Int):Int:=k.wrap (BitVec.ofInt k.bits a&&&BitVec.ofInt k.bits b).toNat
def BM(k:IntKind)(a b:Int):Int:=k.wrap (BitVec.ofInt k.bits a ||| BitVec.ofInt k.bits b).toNat
def JD(k:IntKind)(a b:Int):Int:=k.wrap (BitVec.ofInt k.bits a ^^^ BitVec.ofInt k.bits b).toNat
def iH(k:IntKind)(a b:Int):Int:=k.wrap (BitVec.ofInt k.bits a&&&~~~BitVec.ofInt k.bits b).toNat
def C9(k:IntKind)(a b:Int):Int:=k.wrap (a*2^(min b.toNat k.bits))
def Cl(k:IntKind)(a b:Int):Int:=a.fdiv (2^(min b.toNat k.bits))
def ql(k:IntKind)(a:Int):Int:=k.wrap (0-a)
def Az(k:IntKind)(a:Int):Int:=k.wrap a
def Ak(a b:Int):Bool:=a==b
def AI(a b:Int):Bool:=a != b
def Bb(a b:Int):Bool:=decide (a<b)
def Ck(a b:Int):Bool:=decide (a<=b)
def Cr(a b:Int):Bool:=decide (a > b)
def Dk(a b:Int):Bool:=decide (a ≥ b)
def Dc(a b:List UInt8):Bool:=a==b
def FB(a b:List UInt8):Bool:=Op.bytesLess a b
def MT(a b:Bool):Bool:=a==b
def Zi(a b:Bool):Bool:=a != b
def Ap(a:Bool):Bool:=!a
def Xm(a b:List Int):Bool:=a==b
def nZ(a b:Bool):Bool:=a||b
def Ax{α:Type}(a b:List α):List α:=a++b
def BA{α:Type}(n:Nat)(l:List α):List α:=l.take n
def E9{α:Type}(n:Nat)(l:List α):List α:=l.drop n
def BS{α:Type}(l:List α)(n:Nat)(x:α):List α:=l.set n x
def Hq(a b:Nat):Bool:=decide (a=b)
def Wc(a b:Nat):Bool:=decide (a≠b)
def Ik{α:Type}(o:Option α):Bool:=o.isSome
def JB{α:Type}(o:Option (List α)):List α:=o.getD []
def GX{α:Type}(n:Nat)(x:α):List α:=List.replicate n x
def Bk(n:Nat)(a:Nat):Bool:=decide (n*a<=140737488355328)
def De(l h n:Int):Bool:=decide (0<=l/\l<=h/\h<=n)
inductive XC where
 |un
 |nl (sz:Nat)
 |lf (v:Value)
 |i (k:IntKind) (z:Int)
 |y (x:UInt8)
 |b (x:Bool)
 |s (l:List UInt8)
 |rw (r:Nat)
 |rv (r lo n:Nat)
 |rf (r v:Nat) (p:Ao) (lo:Nat) (t:Ty) (ws:List t.den)
 |pe (r v:Nat) (p:Ao) (i c:Nat) (t:Ty) (x:t.den)
 |pb (r c:Nat)
 deriving Inhabited
inductive XA where
 |c (x:XC)
 |ag (cs:List XC)
 deriving Inhabited
inductive XV where
 |un
 |a (x:XA)
 |tp (xs:List XA)
 |fn (f:FuncId) (cs:List XA)
 |sb (r n:Nat)
 deriving Inhabited
inductive XR where
 |tr (t:Ty) (xs:List t.den)
 |im (t:Ty) (xs:List t.den)
 |bx (cs:List (Nat×XC))
 |gone
 deriving Inhabited
abbrev AK:=List (Nat×Nat×XR)
def lk{α:Type}:List (Nat×Nat×α)->Nat->Option (Nat×α)
 |[],_=>none
 |e::l,t=>match Nat.beq e.1 t with
  |true=>some e.2
  |false=>lk l t
variable [Glb]
structure XSt where
 env:List (Nat×Nat×XV)
 roots:AK
 next:Nat
 stamp:Nat
 fix:Nat
def BO{α:Type}{e:Nat×Nat×α}{l:List (Nat×Nat×α)}{t:Nat}:lk (e::l) t=if e.1=t then some e.2 else lk l t:=by
 simp only[lk];cases a:Nat.beq e.1 t with
 |true=>rw[Af (B6 a)]
 |false=>rw[Ae (UH a)]
def Dp(R:AK)(r v:Nat):Bool:=match lk R r with
 |some (a,_)=>Nat.beq a v
 |none=>false
def Xi{R:AK}{r v:Nat}(h:Dp R r v=true):∃x,lk R r=some (v,x):=by
 unfold Dp at h;split at h
 .rename_i b x a;exact⟨x,by rw[a,B6 h]⟩
 simp at h
def Lu{R:AK}{r v:Nat}{x:XR}(h:lk R r=some (v,x)):Dp R r v=true:=by
 simp[Dp,h]
def cC(R:AK):XC->C
 |.un=>.un
 |.nl e=>.nl e
 |.lf v=>.lf v
 |.i k z=>.lf (.int k z)
 |.y b=>.lf (.int .u8 b.toNat)
 |.b x=>.lf (.bool x)
 |.s l=>.lf (.string ⟨l.toArray⟩)
 |.rw r=>match lk R r with
  |some (_,.tr t d)=>.rf r [] t.n 0 d.length
  |some (_,.im t d)=>.rf r [] t.n 0 d.length
  |_=>.un
 |.rv r a n=>match lk R r with
  |some (_,.tr t _)=>.rf r [] t.n a n
  |some (_,.im t _)=>.rf r [] t.n a n
  |_=>.un
 |.rf r v p a t f=>match Dp R r v with
  |true=>.rf r p t.n a f.length
  |false=>.un
 |.pe r v p i c t x=>match Dp R r v with
  |true=>.pe r p i c
  |false=>.un
 |.pb r c=>match lk R r with
  |some (_,.bx _)=>.pb r c
  |_=>.un
def cA(R:AK):XA->A
 |.c x=>.c (cC R x)
 |.ag a=>.ag (a.map (cC R))
def cV(R:AK):XV->V
 |.un=>.un
 |.a x=>.a (cA R x)
 |.tp c=>.tp (c.map (cA R))
 |.fn f b=>.fn f (b.map (cA R))
 |.sb r n=>match lk R r with
  |some (_,.bx _)=>.sb r n
  |_=>.un
def D1(R:AK):XR->Option Root
 |.tr t a=>some (.tr t.n (a.map (Al t)))
 |.im t a=>some (.im t.n (a.map (Al t)))
 |.bx b=>some (.bx (b.map λe=>cC R e.2))
 |.gone=>none
def D5(R:AK)(r:Nat)(p:Ao):Option (Nat×List (List D)):=match lk R r with
 |some (_,.tr t a)=>AH t.n (a.map (Al t)) p
 |some (_,.im t a)=>AH t.n (a.map (Al t)) p
 |_=>none
def Ba(y x:C):Prop:=x=y\/x=.un
def EH:A->A->Prop
 |.c y,.c x=>Ba y x
 |.ag b,.ag a=>Ai Ba b a
 |_,_=>False
def CZ:V->V->Prop
 |_,.un=>True
 |.a y,.a x=>EH y x
 |.tp i,.tp h=>Ai EH i h
 |.fn f c,.fn g d=>f=g/\Ai EH c d
 |.sb r n,.sb e b=>r=e/\n=b
 |_,_=>False
def H5:Root->Root->Prop
 |.tr s e,.tr b a=>s=b/\e=a
 |.im s e,.im b a=>s=b/\e=a
 |.bx d,.bx c=>Ai Ba d c
 |_,_=>False
def Ba.refl(x:C):Ba x x:=.inl rfl
def Ai.refl{α:Type}{R:α->α->Prop}(h:∀a,R a a):∀l:List α,Ai R l l
 |[]=>trivial
 |a::l=>⟨h a,Ai.refl h l⟩
def EH.refl:∀x:A,EH x x
 |.c x=>Ba.refl x
 |.ag a=>Ai.refl Ba.refl a
def CZ.refl:∀x:V,CZ x x
 |.un=>trivial
 |.a x=>EH.refl x
 |.tp b=>Ai.refl EH.refl b
 |.fn f c=>⟨rfl,Ai.refl EH.refl c⟩
 |.sb r n=>⟨rfl,rfl⟩
def Ba.eq{y x:C}(h:Ba y x)(a:x≠.un):y=x:=by
 rcases h with h|h
 .exact h.symm
 exact (a h).elim
def CZ.c{y:V}{x:C}(h:CZ y (.a (.c x)))(b:x≠.un):y=.a (.c x):=by
 cases y with
 |a z=>cases z with
  |c z=>rw[Ba.eq h b]
  |ag _=>exact h.elim
 |_=>exact h.elim
structure SimX (X:XSt) (S:St):Prop where
 next:S.next=X.next
 fix:S.fix=X.fix
 env:∀t s v,lk X.env t=some (s,v)->v=.un\/∃y,get S.env t=some y/\CZ y (cV X.roots v)
 roots:∀r s x,lk X.roots r=some (s,x)->∀y,D1 X.roots x=some y->∃y',get S.roots r=some y'/\H5 y' y
def Bj(R:AK)(a e:Nat):XC->Prop
 |.rw r=>r<a
 |.rv r _ _=>r<a
 |.rf r v p d t b=>r<a/\v<e/\(Dp R r v=true->∃l,D5 R r p=some (t.n,l)/\d+b.length<=l.length/\(l.drop d).take b.length=b.map (Al t))
 |.pe r v p i c t x=>r<a/\v<e/\(Dp R r v=true->∃l,D5 R r p=some (t.n,l)/\l[i]?= some (Al t x))
 |.pb r _=>r<a
 |_=>True
def Gw(R:AK)(a b:Nat):XA->Prop
 |.c x=>Bj R a b x
 |.ag d=>∀c∈d,Bj R a b c
def Dt(R:AK)(b c:Nat):XV->Prop
 |.a x=>Gw R b c x
 |.tp e=>∀x∈e,Gw R b c x
 |.fn _ d=>∀x∈d,Gw R b c x
 |.sb r _=>r<b
 |_=>True
structure XOk (X:XSt):Prop where
 ids:∀r s x,lk X.roots r=some (s,x)->r<X.next/\s<X.stamp
 env:∀t s v,lk X.env t=some (s,v)->s<X.stamp/\Dt X.roots X.next X.stamp v
 box:∀r s cs,lk X.roots r=some (s,.bx cs)->∀e∈cs,e.1<X.stamp/\Bj X.roots X.next X.stamp e.2
 fixle:X.fix<=X.next
structure Ext (X X':XSt):Prop where
 next:X.next<=X'.next
 stamp:X.stamp<=X'.stamp
 fix:X'.fix=X.fix
 roots:∀r s x,lk X'.roots r=some (s,x)->s<X.stamp->lk X.roots r=some (s,x)
 env:∀t s v,lk X'.env t=some (s,v)->s<X.stamp->lk X.env t=some (s,v)
 cells:∀r s cs,lk X'.roots r=some (s,.bx cs)->∀(c:Nat) (e:Nat×XC),cs[c]?= some e->e.1<X.stamp->∃s0 cs0,lk X.roots r=some (s0,.bx cs0)/\cs0[c]?= some e
def Ext.refl(X:XSt):Ext X X:=⟨AE _,AE _,rfl,λ_ _ _ h _=>h,λ_ _ _ h _=>h,λr s a h c e b _=>⟨s,a,h,b⟩⟩
def Ext.trans{X Y Z:XSt}(a:Ext X Y)(d:Ext Y Z):Ext X Z:=
 ⟨CW a.next d.next,CW a.stamp d.stamp,d.fix.trans a.fix,
  λr s x h b=>a.roots r s x (d.roots r s x h (CO b a.stamp)) b,
  λt s v h b=>a.env t s v (d.env t s v h (CO b a.stamp)) b,
  λr s i h c e k b=>by
  obtain⟨l,f,j,g⟩:=d.cells r s i h c e k (CO b a.stamp);exact a.cells r l f j c e g b⟩
def Bj.ext{R j:AK}{z f k g:Nat}(b:z<=f)(w:k<=g)(A:∀r s x,lk j r=some (s,x)->s<k->lk R r=some (s,x)){c:XC}(h:Bj R z k c):Bj j f g c:=by
 have e:∀{r v:Nat} {p:Ao},v<k->Dp j r v=true->Dp R r v=true/\D5 j r p=D5 R r p:=by
  intro r v p d h;obtain⟨x,y⟩:=Xi h;have u:=A r v x y d;exact⟨Lu u,by simp only[D5,y,u]⟩
 cases c with
 |rw r=>exact CO h b
 |rv r B n=>exact CO h b
 |pb r c=>exact CO h b
 |rf r v p B t C=>
  obtain⟨l,a,m⟩:=h;refine⟨CO l b,CO a w,λd=>?_⟩;obtain⟨o,q⟩:=e (p:=p) a d;rw[q];exact m o
 |pe r v p i c t x=>
  obtain⟨l,a,m⟩:=h;refine⟨CO l b,CO a w,λd=>?_⟩;obtain⟨o,q⟩:=e (p:=p) a d;rw[q];exact m o
 |_=>trivial
def Gw.ext{R e:AK}{j a d b:Nat}(f:j<=a)(i:d<=b)(g:∀r s x,lk e r=some (s,x)->s<d->lk R r=some (s,x)){c:XA}(h:Gw R j d c):Gw e a b c:=by
 cases c with
 |c x=>exact Bj.ext f i g h
 |ag l=>exact λc k=>Bj.ext f i g (h c k)
def Dt.ext{R l:AK}{m b k d:Nat}(e:m<=b)(j:k<=d)(i:∀r s x,lk l r=some (s,x)->s<k->lk R r=some (s,x)){c:XV}(h:Dt R m k c):Dt l b d c:=by
 cases c with
 |a x=>exact Gw.ext e j i h
 |tp p=>exact λc g=>Gw.ext e j i (h c g)
 |fn f o=>exact λc g=>Gw.ext e j i (h c g)
 |sb r n=>exact CO h e
 |_=>trivial
def Lh:C->XC
 |.lf (.int k z)=>match k with
  |.u8=>.y (u8 z)
  |k=>.i k z
 |.lf (.bool b)=>.b b
 |.lf (.string s)=>.s s.data.toList
 |.lf v=>.lf v
 |.nl a=>.nl a
 |_=>.un
def LO:C->Bool
 |.lf (.int k z)=>match k with
  |.u8=>decide (0<=z/\z<256)
  |_=>true
 |_=>true
def QA:V->XV
 |.a (.c x)=>match LO x with
  |true=>.a (.c (Lh x))
  |false=>.un
 |.a (.ag b)=>match b.all LO with
  |true=>.a (.ag (b.map Lh))
  |false=>.un
 |.fn f []=>.fn f []
 |_=>.un
def XSt.opd(X:XSt):Opd->XV
 |.t n=>match lk X.env n with
  |some (_,v)=>v
  |none=>.un
 |.k v=>QA v
def sX(R:AK){c:C}(h:LO c=true):Ba c (cC R (Lh c)):=by
 cases c with
 |lf v=>
  left;cases v with
  |int k z=>
   cases k<;>try rfl
   simp only[LO,AA]at h;simp only[Lh,cC,u8];congr 1;congr 1;rw[UInt8.toNat_ofNat',KH (by omega)];omega
  |string s=>rfl
  |_=>rfl
 |nl sz=>exact .inl rfl
 |_=>exact .inr rfl
def Wi(R:AK)(nx st:Nat)(c:C):Bj R nx st (Lh c):=by
 cases c with
 |lf v=>
  cases v with
  |int k z=>cases k<;>trivial
  |_=>trivial
 |_=>trivial
def Wj(R:AK):∀{a:List C},a.all LO=true->Ai Ba a ((a.map Lh).map (cC R))
 |[],_=>trivial
 |c::a,h=>by
  simp only[dk,A6]at h;exact⟨sX R h.1,Wj R h.2⟩
def Zkn(R:AK)(v:V):CZ v (cV R (QA v)):=by
 cases v with
 |a x=>cases x with
  |c x=>
   simp only[QA];split
   .rename_i h;exact sX R h
   trivial
  |ag b=>
   simp only[QA];split
   .rename_i h;exact Wj R h
   trivial
 |fn f b=>
  cases b with
  |nil=>exact⟨rfl,trivial⟩
  |cons _ _=>trivial
 |_=>trivial
def Zkm(R:AK)(b d:Nat)(v:V):Dt R b d (QA v):=by
 cases v with
 |a x=>cases x with
  |c x=>simp only[QA];split<;>first|exact Wi R b d x|trivial
  |ag e=>
   simp only[QA];split
   .intro c h;obtain⟨g,_,rfl⟩:=CC.1 h;exact Wi R b d g
   trivial
 |fn f e=>
  cases e with
  |nil=>intro x i;cases i
  |cons _ _=>trivial
 |_=>trivial
def HJ{X:XSt}{S:St}(h:SimX X S)(x:Opd):CZ (S.opd x) (cV X.roots (X.opd x)):=by
 cases x with
 |t n=>
  simp only[XSt.opd,St.opd];split
  .rename_i s v c;rcases h.env n s v c with rfl|⟨y,a,b⟩
   .simp[cV,CZ]
   rw[a];exact b
  simp[cV,CZ]
 |k v=>exact Zkn X.roots v
def Gy{X:XSt}(h:XOk X)(x:Opd):Dt X.roots X.next X.stamp (X.opd x):=by
 cases x with
 |t n=>
  simp only[XSt.opd];split
  .rename_i s v a;exact (h.env n s v a).2
  trivial
 |k v=>exact Zkm _ _ _ v
def BT{X:XSt}{S:St}(h:SimX X S){x:Opd}{c:XC}(d:X.opd x=.a (.c c))(b:cC X.roots c≠.un):S.opd x=.a (.c (cC X.roots c)):=by
 have:=HJ h x;rw[d]at this;exact this.c b
end Go.Vs
