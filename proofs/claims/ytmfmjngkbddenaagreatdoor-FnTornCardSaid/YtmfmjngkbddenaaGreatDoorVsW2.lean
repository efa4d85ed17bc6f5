import Derived.Deep.LoopGhost
import Derived.Orders
import Derived.IntWalk
import Derived.Test.YtmfmjngkbddenaaGreatDoorVsW1
set_option linter.all false
namespace Go.Vs
variable [Glb]
theorem Oz (E:List (Nat×V)):C0 [] E=E:=rfl
theorem V2:∀(ks:List (Nat×Af)) (env:List (Nat×V)) (t:Nat),get (C0 ks env) t=(get env t).map (V.map (A7 ks)):=by
 have A_id:∀x:A,A.map (fun c=>c) x=x:=by intro x;cases x<;>simp [A.map]
 have V_id:∀x:V,V.map (fun c=>c) x=x:=by
  intro x;have L_id:∀l:List A,l.map (A.map fun c=>c)=l:=fun l=>by induction l with
   | nil=>rfl
   | cons x l ih=>rw[Ke,A_id,ih]
  cases x<;>simp [V.map,A_id,L_id]
 have A_comp:∀(k1 k2:C->C) (x:A),A.map k2 (A.map k1 x)=A.map (fun c=>k2 (k1 c)) x:=by intro k1 k2 x;cases x<;>simp [A.map]
 have V_comp:∀(k1 k2:C->C) (x:V),(∀r c,k1 (.pb r c)=.pb r c)->V.map k2 (V.map k1 x)=V.map (fun c=>k2 (k1 c)) x:=by
  intro k1 k2 x h1;cases x<;>simp [V.map,A_comp,h1]
 have B0:∀(k:V->V) (env:List (Nat×V)) (t:Nat),get (env.map fun x=>(x.1,k x.2)) t=(get env t).map k:=by
  intro k env t
  induction env with
  | nil=>rfl
  | cons a env ih =>
   obtain⟨i,x⟩:=a;simp only[Ke,get];split
   ·rfl
   exact ih
 intro ks
 induction ks with
 | nil =>
  intro env t;have:V.map (A7 [])=fun x=>x:=by funext x;exact V_id x
  rw[this];cases hq:get env t<;>simp [C0,hq]
 | cons k ks ih =>
  intro env t;simp only[C0];rw[ih,B0];cases get env t with
  | none=>rfl
  | some x=>simp only[Kha];rw[V_comp _ _ _ fun _ _=>rfl];rfl
theorem AR.killed {pl pl':Pls}{nx nx':Nat}{k:C->C}(h:∀z u,CR pl nx z u->CR pl' nx' (k z) u){x:A}{v:Value}(hx:AR pl nx x v):AR pl' nx' (x.map k) v:=by
 have all:∀{cs:List C} {us:List Value},Ab (CR pl nx) cs us->Ab (CR pl' nx') (cs.map k) us:=by
  intro cs
  induction cs with
  | nil=>intro us h;cases us<;>exact h
  | cons c cs ih=>intro us hh;cases us with
   | nil=>exact hh.elim
   | cons u us=>exact⟨h _ _ hh.1,ih hh.2⟩
 cases x with
 | c c=>exact h _ _ hx
 | ag cs=>obtain⟨us,rfl,hu⟩:=hx;exact⟨us,rfl,all hu⟩
theorem VR.killed {pl pl':Pls}{nx nx':Nat}{k:C->C}(h:∀z u,CR pl nx z u->CR pl' nx' (k z) u){x:V}{v:Value}(hx:VR pl nx x v):VR pl' nx' (x.map k) v:=by
 have all:∀{cs:List C} {us:List Value},Ab (CR pl nx) cs us->Ab (CR pl' nx') (cs.map k) us:=by
  intro cs
  induction cs with
  | nil=>intro us h;cases us<;>exact h
  | cons c cs ih=>intro us hh;cases us with
   | nil=>exact hh.elim
   | cons u us=>exact⟨h _ _ hh.1,ih hh.2⟩
 have all':∀{cs:List A} {us:List Value},Ab (AR pl nx) cs us->Ab (AR pl' nx') (cs.map (A.map k)) us:=by
  intro cs
  induction cs with
  | nil=>intro us h;cases us<;>exact h
  | cons c cs ih=>intro us hh;cases us with
   | nil=>exact hh.elim
   | cons u us=>exact⟨AR.killed h hh.1,ih hh.2⟩
 cases x with
 | un=>trivial
 | a x=>exact AR.killed h hx
 | tp xs=>obtain⟨us,rfl,hu⟩:=hx;exact⟨us,rfl,all' hu⟩
 | fn f cs=>obtain⟨us,rfl,hu⟩:=hx;exact⟨us,rfl,all' hu⟩
 | sb r n =>
  obtain⟨hr,rfl⟩:=hx;have h1:=h (.pb r 0) (.pointer (some ⟨(pl r []).b,(pl r []).off+0,none⟩)) ⟨hr,rfl⟩;simp only[V.map];split
  ·rename_i r' hk;rw[hk]at h1;obtain⟨h2,h3⟩:=h1;simp only[Kga,Value.pointer.injEq,Ka]at h3;exact⟨h2,by rw[h3]⟩
  trivial
def Bs (d:Option Nat) (x:V) (env:List (Nat×V)):List (Nat×V) :=
 match d with
 | some d=>put env d x
 | none=>env
def evJ (P:Program) (S:St) (K:V->List (Nat×Af)->List (Nat×Root)->Nat->Prop):J->Prop
 | .rd i=>ev S (fun v=>K v [] S.roots S.next) i
 | .wr (.call f args)=>Zh P S f (args.map S.opd) K
 | .wr (.calv f args)=>∃g caps,S.opd f=.fn g caps/\Zd P g=true/\Zh P S g (args.map S.opd++caps.map .a) K
 | .wr j=>wr S K j
def Jv (P:Program) (g:GI) (S:St) (K:St->Prop):Prop :=
 match g.guard with
 | none=>evJ P S (fun x ks roots nx=>K ⟨Bs g.dst x (C0 ks S.env),roots,nx,S.fix⟩) g.op
 | some (t,want)=>match get S.env t with
  | some (.a (.c (.lf (.bool b))))=>(b=want->evJ P S (fun x ks roots nx=>K ⟨Bs g.dst x (C0 ks S.env),roots,nx,S.fix⟩) g.op)/\(b≠want->K ⟨Bs g.dst (.tp []) S.env,S.roots,S.next,S.fix⟩)
  | some (.tp _)=>K ⟨Bs g.dst (.tp []) S.env,S.roots,S.next,S.fix⟩
  | _=>False
def Ee (P:Program):List GI->St->(St->Prop)->Prop
 | [],S,K=>K S
 | g::l,S,K=>Jv P g S fun S'=>Ee P l S' K
def trJ (P:Program) (o:Oper):Option J :=
 match trR P o.type o.op with
 | some i=>some (.rd i)
 | none=>(trW P o.op).map .wr
def Np (P:Program) (N:Nat) (ops:Array Oper) (o:Oper):Option GI:=do
 let j <- trJ P o
 if o.dst.all (·<N) then
  match o.guard with
  | none=>some ⟨o.dst,j,none⟩
  | some (k,want) =>
   let t <- (ops[k]?).bind (·.dst)
   some ⟨o.dst,j,some (t,want)⟩
 else none
def Fu (P:Program) (N:Nat) (ops:Array Oper):List Oper->Option (List GI)
 | []=>some []
 | o::l=>do some ((<- Np P N ops o)::(<- Fu P N ops l))
variable {P:Program} {N:Nat} {w0:World} {own0:Nat->Nat->Prop} {pl0:Pls} {g:Lab} {pl:Pls} {S:St} {a:Act} {w:World}
theorem Rel.put (hR:Rel N w0 own0 pl0 g pl S a w){pl':Pls}{g':Lab}{roots:List (Nat×Root)}{nx:Nat}{w':World}{ks:List (Nat×Af)}{d:Option Nat}{x:V}{v:Value}(hd:d.all (·<N)=true) (hp:Hp w0 own0 pl0 g' pl' roots nx nx S.fix w')
  (hk:∀z u,CR pl S.next z u->CR pl' nx (A7 ks z) u) (hx:VR pl' nx x v):Rel N w0 own0 pl0 g' pl' ⟨Bs d x (C0 ks S.env),roots,nx,S.fix⟩ (a.put d v) w':=by
 have henv:∀t y,get (C0 ks S.env) t=some y->VR pl' nx y (a.tmps.getD t undef):=by
  intro t y hy;rw[V2]at hy;simp only[Ks]at hy;obtain⟨z,hz,rfl⟩:=hy;exact (hR.env t z hz).killed hk
 cases d with
 | none=>exact⟨hp,hR.size,hR.defers,henv⟩
 | some d =>
  simp only[Option.all_some,decide_eq_true_eq]at hd;refine⟨hp, ?_,hR.defers, ?_⟩
  ·simp [Act.put,hR.size]
  intro t y hy;simp only[Bs]at hy;rw[Ax]at hy;simp only[Act.put];split at hy
  ·rename_i e;subst e;simp only[Ka]at hy;subst hy;rw[Kab,Kvd (by rw[hR.size];exact hd)];exact hx
  rename_i e;rw[Kab,Kme e,<-Kab];exact henv t y hy
theorem Zix (hR:Rel N w0 own0 pl0 g pl S a w):∀(tys:List TypeId) (l:List Operand) (xs:List Opd),Jy P tys l=some xs->Ab (VR pl S.next) (xs.map S.opd) (l.map a.eval)
 | [],[],xs,h=>by simp only[Jy,Ka]at h;subst h;trivial
 | _::_,[],xs,h=>by simp only[Jy,Ka]at h;subst h;trivial
 | [],x::l,xs,h=>by
  simp only[Jy,Kl,Kg,Ka]at h;obtain⟨y,hy,ys,hys,rfl⟩:=h;exact⟨Bk hR hy,Zix hR [] l ys hys⟩
 | t::ts,x::l,xs,h=>by
  simp only[Jy,Kl,Kg,Ka]at h;obtain⟨y,hy,ys,hys,rfl⟩:=h;exact⟨Bk hR hy,Zix hR ts l ys hys⟩
def Next (N:Nat) (w0:World) (own0:Nat->Nat->Prop) (pl0:Pls) (fx:Nat) (K:St->Prop) (next:Act->World->Prop):Prop :=
 ∀S' g' pl' a' w',S'.fix=fx->K S'->Rel N w0 own0 pl0 g' pl' S' a' w'->next a' w'
theorem Uk {o:Oper}{s:Sem Value}{next:Act->World->Prop}{Q:Exit->Act->World->Prop}{K:V->List (Nat×Af)->List (Nat×Root)->Nat->Prop}(he:(execOp a.eval o)=do pure (.value (<- s))) (hw:N5 P w0 own0 pl0 pl S K s w)
  (hn:∀v w' x ks roots nx g' pl',VR pl' nx x v->Hp w0 own0 pl0 g' pl' roots nx nx S.fix w'->(∀z u,CR pl S.next z u->CR pl' nx (A7 ks z) u)->K x ks roots nx->next (a.put o.dst v) w'):o.wp P a w next Q:=by
 obtain⟨v,w',x,ks,roots,nx,g',pl',hr,hx,hp,hk,hK⟩:=hw;unfold Oper.wp;rw[he];simp only[Sem.run_bind,hr];exact hn v w' x ks roots nx g' pl' hx hp hk hK
def Zw5:W->Bool
 | .call _ _=>true
 | .calv _ _=>true
 | _=>false
theorem Zos (hR:Rel N w0 own0 pl0 g pl S a w){o:Oper}{j:J}(ht:trJ P o=some j){K:V->List (Nat×Af)->List (Nat×Root)->Nat->Prop}(h:evJ P S K j){next:Act->World->Prop}{Q:Exit->Act->World->Prop}
  (hn:∀v w' x ks roots nx g' pl',VR pl' nx x v->Hp w0 own0 pl0 g' pl' roots nx nx S.fix w'->(∀z u,CR pl S.next z u->CR pl' nx (A7 ks z) u)->K x ks roots nx->next (a.put o.dst v) w') :
  o.wp P a w next Q:=by
 unfold trJ at ht;split at ht
 ·rename_i i hi;simp only[Ka]at ht;subst ht;obtain⟨v,x,hr,hx,hK⟩:=Zu9 (K:=fun v=>K v [] S.roots S.next) hR hi h;unfold Oper.wp;rw[hr];exact hn v w x [] S.roots S.next g pl hx hR.hp (fun _ _ h=>h) hK
 simp only[Ks]at ht;obtain⟨j',hj,rfl⟩:=ht;obtain⟨dst,op,ty,pos,after,guard⟩:=o;have hun:(∀x:W,Zw5 x=true->j'≠x)->evJ P S K (.wr j')->wr S K j':=by
  intro hne hh;cases j'<;>first|exact hh|exact (hne _ rfl rfl).elim
 cases op with
 | alloc e =>
  refine Uk rfl (Yx4 hR hj (hun ?_ h)) hn;intro x hx e;subst e;simp only[trW,Kl,Kg,Ka]at hj;obtain⟨_,_,_,_,_,_,hj⟩:=hj;(subst hj;cases hx)
 | box e x =>
  refine Uk rfl (Yx6 hR hj (hun ?_ h)) hn;intro x hx e;subst e;simp only[trW,Ks]at hj;obtain⟨_,_,hj⟩:=hj;(subst hj;cases hx)
 | buildSlice t len parts =>
  refine Uk rfl (Yx8 hR hj (hun ?_ h)) hn;intro x hx e;subst e;simp only[trW]at hj;split at hj
  ·simp only[Kl,Kg]at hj;obtain⟨_,_,_,_,_,_,hj⟩:=hj;split at hj
   ·simp only[Kg,Ka]at hj;obtain⟨_,_,hj⟩:=hj;(subst hj;cases hx)
   simp at hj
  simp at hj
 | convert s d x =>
  refine Uk rfl (Yya hR hj (hun ?_ h)) hn;intro x hx e;subst e;simp only[trW,Kl,Kg]at hj;obtain⟨_,_,hj⟩:=hj;split at hj
  ·split at hj
   ·simp only[Ka]at hj;(subst hj;cases hx)
   simp at hj
  simp at hj
 | makeSlice t l c =>
  refine Uk rfl (Yx9 hR hj (hun ?_ h)) hn;intro x hx e;subst e;simp only[trW]at hj;split at hj
  ·simp only[Kl,Kg]at hj;obtain⟨_,_,_,_,_,_,hj⟩:=hj;split at hj
   ·simp only[Kg,Ka]at hj;obtain⟨_,_,_,_,hj⟩:=hj;(subst hj;cases hx)
   simp at hj
  simp at hj
 | store t x v =>
  have hne:∀x:W,Zw5 x=true->j'≠x:=by
   intro x hx e;subst e;simp only[trW,Kl,Kg,Ka]at hj;obtain⟨_,_,_,_,_,_,hj⟩:=hj;(subst hj;cases hx)
  obtain⟨w',ks,roots,nx,g',pl',hr,hp,hk,hK⟩:=Yvo hR hj (hun hne h);unfold Oper.wp;rw[show execOp a.eval ⟨dst,.store t x v,ty,pos,after,guard⟩=(do Instr.storeAt t (a.eval x) (a.eval v);pure .skip) from rfl];simp only[Sem.run_bind,hr];exact hn undef w' .un ks roots nx g' pl' trivial hp hk hK
 | call c =>
  obtain⟨callee,args,tys⟩:=c;cases callee with
  | builtin b =>
   cases b with
   | append =>
    refine Uk ?_ (Yx5 hR (ty:=ty) hj (hun ?_ h)) hn
    ·simp [execOp,resolve,invoke,builtin]
    intro x hx e;subst e;simp only[trW]at hj;split at hj
    ·split at hj
     ·simp only[Kl,Kg]at hj;obtain⟨_,_,_,_,_,_,hj⟩:=hj;split at hj
      ·simp only[Kg,Ka]at hj;obtain⟨_,_,_,_,hj⟩:=hj;(subst hj;cases hx)
      simp at hj
     ·simp only[Kl,Kg]at hj;obtain⟨_,_,_,_,_,_,hj⟩:=hj;split at hj
      ·simp only[Kg,Ka]at hj;obtain⟨_,_,_,_,hj⟩:=hj;(subst hj;cases hx)
      simp at hj
     simp at hj
    simp at hj
   | clear =>
    refine Uk ?_ (Yx7 hR (ty:=ty) hj (hun ?_ h)) hn
    ·simp [execOp,resolve,invoke,builtin]
    intro x hx e;subst e;simp only[trW]at hj;split at hj
    ·split at hj
     ·simp only[Kl,Kg]at hj;obtain⟨_,_,_,_,_,_,hj⟩:=hj;split at hj
      ·simp only[Kg,Ka]at hj;obtain⟨_,_,hj⟩:=hj;(subst hj;cases hx)
      simp at hj
     simp at hj
    simp at hj
   | _=>simp [trW]at hj
  | invoke r n=>simp [trW]at hj
  | value x =>
   cases x with
   | tmp t =>
    simp only[trW,Kl,Kg,Ka]at hj;obtain⟨xs,hxs,rfl⟩:=hj;obtain⟨g,caps,hfn,hbd,hc⟩:=h;have hcal:=Bk hR (P:=P) (ty:=0) (x:=.tmp t) (y:=.t t) rfl;rw[hfn]at hcal;obtain⟨cs,hcv,hcs⟩:=hcal;have hargs:Ab (VR pl S.next) (xs.map S.opd) (args.toList.map a.eval):=Zix hR _ _ _ hxs;have hall:Ab (VR pl S.next) (xs.map S.opd++caps.map .a) (args.toList.map a.eval++cs):=by
     refine Ab.append hargs ?_;have key:∀(l:List A) (us:List Value),Ab (AR pl S.next) l us->Ab (VR pl S.next) (l.map .a) us:=by
      intro l
      induction l with
      | nil=>intro us h;cases us<;>exact h
      | cons x l ih=>intro us h;cases us with
       | nil=>exact h.elim
       | cons u us=>exact⟨h.1,ih us h.2⟩
     exact key _ _ hcs
    have hca:=Zsd hR.hp hall hc;unfold Zd at hbd;split at hbd
    ·rename_i fn hf;simp only[Kd,bne_iff_ne,ne_eq]at hbd;unfold Oper.wp;have hrun:(execOp a.eval ⟨dst,.call ⟨.value (.tmp t),args,tys⟩,ty,pos,after,guard⟩).run P w=.ok (.enter g (args.map a.eval++cs.toArray)) w:=by
      cases hb2:fn.body with
      | none=>rw[hb2]at hbd;simp at hbd
      | some c=>simp [execOp,resolve,invoke,callFunc,Deferred.ofValue,hcv,hf,hbd.2,hb2]
     rw[hrun,Oper.upon_enter];rw[show args.map a.eval++cs.toArray=(args.toList.map a.eval++cs).toArray from (by apply Array.ext';simp)];refine Calls.mono hca ?_;rintro e w' ⟨rv,x,ks,roots,nx,g',pl',rfl,hx,hp,hk,hK⟩;exact hn rv w' x ks roots nx g' pl' hx hp hk hK
    simp at hbd
   | const v=>simp [trW]at hj
   | global v=>simp [trW]at hj
   | func f =>
    simp only[trW]at hj;split at hj
    ·rename_i fn hf;split at hj
     ·rename_i hcond;simp only[Ks]at hj;obtain⟨xs,hxs,rfl⟩:=hj;simp only[Kd,bne_iff_ne,ne_eq]at hcond;have hargs:Ab (VR pl S.next) (xs.map S.opd) (args.toList.map a.eval):=Zix hR _ _ _ hxs;have hc:=Zsd hR.hp hargs h;unfold Oper.wp;have hrun:(execOp a.eval ⟨dst,.call ⟨.value (.func f),args,tys⟩,ty,pos,after,guard⟩).run P w=.ok (.enter f (args.map a.eval)) w:=by
       cases hbd:fn.body with
       | none=>rw[hbd]at hcond;simp at hcond
       | some c=>simp [execOp,resolve,invoke,callFunc,Deferred.ofValue,Act.eval,hf,hcond.2,hbd]
      rw[hrun,Oper.upon_enter];rw[show args.map a.eval=(args.toList.map a.eval).toArray from (by apply Array.ext';simp)];refine Calls.mono hc ?_;rintro e w' ⟨rv,x,ks,roots,nx,g',pl',rfl,hx,hp,hk,hK⟩;exact hn rv w' x ks roots nx g' pl' hx hp hk hK
     simp at hj
    simp at hj
 | _=>simp [trW]at hj
theorem Yby (hR:Rel N w0 own0 pl0 g pl S a w){ops:Array Oper}{i:Nat}{o:Oper}{gi:GI}(ho:ops[i]? = some o) (ht:Np P N ops o=some gi){K:St->Prop}(h:Jv P gi S K){next:Act->World->Prop}{Q:Exit->Act->World->Prop}
  (hn:Next N w0 own0 pl0 S.fix K next):wpOp P ops Q i next a w:=by
 unfold wpOp;rw[ho];simp only;unfold Np at ht;simp only[Kl,Kg]at ht;obtain⟨j,hj,ht⟩:=ht;split at ht
 ·rename_i hd;have run:evJ P S (fun x ks roots nx=>K ⟨Bs o.dst x (C0 ks S.env),roots,nx,S.fix⟩) j->o.wp P a w next Q:=by
   intro h;refine Zos hR hj h ?_;intro v w' x ks roots nx g' pl' hx hp hk hK;exact hn ⟨Bs o.dst x (C0 ks S.env),roots,nx,S.fix⟩ g' pl' _ _ rfl hK (hR.put hd hp hk hx)
  have skip:K ⟨Bs o.dst (.tp []) S.env,S.roots,S.next,S.fix⟩->next (a.put o.dst undef) w:=by
   intro h;exact hn ⟨Bs o.dst (.tp []) S.env,S.roots,S.next,S.fix⟩ g pl _ _ rfl h (hR.put (ks:=[]) (x:=.tp []) hd hR.hp (fun _ _ h=>h) ⟨[],rfl,trivial⟩)
  split at ht
  ·rename_i hg;simp only[Ka]at ht;subst ht;rw[if_pos (by simp [Region.wanted,hg])];exact .inl (run h)
  rename_i k want hg;simp only[Kg,Ka]at ht;obtain⟨t,⟨ok,hok,hdk⟩,rfl⟩:=ht;simp only[Jv]at h;have hy:yielded ops a.tmps k=match a.tmps[t]? with|some (.bool b)=>some b|_=>none:=by
   unfold yielded;rw[hok];simp only[Kra,hdk];rfl
  split at h
  ·rename_i b hb;have hv:=hR.env t _ hb;have hvb:a.tmps.getD t undef=.bool b:=hv.1;have ht2:a.tmps[t]? = some (.bool b):=by
    rw[Kab]at hvb;cases hq:a.tmps[t]? with
    | none=>rw[hq]at hvb;simp [undef]at hvb
    | some u=>rw[hq]at hvb;simp at hvb;rw[hvb]
   by_cases hbw:b=want
   ·rw[if_pos (by simp [Region.wanted,hg,hy,ht2,hbw])];exact .inl (run (h.1 hbw))
   rw[if_neg (by simp [Region.wanted,hg,hy,ht2,hbw])];exact skip (h.2 hbw)
  ·rename_i xs hb;have hv:=hR.env t _ hb;obtain⟨vs,hvs,_⟩:=hv;have hw:Region.wanted o (yielded ops a.tmps)=false:=by
    simp only[Region.wanted,hg,hy];rw[Kab]at hvs;cases hq:a.tmps[t]? with
    | none=>simp
    | some u =>
     rw[hq]at hvs;simp only[Kub]at hvs;subst hvs;simp
   rw[if_neg (by rw[hw];simp)];exact skip h
  exact h.elim
 simp at ht
end Go.Vs
namespace Go.Vs
variable [Glb]
theorem Hp.next (h:∃x:Nat,x=0):True:=trivial
def PQ (N:Nat) (w0:World) (own0:Nat->Nat->Prop) (pl0:Pls) (fx:Nat) (Q:Exit->St->Prop) (e:Exit) (a:Act) (w:World):Prop :=
 ∃S' g' pl',Q e S'/\S'.fix=fx/\Rel N w0 own0 pl0 g' pl' S' a w
def Vw (P:Program) (N:Nat) (c:Code) (S:St) (Q:Exit->St->Prop):Prop :=
 ∀(w0:World) (own0:Nat->Nat->Prop) (pl0:Pls) (g:Lab) (pl:Pls) (a:Act) (w:World),Rel N w0 own0 pl0 g pl S a w->c.wp P (PQ N w0 own0 pl0 S.fix Q) a w
def E6 (next:St->Prop) (Q:Exit->St->Prop):Exit->St->Prop
 | .normal,S=>next S
 | e,S=>Q e S
def Gc (id:Nat) (Q:Exit->St->Prop):Exit->St->Prop
 | .exit id',S=>if id'=id then Q .normal S else Q (.exit id') S
 | e,S=>Q e S
def Le (S T:St):Prop:=T.fix=S.fix/\∀(N:Nat) (w0:World) (own0:Nat->Nat->Prop) (pl0:Pls) (g:Lab) (pl:Pls) (a:Act) (w:World),Rel N w0 own0 pl0 g pl S a w->∃g' pl',Rel N w0 own0 pl0 g' pl' T a w
variable {P:Program} {N:Nat} {S:St} {Q:Exit->St->Prop}
theorem Ydo {c:Code}{Q':Exit->St->Prop}(h:Vw P N c S Q) (hq:∀e S',Q e S'->Q' e S'):Vw P N c S Q':=fun w0 own0 pl0 g pl a w hR=>wp_mono (h w0 own0 pl0 g pl a w hR) fun e a w ⟨S',g',pl',q,r⟩=>⟨S',g',pl',hq _ _ q,r⟩
theorem Yxj (h:Q .normal S):Vw P N .skip S Q:=fun _ _ _ g pl _ _ hR=>wp_skip ⟨S,g,pl,h,rfl,hR⟩
theorem Yxd {id:Nat}(h:Q (.exit id) S):Vw P N (.exit id) S Q:=fun _ _ _ g pl _ _ hR=>wp_exit ⟨S,g,pl,h,rfl,hR⟩
theorem Yxh (h:Q .ret S):Vw P N .ret S Q:=fun _ _ _ g pl _ _ hR=>wp_ret ⟨S,g,pl,h,rfl,hR⟩
theorem Yxi {x y:Code}(h:Vw P N x S (E6 (fun S'=>Vw P N y S' Q) Q)):Vw P N (.seq x y) S Q:=fun w0 own0 pl0 g pl a w hR=>by
 refine wp_seq (wp_mono (h w0 own0 pl0 g pl a w hR) ?_);rintro e a' w' ⟨S',g',pl',q,hf,r⟩;cases e with
 | normal =>
  have:=q w0 own0 pl0 g' pl' a' w' r;rw[hf]at this;exact this
 | exit id=>exact⟨S',g',pl',q,hf,r⟩
 | goto l=>exact⟨S',g',pl',q,hf,r⟩
 | ret=>exact⟨S',g',pl',q,hf,r⟩
 | panic ch=>exact⟨S',g',pl',q,hf,r⟩
 | outgrown=>exact⟨S',g',pl',q,hf,r⟩
def tv:V->Option Bool
 | .a (.c (.lf (.bool b)))=>some b
 | _=>none
theorem Yxa {c:Operand}{x y:Code}{o:Opd}(hc:trO P 0 c=some o){b:Bool}(hb:tv (S.opd o)=some b) (ht:b=true->Vw P N x S Q) (hf:b=false->Vw P N y S Q):Vw P N (.cond c x y) S Q:=fun w0 own0 pl0 g pl a w hR=>by
 have hv:=Bk hR hc;have hvb:a.eval c=.bool b:=by
  unfold tv at hb;split at hb
  ·rename_i b' he;simp only[Ka]at hb;subst hb;rw[he]at hv;exact hv.1
  simp at hb
 refine wp_cond_split hvb (fun h=>ht h w0 own0 pl0 g pl a w hR) fun h=>hf h w0 own0 pl0 g pl a w hR
theorem Yw9 {id:Nat}{c:Code}(h:Vw P N c S (Gc id Q)):Vw P N (.block id c) S Q:=fun w0 own0 pl0 g pl a w hR=>by
 refine wp_block (wp_mono (h w0 own0 pl0 g pl a w hR) ?_);rintro e a' w' ⟨S',g',pl',q,hf,r⟩;cases e with
 | exit id' =>
  simp only[Exit.inBlock,Gc]at q ⊢;split
  ·rename_i h;rw[if_pos h]at q;exact⟨S',g',pl',q,hf,r⟩
  rename_i h;rw[if_neg h]at q;exact⟨S',g',pl',q,hf,r⟩
 | normal=>exact⟨S',g',pl',q,hf,r⟩
 | goto l=>exact⟨S',g',pl',q,hf,r⟩
 | ret=>exact⟨S',g',pl',q,hf,r⟩
 | panic ch=>exact⟨S',g',pl',q,hf,r⟩
 | outgrown=>exact⟨S',g',pl',q,hf,r⟩
theorem Yxe {c:Code}(I:Nat->St->Prop) (n:Nat) (h0:∃T,I n T/\Le S T) (hr:∀k T,T.fix=S.fix->I k T->Vw P N c T (E6 (fun S'=>∃k' T',k'<k/\I k' T'/\Le S' T') Q)):Vw P N (.loop c) S Q:=fun w0 own0 pl0 g pl a w hR=>by
 obtain⟨T,hT,hl⟩:=h0;obtain⟨g1,pl1,hR1⟩:=hl.2 N w0 own0 pl0 g pl a w hR;refine wp_loop_ghost (fun k a w=>∃T g pl,I k T/\T.fix=S.fix/\Rel N w0 own0 pl0 g pl T a w) n ⟨T,g1,pl1,hT,hl.1,hR1⟩ ?_;rintro k a w ⟨T,g,pl,hI,hf,hR⟩;refine wp_mono (hr k T hf hI w0 own0 pl0 g pl a w hR) ?_;rintro e a' w' ⟨S',g',pl',q,hf',r⟩;cases e with
 | normal =>
  obtain⟨k',T',hk,hI',hl'⟩:=q;obtain⟨g2,pl2,hR2⟩:=hl'.2 N w0 own0 pl0 g' pl' a' w' r;exact⟨k',hk,T',g2,pl2,hI',by rw[hl'.1,hf',hf],hR2⟩
 | exit id=>exact⟨S',g',pl',q,by rw[hf',hf],r⟩
 | goto l=>exact⟨S',g',pl',q,by rw[hf',hf],r⟩
 | ret=>exact⟨S',g',pl',q,by rw[hf',hf],r⟩
 | panic ch=>exact⟨S',g',pl',q,by rw[hf',hf],r⟩
 | outgrown=>exact⟨S',g',pl',q,by rw[hf',hf],r⟩
theorem Le.sub {T:St}(hn:T.next=S.next) (hf:T.fix=S.fix) (he:∀t x,get T.env t=some x->get S.env t=some x) (hr:∀r x,get T.roots r=some x->get S.roots r=some x):Le S T:=⟨hf,fun N w0 own0 pl0 g pl a w hR=>⟨g,pl,by
 obtain⟨h1,h2,h3,h4⟩:=hR;obtain⟨a1,a2,a3,a4,a5,a6⟩:=h1;refine⟨⟨a1, ?_, ?_, ?_, ?_, ?_⟩,h2,h3, ?_⟩
 ·rw[hn];exact a2
 ·rw[hf];exact a3
 ·rw[hf,hn];exact a4
 ·exact Kc _
 ·intro r x hx;rw[hn];exact a6 r x (hr r x hx)
 ·intro t x hx;rw[hn];exact h4 t x (he t x hx)⟩⟩
theorem Yai {ops:Array Oper}{w0:World}{own0:Nat->Nat->Prop}{pl0:Pls}{fx:Nat}:∀(l:List Oper) (k:Nat) (gis:List GI) (S:St) (g:Lab) (pl:Pls) (a:Act) (w:World),(∀j,l[j]? = ops[k+j]?)->Fu P N ops l=some gis->S.fix=fx->Rel N w0 own0 pl0 g pl S a w->Ee P gis S (Q .normal) ->
  wpOps P ops (PQ N w0 own0 pl0 fx Q) (List.range' k l.length) a w
 | [],k,gis,S,g,pl,a,w,_,ht,hf,hR,h=>by
  simp only[Fu,Ka]at ht;subst ht;exact⟨S,g,pl,h,hf,hR⟩
 | o::l,k,gis,S,g,pl,a,w,hl,ht,hf,hR,h=>by
  simp only[Fu,Kl,Kg,Ka]at ht;obtain⟨gi,hgi,gs,hgs,rfl⟩:=ht;simp only[Kf,Kmf];rw[wpOps_cons];have h0:ops[k]? = some o:=by simpa using (hl 0).symm
  refine Yby hR h0 hgi h ?_;intro S' g' pl' a' w' hf' hK hR';exact Yai l (k+1) gs S' g' pl' a' w' (fun j=>by have:=hl (j+1);simpa [Kgb,Nat.add_comm 1 j] using this) hgs (by rw[hf',hf]) hR' hK
theorem Yxf {id:Nat}{ops:Array Oper}{gis:List GI}(ht:Fu P N ops ops.toList=some gis) (h:Ee P gis S (Q .normal)):Vw P N (.region id ops false) S Q:=fun w0 own0 pl0 g pl a w hR=>by
 refine wp_region ?_;rw[List.range_eq_range',<-Ksb];exact Yai ops.toList 0 gis S g pl a w (by simp) ht rfl hR h
end Go.Vs
namespace Go.Vs
variable [Glb]
theorem Zfn {S : St} {K : V → Prop} {i : I} (h : ev S K i) : ∃ x, K x ∧ ∀ K' : V → Prop, K' x → ev S K' i := by
  cases i with
  | mv x => exact ⟨_, h, fun K' k => k⟩
  | pick c a b =>
    simp only [ev] at h ⊢;split at h
    · rename_i t heq
      cases t
      · exact ⟨_, h.2 rfl, fun K' k => ⟨fun e => by simp at e, fun _ => k⟩⟩
      exact ⟨_, h.1 rfl, fun K' k => ⟨fun _ => k, fun e => by simp at e⟩⟩
    exact h.elim
  | load n x =>
    cases n <;> simp only [ev] at h ⊢ <;> split at h <;> first
      | exact h.elim
      | (obtain ⟨d, e, h⟩ := h; exact ⟨_, h, fun K' k => ⟨d, e, k⟩⟩)
      | (obtain ⟨d, e, f, h⟩ := h; exact ⟨_, h, fun K' k => ⟨d, e, f, k⟩⟩)
  | nilc x =>
    simp only [ev] at h ⊢;split at h <;> first
      | exact h.elim
      | (exact ⟨_, h, fun K' k => k⟩)
  | bin op x y =>
    simp only [ev] at h ⊢;split at h <;> first
      | exact h.elim
      | (obtain ⟨d, e, h⟩ := h; exact ⟨_, h, fun K' k => ⟨d, e, k⟩⟩)
  | beq neg x y =>
    simp only [ev] at h ⊢;split at h <;> first
      | exact h.elim
      | exact ⟨_, h, fun K' k => k⟩
  | aeq neg m x y =>
    simp only [ev] at h ⊢;split at h <;> first
      | exact h.elim
      | (obtain ⟨us, vs, e1, e2, e3, e4, h⟩ := h; exact ⟨_, h, fun K' k => ⟨us, vs, e1, e2, e3, e4, k⟩⟩)
  | un op x =>
    simp only [ev] at h ⊢;split at h <;> first
      | exact h.elim
      | (obtain ⟨d, e, h⟩ := h; exact ⟨_, h, fun K' k => ⟨d, e, k⟩⟩)
  | conv kd x =>
    simp only [ev] at h ⊢;split at h <;> first
      | exact h.elim
      | (exact ⟨_, h, fun K' k => k⟩)
  | b2s x =>
    simp only [ev] at h ⊢;split at h <;> first
      | exact h.elim
      | (obtain ⟨d, e, h⟩ := h; exact ⟨_, h, fun K' k => ⟨d, e, k⟩⟩)
      | (exact ⟨_, h, fun K' k => k⟩)
  | slc z0 x lo hi =>
    simp only [ev] at h ⊢;split at h <;> first
      | exact h.elim
      | (obtain ⟨d, e, h⟩ := h; exact ⟨_, h, fun K' k => ⟨d, e, k⟩⟩)
      | (exact ⟨_, h, fun K' k => k⟩)
  | ssl x lo hi =>
    simp only [ev] at h ⊢;split at h <;> first
      | exact h.elim
      | (obtain ⟨e, h⟩ := h; exact ⟨_, h, fun K' k => ⟨e, k⟩⟩)
  | fld off n x =>
    cases n <;> simp only [ev] at h ⊢ <;> split at h <;> first
      | exact h.elim
      | (obtain ⟨d, e, h⟩ := h; exact ⟨_, h, fun K' k => ⟨d, e, k⟩⟩)
      | (obtain ⟨e, h⟩ := h; exact ⟨_, h, fun K' k => ⟨e, k⟩⟩)
  | fad off x =>
    simp only [ev] at h ⊢;split at h <;> first
      | exact h.elim
      | (exact ⟨_, h, fun K' k => k⟩)
  | iad sz x j =>
    simp only [ev] at h ⊢;split at h <;> first
      | exact h.elim
      | (obtain ⟨d, e, h⟩ := h; exact ⟨_, h, fun K' k => ⟨d, e, k⟩⟩)
  | iaa len sz x j =>
    simp only [ev] at h ⊢;split at h <;> first
      | exact h.elim
      | (obtain ⟨e, h⟩ := h; exact ⟨_, h, fun K' k => ⟨e, k⟩⟩)
  | idx x j =>
    simp only [ev] at h ⊢;split at h <;> first
      | exact h.elim
      | (obtain ⟨d, e, f, h⟩ := h; exact ⟨_, h, fun K' k => ⟨d, e, f, k⟩⟩)
  | ixa len n sz x j =>
    cases n <;> simp only [ev] at h ⊢ <;> first
      | exact h.elim
      | (split at h <;> first
          | exact h.elim
          | (obtain ⟨d, e, f, h⟩ := h; exact ⟨_, h, fun K' k => ⟨d, e, f, k⟩⟩))
  | ext n x =>
    simp only [ev] at h ⊢;split at h <;> first
      | exact h.elim
      | (obtain ⟨d, e, h⟩ := h; exact ⟨_, h, fun K' k => ⟨d, e, k⟩⟩)
  | len x =>
    simp only [ev] at h ⊢;split at h <;> first
      | exact h.elim
      | (exact ⟨_, h, fun K' k => k⟩)
  | sid x =>
    simp only [ev] at h ⊢;split at h <;> first
      | exact h.elim
      | (exact ⟨_, h, fun K' k => k⟩)
  | sln x =>
    simp only [ev] at h ⊢;split at h <;> first
      | exact h.elim
      | (exact ⟨_, h, fun K' k => k⟩)
  | build zero parts =>
    simp only [ev] at h ⊢;obtain ⟨d, e, h⟩ := h;exact ⟨_, h, fun K' k => ⟨d, e, k⟩⟩
  | mkf g caps =>
    simp only [ev] at h ⊢;obtain ⟨d, e, h⟩ := h;exact ⟨_, h, fun K' k => ⟨d, e, k⟩⟩
abbrev KW:=V->List (Nat×Af)->List (Nat×Root)->Nat->Prop
theorem Px {S:St}{K:KW}{j:W}(h:wr S K j):∃x ks r n,K x ks r n/\∀K':KW,K' x ks r n->wr S K' j:=by
 cases j with
 | alloc zero=>exact⟨_,_,_,_,h,fun K' k=>k⟩
 | box x =>
  simp only[wr]at h ⊢;obtain⟨d,e,h⟩:=h;exact⟨_,_,_,_,h,fun K' k=>⟨d,e,k⟩⟩
 | lit sz len zero parts =>
  simp only[wr]at h ⊢;rcases h with ⟨d,e,f,e2,h⟩|⟨d,e,h⟩
  ·exact⟨_,_,_,_,h,fun K' k=>.inl ⟨d,e,f,e2,k⟩⟩
  exact⟨_,_,_,_,h,fun K' k=>.inr ⟨d,e,k⟩⟩
 | store n x v =>
  simp only[wr]at h ⊢;split at h
  ·rename_i heq;obtain⟨a,b,c,d,e,f,h⟩:=h;exact⟨_,_,_,_,h,fun K' k=>⟨a,b,c,d,e,f,k⟩⟩
  ·rename_i heq;obtain⟨a,b,c,d,e,f,g,i,j,h⟩:=h;exact⟨_,_,_,_,h,fun K' k=>⟨a,b,c,d,e,f,g,i,j,k⟩⟩
  exact h.elim
 | s2b x =>
  simp only[wr]at h ⊢;split at h
  ·exact⟨_,_,_,_,h,fun K' k=>k⟩
  exact h.elim
 | mks sz bytes zero l c =>
  simp only[wr]at h ⊢;split at h
  ·rename_i h1 h2;obtain⟨a,b,c,d,e,h⟩:=h;exact⟨_,_,_,_,h,fun K' k=>⟨a,b,c,d,e,k⟩⟩
  exact h.elim
 | app sz bytes zero x y =>
  simp only[wr]at h ⊢;obtain⟨b,hb,hs,h⟩:=h;split at h
  ·rename_i heq;exact⟨_,_,_,_,h.2,fun K' k=>⟨b,hb,hs,h.1,k⟩⟩
  ·rename_i heq;obtain⟨a1,a2,a3,l,a4,a5,h|⟨s,e,hg,h⟩⟩:=h
   ·exact⟨_,_,_,_,h.2,fun K' k=>⟨b,hb,hs,a1,a2,a3,l,a4,a5,.inl ⟨h.1,k⟩⟩⟩
   exact⟨_,_,_,_,h,fun K' k=>⟨b,hb,hs,a1,a2,a3,l,a4,a5,.inr ⟨s,e,hg,k⟩⟩⟩
  exact h.elim
 | aps zero x y =>
  simp only[wr]at h ⊢;obtain⟨b,hb,hs,h⟩:=h;split at h
  ·rename_i heq;exact⟨_,_,_,_,h.2,fun K' k=>⟨b,hb,hs,h.1,k⟩⟩
  exact h.elim
 | clr sz zero x =>
  simp only[wr]at h ⊢;split at h
  ·obtain⟨a,es,b,c,h⟩:=h;exact⟨_,_,_,_,h,fun K' k=>⟨a,es,b,c,k⟩⟩
  ·exact⟨_,_,_,_,h,fun K' k=>k⟩
  exact h.elim
 | call f args=>exact h.elim
 | calv f args=>exact h.elim
theorem Zsc {P:Program}{S:St}{K:KW}{f:FuncId}{vs:List V}(h:Zh P S f vs K):∃x ks r n,K x ks r n/\∀K':KW,K' x ks r n->Zh P S f vs K':=by
 rcases h with ⟨as,out,hr,fl,hf,rt,ht,hn,hs,r1,h1,r2,h2,hK⟩|⟨av,res,hr,hs,hK⟩|⟨us,q,caps,e,as,out,hr,fl,hf,rt,ht,hn,hs,r1,h1,r2,h2,hK⟩|⟨c,d,tl,e,hm,hs,hK⟩
 ·exact⟨_,_,_,_,hK,fun K' k=>.inl ⟨as,out,hr,fl,hf,rt,ht,hn,hs,r1,h1,r2,h2,k⟩⟩
 ·exact⟨_,_,_,_,hK,fun K' k=>.inr (.inl ⟨av,res,hr,hs,k⟩)⟩
 ·exact⟨_,_,_,_,hK,fun K' k=>.inr (.inr (.inl ⟨us,q,caps,e,as,out,hr,fl,hf,rt,ht,hn,hs,r1,h1,r2,h2,k⟩))⟩
 exact⟨_,_,_,_,hK,fun K' k=>.inr (.inr (.inr ⟨c,d,tl,e,hm,hs,k⟩))⟩
theorem Zl8 {P:Program}{S:St}{K:KW}{j:J}(h:evJ P S K j):∃x ks r n,K x ks r n/\∀K':KW,K' x ks r n->evJ P S K' j:=by
 cases j with
 | rd i =>
  obtain⟨x,hx,hk⟩:=Zfn (K:=fun v=>K v [] S.roots S.next) h;exact⟨x,_,_,_,hx,fun K' k=>hk (fun v=>K' v [] S.roots S.next) k⟩
 | wr j =>
  cases j with
  | call f args =>
   exact Zsc h
  | alloc zero=>exact Px (j:=.alloc zero) h
  | box x=>exact Px (j:=.box x) h
  | lit sz len zero parts=>exact Px (j:=.lit sz len zero parts) h
  | store n x v=>exact Px (j:=.store n x v) h
  | s2b x=>exact Px (j:=.s2b x) h
  | mks sz bytes zero l c=>exact Px (j:=.mks sz bytes zero l c) h
  | app sz bytes zero x y=>exact Px (j:=.app sz bytes zero x y) h
  | aps zero x y=>exact Px (j:=.aps zero x y) h
  | clr sz zero x=>exact Px (j:=.clr sz zero x) h
  | calv f args =>
   obtain⟨g,caps,h1,h2,h3⟩:=h;obtain⟨x,ks,r,n,hK,k⟩:=Zsc h3;exact⟨x,ks,r,n,hK,fun K' hK'=>⟨g,caps,h1,h2,k K' hK'⟩⟩
def B4 (P:Program) (g:GI) (S:St) (K:KW):Prop :=
 match g.guard with
 | none=>evJ P S K g.op
 | some (t,want)=>match get S.env t with
  | some (.a (.c (.lf (.bool b))))=>(b=want->evJ P S K g.op)/\(b≠want->K (.tp []) [] S.roots S.next)
  | some (.tp _)=>K (.tp []) [] S.roots S.next
  | _=>False
theorem Zqm {P:Program}{g:GI}{S:St}{K:KW}(h:B4 P g S K):∃x ks r n,K x ks r n/\∀K':KW,K' x ks r n->B4 P g S K':=by
 unfold B4 at h ⊢;cases hg:g.guard with
 | none=>simp only[hg]at h ⊢;exact Zl8 h
 | some gw =>
  obtain⟨t,want⟩:=gw;simp only[hg]at h ⊢;split at h
  ·rename_i b heq;by_cases hb:b=want
   ·obtain⟨x,ks,r,n,h1,h2⟩:=Zl8 (h.1 hb);exact⟨x,ks,r,n,h1,fun K' k=>⟨fun _=>h2 K' k,fun e=>(e hb).elim⟩⟩
   exact⟨_,_,_,_,h.2 hb,fun K' k=>⟨fun e=>(hb e).elim,fun _=>k⟩⟩
  ·rename_i heq;exact⟨_,_,_,_,h,fun K' k=>k⟩
  exact h.elim
end Go.Vs
namespace Go.Vs
variable [Glb]
structure DI where
 gi:GI
 anc:List Nat
 w:Bool
 lo:Nat
 hi:Nat
 deriving Inhabited
abbrev Mem:=List (Nat×Root)×Nat
structure Pend where
 gi:GI
 E:List (Nat×V)
 x:V
 hi:Nat
def Bn (p:Nat->Bool):Nat->List (Option Nat×V)->List (Nat×V)
 | _,[]=>[]
 | i,(some d,x)::l=>if p i then (d,x)::Bn p (i+1) l else Bn p (i+1) l
 | i,(none,_)::l=>Bn p (i+1) l
def KsO (KS:Option (List (Nat×Af))) (ks:List (Nat×Af)) (i n:Nat) (anc:List Nat):Prop:=match KS with
 | none=>ks=[]
 | some k=>if i+1=n then ks=k/\∀b,b<i->b∈anc else ks=[]
theorem Yqg {k:List (Nat×Af)}{i n:Nat}{anc:List Nat}(h:i+1=n) (ha:∀b,b<i->b∈anc):KsO (some k) k i n anc:=by
 unfold KsO;simp only;rw[if_pos h];exact⟨trivial,ha⟩
theorem Yqh {k:List (Nat×Af)}{i n:Nat}{anc:List Nat}(h:i+1≠n):KsO (some k) [] i n anc:=by
 unfold KsO;simp only;rw[if_neg h];trivial
def Zz (KS:Option (List (Nat×Af))) (R:List (Option Nat×V)) (E:List (Nat×V)):List (Nat×V):=match KS with
 | none=>Bn (fun _=>true) 0 R++E
 | some k=>match R.getLast? with
  | some y=>Bs y.1 y.2 (C0 k (Bn (fun _=>true) 0 R.dropLast++E))
  | none=>E
def Lz (P:Program) (fix:Nat) (E0:Nat->List (Nat×V)):List DI->List (Option Nat×V)->List Mem->List Pend->(St->Prop)->Prop
 | [],D,m::_,_,K=>K ⟨Bn (fun _=>true) 0 D++E0 D.length,m.1,m.2,fix⟩
 | it::l,D,m::hist,pend,K =>
  B4 P it.gi ⟨Bn (fun j=>it.anc.contains j) 0 D++E0 D.length,m.1,m.2,fix⟩ fun x ks r n =>
   if it.w then (∀p∈pend,hist.length+1<=p.hi->B4 P p.gi ⟨p.E,r,n,fix⟩ fun x' _ _ _=>x'=p.x) /\
    ((ks=[]/\Lz P fix E0 l (D++[(it.gi.dst,x)]) ((r,n)::m::hist) pend K)\/(l=[]/\(∀b,b<D.length->b∈it.anc)/\K ⟨Bs it.gi.dst x (C0 ks (Bn (fun _=>true) 0 D++E0 (D.length+1))),r,n,fix⟩))
   else (∀mm∈hist.take (hist.length-it.lo),B4 P it.gi ⟨Bn (fun j=>it.anc.contains j) 0 D++E0 D.length,mm.1,mm.2,fix⟩ fun x' _ _ _=>x'=x) /\
    Lz P fix E0 l (D++[(it.gi.dst,x)]) (m::hist) (if hist.length<it.hi then ⟨it.gi,Bn (fun j=>it.anc.contains j) 0 D++E0 D.length,x,it.hi⟩::pend else pend) K
 | _,_,[],_,_=>False
def nW:List DI->Nat
 | []=>0
 | it::l=>(if it.w then 1 else 0)+nW l
theorem Zl4 (p:Nat->Bool):∀(D R:List (Option Nat×V)) (i:Nat),Bn p i (D++R)=Bn p i D++Bn p (i+D.length) R
 | [],R,i=>rfl
 | (some d,x)::D,R,i=>by
  simp only[Kn,Bn,Zl4 p D R (i+1),Kf];rw[show i+1+D.length=i+(D.length+1) by omega];split<;>rfl
 | (none,x)::D,R,i=>by
  simp only[Kn,Bn,Zl4 p D R (i+1),Kf];rw[show i+1+D.length=i+(D.length+1) by omega]
theorem Zl5 (p:Nat->Bool):∀(R:List (Option Nat×V)) (i:Nat),(∀j,i<=j->p j=false)->Bn p i R=[]
 | [],i,_=>rfl
 | (some d,x)::R,i,h=>by simp only[Bn];rw[h i (Kc _)];simp;exact Zl5 p R (i+1) fun j hj=>h j (by omega)
 | (none,x)::R,i,h=>Zl5 p R (i+1) fun j hj=>h j (by omega)
theorem Zqn {P:Program}{g:GI}{S:St}{K K':KW}(h:B4 P g S K) (hk:∀x ks r n,K x ks r n->K' x ks r n):B4 P g S K':=by
 obtain⟨x,ks,r,n,h1,h2⟩:=Zqm h;exact h2 K' (hk _ _ _ _ h1)
structure Drawn (P:Program) (fix:Nat) (E0:Nat->List (Nat×V)) (its:List DI) (k0:Nat) (D:List (Option Nat×V)) (R:List (Option Nat×V)) (M:List Mem) (KS:Option (List (Nat×Af))):Prop where
 len:R.length=its.length
 dst:∀(j:Nat) (it:DI) (y:Option Nat×V),its[j]? = some it->R[j]? = some y->y.1=it.gi.dst
 mlen:M.length=k0+nW its+1
 rd:∀(j:Nat) (it:DI) (y:Option Nat×V),its[j]? = some it->R[j]? = some y->it.w=false->∀(k:Nat) (mm:Mem),it.lo<=k->k<=it.hi->M[k]? = some mm->B4 P it.gi ⟨Bn (fun j=>it.anc.contains j) 0 (D++R)++E0 (D.length+j),mm.1,mm.2,fix⟩ fun x' _ _ _=>x'=y.2
 wr:∀(j:Nat) (it:DI) (y:Option Nat×V),its[j]? = some it->R[j]? = some y->it.w=true->∀(mm mm':Mem),M[k0+nW (its.take j)]? = some mm->M[k0+nW (its.take j)+1]? = some mm'->B4 P it.gi ⟨Bn (fun j=>it.anc.contains j) 0 (D++R)++E0 (D.length+j),mm.1,mm.2,fix⟩ fun x' ks r n=>x'=y.2/\KsO KS ks (D.length+j) (D.length+its.length) it.anc/\r=mm'.1/\n=mm'.2
theorem Zfc {P:Program}{fix:Nat}{E0:Nat->List (Nat×V)}{K:St->Prop}:∀(its:List DI) (D:List (Option Nat×V)) (m:Mem) (hist:List Mem) (pend:List Pend),(∀(j:Nat) (it:DI),its[j]? = some it->∀a∈it.anc,a<D.length+j)->Lz P fix E0 its D (m::hist) pend K ->
  ∃R ms KS,Drawn P fix E0 its hist.length D R (hist.reverse++m::ms) KS/\(∀k,KS=some k->∃it,its[its.length-1]? = some it/\it.w=true)/\(∀p∈pend,∀(k:Nat) (mm:Mem),hist.length+1<=k->k<=p.hi->(hist.reverse++m::ms)[k]? = some mm->B4 P p.gi ⟨p.E,mm.1,mm.2,fix⟩ fun x' _ _ _=>x'=p.x) /\
   ∃mm:Mem,(hist.reverse++m::ms)[hist.length+nW its]? = some mm/\K ⟨Zz KS (D++R) (E0 (D++R).length),mm.1,mm.2,fix⟩
 | [],D,m,hist,pend,_,h=>by
  refine⟨[],[],none,⟨rfl,by simp,by simp [nW],by simp,by simp⟩,(fun k hk=>by cases hk), ?_,m,by simp [nW],by simpa [Lz,Zz] using h⟩;intro p hp k mm hk _ hmm;rw[Kjc (by simp;omega)]at hmm;simp at hmm
 | it::its,D,m,hist,pend,hanc,h=>by
  simp only[Lz]at h;obtain⟨x,ks,r,n,h1,hall⟩:=Zqm h;have hE:∀R:List (Option Nat×V),Bn (fun j=>it.anc.contains j) 0 (D++R)=Bn (fun j=>it.anc.contains j) 0 D:=by
   intro R;rw[Zl4,Zl5 _ R _ ?_,Kw];intro j hj;have hno:j ∉ it.anc:=fun hm=>by have:=hanc 0 it rfl j hm;omega
   simpa using hno
  have hanc':∀j it',its[j]? = some it'->∀a∈it'.anc,a<(D++[(it.gi.dst,x)]).length+j:=by
   intro j it' hj a ha;have:=hanc (j+1) it' (by simpa using hj) a ha;simp;omega
  have hle:∀j:Nat,(D++[(it.gi.dst,x)]).length+j=D.length+(j+1):=fun j=>by simp;omega
  have hDR:∀R,D++(it.gi.dst,x)::R=D++[(it.gi.dst,x)]++R:=fun R=>by simp
  cases hw:it.w with
  | true =>
   rw[hw]at h1;simp only[if_true]at h1;obtain⟨hp,⟨hks,hgo⟩|⟨hks,hba,hgo⟩⟩:=h1
   case inr =>
    subst hks;refine⟨[(it.gi.dst,x)],[(r,n)],some ks,⟨rfl, ?_, ?_, ?_, ?_⟩,(fun k _=>⟨it,rfl,hw⟩), ?_,(r,n), ?_, ?_⟩
    ·intro j it' y hj hy;cases j with
     | zero=>simp at hj hy;subst hj hy;rfl
     | succ j=>simp at hj
    ·simp [nW,hw]
    ·intro j it' y hj hy hw' k mm hlo hhi hk;cases j with
     | zero=>simp at hj;subst hj;rw[hw]at hw';simp at hw'
     | succ j=>simp at hj
    ·intro j it' y hj hy hw' mm mm' hk hk';cases j with
     | zero =>
      simp at hj hy;subst hj hy;simp only[Kza,nW,Kga]at hk hk';have e1:mm=m:=by rw[Kia (by simp)]at hk;simpa using hk.symm
      have e2:mm'=(r,n):=by rw[Kia (by simp)]at hk';simpa using hk'.symm
      subst e1 e2;rw[hE];refine hall _ ⟨rfl, ?_,rfl,rfl⟩;exact Yqg (by simp) hba
     | succ j=>simp at hj
    ·intro p hpp k mm hk hki hmm;by_cases hk1:k=hist.length+1
     ·subst hk1;have e2:mm=(r,n):=by rw[Kia (by simp)]at hmm;simpa using hmm.symm
      subst e2;exact hp p hpp hki
     rw[Kjc (by simp;omega)]at hmm;simp at hmm
    ·rw[Kia (by simp)];simp [nW,hw]
    simpa [Zz] using hgo
   subst hks;obtain⟨R,ms,KS,hd,hKS,hpe,mm,hmm,hK⟩:=Zfc its _ (r,n) (m::hist) pend hanc' hgo;have hM:(m::hist).reverse++(r,n)::ms=hist.reverse++m::(r,n)::ms:=by simp
   rw[hM]at hd hpe hmm;have hnW:nW (it::its)=1+nW its:=by simp [nW,hw]
   have hKS':∀k,KS=some k->∃it',(it::its)[(it::its).length-1]? = some it'/\it'.w=true:=by
    intro k hk;obtain⟨it',h1,h2⟩:=hKS k hk;cases its with
    | nil=>simp at h1
    | cons x its=>exact⟨it',by simpa using h1,h2⟩
   refine⟨(it.gi.dst,x)::R,(r,n)::ms,KS,⟨by simp [hd.len], ?_, ?_, ?_, ?_⟩,hKS', ?_,mm, ?_,by rw[hDR];exact hK⟩
   ·intro j it' y hj hy;cases j with
    | zero=>simp at hj hy;subst hj hy;rfl
    | succ j=>exact hd.dst j it' y (by simpa using hj) (by simpa using hy)
   ·rw[hd.mlen,hnW];simp only[Kf];omega
   ·intro j it' y hj hy hw' k mm hlo hhi hk;cases j with
    | zero=>simp at hj;subst hj;rw[hw]at hw';simp at hw'
    | succ j =>
     rw[hDR,<-hle j];exact hd.rd j it' y (by simpa using hj) (by simpa using hy) hw' k mm hlo hhi hk
   ·intro j it' y hj hy hw' mm mm' hk hk';cases j with
    | zero =>
     simp at hj hy;subst hj hy;simp only[Kza,nW,Kga]at hk hk';have e1:mm=m:=by rw[Kia (by simp)]at hk;simpa using hk.symm
     have e2:mm'=(r,n):=by rw[Kia (by simp)]at hk';simpa using hk'.symm
     subst e1 e2;rw[hE];refine hall _ ⟨rfl, ?_,rfl,rfl⟩;cases KS with
     | none=>rfl
     | some k =>
      obtain⟨it',h1,h2⟩:=hKS k rfl;exact Yqh fun e=>by
       have:its.length=0:=by simp only[Kf]at e;omega
       have:=Knf this;subst this;simp at h1
    | succ j =>
     rw[hDR,<-hle j];simp only[Khb,nW,hw,if_true]at hk hk';refine Zqn (hd.wr j it' y (by simpa using hj) (by simpa using hy) hw' mm mm' (by rw[<-hk];congr 1;simp only[Kf];omega) (by rw[<-hk'];congr 1;simp only[Kf];omega)) ?_;rintro x' ks' r' n' ⟨f1,f2,f3,f4⟩;exact⟨f1,by rw[show (D++[(it.gi.dst,x)]).length+its.length=D.length+(it::its).length by simp;omega]at f2;exact f2,f3,f4⟩
   ·intro p hpp k mm hk hki hmm;by_cases hk1:k=hist.length+1
    ·subst hk1;have e2:mm=(r,n):=by rw[Kia (by simp)]at hmm;simpa using hmm.symm
     subst e2;exact hp p hpp hki
    exact hpe p hpp k mm (by simp only[Kf];omega) hki hmm
   rw[hnW,<-hmm];congr 1;simp only[Kf];omega
  | false =>
   rw[hw]at h1;simp only[Kka,if_false]at h1;obtain⟨hot,hgo⟩:=h1;obtain⟨R,ms,KS,hd,hKS,hpe,mm,hmm,hK⟩:=Zfc its _ m hist _ hanc' hgo;have hnW:nW (it::its)=nW its:=by simp [nW,hw]
   have hKS':∀k,KS=some k->∃it',(it::its)[(it::its).length-1]? = some it'/\it'.w=true:=by
    intro k hk;obtain⟨it',h1,h2⟩:=hKS k hk;cases its with
    | nil=>simp at h1
    | cons x its=>exact⟨it',by simpa using h1,h2⟩
   refine⟨(it.gi.dst,x)::R,ms,KS,⟨by simp [hd.len], ?_, ?_, ?_, ?_⟩,hKS', ?_,mm, ?_,by rw[hDR];exact hK⟩
   ·intro j it' y hj hy;cases j with
    | zero=>simp at hj hy;subst hj hy;rfl
    | succ j=>exact hd.dst j it' y (by simpa using hj) (by simpa using hy)
   ·rw[hd.mlen,hnW]
   ·intro j it' y hj hy hw' k mm hlo hhi hk;cases j with
    | zero =>
     simp at hj hy;subst hj hy;rw[hE];rcases Kdg k hist.length with hlt|heq|hgt
     ·rw[Ksa (by simpa using hlt),List.getElem?_reverse hlt]at hk;refine hot mm ?_;refine Kaa (i:=hist.length-1-k) ?_;rw[Kwa,if_pos (by omega)];exact hk
     ·subst heq;have e1:mm=m:=by rw[Kia (by simp)]at hk;simpa using hk.symm
      subst e1;exact hall _ rfl
     have:=hpe ⟨it.gi,Bn (fun j=>it.anc.contains j) 0 D++E0 D.length,x,it.hi⟩ (by rw[if_pos (by omega)];simp) k mm (by omega) hhi hk;exact this
    | succ j =>
     rw[hDR,<-hle j];exact hd.rd j it' y (by simpa using hj) (by simpa using hy) hw' k mm hlo hhi hk
   ·intro j it' y hj hy hw' mm mm' hk hk';cases j with
    | zero=>simp at hj;subst hj;rw[hw]at hw';simp at hw'
    | succ j =>
     rw[hDR,<-hle j];simp only[Khb,nW,hw,Kka,if_false,Kr]at hk hk';refine Zqn (hd.wr j it' y (by simpa using hj) (by simpa using hy) hw' mm mm' hk hk') ?_;rintro x' ks' r' n' ⟨f1,f2,f3,f4⟩;exact⟨f1,by rw[show (D++[(it.gi.dst,x)]).length+its.length=D.length+(it::its).length by simp;omega]at f2;exact f2,f3,f4⟩
   ·intro p hpp k mm hk hki hmm;exact hpe p (by split<;>simp [hpp]) k mm hk hki hmm
   rw[hnW];exact hmm
end Go.Vs
namespace Go.Vs
variable [Glb]
theorem Rel.sub {N:Nat}{w0:World}{own0:Nat->Nat->Prop}{pl0:Pls}{g:Lab}{pl:Pls}{S:St}{a:Act}{w:World}(hR:Rel N w0 own0 pl0 g pl S a w){env:List (Nat×V)}(he:∀t x,get env t=some x->get S.env t=some x):Rel N w0 own0 pl0 g pl ⟨env,S.roots,S.next,S.fix⟩ a w :=
 ⟨hR.hp,hR.size,hR.defers,fun t x hx=>hR.env t x (he t x hx)⟩
variable {P:Program} {N:Nat} {w0:World} {own0:Nat->Nat->Prop} {pl0:Pls} {g:Lab} {pl:Pls} {S:St} {a:Act} {w:World}
theorem Yb0 (hR:Rel N w0 own0 pl0 g pl S a w){ops:Array Oper}{i:Nat}{o:Oper}{gi:GI}(ho:ops[i]? = some o) (ht:Np P N ops o=some gi){K:KW}(h:B4 P gi S K){next:Act->World->Prop}{Q:Exit->Act->World->Prop}
  (hn:∀v w' x ks roots nx g' pl',VR pl' nx x v->Hp w0 own0 pl0 g' pl' roots nx nx S.fix w'->(∀z u,CR pl S.next z u->CR pl' nx (A7 ks z) u)->K x ks roots nx->next (a.put gi.dst v) w'):wpOp P ops Q i next a w:=by
 unfold wpOp;rw[ho];simp only;unfold Np at ht;simp only[Kl,Kg]at ht;obtain⟨j,hj,ht⟩:=ht;split at ht
 ·rename_i hd;split at ht
  ·rename_i hg;simp only[Ka]at ht;subst ht;rw[if_pos (by simp [Region.wanted,hg])];exact .inl (Zos hR hj h hn)
  rename_i k want hg;simp only[Kg,Ka]at ht;obtain⟨t,⟨ok,hok,hdk⟩,rfl⟩:=ht;simp only[B4]at h;have skip:K (.tp []) [] S.roots S.next->next (a.put o.dst undef) w:=fun h=>hn undef w (.tp []) [] S.roots S.next g pl ⟨[],rfl,trivial⟩ hR.hp (fun _ _ h=>h) h;have hy:yielded ops a.tmps k=match a.tmps[t]? with|some (.bool b)=>some b|_=>none:=by
   unfold yielded;rw[hok];simp only[Kra,hdk];rfl
  split at h
  ·rename_i b hb;have hv:=hR.env t _ hb;have hvb:a.tmps.getD t undef=.bool b:=hv.1;have ht2:a.tmps[t]? = some (.bool b):=by
    rw[Kab]at hvb;cases hq:a.tmps[t]? with
    | none=>rw[hq]at hvb;simp [undef]at hvb
    | some u=>rw[hq]at hvb;simp at hvb;rw[hvb]
   by_cases hbw:b=want
   ·rw[if_pos (by simp [Region.wanted,hg,hy,ht2,hbw])];exact .inl (Zos hR hj (h.1 hbw) hn)
   rw[if_neg (by simp [Region.wanted,hg,hy,ht2,hbw])];exact skip (h.2 hbw)
  ·rename_i xs hb;have hv:=hR.env t _ hb;obtain⟨vs,hvs,_⟩:=hv;have hw:Region.wanted o (yielded ops a.tmps)=false:=by
    simp only[Region.wanted,hg,hy];rw[Kab]at hvs;cases hq:a.tmps[t]? with
    | none=>simp
    | some u =>
     rw[hq]at hvs;simp only[Kub]at hvs;subst hvs;simp
   rw[if_neg (by rw[hw];simp)];exact skip h
  exact h.elim
 simp at ht
theorem Ydj {ops:Array Oper}{o:Oper}{gi:GI}(ht:Np P N ops o=some gi):gi.dst.all (·<N)=true:=by
 unfold Np at ht;simp only[Kl,Kg]at ht;obtain⟨j,hj,ht⟩:=ht;split at ht
 ·rename_i hd;split at ht
  ·simp only[Ka]at ht;subst ht;exact hd
  simp only[Kg,Ka]at ht;obtain⟨t,_,rfl⟩:=ht;exact hd
 simp at ht
theorem Zh7 {p:Nat->Bool}{E0:List (Nat×V)}{t:Nat}{y:V}:∀{R:List (Option Nat×V)}{i:Nat},get (Bn p i R++E0) t=some y->(∃j,R[j]? = some (some t,y)/\p (i+j)=true)\/get E0 t=some y
 | [],i,h=>.inr h
 | (some d,x)::R,i,h=>by
  have key:get (Bn p (i+1) R++E0) t=some y->(∃j,((some d,x)::R)[j]? = some (some t,y)/\p (i+j)=true)\/get E0 t=some y:=fun h=>by
   rcases Zh7 h with ⟨j,h1,h2⟩|h
   ·exact .inl ⟨j+1,by simpa using h1,by rw[show i+(j+1)=i+1+j by omega];exact h2⟩
   exact .inr h
  simp only[Bn]at h;split at h
  ·rename_i hp;simp only[Kn,get]at h;split at h
   ·rename_i e;subst e;simp only[Ka]at h;subst h;exact .inl ⟨0,rfl,hp⟩
   exact key h
  exact key h
 | (none,x)::R,i,h=>by
  simp only[Bn]at h;rcases Zh7 h with ⟨j,h1,h2⟩|h
  ·exact .inl ⟨j+1,by simpa using h1,by rw[show i+(j+1)=i+1+j by omega];exact h2⟩
  exact .inr h
theorem Zgt:∀(l r:List DI),nW (l++r)=nW l+nW r
 | [],r=>by simp [nW]
 | x::l,r=>by simp only[Kn,nW,Zgt l r];omega
theorem Zgu {its:List DI}{i:Nat}{it:DI}(h:its[i]? = some it):nW (its.take (i+1))=nW (its.take i)+if it.w then 1 else 0:=by
 rw[Kne,h,Zgt];simp [nW]
theorem Yry (its:List DI) (i j:Nat) (h:i<=j):nW (its.take i)<=nW (its.take j):=by
 have:its.take j=its.take i++(its.drop i).take (j-i):=by rw[<-List.take_add];congr 1;omega
 rw[this,Zgt];omega
theorem Yrx (its:List DI) (i:Nat):nW (its.take i)<=nW its:=by
 have:nW its=nW (its.take i)+nW (its.drop i):=by rw[<-Zgt,Knc]
 omega
theorem Zhf (its:List DI):∀(i r:Nat),r<nW (its.take i)->∃i' it',i'<i/\its[i']? = some it'/\it'.w=true/\nW (its.take i')=r
 | 0,r,h=>by simp [nW]at h
 | i+1,r,h=>by
  cases hi:its[i]? with
  | none =>
   have e:its.take (i+1)=its.take i:=by
    rw[Kib (by have:=Koe.1 hi;omega),Kib (Koe.1 hi)]
   rw[e]at h;obtain⟨i',it',h1,h2⟩:=Zhf its i r h;exact⟨i',it',by omega,h2⟩
  | some it =>
   rw[Zgu hi]at h;by_cases hlt:r<nW (its.take i)
   ·obtain⟨i',it',h1,h2⟩:=Zhf its i r hlt;exact⟨i',it',by omega,h2⟩
   cases hw:it.w with
   | false=>rw[hw]at h;simp at h;omega
   | true=>rw[hw]at h;simp at h;exact⟨i,it,by omega,hi,hw,by omega⟩
theorem Zzl {its:List DI}{i j:Nat}{it:DI}(hi:its[i]? = some it) (hw:it.w=true) (h:i<j):nW (its.take i)<nW (its.take j):=by
 have:=Zgu hi;rw[hw]at this;simp at this;have:=Yry its (i+1) j (by omega);omega
end Go.Vs
namespace Go.Vs
variable [Glb]
theorem T9 {p:Nat->Bool}{E:List (Nat×V)}{t:Nat}:∀{R:List (Option Nat×V)}{i:Nat},(∀j z,R[j]? = some (some t,z)->p (i+j)=false)->get (Bn p i R++E) t=get E t
 | [],i,_=>rfl
 | (some d,x)::R,i,h=>by
  have ih:=T9 (p:=p) (E:=E) (t:=t) (R:=R) (i:=i+1) fun j z hj=>by
   have:=h (j+1) z (by simpa using hj);rwa [show i+1+j=i+(j+1) by omega]
  simp only[Bn];split
  ·rename_i hp;have hd:d≠t:=fun e=>by subst e;have:=h 0 x rfl;rw[Kga,hp]at this;cases this
   simp only[Kn,get];rw[if_neg hd];exact ih
  exact ih
 | (none,x)::R,i,h=>by
  simp only[Bn];exact T9 fun j z hj=>by have:=h (j+1) z (by simpa using hj);rwa [show i+1+j=i+(j+1) by omega]
theorem Ua {p:Nat->Bool}{E:List (Nat×V)}{t:Nat}{y:V}:∀{R:List (Option Nat×V)}{i:Nat},((R.filterMap (·.1)).Nodup)->(∃j,R[j]? = some (some t,y)/\p (i+j)=true)->get (Bn p i R++E) t=some y
 | [],i,_,⟨j,h1,_⟩=>by simp at h1
 | (some d,x)::R,i,hn,⟨j,h1,h2⟩=>by
  simp only[Kwd (f:=fun x:Option Nat×V=>x.1) (a:=(some d,x)) (b:=d) rfl,Kta]at hn;cases j with
  | zero =>
   simp only[Kv,Ka,Kb]at h1;obtain⟨rfl,rfl⟩:=h1;simp only[Bn];rw[if_pos (by simpa using h2)];simp [get]
  | succ j =>
   have hj:R[j]? = some (some t,y):=by simpa using h1
   have ih:=Ua (p:=p) (E:=E) (R:=R) (i:=i+1) hn.2 ⟨j,hj,by rw[show i+1+j=i+(j+1) by omega];exact h2⟩;have hd:d≠t:=fun e=>hn.1 (by rw[Kxd];exact⟨(some t,y),Kaa hj,by rw[e]⟩);simp only[Bn];split
   ·simp only[Kn,get];rw[if_neg hd];exact ih
   exact ih
 | (none,x)::R,i,hn,⟨j,h1,h2⟩=>by
  simp only[Kof (f:=fun x:Option Nat×V=>x.1) (a:=(none,x)) rfl]at hn;simp only[Bn];cases j with
  | zero=>simp at h1
  | succ j=>exact Ua hn ⟨j,by simpa using h1,by rw[show i+1+j=i+(j+1) by omega];exact h2⟩
theorem Zh8 {p:Nat->Bool}{E:List (Nat×V)}{t:Nat}{y:V}{R:List (Option Nat×V)}{i:Nat}(hn:(R.filterMap (·.1)).Nodup) (h:get (Bn p i R++E) t=some y):(∃j,R[j]? = some (some t,y)/\p (i+j)=true)\/((∀j z,R[j]? = some (some t,z)->p (i+j)=false)/\get E t=some y):=by
 by_cases hh:∃j z,R[j]? = some (some t,z)/\p (i+j)=true
 ·obtain⟨j,z,h1,h2⟩:=hh;have:=Ua (E:=E) hn ⟨j,h1,h2⟩;rw[h]at this;simp only[Ka]at this;subst this;exact .inl ⟨j,h1,h2⟩
 have hno:∀j z,R[j]? = some (some t,z)->p (i+j)=false:=fun j z hj=>by
  cases hp:p (i+j) with
  | false=>rfl
  | true=>exact (hh ⟨j,z,hj,hp⟩).elim
 rw[T9 hno]at h;exact .inr ⟨hno,h⟩
def Wq (its:List DI) (i t:Nat):Bool:=its.all fun it=>!(it.gi.dst==some t)||it.anc.contains i
def Gq (its:List DI) (env:List (Nat×V)) (i:Nat):List (Nat×V):=env.filter fun x=>Wq its i x.1
theorem Zvz (env:List (Nat×V)) (q:Nat->Bool) (t:Nat):get (env.filter fun x=>q x.1) t=if q t then get env t else none:=by
 induction env with
 | nil=>simp [get]
 | cons y env ih =>
  obtain⟨k,x⟩:=y;simp only[Kuc];split
  ·rename_i hq;simp only[get];split
   ·rename_i e;subst e;simp [hq]
   exact ih
  rename_i hq;rw[ih];by_cases e:k=t
  ·subst e;rw[if_neg hq,if_neg hq]
  simp only[get,if_neg e]
theorem Zlg {its:List DI}{env:List (Nat×V)}{i t:Nat}{z:V}(h:get (Gq its env i) t=some z):get env t=some z/\∀(j:Nat) (it:DI),its[j]? = some it->it.gi.dst=some t->i∈it.anc:=by
 have e:get (Gq its env i) t=if Wq its i t then get env t else none:=Zvz env (fun t=>Wq its i t) t
 rw[e]at h;split at h
 ·rename_i ho;refine⟨h,fun j it hj hd=>?_⟩;have:=Kna.1 ho it (Kaa hj);simpa [hd] using this
 simp at h
theorem Zlh {its:List DI}{env:List (Nat×V)}{i t:Nat}(h:∀(j:Nat) (it:DI),its[j]? = some it->it.gi.dst=some t->i∈it.anc):get (Gq its env i) t=get env t:=by
 have e:get (Gq its env i) t=if Wq its i t then get env t else none:=Zvz env (fun t=>Wq its i t) t
 rw[e,if_pos];refine Kna.2 fun it hit=>?_;obtain⟨j,hj⟩:=Klc hit;by_cases hd:it.gi.dst=some t
 ·simp [h j it hj hd]
 simp [hd]
def Tv (o:Oper):List Nat:=(o.after.toList.filter fun e=>Region.binds .any e).map (·.on)
def isW (its:List DI) (j:Nat):Bool:=match its[j]? with|some it=>it.w|none=>false
def Zec (its:List DI) (j:Nat):List Nat:=match its[j]? with|some it=>it.anc|none=>[]
def Gd:GI->Bool
 | ⟨_,.rd _,_⟩=>true
 | _=>false
def ck1 (its:List DI) (i:Nat) (o:Oper) (it:DI):Bool :=
 (Tv o).all (·<i)&&it.anc.all (·<i)&&it.anc.all (fun a=>(Tv o).contains a||(Tv o).any fun j=>(Zec its j).contains a) &&
 (!it.w||(List.range i).all fun j=>!isW its j||it.anc.contains j) &&
 (it.w||((it.lo==0||it.anc.any fun j=>isW its j&&nW (its.take j)+1==it.lo) &&
  (decide (nW its<=it.hi)||(List.range its.length).any fun j=>isW its j&&nW (its.take j)==it.hi&&(Zec its j).contains i)))&&(it.w||Gd it.gi)
def Lx (its:List DI):Nat->List Oper->List DI->Bool
 | _,[],[]=>true
 | i,o::ops,it::l=>ck1 its i o it&&Lx its (i+1) ops l
 | _,_,_=>false
theorem Ze4 {its:List DI}:∀{ops:List Oper}{l:List DI}{i:Nat},Lx its i ops l=true->ops.length=l.length/\∀(j:Nat) (it:DI),l[j]? = some it->∃o,ops[j]? = some o/\ck1 its (i+j) o it=true
 | [],[],i,_=>⟨rfl,by simp⟩
 | o::ops,it::l,i,h=>by
  simp only[Lx,Kd]at h;obtain⟨h1,h2⟩:=Ze4 h.2;refine⟨by simp [h1],fun j it' hj=>?_⟩;cases j with
  | zero=>simp at hj;subst hj;exact⟨o,rfl,h.1⟩
  | succ j =>
   obtain⟨o',a,b⟩:=h2 j it' (by simpa using hj);exact⟨o',by simpa using a,by rw[show i+(j+1)=i+1+j by omega];exact b⟩
 | [],_::_,_,h=>by simp [Lx]at h
 | _::_,[],_,h=>by simp [Lx]at h
structure Laid (P:Program) (N:Nat) (ops:Array Oper) (its:List DI):Prop where
 len:ops.size=its.length
 op:∀(i:Nat) (it:DI),its[i]? = some it->∃o,ops[i]? = some o/\Np P N ops o=some it.gi/\(∀e∈o.after.toList,Region.binds .any e=true->e.on<i)/\(∀a∈it.anc,a<i) /\
  (∀listed:Nat->Prop,(∀e∈o.after.toList,Region.binds .any e=true->listed e.on)->(∀j itj,its[j]? = some itj->listed j->∀a∈itj.anc,listed a)->∀a∈it.anc,listed a)
 wr:∀(i:Nat) (it:DI),its[i]? = some it->it.w=true->∀j itj,j<i->its[j]? = some itj->itj.w=true->j∈it.anc
 lo:∀(i:Nat) (it:DI),its[i]? = some it->it.w=false->it.lo=0\/∃j itj,j∈it.anc/\its[j]? = some itj/\itj.w=true/\nW (its.take j)+1=it.lo
 hi:∀(i:Nat) (it:DI),its[i]? = some it->it.w=false->nW its<=it.hi\/∃j itj,its[j]? = some itj/\itj.w=true/\nW (its.take j)=it.hi/\i∈itj.anc
 rd:∀(i:Nat) (it:DI),its[i]? = some it->it.w=false->∃r,it.gi.op=.rd r
 nodup:(its.filterMap (·.gi.dst)).Nodup
theorem Zw7 {its:List DI}{j:Nat}(h:isW its j=true):∃it,its[j]? = some it/\it.w=true:=by
 unfold isW at h;split at h
 ·rename_i it hh;exact⟨it,hh,h⟩
 simp at h
theorem Zxm {P:Program}{N:Nat}{ops:Array Oper}{its:List DI}(hck:Lx its 0 ops.toList its=true) (htr:Fu P N ops ops.toList=some (its.map (·.gi))) (hn:(its.filterMap (·.gi.dst)).Nodup):Laid P N ops its:=by
 obtain⟨h1,h2⟩:=Ze4 hck;have htr':∀(l:List Oper) (gs:List GI),Fu P N ops l=some gs->∀(j:Nat) (gi:GI),gs[j]? = some gi->∃o:Oper,l[j]? = some o/\Np P N ops o=some gi:=by
  intro l
  induction l with
  | nil=>intro gs h j gi hj;simp only[Fu,Ka]at h;subst h;simp at hj
  | cons o l ih =>
   intro gs h j gi hj;simp only[Fu,Kl,Kg,Ka]at h;obtain⟨g,hg,gs',hgs,rfl⟩:=h;cases j with
   | zero=>simp at hj;subst hj;exact⟨o,rfl,hg⟩
   | succ j=>obtain⟨o',a,b⟩:=ih gs' hgs j gi (by simpa using hj);exact⟨o',by simpa using a,b⟩
 have hop:∀(i:Nat) (it:DI),its[i]? = some it->∃o,ops.toList[i]? = some o/\ops[i]? = some o/\Np P N ops o=some it.gi/\ck1 its i o it=true:=by
  intro i it hi;obtain⟨o,a,b⟩:=h2 i it hi;obtain⟨o',a',b'⟩:=htr' _ _ htr i it.gi (by rw[Kba,hi];rfl);rw[a]at a';simp only[Ka]at a';subst a';exact⟨o,a,by rw[<-Khf];exact a,b',by rw[Kr]at b;exact b⟩
 refine⟨by rw[<-Ksb];exact h1, ?_, ?_, ?_, ?_, ?_,hn⟩
 ·intro i it hi;obtain⟨o,_,a,b,c⟩:=hop i it hi;simp only[ck1,Kd]at c;obtain⟨⟨⟨⟨⟨c1,c2⟩,c3⟩,c4⟩,c5⟩,c6⟩:=c;refine⟨o,a,b, ?_, ?_, ?_⟩
  ·intro e he hb;have:=Kna.1 c1 e.on (Kjf (Kjd.2 ⟨he,hb⟩));simpa using this
  ·intro x hx;have:=Kna.1 c2 x hx;simpa using this
  intro listed hp hc x hx;have hpre:∀j∈Tv o,listed j:=by
   intro j hj;simp only[Tv,Ky,Kjd]at hj;obtain⟨e,⟨he,hb⟩,rfl⟩:=hj;exact hp e he hb
  have:=Kna.1 c3 x hx;simp only[Kmb,List.contains_iff_mem,Kpe]at this;rcases this with k|⟨j,hj,k⟩
  ·exact hpre x k
  unfold Zec at k;split at k
  ·rename_i itj hitj;exact hc j itj hitj (hpre j hj) x k
  simp at k
 ·intro i it hi hw j itj hj hitj hwj;obtain⟨o,_,a,b,c⟩:=hop i it hi;simp only[ck1,Kd]at c;obtain⟨⟨⟨⟨⟨c1,c2⟩,c3⟩,c4⟩,c5⟩,c6⟩:=c;rw[hw]at c4;simp only[Ksc,Kpf]at c4;have:=Kna.1 c4 j (by simpa using hj);have hjw:isW its j=true:=by unfold isW;rw[hitj];exact hwj
  rw[hjw]at this;simpa using this
 ·intro i it hi hw;obtain⟨o,_,a,b,c⟩:=hop i it hi;simp only[ck1,Kd]at c;obtain⟨⟨⟨⟨⟨c1,c2⟩,c3⟩,c4⟩,c5⟩,c6⟩:=c;rw[hw]at c5;simp only[Kpf,Kd,Kmb,beq_iff_eq,Kpe]at c5;rcases c5.1 with k|⟨j,hj,k1,k2⟩
  ·exact .inl k
  obtain⟨itj,h3,h4⟩:=Zw7 k1;exact .inr ⟨j,itj,hj,h3,h4,k2⟩
 ·intro i it hi hw;obtain⟨o,_,a,b,c⟩:=hop i it hi;simp only[ck1,Kd]at c;obtain⟨⟨⟨⟨⟨c1,c2⟩,c3⟩,c4⟩,c5⟩,c6⟩:=c;rw[hw]at c5;simp only[Kpf,Kd,Kmb,decide_eq_true_eq,Kpe,beq_iff_eq,List.contains_iff_mem]at c5;rcases c5.2 with k|⟨j,hj,⟨k1,k2⟩,k3⟩
  ·exact .inl k
  obtain⟨itj,h3,h4⟩:=Zw7 k1;refine .inr ⟨j,itj,h3,h4,k2, ?_⟩;unfold Zec at k3;rw[h3]at k3;exact k3
 intro i it hi hw;obtain⟨o,_,a,b,c⟩:=hop i it hi;simp only[ck1,Kd]at c;obtain⟨⟨⟨⟨⟨c1,c2⟩,c3⟩,c4⟩,c5⟩,c6⟩:=c;rw[hw,Kpf]at c6;cases hq:it.gi with
 | mk dst op gu =>
  rw[hq]at c6;cases op with
  | rd r=>exact⟨r,rfl⟩
  | wr w=>simp [Gd]at c6
theorem Zvh:∀{l:List DI}{i j d:Nat},(l.filterMap (·.gi.dst)).Nodup->∀(hi:i<l.length) (hj:j<l.length),i≠j->l[i].gi.dst=some d->l[j].gi.dst=some d->False
 | [],_,_,_,_,hi,_,_,_,_=>by simp at hi
 | x::l,i,j,d,hn,hi,hj,hne,h1,h2=>by
  have hn':(l.filterMap (·.gi.dst)).Nodup:=by
   cases hx:x.gi.dst with
   | none=>rw[Kof (by exact hx)]at hn;exact hn
   | some e=>rw[Kwd (by exact hx)]at hn;exact (Kta.1 hn).2
  have mem:∀{k:Nat} (hk:k<l.length),l[k].gi.dst=some d->d∈l.filterMap (·.gi.dst):=fun hk e=>Kxd.2 ⟨_,Kcb hk,e⟩;cases i with
  | zero =>
   cases j with
   | zero=>exact hne rfl
   | succ j =>
    simp only[List.getElem_cons_zero,Kqe]at h1 h2;rw[Kwd (by exact h1)]at hn;exact (Kta.1 hn).1 (mem _ h2)
  | succ i =>
   cases j with
   | zero =>
    simp only[List.getElem_cons_zero,Kqe]at h1 h2;rw[Kwd (by exact h2)]at hn;exact (Kta.1 hn).1 (mem _ h1)
   | succ j =>
    simp only[Kqe]at h1 h2;exact Zvh (l:=l) hn' (by simpa using hi) (by simpa using hj) (by omega) h1 h2
theorem Yvm {P:Program}{gi:GI}{r:I}(hop:gi.op=.rd r){S:St}{K:KW}(h:B4 P gi S K):B4 P gi S fun x ks ro n=>K x ks ro n/\ks=[]/\ro=S.roots/\n=S.next:=by
 have key:evJ P S K gi.op->evJ P S (fun x ks ro n=>K x ks ro n/\ks=[]/\ro=S.roots/\n=S.next) gi.op:=by
  intro h;rw[hop]at h ⊢;obtain⟨x,h1,h2⟩:=Zfn (K:=fun v=>K v [] S.roots S.next) h;exact h2 (fun v=>K v [] S.roots S.next/\([]:List (Nat×Af))=[]/\S.roots=S.roots/\S.next=S.next) ⟨h1,rfl,rfl,rfl⟩
 unfold B4 at h ⊢;cases hg:gi.guard with
 | none=>simp only[hg]at h ⊢;exact key h
 | some gw =>
  obtain⟨t,want⟩:=gw;simp only[hg]at h ⊢;split at h
  ·rename_i b heq;exact⟨fun e=>key (h.1 e),fun e=>by simpa using h.2 e⟩
  ·simpa using h
  exact h.elim
theorem Zvi {p p':Nat->Bool}:∀{l:List Nat},(∀x∈l,p' x=true->p x=true)->(∃i∈l,p i=true/\p' i=false)->(l.filter p').length<(l.filter p).length
 | [],_,h=>by obtain⟨i,h,_⟩:=h;simp at h
 | x::l,hs,h=>by
  have hle:(l.filter p').length<=(l.filter p).length:=by
   clear h;have hs':∀x∈l,p' x=true->p x=true:=fun y hy=>hs y (by simp [hy]);clear hs
   induction l with
   | nil=>simp
   | cons y l ih =>
    have:=ih fun z hz=>hs' z (by simp [hz]);simp only[Kuc];cases h1:p' y with
    | true=>rw[hs' y (by simp) h1];simpa using this
    | false=>cases p y<;>simp<;>omega
  obtain⟨i,hi,h1,h2⟩:=h;simp only[Kuc];rcases Kh.1 hi with rfl|hi
  ·rw[h1,h2];simp;omega
  have:=Zvi (p:=p) (p':=p') (l:=l) (fun y hy=>hs y (by simp [hy])) ⟨i,hi,h1,h2⟩;cases h3:p' x with
  | true=>rw[hs x (by simp) h3];simpa using this
  | false=>cases p x<;>simp<;>omega
variable {P:Program} {N:Nat} {ops:Array Oper} {its:List DI} {w0:World} {own0:Nat->Nat->Prop} {pl0:Pls} {fix:Nat} {E0:List (Nat×V)} {R:List (Option Nat×V)} {M:List Mem} {KS:Option (List (Nat×Af))} {Q:Exit->St->Prop}
theorem M4 {l:Array Bool}{i j:Nat}(hi:i<l.size):(l.setIfInBounds i true).getD j false=if j=i then true else l.getD j false:=by
 rw[Kab,Kab];by_cases h:j=i
 ·subst h;rw[Kvd hi];simp
 rw[Kme (fun e=>h e.symm)];simp [h]
theorem Ztz {E:List (Nat×V)}(hL:Laid P N ops its) (hD:Drawn P fix (Gq its E) its 0 [] R M KS) (hKS:∀k,KS=some k->∃it,its[its.length-1]? = some it/\it.w=true){mm1:Mem}(hm1:M[nW its]? = some mm1) (hQ:Q .normal ⟨Zz KS R (Gq its E its.length),mm1.1,mm1.2,fix⟩) :
  ∀(fuel:Nat) (listed:Array Bool) (k:Nat) (mm:Mem) (g:Lab) (pl:Pls) (a:Act) (w:World),listed.size=its.length->((List.range its.length).filter fun i=>!listed.getD i false).length<=fuel ->
   (∀j itj,its[j]? = some itj->listed.getD j false=true->∀b∈itj.anc,listed.getD b false=true) ->
   (∀j itj,its[j]? = some itj->itj.w=true->(listed.getD j false=true ↔ nW (its.take j)<k))->k<=nW its->M[k]? = some mm ->
   (∀k,KS=some k->listed.getD (its.length-1) false=false) ->
   Rel N w0 own0 pl0 g pl ⟨Bn (fun j=>listed.getD j false) 0 R++E,mm.1,mm.2,fix⟩ a w ->
   wpAny P .any ops (PQ N w0 own0 pl0 fix Q) fuel listed a w:=by
 have hRn:(R.filterMap (·.1)).Nodup:=by
  have:R.filterMap (·.1)=its.filterMap (·.gi.dst):=by
   have hl:=hD.len;have hd:=hD.dst;clear hm1 hQ hL hD hKS
   induction R generalizing its with
   | nil=>cases its with
    | nil=>rfl
    | cons=>simp at hl
   | cons y R ih=>cases its with
    | nil=>simp at hl
    | cons it its =>
     have e:=hd 0 it y rfl rfl;have:=ih (its:=its) (by simpa using hl) fun j it y h1 h2=>hd (j+1) it y (by simpa using h1) (by simpa using h2);cases hq:it.gi.dst with
     | none=>rw[Kof (by rw[e,hq]),Kof (by exact hq),this]
     | some d=>rw[Kwd (by rw[e,hq]),Kwd (by exact hq),this]
  rw[this];exact hL.nodup
 have hready:∀(listed:Array Bool) (i:Nat),listed.size=its.length->i∈Region.ready .any ops listed->∃it o,its[i]? = some it/\ops[i]? = some o/\listed.getD i false=false/\∀e∈o.after.toList,Region.binds .any e=true->listed.getD e.on false=true:=by
  intro listed i hs hi;unfold Region.ready at hi;simp only[Kjd,Kvb,Kd,Kzb]at hi;obtain⟨h1,h2,h3⟩:=hi;have hi2:i<its.length:=by rw[<-hL.len];exact h1
  refine⟨its[i],ops[i],Ku hi2,Kcd h1, ?_, ?_⟩
  ·rw[Kab,Kcd (by omega)]at h2 ⊢;exact h2
  intro e he hb;rw[Kcd h1]at h3;simp only[Kha,Kub,Kde]at h3;have:=h3 e (by simpa using he);rw[hb]at this;simpa using this
 have hdone:∀(listed:Array Bool),listed.size=its.length->Region.ready .any ops listed=[]->∀i,i<its.length->listed.getD i false=true:=by
  intro listed hs hr i
  induction i using Nat.strongRecOn with
  | _ i ih =>
   intro hi;obtain⟨o,ho,_,hpre,_⟩:=hL.op i its[i] (Ku hi);cases hq:listed.getD i false with
   | true=>rfl
   | false =>
    exfalso;have:i∈Region.ready .any ops listed:=by
     unfold Region.ready;simp only[Kjd,Kvb,Kd,Kzb];refine⟨by rw[hL.len];exact hi, ?_, ?_⟩
     ·rw[Kab,Kcd (by omega)]at hq ⊢;exact hq
     rw[ho];simp only[Kha,Kub,Kde];intro e he;cases hb:Region.binds .any e with
     | false=>rfl
     | true =>
      have h1:=hpre e (by simpa using he) hb;simp [ih e.on h1 (by omega)]
    rw[hr]at this;simp at this
 have hfin:∀(listed:Array Bool) (k:Nat) (mm:Mem) (g:Lab) (pl:Pls) (a:Act) (w:World),listed.size=its.length->(∀j itj,its[j]? = some itj->itj.w=true->(listed.getD j false=true ↔ nW (its.take j)<k))->k<=nW its->M[k]? = some mm ->
   (∀k,KS=some k->listed.getD (its.length-1) false=false) ->
   Rel N w0 own0 pl0 g pl ⟨Bn (fun j=>listed.getD j false) 0 R++E,mm.1,mm.2,fix⟩ a w->Region.ready .any ops listed=[]->PQ N w0 own0 pl0 fix Q .normal a w:=by
  intro listed k mm g pl a w hs hwk hk hmm hno hR hr;have hall:=hdone listed hs hr;have hK0:KS=none:=by
   cases hc:KS with
   | none=>rfl
   | some k =>
    obtain⟨it,h1,_⟩:=hKS k hc;have:=hall _ (Kfa.1 h1).1;rw[hno k hc]at this;cases this
  subst hK0;have hkk:k=nW its:=by
   rcases Kfc k (nW its) with h|h
   ·exfalso;obtain⟨i',it',h1,h2,h3,h4⟩:=Zhf its its.length k (by rw[Kkc];exact h);have:=(hwk i' it' h2 h3).1 (hall i' h1);omega
   omega
  subst hkk;rw[hm1]at hmm;simp only[Ka]at hmm;subst hmm;refine⟨_,g,pl,hQ,rfl,hR.sub ?_⟩;intro t y hy;rcases Zh8 hRn hy with ⟨j,h1,h2⟩|⟨hno,h⟩
  ·refine Ua hRn ⟨j,h1, ?_⟩;have:j<R.length:=(Kfa.1 h1).1;rw[Kr];exact hall j (by rw[<-hD.len];exact this)
  refine (T9 fun j z hj=>?_).trans (Zlg h).1;have:=hno j z hj;cases this
 intro fuel
 induction fuel with
 | zero =>
  intro listed k mm g pl a w hs hf hcl hwk hk hmm hno hR;have hr:Region.ready .any ops listed=[]:=by
   rw[Kzg];intro i hi;obtain⟨it,o,h1,h2,h3,h4⟩:=hready listed i hs hi;have hi2:i<its.length:=(Kfa.1 h1).1;have:i∈(List.range its.length).filter fun i=>!listed.getD i false:=Kjd.2 ⟨Kvb.2 hi2,by rw[h3];rfl⟩;have h0:((List.range its.length).filter fun i=>!listed.getD i false)=[]:=Knf (by omega);rw[h0]at this;simp at this
  exact⟨hr,hfin listed k mm g pl a w hs hwk hk hmm hno hR hr⟩
 | succ fuel ih =>
  intro listed k mm g pl a w hs hf hcl hwk hk hmm hno hR;refine⟨fun hr=>hfin listed k mm g pl a w hs hwk hk hmm hno hR hr,fun i hi=>?_⟩;obtain⟨it,o,h1,h2,h3,h4⟩:=hready listed i hs hi;have hi2:i<its.length:=(Kfa.1 h1).1;obtain⟨o',ho',htr,hpre,hlt,hanc⟩:=hL.op i it h1;rw[h2]at ho';simp only[Ka]at ho';subst ho';have hancL:=hanc (fun j=>listed.getD j false=true) h4 (fun j itj hj hl=>hcl j itj hj hl);obtain⟨y,hy⟩:∃y,R[i]? = some y:=⟨_,Ku (by rw[hD.len];exact hi2)⟩;have hyd:=hD.dst i it y h1 hy;have hRE:=hR.sub (env:=Bn (fun j=>it.anc.contains j) 0 R++Gq its E i) (by
   intro t z hz;rcases Zh8 hRn hz with ⟨j,e1,e2⟩|⟨_,h⟩
   ·exact Ua hRn ⟨j,e1,hancL _ (by simpa using e2)⟩
   ·obtain⟨g1,g2⟩:=Zlg h;refine (T9 fun j z' hj=>?_).trans g1;rw[Kr];have hjl:j<its.length:=by rw[<-hD.len];exact (Kfa.1 hj).1
    have hjd:=hD.dst j its[j] _ (Ku hjl) hj;cases hl:listed.getD j false with
    | false=>rfl
    | true =>
     have:=hcl j its[j] (Ku hjl) hl i (g2 j its[j] (Ku hjl) hjd.symm);rw[h3]at this;cases this)
  -- what comes next
  have next:∀(k':Nat) (mm':Mem) (ks:List (Nat×Af)) (v:Value) (w':World) (g':Lab) (pl':Pls),ks=[]->(∀k,KS=some k->i≠its.length-1)->VR pl' mm'.2 y.2 v->Hp w0 own0 pl0 g' pl' mm'.1 mm'.2 mm'.2 fix w'->(∀z u,CR pl mm.2 z u->CR pl' mm'.2 (A7 ks z) u)->M[k']? = some mm'->k'<=nW its ->
    (∀j itj,its[j]? = some itj->itj.w=true->((listed.setIfInBounds i true).getD j false=true ↔ nW (its.take j)<k')) ->
    wpAny P .any ops (PQ N w0 own0 pl0 fix Q) fuel (listed.setIfInBounds i true) (a.put it.gi.dst v) w':=by
   intro k' mm' ks v w' g' pl' hks hil hv hp hkk hmm' hk' hwk';have hkeep:∀(t:Nat) (z:V),get (Bn (fun j=>listed.getD j false) 0 R++E) t=some z->((∃j,j≠i/\R[j]? = some (some t,z))\/((∀j z',R[j]? = some (some t,z')->(listed.setIfInBounds i true).getD j false=false)/\get E t=some z))->get (C0 ks (Bn (fun j=>listed.getD j false) 0 R++E)) t=some z:=by
    intro t z hz hor;subst hks;rw[Oz];exact hz
   refine ih (listed.setIfInBounds i true) k' mm' g' pl' _ w' (by simp [hs]) ?_ ?_ hwk' hk' hmm' (fun k hk=>by rw[M4 (by omega),if_neg (fun e=>hil k hk e.symm)];exact hno k hk) ?_
   ·have:=Zvi (p:=fun j=>!listed.getD j false) (p':=fun j=>!(listed.setIfInBounds i true).getD j false) (l:=List.range its.length) (by
     intro x _ hx;rw[M4 (by omega)]at hx;split at hx
     ·simp at hx
     ·exact hx) ⟨i,Kvb.2 hi2,by rw[h3];rfl,by rw[M4 (by omega)];simp⟩
    omega
   ·intro j itj hj hl b hb;rw[M4 (by omega)]at hl ⊢;split
    ·rfl
    split at hl
    ·rename_i e;subst e;rw[h1]at hj;simp only[Ka]at hj;subst hj;exact hancL b hb
    exact hcl j itj hj hl b hb
   have hput:=hR.put (ks:=ks) (Ydj htr) hp hkk hv;refine hput.sub ?_;intro t z hz;show get (Bs it.gi.dst y.2 (C0 ks (Bn (fun j=>listed.getD j false) 0 R++E))) t=some z;rcases Zh8 hRn hz with ⟨j,e1,e2⟩|⟨hno,h⟩
   ·rw[Kr,M4 (by omega)]at e2;by_cases hji:j=i
    ·subst hji;rw[hy]at e1;simp only[Ka]at e1;subst e1;simp only at hyd;rw[<-hyd];simp only[Bs];rw[Ax,if_pos rfl]
    rw[if_neg hji]at e2;have hget:get (C0 ks (Bn (fun j=>listed.getD j false) 0 R++E)) t=some z:=hkeep t z (Ua hRn ⟨j,e1,by rw[Kr];exact e2⟩) (.inl ⟨j,hji,e1⟩);cases hq:it.gi.dst with
    | none=>exact hget
    | some d =>
     simp only[Bs];rw[Ax];split
     ·rename_i e;subst e;exfalso
      -- two operations cannot yield the same
      have u1:its[i]?.bind (·.gi.dst)=some d:=by rw[h1];exact hq
      have hjl:j<its.length:=by rw[<-hD.len];exact (Kfa.1 e1).1
      have u2:=hD.dst j its[j] _ (Ku hjl) e1;exact Zvh hL.nodup hi2 hjl (fun e=>hji e.symm) (by have:=Ku hi2;rw[h1]at this;simp only[Ka]at this;rw[<-this];exact hq) (by rw[<-u2])
     exact hget
   have hno':∀j z',R[j]? = some (some t,z')->(listed.setIfInBounds i true).getD j false=false:=fun j z' hj=>by have:=hno j z' hj;rwa [Kr]at this
   have hold:get (Bn (fun j=>listed.getD j false) 0 R++E) t=some z:=by
    refine (T9 fun j z' hj=>?_).trans h;rw[Kr];have:=hno' j z' hj;rw[M4 (by omega)]at this;split at this
    ·cases this
    exact this
   cases hq:it.gi.dst with
   | none=>exact hkeep t z hold (.inr ⟨hno',h⟩)
   | some d =>
    simp only[Bs];rw[Ax];split
    ·rename_i e;subst e;have:=hno' i y.2 (by rw[hy];congr 1;rw[Prod.ext_iff];exact⟨by rw[hyd,hq],rfl⟩);rw[M4 (by omega),if_pos rfl]at this;cases this
    exact hkeep t z hold (.inr ⟨hno',h⟩)
  cases hw:it.w with
  | false =>
   have hlo:it.lo<=k:=by
    rcases hL.lo i it h1 hw with h|⟨j,itj,ha,hj,hwj,e⟩
    ·omega
    have:=(hwk j itj hj hwj).1 (hancL j ha);omega
   have hhi:k<=it.hi:=by
    rcases hL.hi i it h1 hw with h|⟨j,itj,hj,hwj,e,hm⟩
    ·omega
    rcases Kfc it.hi k with hlt'|hge
    ·exfalso;have:=(hwk j itj hj hwj).2 (by omega);have:=hcl j itj hj this i hm;rw[h3]at this;simp at this
    exact hge
   have hst:=hD.rd i it y h1 hy hw k mm hlo hhi hmm;simp only[Km,Ki,Kr]at hst;obtain⟨r,hop⟩:=hL.rd i it h1 hw;refine Yb0 hRE h2 htr (Yvm hop hst) ?_;rintro v w' x ks roots nx g' pl' hv hp hkk ⟨rfl,rfl,rfl,rfl⟩;refine next k mm [] v w' g' pl' rfl (fun k hk e=>?_) hv hp hkk hmm hk ?_
   ·obtain⟨it',q1,q2⟩:=hKS k hk;rw[<-e,h1]at q1;simp only[Ka]at q1;subst q1;rw[hw]at q2;cases q2
   intro j itj hj hwj;rw[M4 (by omega)];split
   ·rename_i e;subst e;rw[h1]at hj;simp only[Ka]at hj;subst hj;rw[hw]at hwj;simp at hwj
   exact hwk j itj hj hwj
  | true =>
   have hck:nW (its.take i)=k:=by
    have hge:k<=nW (its.take i):=by
     rcases Kfc (nW (its.take i)) k with h|h
     ·have:=(hwk i it h1 hw).2 h;rw[h3]at this;simp at this
     exact h
    rcases Kfc k (nW (its.take i)) with h|h
    ·exfalso;obtain⟨i',it',e1,e2,e3,e4⟩:=Zhf its i k h;have:=(hwk i' it' e2 e3).1 (hancL i' (hL.wr i it h1 hw i' it' e1 e2 e3));omega
    omega
   have hk1:k+1<=nW its:=by
    have e1:=Zgu h1;rw[hw]at e1;simp at e1;have:=Yrx its (i+1);omega
   obtain⟨mm',hmm'⟩:∃mm',M[k+1]? = some mm':=⟨_,Ku (by rw[hD.mlen];omega)⟩;have hst:=hD.wr i it y h1 hy hw mm mm' (by rw[Kr,hck];exact hmm) (by rw[Kr,hck];exact hmm');simp only[Km,Ki,Kr]at hst;refine Yb0 hRE h2 htr hst ?_;rintro v w' x ks roots nx g' pl' hv hp hkk ⟨rfl,hks,rfl,rfl⟩;by_cases hlast:∃kk,KS=some kk/\i+1=its.length
   ·obtain⟨kk,hkq,hin⟩:=hlast;subst hkq;simp only[KsO]at hks;rw[if_pos (by omega)]at hks;obtain⟨rfl,hanc0⟩:=hks;have hkn:nW its=k+1:=by
     have e1:=Zgu h1;rw[hw,hin,Kkc]at e1;simp at e1;omega
    rw[hkn,hmm']at hm1;simp only[Ka]at hm1;subst hm1;have hall:∀b,b<its.length->(listed.setIfInBounds i true).getD b false=true:=by
     intro b hb;rw[M4 (by omega)];split
     ·rfl
     exact hancL b (hanc0 b (by omega))
    have hRl:R.length=i+1:=by rw[hD.len];omega
    have hR0:R.getLast? = some y:=by
     rw[List.getLast?_eq_getElem?,hRl];exact hy
    have hdl:∀(j:Nat) (z:Option Nat×V),R.dropLast[j]? = some z->j<i/\R[j]? = some z:=by
     intro j z hj;have hjl:=(Kfa.1 hj).1;rw[List.length_dropLast,hRl]at hjl;rw[List.getElem?_dropLast,if_pos (by omega)]at hj;exact⟨by omega,hj⟩
    have fin:PQ N w0 own0 pl0 fix Q .normal (a.put it.gi.dst v) w':=by
     have hput:=hR.put (ks:=ks) (Ydj htr) hp hkk hv;refine⟨_,g',pl',hQ,rfl,hput.sub ?_⟩;intro t z hz;show get (Bs it.gi.dst y.2 (C0 ks (Bn (fun j=>listed.getD j false) 0 R++E))) t=some z;simp only[Zz,hR0]at hz;rw[hyd]at hz;have old:∀u,get (Bn (fun _=>true) 0 R.dropLast++Gq its E its.length) t=some u->get (Bn (fun j=>listed.getD j false) 0 R++E) t=some u:=by
      intro u hu;have hn':(R.dropLast.filterMap (·.1)).Nodup:=((List.dropLast_sublist R).filterMap _).nodup hRn;rcases Zh8 hn' hu with ⟨j,q1,_⟩|⟨q1,q2⟩
      ·obtain⟨q3,q4⟩:=hdl j _ q1;exact Ua hRn ⟨j,q4,by rw[Kr];exact hancL j (hanc0 j q3)⟩
      obtain⟨q3,q4⟩:=Zlg q2;refine (T9 fun j z' hj=>?_).trans q3;exfalso;have hjl:j<its.length:=by rw[<-hD.len];exact (Kfa.1 hj).1
      have hjd:=hD.dst j its[j] _ (Ku hjl) hj;have hm:=q4 j its[j] (Ku hjl) hjd.symm;obtain⟨_,_,_,_,hlt2,_⟩:=hL.op j its[j] (Ku hjl);have:=hlt2 _ hm;omega
     cases hq:it.gi.dst with
     | none =>
      rw[hq]at hz;simp only[Bs]at hz ⊢;rw[V2]at hz ⊢;simp only[Ks]at hz ⊢;obtain⟨u,hu,rfl⟩:=hz;exact⟨u,old u hu,rfl⟩
     | some d =>
      rw[hq]at hz;simp only[Bs]at hz ⊢;rw[Ax]at hz ⊢;split
      ·rename_i e;rw[if_pos e]at hz;exact hz
      rename_i e;rw[if_neg e]at hz;rw[V2]at hz ⊢;simp only[Ks]at hz ⊢;obtain⟨u,hu,rfl⟩:=hz;exact⟨u,old u hu,rfl⟩
    have hrdy:Region.ready .any ops (listed.setIfInBounds i true)=[]:=by
     rw[Kzg];intro i' hi';obtain⟨it',o',q1,q2,q3,q4⟩:=hready _ i' (by simp [hs]) hi';rw[hall i' (Kfa.1 q1).1]at q3;cases q3
    cases fuel with
    | zero=>exact⟨hrdy,fin⟩
    | succ fuel=>exact⟨fun _=>fin,fun i' hi'=>by rw[hrdy]at hi';cases hi'⟩
   have hks0:ks=[]:=by
    cases KS with
    | none=>exact hks
    | some kk =>
     simp only[KsO]at hks;rw[if_neg (fun e=>hlast ⟨kk,rfl,by omega⟩)]at hks;exact hks
   refine next (k+1) mm' ks v w' g' pl' hks0 (fun kk hkk0 e=>hlast ⟨kk,hkk0,by omega⟩) hv hp hkk hmm' hk1 ?_;intro j itj hj hwj;rw[M4 (by omega)];split
   ·rename_i e;subst e;simp only[true_iff];omega
   rename_i hji;rw[hwk j itj hj hwj];have hne:nW (its.take j)≠k:=by
    intro e;rcases Kfc i j with h|h
    ·have:=Zzl h1 hw h;omega
    have:=Zzl hj hwj (show j<i by omega);omega
   omega
theorem Yxc {S:St}{id:Nat}(hm:P.follows .mixedOrders=true) (hck:Lx its 0 ops.toList its=true) (htr:Fu P N ops ops.toList=some (its.map (·.gi))) (hn:(its.filterMap (·.gi.dst)).Nodup)
  (h:Lz P S.fix (Gq its S.env) its [] [(S.roots,S.next)] [] (Q .normal)):Vw P N (.region id ops true) S Q:=fun w0 own0 pl0 g pl a w hR=>by
 have hL:=Zxm hck htr hn;obtain⟨R,ms,KS,hD,hKS,_,mm1,hm1,hK⟩:=Zfc its [] (S.roots,S.next) [] [] (fun j it hj b hb=>by
  obtain⟨_,_,_,_,hlt,_⟩:=hL.op j it hj;have:=hlt b hb;simp only[Ki];omega) h
 simp only[Ki,Kr,Km,Khg]at hD hm1 hK;rw[hD.len]at hK;refine wp_region_any hm ?_;have hlen:=hL.len;refine Ztz hL hD hKS hm1 hK ops.size (Array.replicate ops.size false) 0 (S.roots,S.next) g pl a w.drew (by simp [hlen]) ?_ ?_ ?_ (Kda _) rfl ?_ ?_
 ·rw[hlen];exact Kla (Kqf _ _) (by simp)
 ·intro j itj hj hl;exfalso;rw[Kab]at hl;simp only[Kvc]at hl;split at hl<;>simp at hl
 ·intro j itj hj hwj;refine⟨fun hl=>?_,fun h=>by omega⟩;exfalso;rw[Kab]at hl;simp only[Kvc]at hl;split at hl<;>simp at hl
 ·intro k _;rw[Kab];simp only[Kvc];split<;>simp
 have hRd:Rel N w0 own0 pl0 g pl S a w.drew:=⟨hR.hp.drew,hR.size,hR.defers,hR.env⟩;refine hRd.sub ?_;intro t y hy;rcases Zh7 hy with ⟨j,_,hl⟩|h
 ·exfalso;rw[Kab]at hl;simp only[Kvc]at hl;split at hl<;>simp at hl
 exact h
end Go.Vs
namespace Go.Vs
variable [Glb]
def Iw:Nat->List V->List (Nat×V)
 | _,[]=>[]
 | i,v::l=>(i,v)::Iw (i+1) l
theorem Zw:∀{l:List V}{i t:Nat}{x:V},get (Iw i l) t=some x->i<=t/\l[t-i]? = some x
 | [],_,_,_,h=>by simp [Iw,get]at h
 | v::l,i,t,x,h=>by
  simp only[Iw,get]at h;split at h
  ·rename_i e;subst e;simp only[Ka]at h;subst h;exact⟨Kc _,by simp⟩
  obtain⟨h1,h2⟩:=Zw h;refine⟨by omega, ?_⟩;rw[show t-i=(t-(i+1))+1 by omega,Kpa];exact h2
def Il (P:Program):List ResultVar->Option (List I)
 | []=>some []
 | .tmp t::l=>(Il P l).map (.mv (.t t)::·)
 | .cell a t::l=>do some (.load (<- Ts P t) (.t a)::(<- Il P l))
def F6 (S:St):List I->(List A->Prop)->Prop
 | [],K=>K []
 | i::l,K=>ev S (fun v=>match v with|.a x=>F6 S l fun xs=>K (x::xs)|_=>False) i
theorem Zte (xs:List A):J8 (Fc xs)=some xs:=by
 match xs with
 | []=>rfl
 | [x]=>rfl
 | x::y::l=>rfl
variable {P:Program} {N:Nat} {w0:World} {own0:Nat->Nat->Prop} {pl0:Pls} {g:Lab} {pl:Pls} {S:St} {a:Act} {w:World}
def Zz2 (tmps:Array Value):ResultVar->Sem Value
 | .tmp t=>pure (tmps.getD t undef)
 | .cell a t=>do loadVar t (<- asAddr (tmps.getD a undef))
theorem Zpn (fn:Func) (tmps:Array Value):results fn tmps=(do
  let vs <- fn.results.mapM (Zz2 tmps)
  pure (if h:vs.size=1 then vs[0] else .tuple vs)):=by
 unfold results;congr 1
theorem Zx4 {f:ResultVar->Sem Value}{x:ResultVar}{l:List ResultVar}{v:Value}{vs:List Value}(h1:(f x).run P w=.ok v w) (h2:(l.mapM f).run P w=.ok vs w):((x::l).mapM f).run P w=.ok (v::vs) w:=by
 rw[List.mapM_cons];simp [h1,h2]
theorem Zbe (hR:Rel N w0 own0 pl0 g pl S a w):∀(l:List ResultVar) (is:List I) (K:List A->Prop),Il P l=some is->F6 S is K ->
  ∃vs xs,(l.mapM (Zz2 a.tmps)).run P w=.ok vs w/\Ab (AR pl S.next) xs vs/\K xs
 | [],is,K,ht,h=>by
  simp only[Il,Ka]at ht;subst ht;exact⟨[],[],by simp,trivial,h⟩
 | .tmp t::l,is,K,ht,h=>by
  simp only[Il,Ks]at ht;obtain⟨is',ht',rfl⟩:=ht;simp only[F6,ev]at h;cases hx:S.opd (.t t) with
  | a x =>
   rw[hx]at h;simp only at h;obtain⟨vs,xs,h1,h2,h3⟩:=Zbe hR l is' _ ht' h;have hv:=Bk hR (P:=P) (ty:=0) (x:=.tmp t) (y:=.t t) rfl;rw[hx]at hv;exact⟨a.tmps.getD t undef::vs,x::xs,Zx4 rfl h1,⟨hv,h2⟩,h3⟩
  | un=>rw[hx]at h;exact h.elim
  | tp xs=>rw[hx]at h;exact h.elim
  | fn f cs=>rw[hx]at h;exact h.elim
  | sb r n=>rw[hx]at h;exact h.elim
 | .cell x t::l,is,K,ht,h=>by
  simp only[Il,Kl,Kg,Ka]at ht;obtain⟨n,hn,is',ht',rfl⟩:=ht;simp only[F6]at h;obtain ⟨v, y, hr, hy, hK⟩ := Zu9 hR (P := P) (o := ⟨none, .load t (.tmp x), 0, "", #[], none⟩) (i := .load n (.t x)) (by simp [trR, hn, trO]) h;cases y with
  | a y =>
   simp only at hK;obtain⟨vs,xs,h1,h2,h3⟩:=Zbe hR l is' _ ht' hK;refine⟨v::vs,y::xs,Zx4 ?_ h1,⟨hy,h2⟩,h3⟩;have hr1:(do pure (.value (<- Instr.loadAt t (a.tmps.getD x undef))):Sem Go.Next).run P w=.ok (.value v) w:=hr;have hptr:∃ad,a.tmps.getD x undef=.pointer (some ad):=by
    have hv:=Bk hR (P:=P) (ty:=0) (x:=.tmp x) (y:=.t x) rfl;have hv':VR pl S.next (S.opd (.t x)) (a.tmps.getD x undef):=hv;cases n with
    | none =>
     simp only[ev]at h;split at h
     ·rename_i he;rw[he]at hv';exact⟨_,hv'.2.2⟩
     ·rename_i he;rw[he]at hv';exact⟨_,hv'.2⟩
     ·rename_i he;rw[he]at hv';exact⟨_,hv'.1⟩
     exact h.elim
    | some m =>
     simp only[ev]at h;split at h
     ·rename_i he;rw[he]at hv';exact⟨_,hv'.2.2⟩
     ·rename_i he;rw[he]at hv';exact⟨_,hv'.2⟩
     ·rename_i he;rw[he]at hv';exact⟨_,hv'.1⟩
     exact h.elim
   obtain⟨ad,had⟩:=hptr;rw[had]at hr1;show (do loadVar t (<- asAddr (a.tmps.getD x undef)):Sem Value).run P w=.ok v w;rw[had];simp only[Instr.loadAt,Instr.sureAddr,asAddr,Sem.run_bind,Sem.run_pure]at hr1 ⊢;cases hl:(loadVar t ad).run P w with
   | ok u w' =>
    simp [hl]at hr1 ⊢;exact hr1
   | halt e w'=>simp [hl]at hr1
  | un=>exact hK.elim
  | tp xs=>exact hK.elim
  | fn f cs=>exact hK.elim
  | sb r n=>exact hK.elim
theorem Ytq {f : FuncId} {fn : Func} {c : Code} {as : List Arg} {out : Out} {is : List I} (hf : P.funcs[f]? = some fn) (hb : fn.body = some c) (hi : Il P fn.results.toList = some is) (hn : as.length ≤ fn.ntmps)
    (h : Vw P fn.ntmps c ⟨Iw 0 (Bm as).1, (Bm as).2.1, (Bm as).2.2, B3 as⟩ fun e S' => match e with
      | .ret | .normal => F6 S' is fun xs => Hz as out S'.roots (Fc xs)
      | _ => False) : Ir P f as out := by
  intro w own g pl vs hp hv;have hlen : ∀ (as : List Arg) (cs : List C) (b : Nat), (inV as cs b).length = as.length := by
    intro as
    induction as with
    | nil => intro cs b; rfl
    | cons x as ih => intro cs b; cases x with
      | val ag l => cases ag <;> simp [inV, ih]
      | ptr l => simp [inV, ih]
  have hvl : vs.length = as.length := by rw [← hv.length]; exact hlen _ _ _
  refine calls_of_wp hf hb ?_;refine wp_mono (h w own pl g pl _ w ⟨hp, ?_, rfl, ?_⟩) ?_
  · simp; omega
  · intro t x hx
    obtain ⟨_, h1⟩ := Zw hx;rw [Kxc] at h1;obtain ⟨v, h2, h3⟩ := hv.get t x h1;have ht : t < vs.length := (Kfa.1 h2).1;have : (vs.toArray ++ Array.replicate (fn.ntmps - vs.toArray.size) undef).getD t undef = v := by
      rw [Kab, Kid (by simpa using ht)];simp [h2]
    rw [this];exact h3
  rintro e a' w' ⟨S', g', pl', q, hfx, hR⟩;have fin : F6 S' is (fun xs => Hz as out S'.roots (Fc xs)) → a'.defers = [] ∧ ∃ v, (results fn a'.tmps).run P w' = .ok v w' ∧ ∃ rv g' pl' roots nx res, Ending.returned v = .returned rv ∧ Hp w own pl g' pl' roots nx nx (B3 as) w' ∧ VR pl' nx res rv ∧ Hz as out roots res := by
    intro hk;obtain ⟨us, xs, h1, h2, h3⟩ := Zbe hR _ _ _ hi hk;have hp' := hR.hp;rw [hfx] at hp';refine ⟨hR.defers, if h : us.toArray.size = 1 then us.toArray[0] else .tuple us.toArray, ?_, _, g', pl', S'.roots, S'.next, Fc xs, rfl, hp', ?_, h3⟩
    · rw [Zpn]
      rw [Kig];simp [h1]
    match xs, us, h2 with
    | [], [], _ => exact ⟨[], rfl, trivial⟩
    | [x], [u], h2 => exact h2.1
    | x :: y :: l, u :: u' :: us, h2 => exact ⟨u :: u' :: us, by simp, h2⟩
    | [_], _ :: _ :: _, h2 => exact h2.2.elim
    | _ :: _ :: _, [_], h2 => exact h2.2.elim
  cases e with
  | normal => exact fin q
  | ret => exact fin q
  | exit id => exact q.elim
  | goto l => exact q.elim
  | panic ch => exact q.elim
  | outgrown => exact q.elim
end Go.Vs
namespace Go.Vs
variable [Glb]
inductive Lst (ops:Array Oper):Array Bool->List Nat->Prop
 | nil {l:Array Bool}:Region.ready .any ops l=[]->Lst ops l []
 | cons {l:Array Bool} {i:Nat} {L:List Nat}:i∈Region.ready .any ops l->Lst ops (l.setIfInBounds i true) L->Lst ops l (i::L)
def nUn (l:Array Bool):Nat:=(l.toList.filter (! ·)).length
theorem Zpg {ops:Array Oper}{l:Array Bool}{i:Nat}(h:i∈Region.ready .any ops l):l[i]? = some false:=by
 simp only[Region.ready,Kjd,Kd,Kzb]at h;have h2:=h.2.1;rw[Kab]at h2;cases hx:l[i]? with
 | none=>rw[hx]at h2;cases h2
 | some b=>rw[hx]at h2;simp at h2;rw[h2]
theorem Zyh {l:Array Bool}{i:Nat}(h:l[i]? = some false):nUn (l.setIfInBounds i true)+1=nUn l:=by
 unfold nUn;rw[Array.toList_setIfInBounds];have h':l.toList[i]? = some false:=by simpa using h
 clear h;generalize l.toList=m at h'
 induction m generalizing i with
 | nil=>simp at h'
 | cons b m ih =>
  cases i with
  | zero =>
   simp only[Kv,Ka]at h';subst h';simp
  | succ i =>
   simp only[Kpa]at h';have:=ih h';simp only[List.set_cons_succ,Kuc];cases b<;>simp<;>omega
theorem Zx1 {ops:Array Oper}:∀(fuel t:Nat) (l:Array Bool),nUn l<=fuel->Lst ops l (Region.linearise.go .any ops fuel t l [])
 | 0,t,l,h=>by
  simp only[Region.linearise.go,Khg];refine .nil ?_;cases hr:Region.ready .any ops l with
  | nil=>rfl
  | cons i r =>
   have:=Zpg (ops:=ops) (l:=l) (i:=i) (by rw[hr];exact Kp);have:=Zyh this;omega
 | fuel+1,t,l,h=>by
  simp only[Region.linearise.go]
  change Lst ops l (match (Region.ready .any ops l)[t%(Region.ready .any ops l).length]? with
   | some i=>Region.linearise.go .any ops fuel (t / (Region.ready .any ops l).length) (l.setIfInBounds i true) [i]
   | none=>[].reverse)
  cases hi:(Region.ready .any ops l)[t%(Region.ready .any ops l).length]? with
  | none =>
   refine .nil ?_;cases hr:Region.ready .any ops l with
   | nil=>rfl
   | cons x xs =>
    rw[hr]at hi;have hlt:t%(x::xs).length<(x::xs).length:=Kmc _ (by simp);simp at hi;simp at hlt;omega
  | some i =>
   have hm:=Kaa hi;simp only;rw[linearise_go_acc];refine .cons hm (Zx1 fuel _ _ ?_);have:=Zyh (Zpg hm);omega
theorem Yeo {P:Program}{ops:Array Oper}{Q:Exit->Act->World->Prop}{L:List Nat}{l:Array Bool}(hL:Lst ops l L):∀(fuel:Nat) (a:Act) (w:World),wpAny P .any ops Q fuel l a w->wpOps P ops Q L a w:=by
 induction hL with
 | nil h =>
  intro fuel a w hw;cases fuel with
  | zero=>exact hw.2
  | succ n=>exact hw.1 h
 | @cons l i L h hL ih =>
  intro fuel a w hw;cases fuel with
  | zero =>
   have:=hw.1;rw[this]at h;cases h
  | succ n =>
   rw[wpOps_cons];exact wpOp_mono (fun a w hh=>ih n a w hh) (hw.2 i h)
def Fd (ops:Array Oper) (j i:Nat):Array Oper:=ops.modify j fun o=>{ o with after:=o.after.push ⟨i,.data⟩ }
theorem P6 (ops:Array Oper) (j i:Nat):(Fd ops j i).size=ops.size:=by simp [Fd]
theorem Zj1 (ops:Array Oper) (j i k:Nat):(Fd ops j i)[k]? = (ops[k]?).map fun o=>if k=j then { o with after:=o.after.push ⟨i,.data⟩ } else o:=by
 unfold Fd;rw[Array.getElem?_modify];by_cases h:j=k
 ·subst h;simp
 rw[if_neg h];cases ops[k]? with
 | none=>rfl
 | some o=>simp [Ne.symm h]
def Tm (ops:Array Oper) (l:Array Bool) (k:Nat):Bool:=!l.getD k true&&((ops[k]?).map (·.after.all fun e=>!Region.binds .any e||l.getD e.on false)).getD false
theorem K9 {ops:Array Oper}{l:Array Bool}{k:Nat}:k∈Region.ready .any ops l ↔ k<ops.size/\Tm ops l k=true:=by
 simp only[Region.ready,Kjd,Kvb];rfl
theorem Wp {ops:Array Oper}{l:Array Bool}{j i k:Nat}:Tm (Fd ops j i) l k=(Tm ops l k&&(decide (k≠j)||l.getD i false)):=by
 unfold Tm;rw[Zj1];cases ops[k]? with
 | none=>simp
 | some o =>
  by_cases h:k=j
  ·subst h;simp [Array.all_push,Region.binds,Kre]
  simp [h]
theorem Zzq {ops:Array Oper}{l:Array Bool}{j i:Nat}(h:Region.ready .any ops l=[]):Region.ready .any (Fd ops j i) l=[]:=by
 cases hr:Region.ready .any (Fd ops j i) l with
 | nil=>rfl
 | cons k r =>
  have:k∈Region.ready .any (Fd ops j i) l:=by rw[hr];exact Kp
  rw[K9,P6,Wp,Kd]at this;have:k∈Region.ready .any ops l:=K9.2 ⟨this.1,this.2.1⟩;rw[h]at this;cases this
theorem Yj9 {l:Array Bool}{i k:Nat}(h:l.getD i false=true):(l.setIfInBounds k true).getD i false=true:=by
 rw[Kab]at h ⊢;by_cases hk:k=i
 ·subst hk;cases hx:l[k]? with
  | none=>rw[hx]at h;cases h
  | some b =>
   have:k<l.size:=by
    rcases Kfc k l.size with q|q
    ·exact q
    rw[Kje q]at hx;cases hx
   rw[Kvd this];rfl
 rw[Kme hk];exact h
theorem Zx2 {ops:Array Oper}{j i:Nat}{l:Array Bool}{L:List Nat}(h:Lst ops l L) (hi:l.getD i false=true):Lst (Fd ops j i) l L:=by
 induction h with
 | nil h=>exact .nil (Zzq h)
 | cons h hL ih =>
  refine .cons ?_ (ih (Yj9 hi));rw[K9]at h ⊢;rw[P6,Wp,hi,Krf,Kyd];exact h
theorem Ybk {ops:Array Oper}{l:Array Bool}{k:Nat}(h:k∈Region.ready .any ops l):(l.setIfInBounds k true).getD k false=true:=by
 have hx:=Zpg h;have:k<l.size:=by
  rcases Kfc k l.size with q|q
  ·exact q
  rw[Kje q]at hx;cases hx
 rw[Kab,Kvd this];rfl
theorem Yri {ops:Array Oper}{i j:Nat}(hne:i≠j){l:Array Bool}{L:List Nat}(h:Lst ops l L):Lst (Fd ops j i) l L\/Lst (Fd ops i j) l L:=by
 induction h with
 | nil h=>exact .inl (.nil (Zzq h))
 | @cons l k L h hL ih =>
  by_cases k1:k=i
  ·subst k1;refine .inl (.cons ?_ (Zx2 hL (Ybk h)));rw[K9]at h ⊢;rw[P6,Wp,h.2,decide_eq_true hne];exact⟨h.1,rfl⟩
  by_cases k2:k=j
  ·subst k2;refine .inr (.cons ?_ (Zx2 hL (Ybk h)));rw[K9]at h ⊢;rw[P6,Wp,h.2,decide_eq_true (Ne.symm hne)];exact⟨h.1,rfl⟩
  have m1:k∈Region.ready .any (Fd ops j i) l:=by
   rw[K9]at h ⊢;rw[P6,Wp,h.2,decide_eq_true k2];exact⟨h.1,rfl⟩
  have m2:k∈Region.ready .any (Fd ops i j) l:=by
   rw[K9]at h ⊢;rw[P6,Wp,h.2,decide_eq_true k1];exact⟨h.1,rfl⟩
  rcases ih with q|q
  ·exact .inl (.cons m1 q)
  exact .inr (.cons m2 q)
def T1 (f:Nat->Nat) (o:Oper):Oper:={ o with after:=o.after.map fun e=>{ e with on:=f e.on },guard:=o.guard.map fun g=>(f g.1,g.2) }
def I6 (f g:Nat->Nat) (ops:Array Oper):Array Oper:=((List.range ops.size).filterMap fun k=>(ops[g k]?).map (T1 f)).toArray
def Q0 (f g:Nat->Nat) (n:Nat):Bool:=(List.range n).all fun k=>decide (f k<n)&&(decide (g k<n)&&((g (f k)==k)&&(f (g k)==k)))
def Zae (ops:Array Oper) (n:Nat):Bool:=ops.all fun o=>o.after.all (fun e=>decide (e.on<n))&&(match o.guard with|some (k,_)=>decide (k<n)|none=>true)
section
variable {f g:Nat->Nat} {ops:Array Oper}
theorem Ow (h:Q0 f g ops.size=true){k:Nat}(hk:k<ops.size):f k<ops.size/\g k<ops.size/\g (f k)=k/\f (g k)=k:=by
 have:=Kna.1 h k (Kvb.2 hk);simpa using this
theorem Zpk (h:Q0 f g ops.size=true){k:Nat}(hk:k<ops.size):(I6 f g ops)[k]? = (ops[g k]?).map (T1 f):=by
 have key:∀(l:List Nat),(∀x∈l,∃o,ops[g x]? = some o)->(l.filterMap fun k=>(ops[g k]?).map (T1 f))[k]? = (l[k]?).bind fun x=>(ops[g x]?).map (T1 f):=by
  intro l
  induction l generalizing k with
  | nil=>intro _;simp
  | cons x l ih =>
   intro hx;obtain⟨o,ho⟩:=hx x Kp;rw[List.filterMap_cons,ho];simp only[Kha];cases k with
   | zero=>simp [ho]
   | succ k =>
    simp only[Kpa];exact ih (by omega) fun y hy=>hx y (Kj _ hy)
 unfold I6;rw[List.getElem?_toArray,key _ (fun x hx=>?_),Kpd hk]
 ·rfl
 have:=(Ow h (Kvb.1 hx)).2.1;exact⟨_,Kcd this⟩
theorem Zhk (h:Q0 f g ops.size=true):(I6 f g ops).size=ops.size:=by
 unfold I6;have key:∀(l:List Nat),(∀x∈l,x<ops.size)->(l.filterMap fun k=>(ops[g k]?).map (T1 f)).length=l.length:=by
  intro l
  induction l with
  | nil=>intro _;rfl
  | cons x l ih =>
   intro hx;have:=(Ow h (hx x Kp)).2.1;rw[List.filterMap_cons,Kcd this];simp only[Kha,Kf];rw[ih fun y hy=>hx y (Kj _ hy)]
 show (List.filterMap _ _).toArray.size=_;rw[Kgg,key _ fun x hx=>Kvb.1 hx,Kif]
theorem Zyt (h:Q0 f g ops.size=true) (hb:Zae ops ops.size=true){l l':Array Bool}(hl:∀k,k<ops.size->l'[f k]? = l[k]?){k:Nat}(hk:k<ops.size):Tm (I6 f g ops) l' (f k)=Tm ops l k:=by
 obtain⟨h1,h2,h3,h4⟩:=Ow h hk;unfold Tm;rw[Zpk h h1,h3];have e1:∀b,∀j,j<ops.size->l'.getD (f j) b=l.getD j b:=fun b j hj=>by rw[Kab,Kab,hl j hj]
 rw[e1 _ k hk];congr 1;have ho:ops[k]? = some ops[k]:=Kcd hk;rw[ho];simp only[Kha,Kub];have hbo:=Array.all_eq_true.1 hb k hk;simp only[Kd]at hbo;have hed:=hbo.1;generalize ops[k]=o at hed;show (Array.map _ o.after).all _=_;rw[Array.all_map];rw[Kdc,Kjg,Kjg];rw[Kjg]at hed;refine forall_congr' fun e=>forall_congr' fun he=>?_;have:=hed e he;simp only[decide_eq_true_eq]at this;simp only[Function.comp,Region.binds,e1 _ _ this]
theorem Yrg (h:Q0 f g ops.size=true) (hb:Zae ops ops.size=true){l:Array Bool}{L:List Nat}(hL:Lst ops l L):∀l':Array Bool,l.size=ops.size->l'.size=ops.size->(∀k,k<ops.size->l'[f k]? = l[k]?)->Lst (I6 f g ops) l' (L.map f):=by
 induction hL with
 | @nil l hr =>
  intro l' s1 s2 hl;refine .nil ?_;cases hq:Region.ready .any (I6 f g ops) l' with
  | nil=>rfl
  | cons q r =>
   have hm:q∈Region.ready .any (I6 f g ops) l':=by rw[hq];exact Kp
   rw[K9,Zhk h]at hm;obtain⟨a,b,c,d⟩:=Ow h hm.1;have:=Zyt h hb hl b;rw[d]at this;rw[this]at hm;have hm2:g q∈Region.ready .any ops l:=K9.2 ⟨b,hm.2⟩;rw[hr]at hm2;cases hm2
 | @cons l k L hk hL ih =>
  intro l' s1 s2 hl;rw[K9]at hk;obtain⟨a,b,c,d⟩:=Ow h hk.1;refine .cons (K9.2 ⟨by rw[Zhk h];exact a,by rw[Zyt h hb hl hk.1];exact hk.2⟩) (ih _ (by simp [s1]) (by simp [s2]) fun j hj=>?_);by_cases e:k=j
  ·subst e;rw[Kvd (by omega),Kvd (by omega)]
  have e':f k≠f j:=fun q=>e (by rw[<-c,q,(Ow h hj).2.2.1]);rw[Kme e',Kme e];exact hl j hj
theorem Zyy {P:Program}{Q:Exit->Act->World->Prop}(h:Q0 f g ops.size=true) (hb:Zae ops ops.size=true):∀(L:List Nat),(∀k∈L,k<ops.size)->∀a w,wpOps P (I6 f g ops) Q (L.map f) a w->wpOps P ops Q L a w
 | [],_,a,w,hw=>hw
 | k::L,hk,a,w,hw=>by
  have hlt:=hk k Kp;obtain⟨h1,h2,h3,h4⟩:=Ow h hlt;rw[Ke,wpOps_cons]at hw;rw[wpOps_cons];have ih:=fun a w=>Zyy (P:=P) (Q:=Q) h hb L (fun j hj=>hk j (Kj _ hj)) a w;refine wpOp_mono ih ?_;unfold wpOp at hw ⊢;have ho:ops[k]? = some ops[k]:=Kcd hlt;rw[Zpk h h1,h3,ho]at hw;rw[ho];simp only[Kha]at hw;have hbo:=Array.all_eq_true.1 hb k hlt;simp only[Kd]at hbo;have hgd:=hbo.2;generalize ops[k]=o at hw hgd;have hwant:Region.wanted (T1 f o) (yielded (I6 f g ops) a.tmps)=Region.wanted o (yielded ops a.tmps):=by
   unfold Region.wanted T1;cases hg:o.guard with
   | none=>simp [hg]
   | some p =>
    obtain⟨j,want⟩:=p;rw[hg]at hgd;have hj:j<ops.size:=by simpa using hgd
    obtain⟨j1,j2,j3,j4⟩:=Ow h hj;simp only[hg,Kha];have:yielded (I6 f g ops) a.tmps (f j)=yielded ops a.tmps j:=by
     unfold yielded;rw[Zpk h j1,j3];cases ops[j]? with
     | none=>rfl
     | some o=>rfl
    rw[this]
  rw[hwant]at hw;simp only at hw ⊢;split
  ·rename_i hh;rw[if_pos hh]at hw;exact hw
  rename_i hh;rw[if_neg hh]at hw;exact hw
end
theorem Yrf {ops:Array Oper}{l:Array Bool}{L:List Nat}(h:Lst ops l L):∀k∈L,k<ops.size:=by
 induction h with
 | nil _=>intro k hk;cases hk
 | cons h hL ih =>
  intro k hk;rcases Kh.1 hk with rfl|hk
  ·exact (K9.1 h).1
  exact ih k hk
theorem Zot {P:Program}{ops:Array Oper}{Q:Exit->Act->World->Prop}{j i:Nat}:∀(L:List Nat) a w,wpOps P (Fd ops j i) Q L a w->wpOps P ops Q L a w
 | [],a,w,hw=>hw
 | k::L,a,w,hw=>by
  rw[wpOps_cons]at hw ⊢;refine wpOp_mono (fun a w=>Zot (j:=j) (i:=i) L a w) ?_;unfold wpOp at hw ⊢;rw[Zj1]at hw;cases ho:ops[k]? with
  | none=>rw[ho]at hw;exact hw
  | some o =>
   rw[ho]at hw;simp only[Kha]at hw ⊢;have hy:yielded (Fd ops j i) a.tmps=yielded ops a.tmps:=by
    funext m;unfold yielded;rw[Zj1];cases ops[m]? with
    | none=>rfl
    | some o =>
     simp only[Kha];by_cases hm:m=j
     ·rw[if_pos hm];rfl
     rw[if_neg hm]
   rw[hy]at hw;by_cases hkj:k=j
   ·rw[if_pos hkj]at hw;exact hw
   rw[if_neg hkj]at hw;exact hw
def unl (ops:Array Oper):Array Bool:=Array.replicate ops.size false
def Cov (ops:Array Oper) (l:List (Array Oper)):Prop:=∀L,Lst ops (unl ops) L->∃ops'∈l,∃L',Lst ops' (unl ops') L'/\∀(P:Program) (Q:Exit->Act->World->Prop) (a:Act) (w:World),wpOps P ops' Q L' a w->wpOps P ops Q L a w
theorem Ze7 (ops:Array Oper):Cov ops [ops]:=fun L hL=>⟨ops,Koa.2 rfl,L,hL,fun _ _ _ _ h=>h⟩
theorem Yfx {ops:Array Oper}{i j:Nat}{l1 l2:List (Array Oper)}(hne:i≠j) (h1:Cov (Fd ops j i) l1) (h2:Cov (Fd ops i j) l2):Cov ops (l1++l2):=fun L hL=>by
 have r1:unl (Fd ops j i)=unl ops:=by unfold unl;rw[P6]
 have r2:unl (Fd ops i j)=unl ops:=by unfold unl;rw[P6]
 rcases Yri hne hL with q|q
 ·rw[<-r1]at q;obtain⟨ops',hm,L',hL',hw⟩:=h1 L q;exact⟨ops',Kzd _ hm,L',hL',fun P Q a w h=>Zot L a w (hw P Q a w h)⟩
 rw[<-r2]at q;obtain⟨ops',hm,L',hL',hw⟩:=h2 L q;exact⟨ops',Kic _ hm,L',hL',fun P Q a w h=>Zot L a w (hw P Q a w h)⟩
theorem Yfw {f g:Nat->Nat}{ops:Array Oper}{l:List (Array Oper)}(h:Q0 f g ops.size=true) (hb:Zae ops ops.size=true) (hc:Cov (I6 f g ops) l):Cov ops l:=fun L hL=>by
 have hl:=Yrf hL;have q:=Yrg h hb hL (unl (I6 f g ops)) (by simp [unl]) (by simp [unl,Zhk h]) fun k hk=>by
  have:=(Ow h hk).1;unfold unl;rw[Zhk h,Kvc,Kvc,if_pos this,if_pos hk]
 obtain⟨ops',hm,L',hL',hw⟩:=hc _ q;exact⟨ops',hm,L',hL',fun P Q a w hh=>Zyy h hb L hl a w (hw P Q a w hh)⟩
def Zif (ops:Array Oper):Array Oper:=if (Q0 (fun k=>(Region.linearise .any ops 0).idxOf k) (fun k=>(Region.linearise .any ops 0).getD k 0) ops.size&&Zae ops ops.size)=true then I6 (fun k=>(Region.linearise .any ops 0).idxOf k) (fun k=>(Region.linearise .any ops 0).getD k 0) ops else ops
theorem Zth {ops:Array Oper}{l:List (Array Oper)}(h:Cov (Zif ops) l):Cov ops l:=by
 unfold Zif at h;split at h
 ·rename_i hh;simp only[Kd]at hh;exact Yfw hh.1 hh.2 h
 exact h
theorem Yrh (ops:Array Oper) (t:Nat):Lst ops (unl ops) (Region.linearise .any ops t):=by
 unfold Region.linearise;refine Zx1 ops.size t _ ?_;unfold nUn;refine Kla (Kqf _ _) ?_;simp [unl]
theorem Yep {P:Program}{N:Nat}{S:St}{Q:Exit->St->Prop}{ops:Array Oper}{its:List DI}(hck:Lx its 0 ops.toList its=true) (htr:Fu P N ops ops.toList=some (its.map (·.gi))) (hn:(its.filterMap (·.gi.dst)).Nodup)
  (h:Lz P S.fix (Gq its S.env) its [] [(S.roots,S.next)] [] (Q .normal)) {w0:World} {own0:Nat->Nat->Prop} {pl0:Pls} {g:Lab} {pl:Pls} {a:Act} {w:World} (hR:Rel N w0 own0 pl0 g pl S a w) :
  wpAny P .any ops (PQ N w0 own0 pl0 S.fix Q) ops.size (Array.replicate ops.size false) a { w with drawn:=w.drawn+1 }:=by
 have hL:=Zxm hck htr hn;obtain⟨R,ms,KS,hD,hKS,_,mm1,hm1,hK⟩:=Zfc its [] (S.roots,S.next) [] [] (fun j it hj b hb=>by
  obtain⟨_,_,_,_,hlt,_⟩:=hL.op j it hj;have:=hlt b hb;simp only[Ki];omega) h
 simp only[Ki,Kr,Km,Khg]at hD hm1 hK;rw[hD.len]at hK;have hlen:=hL.len;refine Ztz hL hD hKS hm1 hK ops.size (Array.replicate ops.size false) 0 (S.roots,S.next) g pl a w.drew (by simp [hlen]) ?_ ?_ ?_ (Kda _) rfl ?_ ?_
 ·rw[hlen];exact Kla (Kqf _ _) (by simp)
 ·intro j itj hj hl;exfalso;rw[Kab]at hl;simp only[Kvc]at hl;split at hl<;>simp at hl
 ·intro j itj hj hwj;refine⟨fun hl=>?_,fun h=>by omega⟩;exfalso;rw[Kab]at hl;simp only[Kvc]at hl;split at hl<;>simp at hl
 ·intro k _;rw[Kab];simp only[Kvc];split<;>simp
 have hRd:Rel N w0 own0 pl0 g pl S a w.drew:=⟨hR.hp.drew,hR.size,hR.defers,hR.env⟩;refine hRd.sub ?_;intro t y hy;rcases Zh7 hy with ⟨j,_,hl⟩|h
 ·exfalso;rw[Kab]at hl;simp only[Kvc]at hl;split at hl<;>simp at hl
 exact h
theorem Yxb {P:Program}{N:Nat}{S:St}{Q:Exit->St->Prop}{id:Nat}{ops:Array Oper}{l:List (Array Oper)}(hm:P.follows .mixedOrders=true) (hc:Cov ops l)
  (h:∀ops'∈l,∃its:List DI,Lx its 0 ops'.toList its=true/\Fu P N ops' ops'.toList=some (its.map (·.gi))/\(its.filterMap (·.gi.dst)).Nodup/\Lz P S.fix (Gq its S.env) its [] [(S.roots,S.next)] [] (Q .normal)):Vw P N (.region id ops true) S Q:=fun w0 own0 pl0 g pl a w hR=>by
 refine wp_region_draw fun t=>?_;simp only[Region.schedule,hm,Bool.true_or,if_true];obtain⟨ops',hmem,L',hL',hw⟩:=hc _ (Yrh ops t);obtain⟨its,h1,h2,h3,h4⟩:=h ops' hmem;exact hw _ _ _ _ (Yeo hL' ops'.size _ _ (Yep h1 h2 h3 h4 hR))
end Go.Vs
namespace Go.Vs
variable [Glb]
inductive Stm where
 | reg (gis:List GI)
 | drw (its:List DI)
 | alt (l:List (List DI))
 | seq (x y:Stm)
 | cond (c:Opd) (x y:Stm)
 | block (id:Nat) (x:Stm)
 | loop (x:Stm)
 | exit (id:Nat)
 | ret
 | skip
 deriving Inhabited
def nub:List Nat->List Nat
 | []=>[]
 | x::l=>let r:=nub l;if r.contains x then r else x::r
def Zob:List Oper->List (List Nat)->List (List Nat)
 | [],acc=>acc
 | o::l,acc=>Zob l (acc++[nub (Tv o++(Tv o).flatMap fun j=>acc.getD j [])])
def Zk2 (ws:List Bool):Nat->Nat
 | 0=>0
 | n+1=>(if ws.getD n false then 1 else 0)+Zk2 ws n
def Zwc (ws:List Bool) (ancs:List (List Nat)) (i:Nat):Nat->List Nat->Nat
 | m,[]=>m
 | m,j::l=>if ws.getD j false&&(ancs.getD j []).contains i then Zk2 ws j else Zwc ws ancs i m l
def Q6 (ws:List Bool) (ancs:List (List Nat)):Nat->List GI->List DI
 | _,[]=>[]
 | i,g::l=>⟨g,ancs.getD i [],ws.getD i false,if ws.getD i false then 0 else ((ancs.getD i []).filter fun j=>ws.getD j false).length,if ws.getD i false then 0 else Zwc ws ancs i (Zk2 ws ws.length) (List.range ws.length)⟩::Q6 ws ancs (i+1) l
def Pt (P:Program) (N:Nat) (ops:Array Oper):Option (List DI):=do
 let gis <- Fu P N ops ops.toList
 let its:=Q6 (gis.map fun g=>!Gd g) (Zob ops.toList []) 0 gis
 if Lx its 0 ops.toList its&&decide ((its.filterMap (·.gi.dst)).Nodup) then some its else none
theorem Zoe (ws:List Bool) (ancs:List (List Nat)):∀(gis:List GI) (i:Nat),(Q6 ws ancs i gis).map (·.gi)=gis
 | [],i=>rfl
 | g::l,i=>by simp only[Q6,Ke,Zoe ws ancs l (i+1)]
def Ysk (ws:List Bool) (ancs:List (List Nat)):Option (Nat×Nat):=((List.range ws.length).flatMap fun j=>(List.range j).map fun i=>(i,j)).find? fun p=>ws.getD p.1 false&&(ws.getD p.2 false&&!(ancs.getD p.2 []).contains p.1)
def Vc (P:Program) (N:Nat):Nat->Array Oper->List (Array Oper)
 | 0,ops=>[ops]
 | n+1,ops=>match Fu P N ops ops.toList with
  | none=>[ops]
  | some gis=>match Ysk (gis.map fun g=>!Gd g) (Zob ops.toList []) with
   | none=>[ops]
   | some (i,j)=>if i=j then [ops] else Vc P N n (Zif (Fd ops j i))++Vc P N n (Zif (Fd ops i j))
theorem Zk7 (P:Program) (N:Nat):∀(n:Nat) (ops:Array Oper),Cov ops (Vc P N n ops)
 | 0,ops=>Ze7 ops
 | n+1,ops=>by
  simp only[Vc];split
  ·exact Ze7 ops
  split
  ·exact Ze7 ops
  split
  ·exact Ze7 ops
  rename_i hne;exact Yfx hne (Zth (Zk7 P N n _)) (Zth (Zk7 P N n _))
def Q5 {α β:Type}(f:α->Option β):List α->Option (List β)
 | []=>some []
 | a::l=>match f a,Q5 f l with
  | some b,some r=>some (b::r)
  | _,_=>none
theorem Zx5 {α β:Type}{f:α->Option β}:∀{l:List α}{r:List β},Q5 f l=some r->∀a∈l,∃b∈r,f a=some b
 | [],_,_,a,ha=>by cases ha
 | x::l,r,h,a,ha=>by
  simp only[Q5]at h;split at h
  ·rename_i b r' hb hr;simp only[Ka]at h;subst h;rcases Kh.1 ha with rfl|ha
   ·exact⟨b,Kp,hb⟩
   obtain⟨c,hc,hf⟩:=Zx5 hr a ha;exact⟨c,Kj _ hc,hf⟩
  cases h
theorem Zx6 {α β:Type}{f:α->Option β}:∀{l:List α}{r:List β},Q5 f l=some r->∀b∈r,∃a∈l,f a=some b
 | [],r,h,b,hb=>by simp only[Q5,Ka]at h;subst h;cases hb
 | x::l,r,h,b,hb=>by
  simp only[Q5]at h;split at h
  ·rename_i b' r' hb' hr;simp only[Ka]at h;subst h;rcases Kh.1 hb with rfl|hb
   ·exact⟨x,Kp,hb'⟩
   obtain⟨c,hc,hf⟩:=Zx6 hr b hb;exact⟨c,Kj _ hc,hf⟩
  cases h
def Ga (P:Program) (N:Nat) (ops:Array Oper):Option Stm:=match Pt P N ops with
 | some its=>some (.drw its)
 | none=>match Q5 (Pt P N) (Vc P N 6 ops) with
  | some l=>some (.alt l)
  | none=>none
theorem Ydm {P:Program}{N:Nat}{ops:Array Oper}{its:List DI}(h:Ga P N ops=some (.drw its)):Pt P N ops=some its:=by
 unfold Ga at h;split at h
 ·rename_i x hx;simp only[Ka,Stm.drw.injEq]at h;rw[<-h];exact hx
 split at h<;>simp at h
theorem Ydl {P:Program}{N:Nat}{ops:Array Oper}{l:List (List DI)}(h:Ga P N ops=some (.alt l)):Q5 (Pt P N) (Vc P N 6 ops)=some l:=by
 unfold Ga at h;split at h
 ·simp at h
 split at h
 ·rename_i x hx;simp only[Ka,Stm.alt.injEq]at h;rw[<-h];exact hx
 simp at h
def Zw6:Stm->Bool
 | .drw _=>true
 | .alt _=>true
 | _=>false
theorem Ywz {P:Program}{N:Nat}{ops:Array Oper}{s:Stm}(h:Ga P N ops=some s):Zw6 s=true:=by
 unfold Ga at h;split at h
 ·simp only[Ka]at h;subst h;rfl
 split at h
 ·simp only[Ka]at h;subst h;rfl
 simp at h
theorem Ro {P:Program}{N:Nat}{ops:Array Oper}{s:Stm}(hs:Zw6 s=false):(Ga P N ops=some s)=False:=eq_false fun h=>by rw[Ywz h]at hs;cases hs
@[simp] theorem Yyq {P:Program} {N:Nat} {ops:Array Oper} {g:List GI}:(Ga P N ops=some (.reg g))=False:=Ro rfl
@[simp] theorem Yyr {P:Program} {N:Nat} {ops:Array Oper} {x y:Stm}:(Ga P N ops=some (.seq x y))=False:=Ro rfl
@[simp] theorem Yys {P:Program} {N:Nat} {ops:Array Oper} {c:Opd} {x y:Stm}:(Ga P N ops=some (.cond c x y))=False:=Ro rfl
@[simp] theorem Yyt {P:Program} {N:Nat} {ops:Array Oper} {i:Nat} {x:Stm}:(Ga P N ops=some (.block i x))=False:=Ro rfl
@[simp] theorem Yyu {P:Program} {N:Nat} {ops:Array Oper} {x:Stm}:(Ga P N ops=some (.loop x))=False:=Ro rfl
@[simp] theorem Yyv {P:Program} {N:Nat} {ops:Array Oper} {i:Nat}:(Ga P N ops=some (.exit i))=False:=Ro rfl
@[simp] theorem Yyw {P:Program} {N:Nat} {ops:Array Oper}:(Ga P N ops=some .ret)=False:=Ro rfl
@[simp] theorem Yyx {P:Program} {N:Nat} {ops:Array Oper}:(Ga P N ops=some .skip)=False:=Ro rfl
def trC (P:Program) (N:Nat):Code->Option Stm
 | .skip=>some .skip
 | .label _=>some .skip
 | .region _ ops false=>(Fu P N ops ops.toList).map .reg
 | .region _ ops true=>Ga P N ops
 | .seq a b=>do some (.seq (<- trC P N a) (<- trC P N b))
 | .cond c a b=>do some (.cond (<- trO P 0 c) (<- trC P N a) (<- trC P N b))
 | .block id a=>(trC P N a).map (.block id)
 | .loop a=>(trC P N a).map .loop
 | .exit id=>some (.exit id)
 | .ret=>some .ret
 | _=>none
def Sw (P:Program) (N:Nat) (s:Stm) (S:St) (Q:Exit->St->Prop):Prop:=∀c,trC P N c=some s->Vw P N c S Q
variable {P:Program} {N:Nat} {S:St} {Q:Exit->St->Prop}
theorem Zqv (h:Q .normal S):Sw P N .skip S Q:=fun c hc=>by
 cases c with
 | skip=>exact Yxj h
 | label l=>exact fun _ _ _ g pl _ _ hR=>wp_label ⟨S,g,pl,h,rfl,hR⟩
 | region id ops d=>cases d<;>simp [trC]at hc
 | seq a b=>simp [trC,Kl,Kg]at hc
 | cond c a b=>simp [trC,Kl,Kg]at hc
 | _=>simp [trC]at hc
theorem Zqu (h:Q .ret S):Sw P N .ret S Q:=fun c hc=>by
 cases c with
 | ret=>exact Yxh h
 | region id ops d=>cases d<;>simp [trC]at hc
 | seq a b=>simp [trC,Kl,Kg]at hc
 | cond c a b=>simp [trC,Kl,Kg]at hc
 | _=>simp [trC]at hc
theorem Yb7 {id:Nat}(h:Q (.exit id) S):Sw P N (.exit id) S Q:=fun c hc=>by
 cases c with
 | exit i=>simp [trC]at hc;subst hc;exact Yxd h
 | region id ops d=>cases d<;>simp [trC]at hc
 | seq a b=>simp [trC,Kl,Kg]at hc
 | cond c a b=>simp [trC,Kl,Kg]at hc
 | _=>simp [trC]at hc
theorem Pn {x y:Stm}(h:Sw P N x S (E6 (fun S'=>Sw P N y S' Q) Q)):Sw P N (.seq x y) S Q:=fun c hc=>by
 cases c with
 | seq a b =>
  simp only[trC,Kl,Kg,Ka,Stm.seq.injEq]at hc;obtain⟨x',hx,y',hy,rfl,rfl⟩:=hc;refine Yxi (Ydo (h a hx) ?_);intro e S' q;cases e<;>first|exact q b hy|exact q
 | region id ops d=>cases d<;>simp [trC]at hc
 | cond c a b=>simp [trC,Kl,Kg]at hc
 | _=>simp [trC]at hc
theorem Zbu {o:Opd}{x y:Stm}{b:Bool}(hb:tv (S.opd o)=some b) (ht:b=true->Sw P N x S Q) (hf:b=false->Sw P N y S Q):Sw P N (.cond o x y) S Q:=fun c hc=>by
 cases c with
 | cond c a d =>
  simp only[trC,Kl,Kg,Ka,Stm.cond.injEq]at hc;obtain⟨o',ho,x',hx,y',hy,rfl,rfl,rfl⟩:=hc;exact Yxa ho hb (fun h=>ht h a hx) fun h=>hf h d hy
 | region id ops d=>cases d<;>simp [trC]at hc
 | seq a b=>simp [trC,Kl,Kg]at hc
 | _=>simp [trC]at hc
theorem Zqt {id:Nat}{x:Stm}(h:Sw P N x S (Gc id Q)):Sw P N (.block id x) S Q:=fun c hc=>by
 cases c with
 | block i a =>
  simp only[trC,Ks,Stm.block.injEq]at hc;obtain⟨x',hx,rfl,rfl⟩:=hc;exact Yw9 (h a hx)
 | region id ops d=>cases d<;>simp [trC]at hc
 | seq a b=>simp [trC,Kl,Kg]at hc
 | cond c a b=>simp [trC,Kl,Kg]at hc
 | _=>simp [trC]at hc
theorem Yvv {x:Stm}(I:Nat->St->Prop) (n:Nat) (h0:∃T,I n T/\Le S T) (hr:∀k T,T.fix=S.fix->I k T->Sw P N x T (E6 (fun S'=>∃k' T',k'<k/\I k' T'/\Le S' T') Q)):Sw P N (.loop x) S Q:=fun c hc=>by
 cases c with
 | loop a =>
  simp only[trC,Ks,Stm.loop.injEq]at hc;obtain⟨x',hx,rfl⟩:=hc;exact Yxe I n h0 fun k T hf hI=>hr k T hf hI a hx
 | region id ops d=>cases d<;>simp [trC]at hc
 | seq a b=>simp [trC,Kl,Kg]at hc
 | cond c a b=>simp [trC,Kl,Kg]at hc
 | _=>simp [trC]at hc
theorem Zbv {gis:List GI}(h:Ee P gis S (Q .normal)):Sw P N (.reg gis) S Q:=fun c hc=>by
 cases c with
 | region id ops d =>
  cases d with
  | false =>
   simp only[trC,Ks,Stm.reg.injEq]at hc;obtain⟨gs,hg,rfl⟩:=hc;exact Yxf hg h
  | true=>simp [trC]at hc
 | seq a b=>simp [trC,Kl,Kg]at hc
 | cond c a b=>simp [trC,Kl,Kg]at hc
 | _=>simp [trC]at hc
theorem Ygq {ops:Array Oper}{its:List DI}(hg:Pt P N ops=some its):Lx its 0 ops.toList its=true/\Fu P N ops ops.toList=some (its.map (·.gi))/\(its.filterMap (·.gi.dst)).Nodup:=by
 simp only[Pt,Kl,Kg]at hg;obtain⟨gis,hgis,hg⟩:=hg;split at hg
 ·rename_i hck;simp only[Ka]at hg;simp only[Kd,decide_eq_true_eq]at hck;subst hg;exact⟨hck.1,by rw[Zoe];exact hgis,hck.2⟩
 simp at hg
theorem Yvx {s:Stm}{Q':Exit->St->Prop}(h:Sw P N s S Q) (hq:∀e S',Q e S'->Q' e S'):Sw P N s S Q':=fun c hc=>Ydo (h c hc) hq
theorem Zpt {f : FuncId} {fn : Func} {c : Code} {s : Stm} {as : List Arg} {out : Out} {is : List I} (hf : P.funcs[f]? = some fn) (hb : fn.body = some c) (hs : trC P fn.ntmps c = some s) (hi : Il P fn.results.toList = some is) (hn : as.length ≤ fn.ntmps)
    (h : Sw P fn.ntmps s ⟨Iw 0 (Bm as).1, (Bm as).2.1, (Bm as).2.2, B3 as⟩ fun e S' => match e with
      | .ret | .normal => F6 S' is fun xs => Hz as out S'.roots (Fc xs)
      | _ => False) : Ir P f as out := Ytq hf hb hi hn (h c hs)
end Go.Vs
namespace Go.Vs
variable [Glb]
theorem Ze {P:Program}{N:Nat}{b:Option Code}{s:Stm}(h:(b.bind (trC P N))=some s):∃c,b=some c/\trC P N c=some s:=by
 cases b with
 | none=>simp at h
 | some c=>exact⟨c,rfl,h⟩
def bD (bs:List UInt8):List (List D):=bs.map fun b=>[.lf (.int .u8 b.toNat)]
@[simp] theorem Gb (bs:List UInt8):(bD bs).length=bs.length:=by simp [bD]
variable {P:Program}
theorem Yra {as:List Arg}{res:List (Bool×List D)}{roots rt:List (Nat×Root)}{xs:List A}(h1:inB as (Ca as).1=[]) (h2:H8 (flat as) 0=[]) (h3:xs.map (fun x=>((Dn x).1,(Dn x).2.length))=res.map (fun x=>(x.1,x.2.length)))
  (h4:Cx roots (xs.flatMap fun x=>(Dn x).2)=some (res.flatMap (·.2),rt)):Hz as ⟨res,[],[]⟩ roots (Fc xs):=by
 refine⟨xs,Zte xs,h3,[],by rw[h1];trivial,by simp,rt, ?_,by rw[h1];rfl,by rw[h2];trivial⟩;rw[h1];simpa using h4
theorem Zrr {z:Int}(h1:-9223372036854775808<=z) (h2:z<9223372036854775808):IntKind.i64.wrap z=z:=IntWalk.i64_in z ⟨h1,by omega⟩
end Go.Vs
namespace Go.Vs
variable [Glb]
def Dx (s:List (Nat×Nat)):C->C
 | .rf r p sz lo n=>match get s r with
  | some r'=>.rf r' p sz lo n
  | none=>.un
 | .pe r p i c=>match get s r with
  | some r'=>.pe r' p i c
  | none=>.un
 | .pb r c=>match get s r with
  | some r'=>.pb r' c
  | none=>.un
 | x=>x
def Rf (s:List (Nat×Nat)):Root->Root
 | .bx cs=>.bx (cs.map (Dx s))
 | .ib cs=>.ib (cs.map (Dx s))
 | x=>x
def L3:List (Nat×Nat)->Nat->Nat
 | [],r=>r
 | (a,b)::s,r=>if b=r then a else L3 s r
def O7 (s:List (Nat×Nat)) (nx fx:Nat):Bool:=decide ((s.map (·.2)).Nodup)&&s.all (fun x=>decide (x.2<nx)&&(decide (fx<=x.2)||x.1==x.2))&&decide (fx<=nx)
theorem Zf0 {α:Type}:∀{l:List (Nat×α)}{k:Nat}{x:α},get l k=some x->(k,x)∈l
 | [],_,_,h=>by simp [get]at h
 | (j,y)::l,k,x,h=>by
  simp only[get]at h;split at h
  ·rename_i e;subst e;simp only[Ka]at h;subst h;exact Kp
  exact Kj _ (Zf0 h)
theorem Zaj:∀{s:List (Nat×Nat)}{r r':Nat},(s.map (·.2)).Nodup->get s r=some r'->L3 s r'=r
 | [],_,_,_,h=>by simp [get]at h
 | (a,b)::s,r,r',hn,h=>by
  simp only[Ke,Kta]at hn;simp only[get]at h;simp only[L3];split at h
  ·rename_i e;simp only[Ka]at h;rw[if_pos h];exact e
  have:b≠r':=fun e=>hn.1 (by rw[e];exact Ky.2 ⟨(r,r'),Zf0 h,rfl⟩);rw[if_neg this];exact Zaj hn.2 h
theorem Zni:∀{s:List (Nat×Nat)}{r:Nat},(∀x∈s,x.2=r->x.1=r)->L3 s r=r
 | [],_,_=>rfl
 | (a,b)::s,r,h=>by
  simp only[L3];split
  ·rename_i e;exact h (a,b) Kp e
  exact Zni fun x hx=>h x (Kj _ hx)
theorem CR.ren {pl pl':Pls}{nx nx':Nat}{s:List (Nat×Nat)}(hk:∀r r',get s r=some r'->r'<nx'/\∀p,pl' r' p=pl r p){x:C}{v:Value}(h:CR pl nx x v):CR pl' nx' (Dx s x) v:=by
 cases x with
 | rf r p sz lo n =>
  simp only[Dx];cases hg:get s r with
  | none=>exact CR.one h
  | some r'=>exact⟨(hk r r' hg).1,by rw[(hk r r' hg).2];exact h.2⟩
 | pe r p i c =>
  simp only[Dx];cases hg:get s r with
  | none=>exact CR.one h
  | some r'=>exact⟨(hk r r' hg).1,by rw[(hk r r' hg).2];exact h.2⟩
 | pb r c =>
  simp only[Dx];cases hg:get s r with
  | none=>exact CR.one h
  | some r'=>exact⟨(hk r r' hg).1,by rw[(hk r r' hg).2];exact h.2⟩
 | un=>exact h
 | nl sz=>exact h
 | lf u=>exact h
theorem Dj.ren {st:Nat->Nat->Prop}{w:World}{g g':Lab}{pl pl':Pls}{nx nx':Nat}{s:List (Nat×Nat)}(hk:∀r r',get s r=some r'->r'<nx'/\∀p,pl' r' p=pl r p) (hg:∀b o r p r',g b o=some (r,p)->get s r=some r'->g' b o=some (r',p))
  {r r':Nat} {x:Root} (hr:get s r=some r') (h:Dj st w g pl nx r x):Dj st w g' pl' nx' r' (Rf s x):=by
 have e:=(hk r r' hr).2;have nc:∀{p:Af} {sz:Nat} {es:List (List D)},NodeC w pl r p sz es->NodeC w pl' r' p sz es:=by
  intro p sz es h;refine⟨by rw[e];exact h.szp,by rw[e];exact h.le,by rw[e];exact h.nil,h.szs, ?_⟩;intro i el c d h1 h2;rw[e,e];exact h.cells i el c d h1 h2
 cases x with
 | tr sz es =>
  intro p n hn;obtain⟨h1,h2⟩:=h p n hn;refine⟨nc h1, ?_⟩;intro j hj;rw[e]at hj ⊢;obtain⟨a,b,c⟩:=h2 j hj;exact⟨hg _ _ _ _ _ a hr,b,c⟩
 | im sz es =>
  intro p n hn;obtain⟨h1,h2⟩:=h p n hn;refine⟨nc h1, ?_⟩;intro j hj;rw[e]at hj ⊢;exact h2 j hj
 | bx cs =>
  intro c x hx;simp only[Kba,Ks]at hx;obtain⟨y,hy,rfl⟩:=hx;obtain⟨v,a,b,l,f⟩:=h c y hy;rw[e];exact⟨v,a,b.ren hk,hg _ _ _ _ _ l hr,f⟩
 | ib cs =>
  intro c x hx;simp only[Kba,Ks]at hx;obtain⟨y,hy,rfl⟩:=hx;obtain⟨v,a,b,l⟩:=h c y hy;rw[e];exact⟨v,a,b.ren hk,l⟩
def Pz (s:List (Nat×Nat)) (E T:List (Nat×V)):Prop:=∀t x,get T t=some x->x=.un\/∃y,get E t=some y/\y.map (Dx s)=x
def U9 (s:List (Nat×Nat)) (R T:List (Nat×Root)):Prop:=∀r x,get T r=some x->∃r0 y,get R r0=some y/\get s r0=some r/\Rf s y=x
theorem Zu5 {s:List (Nat×Nat)}{E:List (Nat×V)}:Pz s E []:=fun t x h=>by simp [get]at h
theorem Zu6 {s:List (Nat×Nat)}{E T:List (Nat×V)}{u:Nat}(h:Pz s E T):Pz s E ((u,.un)::T):=fun t x hx=>by
 simp only[get]at hx;split at hx
 ·simp only[Ka]at hx;exact .inl hx.symm
 exact h t x hx
theorem Zu4 {s:List (Nat×Nat)}{E T:List (Nat×V)}{u:Nat}{x y:V}(h1:get E u=some y) (h2:y.map (Dx s)=x) (h:Pz s E T):Pz s E ((u,x)::T):=fun t z hz=>by
 simp only[get]at hz;split at hz
 ·rename_i e;subst e;simp only[Ka]at hz;subst hz;exact .inr ⟨y,h1,h2⟩
 exact h t z hz
theorem Yae {s:List (Nat×Nat)}{R:List (Nat×Root)}:U9 s R []:=fun t x h=>by simp [get]at h
theorem W4 {s:List (Nat×Nat)}{R T:List (Nat×Root)}{u:Nat}{x y:Root}(r0:Nat) (h1:get R r0=some y) (h2:get s r0=some u) (h3:Rf s y=x) (h:U9 s R T):U9 s R ((u,x)::T):=fun t z hz=>by
 simp only[get]at hz;split at hz
 ·rename_i e;subst e;simp only[Ka]at hz;subst hz;exact⟨r0,y,h1,h2,h3⟩
 exact h t z hz
theorem Le.ren {S T:St}(s:List (Nat×Nat)) (hf:T.fix=S.fix) (hok:O7 s T.next S.fix=true) (he:Pz s S.env T.env) (hr:U9 s S.roots T.roots):Le S T:=⟨hf,fun N w0 own0 pl0 g pl a w hR=>by
 simp only[O7,Kd,decide_eq_true_eq,Kna,Kmb,beq_iff_eq]at hok;obtain⟨⟨hnd,hall⟩,hle⟩:=hok;obtain⟨h1,h2,h3,h4⟩:=hR;obtain⟨a1,a2,a3,a4,a5,a6⟩:=h1;have hk:∀r r',get s r=some r'->r'<T.next/\∀p,(fun r p=>pl (L3 s r) p) r' p=pl r p:=fun r r' h=>⟨(hall _ (Zf0 h)).1,fun p=>by simp only[Zaj hnd h]⟩;refine⟨fun b o=>(g b o).bind fun x=>(get s x.1).map fun r'=>(r',x.2),fun r p=>pl (L3 s r) p,⟨⟨a1, ?_, ?_, ?_,Kc _, ?_⟩,h2,h3, ?_⟩⟩
 ·intro b o x hx;simp only[Kg,Ks]at hx;obtain⟨y,hy,r',hr',rfl⟩:=hx;obtain⟨b1,b2,_⟩:=a2 b o y hy;exact⟨b1,b2,(hk _ _ hr').1⟩
 ·intro r p hlt;rw[hf]at hlt;have:L3 s r=r:=Zni fun x hx e=>by
   rcases (hall x hx).2 with h|h
   ·omega
   omega
  simp only[this];exact a3 r p hlt
 ·rw[hf];exact hle
 ·intro r x hx;obtain⟨r0,y,h5,h6,rfl⟩:=hr r x hx;refine⟨(hk _ _ h6).1,(a6 r0 y h5).2.ren hk ?_ h6⟩;intro b o r1 p r2 h7 h8;simp only[h7,Kra,h8,Kha]
 ·intro t x hx;rcases he t x hx with rfl|⟨y,hy,rfl⟩
  ·trivial
  ·exact VR.killed (fun z u hz=>hz.ren hk) (h4 t y hy)⟩
def upd:List (Nat×V)->List (Nat×V)->List (Nat×V)
 | [],E=>E
 | (t,x)::l,E=>upd l (put E t x)
def sel:List Nat->List (Nat×V)->List (Nat×V)
 | [],_=>[]
 | k::l,E=>match Vs.get E k with
  | some x=>(k,x)::sel l E
  | none=>sel l E
variable {P:Program} {N:Nat} {Q:Exit->St->Prop}
def Yd3 {α:Type}(f:Nat) (vars:α->List (Nat×V)) (roots:α->List (Nat×Root)) (nx:Nat) (inv:α->Prop) (m:α->Nat) (keep:List Nat) (E:List (Nat×V)) (k:Nat) (S':St):Prop :=
 ∃a',inv a'/\m a'<k/\S'.fix=f/\∃s,O7 s nx f=true/\Pz s S'.env (upd (vars a') (sel keep E))/\U9 s S'.roots (roots a')
theorem Yvw {α:Type}{x:Stm}{E:List (Nat×V)}{R:List (Nat×Root)}{n f:Nat}(keep:List Nat) (vars:α->List (Nat×V)) (roots:α->List (Nat×Root)) (nx:Nat) (inv:α->Prop) (m:α->Nat) (x0:α) (s0:List (Nat×Nat)) (h0:inv x0) (hok:O7 s0 nx f=true) (hE:Pz s0 E (upd (vars x0) (sel keep E))) (hR:U9 s0 R (roots x0))
  (hr:∀a,inv a->Sw P N x ⟨upd (vars a) (sel keep E),roots a,nx,f⟩ (E6 (Yd3 f vars roots nx inv m keep E (m a)) Q)):Sw P N (.loop x) ⟨E,R,n,f⟩ Q:=by
 refine Yvv (fun k T=>∃a,inv a/\k=m a/\T=⟨upd (vars a) (sel keep E),roots a,nx,f⟩) (m x0) ⟨_,⟨x0,h0,rfl,rfl⟩,Le.ren s0 rfl hok hE hR⟩ ?_;rintro k T hf ⟨a,ha,rfl,rfl⟩;refine Yvx (hr a ha) ?_;intro e S' q;cases e<;>try exact q
 obtain⟨a',h1,h2,h3,s,h4,h5,h6⟩:=q;exact⟨m a',_,h2,⟨a',h1,rfl,rfl⟩,Le.ren s h3.symm (by rw[h3];exact h4) h5 h6⟩
theorem Fe {α:Type}{p:α->Prop}:∀x∈([]:List α),p x:=by simp
theorem Zfs {α:Type}{p:α->Prop}{a:α}{l:List α}(h:p a) (hl:∀x∈l,p x):∀x∈a::l,p x:=by
 intro x hx;rcases Kh.1 hx with rfl|hx
 ·exact h
 exact hl x hx
end Go.Vs
namespace Go.Vs
variable [Glb]
theorem Yxm {n:Nat}(h:n<9223372036854775808):IntKind.i64.wrap (n:Int)=(n:Int):=Zrr (by omega) (by omega)
theorem Zoo (n a:Nat):BitVec.ofInt n (a:Int)=BitVec.ofNat n a:=by
 apply BitVec.eq_of_toNat_eq;simp [BitVec.toNat_ofInt,BitVec.toNat_ofNat]
theorem Yek {a b:Nat}(ha:a<9223372036854775808) (hb:b<9223372036854775808):IntKind.i64.wrap (((BitVec.ofInt IntKind.i64.bits (a:Int)&&&BitVec.ofInt IntKind.i64.bits (b:Int)).toNat:Nat):Int)=((a&&&b:Nat):Int):=by
 rw[Zoo,Zoo,BitVec.toNat_and,BitVec.toNat_ofNat,BitVec.toNat_ofNat,show IntKind.i64.bits=64 from rfl,Kpc (by omega),Kpc (by omega)];exact Yxm (Nat.and_lt_two_pow (n:=63) a hb)
theorem Yel {a k m:Nat}(ha:a<9223372036854775808) (hm:m=2^k-1) (hk:k<63):IntKind.i64.wrap (((BitVec.ofInt IntKind.i64.bits (a:Int)&&&BitVec.ofInt IntKind.i64.bits (m:Int)).toNat:Nat):Int)=((a%2^k:Nat):Int):=by
 have h2:2^k<2^63:=Nat.pow_lt_pow_right (by omega) hk;rw[Yek ha (by omega),hm,Kah]
def Ob (x:Nat):Nat:=if 2*x > 65535 then (2*x) ^^^ 69665 else 2*x
def Ly:Nat->Nat->Nat
 | 0,x=>x
 | n+1,x=>Ly n (Ob x)
def Zn (x:Nat) (b:UInt8):Nat:=Ly 8 (x ^^^ (256*b.toNat))
def crc (l:List UInt8):Nat:=l.foldl Zn 65535
theorem Yfy {x:Nat}(h:x<65536):Ob x<65536:=by
 unfold Ob;split
 ·rename_i h2;have e:(2*x ^^^ 69665) >>> 16=0:=by
   rw[Nat.shiftRight_xor_distrib,Kkg,Kkg];have:2*x / 2^16=1:=by omega
   rw[this,show 69665 / 2^16=1 from rfl];rfl
  rw[Kkg]at e;omega
 omega
theorem Ztj {n:Nat}:∀{x:Nat},x<65536->Ly n x<65536:=by
 induction n with
 | zero=>exact fun h=>h
 | succ n ih=>exact fun h=>ih (Yfy h)
theorem Yf0 {n:Nat}:∀{x:Nat},Ly (n+1) x=Ob (Ly n x):=by
 induction n with
 | zero=>intro x;rfl
 | succ n ih=>intro x;rw[Ly,ih];rfl
theorem Zk8 {x:Nat}(h:x<65536) (b:UInt8):x ^^^ (256*b.toNat)<65536:=Nat.xor_lt_two_pow (n:=16) h (by have:=b.toNat_lt;omega)
theorem Yfz {x:Nat}(h:x<65536) (b:UInt8):Zn x b<65536:=Ztj (Zk8 h b)
theorem Yf1 {l:List UInt8}{i:Nat}(h:i<l.length):crc (l.take (i+1))=Zn (crc (l.take i)) l[i]:=by
 rw[Kbc h];simp only[crc,Kae,Ktc,Ksf]
theorem Oc (l:List UInt8):crc l<65536:=by
 have:∀(l:List UInt8) (x:Nat),x<65536->l.foldl Zn x<65536:=by
  intro l
  induction l with
  | nil=>exact fun x h=>h
  | cons b l ih=>intro x h;rw[Ktc];exact ih _ (Yfz h b)
 unfold crc;exact this l 65535 (by decide)
end Go.Vs
namespace Go.Vs
variable [Glb]
def sD (l:List (List UInt8)):List (List D):=l.map fun b=>[.sl 1 (bD b)]
@[simp] theorem F7 (l:List (List UInt8)):(sD l).length=l.length:=by simp [sD]
theorem Yaw {l:List (List UInt8)}{i:Nat}(h:i<l.length):(sD l)[i]? = some [.sl 1 (bD l[i])]:=by simp [sD,h]
def w2 (v:Nat):List UInt8:=[UInt8.ofNat (v / 256),UInt8.ofNat v]
@[simp] theorem Yyy (v:Nat):(w2 v).length=2:=rfl
theorem Yj4 {l:List (List UInt8)}{i:Nat}(h:i<l.length):(l.take (i+1)).flatten=(l.take i).flatten++l[i]:=by
 rw[Kbc h];simp only[List.flatten_append,Kfd,Klf,Kw]
theorem Xi {roots rt:List (Nat×Root)}{r sz n:Nat}{es:List (List D)}{l:List C}{ds:List D}(h:get roots r=some (.tr sz es)) (hn:n=es.length) (ht:Cx (Et roots r []) l=some (ds,rt)):Cx roots (.rf r [] sz 0 n::l)=some (.sl sz es::ds,rt):=by
 subst hn;simp [Cx,Dh,h,Am,ht]
theorem Xj {roots rt:List (Nat×Root)}{v:Value}{l:List C}{ds:List D}(ht:Cx roots l=some (ds,rt)):Cx roots (.lf v::l)=some (.lf v::ds,rt):=by
 simp [Cx,Dh,ht]
end Go.Vs
namespace Go.Vs
variable [Glb]
variable {P:Program} {E:List (Nat×V)} {R:List (Nat×Root)} {n f d:Nat} {l:List GI} {K:St->Prop}
end Go.Vs
namespace Go.Vs
variable [Glb]
def oT:Opd->List Nat
 | .t n=>[n]
 | .k _=>[]
def oM:Option Opd->List Nat
 | some x=>oT x
 | none=>[]
def Li:I->List Nat
 | .mv x=>oT x
 | .pick c a b=>oT c++(oT a++oT b)
 | .load _ x=>oT x
 | .nilc x=>oT x
 | .bin _ x y=>oT x++oT y
 | .beq _ x y=>oT x++oT y
 | .aeq _ _ x y=>oT x++oT y
 | .un _ x=>oT x
 | .conv _ x=>oT x
 | .b2s x=>oT x
 | .slc _ x lo hi=>oT x++(oM lo++oM hi)
 | .ssl x lo hi=>oT x++(oM lo++oM hi)
 | .fld _ _ x=>oT x
 | .fad _ x=>oT x
 | .iad _ x i=>oT x++oT i
 | .iaa _ _ x i=>oT x++oT i
 | .idx x i=>oT x++oT i
 | .ixa _ _ _ x i=>oT x++oT i
 | .ext _ x=>oT x
 | .len x=>oT x
 | .sln x=>oT x
 | .sid x=>oT x
 | .build _ parts=>parts.flatMap fun y=>oT y.2.2
 | .mkf _ caps=>caps.flatMap oT
def Pu:W->List Nat
 | .alloc _=>[]
 | .box x=>oT x
 | .lit _ _ _ parts=>parts.flatMap fun y=>oT y.2
 | .store _ x v=>oT x++oT v
 | .s2b x=>oT x
 | .mks _ _ _ l c=>oT l++oT c
 | .app _ _ _ x y=>oT x++oT y
 | .aps _ x y=>oT x++oT y
 | .clr _ _ x=>oT x
 | .call _ args=>args.flatMap oT
 | .calv f args=>oT f++args.flatMap oT
def Zrg:J->List Nat
 | .rd i=>Li i
 | .wr w=>Pu w
def Ul (g:GI):List Nat:=(match g.guard with|some (t,_)=>[t]|none=>[])++Zrg g.op
def S5:I->Bool
 | .load _ _=>false
 | .b2s _=>false
 | _=>true
def free (g:GI):Bool:=match g.op with
 | .rd i=>S5 i
 | _=>false
section
variable {E E':List (Nat×V)} {R R':List (Nat×Root)} {n n' f:Nat}
theorem B6 {x:Opd}(h:∀t∈oT x,get E t=get E' t):(⟨E,R,n,f⟩:St).opd x=(⟨E',R',n',f⟩:St).opd x:=by
 cases x with
 | t k=>simp only[St.opd,h k (by simp [oT])]
 | k v=>rfl
theorem Zg5 {x:Option Opd}(h:∀t∈oM x,get E t=get E' t):x.map (⟨E,R,n,f⟩:St).opd=x.map (⟨E',R',n',f⟩:St).opd:=by
 cases x with
 | none=>rfl
 | some x=>simp only[Kha];rw[B6 h]
theorem Zfu:∀(parts:List (Nat×Nat×Opd)) (cs:List C),(∀t∈parts.flatMap (fun y=>oT y.2.2),get E t=get E' t)->Hh ⟨E,R,n,f⟩ cs parts=Hh ⟨E',R',n',f⟩ cs parts
 | [],cs,_=>rfl
 | (a,b,x)::parts,cs,h=>by
  simp only[Kxa,Kyb]at h;simp only[Hh];rw[B6 (R':=R') (n':=n') h.1];split
  ·split
   ·exact Zfu parts _ h.2
   rfl
  rfl
theorem Zeg:∀(args:List Opd),(∀t∈args.flatMap oT,get E t=get E' t)->args.map (⟨E,R,n,f⟩:St).opd=args.map (⟨E',R',n',f⟩:St).opd
 | [],_=>rfl
 | x::l,h=>by
  simp only[Kxa,Kyb]at h;simp only[Ke];rw[B6 (R':=R') (n':=n') h.1,Zeg l h.2]
theorem Yjk {K:V->Prop}{i:I}(hu:∀t∈Li i,get E t=get E' t) (h:ev ⟨E,R,n,f⟩ K i):ev ⟨E',R,n,f⟩ K i:=by
 cases i with
 | mv x=>simp only[ev]at h ⊢;rw[<-B6 (R:=R) (n:=n) hu];exact h
 | pick c a b =>
  simp only[Li,Kyb]at hu;simp only[ev]at h ⊢;rw[<-B6 (R:=R) (n:=n) hu.1,<-B6 (R:=R) (n:=n) hu.2.1,<-B6 (R:=R) (n:=n) hu.2.2];exact h
 | load k x=>cases k<;>(simp only[ev]at h ⊢;rw[<-B6 (R:=R) (n:=n) hu];exact h)
 | nilc x=>simp only[ev]at h ⊢;rw[<-B6 (R:=R) (n:=n) hu];exact h
 | bin op x y=>simp only[Li,Kyb]at hu;simp only[ev]at h ⊢;rw[<-B6 (R:=R) (n:=n) hu.1,<-B6 (R:=R) (n:=n) hu.2];exact h
 | aeq op m x y=>simp only[Li,Kyb]at hu;simp only[ev]at h ⊢;rw[<-B6 (R:=R) (n:=n) hu.1,<-B6 (R:=R) (n:=n) hu.2];exact h
 | beq op x y=>simp only[Li,Kyb]at hu;simp only[ev]at h ⊢;rw[<-B6 (R:=R) (n:=n) hu.1,<-B6 (R:=R) (n:=n) hu.2];exact h
 | un op x=>simp only[ev]at h ⊢;rw[<-B6 (R:=R) (n:=n) hu];exact h
 | conv k x=>simp only[ev]at h ⊢;rw[<-B6 (R:=R) (n:=n) hu];exact h
 | b2s x=>simp only[ev]at h ⊢;rw[<-B6 (R:=R) (n:=n) hu];exact h
 | slc z x lo hi=>simp only[Li,Kyb]at hu;simp only[ev]at h ⊢;rw[<-B6 (R:=R) (n:=n) hu.1,<-Zg5 (R:=R) (n:=n) hu.2.1,<-Zg5 (R:=R) (n:=n) hu.2.2];exact h
 | ssl x lo hi=>simp only[Li,Kyb]at hu;simp only[ev]at h ⊢;rw[<-B6 (R:=R) (n:=n) hu.1,<-Zg5 (R:=R) (n:=n) hu.2.1,<-Zg5 (R:=R) (n:=n) hu.2.2];exact h
 | fld o k x=>cases k<;>(simp only[ev]at h ⊢;rw[<-B6 (R:=R) (n:=n) hu];exact h)
 | fad o x=>simp only[ev]at h ⊢;rw[<-B6 (R:=R) (n:=n) hu];exact h
 | iad z x y=>simp only[Li,Kyb]at hu;simp only[ev]at h ⊢;rw[<-B6 (R:=R) (n:=n) hu.1,<-B6 (R:=R) (n:=n) hu.2];exact h
 | iaa l z x y=>simp only[Li,Kyb]at hu;simp only[ev]at h ⊢;rw[<-B6 (R:=R) (n:=n) hu.1,<-B6 (R:=R) (n:=n) hu.2];exact h
 | idx x y=>simp only[Li,Kyb]at hu;simp only[ev]at h ⊢;rw[<-B6 (R:=R) (n:=n) hu.1,<-B6 (R:=R) (n:=n) hu.2];exact h
 | ixa l k z x y=>simp only[Li,Kyb]at hu;cases k<;>simp only[ev]at h ⊢<;>(rw[<-B6 (R:=R) (n:=n) hu.1,<-B6 (R:=R) (n:=n) hu.2];exact h)
 | ext i x=>simp only[ev]at h ⊢;rw[<-B6 (R:=R) (n:=n) hu];exact h
 | len x=>simp only[ev]at h ⊢;rw[<-B6 (R:=R) (n:=n) hu];exact h
 | sln x=>simp only[ev]at h ⊢;rw[<-B6 (R:=R) (n:=n) hu];exact h
 | sid x=>simp only[ev]at h ⊢;rw[<-B6 (R:=R) (n:=n) hu];exact h
 | build z parts=>simp only[ev]at h ⊢;rw[<-Zfu (R:=R) (n:=n) parts z hu];exact h
 | mkf g caps=>simp only[ev]at h ⊢;rw[<-Zeg (R:=R) (n:=n) caps hu];exact h
theorem Pw {K:KW}{j:W}(hu:∀t∈Pu j,get E t=get E' t) (h:wr ⟨E,R,n,f⟩ K j):wr ⟨E',R,n,f⟩ K j:=by
 cases j with
 | alloc z=>exact h
 | box x=>simp only[wr]at h ⊢;rw[<-B6 (R:=R) (n:=n) hu];exact h
 | lit s l z parts =>
  simp only[wr]at h ⊢;rw[<-Zfu (E:=E) (E':=E') (R:=R) (n:=n) (parts.map fun x=>(x.1*s,s,x.2)) (rep l z) (by simpa [Pu,List.flatMap_map] using hu)];exact h
 | store k x v=>simp only[Pu,Kyb]at hu;simp only[wr]at h ⊢;rw[<-B6 (R:=R) (n:=n) hu.1,<-B6 (R:=R) (n:=n) hu.2];exact h
 | s2b x=>simp only[wr]at h ⊢;rw[<-B6 (R:=R) (n:=n) hu];exact h
 | mks s b z l c=>simp only[Pu,Kyb]at hu;simp only[wr]at h ⊢;rw[<-B6 (R:=R) (n:=n) hu.1,<-B6 (R:=R) (n:=n) hu.2];exact h
 | app s b z x y=>simp only[Pu,Kyb]at hu;simp only[wr]at h ⊢;rw[<-B6 (R:=R) (n:=n) hu.1,<-B6 (R:=R) (n:=n) hu.2];exact h
 | aps z x y=>simp only[Pu,Kyb]at hu;simp only[wr]at h ⊢;rw[<-B6 (R:=R) (n:=n) hu.1,<-B6 (R:=R) (n:=n) hu.2];exact h
 | clr s z x=>simp only[Pu]at hu;simp only[wr]at h ⊢;rw[<-B6 (R:=R) (n:=n) hu];exact h
 | call g args=>exact h
 | calv g args=>exact h
theorem Zu8 {P:Program}{K:KW}{j:J}(hu:∀t∈Zrg j,get E t=get E' t) (h:evJ P ⟨E,R,n,f⟩ K j):evJ P ⟨E',R,n,f⟩ K j:=by
 cases j with
 | rd i=>exact Yjk (R:=R) (n:=n) (f:=f) (K:=fun v=>K v [] R n) (i:=i) hu h
 | wr w =>
  cases w with
  | call g args =>
   simp only[evJ]at h ⊢;rw[<-Zeg (R:=R) (n:=n) args hu];exact h
  | alloc z=>exact Pw (j:=.alloc z) hu h
  | box x=>exact Pw (j:=.box x) hu h
  | lit a b c e=>exact Pw (j:=.lit a b c e) hu h
  | store k x v=>exact Pw (j:=.store k x v) hu h
  | s2b x=>exact Pw (j:=.s2b x) hu h
  | mks a b c x y=>exact Pw (j:=.mks a b c x y) hu h
  | app a b c x y=>exact Pw (j:=.app a b c x y) hu h
  | aps a x y=>exact Pw (j:=.aps a x y) hu h
  | clr a b x=>exact Pw (j:=.clr a b x) hu h
  | calv g args =>
   simp only[Zrg,Pu,Kyb]at hu;simp only[evJ]at h ⊢;rw[<-Zeg (R:=R) (n:=n) args hu.2,<-B6 (R:=R) (n:=n) hu.1];exact h
theorem Zql {P:Program}{K:KW}{g:GI}(hu:∀t∈Ul g,get E t=get E' t) (h:B4 P g ⟨E,R,n,f⟩ K):B4 P g ⟨E',R,n,f⟩ K:=by
 unfold B4 at h ⊢;cases hg:g.guard with
 | none=>simp only[hg]at h ⊢;exact Zu8 (fun t ht=>hu t (by simp [Ul,hg,ht])) h
 | some gw =>
  obtain⟨t,want⟩:=gw;simp only[hg]at h ⊢;have ht:get E t=get E' t:=hu t (by simp [Ul,hg]);rw[<-ht];have hj:∀K,evJ P ⟨E,R,n,f⟩ K g.op->evJ P ⟨E',R,n,f⟩ K g.op:=fun K=>Zu8 (fun t ht=>hu t (by simp [Ul,hg,ht]));split at h
  ·exact⟨fun e=>hj _ (h.1 e),h.2⟩
  ·exact h
  exact h.elim
theorem Zl9 {K:V->Prop}{i:I}(hf:S5 i=true) (h:ev ⟨E,R,n,f⟩ K i):ev ⟨E,R',n',f⟩ K i:=by
 cases i with
 | load k x=>simp [S5]at hf
 | b2s x=>simp [S5]at hf
 | build z parts=>simp only[ev]at h ⊢;rw[<-Zfu (E:=E) (R:=R) (n:=n) parts z fun _ _=>rfl];exact h
 | fld o k x=>cases k<;>exact h
 | ixa l k z x y=>cases k<;>exact h
 | _=>exact h
theorem Yvk {P:Program}{g:GI}{v:V}(hf:free g=true) (h:B4 P g ⟨E,R,n,f⟩ fun x _ _ _=>x=v):B4 P g ⟨E,R',n',f⟩ fun x _ _ _=>x=v:=by
 unfold B4 at h ⊢;obtain⟨d,op,gd⟩:=g;cases op with
 | wr w=>simp [free]at hf
 | rd i =>
  have hi:S5 i=true:=hf;cases gd with
  | none=>exact Zl9 (R:=R) (n:=n) (K:=fun x=>x=v) hi h
  | some gw =>
   obtain⟨t,want⟩:=gw;simp only at h ⊢;split at h
   ·exact⟨fun e=>Zl9 (R:=R) (n:=n) (K:=fun x=>x=v) hi (h.1 e),h.2⟩
   ·exact h
   exact h.elim
end
def E3 (P:Program) (nI:Nat) (fix:Nat):List DI->List (Nat×V)->List Mem->List Pend->(St->Prop)->Prop
 | [],E,m::_,_,K=>K ⟨E,m.1,m.2,fix⟩
 | it::l,E,m::hist,pend,K =>
  B4 P it.gi ⟨E,m.1,m.2,fix⟩ fun x ks r n =>
   if it.w then (∀p∈pend,hist.length+1<=p.hi->B4 P p.gi ⟨p.E,r,n,fix⟩ fun x' _ _ _=>x'=p.x) /\
    ((ks=[]/\E3 P nI fix l (Bs it.gi.dst x E) ((r,n)::m::hist) pend K)\/(l=[]/\(List.range (nI-1)).all (fun b=>it.anc.contains b)=true/\K ⟨Bs it.gi.dst x (C0 ks E),r,n,fix⟩))
   else if free it.gi then E3 P nI fix l (Bs it.gi.dst x E) (m::hist) pend K
   else (∀mm∈hist.take (hist.length-it.lo),B4 P it.gi ⟨E,mm.1,mm.2,fix⟩ fun x' _ _ _=>x'=x) /\
    E3 P nI fix l (Bs it.gi.dst x E) (m::hist) (if hist.length<it.hi then ⟨it.gi,E,x,it.hi⟩::pend else pend) K
 | _,_,[],_,_=>False
def H7 (its:List DI):List Nat:=its.filterMap (·.gi.dst)
def Du (its:List DI) (a:Nat):Option Nat:=(its[a]?).bind (·.gi.dst)
def okD (its:List DI):Bool:=(List.range its.length).all fun i=>match its[i]? with
 | some it=>(Ul it.gi).all fun t=>!((H7 its).contains t)||((it.anc.any fun a=>Du its a==some t)||Wq its i t)
 | none=>true
theorem Zmk (l r:List (Nat×V)) (t:Nat):get (l++r) t=match get l t with|some x=>some x|none=>get r t:=by
 induction l with
 | nil=>rfl
 | cons a l ih =>
  obtain⟨k,x⟩:=a;simp only[Kn,get];split
  ·rfl
  exact ih
theorem W9 {p:Nat->Bool}{t:Nat}:∀(D:List (Option Nat×V)) (i:Nat),(∀(j:Nat) (y:V),D[j]?≠some (some t,y))->get (Bn p i D) t=none
 | [],i,_=>rfl
 | (none,x)::D,i,h=>by simp only[Bn];exact W9 D _ fun j y=>by simpa using h (j+1) y
 | (some d,x)::D,i,h=>by
  have hd:d≠t:=fun e=>h 0 x (by simp [e]);have ih:=W9 (p:=p) (t:=t) D (i+1) fun j y=>by simpa using h (j+1) y
  simp only[Bn];split
  ·simp only[get,if_neg hd];exact ih
  exact ih
theorem Zh9 {p:Nat->Bool}{t:Nat}{x:V}:∀(D:List (Option Nat×V)) (i a:Nat),D[a]? = some (some t,x)->p (i+a)=true->(∀(b:Nat) (y:V),D[b]? = some (some t,y)->b=a)->get (Bn p i D) t=some x
 | [],i,a,h,_,_=>by simp at h
 | (od,y)::D,i,0,h,hp,hu=>by
  simp only[Kv,Ka,Kb]at h;obtain⟨rfl,rfl⟩:=h;simp only[Kga]at hp;simp only[Bn,hp,if_true,get]
 | (od,y)::D,i,a+1,h,hp,hu=>by
  have ih:=Zh9 (p:=p) (t:=t) (x:=x) D (i+1) a (by simpa using h) (by rw[show i+1+a=i+(a+1) by omega];exact hp) fun b z hb=>by
   have:=hu (b+1) z (by simpa using hb);omega
  cases od with
  | none=>simp only[Bn];exact ih
  | some d =>
   have hd:d≠t:=fun e=>by have:=hu 0 y (by simp [e]);omega
   simp only[Bn];split
   ·simp only[get,if_neg hd];exact ih
   exact ih
theorem Zfe:∀(its:List DI),(H7 its).Nodup->∀(a b t:Nat),Du its a=some t->Du its b=some t->a=b
 | [],_,a,b,t,h,_=>by simp [Du]at h
 | it::its,hn,a,b,t,ha,hb=>by
  have hmem:∀(its:List DI) (a t:Nat),Du its a=some t->t∈H7 its:=by
   intro its a t h;simp only[Du,Kg]at h;obtain⟨it,h1,h2⟩:=h;exact Kxd.2 ⟨it,Kaa h1,h2⟩
  cases hd:it.gi.dst with
  | none =>
   have e:H7 (it::its)=H7 its:=by simp [H7,hd]
   rw[e]at hn;cases a with
   | zero=>simp [Du,hd]at ha
   | succ a=>cases b with
    | zero=>simp [Du,hd]at hb
    | succ b=>rw[Zfe its hn a b t (by simpa [Du] using ha) (by simpa [Du] using hb)]
  | some d =>
   have e:H7 (it::its)=d::H7 its:=by simp [H7,hd]
   rw[e,Kta]at hn;cases a with
   | zero =>
    have:d=t:=by simpa [Du,hd] using ha
    subst this;cases b with
    | zero=>rfl
    | succ b=>exact (hn.1 (hmem its b d (by simpa [Du] using hb))).elim
   | succ a=>cases b with
    | zero =>
     have:d=t:=by simpa [Du,hd] using hb
     subst this;exact (hn.1 (hmem its a d (by simpa [Du] using ha))).elim
    | succ b=>rw[Zfe its hn.2 a b t (by simpa [Du] using ha) (by simpa [Du] using hb)]
def Yeb (P:Program) (fix:Nat) (pend pend':List Pend):Prop:=∀p'∈pend',(∃p∈pend,p.gi=p'.gi/\p.x=p'.x/\p.hi=p'.hi/\∀t∈Ul p'.gi,get p.E t=get p'.E t)\/(∀r n,B4 P p'.gi ⟨p'.E,r,n,fix⟩ fun x _ _ _=>x=p'.x)
theorem Zbh {P:Program}{fix:Nat}{its0:List DI}{env:List (Nat×V)}{K:St->Prop}(hok:okD its0=true) (hnd:(H7 its0).Nodup) (hanc:∀(j:Nat) (it:DI),its0[j]? = some it->∀a∈it.anc,a<j) :
  ∀(its:List DI) (D:List (Option Nat×V)) (E:List (Nat×V)) (m:Mem) (hist:List Mem) (pend pend':List Pend),(∀j,its[j]? = its0[D.length+j]?)->(∀(j:Nat) (y:Option Nat×V),D[j]? = some y->y.1=Du its0 j) ->
   (∀(j d:Nat) (x:V),D[j]? = some (some d,x)->get E d=some x)->(∀t,(∀j,j<D.length->Du its0 j≠some t)->get E t=get env t)->Yeb P fix pend pend'->E3 P its0.length fix its E (m::hist) pend K ->
   Lz P fix (Gq its0 env) its D (m::hist) pend' fun S'=>∃T,Le S' T/\K T
 | its,D,E,m,hist,pend,pend',hits,hD,hE,hN,hP,h=>by
  have uniq:∀(a b:Nat) (t:Nat) (x y:V),D[a]? = some (some t,x)->D[b]? = some (some t,y)->b=a:=fun a b t x y h1 h2=>Zfe its0 hnd b a t (hD b _ h2).symm (hD a _ h1).symm;have notin:∀(t:Nat),(∀j,j<D.length->Du its0 j≠some t)->∀(j:Nat) (y:V),D[j]?≠some (some t,y):=by
   intro t ht j y hj;exact ht j (Kfa.1 hj).1 (hD j _ hj).symm
  have nodst:∀(t:Nat),t ∉ H7 its0->∀(j:Nat) (it:DI),its0[j]? = some it->it.gi.dst≠some t:=fun t ht j it hj hd=>ht (Kxd.2 ⟨it,Kaa hj,hd⟩);have nodst2:∀(t:Nat),t ∉ H7 its0->∀j,j<D.length->Du its0 j≠some t:=by
   intro t ht j _ hj;simp only[Du,Kg]at hj;obtain⟨it,h1,h2⟩:=hj;exact nodst t ht j it h1 h2
  cases its with
  | nil =>
   simp only[E3]at h;simp only[Lz];refine⟨⟨E,m.1,m.2,fix⟩,Le.sub rfl rfl ?_ (fun r x h=>h),h⟩;intro t x hx;rw[Zmk];by_cases ht:t∈H7 its0
   ·obtain⟨it,h1,h2⟩:=Kxd.1 ht;obtain⟨j,hj⟩:=Klc h1;have hlen:its0.length<=D.length:=by
     have:=hits 0;simp only[Klg,Kga]at this;exact Koe.1 this.symm
    have hjl:j<D.length:=Kz (Kfa.1 hj).1 hlen;have hy:D[j]? = some D[j]:=Ku hjl;have hd:D[j].1=some t:=by rw[hD j _ hy];simp [Du,hj,h2]
    have hy2:D[j]? = some (some t,D[j].2):=by rw[hy,<-hd]
    have:get E t=some D[j].2:=hE j t _ hy2;rw[hx]at this;simp only[Ka]at this;rw[Zh9 D 0 j hy2 rfl fun b y hb=>uniq j b t _ _ hy2 hb,this]
   rw[W9 D 0 (notin t (nodst2 t ht))];simp only;rw[Zlh (fun j it hj hd=>(nodst t ht j it hj hd).elim),<-hN t (nodst2 t ht)];exact hx
  | cons it its =>
   have hit:its0[D.length]? = some it:=by simpa using (hits 0).symm
   have hdl:D.length<its0.length:=(Kfa.1 hit).1;have hag:∀t∈Ul it.gi,get E t=get (Bn (fun j=>it.anc.contains j) 0 D++Gq its0 env D.length) t:=by
    intro t ht;have:=Kna.1 hok D.length (Kvb.2 hdl);simp only[hit]at this;have:=Kna.1 this t ht;simp only[Kmb,Kzb,Kpe,beq_iff_eq]at this;rw[Zmk];have old:(∀(j:Nat) (it':DI),its0[j]? = some it'->it'.gi.dst=some t->D.length∈it'.anc)->get E t=get (Gq its0 env D.length) t/\∀(j:Nat) (y:V),D[j]?≠some (some t,y):=by
     intro ho;have hlt:∀j,j<D.length->Du its0 j≠some t:=by
      intro j hj hd;simp only[Du,Kg]at hd;obtain⟨it',h1,h2⟩:=hd;have:=hanc j it' h1 _ (ho j it' h1 h2);omega
     exact⟨by rw[Zlh ho];exact hN t hlt,notin t hlt⟩
    rcases this with h1|⟨a,h1,h2⟩|h1
    ·have hm:t ∉ H7 its0:=fun hm=>by simp [hm]at h1
     obtain⟨o1,o2⟩:=old fun j it' hj hd=>(nodst t hm j it' hj hd).elim;rw[W9 D 0 o2];exact o1
    ·have hlt:=hanc _ _ hit a h1;have hy:D[a]? = some D[a]:=Ku hlt;have hd:D[a].1=some t:=by rw[hD a _ hy,h2]
     have hy2:D[a]? = some (some t,D[a].2):=by rw[hy,<-hd]
     rw[Zh9 D 0 a hy2 (by simpa using h1) fun b y hb=>uniq a b t _ _ hy2 hb,hE a t _ hy2]
    obtain⟨o1,o2⟩:=old fun j it' hj hd=>by
     have:=Kna.1 h1 it' (Kaa hj);simpa [hd] using this
    rw[W9 D 0 o2];exact o1
   simp only[E3]at h;obtain⟨x,ks,r,n,h1,hall⟩:=Zqm h;have hgo:∀K':KW,K' x ks r n->B4 P it.gi ⟨Bn (fun j=>it.anc.contains j) 0 D++Gq its0 env D.length,m.1,m.2,fix⟩ K':=fun K' hk=>Zql hag (hall K' hk);have hits':∀j,its[j]? = its0[(D++[(it.gi.dst,x)]).length+j]?:=by
    intro j;have:=hits (j+1);simp only[Kpa]at this;rw[this];congr 1;simp;omega
   have hD':∀(j:Nat) (y:Option Nat×V),(D++[(it.gi.dst,x)])[j]? = some y->y.1=Du its0 j:=by
    intro j y hy;by_cases hj:j<D.length
    ·rw[Ksa hj]at hy;exact hD j y hy
    rw[Kia (by omega)]at hy;have:j=D.length:=by
     have:=(Kfa.1 hy).1;simp at this;omega
    subst this;simp only[Kse,Kv,Ka]at hy;subst hy;simp [Du,hit]
   have hE':∀(j d:Nat) (y:V),(D++[(it.gi.dst,x)])[j]? = some (some d,y)->get (Bs it.gi.dst x E) d=some y:=by
    intro j d y hy;by_cases hj:j<D.length
    ·have hy':=hy;rw[Ksa hj]at hy';have h3:=hE j d y hy';cases hdst:it.gi.dst with
     | none=>exact h3
     | some d' =>
      have hne:d'≠d:=by
       intro e;subst e;have:=Zfe its0 hnd j D.length d' (hD j _ hy').symm (by simp [Du,hit,hdst]);omega
      simp only[Bs,Ax,if_neg hne];exact h3
    rw[Kia (by omega)]at hy;have:j=D.length:=by
     have:=(Kfa.1 hy).1;simp at this;omega
    subst this;simp only[Kse,Kv,Ka,Kb]at hy;rw[hy.1];simp only[Bs,Ax,if_true,hy.2]
   have hN':∀t,(∀j,j<(D++[(it.gi.dst,x)]).length->Du its0 j≠some t)->get (Bs it.gi.dst x E) t=get env t:=by
    intro t ht;simp only[Kt,Kf,Ki]at ht;have h0:=hN t fun j hj=>ht j (by omega);cases hdst:it.gi.dst with
    | none=>exact h0
    | some d' =>
     have hne:d'≠t:=fun e=>ht D.length (by omega) (by simp only[Du,hit,Kra,hdst,e]);simp only[Bs,Ax,if_neg hne];exact h0
   simp only[Lz];refine hgo _ ?_;cases hw:it.w with
   | true =>
    rw[hw]at h1;simp only[if_true]at h1 ⊢;obtain⟨hp,h1⟩:=h1;refine⟨?_, ?_⟩
    ·intro p' hp' hle;rcases hP p' hp' with ⟨p,q1,q2,q3,q4,q5⟩|q
     ·have:=hp p q1 (by rw[q4];exact hle);rw[q2,q3]at this;exact Zql q5 this
     exact q r n
    rcases h1 with ⟨hks,hrun⟩|⟨e0,ea,hrun⟩
    ·exact .inl ⟨hks,Zbh hok hnd hanc its _ _ _ _ pend pend' hits' hD' hE' hN' hP hrun⟩
    refine .inr ⟨e0,fun b hb=>?_,⟨Bs it.gi.dst x (C0 ks E),r,n,fix⟩,Le.sub rfl rfl ?_ (fun r x h=>h),hrun⟩
    ·have hn:its0.length=D.length+1:=by
      have h1:=hits 1;rw[e0]at h1;simp only[Kpa,Klg]at h1;have:=Koe.1 h1.symm;omega
     have:=Kna.1 ea b (Kvb.2 (by omega));simpa using this
    intro t z hz;have hlen:its0.length=D.length+1:=by
     have h1:=hits 1;rw[e0]at h1;simp only[Kpa,Klg]at h1;have:=Koe.1 h1.symm;omega
    have old:it.gi.dst≠some t->∀u,get E t=some u->get (Bn (fun _=>true) 0 D++Gq its0 env (D.length+1)) t=some u:=by
     intro hne u hu;rw[Zmk];by_cases ht:t∈H7 its0
     ·obtain⟨it',h1,h2⟩:=Kxd.1 ht;obtain⟨j,hj⟩:=Klc h1;have hjl:j<D.length:=by
       have:=(Kfa.1 hj).1;rcases Kfc j D.length with h|h
       ·exact h
       exfalso;have:j=D.length:=by omega
       subst this;rw[hit]at hj;simp only[Ka]at hj;subst hj;exact hne h2
      have hy:D[j]? = some D[j]:=Ku hjl;have hd:D[j].1=some t:=by rw[hD j _ hy];simp [Du,hj,h2]
      have hy2:D[j]? = some (some t,D[j].2):=by rw[hy,<-hd]
      have:get E t=some D[j].2:=hE j t _ hy2;rw[hu]at this;simp only[Ka]at this;rw[Zh9 D 0 j hy2 rfl fun b y hb=>uniq j b t _ _ hy2 hb,this]
     rw[W9 D 0 (notin t (nodst2 t ht))];simp only;rw[Zlh (fun j it hj hd=>(nodst t ht j it hj hd).elim),<-hN t (nodst2 t ht)];exact hu
    cases hdst:it.gi.dst with
    | none =>
     rw[hdst]at hz old;simp only[Bs]at hz ⊢;rw[V2]at hz ⊢;simp only[Ks]at hz ⊢;obtain⟨u,hu,rfl⟩:=hz;exact⟨u,old (by simp) u hu,rfl⟩
    | some d =>
     rw[hdst]at hz old;simp only[Bs]at hz ⊢;rw[Ax]at hz ⊢;split
     ·rename_i e;rw[if_pos e]at hz;exact hz
     rename_i e;rw[if_neg e]at hz;rw[V2]at hz ⊢;simp only[Ks]at hz ⊢;obtain⟨u,hu,rfl⟩:=hz;exact⟨u,old (by simpa using e) u hu,rfl⟩
   | false =>
    rw[hw]at h1;simp only[Kka,if_false]at h1 ⊢;cases hf:free it.gi with
    | true =>
     rw[hf]at h1;simp only[if_true]at h1;have hs:∀r n,B4 P it.gi ⟨Bn (fun j=>it.anc.contains j) 0 D++Gq its0 env D.length,r,n,fix⟩ fun x' _ _ _=>x'=x:=fun r n=>Yvk hf (hgo _ rfl);refine⟨fun mm _=>hs _ _,Zbh hok hnd hanc its _ _ _ _ pend _ hits' hD' hE' hN' ?_ h1⟩;split
     ·intro p' hp';rcases Kh.1 hp' with rfl|hp'
      ·exact .inr hs
      exact hP p' hp'
     exact hP
    | false =>
     rw[hf]at h1;simp only[Kka,if_false]at h1;obtain⟨hh,hrun⟩:=h1;refine⟨fun mm hmm=>Zql hag (hh mm hmm),Zbh hok hnd hanc its _ _ _ _ _ _ hits' hD' hE' hN' ?_ hrun⟩;split
     ·intro p' hp';rcases Kh.1 hp' with rfl|hp'
      ·exact .inl ⟨_,Kp,rfl,rfl,rfl,hag⟩
      rcases hP p' hp' with ⟨p,q1,q⟩|q
      ·exact .inl ⟨p,Kj _ q1,q⟩
      exact .inr q
     exact hP
theorem Zri {P:Program}{N:Nat}{c:Code}{S:St}{Q:Exit->St->Prop}(h:Vw P N c S fun e S'=>∃T,Le S' T/\Q e T):Vw P N c S Q:=fun w0 own0 pl0 g pl a w hR=>by
 refine wp_mono (h w0 own0 pl0 g pl a w hR) ?_;rintro e a' w' ⟨S',g',pl',⟨T,hl,hq⟩,hf,hR'⟩;obtain⟨g2,pl2,hR2⟩:=hl.2 N w0 own0 pl0 g' pl' a' w' hR';exact⟨T,g2,pl2,hq,by rw[hl.1,hf],hR2⟩
theorem Yvz {P:Program}{N:Nat}{S:St}{Q:Exit->St->Prop}{its:List DI}(hm:P.follows .mixedOrders=true) (hok:okD its=true) (h:E3 P its.length S.fix its S.env [(S.roots,S.next)] [] (Q .normal)):Sw P N (.drw its) S Q:=fun c hc=>by
 cases c with
 | region id ops d =>
  cases d with
  | false=>simp [trC]at hc
  | true =>
   simp only[trC]at hc;have hg:=Ydm hc;simp only[Pt,Kl,Kg]at hg;obtain⟨gis,hgis,hg⟩:=hg;split at hg
   ·rename_i hck;simp only[Ka]at hg;simp only[Kd,decide_eq_true_eq]at hck;subst hg;refine Zri (Yxc hm hck.1 (by rw[Zoe];exact hgis) hck.2 ?_);have hcs:=Ze4 hck.1;have main:=Zbh (P:=P) (fix:=S.fix) (env:=S.env) (K:=Q .normal) hok hck.2 (by
     intro j it hj a ha;obtain⟨o,_,h2⟩:=hcs.2 j it hj;simp only[ck1,Kd,Kna,decide_eq_true_eq,Kr]at h2;exact h2.1.1.1.1.2 a ha) _ [] S.env (S.roots,S.next) [] [] [] (by intro j;simp) (by simp) (by simp) (fun _ _=>rfl) (by intro p hp;cases hp) h
    exact main
   simp at hg
 | seq a b=>simp [trC,Kl,Kg]at hc
 | cond c a b=>simp [trC,Kl,Kg]at hc
 | _=>simp [trC]at hc
theorem Yv0 {P:Program}{N:Nat}{S:St}{Q:Exit->St->Prop}{l:List (List DI)}(hm:P.follows .mixedOrders=true) (h:∀its∈l,okD its=true/\E3 P its.length S.fix its S.env [(S.roots,S.next)] [] (Q .normal)):Sw P N (.alt l) S Q:=fun c hc=>by
 cases c with
 | region id ops d =>
  cases d with
  | false=>simp [trC]at hc
  | true =>
   have hl:=Ydl (show Ga P N ops=some (.alt l) by simpa only[trC] using hc);refine Zri (Yxb hm (Zk7 P N 6 ops) fun ops' hm'=>?_);obtain⟨its,hi,hg⟩:=Zx5 hl ops' hm';obtain⟨hck,htr,hnd⟩:=Ygq hg;obtain⟨hok,hr⟩:=h its hi;have hcs:=Ze4 hck;have main:=Zbh (P:=P) (fix:=S.fix) (env:=S.env) (K:=Q .normal) hok hnd (by
    intro j it hj a ha;obtain⟨o,_,h2⟩:=hcs.2 j it hj;simp only[ck1,Kd,Kna,decide_eq_true_eq,Kr]at h2;exact h2.1.1.1.1.2 a ha) _ [] S.env (S.roots,S.next) [] [] [] (by intro j;simp) (by simp) (by simp) (fun _ _=>rfl) (by intro p hp;cases hp) hr
   exact⟨its,hck,htr,hnd,main⟩
 | seq a b=>simp [trC,Kl,Kg]at hc
 | cond c a b=>simp [trC,Kl,Kg]at hc
 | _=>simp [trC]at hc
end Go.Vs
namespace Go.Vs
variable [Glb]
section
variable {E:List (Nat×V)} {R:List (Nat×Root)} {n f:Nat}
theorem Jm {t:Nat}{v:V}(hx:get E t=some v):ev ⟨E,R,n,f⟩ (fun x=>x=v) (.mv (.t t)):=by simp only[ev,St.opd,hx,Kub]
theorem Yjp {v:V}:ev ⟨E,R,n,f⟩ (fun x=>x=v) (.mv (.k v)):=rfl
theorem Zva {op:BinOp}{x y:Opd}{u v r:Value}(hx:St.opd ⟨E,R,n,f⟩ x=.a (.c (.lf u))) (hy:St.opd ⟨E,R,n,f⟩ y=.a (.c (.lf v))) (hr:O2 op u v=some r):ev ⟨E,R,n,f⟩ (fun x=>x=.a (.c (.lf r))) (.bin op x y):=by simp only[ev,hx,hy];exact⟨r,hr,rfl⟩
theorem Yjs {op:UnOp}{x:Opd}{u r:Value}(hx:St.opd ⟨E,R,n,f⟩ x=.a (.c (.lf u))) (hr:Znz op u=some r):ev ⟨E,R,n,f⟩ (fun x=>x=.a (.c (.lf r))) (.un op x):=by simp only[ev,hx];exact⟨r,hr,rfl⟩
theorem Yjo {x:Opd}{r sz lo m:Nat}{p:Af}(hx:St.opd ⟨E,R,n,f⟩ x=.a (.c (.rf r p sz lo m))):ev ⟨E,R,n,f⟩ (fun x=>x=.a (.c (.lf (.int .i64 m)))) (.len x):=by simp only[ev,hx]
theorem Yjn {x:Opd}{sz:Nat}(hx:St.opd ⟨E,R,n,f⟩ x=.a (.c (.nl sz))):ev ⟨E,R,n,f⟩ (fun x=>x=.a (.c (.lf (.int .i64 0)))) (.len x):=by simp only[ev,hx]
theorem Zma {sz:Nat}{x i:Opd}{r m j:Nat}{p:Af}{k:IntKind}{z:Int}(hx:St.opd ⟨E,R,n,f⟩ x=.a (.c (.rf r p sz 0 m))) (hi:St.opd ⟨E,R,n,f⟩ i=.a (.c (.lf (.int k z)))) (hz:z=(j:Nat)) (hj:j<m):ev ⟨E,R,n,f⟩ (fun x=>x=.a (.c (.pe r p j 0))) (.iad sz x i):=by
 subst hz;simp only[ev,hx,hi,Knb,Kr];exact⟨trivial,⟨by omega,by omega⟩,trivial⟩
theorem Og {x:Opd}{r i c:Nat}{p:Af}{m:Nat×List (List D)}{e:List D}{v:Value}(hx:St.opd ⟨E,R,n,f⟩ x=.a (.c (.pe r p i c))) (hn:St.node ⟨E,R,n,f⟩ r p=some m) (he:m.2[i]? = some e) (hv:e[c]? = some (.lf v)):ev ⟨E,R,n,f⟩ (fun x=>x=.a (.c (.lf v))) (.load none x):=by simp only[ev,hx];exact⟨.lf v,by rw[hn];simp only[Kra,he,hv],rfl⟩
theorem Oh {x:Opd}{r i c sz:Nat}{p:Af}{m:Nat×List (List D)}{e:List D}{es:List (List D)}(hx:St.opd ⟨E,R,n,f⟩ x=.a (.c (.pe r p i c))) (hn:St.node ⟨E,R,n,f⟩ r p=some m) (he:m.2[i]? = some e) (hv:e[c]? = some (.sl sz es)):ev ⟨E,R,n,f⟩ (fun x=>x=.a (.c (.rf r (p++[(i,c)]) sz 0 es.length))) (.load none x):=by simp only[ev,hx];exact⟨.sl sz es,by rw[hn];simp only[Kra,he,hv],rfl⟩
theorem Su {x:Opd}{r c:Nat}{cs:List C}{y:C}(hx:St.opd ⟨E,R,n,f⟩ x=.a (.c (.pb r c))) (hn:St.bcells ⟨E,R,n,f⟩ r=some cs) (hy:cs[c]? = some y):ev ⟨E,R,n,f⟩ (fun x=>x=.a (.c y)) (.load none x):=by simp only[ev,hx];exact⟨_,by rw[hn];simp only[Kra,hy],rfl⟩
theorem Vr {x:Opd}{r c:Nat}(hx:St.opd ⟨E,R,n,f⟩ x=.a (.c (.pb r c))):ev ⟨E,R,n,f⟩ (fun x=>x=.a (.c (.pb r c))) (.nilc x):=by simp only[ev,hx]
theorem Vt {x:Opd}{r i c:Nat}{p:Af}(hx:St.opd ⟨E,R,n,f⟩ x=.a (.c (.pe r p i c))):ev ⟨E,R,n,f⟩ (fun x=>x=.a (.c (.pe r p i c))) (.nilc x):=by simp only[ev,hx]
theorem Qk {o:Nat}{x:Opd}{r c:Nat}(hx:St.opd ⟨E,R,n,f⟩ x=.a (.c (.pb r c))):ev ⟨E,R,n,f⟩ (fun x=>x=.a (.c (.pb r (c+o)))) (.fad o x):=by simp only[ev,hx]
theorem Ql {o:Nat}{x:Opd}{r i c:Nat}{p:Af}(hx:St.opd ⟨E,R,n,f⟩ x=.a (.c (.pe r p i c))):ev ⟨E,R,n,f⟩ (fun x=>x=.a (.c (.pe r p i (c+o)))) (.fad o x):=by simp only[ev,hx]
theorem Yjr {c a b:Opd}{w:Value}(hc:St.opd ⟨E,R,n,f⟩ c=.a (.c (.lf (.bool true)))) (ha:St.opd ⟨E,R,n,f⟩ a=.a (.c (.lf w))):ev ⟨E,R,n,f⟩ (fun x=>x=.a (.c (.lf w))) (.pick c a b):=by
 simp only[ev,hc];exact⟨fun _=>ha,fun h=>by simp at h⟩
theorem Yjq {c a b:Opd}{w:Value}(hc:St.opd ⟨E,R,n,f⟩ c=.a (.c (.lf (.bool false)))) (hb:St.opd ⟨E,R,n,f⟩ b=.a (.c (.lf w))):ev ⟨E,R,n,f⟩ (fun x=>x=.a (.c (.lf w))) (.pick c a b):=by
 simp only[ev,hc];exact⟨fun h=>by simp at h,fun _=>hb⟩
end
section
variable {P:Program} {E:List (Nat×V)} {R:List (Nat×Root)} {n f d t:Nat} {w b:Bool} {l:List GI} {K:St->Prop}
theorem Ybz {S:St}{od:Option Nat}{i:I}{v:V}(h:ev S (fun x=>x=v) i){K:KW}(hk:K v [] S.roots S.next):B4 P ⟨od,.rd i,none⟩ S K:=by
 obtain⟨x,hx,hall⟩:=Zfn h;subst hx;exact hall (fun v=>K v [] S.roots S.next) hk
theorem C9 {i:I}{v:V}(h:ev ⟨E,R,n,f⟩ (fun x=>x=v) i) (hk:Ee P l ⟨put E d v,R,n,f⟩ K):Ee P (⟨some d,.rd i,none⟩::l) ⟨E,R,n,f⟩ K:=by
 obtain⟨x,hx,hall⟩:=Zfn h;subst hx;exact hall (fun x=>Ee P l ⟨put E d x,R,n,f⟩ K) hk
theorem Ysb {j:J}{od:Option Nat}(hg:get E t=some (.a (.c (.lf (.bool b))))) (h1:b=true->Ee P (⟨od,j,some (t,w)⟩::l) ⟨E,R,n,f⟩ K) (h2:b=false->Ee P (⟨od,j,some (t,w)⟩::l) ⟨E,R,n,f⟩ K):Ee P (⟨od,j,some (t,w)⟩::l) ⟨E,R,n,f⟩ K:=by
 cases b
 ·exact h2 rfl
 exact h1 rfl
theorem Zov {j:J}{od:Option Nat}(hg:get E t=some (.a (.c (.lf (.bool w))))) (h:Ee P (⟨od,j,none⟩::l) ⟨E,R,n,f⟩ K):Ee P (⟨od,j,some (t,w)⟩::l) ⟨E,R,n,f⟩ K:=by
 simp only[Ee,Jv]at h ⊢;rw[hg];exact⟨fun _=>h,fun h=>(h rfl).elim⟩
theorem Zow {j:J}{d:Nat}(hg:get E t=some (.a (.c (.lf (.bool b))))) (hb:b≠w) (h:Ee P l ⟨put E d (.tp []),R,n,f⟩ K):Ee P (⟨some d,j,some (t,w)⟩::l) ⟨E,R,n,f⟩ K:=by
 simp only[Ee,Jv];rw[hg];exact⟨fun e=>(hb e).elim,fun _=>h⟩
variable {nI:Nat} {hist:List Mem} {pend:List Pend} {a:List Nat} {lo hi:Nat} {ld:List DI}
theorem Ys0:K ⟨E,R,n,f⟩->E3 P nI f [] E ((R,n)::hist) pend K:=fun h=>h
theorem Ep {i:I}{v:V}(h:ev ⟨E,R,n,f⟩ (fun x=>x=v) i) (hf:S5 i=true) (hk:E3 P nI f ld (put E d v) ((R,n)::hist) pend K):E3 P nI f (⟨⟨some d,.rd i,none⟩,a,false,lo,hi⟩::ld) E ((R,n)::hist) pend K:=by
 simp only[E3];refine Ybz h ?_;simp only[Kka,if_false];rw[if_pos (show free ⟨some d,.rd i,none⟩=true from hf)];exact hk
theorem F4 {i:I}{v:V}(h:ev ⟨E,R,n,f⟩ (fun x=>x=v) i) (hh:∀mm∈hist.take (hist.length-lo),ev ⟨E,mm.1,mm.2,f⟩ (fun x=>x=v) i) (hhi:¬hist.length<hi) (hk:E3 P nI f ld (put E d v) ((R,n)::hist) pend K):E3 P nI f (⟨⟨some d,.rd i,none⟩,a,false,lo,hi⟩::ld) E ((R,n)::hist) pend K:=by
 simp only[E3];refine Ybz h ?_;simp only[Kka,if_false,if_neg hhi];split
 ·exact hk
 exact⟨hh,hk⟩
theorem Ys1 {j:W}{od:Option Nat}(hj:∀x y,j≠.call x y) (h:wr ⟨E,R,n,f⟩ (fun x ks r n'=>(∀p∈pend,hist.length+1<=p.hi->B4 P p.gi ⟨p.E,r,n',f⟩ fun x' _ _ _=>x'=p.x)/\((ks=[]/\E3 P nI f ld (Bs od x E) ((r,n')::(R,n)::hist) pend K)\/(ld=[]/\(List.range (nI-1)).all (fun b=>a.contains b)=true/\K ⟨Bs od x (C0 ks E),r,n',f⟩))) j):E3 P nI f (⟨⟨od,.wr j,none⟩,a,true,lo,hi⟩::ld) E ((R,n)::hist) pend K:=by
 cases j<;>first|exact h|exact (hj _ _ rfl).elim|exact (show False from h).elim
theorem Zy0 {j:W}{od:Option Nat}(hj:∀x y,j≠.call x y) (h:wr ⟨E,R,n,f⟩ (fun x ks roots nx=>Ee P l ⟨Bs od x (C0 ks E),roots,nx,f⟩ K) j):Ee P (⟨od,.wr j,none⟩::l) ⟨E,R,n,f⟩ K:=by
 cases j<;>first|exact h|exact (hj _ _ rfl).elim|exact (show False from h).elim
theorem Ysa {fn:FuncId}{args:List Opd}{od:Option Nat}(h:Zko P ⟨E,R,n,f⟩ fn (args.map (St.opd ⟨E,R,n,f⟩)) (fun x ks roots nx=>Ee P l ⟨Bs od x (C0 ks E),roots,nx,f⟩ K)):Ee P (⟨od,.wr (.call fn args),none⟩::l) ⟨E,R,n,f⟩ K:=.inl h
end
theorem Yvg {S:St}{K:KW}{x v:Opd}{r c n:Nat}{ys cs:List C}(hx:S.opd x=.a (.c (.pb r c))) (hv:Qb (S.opd v)=some ys) (hl:ys.length=n) (hr:get S.roots r=some (.bx cs)) (hc:c+n<=cs.length) (hK:K .un [] (put S.roots r (.bx (cs.take c++(ys++cs.drop (c+n))))) S.next):wr S K (.store n x v):=by
 simp only[wr,hx];exact⟨ys,hv,hl,cs,hr,hc,hK⟩
theorem Yb8 {P:Program}{N:Nat}{E:List (Nat×V)}{R:List (Nat×Root)}{n f:Nat}{Q:Exit->St->Prop}{its:List DI}(hm:P.follows .mixedOrders=true) (hok:okD its=true) (h:E3 P its.length f its E [(R,n)] [] (Q .normal)):Sw P N (.drw its) ⟨E,R,n,f⟩ Q:=Yvz hm hok h
end Go.Vs
namespace Go.Vs
variable [Glb]
theorem Zn1 {as:List Arg}{res:List (Bool×List D)}{ds:List D}{roots rt:List (Nat×Root)}{r:V}{xs:List A}{l:List (M×D)}{c0 ys:List C}(h0:J8 r=some xs) (h3:xs.map (fun x=>((Dn x).1,(Dn x).2.length))=res.map (fun x=>(x.1,x.2.length))) (h1:inB as (Ca as).1=[(l,c0)]) (hs:Ih l c0 ys) (hr:get roots (C8 (flat as))=some (.bx ys))
  (h4:Cx roots ((xs.flatMap fun x=>(Dn x).2)++D2 l ys)=some (res.flatMap (·.2)++ds,rt)) (hl:(D2 l ys).length=ds.length) (h2:H8 (flat as) 0=[]):Hz as ⟨res,[],[ds]⟩ roots r:=by
 refine⟨xs,h0,h3,[ys],by rw[h1];exact⟨hs,trivial⟩, ?_,rt, ?_,by rw[h1];simp [hl],by rw[h2];trivial⟩
 ·intro j y hj;cases j with
  | zero=>simp at hj;subst hj;exact hr
  | succ j=>simp at hj
 rw[h1];simpa using h4
@[simp] theorem Yyi (l:List UInt8) (n:Nat):(bD l).take n=bD (l.take n):=by simp [bD,Keb]
@[simp] theorem Yyh (l:List UInt8) (n:Nat):(bD l).drop n=bD (l.drop n):=by simp [bD,Kfb]
theorem Zpr:Ih [] [] []:=trivial
theorem Lf {x:M×D}{l:List (M×D)}{c y:C}{c0 c1:List C}(h:Ej x=false) (t:Ih l c0 c1):Ih (x::l) (c::c0) (y::c1):=⟨fun e=>(by rw[h]at e;cases e),t⟩
end Go.Vs
namespace Go.Vs
variable [Glb]
end Go.Vs
namespace Go.Vs
variable [Glb]
section
variable {α:Type} (s:α->Nat) (mk:Nat->α->α)
end
abbrev Wr:=Int×List UInt8
def wE (w:Wr):List D:=[.lf (.int .i64 w.1),.sl 1 (bD w.2)]
def wD (l:List Wr):List (List D):=l.map wE
@[simp] theorem Yxo (l:List Wr):(wD l).length=l.length:=by simp [wD]
theorem Yxn {l:List Wr}{i:Nat}(h:i<l.length):(wD l)[i]? = some [.lf (.int .i64 l[i].1),.sl 1 (bD l[i].2)]:=by simp [wD,h,wE]
end Go.Vs
namespace Go.Vs
variable [Glb]
theorem Zzv {N:Nat}{w0:World}{own0:Nat->Nat->Prop}{pl0:Pls}{g:Lab}{pl:Pls}{E:List (Nat×V)}{R:List (Nat×Root)}{n f:Nat}{a:Act}{w:World}(sz:Nat) (hR:Rel N w0 own0 pl0 g pl ⟨E,R,n,f⟩ a w) :
  Rel N w0 own0 pl0 g (E1 pl n fun _=>⟨true,0,0,0,sz,none⟩) ⟨E,(n,.tr sz [])::R,n+1,f⟩ a w:=by
 obtain⟨h1,h2,h3,h4⟩:=hR;obtain⟨a1,a2,a3,a4,a5,a6⟩:=h1;have up:∀x v,CR pl n x v->CR (E1 pl n fun _=>⟨true,0,0,0,sz,none⟩) (n+1) x v:=fun x v h=>(h.agree (Cv pl n _)).mono (by omega);refine⟨⟨a1, ?_, ?_, ?_,Kc _, ?_⟩,h2,h3, ?_⟩
 ·intro b o x hx;obtain⟨b1,b2,b3⟩:=a2 b o x hx;exact⟨b1,b2,Kpb b3⟩
 ·intro r p hr;have hlt:r<n:=Kz hr a4;rw[Cv pl n _ r p hlt];exact a3 r p hr
 ·exact Nat.le_succ_of_le a4
 ·intro r x hx;simp only[get]at hx;split at hx
  ·rename_i e;subst e;simp only[Ka]at hx;subst hx;refine⟨Kqa _, ?_⟩;intro p nd hn;cases p with
   | nil =>
    simp only[Am,Ka]at hn;subst hn;refine⟨⟨by rw[Cd],Kda _,fun _=>by rw[Cd],by simp,by simp⟩, ?_⟩;intro j hj;rw[Cd]at hj;simp at hj
   | cons q p=>obtain⟨i,c⟩:=q;simp [Am]at hn
  rename_i e;obtain⟨hr,hok⟩:=a6 r x hx;refine⟨Kpb hr,Keep.root' (w:=w) (g:=g) (pl:=pl) (nx:=n) ⟨fun b o q hb=>⟨hb,rfl,rfl⟩,fun _ _ _=>rfl,fun p=>Cv pl n _ r p hr⟩ up hok⟩
 intro t x hx;exact ((h4 t x hx).agree (Cv pl n _)).mono (Kcc n)
theorem Zti {pl:Pls}{n sz:Nat}{v:Value}(h:v=.slice none 0 0):CR (E1 pl n fun _=>⟨true,0,0,0,sz,none⟩) (n+1) (.rf n [] sz 0 0) v:=by
 subst h;refine⟨Kqa _, ?_⟩;rw[Cd];exact⟨rfl,fun _=>rfl,Kc _,none,rfl,fun _=>rfl⟩
section
variable {P:Program} {N:Nat} {s:Stm} {Q:Exit->St->Prop} {E:List (Nat×V)} {R:List (Nat×Root)} {n f:Nat}
end
end Go.Vs
namespace Go.Vs
inductive Ty where
 | I (k:IntKind)
 | Y
 | B
 | S
 | L (t:Ty)
 | H (t:Ty)
 | P (a b:Ty)
 deriving DecidableEq,Inhabited
@[reducible] def Ty.den:Ty->Type
 | .I _=>Int
 | .Y=>UInt8
 | .B=>Bool
 | .S=>List UInt8
 | .L t=>List t.den
 | .H t=>Option (List t.den)
 | .P a b=>a.den×b.den
def Ty.n:Ty->Nat
 | .P a b=>a.n+b.n
 | _=>1
def Ty.flat:Ty->Bool
 | .L _=>false
 | .H _=>false
 | .P a b=>a.flat&&b.flat
 | _=>true
def Ae:(t:Ty)->t.den->List D
 | .I k,z=>[.lf (.int k z)]
 | .Y,b=>[.lf (.int .u8 b.toNat)]
 | .B,x=>[.lf (.bool x)]
 | .S,l=>[.lf (.string ⟨l.toArray⟩)]
 | .L t,xs=>[.sl t.n (List.map (Ae t) xs)]
 | .H t,o=>[match o with|some xs=>.sl t.n (List.map (Ae t) xs)|none=>.hole]
 | .P a b,x=>Ae a x.1++Ae b x.2
theorem Bu:∀(t:Ty) (x:t.den),(Ae t x).length=t.n
 | .I _,_=>rfl
 | .Y,_=>rfl
 | .B,_=>rfl
 | .S,_=>rfl
 | .L _,_=>rfl
 | .H _,_=>rfl
 | .P a b,x=>by simp only[Ae,Kt,Bu a,Bu b,Ty.n]
def idx {α:Type}(xs:List α) (z:Int):Option α:=if 0<=z then xs[z.toNat]? else none
def bnd {α β:Type}(o:Option α) (f:α->Option β):Option β:=match o with
 | some x=>f x
 | none=>none
def chk {β:Type}(c:Bool) (k:Option β):Option β:=match c with
 | true=>k
 | false=>none
def cnd {β:Type}(c:Bool) (x y:Option β):Option β:=match c with
 | true=>x
 | false=>y
def Zh6 {α:Type}(c:Bool) (x y:α):α:=match c with
 | true=>x
 | false=>y
theorem Gs {α β:Type}{o:Option α}{f:α->Option β}{r:β}(h:bnd o f=some r):∃x,o=some x/\f x=some r:=by
 cases o with
 | none=>simp [bnd]at h
 | some x=>exact⟨x,rfl,h⟩
theorem Dt {β:Type}{c:Bool}{k:Option β}{r:β}(h:chk c k=some r):c=true/\k=some r:=by
 cases c with
 | false=>simp [chk]at h
 | true=>exact⟨rfl,h⟩
theorem Ze5 {β:Type}{c:Bool}{x y:Option β}{r:β}(h:cnd c x y=some r):(c=true/\x=some r)\/(c=false/\y=some r):=by
 cases c with
 | false=>exact .inr ⟨rfl,h⟩
 | true=>exact .inl ⟨rfl,h⟩
theorem Wb {α:Type}{xs:List α}{z:Int}{x:α}(h:idx xs z=some x):0<=z/\xs[z.toNat]? = some x:=by
 unfold idx at h;split at h
 ·exact⟨by assumption,h⟩
 simp at h
def u8 (z:Int):UInt8:=UInt8.ofNat z.toNat
def y2i (b:UInt8):Int:=(b.toNat:Int)
def Ah {α:Type}(xs:List α):Int:=(xs.length:Int)
def nOf (z:Int):Nat:=z.toNat
def Aj (k:IntKind) (a b:Int):Int:=k.wrap (a+b)
def Ba (k:IntKind) (a b:Int):Int:=k.wrap (a-b)
def Dd (k:IntKind) (a b:Int):Int:=k.wrap (a*b)
def Yo5 (k:IntKind) (a b:Int):Int:=k.wrap (a.tdiv b)
def De (a b:Int):Int:=a.tmod b
def Aq (k:IntKind) (a b:Int):Int:=k.wrap (BitVec.ofInt k.bits a&&&BitVec.ofInt k.bits b).toNat
def iOr (k:IntKind) (a b:Int):Int:=k.wrap (BitVec.ofInt k.bits a ||| BitVec.ofInt k.bits b).toNat
def K6 (k:IntKind) (a b:Int):Int:=k.wrap (BitVec.ofInt k.bits a ^^^ BitVec.ofInt k.bits b).toNat
def Zmx (k:IntKind) (a b:Int):Int:=k.wrap (BitVec.ofInt k.bits a&&&~~~BitVec.ofInt k.bits b).toNat
def B9 (k:IntKind) (a b:Int):Int:=k.wrap (a*2^(min b.toNat k.bits))
def Bi (k:IntKind) (a b:Int):Int:=a.fdiv (2^(min b.toNat k.bits))
def Zwo (k:IntKind) (a:Int):Int:=k.wrap (0-a)
def Ai (k:IntKind) (a:Int):Int:=k.wrap a
def iEq (a b:Int):Bool:=a==b
def iNe (a b:Int):Bool:=a != b
def iLt (a b:Int):Bool:=decide (a<b)
def iLe (a b:Int):Bool:=decide (a<=b)
def iGt (a b:Int):Bool:=decide (a > b)
def iGe (a b:Int):Bool:=decide (a ≥ b)
def sEq (a b:List UInt8):Bool:=a==b
def sLt (a b:List UInt8):Bool:=Op.bytesLess a b
def bEq (a b:Bool):Bool:=a==b
def bNe (a b:Bool):Bool:=a != b
def Ag (a:Bool):Bool:=!a
def zEq (a b:List Int):Bool:=a==b
def bOr (a b:Bool):Bool:=a||b
def Al {α:Type}(a b:List α):List α:=a++b
def Br {α:Type}(n:Nat) (l:List α):List α:=l.take n
def Dw {α:Type}(n:Nat) (l:List α):List α:=l.drop n
def Bq {α:Type}(l:List α) (n:Nat) (x:α):List α:=l.set n x
def nEq (a b:Nat):Bool:=decide (a=b)
def nNe (a b:Nat):Bool:=decide (a≠b)
def Hl {α:Type}(o:Option α):Bool:=o.isSome
def Jo {α:Type}(o:Option (List α)):List α:=o.getD []
def I2 {α:Type}(n:Nat) (x:α):List α:=List.replicate n x
def A0 (n:Nat) (sz:Nat):Bool:=decide (n*sz<=140737488355328)
def Di (l h n:Int):Bool:=decide (0<=l/\l<=h/\h<=n)
inductive XC where
 | un
 | nl (sz:Nat)
 | lf (v:Value)
 | i (k:IntKind) (z:Int)
 | y (x:UInt8)
 | b (x:Bool)
 | s (l:List UInt8)
 | rw (r:Nat)
 | rv (r lo n:Nat)
 | rf (r v:Nat) (p:Af) (lo:Nat) (t:Ty) (ws:List t.den)
 | pe (r v:Nat) (p:Af) (i c:Nat) (t:Ty) (x:t.den)
 | pb (r c:Nat)
 deriving Inhabited
inductive XA where
 | c (x:XC)
 | ag (cs:List XC)
 deriving Inhabited
inductive XV where
 | un
 | a (x:XA)
 | tp (xs:List XA)
 | fn (f:FuncId) (cs:List XA)
 | sb (r n:Nat)
 deriving Inhabited
inductive XR where
 | tr (t:Ty) (xs:List t.den)
 | im (t:Ty) (xs:List t.den)
 | bx (cs:List (Nat×XC))
 | gone
 deriving Inhabited
abbrev XRs:=List (Nat×Nat×XR)
def lk {α:Type}:List (Nat×Nat×α)->Nat->Option (Nat×α)
 | [],_=>none
 | e::l,t=>match Nat.beq e.1 t with
  | true=>some e.2
  | false=>lk l t
variable [Glb]
structure XSt where
 env:List (Nat×Nat×XV)
 roots:XRs
 next:Nat
 stamp:Nat
 fix:Nat
theorem Bd {α:Type}{e:Nat×Nat×α}{l:List (Nat×Nat×α)}{t:Nat}:lk (e::l) t=if e.1=t then some e.2 else lk l t:=by
 simp only[lk];cases hb:Nat.beq e.1 t with
 | true=>rw[if_pos (Kq hb)]
 | false=>rw[if_neg (Kte hb)]
def Cn (R:XRs) (r v:Nat):Bool:=match lk R r with
 | some (v',_)=>Nat.beq v' v
 | none=>false
theorem Zcf {R:XRs}{r v:Nat}(h:Cn R r v=true):∃x,lk R r=some (v,x):=by
 unfold Cn at h;split at h
 ·rename_i v' x hl;exact⟨x,by rw[hl,Kq h]⟩
 simp at h
theorem Mj {R:XRs}{r v:Nat}{x:XR}(h:lk R r=some (v,x)):Cn R r v=true:=by
 simp [Cn,h]
def cC (R:XRs):XC->C
 | .un=>.un
 | .nl sz=>.nl sz
 | .lf v=>.lf v
 | .i k z=>.lf (.int k z)
 | .y b=>.lf (.int .u8 b.toNat)
 | .b x=>.lf (.bool x)
 | .s l=>.lf (.string ⟨l.toArray⟩)
 | .rw r=>match lk R r with
  | some (_,.tr t xs)=>.rf r [] t.n 0 xs.length
  | some (_,.im t xs)=>.rf r [] t.n 0 xs.length
  | _=>.un
 | .rv r lo n=>match lk R r with
  | some (_,.tr t _)=>.rf r [] t.n lo n
  | some (_,.im t _)=>.rf r [] t.n lo n
  | _=>.un
 | .rf r v p lo t ws=>match Cn R r v with
  | true=>.rf r p t.n lo ws.length
  | false=>.un
 | .pe r v p i c t x=>match Cn R r v with
  | true=>.pe r p i c
  | false=>.un
 | .pb r c=>match lk R r with
  | some (_,.bx _)=>.pb r c
  | _=>.un
def cA (R:XRs):XA->A
 | .c x=>.c (cC R x)
 | .ag cs=>.ag (cs.map (cC R))
def cV (R:XRs):XV->V
 | .un=>.un
 | .a x=>.a (cA R x)
 | .tp xs=>.tp (xs.map (cA R))
 | .fn f cs=>.fn f (cs.map (cA R))
 | .sb r n=>match lk R r with
  | some (_,.bx _)=>.sb r n
  | _=>.un
def cRt (R:XRs):XR->Option Root
 | .tr t xs=>some (.tr t.n (xs.map (Ae t)))
 | .im t xs=>some (.im t.n (xs.map (Ae t)))
 | .bx cs=>some (.bx (cs.map fun e=>cC R e.2))
 | .gone=>none
def Ct (R:XRs) (r:Nat) (p:Af):Option (Nat×List (List D)):=match lk R r with
 | some (_,.tr t xs)=>Am t.n (xs.map (Ae t)) p
 | some (_,.im t xs)=>Am t.n (xs.map (Ae t)) p
 | _=>none
def WkC (y x:C):Prop:=x=y\/x=.un
def WkA:A->A->Prop
 | .c y,.c x=>WkC y x
 | .ag ys,.ag xs=>Ab WkC ys xs
 | _,_=>False
def WkV:V->V->Prop
 | _,.un=>True
 | .a y,.a x=>WkA y x
 | .tp ys,.tp xs=>Ab WkA ys xs
 | .fn f c,.fn g d=>f=g/\Ab WkA c d
 | .sb r n,.sb r' n'=>r=r'/\n=n'
 | _,_=>False
def WkR:Root->Root->Prop
 | .tr s e,.tr s' e'=>s=s'/\e=e'
 | .im s e,.im s' e'=>s=s'/\e=e'
 | .bx ys,.bx xs=>Ab WkC ys xs
 | _,_=>False
theorem WkC.refl (x:C):WkC x x:=.inl rfl
theorem Ab.refl {α:Type}{R:α->α->Prop}(h:∀a,R a a):∀l:List α,Ab R l l
 | []=>trivial
 | a::l=>⟨h a,Ab.refl h l⟩
theorem WkA.refl:∀x:A,WkA x x
 | .c x=>WkC.refl x
 | .ag cs=>Ab.refl WkC.refl cs
theorem WkV.refl:∀x:V,WkV x x
 | .un=>trivial
 | .a x=>WkA.refl x
 | .tp xs=>Ab.refl WkA.refl xs
 | .fn f c=>⟨rfl,Ab.refl WkA.refl c⟩
 | .sb r n=>⟨rfl,rfl⟩
theorem WkC.eq {y x:C}(h:WkC y x) (hx:x≠.un):y=x:=by
 rcases h with h|h
 ·exact h.symm
 exact (hx h).elim
theorem WkV.c {y:V}{x:C}(h:WkV y (.a (.c x))) (hx:x≠.un):y=.a (.c x):=by
 cases y with
 | a z=>cases z with
  | c z=>rw[WkC.eq h hx]
  | ag _=>exact h.elim
 | _=>exact h.elim
structure SimX (X:XSt) (S:St):Prop where
 next:S.next=X.next
 fix:S.fix=X.fix
 env:∀t s v,lk X.env t=some (s,v)->v=.un\/∃y,get S.env t=some y/\WkV y (cV X.roots v)
 roots:∀r s x,lk X.roots r=some (s,x)->∀y,cRt X.roots x=some y->∃y',get S.roots r=some y'/\WkR y' y
def okC (R:XRs) (nx st:Nat):XC->Prop
 | .rw r=>r<nx
 | .rv r _ _=>r<nx
 | .rf r v p lo t ws=>r<nx/\v<st/\(Cn R r v=true->∃l,Ct R r p=some (t.n,l)/\lo+ws.length<=l.length/\(l.drop lo).take ws.length=ws.map (Ae t))
 | .pe r v p i c t x=>r<nx/\v<st/\(Cn R r v=true->∃l,Ct R r p=some (t.n,l)/\l[i]? = some (Ae t x))
 | .pb r _=>r<nx
 | _=>True
def okA (R:XRs) (nx st:Nat):XA->Prop
 | .c x=>okC R nx st x
 | .ag cs=>∀c∈cs,okC R nx st c
def okV (R:XRs) (nx st:Nat):XV->Prop
 | .a x=>okA R nx st x
 | .tp xs=>∀x∈xs,okA R nx st x
 | .fn _ cs=>∀x∈cs,okA R nx st x
 | .sb r _=>r<nx
 | _=>True
structure XOk (X:XSt):Prop where
 ids:∀r s x,lk X.roots r=some (s,x)->r<X.next/\s<X.stamp
 env:∀t s v,lk X.env t=some (s,v)->s<X.stamp/\okV X.roots X.next X.stamp v
 box:∀r s cs,lk X.roots r=some (s,.bx cs)->∀e∈cs,e.1<X.stamp/\okC X.roots X.next X.stamp e.2
 fixle:X.fix<=X.next
structure Ext (X X':XSt):Prop where
 next:X.next<=X'.next
 stamp:X.stamp<=X'.stamp
 fix:X'.fix=X.fix
 roots:∀r s x,lk X'.roots r=some (s,x)->s<X.stamp->lk X.roots r=some (s,x)
 env:∀t s v,lk X'.env t=some (s,v)->s<X.stamp->lk X.env t=some (s,v)
 cells:∀r s cs,lk X'.roots r=some (s,.bx cs)->∀(c:Nat) (e:Nat×XC),cs[c]? = some e->e.1<X.stamp->∃s0 cs0,lk X.roots r=some (s0,.bx cs0)/\cs0[c]? = some e
theorem Ext.refl (X:XSt):Ext X X:=⟨Kc _,Kc _,rfl,fun _ _ _ h _=>h,fun _ _ _ h _=>h,fun r s cs h c e hc _=>⟨s,cs,h,hc⟩⟩
theorem Ext.trans {X Y Z:XSt}(h1:Ext X Y) (h2:Ext Y Z):Ext X Z :=
 ⟨Kla h1.next h2.next,Kla h1.stamp h2.stamp,h2.fix.trans h1.fix,
  fun r s x h hs=>h1.roots r s x (h2.roots r s x h (Kz hs h1.stamp)) hs,
  fun t s v h hs=>h1.env t s v (h2.env t s v h (Kz hs h1.stamp)) hs,
  fun r s cs h c e hc hs=>by
  obtain⟨s0,cs0,h0,hc0⟩:=h2.cells r s cs h c e hc (Kz hs h1.stamp);exact h1.cells r s0 cs0 h0 c e hc0 hs⟩
theorem okC.ext {R R':XRs}{nx nx' st st':Nat}(hn:nx<=nx') (hs:st<=st') (hr:∀r s x,lk R' r=some (s,x)->s<st->lk R r=some (s,x)){c:XC}(h:okC R nx st c):okC R' nx' st' c:=by
 have key:∀{r v:Nat} {p:Af},v<st->Cn R' r v=true->Cn R r v=true/\Ct R' r p=Ct R r p:=by
  intro r v p hv h;obtain⟨x,hx⟩:=Zcf h;have h0:=hr r v x hx hv;exact⟨Mj h0,by simp only[Ct,hx,h0]⟩
 cases c with
 | rw r=>exact Kz h hn
 | rv r lo n=>exact Kz h hn
 | pb r c=>exact Kz h hn
 | rf r v p lo t ws =>
  obtain⟨h1,h2,h3⟩:=h;refine⟨Kz h1 hn,Kz h2 hs,fun hv=>?_⟩;obtain⟨k1,k2⟩:=key (p:=p) h2 hv;rw[k2];exact h3 k1
 | pe r v p i c t x =>
  obtain⟨h1,h2,h3⟩:=h;refine⟨Kz h1 hn,Kz h2 hs,fun hv=>?_⟩;obtain⟨k1,k2⟩:=key (p:=p) h2 hv;rw[k2];exact h3 k1
 | _=>trivial
theorem okA.ext {R R':XRs}{nx nx' st st':Nat}(hn:nx<=nx') (hs:st<=st') (hr:∀r s x,lk R' r=some (s,x)->s<st->lk R r=some (s,x)){c:XA}(h:okA R nx st c):okA R' nx' st' c:=by
 cases c with
 | c x=>exact okC.ext hn hs hr h
 | ag cs=>exact fun c hc=>okC.ext hn hs hr (h c hc)
theorem okV.ext {R R':XRs}{nx nx' st st':Nat}(hn:nx<=nx') (hs:st<=st') (hr:∀r s x,lk R' r=some (s,x)->s<st->lk R r=some (s,x)){c:XV}(h:okV R nx st c):okV R' nx' st' c:=by
 cases c with
 | a x=>exact okA.ext hn hs hr h
 | tp xs=>exact fun c hc=>okA.ext hn hs hr (h c hc)
 | fn f cs=>exact fun c hc=>okA.ext hn hs hr (h c hc)
 | sb r n=>exact Kz h hn
 | _=>trivial
def ofC:C->XC
 | .lf (.int k z)=>match k with
  | .u8=>.y (u8 z)
  | k=>.i k z
 | .lf (.bool b)=>.b b
 | .lf (.string s)=>.s s.data.toList
 | .lf v=>.lf v
 | .nl sz=>.nl sz
 | _=>.un
def M2:C->Bool
 | .lf (.int k z)=>match k with
  | .u8=>decide (0<=z/\z<256)
  | _=>true
 | _=>true
def ofV:V->XV
 | .a (.c x)=>match M2 x with
  | true=>.a (.c (ofC x))
  | false=>.un
 | .a (.ag cs)=>match cs.all M2 with
  | true=>.a (.ag (cs.map ofC))
  | false=>.un
 | .fn f []=>.fn f []
 | _=>.un
def XSt.opd (X:XSt):Opd->XV
 | .t n=>match lk X.env n with
  | some (_,v)=>v
  | none=>.un
 | .k v=>ofV v
theorem Zys (R:XRs){c:C}(h:M2 c=true):WkC c (cC R (ofC c)):=by
 cases c with
 | lf v =>
  left;cases v with
  | int k z =>
   cases k<;>try rfl
   simp only[M2,decide_eq_true_eq]at h;simp only[ofC,cC,u8];congr 1;congr 1;rw[UInt8.toNat_ofNat',Kpc (by omega)];omega
  | string s=>rfl
  | _=>rfl
 | nl sz=>exact .inl rfl
 | _=>exact .inr rfl
theorem Zau (R:XRs) (nx st:Nat) (c:C):okC R nx st (ofC c):=by
 cases c with
 | lf v =>
  cases v with
  | int k z=>cases k<;>trivial
  | _=>trivial
 | _=>trivial
theorem Zav (R:XRs):∀{cs:List C},cs.all M2=true->Ab WkC cs ((cs.map ofC).map (cC R))
 | [],_=>trivial
 | c::cs,h=>by
  simp only[List.all_cons,Kd]at h;exact⟨Zys R h.1,Zav R h.2⟩
theorem Yr6 (R:XRs) (v:V):WkV v (cV R (ofV v)):=by
 cases v with
 | a x=>cases x with
  | c x =>
   simp only[ofV];split
   ·rename_i h;exact Zys R h
   trivial
  | ag cs =>
   simp only[ofV];split
   ·rename_i h;exact Zav R h
   trivial
 | fn f cs =>
  cases cs with
  | nil=>exact⟨rfl,trivial⟩
  | cons _ _=>trivial
 | _=>trivial
theorem Yr5 (R:XRs) (nx st:Nat) (v:V):okV R nx st (ofV v):=by
 cases v with
 | a x=>cases x with
  | c x=>simp only[ofV];split<;>first|exact Zau R nx st x|trivial
  | ag cs =>
   simp only[ofV];split
   ·intro c hc;obtain⟨c',_,rfl⟩:=Ky.1 hc;exact Zau R nx st c'
   trivial
 | fn f cs =>
  cases cs with
  | nil=>intro x hx;cases hx
  | cons _ _=>trivial
 | _=>trivial
theorem G7 {X:XSt}{S:St}(h:SimX X S) (x:Opd):WkV (S.opd x) (cV X.roots (X.opd x)):=by
 cases x with
 | t n =>
  simp only[XSt.opd,St.opd];split
  ·rename_i s v hl;rcases h.env n s v hl with rfl|⟨y,h1,h2⟩
   ·simp [cV,WkV]
   rw[h1];exact h2
  simp [cV,WkV]
 | k v=>exact Yr6 X.roots v
theorem Ff {X:XSt}(h:XOk X) (x:Opd):okV X.roots X.next X.stamp (X.opd x):=by
 cases x with
 | t n =>
  simp only[XSt.opd];split
  ·rename_i s v hl;exact (h.env n s v hl).2
  trivial
 | k v=>exact Yr5 _ _ _ v
theorem Bg {X:XSt}{S:St}(h:SimX X S){x:Opd}{c:XC}(hx:X.opd x=.a (.c c)) (hc:cC X.roots c≠.un):S.opd x=.a (.c (cC X.roots c)):=by
 have:=G7 h x;rw[hx]at this;exact this.c hc
end Go.Vs
