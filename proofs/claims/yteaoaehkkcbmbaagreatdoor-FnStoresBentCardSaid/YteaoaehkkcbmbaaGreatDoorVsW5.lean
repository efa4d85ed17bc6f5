import Derived.ChangeArms
import Derived.ChangeSlices
import Derived.WideShapes
import Derived.DataReads
import Derived.ChangeShapes
import Derived.Laws.RangeAny
import Derived.OpenShut
import Derived.LaidMore
import Derived.Test.YteaoaehkkcbmbaaGreatDoorVsW4
set_option linter.all false
namespace Go.Vs
variable [Glb]
def MM(P:Program):List GI->St->(St->Prop)->Prop
 |[],S,K=>∃T,Le S T/\K T
 |g::l,S,K=>∃T,Le S T/\JP P g T λa=>MM P l a K
section
variable {P:Program} {N:Nat} {S:St} {Q:Exit->St->Prop}
def th{d:Array Oper}{q:World}{b:Nat->Nat->Prop}{e:Aw}{A:Nat}:∀(l:List Oper) (k:Nat) (c:List GI) (S:St) (g:Bp) (pl:Aw) (a:Act) (w:World),(∀j,l[j]?= d[k+j]?)->GL P N d l=some c->S.fix=A->Rel N q b e g pl S a w->MM P c S (Q .normal) ->
  wpOps P d (PQ N q b e A Q) (List.range' k l.length) a w
 |[],k,c,S,g,pl,a,w,_,n,u,s,h=>by
  simp only[GL,Ac]at n;subst n;obtain⟨T,i,r⟩:=h;obtain⟨B,p,f⟩:=i.2 N q b e g pl a w s;exact⟨T,B,p,r,i.1.trans u,f⟩
 |o::l,k,c,S,g,pl,a,w,i,n,u,s,h=>by
  simp only[GL,Bv,AO,Ac]at n;obtain⟨I,x,F,y,rfl⟩:=n;obtain⟨T,m,h⟩:=h;obtain⟨B,p,f⟩:=m.2 N q b e g pl a w s;simp only[Aq,Yo];rw[wpOps_cons];have G:d[k]?= some o:=by simpa using (i 0).symm
  refine vH f G x h ?_;intro C E z D H v r t;exact th l (k+1) F C E z D H (λj=>by have:=i (j+1);simpa[FQ,Nat.add_comm 1 j] using this) y (by rw[v,m.1,u]) t r
def Zpq{id:Nat}{b:Array Oper}{c:List GI}(f:GL P N b b.toList=some c)(h:MM P c S (Q .normal)):Vw P N (.region id b false) S Q:=λj d i g pl a w e=>by
 refine wp_region ?_;rw[m8,<-Hh];exact th b.toList 0 c S g pl a w (by simp) f rfl e h
def Zn8{f:List GI}(h:MM P f S (Q .normal)):Sw P N (.reg f) S Q:=λc e=>by
 cases c with
 |region id i d=>
  cases d with
  |false=>
   simp only[Bu,BP,Stm.reg.injEq]at e;obtain⟨j,g,rfl⟩:=e;exact Zpq g h
  |true=>simp[Bu]at e
 |seq a b=>simp[Bu,Bv,AO]at e
 |cond c a b=>simp[Bu,Bv,AO]at e
 |_=>simp[Bu]at e
def Znv{g:GI}{K c:St->Prop}(h:JP P g S K)(f:∀k,K k->c k):JP P g S c:=by
 have e:∀j:J,FJ P S (λx b a i=>K ⟨Bm g.dst x (Bz b S.env),a,i,S.fix⟩) j->FJ P S (λx b a i=>c ⟨Bm g.dst x (Bz b S.env),a,i,S.fix⟩) j:=by
  intro j q;obtain⟨x,b,r,n,m,o⟩:=gj q;exact o _ (f _ m)
 unfold JP at h ⊢;split at h
 .rename_i p;exact e _ h
 rename_i t l p;split at h
 .exact⟨λd=>e _ (h.1 d),λd=>f _ (h.2 d)⟩
 .exact f _ h
 exact h.elim
def tg{K:St->Prop}:∀(l c:List GI) (S:St),MM P l S (λd=>MM P c d K)->MM P (l++c) S K
 |[],[],S,h=>by
  obtain⟨T,a,U,b,e⟩:=h;exact⟨U,a.trans b,e⟩
 |[],g::c,S,h=>by
  obtain⟨T,a,U,b,e⟩:=h;exact⟨U,a.trans b,e⟩
 |g::l,c,S,h=>by
  obtain⟨T,a,b⟩:=h;exact⟨T,a,Znv b λd h=>tg l c d h⟩
end
structure CEnt (P:Program) where
 f:FuncId
 F:List UInt8->Option Int
 ok:∀x h,F x=some h->Y2 P f (.sl 1 (x.map (Al .Y))) [.int .i64 0,.int .i64 h]
def Z8{P:Program}{β:Type}(X:XSt)(e:CEnt P)(d:List XV)(k:XV->XSt->Option β):Option β:=match d with
 |[.a (.c c)]=>FL X.roots (.L .Y) [c] λx b=>match b with
  |[]=>Aa (e.F x) λh=>k (.a (.c (.pb X.next 0))) (X.newR (.bx [(X.stamp,c),(X.stamp,.i .i64 0),(X.stamp,.i .i64 h)]))
  |_=>none
 |_=>none
def oX{P:Program}{β:Type}{X:XSt}{S:St}{j:β}(A:XOk X)(m:SimX X S){e:CEnt P}{b:List Opd}{k:XV->XSt->Option β}(h:Z8 X e (b.map X.opd) k=some j):Xp P X S e.f b k j:=by
 unfold Z8 at h;split at h
 .rename_i c p;have o:=Sd A m b;rw[p]at o
  match N:b.map S.opd,o with
  |[y],o=>
  obtain⟨⟨M,C⟩,_⟩:=o;obtain⟨x,T,D,l,h,t⟩:=Mg (nx:=X.next) (st:=X.stamp) (.L .Y) [c] _ j (λQ p=>by simp only[Db]at p;subst p;exact C) h;split at h
  .rw[AB]at l;subst l;obtain⟨z,O,h⟩:=G6 h;have g:CD X.roots c (.sl 1 (x.map (Al .Y))):=t.1;have v:=M.c g.ne;have d:S.next=X.next:=m.next;have J:=e.ok x z O;obtain⟨G,H,I⟩:=OU (x:=.bx [(X.stamp,c),(X.stamp,.i .i64 0),(X.stamp,.i .i64 z)]) (y:=.bx [cC X.roots c,.lf (.int .i64 0),.lf (.int .i64 z)]) (E:=S.env) (R:=S.roots) (n:=S.next) (f:=S.fix) A m (λF h e B=>by
    simp only[XR.bx.injEq]at h;subst h;simp only[AX,Yx,Yz]at B;rcases B with rfl|rfl|rfl
    .exact⟨rfl,C⟩
    .exact⟨rfl,trivial⟩
    .exact⟨rfl,trivial⟩) ⟨_,rfl,⟨Ba.refl _,Ba.refl _,Ba.refl _,trivial⟩⟩
   refine⟨_,_,h,G,H,DG _,rfl,.a (.c (.pb S.next 0)),[],(S.next,.bx [cC X.roots c,.lf (.int .i64 0),.lf (.int .i64 z)])::S.roots,jc d, ?_,⟨rfl,λr s x q U=>?_⟩,λK w=>?_⟩
   .rw[Nq,d];exact I
   .simp only[XSt.newR]at q;rw[BO]at q;split at q
    .simp only[Ac,A5]at q;omega
    rename_i u;simp only[get];rw[Ae (by rw[d];exact u)]
   refine .inr (.inr (.inr ⟨cC X.roots c,_,_,by rw[N,v],J,Zs m g, ?_⟩));rw[d];rw[d]at w;exact w
  simp at h
 simp at h
structure HEnt (P:Program) where
 f:FuncId
 g:FuncId
 n:Nat
 args:List GArg
 res:List (Bool×Ty)
 F:Tp (DH args)->Option (Tp (GB args res))
 ok:∀x y,F x=some y->UQ (λws w R=>Calls P f (Ja n g ws).toArray w R) (Bq args x) (Lj args res (EV _ y))
def T8:List XA->List XV
 |[]=>[]
 |a::l=>.a a::T8 l
def PX:List XV->List XV->List XV
 |[],r=>r
 |a::l,r=>a::PX l r
def O0{β:Type}:Nat->List XV->List XV->(List XV->FuncId->List XA->Option β)->Option β
 |0,[v],a,k=>match v with
  |.fn g b=>k a g b
  |_=>none
 |n+1,v::l,a,k=>O0 n l (PX a [v]) k
 |_,_,_,_=>none
def Zq{P:Program}{β:Type}(X:XSt)(e:HEnt P)(c:List XV)(k:XV->XSt->Option β):Option β:=
 O0 e.n c [] λb g a=>match Nat.beq g e.g with
  |true=>Zp X e.args e.res e.F (PX b (T8 a)) k
  |false=>none
def Zf:∀(l r:List XV),PX l r=l++r
 |[],r=>rfl
 |a::l,r=>by simp only[PX,Zf l r,A1]
def lr:∀l:List XA,T8 l=l.map XV.a
 |[]=>rfl
 |a::l=>by simp only[T8,lr l,A2]
def o4{β:Type}{b:β}:∀(n:Nat) (f a:List XV){k:List XV->FuncId->List XA->Option β},O0 n f a k=some b->∃c g d,f=c++[.fn g d]/\c.length=n/\k (a++c) g d=some b
 |0,[],a,k,h=>by simp[O0]at h
 |0,v::w::l,a,k,h=>by simp[O0]at h
 |0,[v],a,k,h=>by
  simp only[O0]at h;split at h
  .exact⟨[],_,_,rfl,rfl,by simpa using h⟩
  cases h
 |n+1,[],a,k,h=>by simp[O0]at h
 |n+1,v::l,a,k,h=>by
  simp only[O0]at h;obtain⟨c,g,d,rfl,i,e⟩:=o4 n l _ h;refine⟨v::c,g,d,rfl,by simp[i], ?_⟩;rw[Zf]at e;simpa using e
def eh{X:XSt}:∀{d:List A}{b:List XA},Ai EH d (b.map (cA X.roots))->(∀x∈b,Gw X.roots X.next X.stamp x)->Ai (λy v=>CZ y (cV X.roots v)/\Dt X.roots X.next X.stamp v) (d.map V.a) (b.map XV.a)
 |[],[],_,_=>trivial
 |y::d,c::b,h,e=>⟨⟨h.1,e c B5⟩,eh h.2 λx f=>e x (Bx _ f)⟩
 |[],_::_,h,_=>h.elim
 |_::_,[],h,_=>h.elim
def nM{α β:Type}{R:α->β->Prop}:∀{c:List α}{g d:List β},Ai R c (g++d)->∃e f,c=e++f/\Ai R e g/\Ai R f d
 |c,[],d,h=>⟨[],c,rfl,trivial,h⟩
 |[],b::g,d,h=>h.elim
 |a::c,b::g,d,h=>by
  obtain⟨e,f,rfl,i,j⟩:=nM h.2;exact⟨a::e,f,rfl,⟨h.1,i⟩,j⟩
def nq{P:Program}{β:Type}{X:XSt}{S:St}{c:β}(o:XOk X)(m:SimX X S){e:HEnt P}{a:List Opd}{k:XV->XSt->Option β}(h:Zq X e (a.map X.opd) k=some c):Xp P X S e.f a k c:=by
 unfold Zq at h;obtain⟨C,g,z,j,B,h⟩:=o4 _ _ _ h;simp only[A0]at h;split at h
 case h_2=>cases h
 rename_i t;have u:=B6 t;subst u;rw[Zf,lr]at h;have p:=Sd o m a;rw[j]at p;obtain⟨r,x,w,l,i⟩:=nM p
 match x,i with
 |[y],i=>
  obtain⟨⟨d,v⟩,_⟩:=i;cases y with
  |fn q b=>
   obtain⟨rfl,d⟩:=d;have A:=l.length;refine (fJ o m e.ok (Ai.append l (eh d v)) h).mono λK s=>.inr (.inr (.inl ⟨r,e.g,b,w, ?_⟩));rw[show r.length=e.n by omega];exact s
  |_=>exact d.elim
inductive Fx (P:Program) where
 |see (e:SEnt P)
 |gen (e:GEnt P)
 |cur (e:CEnt P)
 |hof (e:HEnt P)
 |fs (e:SEnt P) (h:Vc P e.f=true)
 |fv (e:GEnt P) (h:Vc P e.f=true)
def Fx.f{P:Program}:Fx P->FuncId
 |.see e=>e.f
 |.gen e=>e.f
 |.cur e=>e.f
 |.hof e=>e.f
 |.fs e _=>e.f
 |.fv e _=>e.f
def Qo{P:Program}:List (Fx P)->FuncId->Option (Fx P)
 |[],_=>none
 |e::l,f=>match Nat.beq e.f f with
  |true=>some e
  |false=>Qo l f
def KX{P:Program}{f:FuncId}{e:Fx P}:∀{l:List (Fx P)},Qo l f=some e->e.f=f
 |[],h=>by simp[Qo]at h
 |x::l,h=>by
  simp only[Qo]at h;split at h
  .rename_i a;simp only[Ac]at h;subst h;exact B6 a
  exact KX h
def iC(H:List (Nat×Hn))(d:Option Nat):Hn:=match d with
 |none=>.no
 |some t=>match H with
  |[]=>.no
  |(q,h)::l=>match Nat.beq q t with
   |true=>h
   |false=>iC l (some t)
def Zr{P:Program}{β:Type}(Φ:List (Fx P))(X:XSt)(f:Opd)(a:List Opd)(k:XV->XSt->Option β):Option β:=match X.opd f with
 |.fn g b=>match Qo Φ g with
  |some (.fs e _)=>Tn X e (PX (a.map X.opd) (T8 b)) k
  |some (.fv e _)=>Zo X e (PX (a.map X.opd) (T8 b)) k
  |_=>none
 |_=>none
def nv{P:Program}{β:Type}{Φ:List (Fx P)}{X:XSt}{S:St}{d:β}(j:XOk X)(i:SimX X S){f:Opd}{a:List Opd}{k:XV->XSt->Option β}(h:Zr Φ X f a k=some d):Py X S (λK=>FJ P S K (.wr (.calv f a))) k d:=by
 unfold Zr at h;split at h
 case h_2=>cases h
 rename_i g x t;have c:=HJ i f;have r:=Gy j f;rw[t]at c r;have s:=Sd j i a;rw[Zf,lr]at h;cases l:S.opd f with
 |fn q p=>
  rw[l]at c;obtain⟨rfl,u⟩:=c;have b:=Ai.append s (eh u r);split at h
  .rename_i e n o;have:=KX o;simp only[Fx.f]at this;subst this;exact (uk j i b h).mono λK m=>⟨_,_,l,n,.inr (.inl m)⟩
  .rename_i e n o;have:=KX o;simp only[Fx.f]at this;subst this;exact (fJ j i (C:=λv w R=>Calls P e.f v.toArray w R) e.ok b h).mono λK m=>⟨_,_,l,n,.inl m⟩
  cases h
 |_=>rw[l]at c;exact c.elim
def Vq{P:Program}{β:Type}(Φ:List (Fx P))(H:List (Nat×Hn))(g:GI)(X:XSt)(k:XSt->Option β):Option β:=match g.op with
 |.rd i=>Ex X i λv=>k (X.put g.dst v)
 |.wr j=>match j with
  |.call f a=>match Qo Φ f with
   |some (.see e)=>Tn X e (a.map X.opd) λv b=>k (b.put g.dst v)
   |some (.gen e)=>Zo X e (a.map X.opd) λv b=>k (b.put g.dst v)
   |some (.cur e)=>Z8 X e (a.map X.opd) λv b=>k (b.put g.dst v)
   |some (.hof e)=>Zq X e (a.map X.opd) λv b=>k (b.put g.dst v)
   |_=>none
  |.calv f a=>Zr Φ X f a λv b=>k (b.put g.dst v)
  |j=>JV X (iC H g.dst) j λv b=>k (b.put g.dst v)
def XSt.know(X:XSt)(t:Nat)(b:Bool):XSt:=X.put (some t) (.a (.c (.b b)))
def XSt.knowO(X:XSt)(c:Opd)(b:Bool):XSt:=match c with
 |.t n=>X.know n b
 |.k _=>X
def cX{P : Program}{β : Type}(Φ : List (Fx P))(H : List (Nat × Hn))(g : GI)(X : XSt)(k : XSt → Option β) : Option β := match g.guard with
  |none => Vq Φ H g X k
  |some (t, d) => match lk X.env t with
    |some (_, .a (.c (.b b))) => Ab b
      (match d with
        |true => Vq Φ H g (X.know t true) k
        |false => k ((X.know t true).put g.dst (.tp [])))
      (match d with
        |true => k ((X.know t false).put g.dst (.tp []))
        |false => Vq Φ H g (X.know t false) k)
    |some (_, .tp _) => k (X.put g.dst (.tp []))
    |_ => none
def Tj{P:Program}{β:Type}(Φ:List (Fx P))(H:List (Nat×Hn)):List GI->XSt->(XSt->Option β)->Option β
 |[],X,k=>k X
 |g::l,X,k=>cX Φ H g X λa=>Tj Φ H l a k
def W5{P:Program}{β:Type}(Φ:List (Fx P))(H:List (Nat×Hn)):List (Nat×List It)->List GI->XSt->(XSt->Option β)->Option β
 |[],a,X,k=>Tj Φ H a X k
 |(n,b)::l,a,X,k=>AC (Tj (β:=Tp (It.tys b) ⊕ β) Φ H (a.take n) X λc=>Lk X c b λs=>some (.inl s)) λs=>W5 Φ H l (a.drop n) (J3 X b s) k
def LT(X:XSt)(i:I):List Nat:=match i with
 |.load _ x=>match X.opd x with
  |.a (.c (.pe r _ _ _ _ _ _))=>[r]
  |.a (.c (.pb r _))=>[r]
  |_=>[]
 |.b2s x=>match X.opd x with
  |.a (.c (.rw r))=>[r]
  |.a (.c (.rv r _ _))=>[r]
  |.a (.c (.rf r _ _ _ _ _))=>[r]
  |_=>[]
 |_=>[]
def Wb(X:XSt)(j:J):List Nat:=match j with
 |.rd i=>LT X i
 |.wr _=>[]
def Lr(R:AK):List Nat->List (Nat×Nat)
 |[]=>[]
 |r::l=>match lk R r with
  |some (s,_)=>(r,s)::Lr R l
  |none=>Lr R l
def SJ(R:AK):List Nat->Bool
 |[]=>true
 |r::l=>match lk R r with
  |some _=>SJ R l
  |none=>false
def N8(R:AK):List (Nat×Nat)->Bool
 |[]=>true
 |(r,s)::l=>Dp R r s&&N8 R l
def cI(l:List (Nat×Nat)):List AK->Bool
 |[]=>true
 |R::h=>N8 R l&&cI l h
abbrev PV:=List (List (Nat×Nat)×Nat)
def cJ(R:AK)(n:Nat):PV->Bool
 |[]=>true
 |(l,a)::b=>(match Nat.ble n a with
  |true=>N8 R l
  |false=>true)&&cJ R n b
def Sr{P:Program}{β:Type}(Φ:List (Fx P))(H:List (Nat×Hn))(g:GI)(X:XSt)(k:XV->XSt->Option β):Option β:=match g.op with
 |.rd i=>Ex X i λv=>k v X
 |.wr j=>match j with
  |.call f a=>match Qo Φ f with
   |some (.see e)=>Tn X e (a.map X.opd) k
   |some (.gen e)=>Zo X e (a.map X.opd) k
   |some (.cur e)=>Z8 X e (a.map X.opd) k
   |some (.hof e)=>Zq X e (a.map X.opd) k
   |_=>none
  |.calv f a=>Zr Φ X f a k
  |j=>match Wq X j with
   |true=>JV X (iC H g.dst) j k
   |false=>none
def lA{P : Program}{β : Type}(Φ : List (Fx P))(H : List (Nat × Hn))(g : GI)(X : XSt)(k : List Nat → XV → XSt → Option β) : Option β := match g.guard with
  |none => Sr Φ H g X λv e => k (Wb X g.op) v e
  |some (t, d) => match lk X.env t with
    |some (_, .a (.c (.b b))) => Ab b
      (match d with
        |true => Sr Φ H g (X.know t true) λv e => k (Wb (X.know t true) g.op) v e
        |false => k [] (.tp []) (X.know t true))
      (match d with
        |true => k [] (.tp []) (X.know t false)
        |false => Sr Φ H g (X.know t false) λv e => k (Wb (X.know t false) g.op) v e)
    |some (_, .tp _) => k [] (.tp []) X
    |_ => none
def bF(m:Nat):PV->Bool
 |[]=>true
 |(_,a)::l=>Nat.ble a m&&bF m l
def r7(n:Nat)(c:DI)(l:List DI)(m:Nat)(a:PV):Bool:=match l with
 |[]=>c.w&&((List.range (n-1)).all (λb=>c.anc.contains b)&&bF m a)
 |_=>false
def Qj{P:Program}{β:Type}(Φ:List (Fx P))(H:List (Nat×Hn))(n:Nat):List DI->XSt->List AK->PV->(XSt->Option β)->Option β
 |[],X,_,_,k=>k X
 |c::l,X,a,b,k=>match r7 n c l a.length b with
  |true=>cX Φ H c.gi X k
  |false=>lA Φ H c.gi X λd v e=>match c.w with
  |true=>match cJ e.roots (a.length+1) b with
   |true=>Qj Φ H n l (e.put c.gi.dst v) (X.roots::a) b k
   |false=>none
  |false=>match SJ e.roots d&&cI (Lr e.roots d) (a.take (a.length-c.lo)) with
   |true=>Qj Φ H n l (e.put c.gi.dst v) a (match Nat.blt a.length c.hi with
    |true=>(Lr e.roots d,c.hi)::b
    |false=>b) k
   |false=>none
inductive An where
 |d
 |rg (l:List (Nat×List It))
 |sq (j:Option (List It)) (a b:An)
 |cd (a b:An)
 |bl (a:An)
 |lp (its:List It) (a:An)
 |pl (a:An) (its:List It) (b:An)
open Classical in
noncomputable def MR{β:Type}(a b:Option β):Option β:=if a=b then a else none
def Zb{β:Type}(a:Option β):MR a a=a:=by unfold MR;rw[Af rfl]
def Zc{β:Type}{a b:Option β}{r:β}(h:MR a b=some r):a=some r/\b=some r:=by
 unfold MR at h;split at h
 .rename_i e;exact⟨h,by rw[<-e];exact h⟩
 cases h
noncomputable def Zd{β:Type}(f:List DI->Option β):List (List DI)->Option β
 |[]=>none
 |a::l=>match l with
  |[]=>f a
  |_=>MR (f a) (Zd f l)
def nO{β:Type}{f:List DI->Option β}{r:β}:∀{l:List (List DI)},Zd f l=some r->∀a∈l,f a=some r
 |[],h,a,b=>by cases b
 |x::l,h,a,b=>by
  simp only[Zd]at h;split at h
  .rcases AX.1 b with rfl|b
   .exact h
   cases b
  obtain⟨c,d⟩:=Zc h;rcases AX.1 b with rfl|b
  .exact c
  exact nO d a b
noncomputable def DY{P:Program}(Φ:List (Fx P))(H:List (Nat×Hn)):Stm->An->{β:Type}->XSt->(Exit->XSt->Option β)->Option β
 |.reg j,h,_,X,k=>match h with
  |.rg l=>W5 Φ H l j X (k .normal)
  |_=>Tj Φ H j X (k .normal)
 |.seq x y,h,β,X,k=>match h with
  |.sq (some f) a b=>AC (DY Φ H x a (β:=Tp (It.tys f) ⊕ β) X λe g=>match e with
    |.normal=>Lk X g f λs=>some (.inl s)
    |e=>Ks (k e g)) λs=>DY Φ H y b (J3 X f s) k
  |.sq none a b=>DY Φ H x a X λe g=>match e with
    |.normal=>DY Φ H y b g k
    |e=>k e g
  |_=>DY Φ H x .d X λe g=>match e with
    |.normal=>DY Φ H y .d g k
    |e=>k e g
 |.cond c x y,h,_,X,k=>match X.opd c with
  |.a (.c (.b t))=>match h with
   |.cd a b=>Ab t (DY Φ H x a (X.knowO c true) k) (DY Φ H y b (X.knowO c false) k)
   |_=>Ab t (DY Φ H x .d (X.knowO c true) k) (DY Φ H y .d (X.knowO c false) k)
  |_=>none
 |.block id x,h,_,X,k=>DY Φ H x (match h with|.bl a=>a|_=>.d) X λe g=>match e with
  |.exit m=>match Nat.beq m id with
   |true=>k .normal g
   |false=>k (.exit m) g
  |e=>k e g
 |.loop x,h,β,X,k=>match h with
  |.lp f a=>Lk X X f λs=>Bd (λs=>DY Φ H x a (β:=Tp (It.tys f) ⊕ β) (J3 X f s) λe g=>match e with
    |.normal=>Lk X g f λs=>some (.inl s)
    |e=>Ks (k e g)) s
  |.pl n f a=>DY Φ H x n X λe i=>match e with
    |.normal=>Lk i i f λs=>Bd (λs=>DY Φ H x a (β:=Tp (It.tys f) ⊕ β) (J3 i f s) λe g=>match e with
      |.normal=>Lk i g f λs=>some (.inl s)
      |e=>Ks (k e g)) s
    |e=>k e i
  |_=>none
 |.exit id,_,_,X,k=>k (.exit id) X
 |.ret,_,_,X,k=>k .ret X
 |.skip,_,_,X,k=>k .normal X
 |.drw f,_,_,X,k=>match SV f with
  |true=>Qj Φ H f.length f X [] [] (k .normal)
  |false=>none
 |.alt l,_,_,X,k=>Zd (λf=>match SV f with
  |true=>Qj Φ H f.length f X [] [] (k .normal)
  |false=>none) l
section
variable {P:Program} {N:Nat} {β:Type} {out:β} {Φ:List (Fx P)} {H:List (Nat×Hn)}
def ik{X:XSt}{S:St}(h:XOk X)(g:SimX X S){t:Nat}{b:Bool}{s:Nat}(i:lk X.env t=some (s,.a (.c (.b b)))):XOk (X.know t b)/\Ext X (X.know t b)/\SimX (X.know t b) S:=by
 obtain⟨a,c⟩:=JI h (d:=some t) (v:=.a (.c (.b b))) trivial;refine⟨a,c,⟨g.next,g.fix, ?_,g.roots⟩⟩;intro q j v f;simp only[XSt.know,XSt.put]at f;rw[BO]at f;split at f
 .rename_i e;simp only at e;subst e;simp only[Ac,A5]at f;obtain⟨_,rfl⟩:=f;exact g.env _ _ _ i
 exact g.env q j v f
def fk{X:XSt}{S:St}(y:XOk X)(w:SimX X S){g:GI}{k:XSt->Option β}(h:Vq Φ H g X k=some out){K:St->Prop}
  (A:∀t J,XOk t->Ext X t->SimX t J->k t=some out->K J):FJ P S (λx u c I=>K ⟨Bm g.dst x (Bz u S.env),c,I,S.fix⟩) g.op:=by
 unfold Vq at h;split at h
 .rename_i i B;rw[B];obtain⟨C,h,M,v,O,E⟩:=jn y w h;show ev S (λv=>K ⟨Bm g.dst v (Bz [] S.env),S.roots,S.next,S.fix⟩) i;refine E _ ?_;obtain⟨a,b⟩:=JI y (d:=g.dst) M;exact A _ _ a b (Mm w O) h
 rename_i j B;rw[B];split at h
 .rename_i f l;split at h
  .rename_i e z;have s:=KX z;simp only[Fx.f]at s;subst s;obtain⟨C,t,h,m,n,o,D,v,u,c,p,q,_,r⟩:=ul y w h;refine r _ ?_;obtain⟨a,b⟩:=JI m (d:=g.dst) o;exact A _ _ a (n.trans b) (Mm q p) h
  .rename_i e z;have s:=KX z;simp only[Fx.f]at s;subst s;obtain⟨C,t,h,m,n,o,D,v,u,c,p,q,_,r⟩:=np y w h;refine r _ ?_;obtain⟨a,b⟩:=JI m (d:=g.dst) o;exact A _ _ a (n.trans b) (Mm q p) h
  .rename_i e z;have s:=KX z;simp only[Fx.f]at s;subst s;obtain⟨C,t,h,m,n,o,D,v,u,c,p,q,_,r⟩:=oX y w h;refine r _ ?_;obtain⟨a,b⟩:=JI m (d:=g.dst) o;exact A _ _ a (n.trans b) (Mm q p) h
  .rename_i e z;have s:=KX z;simp only[Fx.f]at s;subst s;obtain⟨C,t,h,m,n,o,D,v,u,c,p,q,_,r⟩:=nq y w h;refine r _ ?_;obtain⟨a,b⟩:=JI m (d:=g.dst) o;exact A _ _ a (n.trans b) (Mm q p) h
  simp at h
 .rename_i f l;obtain⟨C,t,h,m,n,o,D,v,u,c,p,q,_,r⟩:=nv y w h;refine r _ ?_;obtain⟨a,b⟩:=JI m (d:=g.dst) o;exact A _ _ a (n.trans b) (Mm q p) h
 rename_i F G;obtain⟨C,t,h,m,n,o,D,v,u,c,p,q,_,r⟩:=xA y w h;have L:wr S (λx u c I=>K ⟨Bm g.dst x (Bz u S.env),c,I,S.fix⟩) j:=by
  refine r _ ?_;obtain⟨a,b⟩:=JI m (d:=g.dst) o;exact A _ _ a (n.trans b) (Mm q p) h
 cases j with
 |call f l=>exact (F f l rfl).elim
 |calv f l=>exact (G f l rfl).elim
 |_=>exact L
def vK{X:XSt}{S:St}(z:XOk X)(m:SimX X S){g:GI}{k:XSt->Option β}(h:cX Φ H g X k=some out){K:St->Prop}
  (B:∀f j,XOk f->Ext X f->SimX f j->k f=some out->K j):JP P g S K:=by
 have skip:∀{f:XSt},XOk f->Ext X f->SimX f S->k (f.put g.dst (.tp []))=some out->K ⟨Bm g.dst (.tp []) S.env,S.roots,S.next,S.fix⟩:=by
  intro f q r u w;obtain⟨a,b⟩:=JI q (d:=g.dst) (v:=.tp []) (λx F=>by simp at F);exact B _ _ a (r.trans b) (Mm (v:=.tp []) (xv:=.tp []) u trivial) w
 unfold cX at h;unfold JP;split at h
 .rename_i A;simp only[A];exact fk z m h B
 rename_i t i A;simp only[A];split at h
 .rename_i s b p;have o:get S.env t=some (.a (.c (.lf (.bool b)))):=by
   rcases m.env t s _ p with h|⟨y,C,D⟩
   .simp at h
   rw[C,D.c (by simp[cC])];rfl
  rw[o];simp only;obtain⟨a,c,d⟩:=ik z m p;have n:∀f j,XOk f->Ext (X.know t b) f->SimX f j->k f=some out->K j:=λf j q r u w=>B f j q (c.trans r) u w;rcases Z5 h with ⟨rfl,h⟩|⟨rfl,h⟩
  .cases i with
   |true=>exact⟨λ_=>fk a d h n,λe=>(e rfl).elim⟩
   |false=>exact⟨λe=>by simp at e,λ_=>skip a c d h⟩
  cases i with
  |true=>exact⟨λe=>by simp at e,λ_=>skip a c d h⟩
  |false=>exact⟨λ_=>fk a d h n,λe=>(e rfl).elim⟩
 .rename_i s l p;have o:∃y,get S.env t=some (.tp y):=by
   rcases m.env t s _ p with h|⟨y,C,D⟩
   .simp at h
   cases y with
   |tp E=>exact⟨E,C⟩
   |_=>exact D.elim
  obtain⟨E,o⟩:=o;rw[o];exact skip z (Ext.refl X) m h
 simp at h
def kI:∀{f:List GI}{X:XSt}{S:St},XOk X->SimX X S->∀{k:XSt->Option β},Tj Φ H f X k=some out->∀{K:St->Prop},
  (∀e i,XOk e->Ext X e->SimX e i->k e=some out->∃T,Le i T/\K T)->MM P f S K
 |[],X,S,m,j,k,h,K,n=>n X S m (Ext.refl X) j h
 |g::l,X,S,m,j,k,h,K,n=>by
  simp only[Tj]at h;refine⟨S,Le.refl S,vK m j h ?_⟩;intro e i q r s t;exact kI q s t λp o a b c d=>n p o a (r.trans b) c d
def rF{σ ρ:Type}{o:Option (σ ⊕ ρ)}{f:σ->Option ρ}{r:ρ}(h:AC o f=some r):∃z,o=some z/\((∃s,z=.inl s/\f s=some r)\/z=.inr r):=by
 unfold AC at h;split at h
 .rename_i s;exact⟨_,rfl,.inl ⟨s,rfl,h⟩⟩
 .simp only[Ac]at h;subst h;exact⟨_,rfl,.inr rfl⟩
 simp at h
def tf:∀{l:List (Nat×List It)}{f:List GI}{X:XSt}{S:St},XOk X->SimX X S->∀{k:XSt->Option β},W5 Φ H l f X k=some out->∀{K:St->Prop},
  (∀g j,XOk g->Ext X g->SimX g j->k g=some out->∃T,Le j T/\K T)->MM P f S K
 |[],f,X,S,i,o,k,h,K,p=>kI i o h p
 |(n,r)::l,f,X,S,i,o,k,h,K,p=>by
  simp only[W5]at h;obtain⟨z,B,m⟩:=rF h;rw[<-Jg n f];refine tg _ _ _ (kI i o B ?_);intro g j a b c d;obtain⟨s,t,q⟩:=bT i a b c d;simp only[Ac]at t;subst t;rcases m with ⟨E,e,m⟩|e
  .simp only[Sum.inl.injEq]at e;subst e;obtain⟨C,D⟩:=dE i r s;exact⟨_,q,tf C (kp _) m λv u w x y A=>p v u w (D.trans x) y A⟩
  simp at e
def Zn5{s:Stm}{S:St}{Q:Exit->St->Prop}(h:Sw P N s S λe a=>∃T,Le a T/\Q e T):Sw P N s S Q:=λc b=>ls (h c b)
def oQ{X:XSt}{S:St}(e:XOk X)(d:SimX X S){c:Opd}{t:Bool}(f:X.opd c=.a (.c (.b t))):XOk (X.knowO c t)/\Ext X (X.knowO c t)/\SimX (X.knowO c t) S:=by
 cases c with
 |k v=>exact⟨e,Ext.refl X,d⟩
 |t n=>
  obtain⟨s,g⟩:=ci (X:=X) (t:=n) f (by simp);exact ik e d g
def Zbh{X:XSt}{S:St}(D:SimX X S){i:I}{k:XV->Option β}(h:Ex X i k=some out){K:V->Prop}(j:ev S K i){y:List (Nat×Root)}{B:Nat}(O:∀r∈LT X i,get y r=get S.roots r):ev ⟨S.env,y,B,S.fix⟩ K i:=by
 have Qr:Qs i=true->ev ⟨S.env,y,B,S.fix⟩ K i:=λQ=>gk (E:=S.env) (R:=S.roots) (n:=S.next) (f:=S.fix) Q j;have q:∀x:Opd,(⟨S.env,y,B,S.fix⟩:St).opd x=S.opd x:=λx=>by cases x<;>rfl
 cases i with
 |load m x=>
  simp only[Ex]at h;split at h
  .rename_i r v p i c t e l;split at h
   .rename_i J;have d:S.opd x=.a (.c (.pe r p i c)):=by rw[BT D l (by simp[cC,J])];simp only[cC,J]
    have g:=O r (by simp[LT,l]);have F:(⟨S.env,y,B,S.fix⟩:St).node r p=S.node r p:=by simp only[St.node,g]
    cases m<;>(simp only[ev,q,d,F]at j ⊢;exact j)
   simp at h
  .rename_i r c l;split at h
   .rename_i s T G;have d:S.opd x=.a (.c (.pb r c)):=by rw[BT D l (by simp[cC,G])];simp only[cC,G]
    have g:=O r (by simp[LT,l]);have F:(⟨S.env,y,B,S.fix⟩:St).bcells r=S.bcells r:=by simp only[St.bcells,g]
    cases m<;>(simp only[ev,q,d,F]at j ⊢;exact j)
   simp at h
  .rename_i b o l;have d:S.opd x=.a (.c (.lf (.pointer (some ⟨b,o,none⟩)))):=by rw[BT D l (by simp[cC])];rfl
   cases m<;>(simp only[ev,q,d]at j ⊢;exact j)
  simp at h
 |b2s x=>
  simp only[Ex]at h;split at h
  .rename_i s l;have d:=BT D l (by simp[cC]);simp only[ev,q,d,cC]at j ⊢;exact j
  .rename_i c U l;have u:cC X.roots c≠.un/\∀r p s w n,cC X.roots c=.rf r p s w n->r∈LT X (.b2s x):=by
    unfold NL at h;split at h
    .rename_i r;split at h
     .rename_i g;exact⟨by simp[cC,g],λM p s w n e=>by simp only[cC,g,C.rf.injEq]at e;rw[<-e.1];simp[LT,l]⟩
     .rename_i g;exact⟨by simp[cC,g],λM p s w n e=>by simp only[cC,g,C.rf.injEq]at e;rw[<-e.1];simp[LT,l]⟩
     simp at h
    .rename_i r w n;split at h
     .rename_i g;exact⟨by simp[cC,g],λM p s w n e=>by simp only[cC,g,C.rf.injEq]at e;rw[<-e.1];simp[LT,l]⟩
     .rename_i g;exact⟨by simp[cC,g],λM p s w n e=>by simp only[cC,g,C.rf.injEq]at e;rw[<-e.1];simp[LT,l]⟩
     simp at h
    .rename_i r v p w t W;split at h
     .rename_i J;exact⟨by simp[cC,J],λM p s w n e=>by simp only[cC,J,C.rf.injEq]at e;rw[<-e.1];simp[LT,l]⟩
     simp at h
    simp at h
   have d:=BT D l u.1;cases z:cC X.roots c with
   |rf r p s w n=>
    have g:=O r (u.2 _ _ _ _ _ z);have F:(⟨S.env,y,B,S.fix⟩:St).node r p=S.node r p:=by simp only[St.node,g]
    rw[z]at d;simp only[ev,q,d]at j ⊢;split at j
    .rename_i L;simp only[V.a.injEq,A.c.injEq,C.rf.injEq]at L;obtain⟨rfl,rfl,rfl,rfl,rfl⟩:=L;simp only[F];exact j
    .rename_i L;simp at L
    exact j.elim
   |_=>
    rw[z]at d
    first
     |(simp only[ev,q,d]at j;done)
     |(simp only[ev,q,d]at j ⊢;exact j)
  simp at h
 |_=>exact Qr rfl
def oc{X:XSt}{S:St}(E:XOk X)(q:SimX X S){g:GI}{k:XV->XSt->Option β}(h:Sr Φ H g X k=some out):
  ∃m b,k m b=some out/\XOk b/\Ext X b/\Dt b.roots b.next b.stamp m/\b.env=X.env/\∃v a,CZ v (cV b.roots m)/\SimX b ⟨S.env,a,b.next,S.fix⟩/\(∀r s x,lk b.roots r=some (s,x)->s<X.stamp->get a r=get S.roots r)/\(∀K:KW,K v [] a b.next->FJ P S K g.op) /\
   (Hm g=true->b=X/\a=S.roots/\∀J V,(∀r∈Wb X g.op,get J r=get S.roots r)->FJ P ⟨S.env,J,V,S.fix⟩ (λT _ _ _=>T=v) g.op):=by
 unfold Sr at h;split at h
 .rename_i i c;have W:=h;obtain⟨m,h,Z,v,hw,G⟩:=jn E q h;have M:SimX X ⟨S.env,S.roots,X.next,S.fix⟩:=⟨rfl,q.fix,q.env,q.roots⟩;refine⟨m,X,h,E,Ext.refl X,Z,rfl,v,S.roots,hw,M,λ_ _ _ _ _=>rfl, ?_, ?_⟩
  .intro K n;rw[c];show ev S (λv=>K v [] S.roots S.next) i;refine G _ ?_;rw[q.next];exact n
  intro _;refine⟨rfl,rfl,λJ V U=>?_⟩;rw[c]at U ⊢;exact Zbh q W (G (λT=>T=v) rfl) U
 rename_i j c;have p:Hm g=true->False:=by
  intro e;obtain⟨d,o,gd⟩:=g;simp only at c;subst c;simp[Hm]at e
 split at h
 .rename_i f l;split at h
  .rename_i e F;have D:=KX F;simp only[Fx.f]at D;subst D;obtain⟨m,b,h,t,u,w,y,v,I,a,z,A,⟨rfl,C⟩,B⟩:=ul E q h;exact⟨m,b,h,t,u,w,y,v,a,z,A,C,λK n=>by rw[c];exact B K n,λe=>(p e).elim⟩
  .rename_i e F;have D:=KX F;simp only[Fx.f]at D;subst D;obtain⟨m,b,h,t,u,w,y,v,I,a,z,A,⟨rfl,C⟩,B⟩:=np E q h;exact⟨m,b,h,t,u,w,y,v,a,z,A,C,λK n=>by rw[c];exact B K n,λe=>(p e).elim⟩
  .rename_i e F;have D:=KX F;simp only[Fx.f]at D;subst D;obtain⟨m,b,h,t,u,w,y,v,I,a,z,A,⟨rfl,C⟩,B⟩:=oX E q h;exact⟨m,b,h,t,u,w,y,v,a,z,A,C,λK n=>by rw[c];exact B K n,λe=>(p e).elim⟩
  .rename_i e F;have D:=KX F;simp only[Fx.f]at D;subst D;obtain⟨m,b,h,t,u,w,y,v,I,a,z,A,⟨rfl,C⟩,B⟩:=nq E q h;exact⟨m,b,h,t,u,w,y,v,a,z,A,C,λK n=>by rw[c];exact B K n,λe=>(p e).elim⟩
  simp at h
 .rename_i f l;obtain⟨m,b,h,t,u,w,y,v,I,a,z,A,⟨rfl,C⟩,B⟩:=nv E q h;exact⟨m,b,h,t,u,w,y,v,a,z,A,C,λK n=>by rw[c];exact B K n,λe=>(p e).elim⟩
 rename_i O Q;split at h
 .rename_i R;obtain⟨m,b,h,t,u,w,y,v,I,a,z,A,Y,B⟩:=xA E q h;obtain⟨rfl,C⟩:=Y R;refine⟨m,b,h,t,u,w,y,v,a,z,A,C,λK n=>?_,λe=>(p e).elim⟩;rw[c];have L:=B K n;cases j with
  |call f l=>exact (O f l rfl).elim
  |calv f l=>exact (Q f l rfl).elim
  |_=>exact L
 simp at h
def Znu{X:XSt}{S:St}(V:XOk X)(z:SimX X S){g:GI}{k:List Nat->XV->XSt->Option β}(h:lA Φ H g X k=some out):
  ∃j m i,k j m i=some out/\XOk i/\Ext X i/\Dt i.roots i.next i.stamp m/\∃v f,CZ v (cV i.roots m)/\SimX i ⟨S.env,f,i.next,S.fix⟩/\(∀r s x,lk i.roots r=some (s,x)->s<X.stamp->get f r=get S.roots r)/\(∀K:KW,K v [] f i.next->CI P g S K) /\
   (Hm g=true->i.roots=X.roots/\f=S.roots/\i.next=X.next/\∀n q,(∀r∈j,get n r=get S.roots r)->CI P g ⟨S.env,n,q,S.fix⟩ (λG _ _ _=>G=v)):=by
 unfold lA at h;split at h
 .rename_i u;obtain⟨m,i,h,J,L,M,h4,v,f,O,Q,R,T,U⟩:=oc V z h;refine⟨_,m,i,h,J,L,M,v,f,O,Q,R,λK B=>?_,λe=>?_⟩
  .simp only[CI,u];exact T K B
  obtain⟨rfl,rfl,A⟩:=U e;exact⟨rfl,rfl,rfl,λn q o=>by simp only[CI,u];exact A n q o⟩
 rename_i t p u;split at h
 .rename_i s b o;have w:get S.env t=some (.a (.c (.lf (.bool b)))):=by
   rcases z.env t s _ o with h|⟨y,y1,y2⟩
   .simp at h
   rw[y1,y2.c (by simp[cC])];rfl
  obtain⟨a,c,d⟩:=ik V z o;have I:SimX (X.know t b) ⟨S.env,S.roots,(X.know t b).next,S.fix⟩:=⟨rfl,d.fix,d.env,d.roots⟩;have F:∀{j:List Nat},j=Wb (X.know t b) g.op->b=p->Sr Φ H g (X.know t b) (λv i=>k j v i)=some out->∃j m i,k j m i=some out/\XOk i/\Ext X i/\Dt i.roots i.next i.stamp m/\∃v f,CZ v (cV i.roots m)/\SimX i ⟨S.env,f,i.next,S.fix⟩/\(∀r s x,lk i.roots r=some (s,x)->s<X.stamp->get f r=get S.roots r)/\(∀K:KW,K v [] f i.next->CI P g S K) /\
    (Hm g=true->i.roots=X.roots/\f=S.roots/\i.next=X.next/\∀n q,(∀r∈j,get n r=get S.roots r)->CI P g ⟨S.env,n,q,S.fix⟩ (λG _ _ _=>G=v)):=by
   intro j E D h;obtain⟨m,i,h,J,L,M,h4,v,f,O,Q,R,T,U⟩:=oc a d h;refine⟨_,m,i,h,J,c.trans L,M,v,f,O,Q,λr s x o Y=>R r s x o (CO Y c.stamp),λK B=>?_,λe=>?_⟩
   .simp only[CI,u,w];exact⟨λ_=>T K B,λC=>(C D).elim⟩
   obtain⟨rfl,rfl,A⟩:=U e;refine⟨rfl,rfl,rfl,λn q o=>?_⟩;simp only[CI,u,w];exact⟨λ_=>A n q (by rw[<-E];exact o),λC=>(C D).elim⟩
  have skip:b≠p->k [] (.tp []) (X.know t b)=some out->∃j m i,k j m i=some out/\XOk i/\Ext X i/\Dt i.roots i.next i.stamp m/\∃v f,CZ v (cV i.roots m)/\SimX i ⟨S.env,f,i.next,S.fix⟩/\(∀r s x,lk i.roots r=some (s,x)->s<X.stamp->get f r=get S.roots r)/\(∀K:KW,K v [] f i.next->CI P g S K) /\
    (Hm g=true->i.roots=X.roots/\f=S.roots/\i.next=X.next/\∀n q,(∀r∈j,get n r=get S.roots r)->CI P g ⟨S.env,n,q,S.fix⟩ (λG _ _ _=>G=v)):=by
   intro D h;have W:(X.know t b).next=S.next:=d.next.symm;refine⟨[],.tp [],_,h,a,c,(λx Z=>by simp at Z),.tp [],S.roots,trivial,I,λr s x o Y=>rfl,λK B=>?_,λe=>⟨rfl,rfl,rfl,λn q o=>?_⟩⟩
   .simp only[CI,u,w];exact⟨λe=>(D e).elim,λ_=>by rw[<-W];exact B⟩
   simp only[CI,u,w];exact⟨λe=>(D e).elim,λ_=>trivial⟩
  rcases Z5 h with ⟨rfl,h⟩|⟨rfl,h⟩
  .cases p with
   |true=>exact F rfl rfl h
   |false=>exact skip (by simp) h
  cases p with
  |true=>exact skip (by simp) h
  |false=>exact F rfl rfl h
 .rename_i s l o;have w:∃y,get S.env t=some (.tp y):=by
   rcases z.env t s _ o with h|⟨y,y1,y2⟩
   .simp at h
   cases y with
   |tp ys=>exact⟨ys,y1⟩
   |_=>exact y2.elim
  obtain⟨ys,w⟩:=w;have I:SimX X ⟨S.env,S.roots,X.next,S.fix⟩:=⟨rfl,z.fix,z.env,z.roots⟩;refine⟨[],.tp [],X,h,V,Ext.refl X,(λx Z=>by simp at Z),.tp [],S.roots,trivial,I,λr s x o Y=>rfl,λK B=>?_,λe=>⟨rfl,rfl,rfl,λn q o=>?_⟩⟩
  .simp only[CI,u,w];rw[z.next];exact B
  simp only[CI,u,w]
 simp at h
def xR(R:AK)(a:List (Nat×Root))(b:AK)(m:Mem):Prop:=∀r s x c,lk b r=some (s,x)->lk R r=some (s,c)->get m.1 r=get a r
def ud{R f:AK}:∀{a:List Nat},N8 f (Lr R a)=true->SJ R a=true->∀r∈a,∃s x d,lk f r=some (s,x)/\lk R r=some (s,d)
 |[],_,_,r,b=>by simp at b
 |q::l,h,c,r,b=>by
  simp only[SJ]at c;split at c
  .rename_i e g;obtain⟨s,d⟩:=e;simp only[Lr,g,N8,A6]at h;rcases AX.1 b with rfl|b
   .obtain⟨x,i⟩:=Xi h.1;exact⟨s,x,d,i,g⟩
   exact ud h.2 c r b
  simp at c
def ub{l:List (Nat×Nat)}:∀{h:List AK},cI l h=true->∀R∈h,N8 R l=true
 |[],_,R,a=>by simp at a
 |R::h,b,c,a=>by
  simp only[cI,A6]at b;rcases AX.1 a with rfl|a
  .exact b.1
  exact ub b.2 c a
def ue{R:AK}{n:Nat}:∀{b:PV},cJ R n b=true->∀p∈b,n<=p.2->N8 R p.1=true
 |[],_,p,a,_=>by simp at a
 |(l,d)::b,h,p,a,c=>by
  simp only[cJ,A6]at h;rcases AX.1 a with rfl|a
  .have:=h.1;rw[show Nat.ble n d=true from mh c]at this;exact this
  exact ue h.2 p a c
def eB(P:Program)(b:Nat)(R:AK)(d:List (Nat×Root))(p:Pend)(q:List (Nat×Nat)×Nat):Prop:=
 p.hi=q.2/\∃a:List (Nat×Option Root),(∀c f,(∀e∈a,get c e.1=e.2)->CI P p.gi ⟨p.E,c,f,b⟩ λg _ _ _=>g=p.x) /\
  ∀e∈a,∃s,(e.1,s)∈q.1/\∀x,lk R e.1=some (s,x)->get d e.1=e.2
def uc{R:AK}:∀{l:List (Nat×Nat)},N8 R l=true->∀p∈l,∃x,lk R p.1=some (p.2,x)
 |[],_,p,a=>by simp at a
 |(r,s)::l,h,p,a=>by
  simp only[N8,A6]at h;rcases AX.1 a with rfl|a
  .exact Xi h.1
  exact uc h.2 p a
def ky{R:AK}:∀{a:List Nat}{r s:Nat}{x:XR},r∈a->lk R r=some (s,x)->(r,s)∈Lr R a
 |[],r,s,x,h,_=>by simp at h
 |q::l,r,s,x,h,b=>by
  simp only[Lr];rcases AX.1 h with rfl|h
  .rw[b];exact B5
  split
  .exact Bx _ (ky h b)
  exact ky h b
def sM{m:Nat}:∀{l:PV},bF m l=true->∀q∈l,q.2<=m
 |[],_,q,h=>by cases h
 |(_,b)::l,h,q,a=>by
  simp only[bF,A6]at h;rcases AX.1 a with rfl|a
  .exact AS h.1
  exact sM h.2 q a
def Znx{S:St}{g:GI}{K:St->Prop}(h:JP P g S K):CI P g S λx c r n=>K ⟨Bm g.dst x (Bz c S.env),r,n,S.fix⟩:=by
 obtain⟨d,i,b⟩:=g;cases b with
 |none=>exact h
 |some f=>
  obtain⟨t,a⟩:=f;unfold JP at h;unfold CI
  try simp only at h ⊢
  generalize get S.env t=o at h ⊢;split at h
  .exact⟨h.1,λe=>h.2 e⟩
  .exact h
  exact h.elim
def ZD{nI:Nat}:∀(l:List DI){X:XSt}{S:St}{hist:List AK}{histV:List Mem}{pend:PV}{pendV:List Pend}{k:XSt->Option β},XOk X->SimX X S->Qj Φ H nI l X hist pend k=some out->(∀f∈l,f.w=!Hm f.gi) ->
  Ai (λmR m=>xR X.roots S.roots mR m/\∀r s x,lk mR r=some (s,x)->s<X.stamp) hist histV->(∀p∈pendV,∃q∈pend,eB P S.fix X.roots S.roots p q)->(∀q∈pend,∀e∈q.1,e.2<X.stamp)->∀{K:St->Prop},
  (∀t S',XOk t->Ext X t->SimX t S'->k t=some out->K S')->Ga P nI S.fix l S.env ((S.roots,S.next)::histV) pendV K
 |[],X,S,hist,histV,pend,pendV,k,hX,hS,h,_,_,_,_,K,hk=>hk X S hX (Ext.refl X) hS h
 |f::l,X,S,hist,histV,pend,pendV,k,hX,hS,h,hw,hH,hP,M,K,hk=>by
  simp only[Qj]at h;have A:=hH.length;split at h
  case h_1=>
   rename_i G;unfold r7 at G;split at G
   case h_2=>cases G
   simp only[A6]at G;obtain⟨E,a8,c1⟩:=G;have c5:=vK (P:=P) hX hS h (K:=K) hk;simp only[Ga];refine lD (Znx c5) ?_;intro x ks r n hK;rw[Af E];refine⟨λp u c6=>?_,.inr ⟨trivial,a8,hK⟩⟩;obtain⟨q,y,Q,_⟩:=hP p u;have:=sM c1 q y;exfalso;rw[A]at this;omega
  obtain⟨T,xv,t,h,h1,J,h3,v,B,h5,h6,h7,h8,h9⟩:=Znu hX hS h;have Y:=hw f B5;obtain⟨a,b⟩:=JI h1 (d:=f.gi.dst) h3;have W:=Mm (d:=f.gi.dst) h6 h5;have j:(t.put f.gi.dst xv).roots=t.roots:=by cases f.gi.dst<;>rfl
  have c:t.stamp<=(t.put f.gi.dst xv).stamp:=b.stamp;simp only[Ga];split at h
  .-- f writes
   rename_i E;split at h
   .rename_i c4;refine h8 _ ?_;simp only[E,BF];refine⟨?_,.inl ⟨trivial, ?_⟩⟩
    .intro p u b8;obtain⟨q,y,Q,a0,a4,a5⟩:=hP p u;have c3:=ue c4 q y (by rw[A,<-Q];exact b8);refine a4 B t.next λe F=>?_;obtain⟨s,I,a3⟩:=a5 e F;obtain⟨x,hx⟩:=uc c3 _ I;have g:=M q y _ I;simp only at hx g;rw[h7 _ _ _ hx g];exact a3 x (J.roots _ _ _ hx g)
    refine ZD l (hist:=X.roots::hist) (histV:=(S.roots,S.next)::histV) (pend:=pend) a W h (λf a1=>hw f (Bx _ a1)) ⟨⟨?_, ?_⟩, ?_⟩ ?_ ?_ λX2 S2 q1 q2 q3 q4=>hk X2 S2 q1 ((J.trans b).trans q2) q3 q4
    .intro r s x x' C D;rw[j]at D;exact (h7 r s x' D (hX.ids r s x C).2).symm
    .intro r s x C;exact CO (hX.ids r s x C).2 (CW J.stamp c)
    .refine hH.mono ?_;intro mR m ⟨g1,L⟩;refine⟨?_,λr s x C=>CO (L r s x C) (CW J.stamp c)⟩;intro r s x x' C D;rw[j]at D;have g:=L r s x C;show get m.1 r=get B r;rw[h7 r s x' D g];exact g1 r s x x' C (J.roots r s x' D g)
    .intro p u;obtain⟨q,y,Q,a0,a4,a5⟩:=hP p u;refine⟨q,y,Q,a0,a4,λe F=>?_⟩;obtain⟨s,I,a3⟩:=a5 e F;refine⟨s,I,λx hx=>?_⟩;rw[j]at hx;have g:=M q y _ I;simp only at g;show get B e.1=e.2;rw[h7 _ _ _ hx g];exact a3 x (J.roots _ _ _ hx g)
    intro q y e F;exact CO (M q y e F) (CW J.stamp c)
   simp at h
  -- f reads
  rename_i E;have c2:Hm f.gi=true:=by rw[E]at Y;simpa using Y.symm
  obtain⟨e1,rfl,e3,a7⟩:=h9 c2;split at h
  .rename_i hc;simp only[A6]at hc;obtain⟨a9,b7⟩:=hc;have b3:t.next=S.next:=e3.trans hS.next.symm;rw[b3]at h8;have next:∀o,(∀p∈o,p∈pendV\/(p=⟨f.gi,S.env,v,f.hi⟩/\hist.length<f.hi))->Ga P nI S.fix l (Bm f.gi.dst v S.env) ((S.roots,S.next)::histV) o K:=by
    intro o b4;have b6:SimX (t.put f.gi.dst xv) ⟨Bm f.gi.dst v S.env,S.roots,S.next,S.fix⟩:=by rw[<-b3];exact W
    have base:∀z,Qj Φ H nI l (t.put f.gi.dst xv) hist z k=some out->(∀p∈o,∃q∈z,eB P S.fix (t.put f.gi.dst xv).roots S.roots p q)->(∀q∈z,∀e∈q.1,e.2<(t.put f.gi.dst xv).stamp)->Ga P nI S.fix l (Bm f.gi.dst v S.env) ((S.roots,S.next)::histV) o K:=by
     intro z hd g1 L;refine ZD l (S:=⟨Bm f.gi.dst v S.env,S.roots,S.next,S.fix⟩) a b6 hd (λf a1=>hw f (Bx _ a1)) (hH.mono ?_) g1 L λX2 S2 q1 q2 q3 q4=>hk X2 S2 q1 ((J.trans b).trans q2) q3 q4;intro mR m ⟨g1,L⟩;refine⟨?_,λr s x C=>CO (L r s x C) (CW J.stamp c)⟩;rw[j,e1];exact g1
    have b5:∀p∈pendV,∃q∈pend,eB P S.fix (t.put f.gi.dst xv).roots S.roots p q:=by
     rw[j,e1];exact hP
    have Z:∀q∈pend,∀e∈q.1,e.2<(t.put f.gi.dst xv).stamp:=λq y e F=>CO (M q y e F) (CW J.stamp c);split at h
    .refine base _ h ?_ ?_
     .intro p u;rcases b4 p u with u|⟨rfl,_⟩
      .obtain⟨q,y,V⟩:=b5 p u;exact⟨q,Bx _ y,V⟩
      refine⟨_,B5,rfl,T.map λr=>(r,get S.roots r), ?_, ?_⟩
      .intro R' n' C;exact a7 R' n' λr V=>C (r,get S.roots r) (CC.2 ⟨r,V,rfl⟩)
      intro e F;obtain⟨r,V,rfl⟩:=CC.1 F;have:∃s x,lk t.roots r=some (s,x):=by
       have a6:∀(l:List Nat),SJ t.roots l=true->r∈l->∃s x,lk t.roots r=some (s,x):=by
        intro l
        induction l with
        |nil=>intro _ h;simp at h
        |cons q l ih=>
         intro h hm;simp only[SJ]at h;split at h
         .rename_i e y;rcases AX.1 hm with rfl|hm
          .exact⟨e.1,e.2,y⟩
          exact ih h hm
         simp at h
       exact a6 T a9 V
      obtain⟨s,x,C⟩:=this;exact⟨s,ky V C,λ_ _=>rfl⟩
     intro q y e F;rcases AX.1 y with rfl|y
     .have a6:∀(l:List Nat) (e:Nat×Nat),e∈Lr t.roots l->e.2<t.stamp:=by
       intro l
       induction l with
       |nil=>intro e h;simp[Lr]at h
       |cons q l ih=>
        intro e h;simp only[Lr]at h;split at h
        .rename_i s x y;rcases AX.1 h with rfl|h
         .exact (h1.ids _ _ _ y).2
         exact ih e h
        exact ih e h
      exact CO (a6 T e F) c
     exact Z q y e F
    rename_i g;refine base _ h ?_ Z;intro p u;rcases b4 p u with u|⟨_,b1⟩
    .exact b5 p u
    exfalso;have:Nat.blt hist.length f.hi=true:=by simpa[Nat.blt_eq] using b1
    rw[this]at g;simp at g
   have R:∀mm∈histV.take (histV.length-f.lo),∀r∈T,get mm.1 r=get S.roots r:=by
    intro mm O r V;rw[<-A]at O;obtain⟨i,hi,U⟩:=MI O;have b0:i<histV.length:=by simp at hi;omega
    have Kn:i<hist.length:=by rw[A];exact b0
    obtain⟨m',a2,c0⟩:=hH.get i hist[i] (BW Kn);have b2:m'=mm:=by
     rw[dy]at U;rw[BW b0]at a2;simp only[Ac]at a2;rw[<-a2,U]
    subst b2;have b9:hist[i]∈hist.take (hist.length-f.lo):=by
     rw[List.mem_iff_getElem];simp only[EF]at hi;exact⟨i,by simp;omega,by simp⟩
    obtain⟨s,x,x',g1,L⟩:=ud (ub b7 _ b9) a9 r V;rw[e1]at L;exact c0.1 r s x x' g1 L
   refine h8 _ ?_;simp only[E,C6,BC];split
   .exact next pendV λp u=>.inl u
   refine⟨λmm O=>a7 mm.1 mm.2 (R mm O), ?_⟩;split
   .rename_i g;refine next _ λp u=>?_;rcases AX.1 u with rfl|u
    .exact .inr ⟨rfl,by rw[A];exact g⟩
    exact .inl u
   exact next pendV λp u=>.inl u
  simp at h
def sB(d:List Bool)(a:List (List Nat)):∀(b:List GI) (i:Nat),(∀(j:Nat) (g:GI),b[j]?= some g->d.getD (i+j) false=!Hm g)->∀c∈OR d a i b,c.w=!Hm c.gi
 |[],i,_,c,h=>by simp[OR]at h
 |g::l,i,e,c,h=>by
  simp only[OR,AX]at h;rcases h with rfl|h
  .exact e 0 g rfl
  refine sB d a l (i+1) (λj g f=>?_) c h;rw[show i+1+j=i+(j+1) by omega];exact e (j+1) g (by simpa using f)
def sA{b:List (List Nat)}(a:List GI):∀c∈OR (a.map λg=>!Hm g) b 0 a,c.w=!Hm c.gi:=by
 refine sB _ _ a 0 λj g d=>?_;rw[A7,dz,CQ,d];rfl
def JM(V:P.follows .mixedOrders=true):∀(s:Stm) (J:An){β:Type}{out:β}{X:XSt}{S:St}{k:Exit->XSt->Option β},XOk X->SimX X S->DY Φ H s J X k=some out->∀{Q:Exit->St->Prop},
  (∀e i u,XOk i->Ext X i->SimX i u->k e i=some out->Q e u)->Sw P N s S Q
 |.reg O,J,β,out,X,S,k,v,A,h,Q,o=>by
  have K:∃l,W5 Φ H l O X (k .normal)=some out:=by
   cases J with
   |rg l=>exact⟨l,h⟩
   |_=>exact⟨[],h⟩
  obtain⟨l,K⟩:=K;exact Zn8 (tf v A K λi u a b c d=>⟨u,Le.refl u,o _ i u a b c d⟩)
 |.seq x y,J,β,out,X,S,k,v,A,h,Q,o=>by
  have W:∀(a b:An),(DY Φ H x a X λe i=>match e with|.normal=>DY Φ H y b i k|e=>k e i)=some out->Sw P N (.seq x y) S Q:=by
   intro a b h;refine Ch (JM V x a v A h ?_);intro e i u h1 K h3 h4;cases e with
   |normal=>exact JM V y b h1 h3 h4 λe X2 S2 a' b' c' d'=>o e X2 S2 a' (K.trans b') c' d'
   |_=>exact o _ i u h1 K h3 h4
  cases J with
  |sq j a b=>
   cases j with
   |none=>exact W a b h
   |some g=>
    simp only[DY]at h;obtain⟨z,h1,K⟩:=rF h;refine Ch (Zn5 (JM V x a v A h1 ?_));intro e i u D F G C;cases e with
    |normal=>
     obtain⟨s,M,a0⟩:=bT v D F G C;simp only[Ac]at M;subst M;rcases K with ⟨s',e,K⟩|e
     .simp only[Sum.inl.injEq]at e;subst e;obtain⟨u1,u2⟩:=dE v g s;exact⟨_,a0,JM V y b u1 (kp _) K λe X2 S2 a' b' c' d'=>o e X2 S2 a' (u2.trans b') c' d'⟩
     simp at e
    |_=>
     obtain⟨r,hr,g5⟩:=se C;rcases K with ⟨s',e,K⟩|e
     .rw[hr]at e;simp at e
     rw[hr]at e;simp only[Sum.inr.injEq]at e;subst e;exact⟨u,Le.refl u,o _ i u D F G g5⟩
  |_=>exact W .d .d h
 |.cond c x y,J,β,out,X,S,k,v,A,h,Q,o=>by
  simp only[DY]at h;split at h
  .rename_i t B;have hb:tv (S.opd c)=some t:=by rw[BT A B (by simp[cC])];rfl
   have Z:∃a b,Ab t (DY Φ H x a (X.knowO c true) k) (DY Φ H y b (X.knowO c false) k)=some out:=by
    split at h
    .rename_i a b;exact⟨a,b,h⟩
    exact⟨.d,.d,h⟩
   obtain⟨a,b,h⟩:=Z;rcases Z5 h with ⟨rfl,h⟩|⟨rfl,h⟩
   .obtain⟨a1,a2,a3⟩:=oQ v A B;exact HO hb (λ_=>JM V x a a1 a3 h λe i u D F G C=>o e i u D (a2.trans F) G C) (λe=>by simp at e)
   obtain⟨a1,a2,a3⟩:=oQ v A B;exact HO hb (λe=>by simp at e) (λ_=>JM V y b a1 a3 h λe i u D F G C=>o e i u D (a2.trans F) G C)
  simp at h
 |.block id x,J,β,out,X,S,k,v,A,h,Q,o=>by
  simp only[DY]at h;refine NF (JM V x _ v A h ?_);intro e i u D F G C;cases e with
  |exit b3=>
   simp only at C;simp only[Bl];split at C
   .rename_i hb;rw[Af (B6 hb)];exact o _ i u D F G C
   rename_i hb;rw[Ae (UH hb)];exact o _ i u D F G C
  |_=>exact o _ i u D F G C
 |.loop x,J,β,out,X,S,k,v,A,h,Q,o=>by
  have Z:∀(g:List It) (a:An) (I:XSt) (S0:St),XOk I->Ext X I->SimX I S0->(Lk I I g λs=>Bd (λs=>DY Φ H x a (β:=Tp (It.tys g) ⊕ β) (J3 I g s) λe i=>match e with
    |.normal=>Lk I i g λs=>some (.inl s)
    |e=>Ks (k e i)) s)=some out->UU P N x S0 Q:=by
   intro g a I S0 Y b0 b1 h;obtain⟨s0,h,a0⟩:=bT Y Y (Ext.refl I) b1 h;obtain⟨n,hn⟩:=jH h;refine Zob (λm T=>∃s,Im (λs=>DY Φ H x a (β:=Tp (It.tys g) ⊕ β) (J3 I g s) λe i=>match e with
    |.normal=>Lk I i g λs=>some (.inl s)
    |e=>Ks (k e i)) m s=some out/\T=MW (J3 I g s)) n ⟨_,⟨s0,hn,rfl⟩,a0⟩ ?_
   rintro m T ⟨s,M,rfl⟩;cases m with
   |zero=>simp[Im]at M
   |succ m=>
    simp only[Im]at M;obtain⟨u1,u2⟩:=dE Y g s;have hz:∃z,(DY Φ H x a (β:=Tp (It.tys g) ⊕ β) (J3 I g s) λe i=>match e with
     |.normal=>Lk I i g λs=>some (.inl s)
     |e=>Ks (k e i))=some z:=by
     split at M
     .exact⟨_,by assumption⟩
     .exact⟨_,by assumption⟩
     simp at M
    obtain⟨z,hz⟩:=hz;rw[hz]at M;refine JM V x a u1 (kp _) hz ?_;intro e i u D F G C;cases e with
    |normal=>
     obtain⟨s',a9,a8⟩:=bT Y D (u2.trans F) G C;simp only[Ac]at a9;subst a9;simp only at M;exact⟨m,_,DG m,⟨s',M,rfl⟩,a8⟩
    |_=>
     obtain⟨r,hr,g5⟩:=se C;subst hr;simp only[Ac]at M;subst M;exact o _ i u D (b0.trans (u2.trans F)) G g5
  cases J with
  |lp g a=>
   simp only[DY]at h;exact vQ (Z g a X S v (Ext.refl X) A h)
  |pl a1 g a=>
   simp only[DY]at h;refine vQ (Zoc (JM V x a1 v A h ?_));intro e i u D F G C;cases e with
   |normal=>exact Z g a i u D F G C
   |_=>exact o _ i u D F G C
  |_=>simp[DY]at h
 |.exit id,J,β,out,X,S,k,v,A,h,Q,o=>Ra (o _ X S v (Ext.refl X) A h)
 |.ret,J,β,out,X,S,k,v,A,h,Q,o=>K1 (o _ X S v (Ext.refl X) A h)
 |.skip,J,β,out,X,S,k,v,A,h,Q,o=>K2 (o _ X S v (Ext.refl X) A h)
 |.drw g,J,β,out,X,S,k,v,A,h,Q,o=>by
  simp only[DY]at h;split at h
  .rename_i a4;intro c B;have hw:∀it∈g,it.w=!Hm it.gi:=by
    cases c with
    |region id a5 d=>
     cases d with
     |false=>simp[Bu]at B
     |true=>
      have B:=wd (show Hf P N a5=some (.drw g) by simpa only[Bu] using B);simp only[NJ,Bv,AO]at B;obtain⟨O,a7,L⟩:=B;split at L
      .simp only[Ac]at L;subst L;exact sA O
      simp at L
    |seq a b=>simp[Bu,Bv,AO]at B
    |cond c a b=>simp[Bu,Bv,AO]at B
    |_=>simp[Bu]at B
   have hr:=ZD (P:=P) (nI:=g.length) (histV:=[]) (pendV:=[]) g v A h hw trivial (λp hp=>by simp at hp) (λq hq=>by simp at hq) (o .normal);have U:Sw P N (.drw g) S Q:=by
    obtain⟨E,R,n,f⟩:=S;exact cY V a4 hr
   exact U c B
  simp at h
 |.alt l,J,β,out,X,S,k,v,A,h,Q,o=>by
  simp only[DY]at h;have a6:=nO h;intro c B;cases c with
  |region id a5 d=>
   cases d with
   |false=>simp[Bu]at B
   |true=>
    have hl:=wc (show Hf P N a5=some (.alt l) by simpa only[Bu] using B);have U:Sw P N (.alt l) S Q:=by
     refine Zoa V λg hi=>?_;have hx:=a6 g hi;split at hx
     case h_2=>cases hx
     rename_i a4;obtain⟨b2,_,L⟩:=ru hl g hi;have hw:∀it∈g,it.w=!Hm it.gi:=by
      simp only[NJ,Bv,AO]at L;obtain⟨O,a7,L⟩:=L;split at L
      .simp only[Ac]at L;subst L;exact sA O
      simp at L
     exact⟨a4,ZD (P:=P) (nI:=g.length) (histV:=[]) (pendV:=[]) g v A hx hw trivial (λp hp=>by simp at hp) (λq hq=>by simp at hq) (o .normal)⟩
    exact U _ B
  |seq a b=>simp[Bu,Bv,AO]at B
  |cond c a b=>simp[Bu,Bv,AO]at B
  |_=>simp[Bu]at B
end
end Go.Vs
namespace Go.Vs
variable [Glb]
def DA:List XD->XSt->List XC×XSt
 |[],X=>([],X)
 |.lf c::l,X=>(aj c::(DA l X).1,(DA l X).2)
 |.sl t a::l,X=>(.rw X.next::(DA l (X.newR (.im t a))).1,(DA l (X.newR (.im t a))).2)
def LD(s:Nat):Nat->List XA->List (Nat×Nat×XV)
 |_,[]=>[]
 |i,a::l=>(i,s,.a a)::LD s (i+1) l
def GS:XSt:=⟨[],[],0,0,0⟩
def iY(a:List (Bool×Ty))(x:Tp (a.map (·.2))):XSt:=
 ⟨LD (DA (Hb a x) GS).2.stamp 0 (Lo a (DA (Hb a x) GS).1),(DA (Hb a x) GS).2.roots,(DA (Hb a x) GS).2.next,(DA (Hb a x) GS).2.stamp+1,0⟩
def QB:List (Bool×Ty)->Bool
 |[]=>true
 |(ag,t)::l=>(ag||Nat.beq t.n 1)&&QB l
def jE:∀(l:List XD){X:XSt}{E:List (Nat×V)}{R:List (Nat×Root)}{f a:Nat},XOk X->SimX X ⟨E,R,X.next,f⟩ ->
  XOk (DA l X).2/\(DA l X).2.env=X.env/\(DA l X).2.fix=X.fix/\X.next<=(DA l X).2.next/\(DA l X).2.next=(Bh ((l.map Et).map λd=>(M.rd,d)) (a,X.next)).2.2.2/\SimX (DA l X).2 ⟨E,(Bh ((l.map Et).map λd=>(M.rd,d)) (a,X.next)).2.1++R,(DA l X).2.next,f⟩ /\
  Ai Ba (Bh ((l.map Et).map λd=>(M.rd,d)) (a,X.next)).1 ((DA l X).1.map (cC (DA l X).2.roots))/\(∀c∈(DA l X).1,Bj (DA l X).2.roots (DA l X).2.next (DA l X).2.stamp c) /\
  (∀q,q<X.next->lk (DA l X).2.roots q=lk X.roots q)/\(∀q y,get (Bh ((l.map Et).map λd=>(M.rd,d)) (a,X.next)).2.1 q=some y->X.next<=q)
 |[],X,E,R,f,a,z,u=>⟨z,rfl,rfl,AE _,rfl,u,trivial,by simp[DA],λq _=>rfl,λq y h=>by simp[Bh,get]at h⟩
 |.lf c::l,X,E,R,f,a,z,u=>by
  obtain⟨A,e,B,nl,n,s,w,o,k,g⟩:=jE (a:=a) l z u;have hd:Et (.lf c)=.hole\/∃v,Et (.lf c)=.lf v:=by cases c<;>first|exact .inl rfl|exact .inr ⟨_,rfl⟩
  have m:(Bh (((XD.lf c::l).map Et).map λd=>(M.rd,d)) (a,X.next)).2=(Bh ((l.map Et).map λd=>(M.rd,d)) (a,X.next)).2:=by
   rcases hd with h|⟨v,h⟩<;>simp only[A2,Bh,h,BY,A0]
  refine⟨A,e,B,nl, ?_, ?_, ?_, ?_,k, ?_⟩
  .rw[m];exact n
  .rw[m];exact s
  .cases c<;>first
    |exact⟨Ba.refl _,w⟩
    |exact⟨.inr rfl,w⟩
  .intro F i;simp only[DA,AX]at i;rcases i with rfl|i
   .cases c<;>trivial
   exact o F i
  intro q y j;rw[m]at j;exact g q y j
 |.sl t b::l,X,E,R,f,a,z,u=>by
  obtain⟨A,I,H⟩:=OU (x:=.im t b) (y:=.im t.n (b.map (Al t))) z u (λJ h=>by simp at h) ⟨_,rfl,rfl,rfl⟩;obtain⟨D,e,B,nl,n,s,w,o,k,g⟩:=jE (a:=a) l A H;have p:(X.newR (.im t b)).next=X.next+1:=rfl;have m:(Bh (((XD.sl t b::l).map Et).map λd=>(M.rd,d)) (a,X.next)).2.1=(X.next,.im t.n (b.map (Al t)))::(Bh ((l.map Et).map λd=>(M.rd,d)) (a,X.next+1)).2.1:=rfl;refine⟨D,e,B,CW (HR _) nl,n, ?_,⟨?_,w⟩, ?_, ?_, ?_⟩
  .refine Tw s ?_;intro r N x K L;rw[m,p];simp only[A1,get];split
   .rename_i h;subst h;rw[Ft];cases C:get (Bh ((l.map Et).map λd=>(M.rd,d)) (a,X.next+1)).2.1 X.next with
    |some y=>have:=g _ _ C;rw[p]at this;omega
    |none=>simp only[get,BF]
   rename_i h;rw[Ft,Ft];cases C:get (Bh ((l.map Et).map λd=>(M.rd,d)) (a,X.next+1)).2.1 r with
   |some y=>rfl
   |none=>simp only[get];rw[Ae h]
  .left;have:lk (DA l (X.newR (.im t b))).2.roots X.next=some (X.stamp,.im t b):=by
    rw[k _ (by rw[p];exact DG _)];exact OT _ _
   show cC (DA l (X.newR (.im t b))).2.roots (.rw X.next)=.rf X.next [] t.n 0 (b.map (Al t)).length;simp only[cC,this,B3]
  .intro c i;have G:(DA (.sl t b::l) X).1=.rw X.next::(DA l (X.newR (.im t b))).1:=rfl;rw[G]at i;rcases AX.1 i with rfl|i
   .show X.next<_;exact CO (DG X.next) nl
   exact o c i
  .intro q j;show lk (DA l (X.newR (.im t b))).2.roots q=_;rw[k q (by rw[p];omega)];simp only[XSt.newR];rw[BO,Ae (by simp only;omega)]
  intro q y j;rw[m]at j;simp only[get]at j;split at j
  .omega
  have:=g q y j;rw[p]at this;omega
def Vz{s:Nat}:∀{l:List XA}{i t c:Nat}{v:XV},lk (LD s i l) t=some (c,v)->∃a,c=s/\v=.a a/\i<=t/\l[t-i]?= some a
 |[],i,t,c,v,h=>by simp[LD,lk]at h
 |a::l,i,t,c,v,h=>by
  simp only[LD]at h;rw[BO]at h;split at h
  .rename_i e;simp only at e;subst e;simp only[Ac,A5]at h;exact⟨a,h.1.symm,h.2.symm,AE _,by simp⟩
  obtain⟨b,d,f,j,g⟩:=Vz h;refine⟨b,d,f,by omega, ?_⟩;rw[show t-i=(t-(i+1))+1 by omega,AN];exact g
def rA:∀(d:List (Bool×Ty)) (x:Tp (d.map (·.2))) (e:List C) (b:Nat),QB d=true->e.length=((Cu d x).flatMap (·.2)).length->EJ ((Cu d x).map CN) e b=(FU (Cu d x) e).map V.a
 |[],_,_,_,_,_=>rfl
 |(ag,t)::d,x,e,b,h,f=>by
  simp only[QB,A6,CE]at h;have g:=Cv t (Tp.hd t _ x);simp only[Cu,DM,Cb,g]at f;have i:=rA d (Tp.tl t _ x) (e.drop t.n) b h.2 (by rw[Di,f];omega);cases ag with
  |true=>
   simp only[Cu,A2,CN,EJ,FU,Js,BF,B3,g,i]
  |false=>
   have j:=B6 (h.1.resolve_left (by simp));simp only[Cu,A2,CN,EJ,FU,Js,C6,BC,B3,g,i];congr 1;rw[j]at f ⊢;cases e with
   |nil=>rw[Ay]at f;omega
   |cons c e=>rfl
def ZU:∀{l:List V}{i t:Nat}{v:V},i<=t->l[t-i]?= some v->get (Ib i l) t=some v
 |[],i,t,v,_,h=>by simp at h
 |a::l,i,t,v,b,h=>by
  simp only[Ib,get];split
  .rename_i e;subst e;simpa using h
  rename_i e;refine ZU (by omega) ?_;rw[show t-i=(t-(i+1))+1 by omega,AN]at h;exact h
def Ziy(c:List (Bool×Ty))(x:Tp (c.map (·.2)))(P:QB c=true):XOk (iY c x)/\SimX (iY c x) ⟨Ib 0 (BX ((Cu c x).map CN)).1,(BX ((Cu c x).map CN)).2.1,(BX ((Cu c x).map CN)).2.2,C3 ((Cu c x).map CN)⟩:=by
 have H:XOk GS:=⟨λr s x h=>by simp[GS,lk]at h,λr s x h=>by simp[GS,lk]at h,λr s x h=>by simp[GS,lk]at h,AE _⟩;have Q:SimX GS ⟨[],[],GS.next,0⟩:=⟨rfl,rfl,λt s v h=>by simp[GS,lk]at h,λr s x h=>by simp[GS,lk]at h⟩;obtain⟨a,e,Y,nl,n,s,w,o,k,g⟩:=jE (a:=0) (Hb c x) H Q;rw[bf]at n s w;have q:C3 ((Cu c x).map CN)=0:=by unfold C3;rw[Qq,S3,ax]
 have f:CA ((Cu c x).map CN)=Bh (((Cu c x).flatMap (·.2)).map λd=>(M.rd,d)) (0,0):=by unfold CA;rw[Qq,q]
 have p:(BX ((Cu c x).map CN)).2.1=(Bh (((Cu c x).flatMap (·.2)).map λd=>(M.rd,d)) (0,0)).2.1:=by
  show (CA _).2.1++Iw (Ds _ (CA _).1) _=_;rw[SF,f];simp[Iw]
 have A:(BX ((Cu c x).map CN)).2.2=(Bh (((Cu c x).flatMap (·.2)).map λd=>(M.rd,d)) (0,0)).2.2.2:=by show (CA _).2.2.2=_;rw[f]
 have F:(BX ((Cu c x).map CN)).1=EJ ((Cu c x).map CN) (Bh (((Cu c x).flatMap (·.2)).map λd=>(M.rd,d)) (0,0)).1 (DL (flat ((Cu c x).map CN))):=by show EJ _ (CA _).1 _=_;rw[f]
 have E:(Bh (((Cu c x).flatMap (·.2)).map λd=>(M.rd,d)) (0,0)).1.length=((Cu c x).flatMap (·.2)).length:=by
  have B:∀(l:List (M×D)) (k:Kk),(Bh l k).1.length=l.length:=by
   intro l
   induction l with
   |nil=>intro k;rfl
   |cons a l J=>intro k;obtain⟨m,d⟩:=a;simp only[Bh,Aq,J]
  rw[B,B3]
 rw[p,A,F,q,rA c x _ _ P E];have I:GS.next=0:=rfl;rw[I]at n s w;have u:∀r j z,lk (DA (Hb c x) GS).2.roots r=some (j,z)->j<(DA (Hb c x) GS).2.stamp->lk (DA (Hb c x) GS).2.roots r=some (j,z):=λ_ _ _ h _=>h;have O:=jy c x _ _ w (by
  have:(DA (Hb c x) GS).1.length=(Hb c x).length:=by
   have B:∀(l:List XD) (X:XSt),(DA l X).1.length=l.length:=by
    intro l
    induction l with
    |nil=>intro X;rfl
    |cons d l J=>intro X;cases d<;>simp only[DA,Aq,J]
   exact B _ _
  rw[this,<-nV,B3])
 refine⟨⟨λr j z h=>⟨(a.ids r j z h).1,G5 (a.ids r j z h).2⟩, ?_, ?_,Cq _⟩,⟨?_,rfl, ?_, ?_⟩⟩
 .intro t j v C;obtain⟨b,rfl,rfl,_,G⟩:=Vz C;refine⟨DG _, ?_⟩;exact Gw.ext (AE _) (HR _) u (W0 c _ o b (CP G))
 .intro r j K h e H;obtain⟨S,T⟩:=a.box r j K h e H;exact⟨G5 S,Bj.ext (AE _) (HR _) u T⟩
 .exact n.symm
 .intro t j v C;obtain⟨b,rfl,rfl,Z,G⟩:=Vz C;obtain⟨y,V,W⟩:=lx (i:=t-0) (x:=cA (DA (Hb c x) GS).2.roots b) O (by rw[CQ,G];rfl);exact .inr ⟨.a y,ZU (Cq _) (by rw[CQ,V];rfl),W⟩
 intro r j z C y R;obtain⟨U,L,N⟩:=s.roots r j z C y R;exact⟨U,by simpa using L,N⟩
def Sy{β:Type}(X:XSt):List I->(List XA->Option β)->Option β
 |[],k=>k []
 |i::b,k=>Ex X i λv=>match v with
  |.a x=>Sy X b λc=>k (x::c)
  |_=>none
def ID:List XA->List XC
 |[]=>[]
 |.c c::l=>c::ID l
 |.ag a::l=>a++ID l
def Hc:List (Bool×Ty)->List XA->Bool
 |[],[]=>true
 |(false,t)::a,.c _::l=>Nat.beq t.n 1&&Hc a l
 |(true,t)::a,.ag b::l=>Nat.beq b.length t.n&&Hc a l
 |_,_=>false
def Ww{β:Type}(R:AK):(b:List (Bool×Ty))->List XC->(Tp (b.map (·.2))->Option β)->Option β
 |[],a,k=>match a with
  |[]=>k ()
  |_=>none
 |(_,t)::b,a,k=>FL R t a λx a=>Ww R b a λc=>k (Tp.mk t _ x c)
def ao(b:List (Bool×Ty))(X:XSt)(d:List I):Option (Tp (b.map (·.2))):=
 Sy X d λc=>match Hc b c,Fw X.roots (ID c) with
  |true,some a=>match Mc a with
   |true=>Ww X.roots b (ID c) some
   |false=>none
  |_,_=>none
noncomputable def gy{P:Program}(Φ:List (Fx P))(H:List (Nat×Hn))(s:Stm)(f:An)(d:List I)(a b:List (Bool×Ty))(x:Tp (a.map (·.2))):Option (Tp (b.map (·.2))):=
 DY Φ H s f (iY a x) λe c=>match e with
  |.ret=>ao b c d
  |.normal=>ao b c d
  |_=>none
section
variable {P:Program}
def aA{β:Type}{b:β}{X:XSt}{S:St}(m:XOk X)(l:SimX X S):∀(d:List I) (k:List XA->Option β),Sy X d k=some b ->
  ∃c e,k c=some b/\Ai EH e (c.map (cA X.roots))/\(∀x∈c,Gw X.roots X.next X.stamp x)/\∀K:List A->Prop,K e->Fa S d K
 |[],k,h=>⟨[],[],h,trivial,by simp,λK f=>f⟩
 |i::d,k,h=>by
  simp only[Sy]at h;obtain⟨s,h,r,v,n,g⟩:=jn m l h;simp only at h;split at h
  .rename_i x;obtain⟨c,e,h,o,p,q⟩:=aA m l d _ h;cases v with
   |a y=>
    refine⟨x::c,y::e,h,⟨n,o⟩, ?_, ?_⟩
    .intro z j;rcases AX.1 j with rfl|j
     .exact r
     exact p z j
    intro K f;simp only[Fa];exact g _ (q _ f)
   |_=>exact n.elim
  simp at h
def tI{β:Type}{a:β}{R:AK}{n o:Nat}:∀(d:List (Bool×Ty)) (b:List XC) (k:Tp (d.map (·.2))->Option β),(∀c∈b,Bj R n o c)->Ww R d b k=some a ->
  ∃y,k y=some a/\Ai (CD R) b ((Cu d y).flatMap (·.2))
 |[],b,k,e,h=>by
  simp only[Ww]at h;split at h
  .exact⟨(),h,trivial⟩
  simp at h
 |(ag,t)::d,b,k,e,h=>by
  simp only[Ww]at h;obtain⟨x,p,f,rfl,g,i⟩:=Mg t b _ a e h;obtain⟨y,j,l⟩:=tI d f _ (λc m=>e c (Jh _ m)) g;refine⟨_,j, ?_⟩;simp only[Cu,Tp.hd_mk,Tp.tl_mk,DM];exact Ai.append i l
def kl{R:AK}:∀(e:List (Bool×Ty)) (y:Tp (e.map (·.2))) (f:List XA) (g:List A),Hc e f=true->Ai EH g (f.map (cA R))->g.map (λx=>((DX x).1,(DX x).2.length))=(Cu e y).map (λx=>(x.1,x.2.length))/\Ai Ba (g.flatMap λx=>(DX x).2) ((ID f).map (cC R))
 |[],_,[],[],_,_=>⟨rfl,trivial⟩
 |(ag,t)::e,y,x::f,z::g,h,d=>by
  have k:=Cv t (Tp.hd t _ y);cases ag with
  |false=>cases x with
   |c c=>
    simp only[Hc,A6]at h;obtain⟨a,b⟩:=kl e (Tp.tl t _ y) f g h.2 d.2;cases z with
    |c z=>
     refine⟨?_,⟨d.1,b⟩⟩;rw[A2,a];simp only[Cu,A2,DX,k,B6 h.1,Aq,Ay]
    |ag _=>exact d.1.elim
   |ag i=>simp[Hc]at h
  |true=>cases x with
   |c c=>simp[Hc]at h
   |ag i=>
    simp only[Hc,A6]at h;obtain⟨a,b⟩:=kl e (Tp.tl t _ y) f g h.2 d.2;cases z with
    |c z=>exact d.1.elim
    |ag l=>
     have j:=Ai.length (show Ai Ba l (i.map (cC R)) from d.1);rw[B3]at j;refine⟨?_, ?_⟩
     .rw[A2,a];simp only[Cu,A2,DX,k,j,B6 h.1]
     simp only[DM,DX,ID,C2];exact Mt d.1 b
 |[],_,_::_,_,h,_=>by simp[Hc]at h
 |(false,_)::_,_,[],_,h,_=>by simp[Hc]at h
 |(true,_)::_,_,[],_,h,_=>by simp[Hc]at h
 |[],_,[],_::_,_,h=>h.elim
 |_::_,_,_::_,[],_,h=>h.elim
def Zx{R:AK}{d e:Nat}:∀{f:List XA},(∀x∈f,Gw R d e x)->∀c∈ID f,Bj R d e c
 |[],_,c,a=>by simp[ID]at a
 |.c x::l,h,c,a=>by
  simp only[ID,AX]at a;rcases a with rfl|a
  .exact h _ B5
  exact Zx (λx b=>h x (Bx _ b)) c a
 |.ag g::l,h,c,a=>by
  simp only[ID,C7]at a;rcases a with a|a
  .exact h _ B5 c a
  exact Zx (λx b=>h x (Bx _ b)) c a
def rh{c:List (Bool×Ty)}{X:XSt}{S:St}{m:List I}{y:Tp (c.map (·.2))}{f:List (Bool×List D)}(u:XOk X)(o:SimX X S)(h:ao c X m=some y):Fa S m λe=>HS (f.map CN) ⟨Cu c y,[],[]⟩ S.roots (Ey e):=by
 unfold ao at h;obtain⟨e,B,h,r,s,t⟩:=aA u o m _ h;split at h
 .rename_i j i b;split at h
  .rename_i g;obtain⟨A,h,a⟩:=tI c _ _ (Zx s) h;simp only[Ac]at h;subst h;obtain⟨x,z⟩:=kl c A e B i r;obtain⟨p,q,C⟩:=Tz o (ID e) _ j S.roots a b (OX g) (λ_ _=>rfl);have v:=KN a z;refine t _ (SO (rt:=p) (SF f _) ?_ x ?_)
   .rw[Qq];generalize f.flatMap (·.2)=l;have n:∀(l:List D) (k:Nat),Il (l.map λd=>(M.rd,d)) k=[]:=by
     intro l
     induction l with
     |nil=>intro k;rfl
     |cons d l w=>intro k;cases d<;>exact w k
    exact n l 0
   rw[v];exact q
  simp at h
 simp at h
def Zl2(w:P.follows .mixedOrders=true){f:FuncId}{fn:Func}{N:Nat}{s:Stm}{o:List I}{Φ:List (Fx P)}{H:List (Nat×Hn)}{l:An}{b k:List (Bool×Ty)}(r:P.funcs[f]?= some fn)(i:(fn.body.bind (Bu P fn.ntmps))=some s)(u:IZ P fn.results.toList=some o)(z:Nat.ble b.length fn.ntmps=true)(A:QB b=true)
  {x:Tp (b.map (·.2))} {y:Tp (k.map (·.2))} (h:gy Φ H s l o b k x=some y):Gp P f ((Cu b x).map CN) ⟨Cu k y,[],[]⟩:=by
 obtain⟨c,i,B⟩:=PZ i;obtain⟨p,q⟩:=Ziy b x A;have v:((Cu b x).map CN).length=b.length:=by
  have j:∀(d:List (Bool×Ty)) (x:Tp (d.map (·.2))),(Cu d x).length=d.length:=by
   intro d
   induction d with
   |nil=>intro x;rfl
   |cons a d C=>intro x;obtain⟨ag,t⟩:=a;simp only[Cu,Aq,C]
  rw[B3,j]
 refine W6 r i B u (by rw[v];exact AS z) ?_;refine JM w s l p q h ?_;intro e E D m F n g;cases e with
 |ret=>exact rh m n g
 |normal=>exact rh m n g
 |_=>simp at g
end
end Go.Vs
namespace Go.Vs
variable [Glb]
def Bt:(b:List GArg)->Tp (DH b)->List (M×XD)
 |[],_=>[]
 |a::b,x=>a.ms.zip (NG a.t (Tp.hd a.t _ x))++Bt b (Tp.tl a.t _ x)
def aI:M->Nat
 |.io=>1
 |.rx=>1
 |_=>0
def BB:List (M×XD)->Nat
 |[]=>0
 |(m,.sl _ _)::l=>aI m+BB l
 |_::l=>BB l
def Da:List GArg->Nat
 |[]=>0
 |a::b=>match a.ptr with
  |true=>Da b+1
  |false=>Da b
def BZ:List (M×XD)->Nat->Nat->List XC×AK×Nat
 |[],_,a=>([],[],a)
 |(_,.lf c)::l,b,a=>(aj c::(BZ l b a).1,(BZ l b a).2)
 |(m,.sl t d)::l,b,a=>match m with
  |.io=>(.rw b::(BZ l (b+1) a).1,(b,0,.tr t d)::(BZ l (b+1) a).2.1,(BZ l (b+1) a).2.2)
  |.rx=>(.rw b::(BZ l (b+1) a).1,(b,0,.im t d)::(BZ l (b+1) a).2.1,(BZ l (b+1) a).2.2)
  |.ow=>(.rw a::(BZ l b (a+1)).1,(a,0,.tr t d)::(BZ l b (a+1)).2.1,(BZ l b (a+1)).2.2)
  |.rd=>(.rw a::(BZ l b (a+1)).1,(a,0,.im t d)::(BZ l b (a+1)).2.1,(BZ l b (a+1)).2.2)
def HE:List GArg->List XC->Nat->List XA
 |[],_,_=>[]
 |a::e,d,b=>match a.ptr with
  |true=>.c (.pb b 0)::HE e (d.drop (B0 a.ms)) (b+1)
  |false=>(match a.ag with
   |true=>.ag (d.take (B0 a.ms))
   |false=>match d.take (B0 a.ms) with
    |[c]=>.c c
    |_=>.ag [])::HE e (d.drop (B0 a.ms)) b
def FT:List GArg->List XC->Nat->AK
 |[],_,_=>[]
 |a::e,d,b=>match a.ptr with
  |true=>(b,0,.bx ((d.take (B0 a.ms)).map λc=>(0,c)))::FT e (d.drop (B0 a.ms)) (b+1)
  |false=>FT e (d.drop (B0 a.ms)) b
def CK(a:List GArg)(x:Tp (DH a)):XSt:=
 ⟨LD 0 0 (HE a (BZ (Bt a x) 0 (BB (Bt a x)+Da a)).1 (BB (Bt a x))),(BZ (Bt a x) 0 (BB (Bt a x)+Da a)).2.1++FT a (BZ (Bt a x) 0 (BB (Bt a x)+Da a)).1 (BB (Bt a x)),(BZ (Bt a x) 0 (BB (Bt a x)+Da a)).2.2,1,BB (Bt a x)+Da a⟩
def GA:List GArg->Bool
 |[]=>true
 |a::b=>Nat.beq (B0 a.ms) a.t.n&&((a.ptr||a.ag)||Nat.beq a.t.n 1)&&GA b
def Wv{β:Type}(R:AK):List Ty->List XC->(List Sg->List XC->Option β)->Option β
 |[],a,k=>k [] a
 |t::b,a,k=>FL R t a λx a=>Wv R b a λc a=>k (⟨t,x⟩::c) a
def OL{β:Type}(R:AK):List (M×XD)->Nat->(List Sg->List Nat->Option β)->Option β
 |[],_,k=>k [] []
 |(_,.lf _)::l,n,k=>OL R l n k
 |(m,.sl t e)::l,n,k=>match m with
  |.io=>match lk R n with
   |some (_,.tr c a)=>Ou c t a λa=>A3 (Hq a.length e.length) (OL R l (n+1) λd b=>k (⟨.L t,a⟩::d) (n::b))
   |_=>none
  |.rx=>OL R l (n+1) k
  |_=>OL R l n k
def kz(R:AK)(e:Nat×XC):Bool:=match e.1,e.2 with
 |0,.rw r=>match lk R r with
  |some (0,.im _ _)=>true
  |_=>false
 |_,_=>false
def Kv(R:AK):List M->List Ty->List (Nat×XC)->Option (List XC)
 |[],[],[]=>some []
 |m::b,t::c,e::a=>match m,LP t with
  |.rx,true=>match kz R e with
   |true=>Kv R b c a
   |false=>none
  |_,_=>match Kv R b c a with
   |some d=>some (e.2::d)
   |none=>none
 |_,_,_=>none
def Tf(R:AK):List GArg->Nat->Option (List XC)
 |[],_=>some []
 |a::c,b=>match a.ptr with
  |true=>match lk R b with
   |some (_,.bx f)=>match Kv R a.ms (Gd a.t) f,Tf R c (b+1) with
    |some d,some e=>match Nat.beq d.length (Gz a.o)&&LZ a.t with
     |true=>some (d++e)
     |false=>none
    |_,_=>none
   |_=>none
  |false=>Tf R c b
def SN(b:List GArg)(d:List (Bool×Ty))(x:Tp (DH b))(X:XSt)(i:List I):Option (Tp (GB b d)):=
 Sy X i λg=>match Hc d g,Tf X.roots b (BB (Bt b x)) with
  |true,some h=>match Fw X.roots (ID g++h) with
   |some c=>match Mc c with
    |true=>Wv X.roots (Ht d) (ID g) λk a=>match a with
     |[]=>OL X.roots (Bt b x) 0 λf e=>match O3 c e with
      |true=>Wv X.roots (H6 b) h λj a=>match a with
       |[]=>Qe (GB b d) (k++(f++j)) some
       |_=>none
      |false=>none
     |_=>none
    |false=>none
   |none=>none
  |_,_=>none
noncomputable def gx{P:Program}(Φ:List (Fx P))(H:List (Nat×Hn))(s:Stm)(f:An)(d:List I)(a:List GArg)(b:List (Bool×Ty))(x:Tp (DH a)):Option (Tp (GB a b)):=
 DY Φ H s f (CK a x) λe c=>match e with
  |.ret=>SN a b x c d
  |.normal=>SN a b x c d
  |_=>none
def VZ{α:Type}:∀{l:List (Nat×Nat×α)}{r:Nat}{e:Nat×α},lk l r=some e->(r,e)∈l
 |[],r,e,h=>by simp[lk]at h
 |x::l,r,e,h=>by
  rw[BO]at h;split at h
  .rename_i a;subst a;simp only[Ac]at h;subst h;exact B5
  exact Bx _ (VZ h)
def Wa{α:Type}:∀{l:List (Nat×Nat×α)}{r:Nat}{e:Nat×α},(l.map (·.1)).Nodup->(r,e)∈l->lk l r=some e
 |[],r,e,_,h=>by simp at h
 |x::l,r,e,a,h=>by
  simp only[A2,E4]at a;rw[BO];rcases AX.1 h with rfl|h
  .rw[Af rfl]
  rw[Ae (λb=>a.1 (by rw[b];exact CC.2 ⟨(r,e),h,rfl⟩))];exact Wa a.2 h
def D9(z:M×XD):M×D:=(z.1,Et z.2)
def Zu:∀(b:List GArg) (x:Tp (DH b)),GA b=true->(Bt b x).map D9=flat (Bq b x)
 |[],_,_=>rfl
 |a::b,x,h=>by
  simp only[GA,A6]at h;have e:=Zu b (Tp.tl a.t _ x) h.2;have g:(a.ms.zip (NG a.t (Tp.hd a.t _ x))).map D9=a.ms.zip (Al a.t (Tp.hd a.t _ x)):=by
   rw[<-WP];generalize NG a.t (Tp.hd a.t _ x)=c;generalize a.ms=f
   induction f generalizing c with
   |nil=>rfl
   |cons m f e=>cases c with
    |nil=>rfl
    |cons d c=>simp only[Jf,A2,e];rfl
  simp only[Bt,C2,g,e,flat,Bq,DM];congr 1;simp only[EY];cases a.ptr<;>rfl
def jU:∀(b:List GArg) (x:Tp (DH b)),Ir (Bq b x)=Da b
 |[],_=>rfl
 |a::b,x=>by
  simp only[Bq,Da,EY];cases a.ptr<;>simp only[Ir,jU b]
def Zjv(R:AK)(c:XC):Ba (match Et (.lf c) with|.lf v=>.lf v|_=>.un) (cC R (aj c)):=by
 cases c<;>first|exact .inl rfl|exact .inr rfl
def aH:∀(l:List (M×XD)),DL (l.map D9)=BB l
 |[]=>rfl
 |(m,.lf c)::l=>by
  have:LF (D9 (m,.lf c))=0:=by cases c<;>cases m<;>rfl
  simp only[A2,DL,BB,aH l,this,A7]
 |(m,.sl t a)::l=>by
  have:LF (D9 (m,.sl t a))=aI m:=by cases m<;>rfl
  simp only[A2,DL,BB,aH l,this]
def nD(y:Nat×Root)(z:Nat×Nat×XR):Prop:=y.1=z.1/\z.2.1=0/\((∃(t:Ty) (a:List t.den),z.2.2=.tr t a/\y.2=.tr t.n (a.map (Al t)))\/∃(t:Ty) (a:List t.den),z.2.2=.im t a/\y.2=.im t.n (a.map (Al t)))
def Oc(l:List (M×XD))(a b:Nat):Prop:=
  Ai (λc x=>(∀R:AK,(∀z∈(BZ l a b).2.1,lk R z.1=some z.2)->Ba c (cC R x))/\∀d e R,(∀z∈(BZ l a b).2.1,z.1<d)->Bj R d e x) (Bh (l.map D9) (a,b)).1 (BZ l a b).1 /\
  Ai nD (Bh (l.map D9) (a,b)).2.1 (BZ l a b).2.1/\(Bh (l.map D9) (a,b)).2.2.2=(BZ l a b).2.2/\b<=(BZ l a b).2.2/\((BZ l a b).2.1.map (·.1)).Nodup/\∀z∈(BZ l a b).2.1,(a<=z.1/\z.1<a+BB l)\/(b<=z.1/\z.1<(BZ l a b).2.2)
def VL:∀(l:List (M×XD)) (g f:Nat),g+BB l<=f->Oc l g f
 |[],g,f,_=>⟨trivial,trivial,rfl,AE _,dr,by simp[BZ]⟩
 |(m,.lf c)::l,g,f,h=>by
  have r:BB ((m,.lf c)::l)=BB l:=rfl;rw[r]at h;obtain⟨a,b,n,u,d,e⟩:=VL l g f h;have hd:(BY m (Et (.lf c)) (g,f))=((match Et (.lf c) with|.lf v=>.lf v|_=>.un),[],(g,f)):=by cases c<;>rfl
  have E:(Bh (((m,XD.lf c)::l).map D9) (g,f)).1=(match Et (.lf c) with|.lf v=>.lf v|_=>.un)::(Bh (l.map D9) (g,f)).1:=by
   simp only[A2,D9,Bh,hd]
  have F:(Bh (((m,XD.lf c)::l).map D9) (g,f)).2=(Bh (l.map D9) (g,f)).2:=by
   simp only[A2,D9,Bh,hd,A0]
  unfold Oc;rw[E,F,r];refine⟨⟨⟨λR _=>Zjv R c,λC D R _=>by cases c<;>trivial⟩,a⟩,b,n,u,d,e⟩
 |(m,.sl t i)::l,g,f,h=>by
  have G:∀(x:XR) (y:Root),(BY m (Et (.sl t i)) (g,f))=(.rf g [] t.n 0 (i.map (Al t)).length,[(g,y)],(g+1,f))->aI m=1->(BZ ((m,.sl t i)::l) g f)=(.rw g::(BZ l (g+1) f).1,(g,0,x)::(BZ l (g+1) f).2.1,(BZ l (g+1) f).2.2)->((x=.tr t i/\y=.tr t.n (i.map (Al t)))\/(x=.im t i/\y=.im t.n (i.map (Al t))))->Oc ((m,.sl t i)::l) g f:=by
   intro x y hd A I o;have r:BB ((m,.sl t i)::l)=1+BB l:=by simp only[BB,A]
   rw[r]at h;obtain⟨a,b,n,u,d,e⟩:=VL l (g+1) f (by omega);have E:(Bh (((m,XD.sl t i)::l).map D9) (g,f)).1=.rf g [] t.n 0 (i.map (Al t)).length::(Bh (l.map D9) (g+1,f)).1:=by
    simp only[A2,D9,Bh,hd]
   have F:(Bh (((m,XD.sl t i)::l).map D9) (g,f)).2.1=(g,y)::(Bh (l.map D9) (g+1,f)).2.1:=by
    simp only[A2,D9,Bh,hd,Yn]
   have H:(Bh (((m,XD.sl t i)::l).map D9) (g,f)).2.2=(Bh (l.map D9) (g+1,f)).2.2:=by
    simp only[A2,D9,Bh,hd]
   have k:Oc ((m,.sl t i)::l) g f:=by
    unfold Oc;rw[E,F,H,I,r];refine⟨⟨⟨λR j=>?_,λC D R j=>j _ B5⟩, ?_⟩,⟨⟨rfl,rfl, ?_⟩,b⟩,n,u, ?_, ?_⟩
    .have:=j (g,0,x) B5;left;rcases o with ⟨rfl,_⟩|⟨rfl,_⟩<;>simp only[cC,this,B3]
    .refine a.mono ?_;intro c z ⟨q1,q2⟩;exact⟨λR j=>q1 R λw B=>j w (Bx _ B),λC D R j=>q2 C D R λw B=>j w (Bx _ B)⟩
    .rcases o with ⟨rfl,rfl⟩|⟨rfl,rfl⟩
     .exact .inl ⟨t,i,rfl,rfl⟩
     exact .inr ⟨t,i,rfl,rfl⟩
    .simp only[A2,E4];refine⟨λA=>?_,d⟩;obtain⟨z,p,J⟩:=CC.1 A;rcases e z p with q|q<;>omega
    intro z p;rcases AX.1 p with rfl|p
    .left;simp only;omega
    rcases e z p with q|q
    .left;omega
    exact .inr q
   exact k
  have s:∀(x:XR) (y:Root),(BY m (Et (.sl t i)) (g,f))=(.rf f [] t.n 0 (i.map (Al t)).length,[(f,y)],(g,f+1))->aI m=0->(BZ ((m,.sl t i)::l) g f)=(.rw f::(BZ l g (f+1)).1,(f,0,x)::(BZ l g (f+1)).2.1,(BZ l g (f+1)).2.2)->((x=.tr t i/\y=.tr t.n (i.map (Al t)))\/(x=.im t i/\y=.im t.n (i.map (Al t))))->Oc ((m,.sl t i)::l) g f:=by
   intro x y hd A I o;have r:BB ((m,.sl t i)::l)=BB l:=by simp only[BB,A,A7]
   rw[r]at h;obtain⟨a,b,n,u,d,e⟩:=VL l g (f+1) (by omega);have E:(Bh (((m,XD.sl t i)::l).map D9) (g,f)).1=.rf f [] t.n 0 (i.map (Al t)).length::(Bh (l.map D9) (g,f+1)).1:=by
    simp only[A2,D9,Bh,hd]
   have F:(Bh (((m,XD.sl t i)::l).map D9) (g,f)).2.1=(f,y)::(Bh (l.map D9) (g,f+1)).2.1:=by
    simp only[A2,D9,Bh,hd,Yn]
   have H:(Bh (((m,XD.sl t i)::l).map D9) (g,f)).2.2=(Bh (l.map D9) (g,f+1)).2.2:=by
    simp only[A2,D9,Bh,hd]
   have k:Oc ((m,.sl t i)::l) g f:=by
    unfold Oc;rw[E,F,H,I,r];refine⟨⟨⟨λR j=>?_,λC D R j=>j _ B5⟩, ?_⟩,⟨⟨rfl,rfl, ?_⟩,b⟩,n,(by show f<=(BZ l g (f+1)).2.2;omega), ?_, ?_⟩
    .have:=j (f,0,x) B5;left;rcases o with ⟨rfl,_⟩|⟨rfl,_⟩<;>simp only[cC,this,B3]
    .refine a.mono ?_;intro c z ⟨q1,q2⟩;exact⟨λR j=>q1 R λw B=>j w (Bx _ B),λC D R j=>q2 C D R λw B=>j w (Bx _ B)⟩
    .rcases o with ⟨rfl,rfl⟩|⟨rfl,rfl⟩
     .exact .inl ⟨t,i,rfl,rfl⟩
     exact .inr ⟨t,i,rfl,rfl⟩
    .simp only[A2,E4];refine⟨λA=>?_,d⟩;obtain⟨z,p,J⟩:=CC.1 A;rcases e z p with q|q<;>omega
    intro z p;rcases AX.1 p with rfl|p
    .right;simp only;omega
    rcases e z p with q|q
    .exact .inl q
    right;simp only;omega
   exact k
  cases m with
  |io=>exact G _ _ rfl rfl rfl (.inl ⟨rfl,rfl⟩)
  |rx=>exact G _ _ rfl rfl rfl (.inr ⟨rfl,rfl⟩)
  |ow=>exact s _ _ rfl rfl rfl (.inl ⟨rfl,rfl⟩)
  |rd=>exact s _ _ rfl rfl rfl (.inr ⟨rfl,rfl⟩)
def UW{α β:Type}{R:α->β->Prop}:∀{e:List α}{f:List β},Ai R e f->∀b∈f,∃a∈e,R a b
 |[],[],_,b,k=>by simp at k
 |a::e,b::f,h,c,g=>by
  rcases AX.1 g with rfl|g
  .exact⟨a,B5,h.1⟩
  obtain⟨d,i,j⟩:=UW h.2 c g;exact⟨d,Bx _ i,j⟩
 |[],_::_,h,_,_=>h.elim
 |_::_,[],h,_,_=>h.elim
def nL:∀{a:List (Nat×Root)}{b:AK},Ai nD a b->a.map (·.1)=b.map (·.1)
 |[],[],_=>rfl
 |y::a,z::b,h=>by simp only[A2,nL h.2,h.1.1]
 |[],_::_,h=>h.elim
 |_::_,[],h=>h.elim
def eo{a:GArg}{x:a.t.den}(h:B0 a.ms=a.t.n):(a.ms.zip (Al a.t x)).length=B0 a.ms:=by
 rw[dx,Cv,<-h,HH];omega
def iT{R:AK}:∀(i:List GArg) (x:Tp (DH i)) (f:List C) (e:List XC) (b:Nat),GA i=true->f.length=(flat (Bq i x)).length->Ai (λc x=>Ba c (cC R x)) f e->(∀z∈FT i e b,lk R z.1=some z.2) ->
  Ai (λv a=>CZ v (cV R (.a a))) (EJ (Bq i x) f b) (HE i e b)
 |[],_,_,_,_,_,_,_,_=>trivial
 |a::i,x,f,e,b,h,D,l,o=>by
  simp only[GA,A6,CE]at h;obtain⟨⟨B,w⟩,E⟩:=h;have B:=B6 B;have A:=eo (x:=Tp.hd a.t _ x) B;have s:(EY a (Tp.hd a.t _ x)).cells=a.ms.zip (Al a.t (Tp.hd a.t _ x)):=by simp only[EY];cases a.ptr<;>rfl
  simp only[flat,Bq,DM,Cb,s,A]at D;have g:Ai (λc x=>Ba c (cC R x)) (f.drop (B0 a.ms)) (e.drop (B0 a.ms)):=by
   have:Ai Ba f (e.map (cC R)):=by
    clear D o
    induction f generalizing e with
    |nil=>cases e<;>exact l
    |cons u f j=>cases e with
     |nil=>exact l.elim
     |cons c e=>exact⟨l.1,j e l.2⟩
   have:=J4 (n:=B0 a.ms) this;rw[<-F4]at this
   revert this
   generalize f.drop (B0 a.ms)=p;generalize e.drop (B0 a.ms)=q;intro this
   induction p generalizing q with
   |nil=>cases q<;>exact this
   |cons u f j=>cases q with
    |nil=>exact this.elim
    |cons c e=>exact⟨this.1,j e this.2⟩
  have d:Ai Ba (f.take (B0 a.ms)) ((e.take (B0 a.ms)).map (cC R)):=by
   have:Ai Ba f (e.map (cC R)):=by
    clear D o g
    induction f generalizing e with
    |nil=>cases e<;>exact l
    |cons u f j=>cases e with
     |nil=>exact l.elim
     |cons c e=>exact⟨l.1,j e l.2⟩
   have:=JU (n:=B0 a.ms) this
   rwa[<-Fp]at this
  have k:(f.drop (B0 a.ms)).length=(flat (Bq i (Tp.tl a.t _ x))).length:=by
   rw[Di,D,flat];omega
  cases y:a.ptr with
  |true=>
   simp only[FT,y]at o;have j:=iT i (Tp.tl a.t _ x) _ _ (b+1) E k g λz A=>o z (Bx _ A);have F:=o _ B5;simp only at F;simp only[Bq,EY,y,EJ,HE,A];refine⟨?_,j⟩;simp only[cV,cA,cC,F];exact Ba.refl _
  |false=>
   simp only[FT,y]at o;have j:=iT i (Tp.tl a.t _ x) _ _ b E k g o;cases r:a.ag with
   |true=>
    simp only[Bq,EY,y,r,EJ,HE,A];exact⟨d,j⟩
   |false=>
    simp only[Bq,EY,y,r,EJ,HE,A];refine⟨?_,j⟩;have G:a.t.n=1:=by
     rcases w with w|w
     .rw[y,r]at w;simp at w
     exact B6 w
    match m:f.take (B0 a.ms),h5:e.take (B0 a.ms) with
    |[u],[c]=>rw[m,h5]at d;exact d.1
    |[],[]=>
     exfalso;have:(f.take (B0 a.ms)).length=0:=by rw[m];rfl
     rw[EF,D,B,G]at this;omega
    |[],_::_=>rw[m,h5]at d;exact d.elim
    |_::_,[]=>rw[m,h5]at d;exact d.elim
    |[_],_::_::_=>rw[m,h5]at d;exact d.2.elim
    |_::_::_,[_]=>rw[m,h5]at d;exact d.2.elim
    |_::_::_,_::_::_=>
     exfalso;have:(f.take (B0 a.ms)).length<=1:=by rw[EF,B,G];omega
     rw[m]at this;simp at this
def VJ:∀(g:List GArg) (h:List XC) (b:Nat),((FT g h b).map (·.1)).Nodup/\∀z∈FT g h b,b<=z.1/\z.1<b+Da g/\∃i,z.2=(0,.bx i)/\∀e∈i,e.1=0/\e.2∈h
 |[],_,_=>⟨dr,by simp[FT]⟩
 |a::g,h,b=>by
  cases n:a.ptr with
  |false=>
   simp only[FT,n,Da];obtain⟨l,k⟩:=VJ g (h.drop (B0 a.ms)) b;refine⟨l,λz f=>?_⟩;obtain⟨o,p,i,m,j⟩:=k z f;exact⟨o,p,i,m,λe d=>⟨(j e d).1,Gm (j e d).2⟩⟩
  |true=>
   simp only[FT,n,Da];obtain⟨l,k⟩:=VJ g (h.drop (B0 a.ms)) (b+1);refine⟨?_,λz f=>?_⟩
   .simp only[A2,E4];refine⟨λr=>?_,l⟩;obtain⟨z,f,s⟩:=CC.1 r;have:=(k z f).1;omega
   rcases AX.1 f with rfl|f
   .refine⟨AE _,by omega,_,rfl,λe d=>?_⟩;obtain⟨c,q,rfl⟩:=CC.1 d;exact⟨rfl,G4 q⟩
   obtain⟨o,p,i,m,j⟩:=k z f;exact⟨by omega,by omega,i,m,λe d=>⟨(j e d).1,Gm (j e d).2⟩⟩
def iU{R:AK}:∀(j:List GArg) (x:Tp (DH j)) (f:List C) (d:List XC) (b:Nat),GA j=true->Ai (λc x=>Ba c (cC R x)) f d->∀r e,(r,e)∈FT j d b->∃y m,get (Iw (Ds (Bq j x) f) b) r=some y/\D1 R e.2=some m/\H5 y m
 |[],_,_,_,_,_,_,r,e,h=>by simp[FT]at h
 |a::j,x,f,d,b,h,o,r,e,i=>by
  simp only[GA,A6]at h;have s:=B6 h.1.1;have p:=eo (x:=Tp.hd a.t _ x) s;have conv:∀{f:List C} {d:List XC},Ai (λc x=>Ba c (cC R x)) f d->Ai Ba f (d.map (cC R)):=by
   intro f
   induction f with
   |nil=>intro d h;cases d<;>exact h
   |cons u f n=>intro d h;cases d with
    |nil=>exact h.elim
    |cons c d=>exact⟨h.1,n h.2⟩
  have back:∀{f:List C} {d:List XC},Ai Ba f (d.map (cC R))->Ai (λc x=>Ba c (cC R x)) f d:=by
   intro f
   induction f with
   |nil=>intro d h;cases d<;>exact h
   |cons u f n=>intro d h;cases d with
    |nil=>exact h.elim
    |cons c d=>exact⟨h.1,n h.2⟩
  have g:Ai (λc x=>Ba c (cC R x)) (f.drop (B0 a.ms)) (d.drop (B0 a.ms)):=by
   refine back ?_;rw[F4];exact J4 (conv o)
  have k:Ai Ba (f.take (B0 a.ms)) ((d.take (B0 a.ms)).map (cC R)):=by
   rw[Fp];exact JU (conv o)
  cases l:a.ptr with
  |false=>
   simp only[FT,l]at i;obtain⟨y,m,q⟩:=iU j (Tp.tl a.t _ x) _ _ b h.2 g r e i;refine⟨y,m, ?_⟩;simp only[Bq,EY,l,Ds,p];exact q
  |true=>
   simp only[FT,l]at i;simp only[Bq,EY,l,Ds,p,Iw,get];rcases AX.1 i with i|i
   .simp only[A5]at i;obtain⟨rfl,rfl⟩:=i;rw[Af rfl];refine⟨_,_,rfl,rfl, ?_⟩;simp only[H5,GO];exact k
   have:=((VJ j _ (b+1)).2 _ i).1;simp only at this;rw[Ae (by omega)];exact iU j (Tp.tl a.t _ x) _ _ (b+1) h.2 g r e i
def Ziw(f:List GArg)(x:Tp (DH f))(v:GA f=true):Ai (λc y=>Ba c (cC (CK f x).roots y)) (CA (Bq f x)).1 (BZ (Bt f x) 0 (BB (Bt f x)+Da f)).1/\DL (flat (Bq f x))=BB (Bt f x)/\(∀z∈FT f (BZ (Bt f x) 0 (BB (Bt f x)+Da f)).1 (BB (Bt f x)),lk (CK f x).roots z.1=some z.2):=by
 have g:=Zu f x v;have k:DL (flat (Bq f x))=BB (Bt f x):=by rw[<-g,aH]
 have j:C3 (Bq f x)=BB (Bt f x)+Da f:=by unfold C3;rw[k,jU]
 obtain⟨a,b,n,u,d,e⟩:=VL (Bt f x) 0 (BB (Bt f x)+Da f) (by omega);have i:CA (Bq f x)=Bh ((Bt f x).map D9) (0,BB (Bt f x)+Da f):=by unfold CA;rw[g,j]
 rw[<-i]at a b n;obtain⟨r,s⟩:=VJ f (BZ (Bt f x) 0 (BB (Bt f x)+Da f)).1 (BB (Bt f x));have l:((CK f x).roots.map (·.1)).Nodup:=by
  show (((BZ (Bt f x) 0 (BB (Bt f x)+Da f)).2.1++FT f (BZ (Bt f x) 0 (BB (Bt f x)+Da f)).1 (BB (Bt f x))).map (·.1)).Nodup;rw[C2,ME];refine⟨d,r, ?_⟩;intro p w q A o;subst o;obtain⟨z,m,rfl⟩:=CC.1 w;obtain⟨B,t,C⟩:=CC.1 A;have D:=e z m;have E:=s B t;omega
 exact⟨a.mono λc y h=>h.1 _ λz m=>Wa l (RN _ m),k,λz m=>Wa l (Jh _ m)⟩
def iX(f:List GArg)(x:Tp (DH f))(ho:GA f=true):XOk (CK f x)/\SimX (CK f x) ⟨Ib 0 (BX (Bq f x)).1,(BX (Bq f x)).2.1,(BX (Bq f x)).2.2,C3 (Bq f x)⟩:=by
 have o:=Zu f x ho;have P:DL (flat (Bq f x))=BB (Bt f x):=by rw[<-o,aH]
 have N:C3 (Bq f x)=BB (Bt f x)+Da f:=by unfold C3;rw[P,jU]
 obtain⟨a,b,n,u,d,e⟩:=VL (Bt f x) 0 (BB (Bt f x)+Da f) (by omega);have G:CA (Bq f x)=Bh ((Bt f x).map D9) (0,BB (Bt f x)+Da f):=by unfold CA;rw[o,N]
 rw[<-G]at a b n;obtain⟨a4,E⟩:=VJ f (BZ (Bt f x) 0 (BB (Bt f x)+Da f)).1 (BB (Bt f x))
 -- all the roots' names
 have a1:((CK f x).roots.map (·.1)).Nodup:=by
  show (((BZ (Bt f x) 0 (BB (Bt f x)+Da f)).2.1++FT f (BZ (Bt f x) 0 (BB (Bt f x)+Da f)).1 (BB (Bt f x))).map (·.1)).Nodup;rw[C2,ME];refine⟨d,a4, ?_⟩;intro p U q hq a3;subst a3;obtain⟨z,B,rfl⟩:=CC.1 U;obtain⟨z',a8,e2⟩:=CC.1 hq;have I:=e z B;have O:=E z' a8;omega
 have a0:∀z∈(CK f x).roots,z.1<(CK f x).next:=by
  intro z B;show z.1<(BZ _ _ _).2.2;rcases C7.1 B with B|B
  .have:=e z B;omega
  have:=(E z B).2.1;omega
 have Z:∀z∈(BZ (Bt f x) 0 (BB (Bt f x)+Da f)).2.1,lk (CK f x).roots z.1=some z.2:=λz B=>Wa a1 (RN _ B);have Y:∀z∈FT f (BZ (Bt f x) 0 (BB (Bt f x)+Da f)).1 (BB (Bt f x)),lk (CK f x).roots z.1=some z.2:=λz B=>Wa a1 (Jh _ B);have A:Ai (λc y=>Ba c (cC (CK f x).roots y)) (CA (Bq f x)).1 (BZ (Bt f x) 0 (BB (Bt f x)+Da f)).1:=a.mono λc y h=>h.1 _ Z;have L:∀c∈(BZ (Bt f x) 0 (BB (Bt f x)+Da f)).1,Bj (CK f x).roots (CK f x).next (CK f x).stamp c:=by
  intro c T;obtain⟨c',_,h⟩:=UW a c T;exact h.2 _ _ _ λz B=>a0 z (RN _ B)
 have Q:(CA (Bq f x)).1.length=(flat (Bq f x)).length:=by
  rw[G,<-o];have S:∀(l:List (M×D)) (k:Kk),(Bh l k).1.length=l.length:=by
   intro l
   induction l with
   |nil=>intro k;rfl
   |cons a l ih=>intro k;obtain⟨m,d⟩:=a;simp only[Bh,Aq,ih]
  exact S _ _
 have F:=iT (R:=(CK f x).roots) f x (CA (Bq f x)).1 _ (BB (Bt f x)) ho Q A Y;have X:∀y∈HE f (BZ (Bt f x) 0 (BB (Bt f x)+Da f)).1 (BB (Bt f x)),Gw (CK f x).roots (CK f x).next (CK f x).stamp y:=by
  have S:∀(V:List GArg) (W:List XC) (b:Nat),(∀c∈W,Bj (CK f x).roots (CK f x).next (CK f x).stamp c)->(b+Da V<=(CK f x).next)->∀y∈HE V W b,Gw (CK f x).roots (CK f x).next (CK f x).stamp y:=by
   intro V
   induction V with
   |nil=>intro W b _ _ y j;simp[HE]at j
   |cons a V ih=>
    intro W b T hb y j;cases U:a.ptr with
    |true=>
     simp only[HE,U,AX]at j;simp only[Da,U]at hb;rcases j with rfl|j
     .show b<(CK f x).next;omega
     exact ih _ (b+1) (λc h=>T c (Gm h)) (by omega) y j
    |false=>
     simp only[HE,U,AX]at j;simp only[Da,U]at hb;rcases j with rfl|j
     .cases a.ag with
      |true=>exact λc h=>T c (G4 h)
      |false=>
       simp only;split
       .rename_i c K;exact T c (G4 (i:=B0 a.ms) (by rw[K];exact B5))
       exact λc h=>by simp at h
     exact ih _ b (λc h=>T c (Gm h)) hb y j
  refine S f _ _ L ?_;show _<=(BZ _ _ _).2.2;omega
 have a2:∀r s z,lk (CK f x).roots r=some (s,z)->s=0:=by
  intro r s z C;have g:=VZ C;rcases C7.1 g with g|g
  .obtain⟨y,_,h⟩:=UW b _ g;exact h.2.1
  obtain⟨es,h,_⟩:=(E _ g).2.2;simp only[A5]at h;exact h.1
 refine⟨⟨?_, ?_, ?_, ?_⟩,⟨?_,N, ?_, ?_⟩⟩
 .intro r s z C;exact⟨a0 _ (VZ C),by rw[a2 r s z C];exact DG 0⟩
 .intro t s v C;obtain⟨y,rfl,rfl,_,K⟩:=Vz C;exact⟨DG 0,X y (CP K)⟩
 .intro r s W C en a5;have g:=VZ C;rcases C7.1 g with g|g
  .obtain⟨y,_,h⟩:=UW b _ g;rcases h.2.2 with ⟨t,xs,h,_⟩|⟨t,xs,h,_⟩<;>simp at h
  obtain⟨es,h,O⟩:=(E _ g).2.2;simp only[A5,XR.bx.injEq]at h;obtain⟨_,rfl⟩:=h;obtain⟨q1,q2⟩:=O en a5;exact⟨by rw[q1];exact DG 0,L _ q2⟩
 .show BB (Bt f x)+Da f<=(BZ _ _ _).2.2;exact u
 .exact n
 .intro t s v C;obtain⟨y,rfl,rfl,_,K⟩:=Vz C;right;obtain⟨i,hi,b0⟩:=MI (CP K);have b1:=F.length;rw[M8]at K;have ht:t<(HE f (BZ (Bt f x) 0 (BB (Bt f x)+Da f)).1 (BB (Bt f x))).length:=(CY.1 K).1;have hv:(EJ (Bq f x) (CA (Bq f x)).1 (BB (Bt f x)))[t]?= some (EJ (Bq f x) (CA (Bq f x)).1 (BB (Bt f x)))[t]:=BW (by omega);obtain⟨y',q1,q2⟩:=F.get t _ hv;rw[K]at q1;simp only[Ac]at q1;subst q1;refine⟨_,ZU (Cq _) ?_,q2⟩;rw[M8];show (EJ (Bq f x) (CA (Bq f x)).1 (DL (flat (Bq f x))))[t]?= _;rw[P];exact hv
 intro r s z C y j;have g:=VZ C;have J:(BX (Bq f x)).2.1=(CA (Bq f x)).2.1++Iw (Ds (Bq f x) (CA (Bq f x)).1) (BB (Bt f x)):=by show _++Iw _ (DL _)=_;rw[P]
 show ∃y',get (BX (Bq f x)).2.1 r=some y'/\H5 y' y;rw[J,Ft];have H:=nL b;rcases C7.1 g with g|g
 .obtain⟨y0,a7,h⟩:=UW b _ g;have hg:get (CA (Bq f x)).2.1 r=some y0.2:=Ij (by rw[H];exact d) (by rw[<-show y0.1=r from h.1];exact a7);rw[hg];refine⟨_,rfl, ?_⟩;rcases h.2.2 with ⟨t,xs,I,O⟩|⟨t,xs,I,O⟩
  .simp only at I;subst I;simp only[D1,Ac]at j;subst j;rw[O];exact⟨rfl,rfl⟩
  simp only at I;subst I;simp only[D1,Ac]at j;subst j;rw[O];exact⟨rfl,rfl⟩
 have a6:get (CA (Bq f x)).2.1 r=none:=by
  cases hq:get (CA (Bq f x)).2.1 r with
  |none=>rfl
  |some w=>
   exfalso;have I:r∈(CA (Bq f x)).2.1.map (·.1):=CC.2 ⟨_,LX hq,rfl⟩;rw[H]at I;obtain⟨z1,a9,e1⟩:=CC.1 I;have O:=e z1 a9;have h3:=E _ g;simp only at h3;omega
 rw[a6];obtain⟨y1,y2,g1,g2,g3⟩:=iU (R:=(CK f x).roots) f x (CA (Bq f x)).1 _ (BB (Bt f x)) ho A r (s,z) g;simp only at g2;rw[j]at g2;simp only[Ac]at g2;subst g2;exact⟨y1,g1,g3⟩
end Go.Vs
namespace Go.Vs
variable [Glb]
def jq{β:Type}{d:β}{R:AK}{v w:Nat}:∀(g:List Ty) (b:List XC) (k:List Sg->List XC->Option β),(∀c∈b,Bj R v w c)->Wv R g b k=some d ->
  ∃f e a,b=e++a/\k f a=some d/\Ai (CD R) e (f.flatMap H9)/\f.map (·.1)=g
 |[],b,k,i,h=>⟨[],[],b,rfl,h,trivial,rfl⟩
 |t::g,b,k,i,h=>by
  simp only[Wv]at h;obtain⟨x,j,l,rfl,o,p⟩:=Mg t b _ d i h;obtain⟨f,m,n,rfl,q,r,s⟩:=jq g l _ (λc u=>i c (Jh _ u)) o;exact⟨⟨t,x⟩::f,j++m,n,by simp,q,by simp only[DM,H9];exact Ai.append p r,by simp[s]⟩
def SI{β:Type}{i:β}{X:XSt}{S:St}(g:SimX X S):∀(l:List (M×XD)) (n:Nat) (k:List Sg->List Nat->Option β),OL X.roots l n k=some i ->
  ∃b a,k b a=some i/\∀f:List (Nat×Root),(∀r∈a,get f r=get S.roots r)->Ai (λ(x:Nat×Nat×Nat) (o:Nat×List (List D))=>get f x.1=some (.tr o.1 o.2)/\o.1=x.2.1/\o.2.length=x.2.2) (Il (l.map D9) n) (b.map Nn)
 |[],n,k,h=>⟨[],[],h,λf _=>trivial⟩
 |(m,.lf c)::l,n,k,h=>by
  simp only[OL]at h;obtain⟨b,a,d,e⟩:=SI g l n k h;refine⟨b,a,d,λf j=>?_⟩;have:Il (((m,XD.lf c)::l).map D9) n=Il (l.map D9) n:=by cases c<;>cases m<;>rfl
  rw[this];exact e f j
 |(m,.sl t G)::l,n,k,h=>by
  simp only[OL]at h;cases m with
  |io=>
   simp only at h;split at h
   .rename_i s u C A;obtain⟨E,h,rfl,w,F⟩:=Sj h;obtain⟨q,h⟩:=Es h;simp only[Hq,AA]at q;obtain⟨b,a,d,e⟩:=SI g l (n+1) _ h;refine⟨_,_,d,λf j=>?_⟩;obtain⟨y,B,v⟩:=g.roots n s _ A _ rfl;have z:get S.roots n=some (.tr u.n (C.map (Al u))):=by
     cases y with
     |tr _ _=>obtain⟨rfl,rfl⟩:=v;exact B
     |_=>exact v.elim
    refine⟨⟨?_,rfl, ?_⟩,e f λr p=>j r (Bx _ p)⟩
    .simp only[Nn];rw[j n B5,z,w]
    simp only[Nn,B3];exact q
   simp at h
  |rx=>
   simp only at h;obtain⟨b,a,d,e⟩:=SI g l (n+1) k h;exact⟨b,a,d,e⟩
  |rd=>
   simp only at h;obtain⟨b,a,d,e⟩:=SI g l n k h;exact⟨b,a,d,e⟩
  |ow=>
   simp only at h;obtain⟨b,a,d,e⟩:=SI g l n k h;exact⟨b,a,d,e⟩
def jd{R0 R:AK}(A:∀r z,lk R r=some (0,z)->lk R0 r=some (0,z)):∀(k:List M) (F:List Ty) (l:List D) (g:List (Nat×XC)) (w:List XC) (x q:List C) (f:List XC),(∀(j:Nat) (m:M) (d:D) (J:Ty),k[j]?= some m->l[j]?= some d->F[j]?= some J->EK (m,d)=(match m,LP J with|.rx,true=>true|_,_=>false))->k.length=l.length->l.length=F.length ->
  Kv R k F g=some w->Ai Ba x (f.map (cC R0))->x.length=k.length->Ai Ba q (g.map λe=>cC R e.2)->(∀(c:Nat) (e:Nat×XC),g[c]?= some e->e.1=0->f[c]?= some e.2) ->
  IV (k.zip l) x q/\Ai Ba (EZ (k.zip l) q) (w.map (cC R))/\∀p∈w,∃e∈g,e.2=p
 |[],[],[],g,w,x,q,f,_,_,_,h,P,o,I,_=>by
  cases g with
  |cons e g=>simp[Kv]at h
  |nil=>
   simp only[Kv,Ac]at h;subst h;cases x with
   |cons _ _=>simp at o
   |nil=>cases q with
    |nil=>exact⟨trivial,trivial,by simp⟩
    |cons _ _=>exact I.elim
 |m::k,t::F,d::l,g,w,x,q,f,hr,i,v,h,P,o,I,hc=>by
  cases g with
  |nil=>simp[Kv]at h
  |cons e g=>
   simp only[Aq,UL]at i v o;cases x with
   |nil=>simp at o
   |cons u x=>
   simp only[Aq,UL]at o;cases f with
   |nil=>exact P.elim
   |cons c0 f=>
   cases q with
   |nil=>exact I.elim
   |cons y q=>
   have B:=hr 0 m d t rfl rfl rfl;have O:∀(j:Nat) (m:M) (d:D) (J:Ty),k[j]?= some m->l[j]?= some d->F[j]?= some J->EK (m,d)=(match m,LP J with|.rx,true=>true|_,_=>false):=λj m d J a b c=>hr (j+1) m d J (by simpa using a) (by simpa using b) (by simpa using c);have K:∀(c:Nat) (s:Nat×XC),g[c]?= some s->s.1=0->f[c]?= some s.2:=λc s he h0=>by simpa using hc (c+1) s (by simpa using he) h0
   have Q:EK (m,d)=true->(match kz R e with|true=>Kv R k F g|false=>none)=some w->IV ((m::k).zip (d::l)) (u::x) (y::q)/\Ai Ba (EZ ((m::k).zip (d::l)) (y::q)) (w.map (cC R))/\∀p∈w,∃s∈e::g,s.2=p:=by
    intro S h;split at h
    .rename_i E;unfold kz at E;split at E
     .rename_i r V N;split at E
      .rename_i T G hz;obtain⟨X,Y,Z⟩:=jd A k F l g w x q f O i v h P.2 o I.2 K;have L:=hc 0 e rfl V;simp only[AD,Ac]at L;subst L;have W:=A r _ hz;have e1:cC R0 e.2=.rf r [] T.n 0 G.length:=by rw[N];simp only[cC,W]
       have e2:cC R e.2=.rf r [] T.n 0 G.length:=by rw[N];simp only[cC,hz]
       have a1:u=.rf r [] T.n 0 G.length:=by have:=P.1;rw[e1]at this;exact this.eq (by simp)
       have a2:y=.rf r [] T.n 0 G.length:=by have:=I.1;simp only[e2]at this;exact this.eq (by simp)
       refine⟨?_, ?_,λp H=>by obtain⟨s,i,v⟩:=Z p H;exact⟨s,Bx _ i,v⟩⟩
       .simp only[Jf,IV];exact⟨λ_=>by rw[a1,a2],X⟩
       simp only[Jf,EZ,S,BF];exact Y
      simp at E
     simp at E
    simp at h
   have go:EK (m,d)=false->(match Kv R k F g with|some U=>some (e.2::U)|none=>none)=some w->IV ((m::k).zip (d::l)) (u::x) (y::q)/\Ai Ba (EZ ((m::k).zip (d::l)) (y::q)) (w.map (cC R))/\∀p∈w,∃s∈e::g,s.2=p:=by
    intro S h;split at h
    .rename_i U H;simp only[Ac]at h;subst h;obtain⟨X,Y,Z⟩:=jd A k F l g U x q f O i v H P.2 o I.2 K;refine⟨?_, ?_, ?_⟩
     .simp only[Jf,IV];exact⟨λh=>by rw[S]at h;simp at h,X⟩
     .simp only[Jf,EZ,S,C6,BC];exact⟨I.1,Y⟩
     intro p H;rcases AX.1 H with rfl|H
     .exact⟨e,B5,rfl⟩
     obtain⟨s,i,v⟩:=Z p H;exact⟨s,Bx _ i,v⟩
    simp at h
   cases m with
   |rx=>
    cases hT:LP t with
    |true=>
     simp only[hT]at B;simp only[Kv,hT]at h;exact Q B h
    |false=>
     simp only[hT]at B;simp only[Kv,hT]at h;exact go B h
   |_=>simp only[Kv]at h;exact go B h
 |[],_::_,l,_,_,_,_,_,_,i,v,_,_,_,_,_=>by rw[<-i]at v;simp at v
 |_::_,[],l,_,_,_,_,_,_,i,v,_,_,_,_,_=>by rw[Ay]at v;rw[v]at i;simp at i
 |[],[],_::_,_,_,_,_,_,_,i,_,_,_,_,_,_=>by simp at i
 |_::_,_::_,[],_,_,_,_,_,_,i,_,_,_,_,_,_=>by simp at i
def jf{R0:AK}{X:XSt}{S:St}(Y:SimX X S)(Z:XOk X)(A:∀r s z,lk X.roots r=some (s,z)->s<1->lk R0 r=some (s,z))(l:∀r s f,lk X.roots r=some (s,.bx f)->∀(c:Nat) (e:Nat×XC),f[c]?= some e->e.1<1->∃s0 H,lk R0 r=some (s0,.bx H)/\H[c]?= some e):
  ∀(n:List GArg) (x:Tp (DH n)) (g:List C) (f:List XC) (b:Nat) (O:List XC),GA n=true->g.length=(flat (Bq n x)).length->Ai (λc y=>Ba c (cC R0 y)) g f->(∀z∈FT n f b,lk R0 z.1=some z.2)->Tf X.roots n b=some O ->
  ∃i,Ai (λx N=>IV x.1 x.2 N) (Ds (Bq n x) g) i/\(∀(j:Nat) (N:List C),i[j]?= some N->get S.roots (b+j)=some (.bx N))/\Ai Ba (((Ds (Bq n x) g).zip i).flatMap λx=>EZ x.1.1 x.2) (O.map (cC X.roots))/\(∀p∈O,Bj X.roots X.next X.stamp p) /\
   ∀E:List Sg,E.map (·.1)=H6 n->((Ds (Bq n x) g).zip i).map (λx=>(EZ x.1.1 x.2).length)=(Fq n E).map (·.length)
 |[],x,g,f,b,O,_,_,_,_,h=>by
  simp only[Tf,Ac]at h;subst h;exact⟨[],trivial,by simp,trivial,by simp,λE _=>rfl⟩
 |a::n,x,g,f,b,O,U,hl,hw,P,h=>by
  simp only[GA,A6]at U;have h1:=B6 U.1.1;have L:=eo (x:=Tp.hd a.t _ x) h1;have I:(EY a (Tp.hd a.t _ x)).cells=a.ms.zip (Al a.t (Tp.hd a.t _ x)):=by simp only[EY];cases a.ptr<;>rfl
  simp only[flat,Bq,DM,Cb,I,L]at hl;have conv:∀{g:List C} {f:List XC},Ai (λc x=>Ba c (cC R0 x)) g f->Ai Ba g (f.map (cC R0)):=by
   intro g
   induction g with
   |nil=>intro f h;cases f<;>exact h
   |cons u g ih=>intro f h;cases f with
    |nil=>exact h.elim
    |cons c f=>exact⟨h.1,ih h.2⟩
  have back:∀{g:List C} {f:List XC},Ai Ba g (f.map (cC R0))->Ai (λc x=>Ba c (cC R0 x)) g f:=by
   intro g
   induction g with
   |nil=>intro f h;cases f<;>exact h
   |cons u g ih=>intro f h;cases f with
    |nil=>exact h.elim
    |cons c f=>exact⟨h.1,ih h.2⟩
  have w:Ai (λc x=>Ba c (cC R0 x)) (g.drop (B0 a.ms)) (f.drop (B0 a.ms)):=by
   refine back ?_;rw[F4];exact J4 (conv hw)
  have K:Ai Ba (g.take (B0 a.ms)) ((f.take (B0 a.ms)).map (cC R0)):=by
   rw[Fp];exact JU (conv hw)
  have G:(g.drop (B0 a.ms)).length=(flat (Bq n (Tp.tl a.t _ x))).length:=by
   rw[Di,hl,flat];omega
  simp only[Tf]at h;cases q:a.ptr with
  |false=>
   simp only[q]at h;simp only[FT,q]at P;obtain⟨i,q1,q2,q3,q4,V⟩:=jf Y Z A l n (Tp.tl a.t _ x) _ _ b O U.2 G w P h;refine⟨i, ?_,q2, ?_,q4,λE D=>?_⟩
   .simp only[Bq,EY,q,Ds,L];exact q1
   .simp only[Bq,EY,q,Ds,L];exact q3
   simp only[H6,q]at D;simp only[Bq,EY,q,Ds,L,Fq];exact V E D
  |true=>
   simp only[q]at h;simp only[FT,q]at P;split at h
   .rename_i s W J;split at h
    .rename_i p1 p2 a1 a2;split at h
     .rename_i k;simp only[Ac]at h;subst h;obtain⟨k,a0⟩:=mp.1 k;have k:=B6 k;obtain⟨N,g1,g2⟩:=Ot Y J;have Q:=P _ B5;simp only at Q;obtain⟨w1,w2,w3⟩:=jd (R0:=R0) (R:=X.roots) (λr z M=>A r 0 z M (by omega)) a.ms (Gd a.t) (Al a.t (Tp.hd a.t _ x)) W p1 (g.take (B0 a.ms)) N (f.take (B0 a.ms))
       (λj m d ty _ hd ht=>ac a0 hd ht) (by rw[Cv,<-h1,HH]) (by rw[Cv,Qf]) a1 K (by rw[EF,<-HH a.ms];omega) g2 (by
        intro c e he h0;obtain⟨s0,H,k1,k2⟩:=l b s W J c e he (by omega);rw[Q]at k1;simp only[Ac,A5,XR.bx.injEq]at k1;rw[<-k1.2,CQ,BP]at k2;obtain⟨c',k3,rfl⟩:=k2;exact k3)
      obtain⟨i,q1,q2,q3,q4,V⟩:=jf Y Z A l n (Tp.tl a.t _ x) _ _ (b+1) p2 U.2 G w (λz M=>P z (Bx _ M)) a2;refine⟨N::i, ?_, ?_, ?_, ?_,λE D=>?_⟩
      .simp only[Bq,EY,q,Ds,L];exact⟨w1,q1⟩
      .intro j zs hj;cases j with
       |zero=>simp only[AD,Ac]at hj;subst hj;exact g1
       |succ j=>rw[show b+(j+1)=b+1+j by omega];exact q2 j zs (by simpa using hj)
      .simp only[Bq,EY,q,Ds,L,Jf,DM,C2];exact Mt w2 q3
      .intro p B;rcases C7.1 B with B|B
       .obtain⟨e,he,rfl⟩:=w3 p B;exact (Z.box b s W J e he).2
       exact q4 p B
      simp only[H6,q]at D;have T:=w2.length;rw[B3]at T;simp only[Bq,EY,q,Ds,L,Jf,A2,T,k];cases F:a.o with
      |none=>
       simp only[F,QD,IB]at D;simp only[Fq,q,F,A2,Ay,Gz,V E D]
      |some t=>
       simp only[F,QD,IB]at D;cases E with
       |nil=>simp at D
       |cons v E=>
        simp only[A2,List.cons.injEq]at D;simp only[Fq,q,F,A2,Gz,H9,Cv,D.1,V E D.2]
     simp at h
    simp at h
   simp at h
def am{g:List GArg}{f:List (Bool×Ty)}{x:Tp (DH g)}{X:XSt}{S:St}{is:List I}{y:Tp (GB g f)}{E:List (Nat×Nat×XV)}(ho:GA g=true)(hX:XOk X)(hE:Ext ⟨E,(CK g x).roots,(CK g x).next,(CK g x).stamp,(CK g x).fix⟩ X)(hS:SimX X S)(h:SN g f x X is=some y):Fa S is λp=>HS (Bq g x) (Lj g f (EV _ y)) S.roots (Ey p):=by
 obtain⟨c1,c2,c3⟩:=Ziw g x ho;unfold SN at h;obtain⟨p,q,h,h1,h2,h3⟩:=aA hX hS is _ h;split at h
 .rename_i ps a6 a4;split at h
  .rename_i a7 T;split at h
   .rename_i a3;have H:(CA (Bq g x)).1.length=(flat (Bq g x)).length:=by
     have J:∀(l:List (M×D)) (k:Kk),(Bh l k).1.length=l.length:=by
      intro l
      induction l with
      |nil=>intro k;rfl
      |cons a l O=>intro k;obtain⟨m,d⟩:=a;simp only[Bh,Aq,O]
     exact J _ _
    obtain⟨a0,b1,b2,b3,b4,b5⟩:=jf (R0:=(CK g x).roots) hS hX (λr s z N i=>hE.roots r s z N i) (λr s Z N c e he i=>hE.cells r s Z N c e he i) g x _ _ _ ps ho H c1 c3 a4;have Q:=Zx h2;obtain⟨o,d0,d1,hd,h,R,G⟩:=jq _ _ _ Q h;split at h
    .rw[AB]at hd;subst hd;obtain⟨L,a8,h,a2⟩:=SI hS _ _ _ h;split at h
     .rename_i a1;obtain⟨vb,e0,e1,he,h,P,F⟩:=jq _ _ _ b4 h;split at h
      .rw[AB]at he;subst he;obtain⟨y',hy,V⟩:=fZ _ _ _ h;simp only[Ac]at hy;subst hy;have hT:GB g f=Ht f++(IL g++H6 g):=by simp only[GB,Va]
       have C:=kv _ y';rw[V,hT,C2,C2,G,F]at C;have W:L.map (·.1)=IL g:=by
        have:=List.append_cancel_left C;exact List.append_cancel_right this
       have a5:(Ht f).length=f.length:=by
        have J:∀f:List (Bool×Ty),(Ht f).length=f.length:=by
         intro f;induction f with
         |nil=>rfl
         |cons r f O=>simp only[Ht,Aq,O]
        exact J _
       have w:o.length=B0 f:=by rw[HH,<-a5,<-G,B3]
       have u:L.length=B0 (IL g):=by rw[HH,<-W,B3]
       have U:Lj g f (EV _ y')=⟨Gj f o,L.map Nn,Fq g vb⟩:=by
        simp only[Lj,V];rw[MF w,KI w,MF u,KI u]
       rw[U]
       -- shapes
       have K:∀(f:List (Bool×Ty)) (o:List Sg) (p:List XA) (q:List A),o.map (·.1)=Ht f->Hc f p=true->Ai EH q (p.map (cA X.roots))->q.map (λx=>((DX x).1,(DX x).2.length))=(Gj f o).map (λx=>(x.1,x.2.length))/\Ai Ba (q.flatMap λx=>(DX x).2) ((ID p).map (cC X.roots)):=by
        intro f
        induction f with
        |nil=>
         intro o p q _ i B;cases p with
         |cons _ _=>simp[Hc]at i
         |nil=>cases q with
          |cons _ _=>exact B.elim
          |nil=>cases o<;>exact⟨rfl,trivial⟩
        |cons r f O=>
         intro o p q Y i B;obtain⟨ag,t⟩:=r;cases o with
         |nil=>simp[Ht]at Y
         |cons v o=>
          simp only[A2,Ht,List.cons.injEq]at Y;have hn:(H9 v).length=t.n:=by rw[H9,Cv,Y.1]
          cases p with
          |nil=>cases ag<;>simp[Hc]at i
          |cons x p=>
           cases q with
           |nil=>exact B.elim
           |cons z q=>
            cases ag with
            |false=>cases x with
             |ag Z=>simp[Hc]at i
             |c c=>
              simp only[Hc,A6]at i;obtain⟨a,b⟩:=O o p q Y.2 i.2 B.2;cases z with
              |ag _=>exact B.1.elim
              |c z=>
               refine⟨?_,⟨B.1,b⟩⟩;rw[A2,a];simp only[Gj,A2,DX,hn,B6 i.1,Aq,Ay]
            |true=>cases x with
             |c c=>simp[Hc]at i
             |ag Z=>
              simp only[Hc,A6]at i;obtain⟨a,b⟩:=O o p q Y.2 i.2 B.2;cases z with
              |c z=>exact B.1.elim
              |ag zs=>
               have N:=Ai.length (show Ai Ba zs (Z.map (cC X.roots)) from B.1);rw[B3]at N;refine⟨?_, ?_⟩
               .rw[A2,a];simp only[Gj,A2,DX,hn,N,B6 i.1]
               simp only[DM,DX,ID,C2];exact Mt B.1 b
       obtain⟨s1,s2⟩:=K f o p q G a6 h1;obtain⟨rt,t1,t2⟩:=Tz hS _ _ a7 S.roots (Ai.append R P) T (OX a3) (λ_ _=>rfl);have k1:=KN R s2;have k2:=KN P b3;refine h3 _ ⟨q,oP q,s1,a0,b1, ?_,rt, ?_, ?_, ?_⟩
       .intro j zs hj;rw[c2];exact b2 j zs hj
       .rw[k1,k2,<-C2,bg f o (by rw[w,HH]),Ve g vb F];exact t1
       .exact b5 vb F
       rw[<-Zu g x ho];refine a2 rt λr hr=>?_;rw[t2 r,Ae (Sq a1 r hr)]
      simp at h
     simp at h
    simp at h
   simp at h
  simp at h
 simp at h
def Zl3{P:Program}(w:P.follows .mixedOrders=true){f:FuncId}{fn:Func}{s:Stm}{p:List I}{Φ:List (Fx P)}{H:List (Nat×Hn)}{l:An}{b:List GArg}{k:List (Bool×Ty)}(t:P.funcs[f]?= some fn)(g:(fn.body.bind (Bu P fn.ntmps))=some s)(u:IZ P fn.results.toList=some p)(z:Nat.ble b.length fn.ntmps=true)(i:GA b=true)
  {x:Tp (DH b)} {y:Tp (GB b k)} (h:gx Φ H s l p b k x=some y):Gp P f (Bq b x) (Lj b k (EV _ y)):=by
 obtain⟨c,g,A⟩:=PZ g;obtain⟨q,r⟩:=iX b x i;have v:(Bq b x).length=b.length:=by
  have j:∀(b:List GArg) (x:Tp (DH b)),(Bq b x).length=b.length:=by
   intro b
   induction b with
   |nil=>intro x;rfl
   |cons a b B=>intro x;simp only[Bq,Aq,B]
  exact j _ _
 refine W6 t g A u (by rw[v];exact AS z) ?_;refine JM w s l q r h ?_;intro e D C m n o d;cases e with
 |ret=>exact am (E:=(CK b x).env) i m n o d
 |normal=>exact am (E:=(CK b x).env) i m n o d
 |_=>simp at d
end Go.Vs
namespace Go.Vs
variable [Glb]
end Go.Vs
namespace Go.Vs
variable [Glb]
open Go.ChangeShapes Go.WideShapes
def WQ(P:Program):Nat->List Field->Nat->Bool
 |o,[],a=>o==a
 |o,f::fs,a=>f.offset==o&&WQ P (o+P.cellsOf f.type) fs a
def good(P:Program):Nat->TypeId->Bool
 |0,_=>false
 |n+1,t=>match P.underlying t with
  |some .bool=>true
  |some (.int _)=>true
  |some .string=>true
  |some (.slice e)=>good P n e&&decide (0<P.cellsOf e)
  |some (.struct fs)=>WQ P 0 fs.toList (P.cellsOf t)&&fs.toList.all λf=>good P n f.type
  |_=>false
def DT(P:Program):Nat->TypeId->List D->Prop
 |0,_,_=>False
 |n+1,t,a=>match P.underlying t with
  |some .bool=>∃b,a=[.lf (.bool b)]
  |some (.int k)=>∃z,a=[.lf (.int k z)]/\(Lit.int k z).wf=true
  |some .string=>∃s:ByteArray,a=[.lf (.string s)]/\s.size<=maxLen
  |some (.slice e)=>∃d,a=[.sl (P.cellsOf e) d]/\d.length<=maxLen/\∀el∈d,DT P n e el
  |some (.struct fs)=>∃c:List (List D),a=c.flatten/\Ai (λ(f:Field) x=>DT P n f.type x) fs.toList c
  |_=>False
def pz{H:Type}{P:Program}{W:World}{cs:List Value}{n:Nat}{rd:TypeId->List Value->Option (DataW H×List MemPlace)}(m:∀t p x,good P n t=true->rd t p=some x->∃j,Ai (Lies W) j p/\DT P n t j):
  ∀(fs:List Field) (b:List (DataW H×List MemPlace)) (o:Nat),b.length=fs.length->(∀(i:Nat) (f:Field),fs[i]?= some f->rd f.type ((cs.drop f.offset).take (P.cellsOf f.type))=b[i]?)->WQ P o fs cs.length=true->fs.all (λf=>good P n f.type)=true ->
   ∃a,Ai (Lies W) a.flatten (cs.drop o)/\Ai (λ(f:Field) x=>DT P n f.type x) fs a
 |[],b,o,_,_,c,_=>by
  simp only[WQ,CJ]at c;subst c;exact⟨[],by simp[Ai],trivial⟩
 |f::fs,b,o,k,l,c,h=>by
  simp only[WQ,A6,CJ]at c;simp only[dk,A6]at h;cases b with
  |nil=>simp at k
  |cons x b=>
   have d:=l 0 f rfl;simp only[AD]at d;rw[c.1]at d;obtain⟨v,q,r⟩:=m _ _ _ h.1 d;obtain⟨a,s,u⟩:=pz m fs b (o+P.cellsOf f.type) (by simpa using k) (λi g w=>by simpa using l (i+1) g (by simpa using w)) c.2 h.2;refine⟨v::a, ?_,r,u⟩;have e:cs.drop o=(cs.drop o).take (P.cellsOf f.type)++cs.drop (o+P.cellsOf f.type):=by
    rw[<-MC,Jg]
   rw[e,Ji];exact Ai.append q s
def jF{H:Type}{D2:TypeId×Value->H}{P:Program}{W:World}:∀(n:Nat) (t:TypeId) (fuel:Nat) (cs:List Value) (x:DataW H×List MemPlace),good P n t=true->DataW.trod D2 P W 0 (λ_=>true) true fuel t cs=some x->∃ds,Ai (Lies W) ds cs/\DT P n t ds
 |0,t,fuel,cs,x,hg,h=>by simp[good]at hg
 |n+1,t,fuel,cs,x,hg,h=>by
  simp only[good]at hg;simp only[DT];cases hu:P.underlying t with
  |none=>simp[hu]at hg
  |some du=>
   cases du with
   |bool=>
    obtain⟨b,rfl,_⟩:=DataW.trod_bool hu h;exact⟨[.lf (.bool b)],⟨.lf _ rfl,trivial⟩,b,rfl⟩
   |int k=>
    obtain⟨z,rfl,_,hw⟩:=DataW.trod_int hu h;exact⟨[.lf (.int k z)],⟨.lf _ rfl,trivial⟩,z,rfl,hw⟩
   |string=>
    obtain⟨s,rfl,_,hs⟩:=DataW.trod_string hu h;exact⟨[.lf (.string s)],⟨.lf _ rfl,trivial⟩,s,rfl,hs⟩
   |slice e=>
    simp only[hu,A6,AA]at hg;obtain⟨hge,hsz⟩:=hg;rcases DataW.trod_slice hu h with ⟨rfl,_⟩|⟨a,len,cap,elems,rest,m,_,rfl,_,_,hlc,hcm,hel,hE,hR,_⟩
    .exact⟨[.sl (P.cellsOf e) []],⟨.nil _ none,trivial⟩,[],rfl,Cq _,by simp⟩
    by_cases hcap:cap=0
    .subst hcap;have:len=0:=by omega
     subst this;exact⟨[.sl (P.cellsOf e) []],⟨.nil _ _,trivial⟩,[],rfl,Cq _,by simp⟩
    have get:∀i,i<len->∃ecs y,W.cells? 0 (a.add (i*P.cellsOf e)) (P.cellsOf e)=some ecs/\DataW.trod D2 P W 0 (λ_=>true) true m e ecs=some y:=by
     intro i hi;have h1:=hE i hi;rw[BW (by omega)]at h1;simp only[AO]at h1;obtain⟨ecs,h2,h3⟩:=h1;exact⟨ecs,_,h2,h3⟩
    have hspot:a.spot=none:=by
     have:∃ecs,W.cells? 0 (a.add (0*P.cellsOf e)) (P.cellsOf e)=some ecs:=by
      by_cases h0:0<len
      .obtain⟨ecs,_,h2,_⟩:=get 0 h0;exact⟨ecs,h2⟩
      have hl0:len=0:=by omega
      subst hl0;obtain⟨hr1,hr2⟩:=hR rfl;have h1:=hr2 0 (by omega);rw[BW (by omega)]at h1;simp only[AO]at h1;obtain⟨ecs,h2,_⟩:=h1;exact⟨ecs,by simpa using h2⟩
     obtain⟨ecs,h2⟩:=this;have h3:=(World.cells?_some h2).2.2 0 hsz;have h4:=(World.cells?_some h2).2.1;rw[BW (by omega)]at h3;have:=World.cell?_spot h3;simpa[Addr.add] using this
    obtain⟨b,off,spot⟩:=a;simp only at hspot;subst hspot;have each:∀i,i<len->∃(ds:List D) (ecs:List Value),Ai (Lies W) ds ecs/\DT P n e ds/\ecs.length=P.cellsOf e/\∀c v,ecs[c]?= some v->W.cell? ⟨b,off+(i*P.cellsOf e+c),none⟩=some v:=by
     intro i hi;obtain⟨ecs,y,h1,h2⟩:=get i hi;obtain⟨ds,h3,h4⟩:=jF n e m ecs y hge h2;obtain⟨_,h5,h6⟩:=World.cells?_some h1;refine⟨ds,ecs,h3,h4,h5,λc v hc=>?_⟩;have hlt:c<P.cellsOf e:=by rw[<-h5];exact (CY.1 hc).1
     have:=h6 c hlt;rw[hc,add_plain,add_plain,FQ]at this;exact this
    let fd:Nat->List D:=λi=>if hi:i<len then Classical.choose (each i hi) else []
    let fv:Nat->List Value:=λi=>if hi:i<len then Classical.choose (Classical.choose_spec (each i hi)) else []
    have spec:∀i (hi:i<len),Ai (Lies W) (fd i) (fv i)/\DT P n e (fd i)/\(fv i).length=P.cellsOf e/\∀c v,(fv i)[c]?= some v->W.cell? ⟨b,off+(i*P.cellsOf e+c),none⟩=some v:=by
     intro i hi;have:=Classical.choose_spec (Classical.choose_spec (each i hi));simp only[fd,fv,dif_pos hi];exact this
    have hget:∀i el,((List.range len).map fd)[i]?= some el->i<len/\el=fd i:=by
     intro i el h1;simp only[CQ,BP]at h1;obtain⟨j,h2,rfl⟩:=h1;have hi:i<len:=by
      have:=(CY.1 h2).1;simpa using this
     rw[PJ hi]at h2;simp only[Ac]at h2;subst h2;exact⟨hi,rfl⟩
    have hmem:∀el∈(List.range len).map fd,∃i,i<len/\el=fd i:=by
     intro el hm;obtain⟨i,hi,rfl⟩:=CC.1 hm;exact⟨i,by simpa using hi,rfl⟩
    have key:=Lies.sl (W:=W) (P.cellsOf e) ((List.range len).map fd) b off cap (λi c=>((fv i)[c]?).getD undef) (by simpa using hlc) ?_ ?_ ?_
    .rw[B3,Yl]at key;refine⟨[.sl (P.cellsOf e) ((List.range len).map fd)],⟨key,trivial⟩,_,rfl,by simp;omega, ?_⟩;intro el hm;obtain⟨i,hi,rfl⟩:=hmem el hm;exact (spec i hi).2.1
    .intro el hm;obtain⟨i,hi,rfl⟩:=hmem el hm;rw[(spec i hi).1.length,(spec i hi).2.2.1]
    .intro i c el d h1 h2;obtain⟨hi,rfl⟩:=hget i el h1;have hlt:c<(fv i).length:=by rw[<-(spec i hi).1.length];exact (CY.1 h2).1
     rw[BW hlt];exact (spec i hi).2.2.2 c _ (BW hlt)
    intro i c el d h1 h2;obtain⟨hi,rfl⟩:=hget i el h1;obtain⟨v,h3,h4⟩:=(spec i hi).1.get c d h2;rw[h3];exact h4
   |struct fs=>
    simp only[hu,A6]at hg;obtain⟨xs,m,rfl,_,hl,hx,hall⟩:=DataW.trod_struct hu h;obtain⟨dss,a1,a2⟩:=pz (W:=W) (cs:=cs) (n:=n) (rd:=DataW.trod D2 P W 0 (λ_=>true) true m) (λt vs x g h=>jF n t m vs x g h) fs.toList xs 0 (by simpa using hx) (λi f hi=>hall i f (by simpa using hi)) (by rw[hl];exact hg.1) hg.2;exact⟨dss.flatten,a1,dss,rfl,a2⟩
   |_=>simp[hu]at hg
end Go.Vs
namespace Go.Vs
variable [Glb]
noncomputable def K0(P:Program)(fn:Func):Stm:=(fn.body.bind (Bu P fn.ntmps)).getD .skip
noncomputable def LN(P:Program)(fn:Func):List I:=(IZ P fn.results.toList).getD []
def Mf(P:Program)(fn:Func)(n:Nat)(a:Bool):Bool:=match fn.body.bind (Bu P fn.ntmps),IZ P fn.results.toList with
 |some _,some _=>Nat.ble n fn.ntmps&&a
 |_,_=>false
section
variable {P:Program} {f:FuncId} {fn:Func} {Φ:List (Fx P)} {H:List (Nat×Hn)} {an:An}
def bK(d:P.follows .mixedOrders=true){n:Nat}{a:Bool}(h:Mf P fn n a=true):(fn.body.bind (Bu P fn.ntmps))=some (K0 P fn)/\IZ P fn.results.toList=some (LN P fn)/\Nat.ble n fn.ntmps=true/\a=true:=by
 unfold Mf at h;split at h
 .rename_i s e b c;simp only[A6]at h;exact⟨by rw[K0,b];rfl,by rw[LN,c];rfl,h.1,h.2⟩
 simp at h
def Zl5(i:P.follows .mixedOrders=true){e g:List (Bool×Ty)}{F:Tp (e.map (·.2))->Option (Tp (g.map (·.2)))}(j:P.funcs[f]?= some fn)(k:Mf P fn e.length (QB e)=true)(h:∀x,gy Φ H (K0 P fn) an (LN P fn) e g x=F x)(x:Tp (e.map (·.2)))(y:Tp (g.map (·.2)))(l:F x=some y):Gp P f ((Cu e x).map CN) ⟨Cu g y,[],[]⟩:=by
 obtain⟨a,b,c,d⟩:=bK i k;exact Zl2 (N:=0) i j a b c d ((h x).trans l)
def Zl0(i:P.follows .mixedOrders=true){e:List GArg}{g:List (Bool×Ty)}{F:Tp (DH e)->Option (Tp (GB e g))}(j:P.funcs[f]?= some fn)(k:Mf P fn e.length (GA e)=true)(h:∀x,gx Φ H (K0 P fn) an (LN P fn) e g x=F x)(x:Tp (DH e))(y:Tp (GB e g))(l:F x=some y):Gp P f (Bq e x) (Lj e g (EV _ y)):=by
 obtain⟨a,b,c,d⟩:=bK i k;exact Zl3 i j a b c d ((h x).trans l)
end
def Qp(c:TypeId->Ty->Bool):List Field->Ty->Bool
 |[],_=>false
 |[f],T=>c f.type T
 |f::fs,.P a b=>c f.type a&&Qp c fs b
 |_,_=>false
def O7(P:Program):Nat->TypeId->Ty->Bool
 |0,_,_=>false
 |n+1,t,T=>match P.underlying t with
  |some .bool=>match T with
   |.B=>true
   |_=>false
  |some (.int k)=>match T with
   |.Y=>decide (k=.u8)
   |.I a=>decide (k=a)
   |_=>false
  |some .string=>match T with
   |.S=>true
   |_=>false
  |some (.slice e)=>match T with
   |.L T=>Nat.beq (P.cellsOf e) T.n&&O7 P n e T
   |_=>false
  |some (.struct fs)=>Qp (O7 P n) fs.toList T
  |_=>false
def N0:(T:Ty)->T.den->Prop
 |.I k,z=>(Lit.int k z).wf=true
 |.S,l=>l.length<=maxLen
 |.L t,c=>c.length<=maxLen/\∀x∈c,N0 t x
 |.P a b,x=>N0 a x.1/\N0 b x.2
 |_,_=>True
def px{P:Program}{n:Nat}(k:∀t T l,O7 P n t T=true->DT P n t l->∃x:T.den,l=Al T x/\N0 T x):∀(fs:List Field) (T:Ty) (c:List (List D)),Qp (O7 P n) fs T=true->Ai (λ(f:Field) x=>DT P n f.type x) fs c->∃x:T.den,c.flatten=Al T x/\N0 T x
 |[],T,c,h,_=>by simp[Qp]at h
 |[f],T,c,h,e=>by
  cases c with
  |nil=>exact e.elim
  |cons d c=>
   cases c with
   |cons _ _=>exact e.2.elim
   |nil=>
    simp only[Qp]at h;obtain⟨x,i,j⟩:=k _ _ _ h e.1;exact⟨x,by simp[i],j⟩
 |f::g::fs,T,c,h,e=>by
  cases T with
  |P a b=>
   simp only[Qp,A6]at h;cases c with
   |nil=>exact e.elim
   |cons d c=>
    obtain⟨x,i,j⟩:=k _ _ _ h.1 e.1;obtain⟨y,m,o⟩:=px k (g::fs) b c h.2 e.2;exact⟨(x,y),by simp only[Ji,i,m,Al],j,o⟩
  |_=>simp[Qp]at h
def rj{α:Type}{p:α->Prop}{e:α->List D}:∀(a:List (List D)),(∀el∈a,∃x,el=e x/\p x)->∃b:List α,a=b.map e/\∀x∈b,p x
 |[],_=>⟨[],rfl,by simp⟩
 |el::a,h=>by
  obtain⟨x,f,g⟩:=h el B5;obtain⟨b,i,j⟩:=rj a λel c=>h el (Bx _ c);exact⟨x::b,by rw[A2,f,i],λy d=>by rcases AX.1 d with rfl|d;exact g;exact j y d⟩
def fm{P:Program}:∀(n:Nat) (t:TypeId) (T:Ty) (c:List D),O7 P n t T=true->DT P n t c->∃x:T.den,c=Al T x/\N0 T x
 |0,t,T,c,h,_=>by simp[O7]at h
 |n+1,t,T,c,h,hd=>by
  unfold O7 at h;unfold DT at hd;split at h
  .rename_i a;simp only[a]at hd;cases T<;>simp at h
   obtain⟨b,rfl⟩:=hd;exact⟨b,rfl,trivial⟩
  .rename_i k a;simp only[a]at hd;obtain⟨z,rfl,g⟩:=hd;cases T with
   |Y=>
    simp only[AA]at h;subst h;refine⟨u8 z, ?_,trivial⟩;have r:0<=z/\z<256:=by
     simp only[Lit.wf,A6,AA]at g;have v:IntKind.u8.min=0:=rfl;have w:IntKind.u8.max=255:=rfl;omega
    simp only[Al,u8];congr 1;congr 1;congr 1;rw[UInt8.toNat_ofNat',KH (by omega)];omega
   |I y=>
    simp only[AA]at h;subst h;exact⟨z,rfl,g⟩
   |_=>simp at h
  .rename_i a;simp only[a]at hd;cases T<;>simp at h
   obtain⟨s,rfl,o⟩:=hd;refine⟨s.data.toList,by simp[Al], ?_⟩;show s.data.toList.length<=maxLen;rw[Hh];exact o
  .rename_i e a;simp only[a]at hd;cases T with
   |L T=>
    simp only[A6]at h;obtain⟨i,rfl,m,l⟩:=hd;obtain⟨u,rfl,q⟩:=rj (e:=Al T) (p:=N0 T) i λel f=>fm n e T el h.2 (l el f);exact⟨u,by simp only[Al];rw[B6 h.1],by simpa using m,q⟩
   |_=>simp at h
  .rename_i fs a;simp only[a]at hd;obtain⟨d,rfl,j⟩:=hd;exact px (λt T c=>fm n t T c) fs.toList T d h j
  simp at h
def Zj0{H:Type}{D2:TypeId×Value->H}{P:Program}{W:World}{base n:Nat}{t:TypeId}{v:Value}{d:DataW H}{y:List MemPlace}(ag:Bool)(T:Ty)(r:good P n t=true)(q:O7 P n t T=true)(i:(match P.underlying t with|some (.struct _)=>ag|some (.slice _)=>!ag|some (.int _)=>!ag|some .bool=>!ag|some .string=>!ag|_=>false)=true)
  (b:Value.okWide P W .any base t v) (h:DataW.Trod D2 P W 0 (λ_=>true) true t v d y):∃x:T.den,JW W (ag,Al T x) v/\N0 T x:=by
 obtain⟨j,s⟩:=h;obtain⟨m,g,p⟩:=jF n t j _ _ r s;obtain⟨x,rfl,w⟩:=fm n t T m q p;refine⟨x, ?_,w⟩;have one:ag=false->v.cells=#[v]->JW W (ag,Al T x) v:=by
  intro e u;subst e;simp only[JW,C6,BC];rw[u]at g;cases hd:Al T x with
  |nil=>rw[hd]at g;exact g.elim
  |cons d m=>
   rw[hd]at g;cases m with
   |nil=>exact⟨d,rfl,g.1⟩
   |cons _ _=>exact g.2.elim
 split at i
 .rename_i fs f;subst i;obtain⟨o,rfl,_⟩:=WideShapes.okWide_struct f b;simp only[JW,BF];exact⟨o.toList,by simp,by simpa[Value.cells] using g⟩
 .rename_i e f;obtain⟨a,l,c,rfl⟩:=WideShapes.okWide_slice f b;exact one (by simpa using i) rfl
 .rename_i k f;obtain⟨a,rfl⟩:=WideShapes.okWide_int f b;exact one (by simpa using i) rfl
 .rename_i f;obtain⟨a,rfl⟩:=WideShapes.okWide_bool f b;exact one (by simpa using i) rfl
 .rename_i f;obtain⟨a,rfl⟩:=WideShapes.okWide_string f b;exact one (by simpa using i) rfl
 simp at i
end Go.Vs
namespace Go.Vs
variable [Glb]
noncomputable section
def Rs{n:Int}(e:-9223372036854775808<=n)(f:n<9223372036854775808):IntKind.i64.wrap n=n:=by
 have a:IntKind.i64.bits=64:=rfl;have b:IntKind.i64.signed=true:=rfl;simp only[IntKind.wrap,a,b,I7,Nat.reduceSub,AA];have c:((2:Int)^64)=18446744073709551616:=by decide
 have d:((2:Int)^63)=9223372036854775808:=by decide
 rw[c,d];by_cases h:0<=n
 .have:n%18446744073709551616=n:=UM h (by omega);rw[this,Ae (by omega)]
 have:n%18446744073709551616=n+18446744073709551616:=by omega
 rw[this,Af (by omega)];omega
def CS{a b:Int}(c:-9223372036854775808<=a+b)(d:a+b<9223372036854775808):Au .i64 a b=a+b:=Rs c d
def E8{a b:Int}(c:-9223372036854775808<=a-b)(d:a-b<9223372036854775808):Br .i64 a b=a-b:=Rs c d
def qk{a b:Int}(c:-9223372036854775808<=a*b)(d:a*b<9223372036854775808):Fu .i64 a b=a*b:=Rs c d
def Qy{i n:Nat}(h:i+n<9223372036854775808):Au .i64 (i:Int) (n:Int)=((i+n:Nat):Int):=by
 rw[CS (by omega) (by omega)];omega
def CX{i:Nat}(h:i<9223372036854775807):Au .i64 (i:Int) 1=((i+1:Nat):Int):=Qy (n:=1) (by omega)
@[simp] def Gv(i:Nat):A9 (i:Int)=i:=by simp[A9]
@[simp] def Q0{α:Type}(a:List α)(i:Nat):idx a (i:Int)=a[i]?:=by simp[idx]
@[simp] def VH{α:Type}(a:List α)(i:Nat):idx a (Int.ofNat i)=a[i]?:=Q0 a i
def BK{α:Type}{a:List α}{i:Nat}(h:i<a.length):idx a (i:Int)=some a[i]:=by rw[Q0,BW h]
@[simp] def Ad{α β:Type}(x:α)(f:α->Option β):Aa (some x) f=f x:=rfl
@[simp] def AY{β:Type}(k:Option β):A3 true k=k:=rfl
@[simp] def Ah{β:Type}(x y:Option β):Ab true x y=x:=rfl
@[simp] def Ag{β:Type}(x y:Option β):Ab false x y=y:=rfl
@[simp] def A4{σ ρ:Type}(s:σ)(f:σ->Option ρ):AC (some (.inl s)) f=f s:=rfl
@[simp] def Lb{σ ρ:Type}(r:ρ)(f:σ->Option ρ):AC (some (.inr r)) f=some r:=rfl
@[simp] def Zkr{σ ρ:Type}(r:ρ):Ks (σ:=σ) (some r)=some (.inr r):=rfl
@[simp] def Zqu{α:Type}(x y:α):cM true x y=x:=rfl
@[simp] def Zqt{α:Type}(x y:α):cM false x y=y:=rfl
@[simp] def LM(a:Int):Ak a a=true:=by simp[Ak]
@[simp] def Jr(a:Int):AI a a=false:=by simp[AI]
@[simp] def uT(a:List UInt8):Dc a a=true:=by simp[Dc]
@[simp] def xc(a:Bool):Zi a a=false:=by simp[Zi]
@[simp] def Bf:Ap true=false:=rfl
@[simp] def B2:Ap false=true:=rfl
@[simp] def Zkf(a:Nat):Hq a a=true:=by simp[Hq]
def Bw{a b:Int}(h:a<b):Bb a b=true:=by simp[Bb,h]
def B1{a b:Int}(h:b<=a):Bb a b=false:=by simp[Bb];omega
def D4{a b:Int}(h:b<a):Cr a b=true:=by simp[Cr,h]
def Ee{a b:Int}(h:a<=b):Cr a b=false:=by simp[Cr];omega
def HC{a b:Int}(h:a<=b):Ck a b=true:=by simp[Ck,h]
def JC{a b:Int}(h:b<a):Ck a b=false:=by simp[Ck];omega
def OJ{a b:Int}(h:b<=a):Dk a b=true:=by simp[Dk,h]
def Nj{a b:Int}(h:a<b):Dk a b=false:=by simp[Dk];omega
def E7{a b:Int}(h:a≠b):Ak a b=false:=by simp[Ak,h]
def Hl{a b:Int}(h:a≠b):AI a b=true:=by simp[AI,h]
def B8{n a:Nat}(h:n*a<=140737488355328):Bk n a=true:=by simp[Bk,h]
def Znt{a b:List UInt8}(h:a.length+b.length<9223372036854775808):small a b=true:=by simp[small,h]
def jQ{n m:Nat}(h:n*m<=140737488355328)(a:n<=9223372036854775807):Q7 (n:Int) m=true:=by
 simp only[Q7,AA];refine⟨by omega, ?_,by omega⟩;have:(n:Int)*(m:Int)=((n*m:Nat):Int):=by simp
 omega
@[simp] def Av{α:Type}(a:List α):Am a=(a.length:Int):=rfl
@[simp] def Zqs{α:Type}(l:List α)(n:Nat)(x:α):(BS l n x).length=l.length:=by simp[BS]
@[simp] def Zqr{α:Type}(l:List α)(n:Nat)(x y:α):BS (BS l n x) n y=BS l n y:=by simp[BS]
def IO{σ ρ:Type}{step:σ->Option (σ ⊕ ρ)}(a:Nat->σ->Prop)(n:Nat)(Q:ρ->Prop)(q:∀i s,i<n->a i s->(∃d,step s=some (.inl d)/\a (i+1) d)\/∃r,step s=some (.inr r)/\Q r)(m:∀s,a n s->∃r,step s=some (.inr r)/\Q r)(f:σ)(g:a 0 f):∃r,Bd step f=some r/\Q r:=by
 have e:∀k i s,n-i=k->i<=n->a i s->∃r,Bd step s=some r/\Q r:=by
  intro k
  induction k with
  |zero=>
   intro i s p o h;have:i=n:=by omega
   subst this;obtain⟨r,b,c⟩:=m s h;exact⟨r,by rw[LU,b],c⟩
  |succ k t=>
   intro i s p o h;rcases q i s (by omega) h with ⟨d,b,c⟩|⟨r,b,c⟩
   .obtain⟨r,j,l⟩:=t (i+1) d (by omega) (by omega) c;exact⟨r,by rw[LU,b];exact j,l⟩
   exact⟨r,by rw[LU,b],c⟩
 exact e n 0 f (by omega) (by omega) g
def HI{σ ρ:Type}{step:σ->Option (σ ⊕ ρ)}(a:Nat->σ)(n:Nat)(r:ρ)(j:∀i,i<n->step (a i)=some (.inl (a (i+1))))(f:step (a n)=some (.inr r))(b:σ)(c:b=a 0):Bd step b=some r:=by
 obtain⟨k,d,e⟩:=IO (step:=step) (λi s=>s=a i) n (λx=>x=r) (λi s g h=>.inl ⟨_,by rw[h];exact j i g,rfl⟩) (λs h=>⟨r,by rw[h];exact f,rfl⟩) b c;rw[d,e]
def IA(o:Option Int)(k:Int)(P:Prop):Prop:=∃z,o=some z/\z<=k/\(0<=z->P)
def IA.done{k:Int}:IA (some k) k True:=⟨k,rfl,RI _,λ_=>trivial⟩
def IA.mono{o:Option Int}{k d:Int}{P Q:Prop}(h:IA o k P)(f:k<=d)(e:P->Q):IA o d Q:=by
 obtain⟨z,a,b,c⟩:=h;exact⟨z,a,by omega,λh=>e (c h)⟩
def IA.sub{α:Type}{l:List α}{k:Int}{d:Option Int}{P:Prop}(g:0<=k)(i:k<=4611686018427387904)(j:l.length<=9223372036854775807)(h:(l.length:Int)<=k->IA d (k-l.length) P):IA (Ab (Bb (Br .i64 k (Am l)) 0) (some (-1)) d) k ((l.length:Int)<=k/\P):=by
 have e:Br .i64 k (Am l)=k-l.length:=E8 (by simp only[Av];omega) (by simp only[Av];omega);rw[e];by_cases f:(l.length:Int)<=k
 .rw[B1 (by omega)];obtain⟨z,a,b,c⟩:=h f;exact⟨z,a,by omega,λh=>⟨f,c h⟩⟩
 rw[Bw (by omega)];exact⟨-1,rfl,by omega,λh=>by omega⟩
def IA.seq{o:Option Int}{k:Int}{P Q:Prop}{f:Int->Option Int}(j:0<=k)(h:IA o k P)(i:∀z,0<=z->z<=k->IA (f z) z Q):IA (Aa o λz=>Ab (Bb z 0) (some (-1)) (f z)) k (P/\Q):=by
 obtain⟨z,rfl,b,c⟩:=h;simp only[Ad];by_cases a:0<=z
 .rw[B1 a];obtain⟨y,d,e,g⟩:=i z a b;exact⟨y,d,by omega,λh=>⟨c a,g h⟩⟩
 rw[Bw (by omega)];exact⟨-1,rfl,by omega,λh=>by omega⟩
def IA.one{o:Option Int}{k:Int}{P:Prop}(d:0<=k)(h:IA o k P):IA (Aa o λz=>Ab (Bb z 0) (some (-1)) (some z)) k P:=by
 obtain⟨z,rfl,b,c⟩:=h;simp only[Ad];by_cases a:0<=z
 .rw[B1 a];exact⟨z,rfl,b,c⟩
 rw[Bw (by omega)];exact⟨-1,rfl,by omega,λh=>by omega⟩
end
end Go.Vs
namespace Go.Vs
variable [Glb]
section
variable {w0:World} {own0:Nat->Nat->Prop} {pl0:Aw} {g:Bp} {pl:Aw} {roots:List (Nat×Root)} {nx nc fix:Nat} {w:World}
def VW(g:Bp):Nat->Nat->Prop:=λb o=>∃x,g b o=some x
def Er.into{k e:Nat->Nat->Prop}{r:Nat}{x:Root}(i:∀b o,k b o->e b o)(h:Er k w g pl nc r x):Er e w g pl nc r x:=by
 cases x with
 |tr t m=>exact h
 |im t m=>exact λp n f=>⟨(h p n f).1,λj q=>i _ _ ((h p n f).2 j q)⟩
 |bx l=>exact h
 |ib l=>intro c x s;obtain⟨v,a,b,d⟩:=h c x s;exact⟨v,a,b,i _ _ d⟩
def Hp.into(h:Hp w0 own0 pl0 g pl roots nx nc fix w):Hp w (VW g) pl g pl roots nx nc fix w:=by
 refine⟨Fr.refl w (VW g) λb o v d=>?_,λb o x a=>⟨(h.lab b o x a).1,.inr ⟨x,a⟩,(h.lab b o x a).2.2⟩,λ_ _ _=>rfl,h.fixle,h.ncle,λr x a=>⟨(h.roots r x a).1,(h.roots r x a).2.into λb o c=>?_⟩⟩
 .obtain⟨e,f,i⟩:=h.fr.gl b o v d;refine⟨CO e h.fr.size, ?_,h.fr.glb d⟩;rintro ⟨x,a⟩;rcases (h.lab b o x a).2.1 with k|k
  .omega
  exact f k
 refine⟨CO c.1 h.fr.size, ?_⟩;rintro ⟨x,a⟩;rcases (h.lab b o x a).2.1 with k|k
 .have:=c.1;omega
 exact c.2 k
def xT(roots:List (Nat×Root)):Prop:=∀r x,get roots r=some x->(∃c b,x=.tr c b)\/∃a,x=.bx a
def Hp.back{t:Bp}{s:Aw}{d:List (Nat×Root)}{n m:Nat}{v:World}(h:Hp w0 own0 pl0 g pl roots nx nc fix w)(k:Hp w (VW g) pl t s d n m fix v)(f:xT d):Hp w0 own0 pl0 t s d n m fix v:=by
 have own:∀b o,VW g b o->w0.heap.size<=b\/own0 b o:=λb o ⟨x,i⟩=>(h.lab b o x i).2.1;refine⟨⟨k.fr.os.trans h.fr.os,k.fr.tape.trans h.fr.tape,k.fr.output.trans h.fr.output,CW h.fr.size k.fr.size, ?_, ?_,h.fr.gl⟩, ?_,λr p u=>by rw[k.fixed r p u,h.fixed r p u],k.fixle,k.ncle, ?_⟩
 .intro b j l;have e:=CO j h.fr.size;rw[k.fr.block b e λo q=>?_,h.fr.block b j l];rcases own b o q with q|q
  .omega
  exact l o q
 .intro b o j l;have e:=CO j h.fr.size;have f:¬VW g b o:=λq=>by
   rcases own b o q with q|q
   .omega
   exact l q
  obtain⟨z,A⟩:=k.fr.cell b o e f;obtain⟨B,C⟩:=h.fr.cell b o j l;exact⟨z.trans B,A.trans C⟩
 .intro b o x i;obtain⟨a,y,c⟩:=k.lab b o x i;refine⟨a, ?_,c⟩;rcases y with q|q
  .exact .inl (CW h.fr.size q)
  exact own b o q
 intro r x i;obtain⟨a,b⟩:=k.roots r x i;refine⟨a, ?_⟩;rcases f r x i with ⟨F,E,rfl⟩|⟨D,rfl⟩
 .exact b
 exact b
end
end Go.Vs
namespace Go.Vs
variable [Glb]
end Go.Vs
namespace Go.Vs
variable [Glb]
section
variable {P:Program} {N:Nat} {Φ:List (Fx P)} {H:List (Nat×Hn)}
end
def y5(s:ByteArray)(p:Nat)(h:p<s.size):1<=(Utf8.decode s p).2:=by
 by_cases a:(s[p]'h).toNat<128
 .rw[decode_ascii s p h a];exact AE _
 exact (decode_high s p h (by omega)).2
def bn:Nat->ByteArray->Nat->List Int
 |0,_,_=>[]
 |n+1,s,p=>if p<s.size then Az .i64 ((Utf8.decode s p).1:Int)::bn n s (p+(Utf8.decode s p).2) else []
def UP(s:ByteArray)(p:Nat)(a:List Int):Prop:=(∀n,bn (n+a.length) s 0=a++bn n s p)/\a.length<=p/\a.length<=s.size
def UP.start(s:ByteArray):UP s 0 []:=⟨λn=>rfl,AE _,Cq _⟩
def UP.step{s:ByteArray}{p:Nat}{a:List Int}(h:UP s p a)(b:p<s.size):UP s (p+(Utf8.decode s p).2) (a++[Az .i64 ((Utf8.decode s p).1:Int)]):=by
 obtain⟨c,d,e⟩:=h;have f:=y5 s p b;refine⟨λn=>?_, ?_, ?_⟩
 .rw[Cb,Aq,Ay,show n+(a.length+(0+1))=(n+1)+a.length by omega,c,EG];simp only[bn,Af b,A1,A0]
 .rw[Cb,Aq,Ay];omega
 rw[Cb,Aq,Ay];omega
section
variable {P:Program} {N:Nat} {Φ:List (Fx P)} {H:List (Nat×Hn)}
end
end Go.Vs
namespace Go.Vs
variable [Glb]
def Gc.uniq{L:Pl}{a n:Nat}{u v:Value}(d:Gc L a 0 n u)(e:Gc L a 0 n v):u=v:=by
 obtain⟨_,_,_,A,rfl,b⟩:=d;obtain⟨_,_,_,B,rfl,c⟩:=e;rw[b (.inr rfl),c (.inr rfl)]
def Zj7{P:Program}{f:FuncId}{fn:Func}{c:Code}{T:List I}{sz:Nat}{es:List (List D)}{tl:List Value}(hf:P.funcs[f]?= some fn)(hb:fn.body=some c)(hi:IZ P fn.results.toList=some T)(hn:1<=fn.ntmps)
  (h:Vw P fn.ntmps c ⟨[(0,.a (.c (.rf 0 [] sz 0 es.length)))],[(0,.im sz es)],1,1⟩ λe n=>match e with
   |.ret|.normal=>Fa n T λL=>∃r,L=[.c (.pb r 0)]/\r+1=n.next/\get n.roots r=some (.bx (.rf 0 [] sz 0 es.length::tl.map .lf))
   |_=>False):Y2 P f (.sl sz es) tl:=by
 intro W v H hv;obtain⟨d,hd,hl⟩:=hv;simp only[List.cons.injEq,PK]at hd;subst hd;obtain⟨pl,Z,c2,_⟩:=VY (W:=W) (N:=1) (g:=λ_ _=>none) [.sl sz es] [v] (0,0) ⟨hl,trivial⟩ (by simp[Bh,BY]);have F:CR pl 1 (.rf 0 [] sz 0 es.length) v:=Z.1;have hp:Hp W (λ_ _=>False) pl (λ_ _=>none) pl [(0,.im sz es)] 1 1 1 W:=by
  refine⟨Fr.refl _ _ (λb o v h=>⟨(H b o v h).1,λk=>k,(H b o v h).2⟩),(λb o x i=>by cases i),(λ_ _ _=>rfl),AE _,AE _, ?_⟩;intro r x i;have:=c2 _ (LX (l:=[(0,Root.im sz es)]) i);exact⟨this.2.1,this.2.2⟩
 refine calls_of_wp hf hb ?_;refine wp_mono (h W _ pl _ pl _ W ⟨hp, ?_,rfl, ?_⟩) ?_
 .simp;omega
 .intro t x i;simp only[get]at i;split at i
  .rename_i e;simp only[Ac]at i;subst i e;have:(#[v]++Array.replicate (fn.ntmps-#[v].size) undef).getD 0 undef=v:=by
    rw[Fg,Oh (by simp)];rfl
   rw[this];exact F
  simp at i
 rintro e U K ⟨n,g',s,q,O,A⟩;have C:Fa n T (λL=>∃r,L=[.c (.pb r 0)]/\r+1=n.next/\get n.roots r=some (.bx (.rf 0 [] sz 0 es.length::tl.map .lf)))->U.defers=[]/\∃J,(results fn U.tmps).run P K=.ok J K/\∃g2 m w,Hp W (λ_ _=>False) m g2 m [(w,.bx (.un::tl.map .lf))] (w+1) w 0 K/\Ending.returned J=.returned (.pointer (some ⟨(m w []).b,(m w []).off,none⟩))/\K.cell? ⟨(m w []).b,(m w []).off,none⟩=some v:=by
  intro hk;obtain⟨us,L,h1,M,r,rfl,Q,R⟩:=W1 A _ _ _ hi hk
  match us,M with
  |[u],M=>
  obtain⟨_,hu⟩:CR s n.next (.pb r 0) u:=M.1;obtain⟨_,E⟩:=A.hp.roots r _ R;obtain⟨J,V,X,k3,k4⟩:=E 0 _ rfl;have S:J=v:=by
   obtain⟨_,Y⟩:=X;have G:s 0 []=pl 0 []:=A.hp.fixed 0 [] (by rw[O];exact DG _);rw[G]at Y;exact Y.uniq F.2
  refine⟨A.defers,u, ?_,g',s,r,⟨A.hp.fr, ?_,(λr p h=>H4 h (U9 _)),Cq _,HR _, ?_⟩, ?_, ?_⟩
  .rw[kA];rw[df];simp[h1]
  .intro b o x i;have:=A.hp.lab b o x i;rw[<-Q]at this;exact this
  .intro r' x i;simp only[get]at i;split at i
   .rename_i e;simp only[Ac]at i;subst i e;refine⟨DG _, ?_⟩;intro j y B;cases j with
    |zero=>
     simp only[AD,Ac]at B;subst B;exact⟨J,V,CR.one X,k3,k4⟩
    |succ j=>
     simp only[AN]at B;obtain⟨v2,m1,m2,m3,m4⟩:=E (j+1) y (by simpa using B);refine⟨v2,m1, ?_,m3,m4⟩;simp only[CQ,BP]at B;obtain⟨z,_,rfl⟩:=B;exact m2
   simp at i
  .rw[hu];simp
  rw[<-S];simpa using V
 cases e with
 |normal=>exact C q
 |ret=>exact C q
 |exit id=>exact q.elim
 |goto l=>exact q.elim
 |panic ch=>exact q.elim
 |outgrown=>exact q.elim
end Go.Vs
namespace Go.Vs
variable [Glb]
def Sn:List GArg:=[⟨false,false,.L .Y,[.rx],none⟩]
def fE(R:AK)(r:Nat):Option Int:=match lk R r with
 |some (_,.bx [(_,c),(_,a),(_,b)])=>match c,a,b with
  |.rw 0,.i .i64 (Int.ofNat 0),.i .i64 z=>match lk R 0 with
   |some (0,.im _ _)=>some z
   |_=>none
  |_,_,_=>none
 |_=>none
def ak(X:XSt)(a:List I):Option Int:=
 Sy X a λb=>match b with
  |[.c (.pb r 0)]=>match Nat.beq (r+1) X.next with
   |true=>fE X.roots r
   |false=>none
  |_=>none
noncomputable def qP{P:Program}(Φ:List (Fx P))(H:List (Nat×Hn))(s:Stm)(c:An)(b:List I)(x:List UInt8):Option Int:=
 DY Φ H s c (CK Sn x) λe a=>match e with
  |.ret=>ak a b
  |.normal=>ak a b
  |_=>none
section
variable {P:Program} {f:FuncId} {fn:Func} {Φ:List (Fx P)} {H:List (Nat×Hn)} {an:An}
def xu{R:AK}{r:Nat}{z:Int}(h:fE R r=some z):∃s d e g t j,lk R r=some (s,.bx [(d,.rw 0),(e,.i .i64 0),(g,.i .i64 z)])/\lk R 0=some (0,.im t j):=by
 unfold fE at h;split at h
 .rename_i s d c e a g b l;split at h
  .split at h
   .rename_i t j k;simp only[Ac]at h;subst h;exact⟨_,_,_,_,_,_,l,k⟩
   cases h
  cases h
 cases h
def re{x:List UInt8}{X:XSt}{S:St}{n:List I}{z:Int}(E:XOk X)(D:Ext (CK Sn x) X)(j:SimX X S)(h:ak X n=some z):
  Fa S n λo=>∃r,o=[.c (.pb r 0)]/\r+1=S.next/\get S.roots r=some (.bx (.rf 0 [] 1 0 (x.map (Al .Y)).length::[Value.int .i64 0,Value.int .i64 z].map .lf)):=by
 unfold ak at h;obtain⟨o,M,h,i,N,C⟩:=aA E j n _ h;refine C _ ?_;split at h
 case h_2=>cases h
 rename_i r;split at h
 case h_2=>cases h
 rename_i F;obtain⟨s,O,Q,R,t,o,u,q⟩:=xu h;have b:=D.roots 0 0 _ q (by show 0<1;omega);have g:lk (CK Sn x).roots 0=some (0,.im .Y x):=rfl;rw[g]at b;simp only[Ac,A5,H3]at b
 match M,i with
 |[y],i=>
 have G:y=.c (.pb r 0):=by
  have m:cC X.roots (.pb r 0)=.pb r 0:=by simp only[cC,u]
  have:=i.1;cases y with
  |c y=>
   have this:Ba y (cC X.roots (.pb r 0)):=this;rw[m]at this;rcases this with k|k
   .rw[<-k]
   cases k
  |ag _=>exact this.elim
 subst G;refine⟨r,rfl, ?_, ?_⟩
 .rw[j.next];exact B6 F
 obtain⟨L,e,a⟩:=j.roots r s _ u _ rfl;rw[e];cases L with
 |bx A=>
  have l:cC X.roots (.rw 0)=.rf 0 [] 1 0 x.length:=by simp only[cC,q,<-b];rfl
  match A,a with
  |[p,v,w],a=>
   obtain⟨d,J,K,_⟩:=a;have d:Ba p (cC X.roots (.rw 0)):=d;rw[l]at d;have e:p=.rf 0 [] 1 0 x.length:=by rcases d with k|k;exact k.symm;cases k
   have a:v=.lf (.int .i64 0):=by rcases J with k|k;exact k.symm;cases k
   have B:w=.lf (.int .i64 z):=by rcases K with k|k;exact k.symm;cases k
   rw[e,a,B,B3];rfl
 |tr _ _=>exact a.elim
 |im _ _=>exact a.elim
 |ib _=>exact a.elim
def Zj6(l:P.follows .mixedOrders=true){F:List UInt8->Option Int}(q:P.funcs[f]?= some fn)(r:Mf P fn 1 (GA Sn)=true)(h:∀x,qP Φ H (K0 P fn) an (LN P fn) x=F x)(x:List UInt8)(z:Int)(u:F x=some z):Y2 P f (.sl 1 (x.map (Al .Y))) [.int .i64 0,.int .i64 z]:=by
 obtain⟨a,b,c,d⟩:=bK l r;obtain⟨m,p,s⟩:=PZ a;obtain⟨n,o⟩:=iX Sn x d;have t:=(h x).trans u;refine Zj7 (sz:=1) (es:=x.map (Al .Y)) (tl:=[.int .i64 0,.int .i64 z]) q p b (AS c) ?_;refine JM l (K0 P fn) an n o t ?_ m s;intro e w v i j k g;cases e with
 |ret=>exact re i j k g
 |normal=>exact re i j k g
 |_=>simp at g
end
end Go.Vs
namespace Go.Vs
variable [Glb]
def nJ{pl:Aw}{c:Nat}:∀{b:List A}{d:List Value},Ai (VR pl c) (b.map V.a) d->Ai (AR pl c) b d
 |[],[],_=>trivial
 |_::_,_::_,h=>⟨h.1,nJ h.2⟩
 |[],_::_,h=>h.elim
 |_::_,[],h=>h.elim
def ab:∀(a:List Arg) (c:List C) (b:Nat),(EJ a c b).length=a.length
 |[],_,_=>rfl
 |.val ag l::a,c,b=>by cases ag<;>simp[EJ,ab a]
 |.ptr l::a,c,b=>by simp[EJ,ab a]
def Zlz{P:Program}{f g:FuncId}{n:Nat}{fn:Func}{c:Code}{d:List Arg}{k:Out}{N:List I}{o:List A}(X:P.funcs[f]?= some fn)(W:fn.body=some c)(Y:IZ P fn.results.toList=some N)(hn:n+1<=fn.ntmps)(a0:n<=d.length)(D:(BX d).1.drop n=o.map V.a)
  (h:Vw P fn.ntmps c ⟨Ib 0 ((BX d).1.take n)++[(n,.fn g o)],(BX d).2.1,(BX d).2.2,C3 d⟩ λe r=>match e with
   |.ret|.normal=>Fa r N λz=>HS d k r.roots (Ey z)
   |_=>False):UQ (λws w R=>Calls P f (Ja n g ws).toArray w R) d k:=by
 intro w own U pl p hp L;have a1:p.length=d.length:=by rw[<-L.length];exact ab _ _ _
 have M:(Ja n g p).length=n+1:=by simp[Ja];omega
 refine calls_of_wp X W ?_;refine wp_mono (h w own pl U pl _ w ⟨hp, ?_,rfl, ?_⟩) ?_
 .simp[M];omega
 .intro t x j;have O:∃v,(Ja n g p)[t]?= some v/\VR pl (BX d).2.2 x v:=by
   rw[Ft]at j;split at j
   .rename_i y hy;simp only[Ac]at j;subst j;obtain⟨_,G⟩:=Vy hy;rw[M8]at G;obtain⟨v,b,C⟩:=(Ai.take n L).get t y G;refine⟨v, ?_,C⟩;unfold Ja;rw[E3 (CY.1 b).1];exact b
   simp only[get]at j;split at j
   .rename_i e;simp only[Ac]at j;subst j e;refine⟨_, ?_,(p.drop n),rfl,nJ (by rw[<-D];exact Ai.drop n L)⟩;unfold Ja;rw[Dh (by simp;omega)];simp only[EF];rw[show n-min n p.length=0 by omega];rfl
   cases j
  obtain⟨v,b,C⟩:=O;have ht:t<(Ja n g p).length:=(CY.1 b).1;have:((Ja n g p).toArray++Array.replicate (fn.ntmps-(Ja n g p).toArray.size) undef).getD t undef=v:=by
   rw[Fg,Oh (by simpa using ht)];simp[b]
  rw[this];exact C
 rintro e T S ⟨r,H,m,q,K,J⟩;have B:Fa r N (λz=>HS d k r.roots (Ey z))->T.defers=[]/\∃v,(results fn T.tmps).run P S=.ok v S/\∃rv H m i Q F,Ending.returned v=.returned rv/\Hp w own pl H m i Q Q (C3 d) S/\VR m Q F rv/\HS d k i F:=by
  intro Z;obtain⟨s,z,G,b,C⟩:=W1 J _ _ _ Y Z;have E:=J.hp;rw[K]at E;refine⟨J.defers,if h:s.toArray.size=1 then s.toArray[0] else .tuple s.toArray, ?_,_,H,m,r.roots,r.next,Ey z,rfl,E, ?_,C⟩
  .rw[kA];rw[df];simp[G]
  match z,s,b with
  |[],[],_=>exact⟨[],rfl,trivial⟩
  |[x],[u],b=>exact b.1
  |x::y::l,u::u'::s,b=>exact⟨u::u'::s,by simp,b⟩
  |[_],_::_::_,b=>exact b.2.elim
  |_::_::_,[_],b=>exact b.2.elim
 cases e with
 |normal=>exact B q
 |ret=>exact B q
 |exit id=>exact q.elim
 |goto l=>exact q.elim
 |panic ch=>exact q.elim
 |outgrown=>exact q.elim
end Go.Vs
namespace Go.Vs
variable [Glb]
def Qw(g:FuncId):Nat->Nat->List XA->List (Nat×Nat×XV)
 |0,i,l=>[(i,0,.fn g l)]
 |n+1,i,a::l=>(i,0,.a a)::Qw g n (i+1) l
 |_+1,_,[]=>[]
def SG(n:Nat)(g:FuncId)(a:List GArg)(x:Tp (DH a)):XSt:=
 ⟨Qw g n 0 (HE a (BZ (Bt a x) 0 (BB (Bt a x)+Da a)).1 (BB (Bt a x))),(BZ (Bt a x) 0 (BB (Bt a x)+Da a)).2.1++FT a (BZ (Bt a x) 0 (BB (Bt a x)+Da a)).1 (BB (Bt a x)),(BZ (Bt a x) 0 (BB (Bt a x)+Da a)).2.2,1,BB (Bt a x)+Da a⟩
noncomputable def qQ{P:Program}(Φ:List (Fx P))(H:List (Nat×Hn))(s:Stm)(f:An)(d:List I)(n:Nat)(g:FuncId)(a:List GArg)(b:List (Bool×Ty))(x:Tp (DH a)):Option (Tp (GB a b)):=
 DY Φ H s f (SG n g a x) λe c=>match e with
  |.ret=>SN a b x c d
  |.normal=>SN a b x c d
  |_=>none
def pi{s:Nat}:∀(l:List XA) (k i:Nat) (a:XA),l[i]?= some a->lk (LD s k l) (k+i)=some (s,.a a)
 |[],k,i,a,h=>by simp at h
 |b::l,k,0,a,h=>by
  simp only[AD,Ac]at h;subst h;simp only[LD];rw[BO,Af (by simp only;omega)]
 |b::l,k,i+1,a,h=>by
  have:=pi (s:=s) l (k+1) i a (by simpa using h);simp only[LD];rw[BO,Ae (by simp only;omega)]
  rwa[show k+(i+1)=k+1+i by omega]
def hZ{g:FuncId}:∀(n i:Nat) (l:List XA){t c:Nat}{v:XV},lk (Qw g n i l) t=some (c,v)->c=0/\((t=i+n/\n<=l.length/\v=.fn g (l.drop n))\/(i<=t/\t<i+n/\∃a,v=.a a/\l[t-i]?= some a))
 |0,i,l,t,c,v,h=>by
  simp only[Qw]at h;rw[BO]at h;split at h
  .rename_i e;simp only[Ac,A5]at h;exact⟨h.1.symm,.inl ⟨by simp only at e;omega,Cq _,by rw[<-h.2];rfl⟩⟩
  simp[lk]at h
 |n+1,i,[],t,c,v,h=>by simp[Qw,lk]at h
 |n+1,i,a::l,t,c,v,h=>by
  simp only[Qw]at h;rw[BO]at h;split at h
  .rename_i e;simp only at e;subst e;simp only[Ac,A5]at h;exact⟨h.1.symm,.inr ⟨AE _,by omega,a,h.2.symm,by simp⟩⟩
  rename_i e;simp only at e;obtain⟨j,d⟩:=hZ n (i+1) l h;refine⟨j, ?_⟩;rcases d with ⟨d,k,f⟩|⟨d,k,b,f,m⟩
  .exact .inl ⟨by omega,by simp;omega,by simpa using f⟩
  refine .inr ⟨by omega,by omega,b,f, ?_⟩;rw[show t-i=(t-(i+1))+1 by omega,AN];exact m
def qz:∀(c:List GArg) (d:List XC) (b:Nat),(HE c d b).length=c.length
 |[],_,_=>rfl
 |a::c,d,b=>by
  simp only[HE];cases a.ptr<;>simp only[Aq,qz c]
def nw{R:AK}:∀(d:List V) (L:List XA),d.length=L.length->(∀(i:Nat) (a:XA),L[i]?= some a->∃z,d[i]?= some (V.a z)/\EH z (cA R a))->∃c,d=c.map V.a/\Ai EH c (L.map (cA R))
 |[],[],_,_=>⟨[],rfl,trivial⟩
 |[],_::_,h,_=>by simp at h
 |_::_,[],h,_=>by simp at h
 |v::d,a::L,h,f=>by
  obtain⟨c,g,j⟩:=nw d L (by simpa using h) λi b l=>by simpa using f (i+1) b (by simpa using l)
  obtain⟨z,e,k⟩:=f 0 a rfl;simp only[AD,Ac]at e;exact⟨z::c,by rw[e,g];rfl,k,j⟩
def ep:∀(b:List GArg) (x:Tp (DH b)),(Bq b x).length=b.length
 |[],_=>rfl
 |a::b,x=>by simp only[Bq,Aq,ep b]
def Zix(n:Nat)(g:FuncId)(b:List GArg)(x:Tp (DH b))(F:GA b=true)(K:n<=b.length):∃c,(BX (Bq b x)).1.drop n=c.map V.a/\XOk (SG n g b x)/\SimX (SG n g b x) ⟨Ib 0 ((BX (Bq b x)).1.take n)++[(n,.fn g c)],(BX (Bq b x)).2.1,(BX (Bq b x)).2.2,C3 (Bq b x)⟩:=by
 obtain⟨k,l⟩:=iX b x F;generalize p:HE b (BZ (Bt b x) 0 (BB (Bt b x)+Da b)).1 (BB (Bt b x))=L;have q:L.length=b.length:=by rw[<-p];exact qz _ _ _
 have w:(BX (Bq b x)).1.length=b.length:=by rw[<-ep b x];exact ab _ _ _
 have j:(CK b x).env=LD 0 0 L:=by rw[<-p];rfl
 have d:∀(i:Nat) (a:XA),L[i]?= some a->(∃z,(BX (Bq b x)).1[i]?= some (V.a z)/\EH z (cA (CK b x).roots a))/\Gw (CK b x).roots (CK b x).next (CK b x).stamp a:=by
  intro i a f;have e:lk (CK b x).env i=some (0,.a a):=by
   rw[j];have:=pi (s:=0) L 0 i a f
   rwa[A7]at this
  refine⟨?_,(k.env i 0 _ e).2⟩;rcases l.env i 0 _ e with h|⟨y,H,B⟩
  .cases h
  obtain⟨_,m⟩:=Vy H;rw[M8]at m;cases y with
  |a z=>exact⟨z,m,B⟩
  |_=>exact B.elim
 obtain⟨c,r,u⟩:=nw (R:=(CK b x).roots) ((BX (Bq b x)).1.drop n) (L.drop n) (by simp[q,w]) λi a f=>by
  rw[F2]at f ⊢;exact (d _ a f).1
 have A:(SG n g b x).env=Qw g n 0 L:=by rw[<-p];rfl
 refine⟨c,r,⟨k.ids, ?_,k.box,k.fixle⟩,⟨l.next,l.fix, ?_,l.roots⟩⟩
 .intro t I v e;rw[A]at e;obtain⟨rfl,h|⟨_,_,a,rfl,o⟩⟩:=hZ n 0 L e
  .obtain⟨_,_,rfl⟩:=h;refine⟨Nat.one_pos,λa E=>?_⟩;obtain⟨i,f⟩:=Kd (Gm E);exact (d i a f).2
  exact⟨Nat.one_pos,(d _ a o).2⟩
 intro t I v e;rw[A]at e;right;obtain⟨rfl,h|⟨_,J,a,rfl,o⟩⟩:=hZ n 0 L e
 .obtain⟨rfl,_,rfl⟩:=h;refine⟨.fn g c, ?_,rfl,u⟩;rw[Ft];cases G:get (Ib 0 ((BX (Bq b x)).1.take n)) (0+n) with
  |some y=>
   exfalso;obtain⟨_,m⟩:=Vy G;have:=(CY.1 m).1;simp at this;omega
  |none=>simp only[get];rw[Af (by omega)]
 obtain⟨⟨z,C,D⟩,_⟩:=d _ a o;refine⟨.a z, ?_,D⟩;rw[Ft,ZU (Cq _) (by rw[EM,Af (by omega)];exact C)]
def Zl1{P:Program}{f g:FuncId}{n:Nat}{fn:Func}{Φ:List (Fx P)}{H:List (Nat×Hn)}{l:An}(r:P.follows .mixedOrders=true){i:List GArg}{j:List (Bool×Ty)}{F:Tp (DH i)->Option (Tp (GB i j))}(u:P.funcs[f]?= some fn)(v:Mf P fn (n+1) (GA i&&Nat.ble n i.length)=true)(h:∀x,qQ Φ H (K0 P fn) l (LN P fn) n g i j x=F x)(x:Tp (DH i))(y:Tp (GB i j))(A:F x=some y):
  UQ (λG w R=>Calls P f (Ja n g G).toArray w R) (Bq i x) (Lj i j (EV _ y)):=by
 obtain⟨a,b,c,d⟩:=bK r v;simp only[A6]at d;obtain⟨s,t,z⟩:=PZ a;obtain⟨m,B,C,D⟩:=Zix n g i x d.1 (AS d.2);refine Zlz u t b (AS c) (by rw[ep];exact AS d.2) B ?_;refine JM r (K0 P fn) l C D ((h x).trans A) ?_ s z;intro e J I o p q k;cases e with
 |ret=>exact am (E:=(SG n g i x).env) d.1 o p q k
 |normal=>exact am (E:=(SG n g i x).env) d.1 o p q k
 |_=>simp at k
end Go.Vs
namespace Go.Vs
variable [Glb]
def Zhj{a:Nat}{b:List (List D)}{p:Ao}{i c:Nat}{m:Nat×List (List D)}{e:List D}(g:AH a b p=some m)(f:m.2[i]?= some e)(d:c<e.length):Nf a b p i c=true:=by
 simp[Nf,g,f,d]
def kQ(l:List (List UInt8))(i:Nat)(c:List UInt8)(h:i<l.length):DQ (sD l) [] i 0 (.sl 1 (bD c))=sD (l.set i c):=by
 simp only[DQ,EL,Gk,QP h,RR];simp[sD,RP]
def Tg(i c:Nat):([(i,c)] <+: ([]:Ao))=False:=by simp
def CH(a:List (List UInt8))(c:List Wr)(d:Int):Bool:=decide ((1<=a.length/\a.length<=64)/\c.length<=40/\(-1<=d/\d<=1000)/\(∀b∈a,b.length<=120)/\∀w∈c,0<=w.1/\w.1<=(a.length:Int)-1/\w.2.length<=120)
end Go.Vs
namespace Go.Vs
variable [Glb]
def Iv(l:List Wr)(n:Int)(b:List UInt8):List UInt8:=l.foldl (λb w=>if w.1=n then w.2 else b) b
def tF{l:List Wr}{n:Int}{b:List UInt8}{i:Nat}(h:i<l.length)(a:l[i].1=n):Iv (l.take (i+1)) n b=l[i].2:=by
 rw[I8 h];simp only[Iv,RO,Oe,Yt,a,BF]
def tG{l:List Wr}{n:Int}{b:List UInt8}{i:Nat}(h:i<l.length)(a:¬l[i].1=n):Iv (l.take (i+1)) n b=Iv (l.take i) n b:=by
 rw[I8 h];simp only[Iv,RO,Oe,Yt,a,BC]
def Zlg(l:List Wr)(n:Int)(b:List UInt8):Iv l n b=b\/∃w∈l,Iv l n b=w.2:=by
 induction l generalizing b with
 |nil=>exact .inl rfl
 |cons w l c=>
  have e:Iv (w::l) n b=Iv l n (if w.1=n then w.2 else b):=rfl;rw[e];rcases c (if w.1=n then w.2 else b) with h|⟨x,a,h⟩
  .rw[h];split
   .exact .inr ⟨w,B5,rfl⟩
   exact .inl rfl
  exact .inr ⟨x,Bx _ a,h⟩
def Pb(b:List (List UInt8))(a:List Wr)(c n:Int):List UInt8:=if CH b a c=true/\0<=n/\n<=(b.length:Int)-1 then Iv a n (b.getD n.toNat []) else []
def tH{b:List (List UInt8)}{a:List Wr}{c:Int}{k:Nat}(h:CH b a c=true)(d:k<b.length):Pb b a c k=Iv a k b[k]:=by
 rw[Pb,Af ⟨h,by omega,by omega⟩,Gn];simp[dz,d]
def ba{b:List (List UInt8)}{a:List Wr}{c n:Int}(h:¬(CH b a c=true/\0<=n/\n<=(b.length:Int)-1)):Pb b a c n=[]:=Ae h
def Zlh{a:List (List UInt8)}{c:List Wr}{d n:Int}{m:Nat}(i:∀b∈a,b.length<=m)(g:∀w∈c,w.2.length<=m):(Pb a c d n).length<=m:=by
 unfold Pb;split
 .rename_i h;rcases Zlg c n (a.getD n.toNat []) with e|⟨w,j,e⟩
  .rw[e];have f:n.toNat<a.length:=by omega
   have:a.getD n.toNat []=a[n.toNat]:=by simp[dz,f]
   rw[this];exact i _ (EN f)
  rw[e];exact g w j
 simp
end Go.Vs
namespace Go.Vs
variable [Glb]
def Gx(a:Int):Int:=if a=0 then -1 else if 0<a then a-1 else a
def N1(b:Int)(a:Bool):Bool:=if b=0 then true else a
def Kr(a:Int):Bool:=!(a==0)
def bN{a:Int}{down:Bool}(h:a=0):Gx a=-1/\N1 a down=true/\Kr a=false:=by
 subst h;exact⟨rfl,rfl,rfl⟩
def bM{a:Int}{down:Bool}(h:¬a=0):N1 a down=down/\Kr a=true:=by
 refine⟨Ae h, ?_⟩;simp[Kr,h]
def Ff(e:List (List UInt8))(a:List Wr)(d:Int)(c:Bool)(n:Int)(b:List UInt8):List Wr×Int×Bool:=
 if c=true\/¬(0<=n/\n<=(e.length:Int)-1)\/120<b.length\/40<=a.length then (a,d,c) else if d=0 then (a,-1,true) else (a++[(n,b)],Gx d,c)
def Pv{e:List (List UInt8)}{a:List Wr}{d:Int}{c:Bool}{n:Int}{b:List UInt8}(h:c=true\/¬(0<=n/\n<=(e.length:Int)-1)\/120<b.length\/40<=a.length):Ff e a d c n b=(a,d,c):=Af h
def wy{e:List (List UInt8)}{a:List Wr}{d:Int}{c:Bool}{n:Int}{b:List UInt8}(h:¬(c=true\/¬(0<=n/\n<=(e.length:Int)-1)\/120<b.length\/40<=a.length))(f:d=0):Ff e a d c n b=(a,-1,true):=by
 rw[Ff,Ae h,Af f]
def mC{e:List (List UInt8)}{a:List Wr}{d:Int}{c:Bool}{n:Int}{b:List UInt8}(h:¬(c=true\/¬(0<=n/\n<=(e.length:Int)-1)\/120<b.length\/40<=a.length))(f:¬d=0):Ff e a d c n b=(a++[(n,b)],Gx d,c):=by
 rw[Ff,Ae h,Ae f]
def dJ(e:List (List UInt8))(a:List Wr)(c:Int)(d:Bool)(n:Int)(b:List UInt8):List Wr×Int×Bool:=if CH e a c=true then Ff e a c d n b else (a,c,d)
def wz{d:List (List UInt8)}{a:List Wr}{c:Int}{e:Bool}{n:Int}{b:List UInt8}(h:CH d a c=true):dJ d a c e n b=Ff d a c e n b:=Af h
def Zp5{e:List (List UInt8)}{a:List Wr}{c:Int}{d:Bool}{n:Int}{b:List UInt8}(h:CH e a c=false):dJ e a c d n b=(a,c,d):=by rw[dJ,h];rfl
def Hk{a:List (List UInt8)}{c:List Wr}{d:Int}(h:CH a c d=true):(1<=a.length/\a.length<=64)/\c.length<=40/\(-1<=d/\d<=1000)/\(∀b∈a,b.length<=120)/\∀w∈c,0<=w.1/\w.1<=(a.length:Int)-1/\w.2.length<=120:=U1 h
end Go.Vs
namespace Go.Vs
variable [Glb]
def kw{S:St}{K:KW}{x v:Opd}{r i c d l j g f s n:Nat}{p:Ao}{k t b:List (List D)}{m:Nat×List (List D)}{e E:List D}(M:S.opd x=.a (.c (.pe r p i c)))(L:S.opd v=.a (.c (.rf l [(j,g)] s 0 n)))(B:get S.roots r=some (.tr d k))(N:get S.roots l=some (.tr f b))(w:b[j]?= some E)(u:E[g]?= some (.sl s t))(A:n=t.length)(z:l≠r)(G:AH d k p=some m)(F:m.2[i]?= some e)(I:c<e.length)(q:S.fix<=r)
  (H:K .un [(r,p++[(i,c)])] (put (Nr r (p++[(i,c)]) (put S.roots l (.tr f (DQ b [] j g .hole)))) r (.tr d (DQ k p i c (.sl s t)))) S.next):wr S K (.store 1 x v):=by
 subst A;simp only[wr,M,L];refine⟨[.rf l [(j,g)] s 0 t.length],rfl,rfl,e, ?_,by omega,⟨d,k,B⟩,(_,_), ?_,H⟩
 .simp only[St.node,B,G,DF];exact F
 have C:get (put S.roots l (.tr f (DQ b [] j g .hole))) r=some (.tr d k):=by rw[Bn,Ae (λh=>z h),B]
 have J:Nf d k p i c=true:=Zhj G F I;have y:AH f b [(j,g)]=some (s,t):=by simp only[AH,w,u,DF]
 have o:Qg b [(j,g)]=DQ b [] j g .hole:=rfl;simp only[Iz,BE,DZ,N,y,and_self,AE,BF,Jd,BV,o,C,Ay,AL,J,q,A0]
def wH(l:List Wr)(i:Nat):List (List D):=(l.take i).map (λw=>[.lf (.int .i64 w.1),.hole])++wD (l.drop i)
@[simp] def Zq4(l:List Wr)(i:Nat):(wH l i).length=l.length:=by simp[wH];omega
def TA{l:List Wr}{i:Nat}(h:i<l.length):(wH l i)[i]?= some [.lf (.int .i64 l[i].1),.sl 1 (bD l[i].2)]:=by
 have a:((l.take i).map (λw=>[D.lf (.int .i64 w.1),.hole])).length=i:=by simp;omega
 rw[wH,Dh (by omega),a,UG,T9 (by simp;omega)];simp
def Zpx{l:List Wr}{i:Nat}(h:i<l.length):DQ (wH l i) [] i 1 .hole=wH l (i+1):=by
 have a:((l.take i).map (λw=>[D.lf (.int .i64 w.1),.hole])).length=i:=by simp;omega
 simp only[DQ,EL,Gk,TA h,Ys,RR];rw[wH,wH,Yu _ _ (by omega),a,UG,H1 h,I8 h];simp only[wD,wE,A2,RR,C2,CB,EG,Yn]
def JA(s:List (List UInt8))(l:List Wr):List (List UInt8):=l.foldl (λs w=>s.set w.1.toNat w.2) s
@[simp] def qL(s:List (List UInt8))(l:List Wr):(JA s l).length=s.length:=by
 induction l generalizing s with
 |nil=>rfl
 |cons w l a=>simp only[JA,Oe]at a ⊢;rw[a];simp
def qM{s:List (List UInt8)}{l:List Wr}{i k:Nat}(h:i<l.length)(a:l[i].1=(k:Int)):JA s (l.take (i+1))=(JA s (l.take i)).set k l[i].2:=by
 rw[I8 h];simp only[JA,RO,Oe,Yt,a,Gn]
def gv{m:Nat}:∀{l:List Wr}{s:List (List UInt8)},(∀b∈s,b.length<=m)->(∀w∈l,w.2.length<=m)->∀b∈JA s l,b.length<=m
 |[],s,c,a=>c
 |w::l,s,c,a=>by
  refine gv (l:=l) (s:=s.set w.1.toNat w.2) (λb d=>?_) (λx e=>a x (Bx _ e));rcases UK d with h|h
  .exact c b h
  rw[h];exact a w B5
abbrev Dv:=List (List UInt8)×List Wr×Int×Bool
def E6(d:List (List UInt8))(a:List Wr)(c:Int)(b:Bool):Dv:=
 if b=true then (d,a,c,b) else if c=0 then (d,a,-1,true) else (JA d a,[],Gx c,b)
def qI{d:List (List UInt8)}{a:List Wr}{c:Int}{b:Bool}(h:b=true):E6 d a c b=(d,a,c,b):=Af h
def qJ{c:List (List UInt8)}{a:List Wr}{b:Int}(h:b=0):E6 c a b false=(c,a,-1,true):=by rw[E6,Ae (by decide),Af h]
def aJ{c:List (List UInt8)}{a:List Wr}{b:Int}(h:¬b=0):E6 c a b false=(JA c a,[],Gx b,false):=by rw[E6,Ae (by decide),Ae h]
def aK(c:List (List UInt8))(a:List Wr)(b:Int)(d:Bool):Dv:=if CH c a b=true then E6 c a b d else (c,a,b,d)
def qK{c:List (List UInt8)}{a:List Wr}{b:Int}{d:Bool}(h:CH c a b=true):aK c a b d=E6 c a b d:=Af h
def Zbr{c:List (List UInt8)}{a:List Wr}{b:Int}{d:Bool}(h:CH c a b=false):aK c a b d=(c,a,b,d):=by rw[aK,h];rfl
end Go.Vs
namespace Go.Vs
variable [Glb]
def GP(x:Dv):Prop:=x.1.length<=1048576/\(∀b∈x.1,b.length<=1048576)/\x.2.1.length<=1048577/\∀w∈x.2.1,w.2.length<=1048576
def HG(n:Int)(i:Nat):Bool:=decide (i<30)&&(Int.toNat n / 2^i%2==1)
def D3(n:Int):Nat->List (List UInt8)->List Wr->List (List UInt8)
 |_,s,[]=>s
 |i,s,w::l=>D3 n (i+1) (if HG n i then s.set w.1.toNat w.2 else s) l
def LE(n:Int):∀(l:List Wr) (i:Nat) (s:List (List UInt8)),(D3 n i s l).length=s.length
 |[],_,_=>rfl
 |w::l,i,s=>by simp only[D3];rw[LE];split<;>simp
def aB(n:Int):∀(l r:List Wr) (i:Nat) (s:List (List UInt8)),D3 n i s (l++r)=D3 n (i+l.length) (D3 n i s l) r
 |[],r,i,s=>by simp[D3]
 |w::l,r,i,s=>by simp only[A1,D3,aB n l r,Aq];rw[show i+1+l.length=i+(l.length+1) by omega]
def Zbl{n:Int}{s:List (List UInt8)}{l:List Wr}{i k:Nat}(h:i<l.length)(a:l[i].1=(k:Int)):D3 n 0 s (l.take (i+1))=if HG n i then (D3 n 0 s (l.take i)).set k l[i].2 else D3 n 0 s (l.take i):=by
 rw[I8 h,aB];have b:(l.take i).length=i:=by simp;omega
 simp only[D3,b,A7,a,Gn]
def pt{n:Int}{m:Nat}:∀{l:List Wr}{i:Nat}{s:List (List UInt8)},(∀b∈s,b.length<=m)->(∀w∈l,w.2.length<=m)->∀b∈D3 n i s l,b.length<=m
 |[],_,s,a,d=>a
 |w::l,i,s,a,d=>by
  refine pt (l:=l) (λb c=>?_) (λx e=>d x (Bx _ e));split at c
  .rcases UK c with h|h
   .exact a b h
   rw[h];exact d w B5
  exact a b c
def aD(n:Int):Int:=if 0<=n/\n<=1073741823 then n else 0
def Nd(b:List (List UInt8))(a:List Wr)(c:Int)(d:Bool)(n:Int):Dv:=
 if CH b a c=true then (D3 (aD n) 0 b a,[],-1,false) else (b,a,c,d)
def pr{b:List (List UInt8)}{a:List Wr}{c:Int}{d:Bool}{n:Int}(h:CH b a c=true):Nd b a c d n=(D3 (aD n) 0 b a,[],-1,false):=Af h
def Zbk{c:List (List UInt8)}{a:List Wr}{b:Int}{d:Bool}{n:Int}(h:CH c a b=false):Nd c a b d n=(c,a,b,d):=by rw[Nd,h];rfl
def Zbn{n:Int}(h:0<=n/\n<=1073741823):aD n=n:=Af h
def Zbm{n:Int}(h:¬(0<=n/\n<=1073741823)):aD n=0:=Ae h
end Go.Vs
namespace Go.Vs
variable [Glb]
def pw(n:Int):∀(l:List Wr) (i:Nat) (s:List (List UInt8)),30<=i->D3 n i s l=s
 |[],_,_,_=>rfl
 |w::l,i,s,h=>by
  have a:HG n i=false:=by simp only[HG,Ec,D8];exact .inl (by omega)
  simp only[D3,a,C6,BC];exact pw n l (i+1) s (by omega)
def aC{n:Int}{s:List (List UInt8)}{l:List Wr}{i:Nat}(h:i=l.length\/(i<=l.length/\30<=i)):D3 n 0 s l=D3 n 0 s (l.take i):=by
 rcases h with rfl|⟨a,b⟩
 .rw[Jd]
 have e:D3 n 0 s (l.take i++l.drop i)=D3 n 0 s (l.take i):=by
  rw[aB,pw _ _ _ _ (by simp;omega)]
 rwa[Jg]at e
def pu{n:Int}{s:List (List UInt8)}{l:List Wr}{i k:Nat}(h:i<l.length)(a:l[i].1=(k:Int))(b:HG n i=true):D3 n 0 s (l.take (i+1))=(D3 n 0 s (l.take i)).set k l[i].2:=by
 rw[Zbl h a,Af b]
def pv{n:Int}{s:List (List UInt8)}{l:List Wr}{i:Nat}(h:i<l.length)(b:HG n i=false):D3 n 0 s (l.take (i+1))=D3 n 0 s (l.take i):=by
 rw[I8 h,aB];have a:(l.take i).length=i:=by simp;omega
 simp only[D3,a,A7,b,C6,BC]
def nb{n:Int}(h:0<=n/\n<=1073741823)(i:Nat):IntKind.i64.wrap (((BitVec.ofInt IntKind.i64.bits (n.fdiv (2^i))&&&BitVec.ofInt IntKind.i64.bits 1).toNat:Nat):Int)=((n.toNat / 2^i%2:Nat):Int):=by
 obtain⟨m,rfl⟩:∃m:Nat,n=m:=⟨n.toNat,by omega⟩;have e:(m:Int).fdiv (2^i)=((m / 2^i:Nat):Int):=by
  rw[dm _ (by exact dn (Int.pow_pos (by decide)))];simp
 rw[e,Gn];exact x5 (a:=m / 2^i) (k:=1) (m:=1) (Yy (Nat.div_le_self _ _) (by omega)) (by decide) (by decide)
def wP(p:Nat->Bool):Nat->List Wr->List (List D)
 |_,[]=>[]
 |i,w::l=>[.lf (.int .i64 w.1),if p i then .hole else .sl 1 (bD w.2)]::wP p (i+1) l
@[simp] def Zpy(p:Nat->Bool):∀(l:List Wr) (i:Nat),(wP p i l).length=l.length
 |[],_=>rfl
 |w::l,i=>by simp only[wP,Aq,Zpy p l]
def wo{p:Nat->Bool}:∀{l:List Wr}{i:Nat},(∀j,p j=false)->wP p i l=wD l
 |[],_,_=>rfl
 |w::l,i,h=>by simp only[wP,h i,C6,BC,wo (l:=l) h];rfl
def wn{p:Nat->Bool}:∀{l:List Wr}{a i:Nat}(h:i<l.length),p (a+i)=false->(wP p a l)[i]?= some [.lf (.int .i64 l[i].1),.sl 1 (bD l[i].2)]
 |w::l,a,0,h,b=>by simp only[AL]at b;simp[wP,b]
 |w::l,a,i+1,h,b=>by
  simp only[wP,AN,UE];exact wn (l:=l) (by simpa using h) (by rw[show a+1+i=a+(i+1) by omega];exact b)
def Lv{p:Nat->Bool}{l:List Wr}{i:Nat}(h:i<l.length)(a:p i=false):(wP p 0 l)[i]?= some [.lf (.int .i64 l[i].1),.sl 1 (bD l[i].2)]:=wn h (by rw[A7];exact a)
def wq{p q:Nat->Bool}:∀{l:List Wr}{a i:Nat}(h:i<l.length),q (a+i)=true->(∀j,j≠a+i->q j=p j)->(wP p a l).set i [.lf (.int .i64 l[i].1),.hole]=wP q a l
 |w::l,a,0,h,d,c=>by
  have:∀{m:List Wr} {b:Nat},a<b->wP p b m=wP q b m:=by
   intro m
   induction m with
   |nil=>intro b _;rfl
   |cons x m e=>intro b f;simp only[wP];rw[c b (by omega),e (by omega)]
  simp only[AL]at d;simp only[wP,d,BF,RR,dc,this (DG a)]
 |w::l,a,i+1,h,d,c=>by
  simp only[wP,Ys,UE];rw[c a (by omega),wq (p:=p) (q:=q) (l:=l) (by simpa using h) (by rw[show a+1+i=a+(i+1) by omega];exact d) (λj g=>c j (by omega))]
def kb(n:Int)(i:Nat)(j:Nat):Bool:=decide (j<i)&&HG n j
def Lc(n:Int)(i:Nat):kb n i i=false:=by simp[kb]
def rJ(n:Int)(l:List Wr):wP (kb n 0) 0 l=wD l:=wo λj=>by simp[kb]
def rH{n:Int}{l:List Wr}{i:Nat}(h:i<l.length)(c:HG n i=true):DQ (wP (kb n i) 0 l) [] i 1 .hole=wP (kb n (i+1)) 0 l:=by
 simp only[DQ,EL,Gk,Lv h (Lc n i),Ys,RR];refine wq h (by simp[kb,c]) λj b=>?_;simp only[kb];congr 1;have:j≠i:=by simpa using b
 by_cases a:j<i
 .simp[a];omega
 simp[a];omega
def rI{n:Int}{i:Nat}(c:HG n i=false):kb n (i+1)=kb n i:=by
 funext j;simp only[kb];by_cases b:j=i
 .subst b;simp[c]
 congr 1;by_cases a:j<i
 .simp[a];omega
 simp[a];omega
def rM{n:Int}{i:Nat}(h:i<30)(a:((n.toNat / 2^i%2:Nat):Int)=1):HG n i=true:=by
 simp only[HG,A6,AA,CJ];exact⟨h,by omega⟩
def rL{n:Int}{i:Nat}(h:¬(i<30/\((n.toNat / 2^i%2:Nat):Int)=1)):HG n i=false:=by
 rw[Bool.eq_false_iff];intro a;simp only[HG,A6,AA,CJ]at a;exact h ⟨a.1,by omega⟩
end Go.Vs
namespace Go.Vs
variable [Glb]
def xb(l:List UInt8):UY (bD l)=true:=by
 simp[UY,bD,VP]
def xa(l r:List UInt8):bD l++bD r=bD (l++r):=by simp[bD]
def nT{S:St}{K:KW}{zero:List C}{x y:Opd}{r g n m d:Nat}{p:Ao}{l r2:List UInt8}(q:S.opd x=.a (.c (.rf r [] 1 0 n)))(o:get S.roots r=some (.tr 1 (bD l)))(k:n=l.length)(s:S.opd y=.a (.c (.rf g p 1 d m)))(f:g≠r)(b:S.node g p=some (1,bD r2))(j:d+m<=r2.length)(i:l.length+m<=140737488355328)
  (h:K (.a (.c (.rf S.next [] 1 0 (l.length+m)))) [] ((S.next,.tr 1 (bD (l++(r2.drop d).take m)))::BR S.roots r) (S.next+1)):wr S K (.app 1 1 zero x y):=by
 have e:((bD r2).drop d).take m=bD ((r2.drop d).take m):=by simp[bD,F4,Fp]
 refine⟨(1,bD l,some r), ?_,rfl, ?_⟩
 .simp only[Oo,q,o,k,AW,BF];simp
 simp only[s];refine⟨trivial,by simpa using f,by simpa using i,bD r2,b,by simpa using j,.inl ⟨by rw[e];exact xb _, ?_⟩⟩;rw[e,xa,AW];exact h
end Go.Vs
namespace Go.Vs
def eE(P:Program)(W:World)(n:String)(d:DataW Unit):Prop:=
 ∃g t b a p,P.globalNamed n=some g/\(P.globals[g]?).map (·.type)=some t/\W.var? P n=some b/\DataW.trod (λ_=>()) P W 0 (λ_=>true) false a t b.toList=some (d,p)
def jr{P:Program}{W:World}{n:String}{d:DataW Unit}:∀{l:List (String×DataW Unit)}{c:List MemPlace},DataW.LaidVars P W l c->(n,d)∈l->eE P W n d
 |[],_,_,b=>by cases b
 |(m,e)::l,c,h,b=>by
  obtain⟨g,t,f,a,p,q,i,j,k,o,r,_⟩:=h;cases b with
  |head=>exact⟨g,t,f,a,p,i,j,k,o⟩
  |tail _ b=>exact jr r b
def KK(b:UInt8):DataW Unit:=.lit (.int .u8 b.toNat)
def vR(a:List UInt8):DataW Unit:=.agg (a.map KK)
def Wm:List UInt8->List (DataW Unit)
 |a::b::l=>.agg [KK a,KK b]::Wm l
 |_=>[]
def so:∀(l:List UInt8) (i:Nat) (a b:UInt8),l[2*i]?= some a->l[2*i+1]?= some b->(Wm l)[i]?= some (.agg [KK a,KK b])
 |[],i,a,b,h,_=>by simp at h
 |[x],i,a,b,h,k=>by cases i<;>simp at k
 |x::y::l,0,a,b,h,k=>by
  simp only[Nat.mul_zero,AD,Ac]at h;simp only[Nat.mul_zero,A7,AN,AD,Ac]at k;subst h k;rfl
 |x::y::l,i+1,a,b,h,k=>by
  rw[show 2*(i+1)=2*i+1+1 by omega,AN,AN]at h;rw[show 2*(i+1)+1=2*i+1+1+1 by omega,AN,AN]at k;exact so l i a b h k
def oJ{W:World}{g o:Nat}{v:Value}(h:W.cell? ⟨g,o,none⟩=some v):g<W.heap.size:=by
 rcases Jc g W.heap.size with k|k
 .exact k
 simp only[World.cell?,U8 k]at h;cases h
def j2{P:Program}{W:World}{a:Nat}{e:TypeId}{c:List Value}{i:Nat}{b:UInt8}{x:DataW Unit×List MemPlace}(k:P.underlying e=some (.int .u8))(h:DataW.trod (λ_=>()) P W 0 (λ_=>true) false a e ((c.drop i).take 1)=some x)(d:x.1=KK b):c[i]?= some (.int .u8 b.toNat):=by
 obtain⟨z,f,g,_⟩:=DataW.trod_int k h;rw[g]at d;simp only[KK,DataW.lit.injEq,Lit.int.injEq,H3]at d;subst d;have j:((c.drop i).take 1)[0]?= some (.int .u8 (b.toNat:Int)):=by rw[f];rfl
 simpa using j
def Zod{P:Program}{W:World}{n:String}{g t e N:Nat}{b:List UInt8}(r:P.globalNamed n=some g)(h:(P.globals[g]?).map (·.type)=some t)(B:P.underlying t=some (.array N e))(z:P.underlying e=some (.int .u8))(x:P.cellsOf e=1)(A:eE P W n (vR b)):
  ∀(o:Nat) (y:UInt8),b[o]?= some y->g<W.heap.size/\W.cell? ⟨g,o,none⟩=some (.int .u8 y.toNat):=by
 obtain⟨E,H,D,k,p,c,a,C,hd⟩:=A;rw[r]at c;cases c;rw[h]at a;cases a;obtain⟨i,m,_,v,_,F,f⟩:=DataW.trod_array B hd;have j:i.map (·.1)=b.map KK:=(DataW.agg.inj (Prod.mk.inj v).1).symm;intro o y u;have s:i.length=b.length:=by simpa using DU List.length j
 have G:o<b.length:=(CY.1 u).1;have q:=f o (by omega);rw[x,Og,BW (by omega)]at q;have d:(i.map (·.1))[o]?= (b.map KK)[o]?:=by rw[j]
 rw[CQ,CQ,BW (by omega),u]at d;simp only[Dg,Ac]at d;have w:=j2 z q d;have l:W.cell? ⟨g,o,none⟩=some (.int .u8 y.toNat):=by rw[World.var?_cell r C o];simpa using w
 exact⟨oJ l,l⟩
def Zk3{P:Program}{W:World}{n:String}{g t s N:Nat}{f j:Field}{c:List UInt8}(J:P.globalNamed n=some g)(w:(P.globals[g]?).map (·.type)=some t)(ht:P.underlying t=some (.array N s))(hs:P.underlying s=some (.struct #[f,j]))(X:P.underlying f.type=some (.int .u8))(Y:P.underlying j.type=some (.int .u8))(R:P.cellsOf f.type=1)(S:P.cellsOf j.type=1)(o0:f.offset=0)(o1:j.offset=1)(Z:P.cellsOf s=2)(hN:c.length=2*N)(hr:eE P W n (.agg (Wm c))):
  ∀(o:Nat) (y:UInt8),c[o]?= some y->g<W.heap.size/\W.cell? ⟨g,o,none⟩=some (.int .u8 y.toNat):=by
 obtain⟨g',t',E,F,p,l,e,hv,hd⟩:=hr;rw[J]at l;cases l;rw[w]at e;cases e;obtain⟨xs,m,_,U,_,hl,r⟩:=DataW.trod_array ht hd;have T:xs.map (·.1)=Wm c:=(DataW.agg.inj (Prod.mk.inj U).1).symm;intro o y x;have ho:o<c.length:=(CY.1 x).1
 -- the pair it stands in
 have B:∀i,i<N->∃a b:UInt8,c[2*i]?= some a/\c[2*i+1]?= some b/\E.toList[2*i]?= some (.int .u8 a.toNat)/\E.toList[2*i+1]?= some (.int .u8 b.toNat):=by
  intro i hi;refine⟨c[2*i]'(by omega),c[2*i+1]'(by omega),BW _,BW _, ?_⟩;have H:=r i hi;rw[Z,BW (by omega)]at H;have q:=so c i _ _ (BW (show 2*i<c.length by omega)) (BW (show 2*i+1<c.length by omega));rw[<-T,CQ,BW (by omega)]at q;simp only[Dg,Ac]at q;obtain⟨Q,k,_,V,_,_,I⟩:=DataW.trod_struct hs H;have d:Q.map (·.1)=[KK (c[2*i]'(by omega)),KK (c[2*i+1]'(by omega))]:=by
   rw[V]at q;exact DataW.agg.inj q
  match Q,d with
  |[u,v],d=>
   simp only[A2,CB,List.cons.injEq,PK]at d;have M:=I 0 f rfl;have O:=I 1 j rfl;rw[o0,R]at M;rw[o1,S]at O;have C:=j2 X M d.1;have D:=j2 Y O d.2;rw[EM,Af (by omega),F2]at C D;rw[show i*2+0=2*i by omega]at C;rw[show i*2+1=2*i+1 by omega]at D;exact⟨C,D⟩
 obtain⟨a,b,z,A,K,L⟩:=B (o / 2) (by omega);have G:W.cell? ⟨g,o,none⟩=some (.int .u8 y.toNat):=by
  rw[World.var?_cell J hv o,<-Yk];rcases (show o=2*(o / 2)\/o=2*(o / 2)+1 by omega) with h|h
  .rw[<-h]at z K;rw[x]at z;cases z;exact K
  rw[<-h]at A L;rw[x]at A;cases A;exact L
 exact⟨oJ G,G⟩
def Zb5{a c:List UInt8}{W:World}(f:∀(o:Nat) (y:UInt8),a[o]?= some y->0<W.heap.size/\W.cell? ⟨0,o,none⟩=some (.int .u8 y.toNat))(g:∀(o:Nat) (y:UInt8),c[o]?= some y->1<W.heap.size/\W.cell? ⟨1,o,none⟩=some (.int .u8 y.toNat)):
  ∀b o v,@GU ⟨[(0,a),(1,c)]⟩ b o=some v->b<W.heap.size/\W.cell? ⟨b,o,none⟩=some v:=by
 intro b o v h
 match b,h with
 |0,h=>
  have e:@GU ⟨[(0,a),(1,c)]⟩ 0 o=(match a[o]? with|some y=>some (.int .u8 y.toNat)|none=>none):=rfl;rw[e]at h;split at h
  .rename_i y d;cases h;exact f o y d
  cases h
 |1,h=>
  have e:@GU ⟨[(0,a),(1,c)]⟩ 1 o=(match c[o]? with|some y=>some (.int .u8 y.toNat)|none=>none):=rfl;rw[e]at h;split at h
  .rename_i y d;cases h;exact g o y d
  cases h
 |b+2,h=>
  have e:@GU ⟨[(0,a),(1,c)]⟩ (b+2) o=none:=rfl;rw[e]at h;cases h
end Go.Vs
