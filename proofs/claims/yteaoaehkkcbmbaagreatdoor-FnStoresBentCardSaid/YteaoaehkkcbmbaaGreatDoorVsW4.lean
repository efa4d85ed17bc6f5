import Derived.Test.YteaoaehkkcbmbaaGreatDoorVsW3
set_option linter.all false
namespace Go.Vs
variable [Glb]
@[reducible] def Tp:List Ty->Type
 |[]=>Unit
 |[t]=>t.den
 |t::u::a=>t.den×Tp (u::a)
def Tp.hd:(t:Ty)->(a:List Ty)->Tp (t::a)->t.den
 |_,[],x=>x
 |_,_::_,x=>x.1
def Tp.tl:(t:Ty)->(a:List Ty)->Tp (t::a)->Tp a
 |_,[],_=>()
 |_,_::_,x=>x.2
def Tp.mk:(t:Ty)->(a:List Ty)->t.den->Tp a->Tp (t::a)
 |_,[],x,_=>x
 |_,_::_,x,y=>(x,y)
def Tp.hd_mk{t:Ty}:∀{a:List Ty}(x:t.den) (y:Tp a),Tp.hd t a (Tp.mk t a x y)=x
 |[],_,_=>rfl
 |_::_,_,_=>rfl
def Tp.tl_mk{t:Ty}:∀{a:List Ty}(x:t.den) (y:Tp a),Tp.tl t a (Tp.mk t a x y)=y
 |[],_,_=>rfl
 |_::_,_,_=>rfl
inductive XD where
 |lf (c:XC)
 |sl (t:Ty) (xs:List t.den)
def Et:XD->D
 |.lf (.i k z)=>.lf (.int k z)
 |.lf (.y b)=>.lf (.int .u8 b.toNat)
 |.lf (.b x)=>.lf (.bool x)
 |.lf (.s l)=>.lf (.string ⟨l.toArray⟩)
 |.lf _=>.hole
 |.sl t a=>.sl t.n (a.map (Al t))
def NG:(t:Ty)->t.den->List XD
 |.I k,z=>[.lf (.i k z)]
 |.Y,b=>[.lf (.y b)]
 |.B,x=>[.lf (.b x)]
 |.S,l=>[.lf (.s l)]
 |.L t,c=>[.sl t c]
 |.H t,o=>[match o with|some c=>.sl t c|none=>.lf .un]
 |.P a b,x=>NG a x.1++NG b x.2
def WP:∀(t:Ty) (x:t.den),(NG t x).map Et=Al t x
 |.I _,_=>rfl
 |.Y,_=>rfl
 |.B,_=>rfl
 |.S,_=>rfl
 |.L _,_=>rfl
 |.H _,none=>rfl
 |.H _,some _=>rfl
 |.P a b,x=>by simp only[NG,C2,WP a,WP b,Al]
def aj:XC->XC
 |.i k z=>.i k z
 |.y b=>.y b
 |.b x=>.b x
 |.s l=>.s l
 |_=>.un
def DB:List XD->XSt->List XC×XSt
 |[],X=>([],X)
 |.lf c::l,X=>(aj c::(DB l X).1,(DB l X).2)
 |.sl t a::l,X=>(.rw X.next::(DB l (X.newR (.tr t a))).1,(DB l (X.newR (.tr t a))).2)
def Hb:(a:List (Bool×Ty))->Tp (a.map (·.2))->List XD
 |[],_=>[]
 |(_,t)::a,y=>NG t (Tp.hd t _ y)++Hb a (Tp.tl t _ y)
def Lo:List (Bool×Ty)->List XC->List XA
 |[],_=>[]
 |(ag,t)::b,a=>(match ag with
  |true=>.ag (a.take t.n)
  |false=>match a.take t.n with
   |[c]=>.c c
   |_=>.ag [])::Lo b (a.drop t.n)
def bh:List XA->XV
 |[x]=>.a x
 |b=>.tp b
def Cu:(a:List (Bool×Ty))->Tp (a.map (·.2))->List (Bool×List D)
 |[],_=>[]
 |(ag,t)::a,x=>(ag,Al t (Tp.hd t _ x))::Cu a (Tp.tl t _ x)
structure SEnt (P:Program) where
 f:FuncId
 args:List (Bool×Ty)
 res:List (Bool×Ty)
 F:Tp (args.map (·.2))->Option (Tp (res.map (·.2)))
 ok:∀x y,F x=some y->Gp P f ((Cu args x).map CN) ⟨Cu res y,[],[]⟩
def em{β:Type}(R:AK)(ag:Bool)(t:Ty)(v:XV)(f:t.den->Option β):Option β:=match ag,v with
 |false,.a (.c c)=>FL R t [c] λx b=>match b with
  |[]=>f x
  |_=>none
 |true,.a (.ag d)=>FL R t d λx b=>match b with
  |[]=>f x
  |_=>none
 |false,.sb r n=>match t,f with
  |.L e,f=>match lk R r with
   |some (_,.bx d)=>match Nat.beq e.n 1&&Nat.beq d.length n with
    |true=>QK R e n (d.map (·.2)) f
    |false=>none
   |_=>none
  |_,_=>none
 |_,_=>none
def S6{β:Type}(R:AK):(a:List (Bool×Ty))->List XV->(Tp (a.map (·.2))->Option β)->Option β
 |[],[],k=>k ()
 |(ag,t)::a,v::b,k=>em R ag t v λx=>S6 R a b λc=>k (Tp.mk t _ x c)
 |_,_,_=>none
def Tn{P:Program}{β:Type}(X:XSt)(e:SEnt P)(a:List XV)(k:XV->XSt->Option β):Option β:=
 S6 X.roots e.args a λx=>Aa (e.F x) λy=>k (bh (Lo e.res (DB (Hb e.res y) X).1)) (DB (Hb e.res y) X).2
def bE : ∀ (l : List XD) {X : XSt} {E : List (Nat × V)} {R : List (Nat × Root)} {f : Nat}, XOk X → SimX X ⟨E, R, X.next, f⟩ →
    XOk (DB l X).2 ∧ Ext X (DB l X).2 ∧ (DB l X).2.env = X.env ∧ (DB l X).2.next = (AU (l.map Et) X.next).2.2 ∧ SimX (DB l X).2 ⟨E, (AU (l.map Et) X.next).2.1 ++ R, (DB l X).2.next, f⟩ ∧
    Ai Ba (AU (l.map Et) X.next).1 ((DB l X).1.map (cC (DB l X).2.roots)) ∧ ∀ c ∈ (DB l X).1, Bj (DB l X).2.roots (DB l X).2.next (DB l X).2.stamp c
  |[], X, E, R, f, k, j => ⟨k, Ext.refl X, rfl, rfl, j, trivial, by simp[DB]⟩
  |.lf c :: l, X, E, R, f, k, j => by
    obtain ⟨a, b, e, n, s, w, o⟩ := bE l k j;cases c <;> refine ⟨a, b, e, n, s, ?_, ?_⟩ <;> first
      |exact ⟨Ba.refl _, w⟩
      |exact ⟨.inr rfl, w⟩
      | (intro c i
         simp only[DB, AX] at i;rcases i with rfl | i
         · trivial
         · exact o c i)
  |.sl t g :: l, X, E, R, f, k, j => by
    obtain ⟨C, D, J⟩ := OU (x := .tr t g) (y := .tr t.n (g.map (Al t))) k j (λK h => by simp at h) ⟨_, rfl, rfl, rfl⟩;obtain ⟨a, b, e, n, s, w, o⟩ := bE l C J;have m : ∀ q y, get (AU (l.map Et) (X.next + 1)).2.1 q = some y → X.next + 1 ≤ q := λq y h => (Iu _ _).2 _ (LX h) |>.1;refine ⟨a, D.trans b, e, n, ?_, ⟨?_, w⟩, ?_⟩
    · refine Tw s ?_
      intro r N x L M;have F : (AU ((XD.sl t g :: l).map Et) X.next).2.1 = (X.next, .tr t.n (g.map (Al t))) :: (AU (l.map Et) (X.next + 1)).2.1 := rfl;rw[F];have G : (X.newR (.tr t g)).next = X.next + 1 := rfl;rw[G];simp only[A1, get];split
      · rename_i h
        subst h;rw[Ft];cases u : get (AU (l.map Et) (X.next + 1)).2.1 X.next with
        |some y => have := m _ _ u; omega
        |none => simp only[get, BF]
      rename_i h;rw[Ft, Ft];cases u : get (AU (l.map Et) (X.next + 1)).2.1 r with
      |some y => rfl
      |none => simp only[get]; rw[Ae h]
    · have I := OT X (.tr t g)
      -- the new root may only stay
      left;have : lk (DB l (X.newR (.tr t g))).2.roots X.next = some (X.stamp, .tr t g) := by
        have p : ∀ (l : List XD) (Y : XSt) (q : Nat), q < Y.next → lk (DB l Y).2.roots q = lk Y.roots q := by
          intro l
          induction l with
          |nil => intro Y q _; rfl
          |cons d l z=>
            intro Y q v;cases d with
            |lf c => exact z Y q v
            |sl A B=>
              show lk (DB l (Y.newR (.tr A B))).2.roots q = _;rw[z (Y.newR (.tr A B)) q (G5 v)];simp only[XSt.newR]; rw[BO, Ae (by simp only; omega)]
        rw[p l _ _ (DG X.next)];exact I
      show cC (DB l (X.newR (.tr t g))).2.roots (.rw X.next) = .rf X.next [] t.n 0 (g.map (Al t)).length;simp only[cC, this, B3]
    intro c i;have H : (DB (.sl t g :: l) X).1 = .rw X.next :: (DB l (X.newR (.tr t g))).1 := rfl;rw[H] at i;rcases AX.1 i with rfl | i
    · show X.next < _
      exact CO (DG X.next) b.next
    exact o c i
def bf:∀(a:List (Bool×Ty)) (y:Tp (a.map (·.2))),(Hb a y).map Et=(Cu a y).flatMap (·.2)
 |[],_=>rfl
 |(ag,t)::a,y=>by simp only[Hb,C2,WP,bf a,Cu,DM]
def jy{R:AK}:∀(b:List (Bool×Ty)) (y:Tp (b.map (·.2))) (f:List C) (d:List XC),Ai Ba f (d.map (cC R))->d.length=((Cu b y).flatMap (·.2)).length->Ai EH (FU (Cu b y) f) ((Lo b d).map (cA R))
 |[],_,_,_,_,_=>trivial
 |(ag,t)::b,y,f,d,h,i=>by
  simp only[Cu,FU,Lo,A2];have g:=Cv t (Tp.hd t _ y);refine⟨?_, ?_⟩
  .rw[g];have a:=JU (n:=t.n) h;rw[<-Fp]at a;cases ag with
   |true=>simp only[Js,BF];exact a
   |false=>
    simp only[Js,C6,BC]
    match e:f.take t.n,h2:d.take t.n with
    |[],[]=>trivial
    |[u],[c]=>rw[e,h2]at a;exact a.1
    |[],_::_=>rw[e,h2]at a;exact a.elim
    |_::_,[]=>rw[e,h2]at a;exact a.elim
    |[_],_::_::_=>rw[e,h2]at a;exact a.2.elim
    |_::_::_,[_]=>rw[e,h2]at a;exact a.2.elim
    |_::_::_,_::_::_=>trivial
  rw[g];have hd:=J4 (n:=t.n) h;rw[<-F4]at hd;refine jy b _ _ _ hd ?_;simp only[Cu,DM,Cb,g]at i;rw[Di,i];omega
def t5{R:AK}{b:List A}{a:List XA}(h:Ai EH b (a.map (cA R))):CZ (Ey b) (cV R (bh a)):=by
 match b,a,h with
 |[],[],_=>exact trivial
 |[y],[x],h=>exact h.1
 |y::d::b,x::c::a,h=>exact h
 |[_],_::_::_,h=>exact h.2.elim
 |_::_::_,[_],h=>exact h.2.elim
def W0{R:AK}{f g:Nat}:∀(e:List (Bool×Ty)) (d:List XC),(∀c∈d,Bj R f g c)->∀x∈Lo e d,Gw R f g x
 |[],_,_,x,b=>by simp[Lo]at b
 |(ag,t)::e,d,h,x,b=>by
  simp only[Lo,AX]at b;rcases b with rfl|b
  .cases ag with
   |true=>exact λc a=>h c (G4 a)
   |false=>
    simp only;split
    .rename_i c a;exact h c (G4 (i:=t.n) (by rw[a];exact B5))
    exact λc a=>by simp at a
  exact W0 e _ (λc a=>h c (Gm a)) x b
def jz{R:AK}{b c:Nat}{a:List XA}(h:∀x∈a,Gw R b c x):Dt R b c (bh a):=by
 match a,h with
 |[],_=>exact λx d=>by simp at d
 |[x],h=>exact h x B5
 |x::y::l,h=>exact h
section
variable {β:Type} {X:XSt} {S:St} {out:β} {P:Program}
def Zs(i:SimX X S){c:XC}{d:D}(h:CD X.roots c d):Ix S.roots (cC X.roots c) d:=by
 rcases h with ⟨v,a,rfl⟩|⟨n,rfl,rfl⟩|⟨t,k,r,p,j,l,a,b,e,f,rfl,g⟩
 .rw[a];rfl
 .exact⟨rfl,rfl⟩
 rw[a];exact⟨rfl,g,l,ST i b,e,f.symm⟩
def oC(c:SimX X S):∀{a:List XC}{b:List D},Ai (CD X.roots) a b->Ai (Ix S.roots) (a.map (cC X.roots)) b
 |[],[],_=>trivial
 |_::_,_::_,h=>⟨Zs c h.1,oC c h.2⟩
 |[],_::_,h=>h.elim
 |_::_,[],h=>h.elim
def x_(M:XOk X)(A:SimX X S){ag:Bool}{t:Ty}{v:XV}{y:V}{f:t.den->Option β}(j:CZ y (cV X.roots v))(E:Dt X.roots X.next X.stamp v)(h:em X.roots ag t v f=some out):∃x,f x=some out/\Tq S.roots y (ag,Al t x):=by
 unfold em at h;split at h
 .rename_i c;obtain⟨x,L,p,g,h,b⟩:=Mg (nx:=X.next) (st:=X.stamp) t [c] _ out (λO g=>by simp only[Db]at g;subst g;exact E) h;split at h
  .rw[AB]at g;subst g;refine⟨x,h, ?_⟩
   match hd:Al t x,b with
   |[d],b=>
    rw[j.c b.1.ne];exact Zs A b.1
  simp at h
 .rename_i w;obtain⟨x,L,p,g,h,b⟩:=Mg (nx:=X.next) (st:=X.stamp) t w _ out E h;split at h
  .rw[AB]at g;subst g;refine⟨x,h, ?_⟩;cases y with
   |a z=>cases z with
    |ag T=>
     have:=KN b j;subst this;exact oC A b
    |c _=>exact j.elim
   |_=>exact j.elim
  simp at h
 .rename_i r n;split at h
  .rename_i q f;split at h
   .rename_i s w C;split at h
    .rename_i B;simp only[A6]at B;have l:=B6 B.1;have m:=B6 B.2;obtain⟨k,h,o,b⟩:=bc (nx:=X.next) (st:=X.stamp) n _ _ out (by
      intro c g;obtain⟨e,D,rfl⟩:=CC.1 g;exact (M.box r s w C e D).2) h
     refine⟨k,h, ?_⟩;simp only[cV,C]at j;cases y with
     |sb R Q=>
      obtain⟨rfl,rfl⟩:=j;obtain⟨K,G,H⟩:=Ot A C;have I:Ai Ba K ((w.map (·.2)).map (cC X.roots)):=by rw[GO];exact H
      have:=KN b I;subst this;simp only[Al,l];refine⟨_,G,by simpa using m,by simp[o], ?_⟩;clear h G H I C m o B E;have F:∀(i:List XC) (k:List q.den),Ai (CD X.roots) i (k.map (Al q)).flatten->Ai (λc e=>∃d,e=[d]/\Ix S.roots c d) (i.map (cC X.roots)) (k.map (Al q)):=by
       intro i k
       induction k generalizing i with
       |nil=>intro h;cases i with
        |nil=>trivial
        |cons _ _=>exact h.elim
       |cons x k N=>
        intro h;simp only[A2,Ji]at h ⊢;have J:=Cv q x;rw[l]at J
        match D:Al q x,J with
        |[d],_=>
         rw[D]at h
         match i,h with
         |u::i,h=>exact⟨⟨d,rfl,Zs A h.1⟩,N i h.2⟩
      exact F _ _ b
     |_=>exact j.elim
    simp at h
   simp at h
  simp at h
 simp at h
def qU(f:XOk X)(e:SimX X S):∀(a:List (Bool×Ty)) (b:List XV) (c:List V) (k:Tp (a.map (·.2))->Option β),Ai (λy v=>CZ y (cV X.roots v)/\Dt X.roots X.next X.stamp v) c b->S6 X.roots a b k=some out ->
  ∃x,k x=some out/\Ai (Tq S.roots) c (Cu a x)
 |[],[],[],k,_,h=>⟨(),h,trivial⟩
 |(ag,t)::a,v::b,y::c,k,d,h=>by
  simp only[S6]at h;obtain⟨x,h,g⟩:=x_ f e d.1.1 d.1.2 h;obtain⟨j,h,i⟩:=qU f e a b c _ d.2 h;refine⟨_,h, ?_⟩;simp only[Cu,Tp.hd_mk,Tp.tl_mk];exact⟨g,i⟩
 |[],_::_,_,_,_,h=>by simp[S6]at h
 |_::_,[],_,_,_,h=>by simp[S6]at h
 |[],[],_::_,_,h,_=>h.elim
 |_::_,_::_,[],_,h,_=>h.elim
def Py{β:Type}(X:XSt)(S:St)(T:KW->Prop)(k:XV->XSt->Option β)(out:β):Prop:=
 ∃d b,k d b=some out/\XOk b/\Ext X b/\Dt b.roots b.next b.stamp d/\b.env=X.env /\
  ∃v c a,CZ v (cV b.roots d)/\SimX b ⟨Bz c S.env,a,b.next,S.fix⟩/\(c=[]/\∀r s x,lk b.roots r=some (s,x)->s<X.stamp->get a r=get S.roots r)/\∀K:KW,K v c a b.next->T K
def Py.mono{β:Type}{X:XSt}{S:St}{T i:KW->Prop}{k:XV->XSt->Option β}{out:β}(h:Py X S T k out)(s:∀K,T K->i K):Py X S i k out:=by
 obtain⟨a,b,c,d,e,f,g,j,l,m,n,o,p,q⟩:=h;exact⟨a,b,c,d,e,f,g,j,l,m,n,o,p,λK r=>s K (q K r)⟩
abbrev Xp {β:Type} (P:Program) (X:XSt) (S:St) (f:FuncId) (a:List Opd) (k:XV->XSt->Option β) (out:β):Prop:=Py X S (λK=>FJ P S K (.wr (.call f a))) k out
def Sd(c:XOk X)(b:SimX X S):∀a:List Opd,Ai (λy v=>CZ y (cV X.roots v)/\Dt X.roots X.next X.stamp v) (a.map S.opd) (a.map X.opd)
 |[]=>trivial
 |x::l=>⟨⟨HJ b x,Gy c x⟩,Sd c b l⟩
def nV(a:List (Bool×Ty))(y:Tp (a.map (·.2))):((Hb a y).map Et).length=((Cu a y).flatMap (·.2)).length:=by rw[bf]
def bC:∀(l:List XD) (X:XSt),(DB l X).1.length=l.length
 |[],_=>rfl
 |.lf c::l,X=>by simp only[DB,Aq,bC l]
 |.sl t a::l,X=>by simp only[DB,Aq,bC l]
def uk(l:XOk X)(i:SimX X S){e:SEnt P}{p:List XV}{q:List V}(E:Ai (λy v=>CZ y (cV X.roots v)/\Dt X.roots X.next X.stamp v) q p){k:XV->XSt->Option β}(h:Tn X e p k=some out):Py X S (λK=>fM P S e.f q K) k out:=by
 unfold Tn at h;obtain⟨x,h,u⟩:=qU l i e.args _ _ _ E h;obtain⟨y,F,h⟩:=G6 h;have g:S.next=X.next:=i.next;have j:SimX X ⟨S.env,S.roots,X.next,S.fix⟩:=⟨rfl,i.fix,i.env,i.roots⟩;obtain⟨a,b,c,d,s,w,o⟩:=bE (Hb e.res y) l j;rw[bf]at d s w;refine⟨_,_,h,a,b,jz (W0 _ _ o),c,Ey (FU (Cu e.res y) (AU ((Cu e.res y).flatMap (·.2)) S.next).1),[],(AU ((Cu e.res y).flatMap (·.2)) S.next).2.1++S.roots, ?_, ?_,⟨rfl,λr n z B D=>?_⟩, ?_⟩
 .rw[g];exact t5 (jy _ _ _ _ w (by rw[bC,<-nV,B3]))
 .rw[Nq,g];exact s
 .have t:=b.roots r n z B D;have C:=(l.ids r n z t).1;rw[Ft];cases A:get (AU ((Cu e.res y).flatMap (·.2)) S.next).2.1 r with
  |none=>rfl
  |some G=>have:=((Iu _ _).2 _ (LX A)).1;simp only at this;omega
 intro K m;refine⟨_,_,e.ok x y F,u, ?_⟩;rw[g];rw[g,d]at m;exact m
def ul(c:XOk X)(b:SimX X S){e:SEnt P}{a:List Opd}{k:XV->XSt->Option β}(h:Tn X e (a.map X.opd) k=some out):Xp P X S e.f a k out:=
 (uk c b (Sd c b a) h).mono λK h=>.inr (.inl h)
end
end Go.Vs
namespace Go.Vs
variable [Glb]
def Vk(R:AK):AK->List (Nat×Root)
 |[]=>[]
 |e::l=>match D1 R e.2.2 with
  |some y=>(e.1,y)::Vk R l
  |none=>BR (Vk R l) e.1
def MW(X:XSt):St:=⟨X.env.map λe=>(e.1,cV X.roots e.2.2),Vk X.roots X.roots,X.next,X.fix⟩
def aM(R:AK):∀(l:AK) (r:Nat),get (Vk R l) r=match lk l r with|some (_,x)=>D1 R x|none=>none
 |[],r=>rfl
 |(q,s,x)::l,r=>by
  simp only[Vk,BO];cases a:D1 R x with
  |some y=>
   simp only[get];split
   .simp only[a]
   exact aM R l r
  |none=>
   rw[Ii];split
   .simp only[a]
   exact aM R l r
def hU(R:AK):∀(l:List (Nat×Nat×XV)) (t:Nat),get (l.map λe=>(e.1,cV R e.2.2)) t=(lk l t).map λe=>cV R e.2
 |[],t=>rfl
 |(q,s,x)::l,t=>by
  simp only[A2,get,BO];split
  .rfl
  exact hU R l t
def H5.refl:∀x:Root,(∀a,x≠.ib a)->H5 x x
 |.tr _ _,_=>⟨rfl,rfl⟩
 |.im _ _,_=>⟨rfl,rfl⟩
 |.bx a,_=>Ai.refl Ba.refl a
 |.ib a,h=>(h a rfl).elim
def kp(X:XSt):SimX X (MW X):=by
 refine⟨rfl,rfl, ?_, ?_⟩
 .intro t s v a;exact .inr ⟨cV X.roots v,by simp only[MW,hU,a];rfl,CZ.refl _⟩
 intro r s x a y b;refine⟨y,by simp only[MW,aM,a];exact b,H5.refl y λc e=>?_⟩;subst e;cases x<;>simp[D1]at b
def fg{pl:Aw}{a:Nat}{y x:C}{v:Value}(h:CR pl a y v)(w:Ba y x):CR pl a x v:=by
 rcases w with rfl|rfl
 .exact h
 exact CR.one h
def oW{pl:Aw}{a:Nat}:∀{d c:List C}{b:List Value},Ai (CR pl a) d b->Ai Ba d c->Ai (CR pl a) c b
 |[],[],[],_,_=>trivial
 |_::_,_::_,_::_,h,w=>⟨fg h.1 w.1,oW h.2 w.2⟩
 |[],[],_::_,h,_=>h.elim
 |[],_::_,_,_,w=>w.elim
 |_::_,[],_,_,w=>w.elim
 |_::_,_::_,[],h,_=>h.elim
def nU{pl:Aw}{a:Nat}{y x:A}{v:Value}(h:AR pl a y v)(w:EH y x):AR pl a x v:=by
 cases y with
 |c y=>cases x with
  |c x=>exact fg h w
  |ag _=>exact w.elim
 |ag e=>cases x with
  |c _=>exact w.elim
  |ag d=>obtain⟨b,rfl,h⟩:=h;exact⟨b,rfl,oW h w⟩
def er{pl:Aw}{a:Nat}:∀{d c:List A}{b:List Value},Ai (AR pl a) d b->Ai EH d c->Ai (AR pl a) c b
 |[],[],[],_,_=>trivial
 |_::_,_::_,_::_,h,w=>⟨nU h.1 w.1,er h.2 w.2⟩
 |[],[],_::_,h,_=>h.elim
 |[],_::_,_,_,w=>w.elim
 |_::_,[],_,_,w=>w.elim
 |_::_,_::_,[],h,_=>h.elim
def vrW{pl:Aw}{e:Nat}{y x:V}{v:Value}(h:VR pl e y v)(w:CZ y x):VR pl e x v:=by
 cases x with
 |un=>trivial
 |a x=>cases y with
  |a y=>exact nU h w
  |_=>exact w.elim
 |tp k=>cases y with
  |tp l=>obtain⟨b,rfl,h⟩:=h;exact⟨b,rfl,er h w⟩
  |_=>exact w.elim
 |fn f c=>cases y with
  |fn g d=>obtain⟨rfl,w⟩:=w;obtain⟨b,rfl,h⟩:=h;exact⟨b,rfl,er h w⟩
  |_=>exact w.elim
 |sb r n=>cases y with
  |sb j i=>obtain⟨rfl,rfl⟩:=w;exact h
  |_=>exact w.elim
def Zlq{i:Nat->Nat->Prop}{w:World}{g:Bp}{pl:Aw}{d r:Nat}{y x:Root}(h:Er i w g pl d r y)(k:H5 y x):Er i w g pl d r x:=by
 cases y with
 |tr s e=>cases x with
  |tr _ _=>obtain⟨rfl,rfl⟩:=k;exact h
  |_=>exact k.elim
 |im s e=>cases x with
  |im _ _=>obtain⟨rfl,rfl⟩:=k;exact h
  |_=>exact k.elim
 |bx p=>cases x with
  |bx o=>
   intro c x m;obtain⟨y,n,j⟩:=Ro k m;obtain⟨v,a,b,l,f⟩:=h c y n;exact⟨v,a,fg b j,l,f⟩
  |_=>exact k.elim
 |ib _=>cases x<;>exact k.elim
def Le.ren2{S T:St}(s:List (Nat×Nat))(n:T.fix=S.fix)(j:Nz s T.next S.fix=true)(U:∀t x,get T.env t=some x->x=.un\/∃y,get S.env t=some y/\CZ (y.map (C4 s)) x)
  (V:∀r x,get T.roots r=some x->∃l y,get S.roots l=some y/\get s l=some r/\H5 (HK s y) x):Le S T:=⟨n,λN w0 D Y g pl a w R=>by
 simp only[Nz,A6,AA,DE,CE,CJ]at j;obtain⟨⟨v,c⟩,q⟩:=j;obtain⟨K,L,M,O⟩:=R;obtain⟨E,F,G,Z,a5,H⟩:=K;have k:∀r f,get s r=some f->f<T.next/\∀p,(λr p=>pl (KZ s r) p) f p=pl r p:=λr f h=>⟨(c _ (aN h)).1,λp=>by simp only[VN v h]⟩;refine⟨λb o=>(g b o).bind λx=>(get s x.1).map λf=>(f,x.2),λr p=>pl (KZ s r) p,⟨⟨E, ?_, ?_, ?_,AE _, ?_⟩,L,M, ?_⟩⟩
 .intro b o x d;simp only[AO,BP]at d;obtain⟨y,B,f,A,rfl⟩:=d;obtain⟨I,J,_⟩:=F b o y B;exact⟨I,J,(k _ _ A).1⟩
 .intro r p i;rw[n]at i;have:KZ s r=r:=i7 λx d e=>by
   rcases (c x d).2 with h|h
   .omega
   omega
  simp only[this];exact G r p i
 .rw[n];exact q
 .intro r x d;obtain⟨l,y,P,C,m⟩:=V r x d;refine⟨(k _ _ C).1,Zlq ((H l y P).2.ren k ?_ C) m⟩;intro b o r1 p r2 m Q;simp only[m,DF,Q,Dg]
 .intro t x d;rcases U t x d with rfl|⟨y,B,W⟩
  .trivial
  .exact vrW (VR.killed (λz u X=>X.ren k) (O t y B)) W⟩
inductive Bc where
 |K
 |U
 |L (t:Ty)
 |O (t:Ty)
inductive It where
 |kt (t:Nat)
 |lt (t:Nat) (ty:Ty)
 |ot (t:Nat) (ty:Ty)
 |bx (t:Nat) (cs:List Bc)
 |sr (t:Nat) (ty:Ty)
def Bc.tys:List Bc->List Ty
 |[]=>[]
 |.K::m=>Bc.tys m
 |.U::m=>Bc.tys m
 |.L t::m=>t::Bc.tys m
 |.O t::m=>Ty.L t::Bc.tys m
def IB:List Ty->List Ty->List Ty
 |[],m=>m
 |t::l,m=>t::IB l m
def It.tys:List It->List Ty
 |[]=>[]
 |.kt _::l=>It.tys l
 |.lt _ t::l=>t::It.tys l
 |.ot _ t::l=>.L t::It.tys l
 |.bx _ a::l=>IB (Bc.tys a) (It.tys l)
 |.sr _ t::l=>.L t::It.tys l
abbrev Sg:=(t:Ty)×t.den
def EV:(a:List Ty)->Tp a->List Sg
 |[],_=>[]
 |t::a,x=>⟨t,Tp.hd t a x⟩::EV a (Tp.tl t a x)
def Qe{β:Type}:(a:List Ty)->List Sg->(Tp a->Option β)->Option β
 |[],[],k=>k ()
 |t::a,x::l,k=>if h:x.1=t then Qe a l λb=>k (Tp.mk t a (h ▸ x.2) b) else none
 |_,_,_=>none
def fZ{β:Type}{a:β}:∀(b:List Ty) (l:List Sg) (k:Tp b->Option β),Qe b l k=some a->∃x,k x=some a/\EV b x=l
 |[],[],k,h=>⟨(),h,rfl⟩
 |t::b,x::l,k,h=>by
  simp only[Qe]at h;split at h
  .rename_i e;obtain⟨f,h,c⟩:=fZ b l _ h;refine⟨_,h, ?_⟩;obtain⟨d,x⟩:=x;simp only at e;subst e;simp only[EV,Tp.hd_mk,Tp.tl_mk,c]
  simp at h
 |[],_::_,_,h=>by simp[Qe]at h
 |_::_,[],_,h=>by simp[Qe]at h
def SL:Sg->XC
 |⟨.I k,z⟩=>.i k z
 |⟨.Y,b⟩=>.y b
 |⟨.B,x⟩=>.b x
 |⟨.S,l⟩=>.s l
 |⟨_,_⟩=>.un
def bU(c:XC)(d:Ty):Option Sg:=match d,c with
 |.I k,.i a z=>match JG k a with
  |true=>some ⟨.I k,z⟩
  |false=>none
 |.Y,.y b=>some ⟨.Y,b⟩
 |.B,.b x=>some ⟨.B,x⟩
 |.S,.s l=>some ⟨.S,l⟩
 |_,_=>none
def bV(R:AK)(c:XC):Option (Sg×Nat):=match c with
 |.rw r=>match lk R r with
  |some (_,.tr t a)=>some (⟨.L t,a⟩,r)
  |_=>none
 |_=>none
def XSt.tmp(X:XSt)(t:Nat):XV:=X.opd (.t t)
def xw:XV->Option Nat
 |.a (.c (.pb r _))=>some r
 |.fn _ b=>match b with
  |.c (.pb r _)::_=>some r
  |_=>none
 |_=>none
def Oq(X:XSt)(t:Nat):Option (Nat×List (Nat×XC)):=match xw (X.tmp t) with
 |some r=>match lk X.roots r with
  |some (_,.bx a)=>some (r,a)
  |_=>none
 |none=>none
def Xd(X:XSt)(t:Nat):Option Nat:=match X.tmp t with
 |.a (.c (.rw r))=>some r
 |_=>none
def QU(X a:XSt)(t:Nat):Bool:=match lk X.env t,lk a.env t with
 |some (s,_),some (b,_)=>Nat.beq s b
 |_,_=>false
def G0(R:AK):List Bc->List (Nat×XC)->List (Nat×XC)->Nat->Option (List Sg×List (Nat×Nat)×Nat)
 |[],[],[],n=>some ([],[],n)
 |.K::b,e::c,d::a,n=>match Nat.beq e.1 d.1 with
  |true=>G0 R b c a n
  |false=>none
 |.U::b,_::c,_::a,n=>G0 R b c a n
 |.L g::b,_::c,d::a,n=>match bU d.2 g,G0 R b c a n with
  |some v,some (f,s,m)=>some (v::f,s,m)
  |_,_=>none
 |.O _::b,_::c,d::a,n=>match bV R d.2,G0 R b c a (n+1) with
  |some (v,r),some (f,s,m)=>some (v::f,(r,n)::s,m)
  |_,_=>none
 |_,_,_,_=>none
def pk(X b:XSt):List It->Nat->Option (List Sg×List (Nat×Nat)×Nat)
 |[],n=>some ([],[],n)
 |.kt t::l,n=>match QU X b t with
  |true=>pk X b l n
  |false=>none
 |.lt t f::l,n=>match b.tmp t with
  |.a (.c c)=>match bU c f,pk X b l n with
   |some v,some (d,s,m)=>some (v::d,s,m)
   |_,_=>none
  |_=>none
 |.ot t f::l,n=>match b.tmp t with
  |.a (.c c)=>match bV b.roots c,pk X b l (n+1) with
   |some (v,r),some (d,s,m)=>some (v::d,(r,n)::s,m)
   |_,_=>none
  |_=>none
 |.bx t h::l,n=>match QU X b t,Oq X t,Oq b t with
  |true,some (r,i),some (k,e)=>match Nat.beq r k,G0 b.roots h i e n with
   |true,some (d,s,m)=>match pk X b l m with
    |some (g,o,j)=>some (d++g,s++o,j)
    |none=>none
   |_,_=>none
  |_,_,_=>none
 |.sr t f::l,n=>match QU X b t,Xd X t with
  |true,some r=>match lk b.roots r with
   |some (_,.tr t p)=>match pk X b l n with
    |some (d,s,m)=>some (⟨.L t,p⟩::d,s,m)
    |none=>none
   |_=>none
  |_,_=>none
def ON:List It->List Nat
 |[]=>[]
 |.kt t::l=>t::ON l
 |.bx t _::l=>t::ON l
 |.sr t _::l=>t::ON l
 |_::l=>ON l
def GR(X:XSt):List It->List Nat
 |[]=>[]
 |.bx t _::l=>match Oq X t with
  |some (r,_)=>r::GR X l
  |none=>GR X l
 |.sr t _::l=>match Xd X t with
  |some r=>r::GR X l
  |none=>GR X l
 |_::l=>GR X l
def Mh:XC->List Nat
 |.rw r=>[r]
 |.rv r _ _=>[r]
 |.rf r _ _ _ _ _=>[r]
 |.pe r _ _ _ _ _ _=>[r]
 |.pb r _=>[r]
 |_=>[]
def jw:List XC->List Nat
 |[]=>[]
 |c::l=>Mh c++jw l
def Wy:List XA->List Nat
 |[]=>[]
 |.c c::l=>Mh c++Wy l
 |.ag a::l=>jw a++Wy l
def Zlj:XV->List Nat
 |.a x=>Wy [x]
 |.tp c=>Wy c
 |.sb r _=>[r]
 |.fn _ b=>Wy b
 |_=>[]
def ig:List Bc->List (Nat×XC)->List Nat
 |.K::a,e::b=>Mh e.2++ig a b
 |_::a,_::b=>ig a b
 |_,_=>[]
def Wz(X:XSt):List It->List Nat
 |[]=>[]
 |.kt t::l=>Zlj (X.tmp t)++Wz X l
 |.bx t a::l=>match Oq X t with
  |some (_,b)=>ig a b++Wz X l
  |none=>Wz X l
 |_::l=>Wz X l
def oN(X:XSt):Nat->List Nat->List Nat
 |0,_=>[]
 |n+1,l=>l++oN X n (l.flatMap λr=>match lk X.roots r with
  |some (_,.bx a)=>jw (a.map (·.2))
  |_=>[])
def ee(l:List Nat):List Nat->List Nat
 |[]=>l
 |r::m=>match LI r l with
  |true=>ee l m
  |false=>ee (r::l) m
def af(X:XSt)(a:List It):List Nat:=(ee [] (oN X 3 (Wz X a))).filter λr=>!LI r (GR X a)
def Np(X:XSt):List Nat->List (Nat×Nat×XV)
 |[]=>[]
 |t::l=>match lk X.env t with
  |some e=>(t,e)::Np X l
  |none=>Np X l
def Q2(X:XSt):List Nat->AK
 |[]=>[]
 |r::l=>match lk X.roots r with
  |some e=>(r,e)::Q2 X l
  |none=>Q2 X l
def WG(X a:XSt):List Nat->Bool
 |[]=>true
 |r::l=>match lk X.roots r,lk a.roots r with
  |some (s,_),some (b,_)=>Nat.beq s b&&WG X a l
  |none,_=>WG X a l
  |_,_=>false
def DS:List Bc->List (Nat×XC)->XSt->List Sg->List ((Nat×XC) ⊕ XC)×XSt×List Sg
 |.K::b,e::c,A,a=>let r:=DS b c A a;(.inl e::r.1,r.2)
 |.U::b,_::c,A,a=>let r:=DS b c A a;(.inr .un::r.1,r.2)
 |.L _::b,_::c,A,v::a=>let r:=DS b c A a;(.inr (SL v)::r.1,r.2)
 |.O _::b,_::c,A,v::a=>match v with
  |⟨.L t,d⟩=>let r:=DS b c (A.newR (.tr t d)) a;(.inr (.rw A.next)::r.1,r.2)
  |_=>([],A,[])
 |_,_,A,a=>([],A,a)
def Jy(s:Nat):List ((Nat×XC) ⊕ XC)->List (Nat×XC)
 |[]=>[]
 |.inl e::l=>e::Jy s l
 |.inr c::l=>(s,c)::Jy s l
def up(X:XSt):List It->XSt->List Sg->XSt
 |[],A,_=>A
 |.kt _::l,A,b=>up X l A b
 |.lt t _::l,A,v::b=>up X l (A.put (some t) (.a (.c (SL v)))) b
 |.ot t _::l,A,v::b=>match v with
  |⟨.L d,e⟩=>up X l ((A.newR (.tr d e)).put (some t) (.a (.c (.rw A.next)))) b
  |_=>A
 |.bx t f::l,A,b=>match Oq X t with
  |some (r,g)=>let q:=DS f g A b;up X l (q.2.1.setR r (.bx (Jy q.2.1.stamp q.1))) q.2.2
  |none=>A
 |.sr t _::l,A,v::b=>match v,Xd X t with
  |⟨.L d,e⟩,some r=>up X l (A.setR r (.tr d e)) b
  |_,_=>A
 |_,A,_=>A
def PY(X:XSt)(a:List It):XSt:=⟨Np X (ON a),Q2 X (af X a),X.next,X.stamp,X.fix⟩
def J3(X:XSt)(a:List It)(s:Tp (It.tys a)):XSt:=up X a (PY X a) (EV _ s)
def O3(l:List Nat):List Nat->Bool
 |[]=>true
 |r::m=>match LI r l with
  |true=>false
  |false=>O3 l m
def jb{β:Type}(X b:XSt)(a:List It)(k:Tp (It.tys a)->Option β):Option β:=match WG X b (af X a),pk X b a X.next with
 |true,some (c,s,_)=>match Mc (s.map (·.1))&&(O3 (s.map (·.1)) (af X a)&&O3 (s.map (·.1)) (GR X a)) with
  |true=>Qe (It.tys a) c k
  |false=>none
 |_,_=>none
end Go.Vs
namespace Go.Vs
variable [Glb]
def fV{X A:XSt}(E:XOk X)(h:XOk A)(f:Ext X A){r k:Nat}{x:XR}(l:A.next<=k)(G:r<k)
  (u:∀i,x=.bx i->∀(c:Nat) (e:Nat×XC),i[c]?= some e->(e.1=A.stamp\/∃z j,lk X.roots r=some (z,.bx j)/\j[c]?= some e)/\Bj A.roots A.next A.stamp e.2):
  XOk ⟨A.env,(r,A.stamp,x)::A.roots,k,A.stamp+1,A.fix⟩/\Ext X ⟨A.env,(r,A.stamp,x)::A.roots,k,A.stamp+1,A.fix⟩:=by
 have g:∀q s y,lk ((r,A.stamp,x)::A.roots) q=some (s,y)->s<A.stamp->lk A.roots q=some (s,y):=by
  intro q s y d m;rw[BO]at d;split at d
  .simp only[Ac,A5]at d;omega
  exact d
 have o:=HR A.stamp;refine⟨⟨?_, ?_, ?_,CW h.fixle l⟩,⟨CW f.next l,CW f.stamp o,f.fix, ?_,f.env, ?_⟩⟩
 .intro q s y d;rw[BO]at d;split at d
  .rename_i e;simp only[Ac,A5]at d;simp only at e;obtain⟨rfl,_⟩:=d;exact⟨by show q<k;omega,DG _⟩
  obtain⟨a,b⟩:=h.ids q s y d;exact⟨by show q<k;omega,G5 b⟩
 .intro t s w d;obtain⟨a,b⟩:=h.env t s w d;exact⟨G5 a,Dt.ext l o g b⟩
 .intro q s i d e v;rw[BO]at d;split at d
  .simp only[Ac,A5]at d;obtain⟨c,n,p⟩:=MI v;obtain⟨a,b⟩:=u i d.2 c e (by rw[BW n,p]);refine⟨?_,Bj.ext l o g b⟩;rcases a with a|⟨z,j,B,C⟩
   .rw[a];exact DG _
   have F:=(E.box _ _ _ B e (CP C)).1;have D:=f.stamp;show e.1<A.stamp+1;omega
  obtain⟨a,b⟩:=h.box q s i d e v;exact⟨G5 a,Bj.ext l o g b⟩
 .intro q s y d m;exact f.roots q s y (g q s y d (CO m f.stamp)) m
 intro q s i d c e n m;have D:=f.stamp;rw[BO]at d;split at d
 .rename_i eq;simp only at eq;subst eq;simp only[Ac,A5]at d;rcases (u i d.2 c e n).1 with a|a
  .omega
  exact a
 exact f.cells q s i d c e n m
def VQ{X:XSt}:∀{l:List Nat}{t:Nat}{e:Nat×XV},lk (Np X l) t=some e->lk X.env t=some e
 |[],t,e,h=>by simp[Np,lk]at h
 |q::l,t,e,h=>by
  simp only[Np]at h;split at h
  .rename_i c b;rw[BO]at h;split at h
   .rename_i a;simp only at a;subst a;simp only[Ac]at h;rw[<-h];exact b
   exact VQ h
  exact VQ h
def Q3{X:XSt}:∀{l:List Nat}{t:Nat}{e:Nat×XR},lk (Q2 X l) t=some e->lk X.roots t=some e/\t∈l
 |[],t,e,h=>by simp[Q2,lk]at h
 |q::l,t,e,h=>by
  simp only[Q2]at h;split at h
  .rename_i f d;rw[BO]at h;split at h
   .rename_i c;simp only at c;subst c;simp only[Ac]at h;rw[<-h];exact⟨d,B5⟩
   obtain⟨a,b⟩:=Q3 h;exact⟨a,Bx _ b⟩
  obtain⟨a,b⟩:=Q3 h;exact⟨a,Bx _ b⟩
def n_{X:XSt}(h:XOk X)(f:List It):XOk (PY X f)/\Ext X (PY X f):=by
 have i:∀r s x,lk (Q2 X (af X f)) r=some (s,x)->s<X.stamp->lk X.roots r=some (s,x):=λr s x d _=>(Q3 d).1;refine⟨⟨λr s x d=>h.ids r s x (Q3 d).1, ?_, ?_,h.fixle⟩,⟨AE _,AE _,rfl,i,λt s v d _=>VQ d, ?_⟩⟩
 .intro t s v d;obtain⟨a,b⟩:=h.env t s v (VQ d);exact⟨a,Dt.ext (AE _) (AE _) i b⟩
 .intro r s g d e k;obtain⟨a,b⟩:=h.box r s g (Q3 d).1 e k;exact⟨a,Bj.ext (AE _) (AE _) i b⟩
 intro r s g d c e j _;exact⟨s,g,(Q3 d).1,j⟩
def ra{R:AK}{a b:Nat}(v:Sg):Bj R a b (SL v):=by
 obtain⟨t,x⟩:=v;cases t<;>trivial
def Zm{X:XSt}{t r:Nat}{a:List (Nat×XC)}(h:Oq X t=some (r,a)):∃s,lk X.roots r=some (s,.bx a):=by
 unfold Oq at h;split at h
 .split at h
  .rename_i s c b;simp only[Ac,A5]at h;obtain⟨rfl,rfl⟩:=h;exact⟨s,b⟩
  simp at h
 simp at h
def lg{X:XSt}(b:XOk X){t r:Nat}(h:Xd X t=some r):r<X.next:=by
 unfold Xd at h;have a:=Gy b (.t t);simp only[XSt.tmp]at h;split at h
 .rename_i d c;simp only[Ac]at h;subst h;rw[c]at a;exact a
 simp at h
def sK{X A:XSt}(c:XOk X)(a:XOk A)(b:Ext X A){t:Ty}{xs:List t.den}:XOk (A.newR (.tr t xs))/\Ext X (A.newR (.tr t xs)):=
 fV c a b (HR _) (DG _) (λd h=>by simp at h)
def Xg{X:XSt}(o:XOk X):∀(h:List Bc) (k:List (Nat×XC)) (A:XSt) (i:List Sg),XOk A->Ext X A->(∀e∈k,Bj X.roots X.next X.stamp e.2) ->
  XOk (DS h k A i).2.1/\Ext X (DS h k A i).2.1/\A.next<=(DS h k A i).2.1.next/\(∀(c:Nat) (z:(Nat×XC) ⊕ XC),(DS h k A i).1[c]?= some z->match z with
   |.inl e=>k[c]?= some e
   |.inr x=>Bj (DS h k A i).2.1.roots (DS h k A i).2.1.next (DS h k A i).2.1.stamp x)
 |[],k,A,i,f,g,_=>by simp only[DS];exact⟨f,g,AE _,by simp⟩
 |.K::h,e::k,A,i,f,g,n=>by
  obtain⟨a,b,c,d⟩:=Xg o h k A i f g λe m=>n e (Bx _ m);refine⟨a,b,c, ?_⟩;intro j z l;cases j with
  |zero=>simp only[DS,AD,Ac]at l;subst l;rfl
  |succ j=>exact d j z (by simpa[DS] using l)
 |.U::h,e::k,A,i,f,g,n=>by
  obtain⟨a,b,c,d⟩:=Xg o h k A i f g λe m=>n e (Bx _ m);refine⟨a,b,c, ?_⟩;intro j z l;cases j with
  |zero=>simp only[DS,AD,Ac]at l;subst l;trivial
  |succ j=>exact d j z (by simpa[DS] using l)
 |.L r::h,e::k,A,v::i,f,g,n=>by
  obtain⟨a,b,c,d⟩:=Xg o h k A i f g λe m=>n e (Bx _ m);refine⟨a,b,c, ?_⟩;intro j z l;cases j with
  |zero=>simp only[DS,AD,Ac]at l;subst l;exact ra v
  |succ j=>exact d j z (by simpa[DS] using l)
 |.O r::h,e::k,A,⟨t,x⟩::i,f,g,n=>by
  cases t with
  |L t=>
   obtain⟨p,q⟩:=sK (t:=t) (xs:=x) o f g;obtain⟨a,b,c,d⟩:=Xg o h k (A.newR (.tr t x)) i p q λe m=>n e (Bx _ m);refine⟨a,b,CW (HR _) c, ?_⟩;intro j z l;cases j with
   |zero=>
    simp only[DS,AD,Ac]at l;subst l;exact CO (DG A.next) c
   |succ j=>exact d j z (by simpa[DS] using l)
  |_=>simp only[DS];exact⟨f,g,AE _,by simp⟩
 |.K::h,[],A,i,f,g,_=>by simp only[DS];exact⟨f,g,AE _,by simp⟩
 |.U::h,[],A,i,f,g,_=>by simp only[DS];exact⟨f,g,AE _,by simp⟩
 |.L _::h,[],A,i,f,g,_=>by simp only[DS];exact⟨f,g,AE _,by simp⟩
 |.O _::h,[],A,i,f,g,_=>by simp only[DS];exact⟨f,g,AE _,by simp⟩
 |.L _::h,_::_,A,[],f,g,_=>by simp only[DS];exact⟨f,g,AE _,by simp⟩
 |.O _::h,_::_,A,[],f,g,_=>by simp only[DS];exact⟨f,g,AE _,by simp⟩
def vG{s:Nat}:∀{l:List ((Nat×XC) ⊕ XC)}{c:Nat}{e:Nat×XC},(Jy s l)[c]?= some e->∃z,l[c]?= some z/\(z=.inl e\/∃x,z=.inr x/\e=(s,x))
 |[],c,e,h=>by simp[Jy]at h
 |z::l,0,e,h=>by
  cases z with
  |inl a=>simp only[Jy,AD,Ac]at h;subst h;exact⟨_,rfl,.inl rfl⟩
  |inr x=>simp only[Jy,AD,Ac]at h;subst h;exact⟨_,rfl,.inr ⟨x,rfl,rfl⟩⟩
 |z::l,c+1,e,h=>by
  have:(Jy s l)[c]?= some e:=by cases z<;>simpa[Jy] using h
  simpa using vG this
def T6{X:XSt}(k:XOk X):∀(n:List It) (A:XSt) (i:List Sg),XOk A->Ext X A->XOk (up X n A i)/\Ext X (up X n A i)
 |[],A,i,g,f=>⟨g,f⟩
 |.kt t::l,A,i,g,f=>by simp only[up];exact T6 k l A i g f
 |.lt t u::l,A,v::i,g,f=>by
  obtain⟨a,b⟩:=JI g (d:=some t) (v:=.a (.c (SL v))) (ra v);simp only[up];exact T6 k l _ i a (f.trans b)
 |.ot t u::l,A,⟨q,x⟩::i,g,f=>by
  cases q with
  |L q=>
   obtain⟨y,C⟩:=sK (t:=q) (xs:=x) k g f;obtain⟨a,b⟩:=JI y (d:=some t) (v:=.a (.c (.rw A.next))) (DG A.next);simp only[up];exact T6 k l _ i a (C.trans b)
  |_=>exact⟨g,f⟩
 |.bx t o::l,A,i,g,f=>by
  simp only[up];split
  .rename_i r m F;obtain⟨s,p⟩:=Zm F;obtain⟨a,b,c,d⟩:=Xg k o m A i g f (λe G=>(k.box r s m p e G).2);have I:=(k.ids r s _ p).1;obtain⟨w,B⟩:=fV k a b (x:=.bx (Jy (DS o m A i).2.1.stamp (DS o m A i).1)) (AE _) (CO I b.next) (by
    intro D e j E H;simp only[XR.bx.injEq]at e;subst e;obtain⟨z,K,h⟩:=vG H;have hd:=d j z K;rcases h with rfl|⟨x,rfl,rfl⟩
    .exact⟨.inr ⟨s,m,p,hd⟩,Bj.ext b.next b.stamp b.roots (k.box r s m p E (CP hd)).2⟩
    .exact⟨.inl rfl,hd⟩)
   exact T6 k l _ _ w B
  exact⟨g,f⟩
 |.sr t u::l,A,⟨q,x⟩::i,g,f=>by
  simp only[up];split
  .rename_i M N r O J;obtain⟨a,b⟩:=fV k g f (x:=.tr M N) (AE _) (CO (lg k J) f.next) (λo h=>by simp at h);exact T6 k l _ i a b
  exact⟨g,f⟩
 |.lt _ _::_,A,[],g,f=>⟨g,f⟩
 |.ot _ _::_,A,[],g,f=>⟨g,f⟩
 |.sr _ _::_,A,[],g,f=>by simp only[up];exact⟨g,f⟩
def dE{X:XSt}(d:XOk X)(c:List It)(s:Tp (It.tys c)):XOk (J3 X c s)/\Ext X (J3 X c s):=by
 obtain⟨a,b⟩:=n_ d c;exact T6 d c _ _ a b
end Go.Vs
namespace Go.Vs
variable [Glb]
def K8(σ:List (Nat×Nat))(X:XSt)(c a:XC):Prop:=
 c=.un\/(c=a/\Bj X.roots X.next X.stamp c)\/(∃v,(∀R,cC R c=.lf v)/\∀R,cC R a=.lf v)\/∃id b,c=.rw id/\a=.rw b/\X.next<=id/\get σ b=some id
def I9(σ:List (Nat×Nat))(X f A:XSt):Prop:=∀r g x,lk A.roots r=some (g,x) ->
 (r<X.next/\get σ r=some r/\((g<X.stamp/\lk f.roots r=some (g,x))\/(X.stamp<=g/\((∃(b:Ty) (d:List b.den) (a:Nat),x=.tr b d/\lk f.roots r=some (a,.tr b d))\/∃h c a,x=.bx h/\lk f.roots r=some (a,.bx c)/\Ai (λ(e j:Nat×XC)=>K8 σ X e.2 j.2) h c)))) \/
 (X.next<=r/\∃(i:Nat) (b:Ty) (d:List b.den) (a:Nat),x=.tr b d/\lk f.roots i=some (a,.tr b d)/\get σ i=some r)
def Pz(σ:List (Nat×Nat))(X d A:XSt):Prop:=∀t f v,lk A.env t=some (f,v) ->
 (lk d.env t=some (f,v)/\Dt X.roots X.next X.stamp v)\/∃b c e,v=.a (.c c)/\lk d.env t=some (b,.a (.c e))/\K8 σ X c e
section
variable {σ:List (Nat×Nat)} {X X' A:XSt}
def ci{X:XSt}{t:Nat}{v:XV}(h:X.tmp t=v)(b:v≠.un):∃s,lk X.env t=some (s,v):=by
 simp only[XSt.tmp,XSt.opd]at h;split at h
 .rename_i s w a;subst h;exact⟨s,a⟩
 exact (b h.symm).elim
def Zna(e:XOk X)(d:Ext X X'){t:Nat}(h:QU X X' t=true):∃s v,lk X.env t=some (s,v)/\lk X'.env t=some (s,v):=by
 unfold QU at h;split at h
 .rename_i s v g f a c;have:=B6 h;subst this;have b:=d.env t s f c (e.env t s v a).1;rw[a]at b;simp only[Ac,A5,H3]at b;subst b;exact⟨s,v,a,c⟩
 simp at h
def ss{c:XC}{b:Ty}{v:Sg}(h:bU c b=some v):K8 σ X (SL v) c:=by
 right;right;left;unfold bU at h;split at h
 .split at h
  .rename_i a;simp only[JG,AA]at a;subst a;simp only[Ac]at h;subst h;exact⟨_,λ_=>rfl,λ_=>rfl⟩
  simp at h
 .simp only[Ac]at h;subst h;exact⟨_,λ_=>rfl,λ_=>rfl⟩
 .simp only[Ac]at h;subst h;exact⟨_,λ_=>rfl,λ_=>rfl⟩
 .simp only[Ac]at h;subst h;exact⟨_,λ_=>rfl,λ_=>rfl⟩
 simp at h
def su{R:AK}{c:XC}{v:Sg}{r:Nat}(h:bV R c=some (v,r)):c=.rw r/\∃(t:Ty) (a:List t.den) (b:Nat),v=⟨.L t,a⟩/\lk R r=some (b,.tr t a):=by
 unfold bV at h;split at h
 .split at h
  .rename_i b t a d;simp only[Ac,A5]at h;obtain⟨rfl,rfl⟩:=h;exact⟨rfl,t,a,b,rfl,d⟩
  simp at h
 simp at h
def t9(h:I9 σ X X' A){d:Option Nat}{v:XV}:I9 σ X X' (A.put d v):=by
 cases d<;>exact h
def p_(h:Pz σ X X' A){t:Nat}{c f:XC}{d:Nat}(i:lk X'.env t=some (d,.a (.c f)))(g:K8 σ X c f):Pz σ X X' (A.put (some t) (.a (.c c))):=by
 intro q j v b;simp only[XSt.put]at b;rw[BO]at b;split at b
 .rename_i e;simp only at e;subst e;simp only[Ac,A5]at b;obtain⟨_,rfl⟩:=b;exact .inr ⟨d,c,f,rfl,i,g⟩
 exact h q j v b
def t8(h:I9 σ X X' A)(g:X.next<=A.next){c b:Nat}{t:Ty}{d:List t.den}(f:lk X'.roots c=some (b,.tr t d))(i:get σ c=some A.next):I9 σ X X' (A.newR (.tr t d)):=by
 intro q j v a;simp only[XSt.newR]at a;rw[BO]at a;split at a
 .rename_i e;simp only at e;subst e;simp only[Ac,A5]at a;obtain⟨_,rfl⟩:=a;exact .inr ⟨g,c,t,d,b,rfl,f,i⟩
 exact h q j v a
def t_(h:I9 σ X X' A){r:Nat}{x:XR}(l:r<X.next)(k:get σ r=some r)(d:X.stamp<=A.stamp)(m:(∃(f:Ty) (i:List f.den) (a:Nat),x=.tr f i/\lk X'.roots r=some (a,.tr f i))\/∃g c a,x=.bx g/\lk X'.roots r=some (a,.bx c)/\Ai (λ(e j:Nat×XC)=>K8 σ X e.2 j.2) g c):I9 σ X X' (A.setR r x):=by
 intro q n v b;simp only[XSt.setR]at b;rw[BO]at b;split at b
 .rename_i e;simp only at e;subst e;simp only[Ac,A5]at b;obtain⟨rfl,rfl⟩:=b;exact .inl ⟨l,k,.inr ⟨d,m⟩⟩
 exact h q n v b
def Xh(S:XOk X)(R:Ext X X'):∀(o:List Bc) (k d:List (Nat×XC)) (A:XSt) (n:Nat) (w:List Sg) (s:List (Nat×Nat)) (m:Nat) (a:List Sg),G0 X'.roots o k d n=some (w,s,m)->A.next=n->X.next<=n->X.stamp<=A.stamp->(∀p∈s,get σ p.1=some p.2) ->
  (∀e∈k,e.1<X.stamp/\Bj X.roots X.next X.stamp e.2)->(∀(c:Nat) (f:Nat×XC),d[c]?= some f->f.1<X.stamp->k[c]?= some f)->I9 σ X X' A ->
  ∃q B,DS o k A (w++a)=(q,B,a)/\I9 σ X X' B/\B.env=A.env/\B.next=m/\n<=m/\X.stamp<=B.stamp/\s.map (·.2)=List.range' n (m-n)/\Ai (λz (f:Nat×XC)=>K8 σ X (match z with|.inl e=>e.2|.inr x=>x) f.2) q d
 |[],[],[],A,n,w,s,m,a,h,l,J,g,_,_,_,r=>by
  simp only[G0,Ac,A5]at h;obtain⟨rfl,rfl,rfl⟩:=h;exact⟨[],A,rfl,r,rfl,l,AE _,g,by simp,trivial⟩
 |.K::o,e::k,f::d,A,n,w,s,m,a,h,l,J,g,y,u,b,r=>by
  simp only[G0]at h;split at h
  .rename_i V;have V:=B6 V;obtain⟨q,B,C,D,E,F,N,G,H,I⟩:=Xh S R o k d A n w s m a h l J g y (λe i=>u e (Bx _ i)) (λc f i j=>by simpa using b (c+1) f (by simpa using i) j) r;have h0:=b 0 f rfl (by rw[<-V];exact (u e B5).1);simp only[AD,Ac]at h0;refine⟨.inl e::q,B,by simp only[DS,C],D,E,F,N,G,H,.inr (.inl ⟨by rw[h0],(u e B5).2⟩),I⟩
  simp at h
 |.U::o,e::k,f::d,A,n,w,s,m,a,h,l,J,g,y,u,b,r=>by
  simp only[G0]at h;obtain⟨q,B,C,D,E,F,N,G,H,I⟩:=Xh S R o k d A n w s m a h l J g y (λe i=>u e (Bx _ i)) (λc f i j=>by simpa using b (c+1) f (by simpa using i) j) r;exact⟨.inr .un::q,B,by simp only[DS,C],D,E,F,N,G,H,.inl rfl,I⟩
 |.L ty::o,e::k,f::d,A,n,w,s,m,a,h,l,J,g,y,u,b,r=>by
  simp only[G0]at h;split at h
  .rename_i v M Z Q Y P;simp only[Ac,A5]at h;obtain⟨rfl,rfl,rfl⟩:=h;obtain⟨q,B,C,D,E,F,N,G,H,I⟩:=Xh S R o k d A n M Z Q a P l J g y (λe i=>u e (Bx _ i)) (λc f i j=>by simpa using b (c+1) f (by simpa using i) j) r;exact⟨.inr (SL v)::q,B,by simp only[A1,DS,C],D,E,F,N,G,H,ss Y,I⟩
  simp at h
 |.O ty::o,e::k,f::d,A,n,w,s,m,a,h,l,J,g,y,u,b,r=>by
  simp only[G0]at h;split at h
  .rename_i v r0 M Z Q Y P;simp only[Ac,A5]at h;obtain⟨rfl,rfl,rfl⟩:=h;obtain⟨hc,t,xs,st,rfl,hl⟩:=su Y;have W:=y (r0,n) B5;simp only at W;have T:=t8 r (by omega) hl (by rw[l];exact W);obtain⟨q,B,C,D,E,F,N,G,H,I⟩:=Xh S R o k d (A.newR (.tr t xs)) (n+1) M Z Q a P (by show A.next+1=_;rw[l]) (by omega) (by show X.stamp<=A.stamp+1;omega) (λp P=>y p (Bx _ P)) (λe i=>u e (Bx _ i)) (λc f i j=>by simpa using b (c+1) f (by simpa using i) j) T;refine⟨.inr (.rw A.next)::q,B,by simp only[A1,DS,C],D,E,F,by omega,G, ?_,.inr (.inr (.inr ⟨_,_,rfl,hc,by omega,by rw[l];exact W⟩)),I⟩;simp only[A2,H];rw[show Q-n=(Q-(n+1))+1 by omega,Yo]
  simp at h
 |[],_::_,_,_,_,_,_,_,_,h,_,_,_,_,_,_,_=>by simp[G0]at h
 |[],[],_::_,_,_,_,_,_,_,h,_,_,_,_,_,_,_=>by simp[G0]at h
 |.K::_,[],_,_,_,_,_,_,_,h,_,_,_,_,_,_,_=>by simp[G0]at h
 |.U::_,[],_,_,_,_,_,_,_,h,_,_,_,_,_,_,_=>by simp[G0]at h
 |.L _::_,[],_,_,_,_,_,_,_,h,_,_,_,_,_,_,_=>by simp[G0]at h
 |.O _::_,[],_,_,_,_,_,_,_,h,_,_,_,_,_,_,_=>by simp[G0]at h
 |.K::_,_::_,[],_,_,_,_,_,_,h,_,_,_,_,_,_,_=>by simp[G0]at h
 |.U::_,_::_,[],_,_,_,_,_,_,h,_,_,_,_,_,_,_=>by simp[G0]at h
 |.L _::_,_::_,[],_,_,_,_,_,_,h,_,_,_,_,_,_,_=>by simp[G0]at h
 |.O _::_,_::_,[],_,_,_,_,_,_,h,_,_,_,_,_,_,_=>by simp[G0]at h
def kx{σ:List (Nat×Nat)}{X:XSt}{s:Nat}:∀{c:List ((Nat×XC) ⊕ XC)}{a:List (Nat×XC)},Ai (λz (b:Nat×XC)=>K8 σ X (match z with|.inl e=>e.2|.inr x=>x) b.2) c a->Ai (λ(e b:Nat×XC)=>K8 σ X e.2 b.2) (Jy s c) a
 |[],[],_=>trivial
 |.inl e::c,b::a,h=>⟨h.1,kx h.2⟩
 |.inr x::c,b::a,h=>⟨h.1,kx h.2⟩
 |[],_::_,h=>h.elim
 |.inl _::_,[],h=>h.elim
 |.inr _::_,[],h=>h.elim
def T7(D:XOk X)(I:Ext X X'):∀(y:List It) (A:XSt) (n:Nat) (C:List Sg) (s:List (Nat×Nat)) (m:Nat),pk X X' y n=some (C,s,m)->A.next=n->X.next<=n->X.stamp<=A.stamp->(∀p∈s,get σ p.1=some p.2)->(∀r∈GR X y,get σ r=some r) ->
  I9 σ X X' A->Pz σ X X' A->I9 σ X X' (up X y A C)/\Pz σ X X' (up X y A C)/\(up X y A C).next=m/\n<=m/\s.map (·.2)=List.range' n (m-n)
 |[],A,n,C,s,m,h,o,F,j,w,k,x,f=>by
  simp only[pk,Ac,A5]at h;obtain⟨rfl,rfl,rfl⟩:=h;exact⟨x,f,o,AE _,by simp⟩
 |.kt t::l,A,n,C,s,m,h,o,F,j,w,k,x,f=>by
  simp only[pk]at h;split at h
  .simp only[up];exact T7 D I l A n C s m h o F j w k x f
  simp at h
 |.lt t W::l,A,n,C,s,m,h,o,F,j,w,k,x,f=>by
  simp only[pk]at h;split at h
  .rename_i c N;split at h
   .rename_i v g P i U u;simp only[Ac,A5]at h;obtain⟨rfl,rfl,rfl⟩:=h;obtain⟨z,E⟩:=ci N (by simp);simp only[up];exact T7 D I l _ n g P i u o F (by show X.stamp<=A.stamp+1;omega) w k (t9 x) (p_ f E (ss U))
   simp at h
  simp at h
 |.ot t W::l,A,n,C,s,m,h,o,F,j,w,k,x,f=>by
  simp only[pk]at h;split at h
  .rename_i c N;split at h
   .rename_i v r0 g P i U u;simp only[Ac,A5]at h;obtain⟨rfl,rfl,rfl⟩:=h;obtain⟨z,E⟩:=ci N (by simp);obtain⟨rfl,R,S,Q,rfl,a2⟩:=su U;have hg:=w (r0,n) B5;simp only at hg;have a0:=t8 x (by omega) a2 (by rw[o];exact hg);simp only[up];obtain⟨a,b,c,d,e⟩:=T7 D I l ((A.newR (.tr R S)).put (some t) (.a (.c (.rw A.next)))) (n+1) g P i u (by show A.next+1=_;rw[o]) (by omega) (by show X.stamp<=A.stamp+1+1;omega) (λp u=>w p (Bx _ u)) k (t9 a0) (p_ (A:=A.newR (.tr R S)) f E (.inr (.inr (.inr ⟨_,_,rfl,rfl,by omega,by rw[o];exact hg⟩))));refine⟨a,b,c,by omega, ?_⟩;simp only[A2,e];rw[show i-n=(i-(n+1))+1 by omega,Yo]
   simp at h
  simp at h
 |.bx t Y::l,A,n,C,s,m,h,o,F,j,w,k,x,f=>by
  simp only[pk]at h;split at h
  .rename_i r es r' H M hb a1;split at h
   .rename_i g P i K u;have K:=B6 K;subst K;split at h
    .rename_i G s2 V a4;simp only[Ac,A5]at h;obtain⟨rfl,rfl,rfl⟩:=h;obtain⟨Q,E⟩:=Zm hb;obtain⟨z,T⟩:=Zm a1;have J:GR X (.bx t Y::l)=r::GR X l:=by simp only[GR,hb]
     rw[J]at k;obtain⟨us,B,h1,h2,h3,h4,h5,h6,h7,h8⟩:=Xh (σ:=σ) D I Y es H A n g P i G u o F j (λp u=>w p (RN _ u)) (λe he=>D.box r Q es E e he) (λc e' he a3=>by
      obtain⟨q1,q2,q3,q4⟩:=I.cells r z H T c e' he a3;rw[E]at q3;simp only[Ac,A5,XR.bx.injEq]at q3;rw[q3.2];exact q4) x
     have O:up X (.bx t Y::l) A (g++G)=up X l (B.setR r (.bx (Jy B.stamp us))) G:=by simp only[up,hb,h1]
     rw[O];have Z:Pz σ X X' (B.setR r (.bx (Jy B.stamp us))):=by
      intro q Q v U;have:lk B.env q=some (Q,v):=U;rw[h3]at this;exact f q Q v this
     obtain⟨a,b,c,d,e⟩:=T7 D I l (B.setR r (.bx (Jy B.stamp us))) i G s2 V a4 h4 (by omega) (by show X.stamp<=B.stamp+1;omega) (λp u=>w p (Jh _ u)) (λq hq=>k q (Bx _ hq))
      (t_ h2 (D.ids r Q _ E).1 (k r B5) h6 (.inr ⟨_,H,z,rfl,T,kx h8⟩)) Z
     refine⟨a,b,c,by omega, ?_⟩;rw[C2,h7,e,show V-n=(i-n)+(V-i) by omega];have:i=n+(i-n):=by omega
     rw[show List.range' i (V-i)=List.range' (n+1*(i-n)) (V-i) by rw[Yg,<-this]];rw[List.range'_append]
    simp at h
   simp at h
  simp at h
 |.sr t W::l,A,n,C,s,m,h,o,F,j,w,k,x,f=>by
  simp only[pk]at h;split at h
  .rename_i r M N;split at h
   .rename_i z R S E;split at h
    .rename_i g P i u;simp only[Ac,A5]at h;obtain⟨rfl,rfl,rfl⟩:=h;have J:GR X (.sr t W::l)=r::GR X l:=by simp only[GR,N]
     rw[J]at k;have O:up X (.sr t W::l) A (⟨.L R,S⟩::g)=up X l (A.setR r (.tr R S)) g:=by simp only[up,N]
     rw[O];exact T7 D I l (A.setR r (.tr R S)) n g P i u o F (by show X.stamp<=A.stamp+1;omega) w (λq hq=>k q (Bx _ hq)) (t_ x (lg D N) (k r B5) j (.inl ⟨_,_,_,rfl,E⟩)) f
    simp at h
   simp at h
  simp at h
def ie(F:I9 σ X X' A){C:AK}{c:XC}(q:Bj C X.next X.stamp c):cC A.roots c=.un\/cC A.roots c=C4 σ (cC X'.roots c):=by
 have root:∀{r:Nat},r<X.next->∀{m:Nat} {x:XR},lk A.roots r=some (m,x)->get σ r=some r/\((m<X.stamp/\lk X'.roots r=some (m,x))\/(X.stamp<=m/\((∃(B:Ty) (o:List B.den) (f:Nat),x=.tr B o/\lk X'.roots r=some (f,.tr B o))\/∃w j f,x=.bx w/\lk X'.roots r=some (f,.bx j)/\Ai (λ(e D:Nat×XC)=>K8 σ X e.2 D.2) w j))):=by
  intro r E m x d;rcases F r m x d with ⟨_,a,b⟩|⟨a,_⟩
  .exact⟨a,b⟩
  omega
 cases c with
 |un=>exact .inl rfl
 |nl H=>exact .inr rfl
 |lf v=>exact .inr rfl
 |i k z=>exact .inr rfl
 |y b=>exact .inr rfl
 |b x=>exact .inr rfl
 |s l=>exact .inr rfl
 |rw r=>
  cases d:lk A.roots r with
  |none=>left;simp only[cC,d]
  |some e=>
   obtain⟨m,x⟩:=e;obtain⟨g,h|⟨_,h|h⟩⟩:=root q d
   .cases x with
    |tr t o=>right;simp only[cC,d,h.2,C4,g]
    |im t o=>right;simp only[cC,d,h.2,C4,g]
    |_=>left;simp only[cC,d]
   .obtain⟨B,o,f,rfl,h⟩:=h;right;simp only[cC,d,h,C4,g]
   obtain⟨w,j,f,rfl,h,_⟩:=h;left;simp only[cC,d]
 |rv r G n=>
  cases d:lk A.roots r with
  |none=>left;simp only[cC,d]
  |some e=>
   obtain⟨m,x⟩:=e;obtain⟨g,h|⟨_,h|h⟩⟩:=root q d
   .cases x with
    |tr t o=>right;simp only[cC,d,h.2,C4,g]
    |im t o=>right;simp only[cC,d,h.2,C4,g]
    |_=>left;simp only[cC,d]
   .obtain⟨B,o,f,rfl,h⟩:=h;right;simp only[cC,d,h,C4,g]
   obtain⟨w,j,f,rfl,h,_⟩:=h;left;simp only[cC,d]
 |rf r v p G t I=>
  cases u:Dp A.roots r v with
  |false=>left;simp only[cC,u]
  |true=>
   obtain⟨x,d⟩:=Xi u;obtain⟨g,h|⟨h,_⟩⟩:=root q.1 d
   .right;simp only[cC,u,Lu h.2,C4,g]
   have:=q.2.1;omega
 |pe r v p i c t y=>
  cases u:Dp A.roots r v with
  |false=>left;simp only[cC,u]
  |true=>
   obtain⟨x,d⟩:=Xi u;obtain⟨g,h|⟨h,_⟩⟩:=root q.1 d
   .right;simp only[cC,u,Lu h.2,C4,g]
   have:=q.2.1;omega
 |pb r c=>
  cases d:lk A.roots r with
  |none=>left;simp only[cC,d]
  |some e=>
   obtain⟨m,x⟩:=e;obtain⟨g,h|⟨_,h|h⟩⟩:=root q d
   .cases x with
    |bx w=>right;simp only[cC,d,h.2,C4,g]
    |_=>left;simp only[cC,d]
   .obtain⟨B,o,f,rfl,h⟩:=h;left;simp only[cC,d]
   obtain⟨w,j,f,rfl,h,_⟩:=h;right;simp only[cC,d,h,C4,g]
def tN(j:(σ.map (·.2)).Nodup)(k:I9 σ X X' A){c h:XC}(l:K8 σ X c h){y:C}(b:Ba y (cC X'.roots h)):Ba (C4 σ y) (cC A.roots c):=by
 rcases l with rfl|⟨rfl,n⟩|⟨v,d,f⟩|⟨id,o,rfl,rfl,m,i⟩
 .exact .inr rfl
 .exact mA (κ:=C4 σ) rfl b (ie k n)
 .rw[f]at b;rw[d,b.eq (by simp)];exact .inl rfl
 cases g:lk A.roots id with
 |none=>right;simp only[cC,g]
 |some e=>
  obtain⟨q,x⟩:=e;rcases k id q x g with ⟨a,_⟩|⟨_,p,s,t,r,rfl,d,f⟩
  .omega
  have:p=o:=by rw[<-VN j f,<-VN j i]
  subst this;simp only[cC,d]at b;rw[b.eq (by simp)];left;simp only[cC,g,C4,i]
def tO(f:(σ.map (·.2)).Nodup)(g:I9 σ X X' A):∀{b a:List (Nat×XC)}{c:List C},Ai (λ(e d:Nat×XC)=>K8 σ X e.2 d.2) b a->Ai Ba c (a.map λe=>cC X'.roots e.2)->Ai Ba (c.map (C4 σ)) (b.map λe=>cC A.roots e.2)
 |[],[],[],_,_=>trivial
 |e::b,d::a,y::c,h,w=>⟨tN f g h.1 w.1,tO f g h.2 w.2⟩
 |[],_::_,_,h,_=>h.elim
 |_::_,[],_,h,_=>h.elim
 |[],[],_::_,_,w=>w.elim
 |_::_,_::_,[],_,w=>w.elim
def Zjt{E:St}(R:XOk X)(S:XOk X')(G:Ext X X')(w:SimX X' E)(p:Nz σ A.next E.fix=true)(U:A.fix=X'.fix)(u:I9 σ X X' A)(H:Pz σ X X' A):Le E (MW A):=by
 have L:(σ.map (·.2)).Nodup:=by
  simp only[Nz,A6,AA]at p;exact p.1.1
 refine Le.ren2 σ (by rw[w.fix];exact U) p ?_ ?_
 .intro t x d;simp only[MW,hU]at d;cases C:lk A.env t with
  |none=>rw[C]at d;simp at d
  |some e=>
   obtain⟨s,v⟩:=e;rw[C]at d;simp only[Dg,Ac]at d;subst d;rcases H t s v C with ⟨o,m⟩|⟨f,c,W,rfl,o,m⟩
   .rcases w.env t s v o with rfl|⟨y,n,l⟩
    .exact .inl rfl
    exact .inr ⟨y,n,wv (κ:=C4 σ) rfl (λc B=>ie u B) (Dt.ext (AE _) (AE _) G.roots m) l⟩
   rcases w.env t f _ o with h|⟨y,n,l⟩
   .simp at h
   refine .inr ⟨y,n, ?_⟩;cases y with
   |a y=>cases y with
    |c y=>exact tN L u m l
    |ag _=>exact l.elim
   |_=>exact l.elim
 intro r x d;simp only[MW,aM]at d;split at d
 .rename_i s z C;rcases u r s z C with ⟨a,b,c⟩|⟨a,M,V,J,f,rfl,o,m⟩
  .have k:∀{f:Nat} {D:XR},lk X'.roots r=some (f,D)->(∀y,D1 X'.roots D=some y->∀g,H5 g y->H5 (HK σ g) x)->(∃y,D1 X'.roots D=some y)->∃N y,get E.roots N=some y/\get σ N=some r/\H5 (HK σ y) x:=by
    intro f D I j ⟨y,i⟩;obtain⟨g,n,l⟩:=w.roots r f D I y i;exact⟨r,g,n,b,j y i g l⟩
   rcases c with ⟨K,q⟩|⟨K,⟨V,J,f,rfl,q⟩|⟨F,Q,f,rfl,q,P⟩⟩
   .refine k q ?_ ?_
    .intro y i g j;cases z with
     |tr t J=>
      simp only[D1,Ac]at d i;subst d i;cases g<;>first|exact j|exact j.elim
     |im t J=>
      simp only[D1,Ac]at d i;subst d i;cases g<;>first|exact j|exact j.elim
     |bx F=>
      simp only[D1,Ac]at d i;subst d i;cases g with
      |bx O=>
       have o:Ai Ba O ((F.map (·.2)).map (cC X'.roots)):=by rw[GO];exact j
       have m:=dI (κ:=C4 σ) rfl (λc B=>ie u B) (λc B=>by
        obtain⟨e,T,rfl⟩:=CC.1 B;exact Bj.ext (AE _) (AE _) G.roots (R.box r s F (G.roots r s _ q K) e T).2) o
       rw[GO]at m;exact m
      |_=>exact j.elim
     |gone=>simp[D1]at d
    cases z with
    |gone=>simp[D1]at d
    |_=>exact⟨_,rfl⟩
   .refine k q ?_ ⟨_,rfl⟩;intro y i g j;simp only[D1,Ac]at d i;subst d i;cases g<;>first|exact j|exact j.elim
   refine k q ?_ ⟨_,rfl⟩;intro y i g j;simp only[D1,Ac]at d i;subst d i;cases g with
   |bx O=>exact tO L u P j
   |_=>exact j.elim
  obtain⟨g,n,l⟩:=w.roots M f _ o _ rfl;simp only[D1,Ac]at d;subst d;refine⟨M,g,n,m, ?_⟩;cases g<;>first|exact l|exact l.elim
 simp at d
def Sq{l:List Nat}:∀{m:List Nat},O3 l m=true->∀r∈m,r ∉ l
 |[],_,r,a=>by simp at a
 |q::m,h,r,a=>by
  simp only[O3]at h;split at h
  .simp at h
  rename_i b;rcases AX.1 a with rfl|a
  .exact λc=>by rw[V8.2 c]at b;simp at b
  exact Sq h r a
def ke(g:XOk X)(f:Ext X X'):∀{l:List Nat},WG X X' l=true->∀r∈l,∀e,lk X.roots r=some e->lk X'.roots r=some e
 |[],_,r,a,_,_=>by simp at a
 |q::l,h,r,a,e,b=>by
  simp only[WG]at h;split at h
  .rename_i s x m k c i;simp only[A6]at h;have j:=B6 h.1;subst j;rcases AX.1 a with rfl|a
   .have d:=f.roots r s k i (g.ids r s x c).2;rw[c]at d b;simp only[Ac,A5,H3]at d b;rw[i,<-d];exact DU some b
   exact ke g f h.2 r a e b
  .rename_i c;rcases AX.1 a with rfl|a
   .rw[c]at b;simp at b
   exact ke g f h r a e b
  simp at h
def qW:∀{s:List (Nat×Nat)}{σ:List (Nat×Nat)},(s.map (·.1)).Nodup->∀p∈s,get (s++σ) p.1=some p.2
 |[],σ,_,p,a=>by simp at a
 |q::s,σ,b,p,a=>by
  simp only[A2,E4]at b;simp only[A1,get];rcases AX.1 a with rfl|a
  .rw[Af rfl]
  rw[Ae (λe=>b.1 (by rw[e];exact CC.2 ⟨p,a,rfl⟩))];exact qW b.2 p a
def Zb3(n r:Nat)(h:r<n):get ((List.range n).map λr=>(r,r)) r=some r:=by
 have b:∀l:List Nat,r∈l->get (l.map λr=>(r,r)) r=some r:=by
  intro l
  induction l with
  |nil=>intro h;simp at h
  |cons a l d=>
   intro h;simp only[A2,get];split
   .rename_i e;rw[e]
   rename_i e;exact d ((AX.1 h).resolve_left λc=>e c.symm)
 exact b _ (Hz.2 h)
def Zb4{s σ:List (Nat×Nat)}{r:Nat}(h:r ∉ s.map (·.1)):get (s++σ) r=get σ r:=by
 induction s with
 |nil=>rfl
 |cons q s a=>
  simp only[A2,AX,not_or]at h;simp only[A1,get];rw[Ae (λe=>h.1 e.symm)];exact a h.2
def Zk1{β:Type}{P:β}{Q:St}{d:List It}{k:Tp (It.tys d)->Option β}(j:XOk X)(U:XOk X')(F:Ext X X')(T:SimX X' Q)(h:jb X X' d k=some P):
  ∃s,k s=some P/\Le Q (MW (J3 X d s)):=by
 unfold jb at h;split at h
 .rename_i vs s m J hp;split at h
  .rename_i hc;simp only[A6]at hc;obtain⟨H,V,W⟩:=hc;have H:=OX H;obtain⟨x,hk,a1⟩:=fZ _ _ _ h;refine⟨x,hk, ?_⟩;have a0:∀p∈s,get (s++(List.range X.next).map λr=>(r,r)) p.1=some p.2:=qW H;have o:∀r,r<X.next->r ∉ s.map (·.1)->get (s++(List.range X.next).map λr=>(r,r)) r=some r:=λr f y=>by rw[Zb4 y,Zb3 _ _ f]
   have O:∀r∈GR X d,r<X.next:=by
    intro r c;have u:∀l:List It,r∈GR X l->r<X.next:=by
     intro l
     induction l with
     |nil=>intro h;simp[GR]at h
     |cons i l g=>
      intro h;cases i with
      |bx t cs=>
       simp only[GR]at h;split at h
       .rename_i q es K;rcases AX.1 h with rfl|h
        .obtain⟨st,L⟩:=Zm K;exact (j.ids _ _ _ L).1
        exact g h
       exact g h
      |sr t ty=>
       simp only[GR]at h;split at h
       .rename_i q K;rcases AX.1 h with rfl|h
        .exact lg j K
        exact g h
       exact g h
      |_=>exact g h
    exact u d c
   obtain⟨a4,N⟩:=n_ j d;have R0:I9 (s++(List.range X.next).map λr=>(r,r)) X X' (PY X d):=by
    intro r st z L;obtain⟨f,y⟩:=Q3 L;have E:=j.ids r st z f;exact .inl ⟨E.1,o r E.1 (Sq V r y),.inl ⟨E.2,ke j F J r y _ f⟩⟩
   have E0:Pz (s++(List.range X.next).map λr=>(r,r)) X X' (PY X d):=by
    intro t st v L;have f:=VQ L;have ht:t∈ON d:=by
     have u:∀(l:List Nat),(∃e,lk (Np X l) t=some e)->t∈l:=by
      intro l
      induction l with
      |nil=>rintro ⟨e,B⟩;simp[Np,lk]at B
      |cons q l g=>
       rintro ⟨e,B⟩;simp only[Np]at B;split at B
       .rw[BO]at B;split at B
        .rename_i e;exact AX.2 (.inl e.symm)
        exact Bx _ (g ⟨e,B⟩)
       exact Bx _ (g ⟨e,B⟩)
     exact u _ ⟨_,L⟩
    have w:QU X X' t=true:=by
     have u:∀(l:List It) (n:Nat) (r:List Sg×List (Nat×Nat)×Nat),pk X X' l n=some r->t∈ON l->QU X X' t=true:=by
      intro l
      induction l with
      |nil=>intro n r _ h;simp[ON]at h
      |cons i l g=>
       intro n r c h;cases i with
       |kt q=>
        simp only[pk]at c;split at c
        .rename_i C;rcases AX.1 h with rfl|h
         .exact C
         exact g _ _ c h
        simp at c
       |lt q ty=>
        simp only[pk]at c;split at c
        .split at c
         .rename_i f y;exact g _ _ y h
         simp at c
        simp at c
       |ot q ty=>
        simp only[pk]at c;split at c
        .split at c
         .rename_i f y;exact g _ _ y h
         simp at c
        simp at c
       |bx q cs=>
        simp only[pk]at c;split at c
        .rename_i C N a5;split at c
         .split at c
          .rename_i E;rcases AX.1 h with rfl|h
           .exact C
           exact g _ _ E h
          simp at c
         simp at c
        simp at c
       |sr q ty=>
        simp only[pk]at c;split at c
        .rename_i C N;split at c
         .split at c
          .rename_i E;rcases AX.1 h with rfl|h
           .exact C
           exact g _ _ E h
          simp at c
         simp at c
        simp at c
     exact u d _ _ hp ht
    obtain⟨s',v',R,g2⟩:=Zna j F w;rw[f]at R;simp only[Ac,A5]at R;obtain⟨rfl,rfl⟩:=R;exact .inl ⟨g2,(j.env _ _ _ f).2⟩
   obtain⟨hR,S,I,Y,D⟩:=T7 j F d (PY X d) X.next vs s m hp rfl (AE _) (AE _) a0 (λr c=>o r (O r c) (Sq W r c)) R0 E0;obtain⟨a3,M⟩:=dE j d x;have a2:J3 X d x=up X d (PY X d) vs:=by simp only[J3,a1]
   rw[a2]at M ⊢;refine Zjt j U F T ?_ (by rw[M.fix,F.fix]) hR S;simp only[Nz,A6,AA,DE,CE,CJ];refine⟨⟨?_, ?_⟩, ?_⟩
   .rw[C2,D,GO];rw[ME];refine⟨List.nodup_range', ?_, ?_⟩
    .have:(List.range X.next).map ((λx:Nat×Nat=>x.2) ∘ λr=>(r,r))=List.range X.next:=by simp[Function.comp_def]
     rw[this];exact List.nodup_range
    intro a ha b K e;subst e;have f:=(ml.1 ha).1;simp only[CC,Function.comp_def,Hz]at K;obtain⟨q,C,rfl⟩:=K;omega
   .intro p Z;rcases C7.1 Z with f|f
    .have:p.2∈s.map (·.2):=CC.2 ⟨p,f,rfl⟩;rw[D,ml]at this;have a6:=j.fixle;have G:Q.fix=X.fix:=by rw[T.fix,F.fix]
     exact⟨by rw[I];omega,.inl (by rw[G];omega)⟩
    obtain⟨q,C,rfl⟩:=CC.1 f;rw[Hz]at C;exact⟨by rw[I];simp only;omega,.inr rfl⟩
   have G:Q.fix=X.fix:=by rw[T.fix,F.fix]
   rw[G,I];exact CW j.fixle Y
  simp at h
 simp at h
end
end Go.Vs
namespace Go.Vs
variable [Glb]
def Zjs{E:List (Nat×V)}{R:List (Nat×Root)}{n f d:Nat}(t:Nat)(p:get E t=some (.a (.c (.nl d)))):Le ⟨E,R,n,f⟩ ⟨put E t (.a (.c (.rf n [] d 0 0))),(n,.tr d [])::R,n+1,f⟩:=by
 refine⟨rfl, ?_⟩;intro N r i q g pl a w h;have o:=h.env t _ p;obtain⟨j,k,l,m⟩:=tP d h;refine⟨_,_,⟨j,k,l, ?_⟩⟩;intro u x b;rw[Bn]at b;split at b
 .rename_i e;subst e;simp only[Ac]at b;subst b;exact oU o
 exact m u x b
def Zjr{E:List (Nat×V)}{R:List (Nat×Root)}{n f i:Nat}{j:List C}(r c:Nat)(q:get R r=some (.bx j))(B:j[c]?= some (.nl i)):Le ⟨E,R,n,f⟩ ⟨E,(n,.tr i [])::put R r (.bx (j.set c (.rf n [] i 0 0))),n+1,f⟩:=by
 refine⟨rfl, ?_⟩;intro N X D T g pl a w m;have p:=(m.hp.roots r _ q).1;have h:=(m.hp.roots r _ q).2;obtain⟨F,G,H,I⟩:=tP i m;obtain⟨J,K,L,M,O,l⟩:=F;refine⟨_,_,⟨⟨J,K,L,M,O, ?_⟩,G,H,I⟩⟩;intro u x b;simp only[get]at b;split at b
 .rename_i e;exact l u x (by simp only[get,Af e];exact b)
 rename_i e;rw[Bn]at b;split at b
 .rename_i A;subst A;simp only[Ac]at b;subst b;have o:=l r (.bx j) (by simp only[get,Ae e];exact q);refine⟨o.1, ?_⟩;intro k y d;rw[Fo]at d;split at d
  .rename_i Q;subst Q;split at d
   .simp only[Ac]at d;subst d;obtain⟨v,s,P,t,z⟩:=o.2 c _ B;obtain⟨W,U,A,_,_⟩:=h c _ B;have S:FY pl n (λ_=>⟨true,0,0,0,i,none⟩) r []=pl r []:=D6 pl n _ r [] p;rw[S]at s t z ⊢;exact⟨v,s,oU P,t,z⟩
   simp at d
  exact o.2 k y d
 exact l u x (by simp only[get,Ae e];exact b)
def Le.refl(S:St):Le S S:=⟨rfl,λN d b c g pl a w h=>⟨g,pl,h⟩⟩
def Le.trans{S T U:St}(e:Le S T)(f:Le T U):Le S U:=⟨f.1.trans e.1,λN i b c g pl a w h=>by
 obtain⟨j,d,k⟩:=e.2 N i b c g pl a w h;exact f.2 N i b c j d a w k⟩
def Mm{X:XSt}{E:List (Nat×V)}{R:List (Nat×Root)}{n f:Nat}(b:SimX X ⟨E,R,n,f⟩){d:Option Nat}{v:V}{xv:XV}(h:CZ v (cV X.roots xv)):SimX (X.put d xv) ⟨Bm d v E,R,n,f⟩:=by
 cases d with
 |none=>exact b
 |some d=>
  refine⟨b.next,b.fix, ?_,b.roots⟩;intro t s w a;simp only[XSt.put]at a;rw[BO]at a;simp only[Bm,Bn];split at a
  .rename_i e;simp only at e;simp only[Ac,A5]at a;obtain⟨_,rfl⟩:=a;rw[Af e];exact .inr ⟨v,rfl,h⟩
  rename_i e;rw[Ae e];exact b.env t s w a
def Zno{X:XSt}{E:List (Nat×V)}{R:List (Nat×Root)}{n f r c s:Nat}{d:List (Nat×XC)}{g:List C}{x:XC}{y:C}(t:XOk X)(B:SimX X ⟨E,R,n,f⟩)(m:lk X.roots r=some (s,.bx d))(O:get R r=some (.bx g))(D:Ai Ba g (d.map λe=>cC X.roots e.2))(F:Bj X.roots X.next X.stamp x)(A:Ba y (cC X.roots x)):
  XOk (X.setR r (.bx (d.set c (X.stamp,x))))/\Ext X (X.setR r (.bx (d.set c (X.stamp,x))))/\SimX (X.setR r (.bx (d.set c (X.stamp,x)))) ⟨E,put R r (.bx (g.set c y)),n,f⟩:=by
 obtain⟨a,b⟩:=LA t (x:=.bx (d.set c (X.stamp,x))) (AE _) (t.ids r s _ m).1 (by
  intro H e j K i;simp only[XR.bx.injEq]at e;subst e;rw[Fo]at i;split at i
  .split at i
   .simp only[Ac]at i;subst i;exact⟨.inl rfl,F⟩
   simp at i
  .exact⟨.inr ⟨s,d,m,i⟩,(t.box r s d m K (CP i)).2⟩)
 refine⟨a,b, ?_⟩;have k:∀l,Bj X.roots X.next X.stamp l->cC ((r,X.stamp,.bx (d.set c (X.stamp,x)))::X.roots) l=.un\/cC ((r,X.stamp,.bx (d.set c (X.stamp,x)))::X.roots) l=BE [] (cC X.roots l):=λl L=>KL (.inr (.inr (.inl ⟨_,_,_,rfl,m⟩))) L;have N:n=X.next:=B.next;subst N;refine NB (X':=X.setR r (.bx (d.set c (X.stamp,x)))) (ks:=[]) (roots:=put R r (.bx (g.set c y))) t B rfl rfl k ?_;intro q S z o;simp only[XSt.setR]at o;rw[BO]at o;split at o
 .rename_i e;simp only at e;subst e;simp only[Ac,A5]at o;obtain⟨_,rfl⟩:=o;right;intro T v;simp only[D1,Ac]at v;subst v;refine⟨_,by rw[Bn,Af rfl], ?_⟩;have Q:Ai Ba (g.set c y) (((d.map (·.2)).set c x).map (cC X.roots)):=by
   have p:Ai Ba g ((d.map (·.2)).map (cC X.roots)):=by rw[GO];exact D
   clear k a b m O D;generalize d.map (·.2)=G at p
   induction G generalizing g c with
   |nil=>cases g with
    |nil=>trivial
    |cons _ _=>exact p.elim
   |cons u G P=>cases g with
    |nil=>exact p.elim
    |cons U g=>cases c with
     |zero=>exact⟨A,p.2⟩
     |succ c=>exact⟨p.1,P p.2⟩
  have w2:=TB (ks:=[]) k (by
   intro l w;rcases UK w with h|h
   .obtain⟨e,M,rfl⟩:=CC.1 h;exact (t.box r s d m e M).2
   .rw[h];exact F) Q
  have I:(g.set c y).map (BE [])=g.set c y:=by
   have:BE []=λc=>c:=by funext c;rfl
   rw[this];simp
  rw[I]at w2;simp only[H5];have J:(d.map (·.2)).set c x=(d.set c (X.stamp,x)).map (·.2):=by simp[RP]
  rw[J,GO]at w2;exact w2
 rename_i e;left;exact⟨o,by rw[Li,Bn,Ae e]⟩
def OY(r:Nat):List Bc->Nat->XSt->XSt
 |[],_,X=>X
 |.O d::a,c,X=>match lk X.roots r with
  |some (_,.bx b)=>match b[c]? with
   |some (_,.nl n)=>match Nat.beq n d.n with
    |true=>OY r a (c+1) ((X.newR (.tr d [])).setR r (.bx (b.set c (X.stamp+1,.rw X.next))))
    |false=>OY r a (c+1) X
   |_=>OY r a (c+1) X
  |_=>OY r a (c+1) X
 |_::a,c,X=>OY r a (c+1) X
def Md:List It->XSt->XSt
 |[],X=>X
 |.ot t b::l,X=>match X.tmp t with
  |.a (.c (.nl n))=>match Nat.beq n b.n with
   |true=>Md l ((X.newR (.tr b [])).put (some t) (.a (.c (.rw X.next))))
   |false=>Md l X
  |_=>Md l X
 |.bx t d::l,X=>match Oq X t with
  |some (r,_)=>Md l (OY r d 0 X)
  |none=>Md l X
 |_::l,X=>Md l X
def nB(X a:XSt)(S:St):Prop:=XOk a/\Ext X a/\∃b,Le S b/\SimX a b
def Pa{r:Nat}:∀(j:List Bc) (c:Nat){X:XSt}{S:St},XOk X->SimX X S->nB X (OY r j c X) S
 |[],c,X,S,g,e=>⟨g,Ext.refl X,S,Le.refl S,e⟩
 |.K::j,c,X,S,g,e=>Pa j _ g e
 |.U::j,c,X,S,g,e=>Pa j _ g e
 |.L _::j,c,X,S,g,e=>Pa j _ g e
 |.O k::j,c,X,S,g,e=>by
  simp only[OY];split
  .rename_i s v q;split
   .rename_i sc n I;split
    .rename_i t;have t:=B6 t;subst t;obtain⟨E,R,M,f⟩:=S;have u:M=X.next:=e.next;subst u;obtain⟨Z,z,G⟩:=Ot e q;obtain⟨y,V,W⟩:=Ro (i:=c) (x:=C.nl k.n) G (by rw[CQ,I];rfl);have Y:=W.eq (by simp);subst Y;obtain⟨a,b,d⟩:=OU (x:=.tr k []) (y:=.tr k.n []) g e (λv h=>by simp at h) ⟨_,rfl,rfl,rfl⟩;have J:=(g.ids r s _ q).1;have o:lk (X.newR (.tr k [])).roots r=some (s,.bx v):=by simp only[XSt.newR];rw[BO,Ae (by simp only;omega)];exact q
     obtain⟨l,m,H⟩:=Ot d o;have F:l=Z:=by
      simp only[get]at m;rw[Ae (by omega),z]at m;simp only[Ac,Root.bx.injEq]at m;exact m.symm
     subst F;obtain⟨B,D,w⟩:=Zno (c:=c) (x:=.rw X.next) (y:=.rf X.next [] k.n 0 0) a d o m H (DG _) (by
      left;simp only[cC,OT];rfl)
     have p:put ((X.next,Root.tr k.n [])::R) r (.bx (l.set c (.rf X.next [] k.n 0 0)))=(X.next,Root.tr k.n [])::put R r (.bx (l.set c (.rf X.next [] k.n 0 0))):=by
      simp only[put];rw[Ae (by omega)]
     rw[p]at w;obtain⟨N,P,A,Q,T⟩:=Pa j (c+1) B w;exact⟨N,(b.trans D).trans P,A,(Zjr r c z V).trans Q,T⟩
    exact Pa j _ g e
   exact Pa j _ g e
  exact Pa j _ g e
def Ny:∀(p:List It){X:XSt}{S:St},XOk X->SimX X S->nB X (Md p X) S
 |[],X,S,g,e=>⟨g,Ext.refl X,S,Le.refl S,e⟩
 |.kt _::l,X,S,g,e=>Ny l g e
 |.lt _ _::l,X,S,g,e=>Ny l g e
 |.sr _ _::l,X,S,g,e=>Ny l g e
 |.bx t u::l,X,S,g,e=>by
  simp only[Md];split
  .rename_i r N O;obtain⟨a,b,M,c,d⟩:=Pa u 0 g e;obtain⟨i,j,z,A,k⟩:=Ny l a d;exact⟨i,b.trans j,z,c.trans A,k⟩
  exact Ny l g e
 |.ot t q::l,X,S,g,e=>by
  simp only[Md];split
  .rename_i n C;split
   .rename_i m;have m:=B6 m;subst m;obtain⟨E,R,D,f⟩:=S;have o:D=X.next:=e.next;subst o;obtain⟨s,B⟩:=ci C (by simp);rcases e.env t s _ B with h|⟨y,J,K⟩
    .simp at h
    have L:=K.c (by simp[cC]);subst L;obtain⟨a,b,d⟩:=OU (x:=.tr q []) (y:=.tr q.n []) g e (λu h=>by simp at h) ⟨_,rfl,rfl,rfl⟩;obtain⟨i,j⟩:=JI a (d:=some t) (v:=.a (.c (.rw X.next))) (DG X.next);have k:=Mm d (d:=some t) (v:=.a (.c (.rf X.next [] q.n 0 0))) (xv:=.a (.c (.rw X.next))) (kJ (OT _ _) rfl);obtain⟨F,G,w,H,I⟩:=Ny l i k;exact⟨F,(b.trans j).trans G,w,(Zjs t J).trans H,I⟩
   exact Ny l g e
  exact Ny l g e
def Lk{β:Type}(X b:XSt)(a:List It)(k:Tp (It.tys a)->Option β):Option β:=jb X (Md a b) a k
def bT{β:Type}{f:β}{X g:XSt}{j:St}{e:List It}{k:Tp (It.tys e)->Option β}(p:XOk X)(i:XOk g)(n:Ext X g)(o:SimX g j)(h:Lk X g e k=some f):
  ∃s,k s=some f/\Le j (MW (J3 X e s)):=by
 obtain⟨a,b,q,c,d⟩:=Ny e i o;obtain⟨s,l,m⟩:=Zk1 p a (n.trans b) d h;exact⟨s,l,c.trans m⟩
def Im{σ ρ:Type}(step:σ->Option (σ ⊕ ρ)):Nat->σ->Option ρ
 |0,_=>none
 |n+1,s=>match step s with
  |some (.inl a)=>Im step n a
  |some (.inr r)=>some r
  |none=>none
open Classical in
noncomputable def Bd{σ ρ:Type}(step:σ->Option (σ ⊕ ρ))(s:σ):Option ρ:=if h:∃r n,Im step n s=some r then some (Classical.choose h) else none
def jH{σ ρ:Type}{step:σ->Option (σ ⊕ ρ)}{s:σ}{r:ρ}(h:Bd step s=some r):∃n,Im step n s=some r:=by
 unfold Bd at h;split at h
 .rename_i a;simp only[Ac]at h;subst h;exact Classical.choose_spec a
 simp at h
def i_{σ ρ:Type}{step:σ->Option (σ ⊕ ρ)}{r:ρ}:∀{n:Nat}{s:σ},Im step n s=some r->∀m,n<=m->Im step m s=some r
 |0,s,h,m,_=>by simp[Im]at h
 |n+1,s,h,m,a=>by
  obtain⟨m,rfl⟩:∃k,m=k+1:=⟨m-1,by omega⟩;simp only[Im]at h ⊢;split at h
  .exact i_ h m (by omega)
  .exact h
  simp at h
def jG{σ ρ:Type}{step:σ->Option (σ ⊕ ρ)}{s:σ}{r:ρ}{n:Nat}(h:Im step n s=some r):Bd step s=some r:=by
 unfold Bd;have b:∃r n,Im step n s=some r:=⟨r,n,h⟩;rw[dif_pos b];obtain⟨m,d⟩:=Classical.choose_spec b;have c:=i_ h (max n m) (Nat.le_max_left _ _);have a:=i_ d (max n m) (Nat.le_max_right _ _);rw[c]at a;rw[<-a]
def LU{σ ρ:Type}(step:σ->Option (σ ⊕ ρ))(s:σ):Bd step s=match step s with
  |some (.inl b)=>Bd step b
  |some (.inr r)=>some r
  |none=>none:=by
 have c:∀r,Bd step s=some r ↔ (match step s with
  |some (.inl b)=>Bd step b
  |some (.inr r)=>some r
  |none=>none)=some r:=by
  intro r;constructor
  .intro h;obtain⟨n,a⟩:=jH h;cases n with
   |zero=>simp[Im]at a
   |succ n=>
    simp only[Im]at a;split at a
    .exact jG a
    .exact a
    simp at a
  intro h;split at h
  .rename_i b d;obtain⟨n,a⟩:=jH h;exact jG (n:=n+1) (by simp only[Im,d];exact a)
  .rename_i f d;exact jG (n:=1) (by simp only[Im,d];exact h)
  simp at h
 cases h:Bd step s with
 |some r=>exact ((c r).1 h).symm
 |none=>
  cases e:(match step s with
   |some (.inl b)=>Bd step b
   |some (.inr r)=>some r
   |none=>none) with
  |none=>rfl
  |some r=>rw[(c r).2 e]at h;simp at h
def AC{σ ρ:Type}(o:Option (σ ⊕ ρ))(f:σ->Option ρ):Option ρ:=match o with
 |some (.inl s)=>f s
 |some (.inr r)=>some r
 |none=>none
def Ks{σ ρ:Type}(o:Option ρ):Option (σ ⊕ ρ):=match o with
 |some r=>some (.inr r)
 |none=>none
def se{σ ρ:Type}{o:Option ρ}{z:σ ⊕ ρ}(h:Ks o=some z):∃r,z=.inr r/\o=some r:=by
 cases o with
 |none=>simp[Ks]at h
 |some r=>simp only[Ks,Ac]at h;exact⟨r,h.symm,rfl⟩
end Go.Vs
namespace Go.Vs
variable [Glb]
structure GArg where
 ptr:Bool
 ag:Bool
 t:Ty
 ms:List M
 o:Option Ty
def QD:Option Ty->List Ty
 |none=>[]
 |some t=>[t]
def Gd:Ty->List Ty
 |.P a b=>IB (Gd a) (Gd b)
 |t=>[t]
def LZ:Ty->Bool
 |.H _=>false
 |.P a b=>match LZ a with
  |true=>LZ b
  |false=>false
 |_=>true
def LP:Ty->Bool
 |.L _=>true
 |_=>false
def i8:List M->List Ty->List Ty
 |m::a,t::b=>match m,LP t with
  |.io,true=>t::i8 a b
  |_,_=>i8 a b
 |_,_=>[]
def IL:List GArg->List Ty
 |[]=>[]
 |a::b=>IB (i8 a.ms (Gd a.t)) (IL b)
def H6:List GArg->List Ty
 |[]=>[]
 |a::b=>match a.ptr with
  |true=>IB (QD a.o) (H6 b)
  |false=>H6 b
def DH:List GArg->List Ty
 |[]=>[]
 |a::b=>a.t::DH b
def Ht:List (Bool×Ty)->List Ty
 |[]=>[]
 |r::a=>r.2::Ht a
def GB(a:List GArg)(b:List (Bool×Ty)):List Ty:=IB (Ht b) (IB (IL a) (H6 a))
def B0{α:Type}:List α->Nat
 |[]=>0
 |_::l=>Nat.succ (B0 l)
def H9(v:Sg):List D:=Al v.1 v.2
def EY(a:GArg)(x:a.t.den):Arg:=match a.ptr with
 |true=>.ptr (a.ms.zip (Al a.t x))
 |false=>.val a.ag (a.ms.zip (Al a.t x))
def Bq:(b:List GArg)->Tp (DH b)->List Arg
 |[],_=>[]
 |a::b,x=>EY a (Tp.hd a.t _ x)::Bq b (Tp.tl a.t _ x)
def Gj:List (Bool×Ty)->List Sg->List (Bool×List D)
 |(ag,_)::a,v::b=>(ag,H9 v)::Gj a b
 |_,_=>[]
def Nn:Sg->Nat×List (List D)
 |⟨.L t,a⟩=>(t.n,a.map (Al t))
 |_=>(0,[])
def Fq:List GArg->List Sg->List (List D)
 |[],_=>[]
 |a::c,b=>match a.ptr with
  |true=>match a.o,b with
   |none,b=>[]::Fq c b
   |some _,v::b=>H9 v::Fq c b
   |some _,[]=>[]
  |false=>Fq c b
def Lj(b:List GArg)(a:List (Bool×Ty))(c:List Sg):Out:=
 ⟨Gj a (c.take (B0 a)),((c.drop (B0 a)).take (B0 (IL b))).map Nn,Fq b ((c.drop (B0 a)).drop (B0 (IL b)))⟩
structure GEnt (P:Program) where
 f:FuncId
 args:List GArg
 res:List (Bool×Ty)
 F:Tp (DH args)->Option (Tp (GB args res))
 ok:∀x y,F x=some y->Gp P f (Bq args x) (Lj args res (EV _ y))
structure GC where
 a:GArg
 cs:List XC
 at?:Option (Nat×Nat)
def OC(X:XSt)(a:GArg)(v:XV):Option GC:=match a.ptr,a.ag,v with
 |false,false,.a (.c c)=>some ⟨a,[c],none⟩
 |false,true,.a (.ag d)=>some ⟨a,d,none⟩
 |true,_,.a (.c (.pb r c))=>match lk X.roots r with
  |some (_,.bx b)=>match Nat.ble (c+B0 a.ms) b.length with
   |true=>some ⟨a,((b.drop c).take (B0 a.ms)).map (·.2),some (r,c)⟩
   |false=>none
  |_=>none
 |_,_,_=>none
def HA(X:XSt):List GArg->List XV->Option (List GC)
 |[],[]=>some []
 |a::b,v::d=>match OC X a v,HA X b d with
  |some g,some c=>match Nat.beq (B0 g.cs) a.t.n&&Nat.beq (B0 a.ms) a.t.n with
   |true=>some (g::c)
   |false=>none
  |_,_=>none
 |_,_=>none
def Px:List GC->List (M×XC)
 |[]=>[]
 |g::b=>g.a.ms.zip g.cs++Px b
def N4:List (M×XC)->List XC
 |[]=>[]
 |(m,c)::l=>match m with
  |.ow=>c::N4 l
  |_=>N4 l
def IM(R:AK):List (M×XC)->Option (List Nat)
 |[]=>some []
 |(m,c)::l=>match m with
  |.io=>match c with
   |.rw r=>match lk R r,IM R l with
    |some (_,.tr _ _),some a=>some (r::a)
    |_,_=>none
   |.rf r _ [(_,_)] 0 _ _=>match lk R r,IM R l with
    |some (_,.tr _ _),some a=>some (r::a)
    |_,_=>none
   |.nl _=>IM R l
   |c=>match Kp c with
    |true=>IM R l
    |false=>none
  |_=>IM R l
def Ln:List (M×XC)->List Nat
 |[]=>[]
 |(m,c)::l=>match m with
  |.rd=>Mh c++Ln l
  |.rx=>Mh c++Ln l
  |_=>Ln l
def HX:List GC->List Nat
 |[]=>[]
 |g::a=>match g.at? with
  |some (r,_)=>r::HX a
  |none=>HX a
def bb{β:Type}(R:AK):(c:List GArg)->List GC->(Tp (DH c)->Option β)->Option β
 |[],_,k=>k ()
 |a::c,d,k=>match d with
  |g::d=>FL R a.t g.cs λx b=>match b with
   |[]=>bb R c d λe=>k (Tp.mk a.t _ x e)
   |_=>none
  |[]=>none
def LG{β:Type}:(T:Ty)->Nat->(t:Ty)->T.den->(List t.den->Option β)->Option β
 |.L d,c,t,e,f=>match c with
  |0=>Ou d t e f
  |_=>none
 |.P a b,c,t,e,f=>match Nat.blt c a.n with
  |true=>LG a c t e.1 f
  |false=>LG b (c-a.n) t e.2 f
 |_,_,_,_,_=>none
def Ml{β:Type}:(T:Ty)->Nat->(t:Ty)->List t.den->T.den->(T.den->Option β)->Option β
 |.L g,c,t,d,e,f=>match c with
  |0=>Ou t g d f
  |_=>none
 |.P a b,c,t,d,e,f=>match Nat.blt c a.n with
  |true=>Ml a c t d e.1 λx=>f (x,e.2)
  |false=>Ml b (c-a.n) t d e.2 λx=>f (e.1,x)
 |_,_,_,_,_,_=>none
def Rn{β:Type}(R:AK):List (M×XC)->Option β->Option β
 |[],k=>k
 |(m,c)::l,k=>match m with
  |.io=>match c with
   |.rf r v [(i,j)] 0 t b=>match lk R r with
    |some (a,.tr T d)=>match Nat.beq a v with
     |true=>Aa (idx d (Int.ofNat i)) λe=>LG T j t e λo=>A3 (Hq o.length b.length) (Rn R l k)
     |false=>none
    |_=>none
   |_=>Rn R l k
  |_=>Rn R l k
def La{β:Type}:List (M×XC)->List Sg->XSt->(XSt->Option β)->Option β
 |[],[],X,k=>k X
 |(m,c)::l,b,X,k=>match m with
  |.io=>match c with
   |.rw r=>match b with
    |⟨.L f,a⟩::b=>match lk X.roots r with
     |some (_,.tr t d)=>Ou f t a λa=>A3 (Hq a.length d.length) (La l b (X.setR r (.tr t a)) k)
     |_=>none
    |_=>none
   |.rf r _ [(i,j)] 0 t h=>match b with
    |⟨.L f,a⟩::b=>match lk X.roots r with
     |some (_,.tr T d)=>Ou f t a λa=>A3 (Hq a.length h.length) (Aa (idx d (Int.ofNat i)) λe=>Ml T j t a e λg=>La l b (X.setR r (.tr T (BS d i g))) k)
     |_=>none
    |_=>none
   |.nl _=>match b with
    |_::b=>La l b X k
    |[]=>none
   |_=>La l b X k
  |_=>La l b X k
 |[],_::_,_,_=>none
def Fv(s:Nat):List M->List Ty->List (Nat×XC)->List XC->List (Nat×XC)
 |m::c,t::d,e::b,a=>match m,LP t with
  |.rx,true=>e::Fv s c d b a
  |_,_=>match a with
   |y::a=>(s,y)::Fv s c d b a
   |[]=>e::Fv s c d b []
 |_,_,_,_=>[]
def Gz:Option Ty->Nat
 |none=>0
 |some t=>t.n
def MV:List GC->List XC->XSt->Option XSt
 |[],_,X=>some X
 |g::e,d,X=>match g.at? with
  |some (r,c)=>match lk X.roots r with
   |some (_,.bx b)=>match Nat.ble (c+B0 g.a.ms) b.length&&LZ g.a.t with
    |true=>MV e (d.drop (Gz g.a.o)) (X.setR r (.bx (b.take c++(Fv X.stamp g.a.ms (Gd g.a.t) ((b.drop c).take (B0 g.a.ms)) (d.take (Gz g.a.o))++b.drop (c+B0 g.a.ms)))))
    |false=>none
   |_=>none
  |none=>MV e d X
def GJ:List Sg->List XD
 |[]=>[]
 |v::a=>NG v.1 v.2++GJ a
def Zp{β:Type}(X:XSt)(c:List GArg)(a:List (Bool×Ty))(F:Tp (DH c)->Option (Tp (GB c a)))(f:List XV)(k:XV->XSt->Option β):Option β:=match HA X c f with
 |some b=>match Fw X.roots (N4 (Px b)),IM X.roots (Px b) with
  |some ow,some io=>match Mc ow&&(Mc (io++HX b)&&(O3 ow io&&O3 (ow++(io++HX b)) (Ln (Px b)))) with
   |true=>Rn X.roots (Px b) <| bb X.roots c b λx=>Aa (F x) λy=>
    La (Px b) (((EV _ y).drop (B0 a)).take (B0 (IL c))) (X.delRs ow) λd=>
     match MV b ((DB (GJ ((EV _ y).take (B0 a)++((EV _ y).drop (B0 a)).drop (B0 (IL c)))) d).1.drop (B0 (GJ ((EV _ y).take (B0 a))))) (DB (GJ ((EV _ y).take (B0 a)++((EV _ y).drop (B0 a)).drop (B0 (IL c)))) d).2 with
     |some e=>k (bh (Lo a (DB (GJ ((EV _ y).take (B0 a)++((EV _ y).drop (B0 a)).drop (B0 (IL c)))) d).1)) e
     |none=>none
   |false=>none
  |_,_=>none
 |none=>none
def Zo{P:Program}{β:Type}(X:XSt)(e:GEnt P)(a:List XV)(k:XV->XSt->Option β):Option β:=Zp X e.args e.res e.F a k
end Go.Vs
namespace Go.Vs
variable [Glb]
def HH{α:Type}:∀l:List α,B0 l=l.length
 |[]=>rfl
 |_::l=>by simp only[B0,Aq,HH l]
def Va:∀(a b:List Ty),IB a b=a++b
 |[],b=>rfl
 |t::a,b=>by simp only[IB,A1,Va a b]
def Qf:∀t:Ty,(Gd t).length=t.n
 |.I _=>rfl
 |.Y=>rfl
 |.B=>rfl
 |.S=>rfl
 |.L _=>rfl
 |.H _=>rfl
 |.P a b=>by simp only[Gd,Va,Cb,Qf a,Qf b,Ty.n]
def kv:∀(a:List Ty) (y:Tp a),(EV a y).map (·.1)=a
 |[],_=>rfl
 |t::a,y=>by simp only[EV,A2,kv a]
def Hw:List M->List XC->List D->List (M×XC×D)
 |m::e,c::a,d::b=>(m,c,d)::Hw e a b
 |_,_,_=>[]
def EC(R:AK)(w:M×XC×D):M×C×D:=(w.1,cC R w.2.1,w.2.2)
def KJ:(b:List GArg)->List GC->Tp (DH b)->List (M×XC×D)
 |[],_,_=>[]
 |a::b,g::c,x=>Hw a.ms g.cs (Al a.t (Tp.hd a.t _ x))++KJ b c (Tp.tl a.t _ x)
 |_,[],_=>[]
section
variable {β:Type} {X:XSt} {S:St} {out:β} {P:Program}
def xG{R:AK}:∀(e:List M) (a:List XC) (b:List D),e.length=a.length->a.length=b.length->K7 (a.map (cC R)) (e.zip b)=some ((Hw e a b).map (EC R))
 |[],[],[],_,_=>rfl
 |m::e,c::a,d::b,f,g=>by
  simp only[Aq,UL]at f g;simp only[A2,Jf,K7,xG e a b f g,Dg,Hw];rfl
 |[],_::_,_,h,_=>by simp at h
 |_::_,[],_,h,_=>by simp at h
 |[],[],_::_,_,h=>by simp at h
 |_::_,_::_,[],_,h=>by simp at h
def xE{R:AK}:∀{e:List M}{b:List XC}{f:List D},Ai (CD R) b f->∀w∈Hw e b f,CD R w.2.1 w.2.2
 |[],_,_,_,w,a=>by simp[Hw]at a
 |m::e,[],_,_,w,a=>by simp[Hw]at a
 |m::e,c::b,[],h,w,a=>h.elim
 |m::e,c::b,d::f,h,w,a=>by
  simp only[Hw,AX]at a;rcases a with rfl|a
  .exact h.1
  exact xE h.2 w a
def xF:∀{a:List M}{b:List XC}{e:List D},b.length=e.length->(Hw a b e).map (λw=>(w.1,w.2.1))=a.zip b
 |[],_,_,_=>by simp[Hw]
 |m::a,[],[],_=>by simp[Hw]
 |m::a,c::b,d::e,h=>by
  simp only[Aq,UL]at h;simp only[Hw,A2,Jf,xF h]
 |m::a,c::b,[],h=>by simp at h
 |m::a,[],_::_,h=>by simp at h
def Zbz(H:XOk X)(D:SimX X S){a:GArg}{v:XV}{y:V}{g:GC}{x:a.t.den}(i:CZ y (cV X.roots v))(J:Dt X.roots X.next X.stamp v)(h:OC X a v=some g)(m:g.cs.length=a.t.n)(I:a.ms.length=a.t.n)(b:Ai (CD X.roots) g.cs (Al a.t x)):
  OA S.roots y (EY a x)=some ((Hw a.ms g.cs (Al a.t x)).map (EC X.roots)):=by
 have E:=Cv a.t x;have e:=xG (R:=X.roots) a.ms g.cs (Al a.t x) (by omega) (by omega);have k:(a.ms.zip (Al a.t x)).length=a.ms.length:=by rw[dx];omega
 unfold OC at h;split at h
 .rename_i c l f;simp only[Ac]at h;subst h;simp only at b e m
  match hd:Al a.t x,b with
  |[d],b=>
   rw[hd]at e;rw[i.c b.1.ne];simp only[EY,l,f,OA,hd];exact e
 .rename_i G l f;simp only[Ac]at h;subst h;simp only at b e m;cases y with
  |a z=>cases z with
   |ag K=>
    have:=KN b i;subst this;simp only[EY,l,f,OA];exact e
   |c _=>exact i.elim
  |_=>exact i.elim
 .rename_i r c l;split at h
  .rename_i s w j;split at h
   .rename_i o;simp only[Ac]at h;subst h;simp only at b e m;have o:=AS o;rw[HH]at o b e m;simp only[cV,cA,cC,j]at i;have F:=i.c (by simp);subst F;obtain⟨u,A,q⟩:=Ot D j;have p:=q.length;rw[B3]at p;have B:Ai Ba ((u.drop c).take a.ms.length) ((((w.drop c).take a.ms.length).map (·.2)).map (cC X.roots)):=by
     have:=JU (n:=a.ms.length) (J4 (n:=c) q);rw[GO,Fp,F4];exact this
    have C:=KN b B;simp only[EY,l,OA,A,k];rw[Af (by omega),C,HH];exact e
   simp at h
  simp at h
 simp at h
def qT(K:XOk X)(U:SimX X S):∀(l:List GArg) (H:List XV) (F:List V) (n:List GC) (k:Tp (DH l)->Option β),Ai (λy v=>CZ y (cV X.roots v)/\Dt X.roots X.next X.stamp v) F H->HA X l H=some n->bb X.roots l n k=some out ->
  ∃x,k x=some out/\Ig S.roots F (Bq l x)=some ((KJ l n x).map (EC X.roots))/\(∀w∈KJ l n x,CD X.roots w.2.1 w.2.2/\Bj X.roots X.next X.stamp w.2.1)/\(KJ l n x).map (λw=>(w.1,w.2.1))=Px n/\(B7 F (Bq l x)).map (·.1)=HX n
 |[],[],[],n,k,_,j,h=>by
  simp only[HA,Ac]at j;subst j;exact⟨(),h,rfl,by simp[KJ],rfl,rfl⟩
 |a::l,v::H,y::F,n,k,o,j,h=>by
  simp only[HA]at j;split at j
  .rename_i g J f h2;split at j
   .rename_i N;simp only[Ac]at j;subst j;simp only[A6,HH]at N;have A:=B6 N.1;have O:=B6 N.2;simp only[bb]at h;have C:∀c∈g.cs,Bj X.roots X.next X.stamp c:=by
     have b:=f;unfold OC at b;have W:=o.1.2;split at b
     .simp only[Ac]at b;subst b;intro c q;simp only[Db]at q;subst q;exact W
     .simp only[Ac]at b;subst b;exact W
     .split at b
      .rename_i s T u;split at b
       .simp only[Ac]at b;subst b;intro c q;obtain⟨e,he,rfl⟩:=CC.1 q;exact (K.box _ s T u e (Gm (G4 he))).2
       simp at b
      simp at b
     simp at b
    obtain⟨x,c0,Y,q,h,B⟩:=Mg a.t g.cs _ out C h;split at h
    .rw[AB]at q;subst q;obtain⟨xs,h,Z,f2,f3,I⟩:=qT K U l H F J _ o.2 h2 h;have g1:=Zbz (x:=x) K U o.1.1 o.1.2 f A O B;refine⟨_,h, ?_, ?_, ?_, ?_⟩
     .simp only[Bq,Tp.hd_mk,Tp.tl_mk,Ig,g1,Z,KJ,C2]
     .intro w i;simp only[KJ,Tp.hd_mk,Tp.tl_mk,C7]at i;rcases i with i|i
      .refine⟨xE B w i, ?_⟩;have R:∀(G:List M) (p:List XC) (z:List D),w∈Hw G p z->w.2.1∈p:=by
        intro G
        induction G with
        |nil=>intro p z h;simp[Hw]at h
        |cons m G ih=>
         intro p z h;cases p with
         |nil=>simp[Hw]at h
         |cons c p=>cases z with
          |nil=>simp[Hw]at h
          |cons d z=>
           simp only[Hw,AX]at h;rcases h with rfl|h
           .exact B5
           exact Bx _ (ih p z h)
       exact C _ (R _ _ _ i)
      exact f2 w i
     .simp only[KJ,Tp.hd_mk,Tp.tl_mk,C2,Px,f3];have Q:g.a=a:=by
       unfold OC at f;split at f
       .simp only[Ac]at f;subst f;rfl
       .simp only[Ac]at f;subst f;rfl
       .split at f
        .split at f
         .simp only[Ac]at f;subst f;rfl
         simp at f
        simp at f
       simp at f
      rw[xF (by rw[Cv];exact A),Q]
     -- variables that are handed
     simp only[Bq,Tp.hd_mk,Tp.tl_mk];have b:=f;unfold OC at b;split at b
     .rename_i c E L;simp only[Ac]at b;subst b;simp only[EY,E,HX,B7,I]
     .rename_i p E L;simp only[Ac]at b;subst b;simp only[EY,E,HX,B7,I]
     .rename_i r c E;split at b
      .rename_i s T u;split at b
       .simp only[Ac]at b;subst b;have hy:y=.a (.c (.pb r c)):=by
         have:=o.1.1;simp only[cV,cA,cC,u]at this;exact this.c (by simp)
        subst hy;simp only[EY,E,HX,B7,A2,I]
       simp at b
      simp at b
     simp at b
    simp at h
   simp at j
  simp at j
 |[],_::_,_,_,_,_,j,_=>by simp[HA]at j
 |_::_,[],_,_,_,_,j,_=>by simp[HA]at j
 |[],[],_::_,_,_,o,_,_=>o.elim
 |_::_,_::_,[],_,_,o,_,_=>o.elim
def sh{R:AK}:∀(W:List (M×XC×D)),(∀w∈W,CD R w.2.1 w.2.2)->(((W.map (EC R)).filter JF).map (·.2.1))=(N4 (W.map λw=>(w.1,w.2.1))).map (cC R)/\Ai (CD R) (N4 (W.map λw=>(w.1,w.2.1))) (((W.map (EC R)).filter JF).map (·.2.2))
 |[],_=>⟨rfl,trivial⟩
 |(m,c,d)::W,h=>by
  obtain⟨a,b⟩:=sh W λw g=>h w (Bx _ g);have f:=h _ B5;cases m with
  |ow=>
   have e:JF (EC R (M.ow,c,d))=true:=rfl;simp only[A2,MH,e,BF,N4];exact⟨by rw[a];rfl,⟨f,b⟩⟩
  |rd=>
   have e:JF (EC R (M.rd,c,d))=false:=rfl;simp only[A2,MH,e,N4];exact⟨a,b⟩
  |rx=>
   have e:JF (EC R (M.rx,c,d))=false:=rfl;simp only[A2,MH,e,N4];exact⟨a,b⟩
  |io=>
   have e:JF (EC R (M.io,c,d))=false:=rfl;simp only[A2,MH,e,N4];exact⟨a,b⟩
def oB{R:AK}{r s:Nat}{t:Ty}{a:List t.den}{d:D}(b:lk R r=some (s,.tr t a))(h:CD R (.rw r) d):d=.sl t.n (a.map (Al t)):=by
 refine oA h (.inr (.inr ⟨t,a,r,[],0,a.map (Al t),by simp[cC,b], ?_,by simp, ?_,rfl,.inl rfl⟩))
 .simp only[D5,b];rfl
 rw[AJ,F3 (by simp)]
def rb{R:AK}{c:XC}{d:D}(a:Kp c=true)(h:CD R c d):∃v,cC R c=.lf v/\d=.lf v:=by
 rcases h with h|⟨n,rfl,_⟩|⟨t,f,r,p,e,l,b,_⟩
 .exact h
 .simp[Kp]at a
 exfalso;cases c<;>simp[Kp]at a<;>simp[cC]at b
def t7{R:AK}{r v c:Nat}{p:Ao}{t:Ty}{e:List t.den}{d:D}(h:CD R (.rf r v p c t e) d):cC R (.rf r v p c t e)=.rf r p t.n c e.length/\∃(b:Ty) (a:List b.den),d=.sl b.n (a.map (Al b)):=by
 rcases h with ⟨j,h,_⟩|⟨n,h,_⟩|⟨b,a,i,g,f,l,h,_,_,_,hd,_⟩
 .simp only[cC]at h;split at h<;>simp at h
 .simp at h
 refine⟨?_,b,a,hd⟩;simp only[cC]at h ⊢;split at h
 .rfl
 simp at h
def hI{β:Type}{out:β}:∀(T:Ty) (c:Nat) (t:Ty) (e:T.den) (f:List t.den->Option β),LG T c t e f=some out->∃o,f o=some out/\(Al T e)[c]?= some (.sl t.n (o.map (Al t)))
 |.L k,c,t,e,f,h=>by
  unfold LG at h;cases c with
  |zero=>
   obtain⟨o,g,rfl,j,_⟩:=Sj h;exact⟨o,g,by simp only[Al,AD,j]⟩
  |succ c=>simp at h
 |.P a b,c,t,e,f,h=>by
  unfold LG at h;split at h
  .rename_i d;obtain⟨o,g,i⟩:=hI a c t e.1 f h;refine⟨o,g, ?_⟩;have d:c<a.n:=AS d;simp only[Al];rw[E3 (by rw[Cv];exact d)];exact i
  rename_i d;obtain⟨o,g,i⟩:=hI b (c-a.n) t e.2 f h;refine⟨o,g, ?_⟩;have d:a.n<=c:=by
   exact mn (dt (mo (by rw[show (c+1).ble a.n=false from d];simp)))
  simp only[Al];rw[Dh (by rw[Cv];exact d),Cv];exact i
 |.I _,c,t,e,f,h=>by simp[LG]at h
 |.Y,c,t,e,f,h=>by simp[LG]at h
 |.B,c,t,e,f,h=>by simp[LG]at h
 |.S,c,t,e,f,h=>by simp[LG]at h
def kf{β:Type}{out:β}:∀(T:Ty) (c:Nat) (t:Ty) (g:List t.den) (e:T.den) (f:T.den->Option β),Ml T c t g e f=some out->∃i o,f i=some out/\Al T i=(Al T e).set c (.sl t.n (g.map (Al t)))/\(Al T e)[c]?= some (.sl t.n o)
 |.L m,c,t,g,e,f,h=>by
  unfold Ml at h;cases c with
  |zero=>
   obtain⟨o,j,rfl,k,_⟩:=Sj h;exact⟨o,e.map (Al t),j,by simp only[Al,RR,k],rfl⟩
  |succ c=>simp at h
 |.P a b,c,t,g,e,f,h=>by
  unfold Ml at h;split at h
  .rename_i d;obtain⟨i,o,j,l,k⟩:=kf a c t g e.1 _ h;refine⟨(i,e.2),o,j, ?_, ?_⟩
   .have d:c<a.n:=AS d;simp only[Al];rw[mi _ _ (by rw[Cv];exact d),l]
   have d:c<a.n:=AS d;simp only[Al];rw[E3 (by rw[Cv];exact d)];exact k
  rename_i d;obtain⟨i,o,j,l,k⟩:=kf b (c-a.n) t g e.2 _ h;have d:a.n<=c:=by
   exact mn (dt (mo (by rw[show (c+1).ble a.n=false from d];simp)))
  refine⟨(e.1,i),o,j, ?_, ?_⟩
  .simp only[Al];rw[Yu _ _ (by rw[Cv];exact d),Cv,l]
  simp only[Al];rw[Dh (by rw[Cv];exact d),Cv];exact k
 |.I _,c,t,g,e,f,h=>by simp[Ml]at h
 |.Y,c,t,g,e,f,h=>by simp[Ml]at h
 |.B,c,t,g,e,f,h=>by simp[Ml]at h
 |.S,c,t,g,e,f,h=>by simp[Ml]at h
def lu{β:Type}{out:β}{R:AK}:∀(Z:List (M×XC)){k:Option β},Rn R Z k=some out->k=some out/\∀(r v i j:Nat) (t:Ty) (d:List t.den),(M.io,XC.rf r v [(i,j)] 0 t d)∈Z->∃(T:Ty) (f:List T.den) (o:List t.den),lk R r=some (v,.tr T f)/\AH T.n (f.map (Al T)) [(i,j)]=some (t.n,o.map (Al t))/\o.length=d.length
 |[],k,h=>⟨h,by simp⟩
 |(m,c)::Z,k,h=>by
  have skip:Rn R Z k=some out->(∀(r v i j:Nat) (t:Ty) (d:List t.den),¬((m,c)=(M.io,XC.rf r v [(i,j)] 0 t d)))->k=some out/\∀(r v i j:Nat) (t:Ty) (d:List t.den),(M.io,XC.rf r v [(i,j)] 0 t d)∈(m,c)::Z->∃(T:Ty) (f:List T.den) (o:List t.den),lk R r=some (v,.tr T f)/\AH T.n (f.map (Al T)) [(i,j)]=some (t.n,o.map (Al t))/\o.length=d.length:=by
   intro h g;obtain⟨a,b⟩:=lu Z h;exact⟨a,λr v i j t d l=>b r v i j t d ((AX.1 l).resolve_left λe=>g r v i j t d e.symm)⟩
  simp only[Rn]at h;cases m with
  |io=>
   simp only at h;split at h
   .rename_i r v i j t d;split at h
    .rename_i G T f A;split at h
     .rename_i q;have q:=B6 q;subst q;obtain⟨e,z,h⟩:=G6 h;obtain⟨o,h,B⟩:=hI T j t e _ h;obtain⟨x,h⟩:=Es h;simp only[Hq,AA]at x;obtain⟨a,b⟩:=lu Z h;refine⟨a,λD F y C E u l=>?_⟩;rcases AX.1 l with w|l
      .simp only[A5,XC.rf.injEq,H3,List.cons.injEq,PK]at w;obtain⟨rfl,rfl,⟨rfl,rfl⟩,rfl,p⟩:=w;have p:=eq_of_heq p;subst p;refine⟨T,f,o,A, ?_,x⟩;simp only[AH,CQ];have s:f[y]?= some e:=by simpa[idx] using z
       rw[s];simp only[Dg,DF,B]
      exact b D F y C E u l
     simp at h
    simp at h
   rename_i g;exact skip h λr v i j t d e=>by
    simp only[A5,H3]at e;exact g r v i j t d e
  |rd=>exact skip h λr v i j t d e=>by simp at e
  |rx=>exact skip h λr v i j t d e=>by simp at e
  |ow=>exact skip h λr v i j t d e=>by simp at e
def i9{R:AK}:∀(W:List (M×XC×D)) (io:List Nat),(∀w∈W,CD R w.2.1 w.2.2)->IM R (W.map λw=>(w.1,w.2.1))=some io->BD (W.map (EC R))=io
 |[],io,_,h=>by simp only[CB,IM,Ac]at h;subst h;rfl
 |(m,c,d)::W,io,q,h=>by
  have e:=λio h=>i9 W io (λw x=>q w (Bx _ x)) h;have a:=q _ B5;simp only at a;simp only[A2,IM]at h;cases m with
  |io=>
   simp only at h;split at h
   .rename_i r;split at h
    .rename_i s t A b k g;simp only[Ac]at h;subst h;have hd:=oB k a;subst hd;simp only[A2,EC,cC,k,BD,e b g]
    simp at h
   .rename_i r v i j t y;split at h
    .rename_i s T A b k g;simp only[Ac]at h;subst h;obtain⟨u,E,z,rfl⟩:=t7 a;simp only[A2,EC,u,BD,e b g]
    simp at h
   .rename_i n;rcases a with ⟨v,f,_⟩|⟨C,f,rfl⟩|⟨t,y,r,p,B,l,f,_⟩
    .simp[cC]at f
    .simp only[A2,EC,cC,BD];exact e io h
    simp[cC]at f
   split at h
   .rename_i o;obtain⟨v,f,rfl⟩:=rb o a;simp only[A2,EC,f,BD];exact e io h
   simp at h
  |rd=>simp only[A2,EC,BD];exact e io h
  |rx=>simp only[A2,EC,BD];exact e io h
  |ow=>simp only[A2,EC,BD];exact e io h
def Zlk{R:AK}{c:XC}{r:Nat}{p:Ao}{s a n:Nat}(h:cC R c=.rf r p s a n):r∈Mh c:=by
 cases c with
 |rw q=>simp only[cC]at h;split at h<;>simp at h<;>simp[Mh,h.1]
 |rv q _ _=>simp only[cC]at h;split at h<;>simp at h<;>simp[Mh,h.1]
 |rf q v d b t e=>simp only[cC]at h;split at h<;>simp at h;simp[Mh,h.1]
 |pe _ _ _ _ _ _ _=>simp only[cC]at h;split at h<;>simp at h
 |pb _ _=>simp only[cC]at h;split at h<;>simp at h
 |_=>simp[cC]at h
def Ws:∀{Z:List (M×XC)}{m:M}{c:XC}{r:Nat},(m,c)∈Z->m=.rd\/m=.rx->r∈Mh c->r∈Ln Z
 |[],m,c,r,h,_,_=>by simp at h
 |(f,g)::Z,m,c,r,h,a,b=>by
  rcases AX.1 h with e|d
  .simp only[A5]at e;obtain⟨rfl,rfl⟩:=e;rcases a with rfl|rfl<;>(simp only[Ln];exact RN _ b)
  cases f with
  |rd=>simp only[Ln];exact Jh _ (Ws d a b)
  |rx=>simp only[Ln];exact Jh _ (Ws d a b)
  |ow=>simp only[Ln];exact Ws d a b
  |io=>simp only[Ln];exact Ws d a b
def OM{R:AK}:∀{Z:List (M×XC)}{io:List Nat}{c:XC},IM R Z=some io->(M.io,c)∈Z->(∃r s t g,c=.rw r/\lk R r=some (s,.tr t g)/\r∈io)\/((∃n,c=.nl n)\/Kp c=true)\/∃r v i j t K s T g,c=.rf r v [(i,j)] 0 t K/\lk R r=some (s,.tr T g)/\r∈io
 |[],io,c,_,f=>by simp at f
 |(m,L)::Z,io,c,h,f=>by
  simp only[IM]at h;cases m with
  |io=>
   simp only at h;split at h
   .rename_i r;split at h
    .rename_i s t g G E D;simp only[Ac]at h;subst h;rcases AX.1 f with e|f
     .simp only[A5,H3]at e;subst e;exact .inl ⟨r,s,t,g,rfl,E,B5⟩
     rcases OM D f with ⟨H,I,J,k,a,b,d⟩|h|h
     .exact .inl ⟨H,I,J,k,a,b,Bx _ d⟩
     .exact .inr (.inl h)
     obtain⟨l,o,p,q,u,w,x,y,z,A,B,C⟩:=h;exact .inr (.inr ⟨l,o,p,q,u,w,x,y,z,A,B,Bx _ C⟩)
    simp at h
   .rename_i r v i j t K;split at h
    .rename_i s T g G E D;simp only[Ac]at h;subst h;rcases AX.1 f with e|f
     .simp only[A5,H3]at e;subst e;exact .inr (.inr ⟨r,v,i,j,t,K,s,T,g,rfl,E,B5⟩)
     rcases OM D f with ⟨H,I,J,k,a,b,d⟩|h|h
     .exact .inl ⟨H,I,J,k,a,b,Bx _ d⟩
     .exact .inr (.inl h)
     obtain⟨l,o,p,q,u,w,x,y,z,A,B,C⟩:=h;exact .inr (.inr ⟨l,o,p,q,u,w,x,y,z,A,B,Bx _ C⟩)
    simp at h
   .rename_i n;rcases AX.1 f with e|f
    .simp only[A5,H3]at e;subst e;exact .inr (.inl (.inl ⟨n,rfl⟩))
    exact OM h f
   split at h
   .rename_i F;rcases AX.1 f with e|f
    .simp only[A5,H3]at e;subst e;exact .inr (.inl (.inr F))
    exact OM h f
   simp at h
  |rd=>exact OM h ((AX.1 f).resolve_left (by simp))
  |rx=>exact OM h ((AX.1 f).resolve_left (by simp))
  |ow=>exact OM h ((AX.1 f).resolve_left (by simp))
def Zni(L:SimX X S){W:List (M×XC×D)}{ow io hb:List Nat}{Z:List (Nat×Root)}(hW:∀w∈W,CD X.roots w.2.1 w.2.2)(Q:IM X.roots (W.map λw=>(w.1,w.2.1))=some io)(u:∀r,get Z r=if r∈ow then none else get S.roots r)(E:∀r∈io,r ∉ ow)(N:∀r∈Ln (W.map λw=>(w.1,w.2.1)),r ∉ ow++(io++hb))(V:∀(r v i j:Nat) (t:Ty) (e:List t.den),(M.io,XC.rf r v [(i,j)] 0 t e)∈W.map (λw=>(w.1,w.2.1))->∃(T:Ty) (y:List T.den) (o:List t.den),lk X.roots r=some (v,.tr T y)/\AH T.n (y.map (Al T)) [(i,j)]=some (t.n,o.map (Al t))/\o.length=e.length):∀x∈W.map (EC X.roots),WI Z (io++hb) x:=by
 intro x hx;obtain⟨⟨m,c,d⟩,hw,rfl⟩:=CC.1 hx;have B:=hW _ hw;simp only at B;have Y:(m,c)∈W.map λw=>(w.1,w.2.1):=CC.2 ⟨_,hw,rfl⟩;simp only[EC];have b:(m=.rd\/m=.rx)->∀{t:Ty} {e:List t.den} {r:Nat} {p:Ao} {g:Nat} {l:List (List D)},cC X.roots c=.rf r p t.n g e.length->D5 X.roots r p=some (t.n,l)->g+e.length<=l.length->(l.drop g).take e.length=e.map (Al t)->(g=0\/0<e.length) ->
   t.n=t.n/\(g=0\/0<e.length)/\r ∉ io++hb/\∃l,EA Z r p=some (t.n,l)/\g+e.length<=l.length/\e.map (Al t)=(l.drop g).take e.length:=by
  intro hm t e r p g l a h K k h5;have U:=N r (Ws Y hm (Zlk a));rw[C7,not_or]at U;refine⟨rfl,h5,U.2,l, ?_,K,k.symm⟩;have:=ST L h;unfold EA at this ⊢;rw[u r,Ae U.1];exact this
 rcases B with ⟨v,a,rfl⟩|⟨n,rfl,rfl⟩|⟨t,e,r,p,g,l,a,h,K,k,rfl,h6⟩
 .cases m<;>first|trivial|exact a
 .cases m<;>first|trivial|exact⟨rfl,rfl⟩
 cases m with
 |ow=>trivial
 |rd=>rw[a];exact b (.inl rfl) a h K k h6
 |rx=>rw[a];exact b (.inr rfl) a h K k h6
 |io=>
  rcases OM Q Y with ⟨f,s,G,y,rfl,F,q⟩|(⟨n,rfl⟩|R)|⟨f,v,i,j,G,ws',s,T,y,rfl,F,q⟩
  .simp only[cC,F,C.rf.injEq]at a;obtain⟨rfl,rfl,z,rfl,A⟩:=a;obtain⟨y',y1,I⟩:=L.roots f s _ F _ rfl;have O:get S.roots f=some (.tr G.n (y.map (Al G))):=by
    cases y' with
    |tr _ _=>obtain⟨rfl,rfl⟩:=I;exact y1
    |_=>exact I.elim
   simp only[D5,F,AH,Ac,A5]at h;obtain⟨e6,rfl⟩:=h;rw[AJ,<-A,F3 (by simp)]at k;simp only[cC,F];refine⟨z,rfl,by rw[B3,A],G.n,y.map (Al G),by rw[u f,Ae (E f q)];exact O, ?_⟩;simp only[AH,Ac,A5];exact⟨z,k⟩
  .simp[cC]at a
  .exfalso;cases c<;>simp[Kp]at R<;>simp[cC]at a
  obtain⟨J,H,o,w1,w2,w3⟩:=V _ _ _ _ _ _ Y;have hv:Dp X.roots f v=true:=Lu w1;simp only[cC,hv,C.rf.injEq]at a;obtain⟨rfl,rfl,z,rfl,A⟩:=a;obtain⟨y',y1,I⟩:=L.roots f _ _ w1 _ rfl;have O:get S.roots f=some (.tr J.n (H.map (Al J))):=by
   cases y' with
   |tr _ _=>obtain⟨rfl,rfl⟩:=I;exact y1
   |_=>exact I.elim
  simp only[D5,w1,w2,Ac,A5]at h;obtain⟨e6,rfl⟩:=h;rw[AJ,<-A,<-w3,F3 (by simp)]at k;simp only[cC,hv];refine⟨z,rfl,by rw[B3,A],J.n,H.map (Al J),by rw[u f,Ae (E f q)];exact O, ?_⟩;rw[w2,z,k]
end
end Go.Vs
namespace Go.Vs
variable [Glb]
section
variable {β:Type} {X:XSt} {S:St} {out:β} {P:Program}
def uu{E:List (Nat×V)}{R:List (Nat×Root)}{n f r s:Nat}{t:Ty}{j xs':List t.den}(g:XOk X)(k:SimX X ⟨E,R,n,f⟩)(l:lk X.roots r=some (s,.tr t j))(p:xs'.length=j.length):
  XOk (X.setR r (.tr t xs'))/\Ext X (X.setR r (.tr t xs'))/\SimX (X.setR r (.tr t xs')) ⟨E,put R r (.tr t.n (xs'.map (Al t))),n,f⟩:=by
 obtain⟨a,b⟩:=LA g (x:=.tr t xs') (AE _) (g.ids r s _ l).1 (λu h=>by simp at h);refine⟨a,b, ?_⟩;have i:∀d,Bj X.roots X.next X.stamp d->cC ((r,X.stamp,.tr t xs')::X.roots) d=.un\/cC ((r,X.stamp,.tr t xs')::X.roots) d=BE [] (cC X.roots d):=λd o=>KL (.inr (.inr (.inr ⟨t,xs',j,s,rfl,l,p⟩))) o;have e:=k.next;simp only at e;subst e;refine NB (X':=X.setR r (.tr t xs')) (ks:=[]) (roots:=put R r (.tr t.n (xs'.map (Al t)))) g k rfl rfl i ?_;intro q v z c;simp only[XSt.setR]at c;rw[BO]at c;split at c
 .rename_i e;simp only at e;subst e;simp only[Ac,A5]at c;obtain⟨_,rfl⟩:=c;right;intro y m;simp only[D1,Ac]at m;subst m;exact⟨.tr t.n (xs'.map (Al t)),by rw[Bn,Af rfl],rfl,rfl⟩
 rename_i e;left;exact⟨c,by rw[Li,Bn,Ae e]⟩
def HU(X b:XSt)(R a:List (Nat×Root)):Prop:=∀r s x,lk b.roots r=some (s,x)->s<X.stamp->get a r=get R r
def HU.refl(X:XSt)(R:List (Nat×Root)):HU X X R R:=λ_ _ _ _ _=>rfl
def HU.trans{X Y Z:XSt}{R b c:List (Nat×Root)}(h:HU X Y R b)(i:HU Y Z b c)(f:Ext X Y)(g:Ext Y Z):HU X Z R c:=λr s x d e=>by
 have a:=CO e f.stamp;rw[i r s x d a];exact h r s x (g.roots r s x d a) e
def uj{r:Nat}{x:XR}{R:List (Nat×Root)}{y:Root}:HU X (X.setR r x) R (put R r y):=by
 intro q s z a b;simp only[XSt.setR]at a;rw[BO]at a;split at a
 .simp only[Ac,A5]at a;omega
 rename_i e;rw[Bn,Ae e]
def VO{X0:XSt}:∀(W:List (M×XC×D)) (G:List Sg){X:XSt}{E:List (Nat×V)}{R:List (Nat×Root)}{n f:Nat}(io:List Nat) (k:XSt->Option β),XOk X->SimX X ⟨E,R,n,f⟩->(∀w∈W,CD X0.roots w.2.1 w.2.2)->IM X0.roots (W.map λw=>(w.1,w.2.1))=some io->La (W.map λw=>(w.1,w.2.1)) G X k=some out ->
  ∃q x,k q=some out/\XOk q/\Ext X q/\SimX q ⟨E,x,n,f⟩/\CG R (W.map (EC X0.roots)) (G.map Nn)=some x/\HU X q R x/\q.env=X.env
 |[],G,X,E,R,n,f,io,k,hX,H,hW,g,h=>by
  cases G with
  |nil=>simp only[CB,La]at h;exact⟨X,R,h,hX,Ext.refl X,H,rfl,HU.refl X R,rfl⟩
  |cons v G=>simp[La]at h
 |(m,c,d)::W,G,X,E,R,n,f,io,k,hX,H,hW,g,h=>by
  have y:=hW _ B5;have C:=λw hw=>hW w (Bx _ hw);simp only at y;simp only[A2,IM]at g;simp only[A2,La]at h;have u:∀(L:List Nat),IM X0.roots (W.map λw=>(w.1,w.2.1))=some L->La (W.map λw=>(w.1,w.2.1)) G X k=some out->(∀o,CG R (EC X0.roots (m,c,d)::W.map (EC X0.roots)) o=CG R (W.map (EC X0.roots)) o) ->
    ∃q x,k q=some out/\XOk q/\Ext X q/\SimX q ⟨E,x,n,f⟩/\CG R (((m,c,d)::W).map (EC X0.roots)) (G.map Nn)=some x/\HU X q R x/\q.env=X.env:=by
   intro L B h2 h3;obtain⟨q,x,N,O,F,Q,U,Y,Z⟩:=VO W G L k hX H C B h2;exact⟨q,x,N,O,F,Q,by rw[A2,h3];exact U,Y,Z⟩
  cases m with
  |rd=>exact u io g h λo=>by cases o<;>simp only[EC,CG]
  |rx=>exact u io g h λo=>by cases o<;>simp only[EC,CG]
  |ow=>exact u io g h λo=>by cases o<;>simp only[EC,CG]
  |io=>
   simp only at g h;split at h
   .rename_i r;simp only at g;split at g
    .rename_i s0 t0 a3 K J I;simp only[Ac]at g;subst g;split at h
     .rename_i t' ys z;split at h
      .rename_i s t xs hl;obtain⟨A,h,rfl,g3,g4⟩:=Sj h;obtain⟨hn,h⟩:=Es h;simp only[Hq,AA]at hn;obtain⟨a,b,c'⟩:=uu (xs':=A) hX H hl hn;obtain⟨q,x,N,O,F,Q,U,Y,Z⟩:=VO W z K k a c' C I h;have hd:=oB J y;subst hd;obtain⟨y',y1,y2⟩:=H.roots r s _ hl _ rfl;have hg:get R r=some (.tr t'.n (xs.map (Al t'))):=by
        cases y' with
        |tr _ _=>obtain⟨rfl,rfl⟩:=y2;exact y1
        |_=>exact y2.elim
       refine⟨q,x,N,O,b.trans F,Q, ?_,uj.trans Y b F,Z⟩;simp only[A2,EC,cC,J,Nn,CG,hg,EL,g3];exact U
      simp at h
     simp at h
    simp at g
   .rename_i r v i j t0 ws;simp only at g;split at g
    .rename_i s0 T0 a3 K J I;simp only[Ac]at g;subst g;split at h
     .rename_i t' ys z;split at h
      .rename_i s T xs hl;obtain⟨A,h,rfl,g3,g4⟩:=Sj h;obtain⟨hn,h⟩:=Es h;obtain⟨e,he,h⟩:=G6 h;obtain⟨e',o,h,u1,u2⟩:=kf T j t' A e _ h;obtain⟨a,b,c'⟩:=uu (xs':=BS xs i e') hX H hl (by simp[BS]);obtain⟨q,x,N,O,F,Q,U,Y,Z⟩:=VO W z K k a c' C I h;obtain⟨e1,t1,a4,rfl⟩:=t7 y;obtain⟨y',y1,y2⟩:=H.roots r s _ hl _ rfl;have hg:get R r=some (.tr T.n (xs.map (Al T))):=by
        cases y' with
        |tr _ _=>obtain⟨rfl,rfl⟩:=y2;exact y1
        |_=>exact y2.elim
       refine⟨q,x,N,O,b.trans F,Q, ?_,uj.trans Y b F,Z⟩;have a0:xs[i]?= some e:=by simpa[idx] using he
       have a2:EL (xs.map (Al T)) [(i,j)] (λ_=>ys.map (Al t'))=(BS xs i e').map (Al T):=by
        simp only[EL,CQ,a0,Dg,u2,BS,RP,u1,g3]
       simp only[A2,EC,e1,Nn,CG,hg,a2];exact U
      simp at h
     simp at h
    simp at g
   .rename_i nn;simp only at g;split at h
    .rename_i v z;obtain⟨q,x,N,O,F,Q,U,Y,Z⟩:=VO W z io k hX H C g h;refine⟨q,x,N,O,F,Q, ?_,Y,Z⟩;rcases y with ⟨v',B,_⟩|⟨n',B,rfl⟩|⟨t,ws,r,p,lo,l,B,_⟩
     .simp[cC]at B
     .simp only[A2,EC,cC,CG];exact U
     simp[cC]at B
    simp at h
   rename_i B h2 h3;split at g
   .exact (B _ rfl).elim
   .exact (h2 _ _ _ _ _ _ rfl).elim
   .exact (h3 _ rfl).elim
   split at g
   .rename_i a1;obtain⟨v,B,rfl⟩:=rb a1 y;exact u io g h λo=>by cases o<;>simp only[EC,B,CG]
   simp at g
def Znk{E:List (Nat×V)}{A R:List (Nat×Root)}{n f r s:Nat}{m es':List (Nat×XC)}{bs':List C}(o:XOk X)(v:SimX X ⟨E,A++R,n,f⟩)(H:get A r=none)(u:lk X.roots r=some (s,.bx m))(l:∀(c:Nat) (e:Nat×XC),es'[c]?= some e->(e.1=X.stamp\/m[c]?= some e)/\Bj X.roots X.next X.stamp e.2)(J:Ai Ba bs' (es'.map λe=>cC X.roots e.2)):
  XOk (X.setR r (.bx es'))/\Ext X (X.setR r (.bx es'))/\SimX (X.setR r (.bx es')) ⟨E,A++put R r (.bx bs'),n,f⟩/\HU X (X.setR r (.bx es')) (A++R) (A++put R r (.bx bs')):=by
 obtain⟨a,b⟩:=LA o (x:=.bx es') (AE _) (o.ids r s _ u).1 (by
  intro M h c e t;simp only[XR.bx.injEq]at h;subst h;obtain⟨F,G⟩:=l c e t;exact⟨F.imp id λh=>⟨s,m,u,h⟩,G⟩)
 have k:∀g,Bj X.roots X.next X.stamp g->cC ((r,X.stamp,.bx es')::X.roots) g=.un\/cC ((r,X.stamp,.bx es')::X.roots) g=BE [] (cC X.roots g):=λg l=>KL (.inr (.inr (.inl ⟨_,_,_,rfl,u⟩))) l;have e:=v.next;simp only at e;subst e;have j:∀q,r≠q->get (A++put R r (.bx bs')) q=get (A++R) q:=by
  intro q d;rw[Ft,Ft,Bn,Ae d]
 refine⟨a,b, ?_, ?_⟩
 .refine NB (X':=X.setR r (.bx es')) (ks:=[]) (roots:=A++put R r (.bx bs')) o v rfl rfl k ?_;intro q K z d;simp only[XSt.setR]at d;rw[BO]at d;split at d
  .rename_i e;simp only at e;subst e;simp only[Ac,A5]at d;obtain⟨_,rfl⟩:=d;right;intro y w;simp only[D1,Ac]at w;subst w;refine⟨.bx bs',by rw[Ft,H,Bn,Af rfl], ?_⟩;have L:Ai Ba bs' ((es'.map (·.2)).map (cC X.roots)):=by rw[GO];exact J
   have B:=TB (ks:=[]) k (λc p=>by
    obtain⟨e,t,rfl⟩:=CC.1 p;obtain⟨i,I⟩:=Kd t;exact (l i e I).2) L
   have D:bs'.map (BE [])=bs':=by
    have:BE []=λc=>c:=by funext c;rfl
    rw[this];simp
   rw[D,GO]at B;exact B
  rename_i e;left;exact⟨d,by rw[Li];exact j q e⟩
 intro q K z d N;simp only[XSt.setR]at d;rw[BO]at d;split at d
 .simp only[Ac,A5]at d;omega
 rename_i e;exact j q e
def ac:∀{t:Ty}{x:t.den}{j:Nat}{d:D}{f:Ty}{m:M},LZ t=true->(Al t x)[j]?= some d->(Gd t)[j]?= some f->EK (m,d)=(match m,LP f with|.rx,true=>true|_,_=>false)
 |.I _,x,0,d,f,m,e,h,c=>by simp[Al,Gd]at h c;subst h c;cases m<;>rfl
 |.Y,x,0,d,f,m,e,h,c=>by simp[Al,Gd]at h c;subst h c;cases m<;>rfl
 |.B,x,0,d,f,m,e,h,c=>by simp[Al,Gd]at h c;subst h c;cases m<;>rfl
 |.S,x,0,d,f,m,e,h,c=>by simp[Al,Gd]at h c;subst h c;cases m<;>rfl
 |.L _,x,0,d,f,m,e,h,c=>by simp[Al,Gd]at h c;subst h c;cases m<;>rfl
 |.I _,x,j+1,d,f,m,e,h,c=>by simp[Al]at h
 |.Y,x,j+1,d,f,m,e,h,c=>by simp[Al]at h
 |.B,x,j+1,d,f,m,e,h,c=>by simp[Al]at h
 |.S,x,j+1,d,f,m,e,h,c=>by simp[Al]at h
 |.L _,x,j+1,d,f,m,e,h,c=>by simp[Al]at h
 |.H _,x,j,d,f,m,e,h,c=>by simp[LZ]at e
 |.P a b,x,j,d,f,m,e,h,c=>by
  have g:LZ a=true:=by
   simp only[LZ]at e;split at e
   .assumption
   cases e
  have i:LZ b=true:=by
   simp only[LZ,g]at e;exact e
  simp only[Al,Gd,Va]at h c;by_cases k:j<a.n
  .rw[E3 (by rw[Cv];exact k)]at h;rw[E3 (by rw[Qf];exact k)]at c;exact ac g h c
  rw[Dh (by rw[Cv];omega),Cv]at h;rw[Dh (by rw[Qf];omega),Qf]at c;exact ac i h c
def aq{R:AK}{nx st:Nat}:∀(f:List M) (i:List Ty) (l:List D) (h:List (Nat×XC)) (v:List C) (g:List XC) (p:List C),(∀(j:Nat) (m:M) (d:D) (B:Ty),f[j]?= some m->l[j]?= some d->i[j]?= some B->EK (m,d)=(match m,LP B with|.rx,true=>true|_,_=>false))->f.length=l.length->l.length=i.length->h.length=l.length ->
  Ai Ba v (h.map λe=>cC R e.2)->Ai Ba p (g.map (cC R))->(∀e∈h,Bj R nx st e.2)->(∀y∈g,Bj R nx st y) ->
  Ai Ba (G9 (f.zip l) v p) ((Fv st f i h g).map λe=>cC R e.2)/\(Fv st f i h g).length=f.length/\∀(j:Nat) (e:Nat×XC),(Fv st f i h g)[j]?= some e->(e.1=st\/h[j]?= some e)/\Bj R nx st e.2
 |[],[],[],[],[],g,p,_,_,_,_,_,_,_,_=>⟨trivial,rfl,by simp[Fv]⟩
 |m::f,t::i,d::l,e::h,b::v,g,p,N,n,r,w,s,E,J,K=>by
  simp only[Aq,UL]at n r w;have q:=N 0 m d t rfl rfl rfl;have A:∀(j:Nat) (m:M) (d:D) (B:Ty),f[j]?= some m->l[j]?= some d->i[j]?= some B->EK (m,d)=(match m,LP B with|.rx,true=>true|_,_=>false):=λj m d B a b c=>N (j+1) m d B (by simpa using a) (by simpa using b) (by simpa using c);have x:=λe o=>J e (Bx _ o);have L:EK (m,d)=true->Ai Ba (G9 ((m::f).zip (d::l)) (b::v) p) (((e::Fv st f i h g)).map λe=>cC R e.2)/\(e::Fv st f i h g).length=(m::f).length/\∀(j:Nat) (k:Nat×XC),(e::Fv st f i h g)[j]?= some k->(k.1=st\/(e::h)[j]?= some k)/\Bj R nx st k.2:=by
   intro I;obtain⟨F,G,H⟩:=aq f i l h v g p A n r w s.2 E x K;refine⟨?_,by simp[G], ?_⟩
   .simp only[Jf,G9,I,BF,A2];exact⟨s.1,F⟩
   intro j k o;cases j with
   |zero=>simp only[AD,Ac]at o;subst o;exact⟨.inr rfl,J _ B5⟩
   |succ j=>simpa using H j k (by simpa using o)
  have new:EK (m,d)=false->Ai Ba (G9 ((m::f).zip (d::l)) (b::v) p) ((match g with|y::g=>(st,y)::Fv st f i h g|[]=>e::Fv st f i h []:List (Nat×XC)).map λe=>cC R e.2)/\(match g with|y::g=>(st,y)::Fv st f i h g|[]=>e::Fv st f i h []).length=(m::f).length/\∀(j:Nat) (k:Nat×XC),(match g with|y::g=>(st,y)::Fv st f i h g|[]=>e::Fv st f i h [])[j]?= some k->(k.1=st\/(e::h)[j]?= some k)/\Bj R nx st k.2:=by
   intro I;cases g with
   |nil=>
    cases p with
    |cons u p=>exact E.elim
    |nil=>
     obtain⟨F,G,H⟩:=aq f i l h v [] [] A n r w s.2 trivial x (by simp);refine⟨?_,by simp[G], ?_⟩
     .simp only[Jf,G9,I,C6,BC,A2];exact⟨s.1,F⟩
     intro j k o;cases j with
     |zero=>simp only[AD,Ac]at o;subst o;exact⟨.inr rfl,J _ B5⟩
     |succ j=>simpa using H j k (by simpa using o)
   |cons y g=>
    cases p with
    |nil=>exact E.elim
    |cons u p=>
     obtain⟨F,G,H⟩:=aq f i l h v g p A n r w s.2 E.2 x (λz O=>K z (Bx _ O));refine⟨?_,by simp[G], ?_⟩
     .simp only[Jf,G9,I,C6,BC,A2];exact⟨E.1,F⟩
     intro j k o;cases j with
     |zero=>simp only[AD,Ac]at o;subst o;exact⟨.inl rfl,K _ B5⟩
     |succ j=>simpa using H j k (by simpa using o)
  cases m with
  |rx=>
   cases hT:LP t with
   |true=>
    simp only[hT]at q;simp only[Fv,hT];exact L q
   |false=>
    simp only[hT]at q;simp only[Fv,hT];exact new q
  |_=>simp only[Fv];exact new q
 |[],_::_,l,_,_,_,_,_,n,r,_,_,_,_,_=>by rw[<-n]at r;simp at r
 |_::_,[],l,_,_,_,_,_,n,r,_,_,_,_,_=>by rw[Ay]at r;rw[r]at n;simp at n
 |[],[],_::_,_,_,_,_,_,n,_,_,_,_,_,_=>by simp at n
 |_::_,_::_,[],_,_,_,_,_,n,_,_,_,_,_,_=>by simp at n
 |[],[],[],_::_,_,_,_,_,_,_,w,_,_,_,_=>by simp at w
 |_::_,_::_,_::_,[],_,_,_,_,_,_,w,_,_,_,_=>by simp at w
 |[],[],[],[],_::_,_,_,_,_,_,_,s,_,_,_=>s.elim
 |_::_,_::_,_::_,_::_,[],_,_,_,_,_,_,s,_,_,_=>s.elim
end
end Go.Vs
namespace Go.Vs
variable [Glb]
section
variable {β:Type} {X:XSt} {S:St} {out:β} {P:Program}
def dW:List GArg->List GC->List V->Prop
 |[],[],[]=>True
 |a::b,g::d,y::e=>g.a=a/\a.ms.length=a.t.n/\(match a.ptr with
  |true=>∃r c,g.at?= some (r,c)/\y=.a (.c (.pb r c))
  |false=>g.at?= none)/\dW b d e
 |_,_,_=>False
def q8(t:SimX X S):∀(f:List GArg) (k:List XV) (l:List V) (i:List GC),Ai (λy v=>CZ y (cV X.roots v)/\Dt X.roots X.next X.stamp v) l k->HA X f k=some i->dW f i l
 |[],[],[],i,_,h=>by simp only[HA,Ac]at h;subst h;trivial
 |a::f,v::k,y::l,i,d,h=>by
  simp only[HA]at h;split at h
  .rename_i g m b q;split at h
   .rename_i j;simp only[Ac]at h;subst h;simp only[A6,HH]at j;have p:=q8 t f k l m d.2 q;unfold OC at b;split at b
    .rename_i c e n;simp only[Ac]at b;subst b;exact⟨rfl,B6 j.2,by simp only[e],p⟩
    .rename_i c e n;simp only[Ac]at b;subst b;exact⟨rfl,B6 j.2,by simp only[e],p⟩
    .rename_i r c e;split at b
     .rename_i s u o;split at b
      .simp only[Ac]at b;subst b;refine⟨rfl,B6 j.2, ?_,p⟩;simp only[e];refine⟨r,c,rfl, ?_⟩;have:=d.1.1;simp only[cV,cA,cC,o]at this;exact this.c (by simp)
      simp at b
     simp at b
    simp at b
   simp at h
  simp at h
 |[],_::_,_,_,_,h=>by simp[HA]at h
 |_::_,[],_,_,_,h=>by simp[HA]at h
 |[],[],_::_,_,d,_=>d.elim
 |_::_,_::_,[],_,d,_=>d.elim
def xd{R:List (Nat×Root)}{y:V}{b:List V}{ag:Bool}{l:List (M×D)}{a:List Arg}{o:List (List D)}{c:List C}:HW R (y::b) (.val ag l::a) o c=HW R b a o c:=by
 conv=>lhs;unfold HW
 split
 .simp_all
 .simp_all
 .simp_all
 simp_all;rename_i d;exact H4 rfl (d y b _ a rfl rfl rfl)
def Zn:∀(B:List GArg) (L:List GC) (l:List V) (x:Tp (DH B)) (I:List Sg) (cells:List XC) (w:List C){X J:XSt}{E:List (Nat×V)}{A R:List (Nat×Root)}{n f:Nat},XOk X->SimX X ⟨E,A++R,n,f⟩->dW B L l->(∀r∈HX L,get A r=none)->I.map (·.1)=H6 B ->
  Ai Ba w (cells.map (cC X.roots))->(∀c∈cells,Bj X.roots X.next X.stamp c)->MV L cells X=some J ->
  ∃z,HW R l (Bq B x) (Fq B I) w=some z/\XOk J/\Ext X J/\SimX J ⟨E,A++z,n,f⟩/\HU X J (A++R) (A++z)/\J.env=X.env
 |[],[],[],x,I,cells,w,X,J,E,A,R,n,f,M,Y,_,_,_,_,_,h=>by
  simp only[MV,Ac]at h;subst h;exact⟨R,rfl,M,Ext.refl X,Y,HU.refl X _,rfl⟩
 |a::B,g::L,y::l,x,I,cells,w,X,J,E,A,R,n,f,M,Y,hg,Q,H,hw,ho,h=>by
  obtain⟨rfl,a5,hp,hg⟩:=hg;simp only[MV]at h;cases b:g.a.ptr with
  |false=>
   simp only[b]at hp;simp only[hp]at h;simp only[HX,hp]at Q;simp only[H6,b]at H;obtain⟨z,N,O⟩:=Zn B L l (Tp.tl _ _ x) I cells w M Y hg Q H hw ho h;refine⟨z, ?_,O⟩;simp only[Bq,EY,b,Fq,xd];exact N
  |true=>
   simp only[b]at hp;obtain⟨r,c,Z,rfl⟩:=hp;simp only[Z]at h;simp only[HX,Z]at Q;split at h
   .rename_i s i T;split at h
    .rename_i hb;obtain⟨hb,a3⟩:=mp.1 hb;have hb:=AS hb;rw[HH]at hb;obtain⟨U,g1,g2⟩:=Ot Y T;have W:=Q r B5;have hR:get R r=some (.bx U):=by
      simp only[Ft,W]at g1;exact g1
     have a0:=g2.length;rw[B3]at a0;have a1:=Cv g.a.t (Tp.hd _ _ x);have K:(g.a.ms.zip (Al g.a.t (Tp.hd _ _ x))).length=g.a.ms.length:=by rw[dx];omega
     obtain⟨m1,m2,m3⟩:=aq (R:=X.roots) (nx:=X.next) (st:=X.stamp) g.a.ms (Gd g.a.t) (Al g.a.t (Tp.hd _ _ x)) ((i.drop c).take g.a.ms.length) ((U.drop c).take g.a.ms.length) (cells.take (Gz g.a.o)) (w.take (Gz g.a.o))
      (λj m d ty _ hd ht=>ac a3 hd ht) (by omega) (by rw[a1,Qf]) (by simp;omega)
      (by have:=JU (n:=g.a.ms.length) (J4 (n:=c) g2);rw[Fp,F4];exact this)
      (by rw[Fp];exact JU hw)
      (λe he=>(M.box r s i T e (Gm (G4 he))).2)
      (λy hy=>ho y (G4 hy))
     rw[HH]at h;obtain⟨b1,D,b3,b4⟩:=Znk (es':=i.take c++(Fv X.stamp g.a.ms (Gd g.a.t) ((i.drop c).take g.a.ms.length) (cells.take (Gz g.a.o))++i.drop (c+g.a.ms.length))) (bs':=U.take c++(G9 (g.a.ms.zip (Al g.a.t (Tp.hd _ _ x))) ((U.drop c).take g.a.ms.length) (w.take (Gz g.a.o))++U.drop (c+g.a.ms.length))) M Y W T (by
      intro j e u;have a2:(i.take c).length=c:=by simp;omega
      by_cases h1:j<c
      .rw[E3 (by omega),EM,Af h1]at u;exact⟨.inr u,(M.box r s i T e (CP u)).2⟩
      .rw[Dh (by omega),a2]at u;by_cases h2:j-c<g.a.ms.length
       .rw[E3 (by omega)]at u;obtain⟨N,O⟩:=m3 _ e u;refine⟨N.imp id λh=>?_,O⟩;rw[EM,Af h2,F2]at h
        rwa[show c+(j-c)=j by omega]at h
       .rw[Dh (by omega),m2,F2]at u;rw[show c+g.a.ms.length+(j-c-g.a.ms.length)=j by omega]at u;exact⟨.inr u,(M.box r s i T e (CP u)).2⟩) (by
      rw[C2,C2,Fp,F4];exact Mt (JU g2) (Mt m1 (J4 g2)))
     -- the rest
     have a4:∀F,Bj X.roots X.next X.stamp F->cC (X.setR r (.bx (i.take c++(Fv X.stamp g.a.ms (Gd g.a.t) ((i.drop c).take g.a.ms.length) (cells.take (Gz g.a.o))++i.drop (c+g.a.ms.length))))).roots F=.un\/cC (X.setR r (.bx (i.take c++(Fv X.stamp g.a.ms (Gd g.a.t) ((i.drop c).take g.a.ms.length) (cells.take (Gz g.a.o))++i.drop (c+g.a.ms.length))))).roots F=BE [] (cC X.roots F):=λF hc=>KL (.inr (.inr (.inl ⟨_,_,_,rfl,T⟩))) hc;have p:=TB (ks:=[]) a4 (ys:=w.drop (Gz g.a.o)) (cs:=cells.drop (Gz g.a.o)) (λc hc=>ho c (Gm hc)) (by rw[F4];exact J4 hw);have e3:(w.drop (Gz g.a.o)).map (BE [])=w.drop (Gz g.a.o):=by
      have:BE []=λc=>c:=by funext c;rfl
      rw[this];simp
     rw[e3]at p;have G:∀F∈cells.drop (Gz g.a.o),Bj (X.setR r (.bx (i.take c++(Fv X.stamp g.a.ms (Gd g.a.t) ((i.drop c).take g.a.ms.length) (cells.take (Gz g.a.o))++i.drop (c+g.a.ms.length))))).roots (X.setR r (.bx (i.take c++(Fv X.stamp g.a.ms (Gd g.a.t) ((i.drop c).take g.a.ms.length) (cells.take (Gz g.a.o))++i.drop (c+g.a.ms.length))))).next (X.setR r (.bx (i.take c++(Fv X.stamp g.a.ms (Gd g.a.t) ((i.drop c).take g.a.ms.length) (cells.take (Gz g.a.o))++i.drop (c+g.a.ms.length))))).stamp F:=λF hc=>Bj.ext D.next D.stamp D.roots (ho F (Gm hc));cases k:g.a.o with
     |none=>
      simp only[H6,b,k,QD,IB]at H;simp only[k]at h p G b1 D b3 b4;obtain⟨z,N,O,q3,q4,q5,q6⟩:=Zn B L l (Tp.tl _ _ x) I _ _ b1 b3 hg (λq hq=>Q q (Bx _ hq)) H p G h;refine⟨z, ?_,O,D.trans q3,q4,b4.trans q5 D q3,q6⟩;simp only[Bq,EY,b,Fq,k,HW,hR,K,Ay];exact N
     |some ot=>
      simp only[H6,b,k,QD,IB]at H;cases I with
      |nil=>simp at H
      |cons v I=>
       simp only[A2,List.cons.injEq]at H;simp only[k]at h p G b1 D b3 b4;obtain⟨z,N,O,q3,q4,q5,q6⟩:=Zn B L l (Tp.tl _ _ x) I _ _ b1 b3 hg (λq hq=>Q q (Bx _ hq)) H.2 p G h;refine⟨z, ?_,O,D.trans q3,q4,b4.trans q5 D q3,q6⟩;have hn:(H9 v).length=Gz (some ot):=by simp only[H9,Cv,H.1,Gz]
       simp only[Bq,EY,b,Fq,k,HW,hR,K,hn];exact N
    simp at h
   simp at h
 |[],_::_,_,_,_,_,_,_,_,_,_,_,_,_,_,_,h,_,_,_,_,_=>h.elim
 |_::_,[],_,_,_,_,_,_,_,_,_,_,_,_,_,_,h,_,_,_,_,_=>h.elim
 |[],[],_::_,_,_,_,_,_,_,_,_,_,_,_,_,_,h,_,_,_,_,_=>h.elim
 |_::_,_::_,[],_,_,_,_,_,_,_,_,_,_,_,_,_,h,_,_,_,_,_=>h.elim
def fI{c:XC}:∀(l:List GC) (n:List XC) (Z a:XSt) (j k:Nat),Bj Z.roots j k c->k<=Z.stamp->j<=Z.next->MV l n Z=some a->cC a.roots c=.un\/cC a.roots c=cC Z.roots c
 |[],n,Z,a,j,k,_,_,_,h=>by simp only[MV,Ac]at h;subst h;exact .inr rfl
 |g::l,n,Z,a,j,k,o,i,e,h=>by
  simp only[MV]at h;split at h
  .rename_i r t p;split at h
   .rename_i s u b;split at h
    .have f:Bj Z.roots Z.next Z.stamp c:=Bj.ext e i (λ_ _ _ h _=>h) o;have m:∀d q s z,lk ((r,Z.stamp,XR.bx d)::Z.roots) q=some (s,z)->s<Z.stamp->lk Z.roots q=some (s,z):=by
      intro d q s z b v;rw[BO]at b;split at b
      .simp only[Ac,A5]at b;omega
      exact b
     rcases fI l _ (Z.setR r _) a Z.next Z.stamp (Bj.ext (AE _) (AE _) (m _) f) (HR _) (AE _) h with q|q
     .exact .inl q
     rcases KL (.inr (.inr (.inl ⟨_,_,_,rfl,b⟩))) f with w|w
     .exact .inl (q.trans w)
     exact .inr (q.trans w)
    simp at h
   simp at h
  exact fI l _ _ _ j k o i e h
def ce:∀a:List Sg,(GJ a).map Et=a.flatMap H9
 |[]=>rfl
 |v::a=>by simp only[GJ,C2,WP,ce a,DM,H9]
def bg:∀(b:List (Bool×Ty)) (a:List Sg),a.length=b.length->(Gj b a).flatMap (·.2)=a.flatMap H9
 |[],[],_=>rfl
 |r::b,v::a,h=>by simp only[Gj,DM,bg b a (by simpa using h)]
 |[],_::_,h=>by simp at h
 |_::_,[],h=>by simp at h
def Ve:∀(c:List GArg) (b:List Sg),b.map (·.1)=H6 c->(Fq c b).flatten=b.flatMap H9
 |[],b,h=>by simp only[H6,List.map_eq_nil_iff]at h;subst h;rfl
 |a::c,b,h=>by
  simp only[H6]at h;cases d:a.ptr with
  |false=>simp only[d]at h;simp only[Fq,d];exact Ve c b h
  |true=>
   simp only[d]at h;cases e:a.o with
   |none=>simp only[e,QD,IB]at h;simp only[Fq,d,e,Ji,A0];exact Ve c b h
   |some t=>
    simp only[e,QD,IB]at h;cases b with
    |nil=>simp at h
    |cons v b=>
     simp only[A2,List.cons.injEq]at h;simp only[Fq,d,e,Ji,DM,Ve c b h.2]
def tY{R:AK}:∀(d:List (Bool×Ty)) (g:List Sg) (f:List C) (b:List XC),g.map (·.1)=Ht d->Ai Ba f (b.map (cC R))->(∀(l:Nat),True)->(g.flatMap H9).length<=b.length->Ai EH (FU (Gj d g) f) ((Lo d b).map (cA R))
 |[],_,_,_,_,_,_,_=>by cases ‹List Sg›<;>trivial
 |(ag,t)::d,[],f,b,h,_,_,_=>by simp[Ht]at h
 |(ag,t)::d,v::g,f,b,h,j,_,k=>by
  simp only[A2,Ht,List.cons.injEq]at h;have i:(H9 v).length=t.n:=by rw[H9,Cv,h.1]
  simp only[Gj,FU,Lo,A2,i];simp only[DM,Cb,i]at k;refine⟨?_, ?_⟩
  .have a:=JU (n:=t.n) j;rw[<-Fp]at a;cases ag with
   |true=>simp only[Js,BF];exact a
   |false=>
    simp only[Js,C6,BC]
    match e:f.take t.n,h2:b.take t.n with
    |[],[]=>trivial
    |[u],[c]=>rw[e,h2]at a;exact a.1
    |[],_::_=>rw[e,h2]at a;exact a.elim
    |_::_,[]=>rw[e,h2]at a;exact a.elim
    |[_],_::_::_=>rw[e,h2]at a;exact a.2.elim
    |_::_::_,[_]=>rw[e,h2]at a;exact a.2.elim
    |_::_::_,_::_::_=>trivial
  have hd:=J4 (n:=t.n) j;rw[<-F4]at hd;exact tY d g _ _ h.2 hd (λ_=>trivial) (by rw[Di];omega)
def fJ(hX:XOk X)(hS:SimX X S){i:List GArg}{d:List (Bool×Ty)}{F:Tp (DH i)->Option (Tp (GB i d))}{C:List Value->World->(Ending->World->Prop)->Prop}(hC:∀x y,F x=some y->UQ C (Bq i x) (Lj i d (EV _ y))){m:List XV}{us:List V}(E:Ai (λy v=>CZ y (cV X.roots v)/\Dt X.roots X.next X.stamp v) us m){k:XV->XSt->Option β}(h:Zp X i d F m k=some out):Py X S (λK=>fL C S us K) k out:=by
 have c4:S.next=X.next:=hS.next;unfold Zp at h;split at h
 .rename_i B t;split at h
  .rename_i ow io a9 L;split at h
   .rename_i hc;simp only[A6]at hc;obtain⟨a7,a8,a4,W⟩:=hc;have a7:=OX a7;have a8:=OX a8;have a4:=Sq a4;have W:=Sq W;obtain⟨h,c7⟩:=lu _ h;obtain⟨x,h,hf,hW,hz,c2⟩:=qT hX hS i _ _ B _ E t h;obtain⟨y,hy,h⟩:=G6 h;rw[<-hz]at a9 L W c7 h;have o:∀w∈KJ i B x,CD X.roots w.2.1 w.2.2:=λw hw=>(hW w hw).1
    -- what is taken
    obtain⟨o1,o2⟩:=sh (KJ i B x) o;obtain⟨rt,t1,t2⟩:=Tz hS _ _ ow S.roots o2 a9 a7 (λ_ _=>rfl);rw[<-o1]at t1;obtain⟨d1,d2,d3⟩:=Vp ow hX hS (QE hX a9);obtain⟨v1,v2,v3,v4⟩:=Vo ow X;have d4:SimX (X.delRs ow) ⟨S.env,rt,S.next,S.fix⟩:=by
     refine Tw (R:=S.roots) d3 ?_;intro r s z hl hx;by_cases M:r∈ow
     .obtain⟨s',a5⟩:=(Kl ow X r).1 M;rw[hl]at a5;simp only[Ac,A5]at a5;exact (hx a5.2).elim
     rw[t2 r,Ae M]
    have d5:HU X (X.delRs ow) S.roots rt:=by
     intro r s z hl hs;by_cases M:r∈ow
     .have G:∀(l:List Nat) (Y:XSt),r∈l->∀s x,lk (Y.delRs l).roots r=some (s,x)->Y.stamp<=s:=by
       intro l
       induction l with
       |nil=>intro Y h;simp at h
       |cons q l ih=>
        intro Y h s x hl;by_cases hq:r∈l
        .have:=ih (Y.setR q .gone) hq s x hl;have e:(Y.setR q .gone).stamp=Y.stamp+1:=rfl;omega
        have d6:=(AX.1 h).resolve_right hq;subst d6;have Q:lk ((Y.setR r .gone).delRs l).roots r=some (s,x):=hl;rw[(Kl l (Y.setR r .gone) r).2 hq]at Q;simp only[XSt.setR]at Q;rw[BO,Af rfl]at Q;simp only[Ac,A5]at Q;omega
      have:=G ow X M s z hl;omega
     rw[t2 r,Ae M]
    have b8:=Zni (hb:=HX B) hS o L t2 a4 W c7
    -- what is written
    obtain⟨O,r1,h,i1,i2,i3,i4,i5,i6⟩:=VO (X0:=X) (KJ i B x) _ io _ d1 d4 o L h;have I:O.next=X.next:=by rw[<-c4];exact i3.next.symm
    -- what is new
    have d7:SimX O ⟨S.env,r1,O.next,S.fix⟩:=⟨rfl,i3.fix,i3.env,i3.roots⟩;obtain⟨n1,n2,n3,n4,n5,n6,n7⟩:=bE (GJ ((EV _ y).take (B0 d)++((EV _ y).drop (B0 d)).drop (B0 (IL i)))) i1 d7;split at h
    .rename_i X4 hb
     -- lengths and types of what comes out
     have a2:=kv _ y;have hT:GB i d=Ht d++(IL i++H6 i):=by simp only[GB,Va]
     have b0:(Ht d).length=d.length:=by
      have G:∀d:List (Bool×Ty),(Ht d).length=d.length:=by
       intro d;induction d with
       |nil=>rfl
       |cons r d ih=>simp only[Ht,Aq,ih]
      exact G _
     have a1:((EV _ y).take (B0 d)).map (·.1)=Ht d:=by
      rw[Fp,a2,hT,HH,<-b0,MF];rfl
     have a0:(((EV _ y).drop (B0 d)).drop (B0 (IL i))).map (·.1)=H6 i:=by
      rw[F4,F4,a2,hT,HH,HH,<-b0,KI rfl,KI rfl]
     have N:((EV _ y).take (B0 d)).length=d.length:=by rw[<-b0,<-a1,B3]
     generalize c6:(EV _ y).take (B0 d)=j at *
     generalize c5:((EV _ y).drop (B0 d)).drop (B0 (IL i))=p at *
     have U:(GJ (j++p)).map Et=(Gj d j).flatMap (·.2)++(Fq i p).flatten:=by
      rw[ce,List.flatMap_append,bg _ _ N,Ve _ _ a0]
     rw[U,I,<-c4]at n4 n5 n6;have a6:((Gj d j).flatMap (·.2)).length=B0 (GJ j):=by
      rw[bg _ _ N,<-ce,B3,HH]
     have c0:=q8 hS i _ _ B E t;have a3:∀r∈HX B,r<X.next:=by
      intro r J;have G:∀(i:List GArg) (m:List XV) (B:List GC),(∀v∈m,Dt X.roots X.next X.stamp v)->HA X i m=some B->r∈HX B->r<X.next:=by
       intro i
       induction i with
       |nil=>
        intro m B _ t J;cases m with
        |nil=>simp only[HA,Ac]at t;subst t;simp[HX]at J
        |cons _ _=>simp[HA]at t
       |cons a i ih=>
        intro m B hv t J;cases m with
        |nil=>simp[HA]at t
        |cons v m=>
         simp only[HA]at t;split at t
         .rename_i g c1 D Q;split at t
          .simp only[Ac]at t;subst t;simp only[HX]at J;split at J
           .rename_i q c T;rcases AX.1 J with rfl|J
            .unfold OC at D;split at D
             .simp only[Ac]at D;subst D;simp at T
             .simp only[Ac]at D;subst D;simp at T
             .split at D
              .rename_i c9;split at D
               .simp only[Ac]at D;subst D;simp only[Ac,A5]at T;obtain⟨rfl,_⟩:=T;exact (hX.ids _ _ _ c9).1
               simp at D
              simp at D
             simp at D
            exact ih m c1 (λv b9=>hv v (Bx _ b9)) Q J
           exact ih m c1 (λv b9=>hv v (Bx _ b9)) Q J
          simp at t
         simp at t
      refine G i _ B ?_ t J;intro v hv;have kk:∀{us:List V} {m:List XV},Ai (λy v=>CZ y (cV X.roots v)/\Dt X.roots X.next X.stamp v) us m->v∈m->Dt X.roots X.next X.stamp v:=by
       intro us
       induction us with
       |nil=>intro m ha M;cases m with
        |nil=>cases M
        |cons _ _=>exact ha.elim
       |cons u us ih=>intro m ha M;cases m with
        |nil=>exact ha.elim
        |cons w ws=>
         rcases AX.1 M with rfl|M
         .exact ha.1.2
         exact ih ha.2 M
      exact kk E hv
     have H:∀r,r<X.next->get (AU ((Gj d j).flatMap (·.2)++(Fq i p).flatten) S.next).2.1 r=none:=by
      intro r J;cases hq:get (AU ((Gj d j).flatMap (·.2)++(Fq i p).flatten) S.next).2.1 r with
      |none=>rfl
      |some z=>have:=((Iu _ _).2 _ (LX hq)).1;simp only at this;omega
     obtain⟨r2,b1,b2,b3,b4,b5,b6⟩:=Zn i B us x p _ ((AU ((Gj d j).flatMap (·.2)++(Fq i p).flatten) S.next).1.drop ((Gj d j).flatMap (·.2)).length) n1 n5 c0 (λr J=>H r (a3 r J)) a0
      (by rw[a6,F4];exact J4 n6) (λc hc=>n7 c (Gm hc)) hb
     -- together
     have c3:Ext X X4:=((d2.trans i2).trans n2).trans b3;have Z:HU O (DB (GJ (j++p)) O).2 r1 ((AU ((Gj d j).flatMap (·.2)++(Fq i p).flatten) S.next).2.1++r1):=by
      intro r s z hl hs;have h0:=n2.roots r s z hl hs;have:=(i1.ids r s z h0).1;rw[Ft,H r (by rw[<-I];exact this)]
     have b7:HU X X4 S.roots ((AU ((Gj d j).flatMap (·.2)++(Fq i p).flatten) S.next).2.1++r2):=
      ((d5.trans i5 d2 i2).trans Z (d2.trans i2) n2).trans b5 ((d2.trans i2).trans n2) b3
     have c8:∀c,Bj (DB (GJ (j++p)) O).2.roots (DB (GJ (j++p)) O).2.next (DB (GJ (j++p)) O).2.stamp c->cC X4.roots c=.un\/cC X4.roots c=BE [] (cC (DB (GJ (j++p)) O).2.roots c):=λc hc=>fI B _ _ _ _ _ hc (AE _) (AE _) hb;refine⟨_,_,h,b2,c3, ?_, ?_,Ey (FU (Gj d j) (AU ((Gj d j).flatMap (·.2)++(Fq i p).flatten) S.next).1),[],(AU ((Gj d j).flatMap (·.2)++(Fq i p).flatten) S.next).2.1++r2, ?_, ?_,⟨rfl,b7⟩, ?_⟩
     .exact Dt.ext b3.next b3.stamp b3.roots (jz (W0 _ _ n7))
     .rw[b6,n3,i6,v1]
     .have w0:=t5 (tY d j _ _ a1 n6 (λ_=>trivial) (by
       rw[bC];have:(j.flatMap H9).length=(GJ j).length:=by rw[<-ce,B3]
       rw[this];have G:∀a b:List Sg,(GJ a).length<=(GJ (a++b)).length:=by
        intro a b
        induction a with
        |nil=>simp[GJ]
        |cons v a ih=>simp only[A1,GJ,Cb];omega
       exact G j p))
      have w1:=wu (ks:=[]) c8 (jz (W0 _ _ n7)) w0;have e3:∀v:V,(∀f c,v≠.fn f c)->(∀r n,v≠.sb r n)->v.map (BE [])=v:=by
       have hk:BE []=λc=>c:=by funext c;rfl
       have ha:A.map (λc=>c)=λx=>x:=by funext x;cases x<;>simp[A.map]
       intro v D Q;rw[hk];cases v with
       |un=>rfl
       |a x=>simp only[V.map,ha]
       |tp xs=>simp only[V.map,ha,List.map_id']
       |fn f c=>exact (D f c rfl).elim
       |sb r n=>exact (Q r n rfl).elim
      rw[e3 _ (by intro f c;unfold Ey;split<;>simp) (by intro r n;unfold Ey;split<;>simp)]at w1
      exact w1
     .rw[Nq];have:=b4;exact⟨rfl,this.fix,this.env,this.roots⟩
     intro K hK;refine⟨Bq i x,_,hC x y hy,_,hf,rt,t1, ?_, ?_,r1, ?_,r2, ?_, ?_⟩
     .rw[i9 _ _ o L,c2];exact a8
     .rw[i9 _ _ o L,c2];exact b8
     .exact i4
     .simp only[Lj,c6,c5];exact b1
     simp only[Lj,c6,c5];have d0:(AU ((Gj d j).flatMap (·.2)++(Fq i p).flatten) S.next).2.2=X4.next:=by
      rw[<-n4];have:=b4.next;have:=n5.next;simp only at *;omega
     rw[d0];exact hK
    simp at h
   simp at h
  simp at h
 simp at h
def np(c:XOk X)(b:SimX X S){e:GEnt P}{a:List Opd}{k:XV->XSt->Option β}(h:Zo X e (a.map X.opd) k=some out):Xp P X S e.f a k out:=
 (fJ c b (C:=λd w R=>Calls P e.f d.toArray w R) e.ok (Sd c b a) h).mono λK h=>.inl h
end
end Go.Vs
namespace Go.Vs
variable [Glb]
def PP(P:Program)(c:Code)(Q:Exit->Act->World->Prop)(a:Act)(w:World):Prop:=
 ∀(b:Frame) (k:List Item) (f:List Frame),∃e d g,Q e d g/\Arrives P (lone (b.at a (.code c::.inLoop c::k)) f w) b k f e d g
def PP.wp{P:Program}{c:Code}{Q:Exit->Act->World->Prop}{a:Act}{w:World}(h:PP P c Q a w):(Code.loop c).wp P Q a w:=λb k g=>by
 obtain⟨e,f,j,i,d⟩:=h b k g;exact⟨e,f,j,i,.of_steps (.one step_loop) d⟩
def PP.round{P:Program}{c:Code}{Q:Exit->Act->World->Prop}{a:Act}{w:World}(h:c.wp P (Exit.then (PP P c Q) Q) a w):PP P c Q a w:=λb k g=>by
 obtain⟨e,a₁,w₁,f,d⟩:=h b (.inLoop c::k) g;cases e with
 |normal=>
  obtain⟨e₂,a₂,w₂,hq₂,harr₂⟩:=f b k g;exact⟨e₂,a₂,w₂,hq₂,.of_steps (Steps.trans d (.one step_inLoop)) harr₂⟩
 |exit id=>exact⟨_,a₁,w₁,f,.pass (x:=.inLoop c) rfl (λ_ _=>.inl (by simp)) d⟩
 |goto l=>exact⟨_,a₁,w₁,f,.pass (x:=.inLoop c) rfl (λ_ _=>.inl (by simp)) d⟩
 |ret=>exact⟨_,a₁,w₁,f,.pass (x:=.inLoop c) rfl (λ_ _=>.inl (by simp)) d⟩
 |panic i=>exact⟨_,a₁,w₁,f,.pass (x:=.inLoop c) rfl (λ_ _=>.inl (by simp)) d⟩
 |outgrown=>exact⟨_,a₁,w₁,f,.pass (x:=.inLoop c) rfl (λ_ _=>.inl (by simp)) d⟩
def PU(P:Program)(N:Nat)(c:Code)(S:St)(Q:Exit->St->Prop):Prop:=
 ∀(e:World) (b:Nat->Nat->Prop) (d:Aw) (g:Bp) (pl:Aw) (a:Act) (w:World),Rel N e b d g pl S a w->PP P c (PQ N e b d S.fix Q) a w
variable {P:Program} {N:Nat} {S:St} {Q:Exit->St->Prop}
def Zpv{c:Code}(h:PU P N c S Q):Vw P N (.loop c) S Q:=λf b d g pl a w e=>(h f b d g pl a w e).wp
def wm{c:Code}(h:Vw P N c S (Bi (λf=>PU P N c f Q) Q)):PU P N c S Q:=λm d k g pl a w o=>by
 refine PP.round (wp_mono (h m d k g pl a w o) ?_);rintro e n p ⟨f,i,b,q,j,r⟩;cases e with
 |normal=>
  have:=q m d k i b n p r;rw[j]at this;exact this
 |exit id=>exact⟨f,i,b,q,j,r⟩
 |goto l=>exact⟨f,i,b,q,j,r⟩
 |ret=>exact⟨f,i,b,q,j,r⟩
 |panic s=>exact⟨f,i,b,q,j,r⟩
 |outgrown=>exact⟨f,i,b,q,j,r⟩
def wl{c:Code}{T:St}(i:Le S T)(h:PU P N c T Q):PU P N c S Q:=λj b d g pl a w l=>by
 obtain⟨k,f,e⟩:=i.2 N j b d g pl a w l;have:=h j b d k f a w e;rw[i.1]at this;exact this
def Zpu{c:Code}(I:Nat->St->Prop)(v:∀k T,I k T->Vw P N c T (Bi (λh=>∃f d,f<k/\I f d/\Le h d) Q)):∀(n:Nat) (T:St),I n T->PU P N c T Q:=by
 intro n
 induction n using Nat.strongRecOn with
 |_ n x=>
  intro T hT;refine wm λy b o g pl a w s=>?_;refine wp_mono (v n T hT y b o g pl a w s) ?_;rintro e z B ⟨h,p,m,q,t,r⟩;refine⟨h,p,m, ?_,t,r⟩;cases e with
  |normal=>
   obtain⟨f,d,u,i,j⟩:=q;exact wl j (x f u d i)
  |exit id=>exact q
  |goto l=>exact q
  |ret=>exact q
  |panic A=>exact q
  |outgrown=>exact q
def UU(P:Program)(N:Nat)(s:Stm)(S:St)(Q:Exit->St->Prop):Prop:=∀c,Bu P N c=some s->PU P N c S Q
def vQ{x:Stm}(h:UU P N x S Q):Sw P N (.loop x) S Q:=λc e=>by
 cases c with
 |loop a=>
  simp only[Bu,BP,Stm.loop.injEq]at e;obtain⟨i,f,rfl⟩:=e;exact Zpv (h a f)
 |region id g d=>cases d<;>simp[Bu]at e
 |seq a b=>simp[Bu,Bv,AO]at e
 |cond c a b=>simp[Bu,Bv,AO]at e
 |_=>simp[Bu]at e
def Zoc{x:Stm}(h:Sw P N x S (Bi (λd=>UU P N x d Q) Q)):UU P N x S Q:=λc j=>by
 refine wm λo b i g pl a w m=>?_;refine wp_mono (h c j o b i g pl a w m) ?_;rintro e p t ⟨d,k,f,q,n,r⟩;refine⟨d,k,f, ?_,n,r⟩;cases e with
 |normal=>exact q c j
 |exit id=>exact q
 |goto l=>exact q
 |ret=>exact q
 |panic s=>exact q
 |outgrown=>exact q
def Zob{x:Stm}(I:Nat->St->Prop)(n:Nat)(e:∃T,I n T/\Le S T)(i:∀k T,I k T->Sw P N x T (Bi (λd=>∃b a,b<k/\I b a/\Le d a) Q)):UU P N x S Q:=λc g=>by
 obtain⟨T,hT,h⟩:=e;exact wl h (Zpu I (λk T f=>i k T f c g) n T hT)
end Go.Vs
