import Derived.Test.YteaoaehkkcbmbaaGreatDoorVsQv5
set_option linter.all false
namespace Go.Vs
noncomputable section
def ay{r:A8}(h:r.2.2.2.1=1):QO r=C0 r.2.1:=by unfold QO;rw[h,Ae (by decide +kernel)]
def sH{r:A8}(h:r.2.2.2.1=2):QO r=C0 r.2.2.1:=by unfold QO;rw[h,Af (by decide +kernel)]
def jT{r:A8}(h:r.2.2.2.1=3):QO r=C0 r.2.2.1:=by unfold QO;rw[h,Af (by decide +kernel)]
def ug{a b:BI}{t:List UInt8}(h:C0 a=some t)(k:C0 b=some t):JN a b=true:=by unfold JN;rw[h,k];simp
def Zko{a b:BI}(h:JN a b=true):∃t,C0 a=some t/\C0 b=some t:=by
 unfold JN at h;cases c:C0 a with
 |none=>rw[c]at h;cases h
 |some x=>
  cases d:C0 b with
  |none=>rw[c,d]at h;cases h
  |some y=>
   rw[c,d]at h;simp only[CJ]at h;subst h;exact⟨x,rfl,rfl⟩
def Pd{c:List UInt8}{o n:BI}{a:Int}{b:Bool}(d:F7 c=true)(f:1<=a/\a<=3)(g:GF o a b=true)(h:Hr n a=true)(i:a=3->JN o n=true):Co (c,o,n,a,b)=true:=by
 unfold Co;simp only[d,g,h,I7,PL,AF f];by_cases e:a=3
 .rw[i e,dg]
 simp[e]
def SX{o:BI}{b:Int}{a:Bool}(h:b≠2)(d:1<=o.1/\o.1<=5)(e:o.2.length<=20)(c:(C0 o).isSome=true\/(a=true/\b=1)):GF o b a=true:=by
 unfold GF;rw[Ae h,AF d,AF e];rcases c with c|⟨c,f⟩
 .rw[c];rfl
 rw[c,f];simp
def s7{a:Bool}:GF TF 2 a=true:=rfl
def jW:Hr TF 1=true:=rfl
def jV{n:BI}{a:Int}(h:a≠1)(b:n.1=0)(c:(C0 n).isSome=true):Hr n a=true:=by
 unfold Hr;rw[Ae h,b,c];rfl
structure SaysR (key:List UInt8) (t:Option (List UInt8)) (r:A8):Prop where
 ok:Co r=true
 text:QO r=t
 key:r.1=key
def Zo0{c:BI}:(∃d,Ps c 0=(d,false)/\d=c)\/∃d t,Ps c 0=(d,true)/\C0 c=some t/\C0 d=some t/\d.1=0:=by
 unfold Ps;cases b:C0 c with
 |none=>exact .inl ⟨c,rfl,rfl⟩
 |some t=>
  cases a:E5 0 t with
  |none=>exact .inl ⟨c,by simp only[a],rfl⟩
  |some d=>exact .inr ⟨d,t,by simp only[a],rfl,(cf a).1,(cf a).2⟩
def Znc{b:List UInt8}{t:Option (List UInt8)}{r:A8}(h:SaysR b t r):SaysR b t (aE r):=by
 obtain⟨k,o,n,j,f⟩:=r;obtain⟨i,a,s⟩:=h;simp only at s;subst s;unfold aE;simp only;by_cases e:j=1
 case neg=>rw[Ae (λh=>e h.2)];exact⟨i,a,rfl⟩
 subst e;rw[Af ⟨i,rfl⟩];obtain⟨g,_,_,p,q,_⟩:=JL i;simp only at g p q;rw[ay rfl]at a;simp only at a;obtain⟨v,w,x,z⟩:=Ti p (by decide);rcases Zo0 (c:=o) with ⟨d,hd,rfl⟩|⟨d,u,hd,l,m,y⟩
 .rw[hd];exact⟨Pd g (by decide) (SX (by decide) ⟨v,w⟩ x (.inr ⟨rfl,rfl⟩)) q (λh=>by cases h),by rw[ay rfl];exact a,rfl⟩
 rw[hd];exact⟨Pd g (by decide) (SX (by decide) ⟨v,w⟩ x (.inl (by rw[l];rfl))) (jV (by decide) y (by rw[m];rfl)) (λ_=>ug l m),by rw[jT rfl];simp only;rw[m,<-l];exact a,rfl⟩
def Znb{d:List UInt8}{t:Option (List UInt8)}{r:A8}(h:SaysR d t r):SaysR d t (Zk r):=by
 obtain⟨k,o,n,c,a⟩:=r;obtain⟨i,b,p⟩:=h;simp only at p;subst p;unfold Zk;simp only;rw[Af i];obtain⟨g,w,l2,f,l,m⟩:=JL i;simp only at g w l2 f l m;by_cases e:c=3
 .subst e;rw[Af rfl];obtain⟨x,y,z,A⟩:=Ti f (by decide);obtain⟨u,q,s⟩:=Zko (m rfl);rw[jT rfl]at b;simp only at b;exact⟨Pd g (by decide) (SX (by decide) ⟨x,y⟩ z (.inl (by rw[q];rfl))) jW (λh=>by cases h),by rw[ay rfl];simp only;rw[q,<-s];exact b,rfl⟩
 rw[Ae e];by_cases j:c=2
 .subst j;rw[Af rfl];have v:o=TF:=by
   have:GF o 2 a=FV o:=by unfold GF;rw[Af rfl]
   rw[this]at f;exact OV f
  subst v;exact⟨Pd g (by decide) s7 l (λh=>by cases h),by rw[sH rfl]at b ⊢;exact b,rfl⟩
 rw[Ae j];exact⟨i,b,rfl⟩
def bL{r:A8}(h:Co r=true):Fz 100 r:=by
 obtain⟨k,o,n,b,a⟩:=r;obtain⟨f,i,l2,c,d,g⟩:=JL h;simp only at f i l2 c d g;refine⟨by have:=(Q8 f).2;simp only;omega, ?_, ?_⟩
 .by_cases e:b=2
  .subst e;have:GF o 2 a=FV o:=by unfold GF;rw[Af rfl]
   rw[this]at c;rw[OV c];simp
  have:=(Ti c e).2.2.1;simp only;omega
 by_cases e:b=1
 .subst e;have:Hr n 1=FV n:=by unfold Hr;rw[Af rfl]
  rw[this]at d;rw[OV d];simp
 have:=(bZ d e).2.2;simp only;omega
def sZ{r:A8}(h:Co r=true):Fz 1048576 r:=(bL h).mono (by omega)
def fP{a:Int}{t:List UInt8}{c:BI}(h:E5 a t=some c):c.1=a/\c.2.length<=20/\C0 c=some t:=by
 have:=oG a t;rw[h]at this;exact⟨(cf h).2,this,(cf h).1⟩
def kE{q d:Int}{b t:List UInt8}(h:(Mj q b d t).2=0):SaysR b (some t) (Mj q b d t).1:=by
 unfold Mj at h ⊢;split at h
 case isFalse=>cases h
 rename_i s;obtain⟨u,i,j⟩:=s;rw[Af ⟨u,i,j⟩];cases k:E5 0 t with
 |none=>rw[k]at h;cases h
 |some n=>
  obtain⟨p,x,e⟩:=fP k;simp only[k]at h ⊢;have g:∀a:Bool,SaysR b (some t) (b,TF,n,2,a):=λa=>
   ⟨Pd i (by decide) s7 (jV (by decide) p (by rw[e];rfl)) (λh=>by cases h),by rw[sH rfl];exact e,rfl⟩
  have m:∀o,E5 d t=some o->SaysR b (some t) (b,o,TF,1,false):=λo c=>by
   obtain⟨w,l,f⟩:=fP c;exact⟨Pd i (by decide) (SX (by decide) (by omega) l (.inl (by rw[f];rfl))) jW (λh=>by cases h),by rw[ay rfl];exact f,rfl⟩
  have r:∀o,E5 d t=some o->SaysR b (some t) (b,o,n,3,false):=λo c=>by
   obtain⟨w,l,f⟩:=fP c;exact⟨Pd i (by decide) (SX (by decide) (by omega) l (.inl (by rw[f];rfl))) (jV (by decide) p (by rw[e];rfl)) (λ_=>ug f e),by rw[jT rfl];exact e,rfl⟩
  cases c:E5 d t with
  |none=>
   simp only[c]at h ⊢;split
   .rename_i v;rw[Af v]at h;cases h
   split
   .exact g _
   split
   .exact g _
   exact g _
  |some o=>
   simp only[c]at h ⊢;split
   .exact m o c
   split
   .exact g _
   split
   .exact m o c
   exact r o c
def tb{c a:Int}{b t:List UInt8}{n:BI}(i:0<=c/\c<=7)(e:F7 b=true)(d:1<=a/\a<=5)(f:E5 0 t=some n)(h:(∃o,E5 a t=some o)\/(c≠0/\c≠7)):(Mj c b a t).2=0:=by
 unfold Mj;rw[Af ⟨i,e,d⟩,f];simp only;rcases h with ⟨o,g⟩|⟨j,k⟩
 .simp only[g]
  repeat' split
  all_goals rfl
 rw[Ae (by omega)];cases E5 a t<;>(repeat' split)<;>rfl
def sw{cs:Nat}:∀{a:List Nat},(∀n∈a,∃b,FZ cs n=some b)->∃l,F9 cs a=some l
 |[],_=>⟨[],rfl⟩
 |n::a,h=>by
  obtain⟨b,c⟩:=h n (by simp);obtain⟨l,d⟩:=sw λm e=>h m (Bx _ e);exact⟨b++l,by simp only[F9,c,d]⟩
def fO{cs:Int}{ns:List Nat}(f:0<=cs/\cs<=5)(e:∀n∈ns,CT n=true/\∃b,FZ cs.toNat n=some b)(i:ns.length<=5):∃c,E5 cs (F0 ns)=some c:=by
 obtain⟨b,a⟩:=sw (cs:=cs.toNat) λn h=>(e n h).2;have g:J9 cs (F0 ns)=some b:=by
  unfold J9 Qk;rw[Af f,ko (cs:=0) (by omega) (ji λn h=>(e n h).1)];exact a
 have d:=jj (cs:=cs.toNat) (by omega) a;unfold E5;rw[g];simp only;rw[Af (by omega)];exact⟨_,rfl⟩
def Zje{b:List UInt8}{s:Cs}(d:DD b)(f:0<=s.1):∃(v:Int) (a:Cs),XZ (b,s)=some (v,a)/\(1<=v/\v<=5)/\0<=a.1:=by
 unfold XZ;obtain⟨v,a,e,c,_,k⟩:=Dl (s:=(s.1,s.2)) 5 d f;have c:=c (by omega);simp only[e,Ad];rw[CS (by omega) (by omega)];exact⟨_,_,rfl,by omega,k⟩
def rT{b:List UInt8}{s:Cs}(d:DD b)(f:0<=s.1):∃(v:List UInt8) (a:Cs),Ur (b,s)=some (v,a)/\F7 v=true/\0<=a.1:=by
 unfold Ur;obtain⟨v,a,e,c,k⟩:=rV (s:=(s.1,s.2)) [[97],[98],[99],[100],[101,53]] d f (by simp);simp only[e,Ad];have:([[97],[98],[99],[100],[101,53]]:List (List UInt8)).all F7=true:=by decide +kernel
 exact⟨_,_,rfl,DE.1 this v c,k⟩
def rW{b:List UInt8}{s:Cs}(d:DD b)(f:0<=s.1):∃(v:List UInt8) (a:Cs),Uu (b,s)=some (v,a)/\v.length<=7/\0<=a.1:=by
 unfold Uu;obtain⟨v,a,e,c,k⟩:=rV (s:=(s.1,s.2)) [[],[97],[98,49],[115,105,120,108,101,116],[115,101,118,101,110,108,101],[65],[97,32,98],[0],[104,101,108,108,111]] d f (by simp);simp only[e,Ad];have:([[],[97],[98,49],[115,105,120,108,101,116],[115,101,118,101,110,108,101],[65],[97,32,98],[0],[104,101,108,108,111]]:List (List UInt8)).all (λv=>decide (v.length<=7))=true:=by decide +kernel
 exact⟨_,_,rfl,U1 (DE.1 this v c),k⟩
def rZ{b:List UInt8}{s:Cs}(i:DD b)(hs:0<=s.1):∃(r:A8) (w:Cs),Uy (b,s)=some (r,w)/\Co r=true/\0<=w.1:=by
 unfold Uy;obtain⟨f,P,V,N,k1⟩:=Zje (s:=(s.1,s.2)) i hs;simp only[V,Ad];obtain⟨e,Q,W,l2,k2⟩:=rT (s:=(P.1,P.2)) i k1;have a:e.length<9223372036854775807:=by have:=(Q8 l2).2;omega
 simp only[W,Ad];obtain⟨S,z,X,_,_,E⟩:=Dl (s:=(Q.1,Q.2)) 6 i k2;simp only[X,Ad,Eu];by_cases I:(S:Int)=0
 .rw[AF I,Ah];refine⟨_,_,rfl, ?_,E⟩;exact Pd l2 (by decide) (SX (by decide) (by decide) (by decide) (.inr ⟨rfl,rfl⟩)) jW (λh=>by cases h)
 rw[AG I,Ag];have x:∀{g:List Nat} {c:Int},(∀n∈g,U0 c n)->g.length<=5->∃d,E5 0 (F0 g)=some d:=λh D=>fO (by omega) (λn j=>⟨(h n j).1,_,jl (h n j).1⟩) D;by_cases J:(S:Int)=1
 .rw[AF J,Ah];obtain⟨g,H,y,v,B,F⟩:=ai (s:=(z.1,z.2)) f 5 i E (by omega);have D:=Re g;simp only[show ((5:Nat):Int)=5 from rfl]at y;simp only[y,Ad];rw[kZ a (by omega),Ad];obtain⟨d,hd⟩:=x B v;obtain⟨o,ho⟩:=fO (cs:=f) (by omega) (λn j=>⟨(B n j).1,(B n j).2 (by omega) (by omega)⟩) v;exact⟨_,_,rfl,(kE (tb (by decide) l2 N hd (.inl ⟨o,ho⟩))).ok,F⟩
 rw[AG J,Ag];obtain⟨T,H,y,v,_,F⟩:=Dl (s:=(z.1,z.2)) 8 i E;have v:=v (by omega);simp only[y,Ad];obtain⟨v5,R,Y,_,k5⟩:=F6 (s:=(H.1,H.2)) [f,f,f,0] i F (by simp);simp only[Y,Ad];obtain⟨g,A,M,l6,g6,k6⟩:=ai (s:=(R.1,R.2)) v5 5 i k5 (by omega);have D:=Re g;simp only[show ((5:Nat):Int)=5 from rfl]at M;simp only[M,Ad];rw[kZ a (by omega),Ad];obtain⟨d,hd⟩:=x g6 l6;have m:∀(r:A8),Co r=true->∃(O:A8) (w:Cs),(Aa (Ct ((b,(A.1,A.2)),5)) (λk=>(Ab (Ak k.1 0) (Aa (Ud r) (λl=>(some (l,(k.2.1,k.2.2))))) (Ab (Ak k.1 1) (Aa (TZ r) (λl=>(some (l,(k.2.1,k.2.2))))) (some (r,(k.2.1,k.2.2)))))))=some (O,w)/\Co O=true/\0<=w.1:=by
  intro r u;obtain⟨U,s9,Z,_,_,G⟩:=Dl (s:=(A.1,A.2)) 5 i k6;simp only[Z,Ad,Eu];by_cases K:(U:Int)=0
  .rw[AF K,Ah,Zmc (sZ u),Ad];exact⟨_,_,rfl,(Znc (t:=_) ⟨u,rfl,rfl⟩).ok,G⟩
  rw[AG K,Ag];by_cases L:(U:Int)=1
  .rw[AF L,Ah,Zl8 (sZ u),Ad];exact⟨_,_,rfl,(Znb (t:=_) ⟨u,rfl,rfl⟩).ok,G⟩
  rw[AG L,Ag];exact⟨_,_,rfl,u,G⟩
 have p:F0 [120]=[120]:=by decide
 obtain⟨d2,q⟩:=fO (cs:=0) (ns:=[120]) (by omega) (λn j=>by simp only[Db]at j;subst j;exact⟨by decide,_,jl (by decide)⟩) (by simp);rw[p]at q;by_cases C:(Mj (T:Int) e f (F0 g)).2=0
 .rw[C,Jr,Ag,A4];exact m (Mj (T:Int) e f (F0 g)).1 (kE C).ok
 rw[Hl C,Ah,kZ a (by simp),Ad,A4];exact m (Mj 5 e f [120]).1 (kE (tb (by decide) l2 N q (.inr (by decide)))).ok
def rY{b:List UInt8}{s:Cs}(e:DD b)(z:0<=s.1):∃(r:A8) (w:Cs),Ux (b,s)=some (r,w)/\Fz 100 r/\0<=w.1:=by
 rw[Ux];obtain⟨r,B,x,l,A⟩:=rZ (s:=s) e z;have l:=bL l;obtain⟨f,j,g⟩:=l;simp only[x,Ad];obtain⟨h,k,y,l2,_,c⟩:=Dl (s:=B) 14 e A;simp only[y,Ad,Eu];by_cases n:(h:Int)=0
 .rw[AF n,Ah];obtain⟨v,m,a,i,d⟩:=rW (s:=k) e c;rw[a,Ad,A4];exact⟨_,_,rfl,⟨by simp only;omega,j,g⟩,d⟩
 rw[AG n,Ag];by_cases o:(h:Int)=1
 .rw[AF o,Ah];obtain⟨v,m,a,i,d⟩:=F6 (s:=k) [0,1,2,3,4,-1] e c (by simp);rw[a,Ad,A4];exact⟨_,_,rfl,⟨f,j,g⟩,d⟩
 rw[AG o,Ag];by_cases p:(h:Int)=2
 .rw[AF p,Ah,A4];exact⟨_,_,rfl,⟨f,j,g⟩,c⟩
 rw[AG p,Ag];by_cases q:(h:Int)=3
 .rw[AF q,Ah];obtain⟨v,m,a,i,d⟩:=rX (s:=k) e c;rw[a,Ad,A4];exact⟨_,_,rfl,⟨f,i,g⟩,d⟩
 rw[AG q,Ag];by_cases t:(h:Int)=4
 .rw[AF t,Ah];obtain⟨v,m,a,i,d⟩:=rX (s:=k) e c;rw[a,Ad,A4];exact⟨_,_,rfl,⟨f,j,i⟩,d⟩
 rw[AG t,Ag];by_cases u:(h:Int)=5
 .rw[AF u,Ah,A4];exact⟨_,_,rfl,⟨f,by simp,g⟩,c⟩
 rw[AG u,Ag,A4];exact⟨_,_,rfl,⟨f,j,g⟩,c⟩
end
end Go.Vs
