import Derived.Test.YteaoaehkkcbmbaaGreatDoorVsQvm
set_option linter.all false
namespace Go.Vs
noncomputable section
def Zi0{ρ:Type}(p q:Bool)(K:Bool->Option ρ):AC (Ab p (some (.inl true)) (some (.inl q))) K=K (p||q):=by cases p<;>rfl
def iq{b : List UInt8}{s : Cs}(m : Int)(H : 0 ≤ m ∧ m ≤ 100)(l : DD b)(y : 0 ≤ s.1) : ∃ (t : BN) (p : Cs), RE ((b, s), m) = some (t, p) ∧ RightS t ∧ Gq t.1 ∧ 0 ≤ p.1 := by
  rw[RE, uY, Ad];obtain ⟨j, k⟩ := gz;generalize V5 = f at j k;simp only;rw[CS (by omega) (by omega)];obtain ⟨v, h, u, i, _, A⟩ := Dl (s := s) (m + 1) l y;have i := i (by omega);rw[u, Ad];obtain ⟨o, C, t, c, rfl, D, E, F⟩ := IO (step := YU ((b, s), m)) (λn z => ∃ (t : BN) (c : Cs), z = (c.1, (c.2, (t.1.1, (t.1.2.1, (t.1.2.2.1, (t.1.2.2.2, (t.2.1.1, (t.2.1.2.1, (t.2.1.2.2, (t.2.2.1, (t.2.2.2, ((v : Int) - (n : Int)))))))))))))
 ∧ RightS t ∧ Gq t.1 ∧ 0 ≤ c.1) v (λo => ∃ (t : BN) (c : Cs), o = .inl (c.1, (c.2, (t.1.1, (t.1.2.1, (t.1.2.2.1, (t.1.2.2.2, (t.2.1.1, (t.2.1.2.1, (t.2.1.2.2, t.2.2))))))))) ∧ RightS t ∧ Gq t.1 ∧ 0 ≤ c.1)
    (fun n z I g => by
      obtain ⟨t, c, rfl, a, d, e⟩ := g;rw[YU];simp only;rw[D4 (by omega), Ah];obtain ⟨r, q, w, G, J, B⟩ := VS (s := c) l e;rw[show L0 (b, (c.1, c.2)) = _ from w, Ad];have x := k9 (s := t) (r := r) (QN a) (G.mono (by omega)) (kB a) d.1;rw[show NY (((t.1.1, (t.1.2.1, (t.1.2.2.1, t.1.2.2.2))), ((t.2.1.1, (t.2.1.2.1, t.2.1.2.2)), (t.2.2.1, t.2.2.2))), r) = _ from x, Ad, E8 (by omega) (by omega), show ((v : Int) - (n : Int)) - 1 = (v : Int) - ((n + 1 : Nat) : Int) by omega];exact .inl ⟨_, rfl, (HV t r).1, q, rfl, nH a, x2 d, B⟩)
    (fun z g => by
      obtain ⟨t, c, rfl, a, d, e⟩ := g;rw[YU];simp only;rw[Ee (by omega), Ag];exact ⟨_, rfl, t, c, rfl, a, d, e⟩)
    (h.1, (h.2, (f.1.1, (f.1.2.1, (f.1.2.2.1, (f.1.2.2.2, (f.2.1.1, (f.2.1.2.1, (f.2.1.2.2, (f.2.2.1, (f.2.2.2, (v : Int)))))))))))) ⟨f, h, by simp, j, k, A⟩
  simp only[C, A4];exact ⟨t, c, rfl, D, E, F⟩
def ip{b:List UInt8}{s:Cs}(m:Int)(z:0<=m/\m<=100)(e:DD b)(A:0<=s.1):∃(t:BN) (u:Cs),RD ((b,s),m)=some (t,u)/\FD 1048576 t/\0<=u.1:=by
 rw[RD];obtain⟨t,C,v,D,E,B⟩:=iq (s:=s) m z e A;obtain⟨i,j⟩:=QN D;rw[v,Ad];simp only;obtain⟨g,k,y,_,_,f⟩:=Dl (s:=C) 14 e B;simp only[y,Ad,Eu];by_cases n:(g:Int)=0
 .rw[AF n,Ah];obtain⟨d,l,a,h,c⟩:=il (s:=k) e f;rw[a,Ad,A4];exact⟨_,_,rfl,⟨h,j⟩,c⟩
 rw[AG n,Ag];by_cases o:(g:Int)=1
 .rw[AF o,Ah];obtain⟨x,l,a,h,c⟩:=Zi8 (s:=k) 4 (by omega) e f;rw[a,Ad,A4];exact⟨_,_,rfl,⟨i,h.mono (by decide)⟩,c⟩
 rw[AG o,Ag];by_cases p:(g:Int)=2
 .rw[AF p,Ah];obtain⟨x,l,a,h,c⟩:=F6 (s:=k) [0,59999,60000,60001,-1] e f (by simp);rw[a,Ad,A4];exact⟨_,_,rfl,⟨i,j⟩,c⟩
 rw[AG p,Ag];by_cases q:(g:Int)=3
 .rw[AF q,Ah];obtain⟨x,l,a,h,c⟩:=F6 (s:=k) [-1,30,31] e f (by simp);rw[a,Ad,A4];exact⟨_,_,rfl,⟨i,j⟩,c⟩
 rw[AG q,Ag];rw[Zi0];generalize (decide ((g:Int)=4)||decide ((g:Int)=5))=w;cases w with
 |true=>
  rw[Ah];obtain⟨x,l,a,h,c⟩:=F6 (s:=k) [0,1,2,5] e f (by simp);rw[a,Ad,A4];exact⟨_,_,rfl,⟨i,j⟩,c⟩
 |false=>
  rw[Ag];by_cases r:(g:Int)=6
  .rw[AF r,Ah,A4];exact⟨_,_,rfl,⟨i,j⟩,f⟩
  rw[AG r,Ag,A4];exact⟨_,_,rfl,⟨i,j⟩,f⟩
def Zng{g i:Int}(b:1<=g/\g<=60000)(c:0<=i/\i<=29):∃k:Nat,ET g i=(k:Int)/\k<62:=by
 obtain⟨n,rfl⟩:=Gb (show 0<=g by omega);unfold ET;rw[show EX (n:Int) 2=((n%2:Nat):Int) from rfl];have a:n%2<2:=KG _ (by decide);rw[show Fu .i64 30 ((n%2:Nat):Int)=30*((n%2:Nat):Int) from Rs (by omega) (by omega),show Au .i64 2 (30*((n%2:Nat):Int))=2+30*((n%2:Nat):Int) from CS (by omega) (by omega),CS (by omega) (by omega)];exact⟨(2+30*((n%2:Nat):Int)+i).toNat,by omega,by omega⟩
def xQ{x:List UInt8}(a:DD x):∃t:BN,XG x=some t/\FD 1048576 t:=by
 rw[XG];obtain⟨h,c⟩:=VU a;obtain⟨t,g,d,e,f⟩:=ip (b:=x) (s:=(0,h)) 6 (by omega) a (by simp);rw[c,Ad,d,Ad];exact⟨_,rfl,e⟩
def xN{x:List UInt8}(a:DD x):∃t:BN,XB x=some t/\FD 1048576 t:=by
 rw[XB];obtain⟨h,c⟩:=VU a;obtain⟨t,g,d,e,f⟩:=ip (b:=x) (s:=(0,h)) 6 (by omega) a (by simp);rw[c,Ad,d,Ad];exact⟨_,rfl,e⟩
def ro{v:Int}(h:v∈[(6:Int),6,34]):0<=v/\v<=100:=by
 simp only[AX,Yx,Yz]at h;omega
def xM{x:List UInt8}(a:DD x):∃(t:BN) (r:Bo),X9 x=some (t,r)/\FD 1048576 t/\FM 100 r:=by
 rw[X9];obtain⟨h,i⟩:=VU a;obtain⟨v,p,ev,l,m⟩:=F6 (b:=x) (s:=(0,h)) [6,6,34] a (by simp) (by simp);obtain⟨t,q,j,g,n⟩:=ip (b:=x) (s:=p) v (ro l) a m;obtain⟨w,f,k,e⟩:=ir (s:=q) 4 a n;rw[i,Ad,ev,Ad,j,Ad];simp only[k,Ad];cases w with
 |true=>
  obtain⟨r,u,c,d,o⟩:=Zi7 (s:=f) a e;rw[Ah,c,Ad];exact⟨_,_,rfl,g,d⟩
 |false=>
  obtain⟨r,u,c,d,_,o⟩:=VS (s:=f) a e;rw[Ag,c,Ad];exact⟨_,_,rfl,g,d⟩
def ki{d:Dv}{l:List (List UInt8)}{n:Nat}{y:List UInt8}(a:l.length<=1048576)(c:∀b∈l,b.length<=1048576)(i:y.length<=1048576)(e:d.2.1.length<=1048576)(f:∀w∈d.2.1,w.2.length<=1048576):HN 1048576 (BS l n y,d.2):=by
 refine⟨by simpa using a, ?_,e,f⟩;intro b g;rcases UK g with h|h
 .exact c b h
 rw[h];exact i
def xP{x:List UInt8}(a:DD x):∃(d:Dv) (g:Int),XF x=some (d,g)/\HN 1048576 d:=by
 rw[XF];obtain⟨h,D⟩:=VU a;obtain⟨t,M,E,n,P,J⟩:=iq (b:=x) (s:=(0,h)) 8 (by omega) a (by simp);obtain⟨u,v,w,z⟩:=(QN n).1;obtain⟨C,l,F,_,_,j⟩:=Dl (s:=M) 4 a J;rw[D,Ad,E,Ad];simp only[F,Ad,Eu];by_cases q:(C:Int)=0
 .rw[AF q,Ah];obtain⟨o,m,c,p,_,A⟩:=Dl (s:=l) 6 a j;have p:=p (by omega);obtain⟨k,G,I⟩:=Zng (i:=(o:Int)) n.gen (by omega);obtain⟨y,B,e,Q,K⟩:=VT (s:=m) 3 a A (by omega);have e:Kb ((x,m),3)=some (y,B):=e;simp only[c,Ad];rw[show L2 (t.2.2.1,(o:Int))=some (ET t.2.2.1 o) from rfl,Ad,e,Ad,G,BK (by rw[n.len];exact I),Ad,A4];obtain⟨O,N,f,_,L⟩:=F6 (s:=B) [t.2.2.1,t.2.2.1,Br .i64 t.2.2.1 1,Au .i64 t.2.2.1 1,0,60001] a K (by simp);simp only[f,Ad];exact⟨_,_,rfl,ki (d:=t.1) u v (by omega) w z⟩
 rw[AG q,Ag];by_cases r:(C:Int)=1
 .rw[AF r,Ah];obtain⟨d,m,c,H,A⟩:=il (s:=l) a j;rw[c,Ad];exact⟨_,_,rfl,H⟩
 rw[AG r,Ag,A4];obtain⟨O,N,f,_,L⟩:=F6 (s:=l) [t.2.2.1,t.2.2.1,Br .i64 t.2.2.1 1,Au .i64 t.2.2.1 1,0,60001] a j (by simp);simp only[f,Ad];exact⟨_,_,rfl,u,v,w,z⟩
def Zby{t:BN}{f:Int}(h:RightS t)(e:-1<=f/\f<=1000):RightS ((t.1.1,(t.1.2.1,(f,t.1.2.2.2))),t.2):=by
 obtain⟨a,b,g,c,d⟩:=Hk (show CH t.1.1 t.1.2.1 t.1.2.2.1=true from h.dev);exact⟨O1 a b e c d,h.len,h.cache,h.tab,h.gen,h.place⟩
def Zbj{d:Dv}{n:Int}(h:EQ d=true):HN 1048576 (Sz d n)/\(Sz d n).1.length=d.1.length:=by
 obtain⟨g,i,j,c,e⟩:=Hk (show CH d.1 d.2.1 d.2.2.1=true from h);unfold Sz;rw[pr (show CH d.1 d.2.1 d.2.2.1=true from h)];refine⟨⟨by simp only[LE];omega, ?_,Cq _,λw a=>(by cases a)⟩,LE _ _ _ _⟩;intro b f;have:=pt (m:=120) c (λw a=>(e w a).2.2) b f;omega
def xO{x:List UInt8}(a:DD x):∃d:Dv,XE x=some d/\HN 1048576 d:=by
 rw[XE];obtain⟨h,K⟩:=VU a;obtain⟨v,s0,ev,S,T⟩:=F6 (b:=x) (s:=(0,h)) [6,6,34] a (by simp) (by simp);obtain⟨t,s1,L,t1,tu,U⟩:=iq (b:=x) (s:=s0) v (ro S) a T;obtain⟨f,s2,M,u,V⟩:=F6 (s:=s1) [-1,0,1,2] a U (by simp);obtain⟨r,s3,N,Z,_,W⟩:=VS (s:=s2) a V;have u:-1<=f/\f<=1000:=by
  simp only[AX,Yx,Yz]at u;omega
 have tr:=Zby t1 u;have J:=k9 (r:=r) (QN tr) (Z.mono (by omega)) (kB tr) tu.1;have j:=nH (r:=r) tr;generalize HV ((t.1.1,(t.1.2.1,(f,t.1.2.2.2))),t.2) r=y at J j;obtain⟨C,s4,O,_,_,X⟩:=Dl (s:=s3) 8 a W;obtain⟨D,A,P,_,_,w⟩:=Dl (s:=s4) 6 a X;have Q:=Zmb (x:=y.1.1) (n:=(C:Int)) (Lq (QN j).1);obtain⟨⟨k,l,m,o⟩,I⟩:=Zbj (n:=(C:Int)) j.dev;rw[j.len]at I;rw[K,Ad,ev,Ad,L,Ad];simp only[M,Ad,N,J,MQ,O,Q,P,Eu];generalize Sz y.1.1 (C:Int)=d at k l m o I;by_cases F:(D:Int)=0
 .rw[AF F,Ah];obtain⟨E,e,i,g,_,p⟩:=Dl (s:=A) 2 a w;have g:=g (by omega);obtain⟨q,B,c,y7,Y⟩:=VT (s:=e) 6 a p (by omega);have c:Kb ((x,e),6)=some (q,B):=c;simp only[i,c,Ad];rw[BK (by omega),Ad,A4];exact⟨_,rfl,ki (d:=d) k l (by omega) m o⟩
 rw[AG F,Ag];by_cases G:(D:Int)=1
 .rw[AF G,Ah];obtain⟨E,e,i,g,_,p⟩:=Dl (s:=A) 60 a w;have g:=g (by omega);obtain⟨q,B,c,y7,Y⟩:=VT (s:=e) 3 a p (by omega);have c:Kb ((x,e),3)=some (q,B):=c;simp only[i,c,Ad];rw[show Au .i64 2 (E:Int)=((2+E:Nat):Int) from by rw[CS (by omega) (by omega)];omega,BK (by omega),Ad,A4];exact⟨_,rfl,ki (d:=d) k l (by omega) m o⟩
 rw[AG G,Ag];by_cases H:(D:Int)=2
 .rw[AF H,Ah];obtain⟨z,e,i,R,p⟩:=il (s:=A) a w;rw[i,Ad];exact⟨_,rfl,R⟩
 rw[AG H,Ag,A4];exact⟨_,rfl,k,l,m,o⟩
end
end Go.Vs
