import Derived.Test.YteaoaehkkcbmbaaGreatDoorVsQvl
set_option linter.all false
namespace Go.Vs
noncomputable section
def Zk9{u:BN}{t:B9}{r:Bo}(h:FD 1048576 u)(hd:EQ u.1=true)(d:EU 1048576 t):FD 1048576 (Lm u t r).1:=by
 have b:HN 1048576 (IU u r):=by
  have a:=Qh (bX (r:=r) hd);have c:=Hk (show CH _ _ _=true from bX (r:=r) hd);exact⟨a.1,a.2.1,by have:=c.2.1;omega,a.2.2.2⟩
 unfold Lm;split
 .exact h
 split
 .exact⟨b,h.2⟩
 exact⟨b,d⟩
def Zbx{s:BN}(h:FD 1048576 s):FD 1048576 (Fs s):=by
 unfold Fs;split
 .exact iy h
 exact h
def x1{s:BN}{r:Bo}(h:FD 1048576 s)(b:FM 1048576 r):FD 1048576 (HV s r).1:=by
 unfold HV;split
 .rename_i a;exact Zk9 (Zbx h) (hB (Ph a.1).1) (x9 h.2 b)
 exact h
structure GoodD (m:Nat) (x:Dv):Prop where
 ok:EQ x=true
 up:x.2.2.2=false
 fuse:x.2.2.1=-1
 small:x.2.1.length<=m
def sV{n:Int}(h:1<=n/\n<=64):GoodD 0 (Jt n):=by
 unfold Jt;rw[Af h];refine⟨O1 ?_ ?_ ?_ ?_ ?_,rfl,rfl,AE _⟩
 .simp;omega
 .simp
 .simp
 .intro b a;rw[dZ a];simp
 intro w c;cases c
def Zbq{m:Nat}{x:Dv}(h:GoodD m x):GoodD 0 (E6 x.1 x.2.1 x.2.2.1 x.2.2.2):=by
 obtain⟨g,a,d,c⟩:=x;obtain⟨l,e,f,n⟩:=h;simp only at e f n;subst e f;obtain⟨i,o,p,j,k⟩:=Hk l;simp only;rw[aJ (by omega)];refine⟨O1 ?_ ?_ ?_ ?_ ?_,rfl,rfl,AE _⟩
 .simpa using i
 .simp
 .show -1<=Gx (-1)/\Gx (-1)<=1000;decide
 .exact gv j λw b=>(k w b).2.2
 intro w b;cases b
def Zp4{m:Nat}{x:Dv}{n:Int}{b:List UInt8}(h:GoodD m x)(c:0<=n/\n<=(x.1.length:Int)-1)(s:b.length<=120)(u:m<40):Ff x.1 x.2.1 x.2.2.1 x.2.2.2 n b=(x.2.1++[(n,b)],-1,false)/\GoodD (m+1) (x.1,x.2.1++[(n,b)],-1,false):=by
 obtain⟨o,d,j,i⟩:=x;obtain⟨q,k,l,r⟩:=h;simp only at k l r c;subst k l;obtain⟨e,p,t,f,g⟩:=Hk q;simp only at e p f g ⊢;refine⟨?_,O1 e (by simp;omega) ⟨by simp only;omega,by simp only;omega⟩ f ?_,rfl,rfl,by simp;omega⟩
 .rw[mC (by rintro (h|h|h|h);cases h;exact h c;omega;omega) (by omega)];rfl
 intro w a;rcases C7.1 a with a|a
 .exact g w a
 simp only[Db]at a;subst a;exact⟨c.1,c.2,s⟩
def Zi6{b : List UInt8}{s : Cs}(o : DD b)(hs : 0 ≤ s.1) : ∃ (d : Dv) (m : Cs), XN (b, s) = some (d, m) ∧ GoodD 7 d ∧ 0 ≤ m.1 := by
  obtain ⟨B, N, U, L, _, k1⟩ := Dl (s := (s.1, s.2)) 6 o hs;have L := L (by omega);unfold XN;simp only[U, Ad];rw[show Au .i64 2 (B : Int) = ((2 + B : Nat) : Int) from by rw[CS (by omega) (by omega)]; omega, uV, Ad];have H := sV (n := ((2 + B : Nat) : Int)) (by omega);generalize Jt ((2 + B : Nat) : Int) = z at H;obtain ⟨K, O, V, l2, _, k2⟩ := Dl (s := (N.1, N.2)) 8 o k1;have l2 := l2 (by omega);simp only[V, Ad];obtain ⟨r, Z, d, m, h2, A, h4⟩ := IO (step := YQ (b, s)) (λj (g : Int × Int × List (List UInt8) × List Wr × Int × Bool × Int) => 0 ≤ g.1 ∧ GoodD j (g.2.2.1, g.2.2.2.1, g.2.2.2.2.1, g.2.2.2.2.2.1) ∧ g.2.2.2.2.2.2 = (K : Int) - j) K (λr => ∃ (d : Dv) (m : Cs), r = .inl (m.1, m.2, d) ∧ GoodD K d ∧ 0 ≤ m.1)
    (fun j g hj h => by
      obtain ⟨i, q, c, a, f, e, k⟩ := g;obtain ⟨p, l, u⟩ := h;simp only at p l u;subst u;have v := Qh l.ok;obtain ⟨T, d2, D, d4, E⟩ := Hk l.ok;unfold YQ;simp only;rw[D4 (by omega), Ah];have G : Br .i64 ((K : Int) - j) 1 = (K : Int) - ((j + 1 : Nat) : Int) := by rw[E8 (by omega) (by omega)]; omega
      obtain ⟨t, P, W, J⟩ := ir (s := (i, q)) 4 o p;simp only[W, Ad];cases t with
      |true=>
        rw[Ah, uX (x := (c, a, f, e)) v D (λw I => ⟨(E w I).1, (E w I).2.1⟩), Ad, A4];have := Zbq l;simp only at this;refine .inl ⟨_, rfl, J, ⟨this.ok, this.up, this.fuse, CW this.small (Cq _)⟩, G⟩
      |false=>
        rw[Ag];obtain ⟨v4, Q, F, C, _, k4⟩ := Dl (s := (P.1, P.2)) (Am c) o J;simp only[Av] at F C;simp only at T;have C := C (by omega);obtain ⟨v5, R, X, M, _, k5⟩ := Dl (s := (Q.1, Q.2)) 4 o k4;have M := M (by omega);obtain ⟨y, s6, Y, l6, k6⟩ := VT (s := (R.1, R.2)) v5 o k5 (by omega);simp only[Av, F, X, Y, Ad];obtain ⟨S, w2⟩ := Zp4 (x := (c, a, f, e)) (n := (v4 : Int)) (b := y) l (by simp only; omega) (by omega) (by omega);rw[u9 (x := (c, a, f, e)) v D (by omega), Ad, A4];simp only at S;simp only[S];exact .inl ⟨_, rfl, k6, w2, G⟩)
    (fun g h => by
      obtain ⟨i, q, c, a, f, e, k⟩ := g;obtain ⟨p, l, u⟩ := h;simp only at p l u;subst u;refine ⟨.inl (i, q, c, a, f, e), ?_, (c, a, f, e), (i, q), rfl, l, p⟩;unfold YQ;simp only;rw[Ee (by omega), Ag])
    (O.1, O.2, z.1, z.2.1, z.2.2.1, z.2.2.2, (K : Int)) ⟨k2, H, by simp⟩
  subst h2;rw[Z, A4];exact ⟨_, _, rfl, ⟨A.ok, A.up, A.fuse, CW A.small (by omega)⟩, h4⟩
def QY{x:Dv}(a:x.1.length<=1048576)(c:∀b∈x.1,b.length<=1048576)(d:x.2.1.length<=1048576)(e:∀w∈x.2.1,w.2.length<=1048576):HN 1048576 x:=⟨a,c,d,e⟩
def il{b : List UInt8}{s : Cs}(m : DD b)(X : 0 ≤ s.1) : ∃ (d : Dv) (t : Cs), R8 (b, s) = some (d, t) ∧ HN 1048576 d ∧ 0 ≤ t.1 := by
  obtain ⟨d, H, Q, F, Z⟩ := Zi6 (s := (s.1, s.2)) m X;obtain ⟨d1, d2, d3, d4, d5⟩ := Hk F.ok;have W := F.small;have G := Qh F.ok;obtain ⟨v, o, x, p⟩ := G;have x : d.2.1.length ≤ 1048576 := by omega
  unfold R8;simp only[Q, Ad];obtain ⟨z, f, R, l2, _, n⟩ := Dl (s := (H.1, H.2)) 12 m Z;simp only[R, Ad, Eu];by_cases I : (z : Int) = 0
  · rw[AF I, Ah]
    obtain ⟨k, g, l, A, _, e⟩ := Dl (s := (f.1, f.2)) 2 m n;have A := A (by omega);simp only[l, Ad];have C : Au .i64 120 (k : Int) = ((120 + k : Nat) : Int) := by rw[CS (by omega) (by omega)]; omega
    simp only[C, decide_true];rw[AY, jQ (by omega) (by omega), AY, show (0 : Int) = ((0 : Nat) : Int) from rfl, BK (i := 0) (by omega), Ad, A4];refine ⟨_, _, rfl, QY (by simp[BS]; omega) ?_ x p, e⟩;intro y Y;rcases UK Y with h | h
    · exact o y h
    rw[h, Zkg]; simp only[GX, da]; omega
  rw[AG I, Ag];by_cases J : (z : Int) = 1
  · rw[AF J, Ah]
    obtain ⟨k, g, l, _, e⟩ := F6 (s := (f.1, f.2)) [-1, 0, 99] m n (by simp);simp only[l, Ad];obtain ⟨y, s4, B, l4, k4⟩ := VT (s := (g.1, g.2)) 2 m e (by omega);have B : Kb ((b, g.1, g.2), 2) = some (y, s4) := B;rw[B, Ad, B8 (by omega), AY, A4];refine ⟨_, _, rfl, QY v o (by simp[Ax]; omega) ?_, k4⟩;intro w a;rcases C7.1 a with a | a
    · exact p w a
    simp only[Db] at a; subst a; simp only; omega
  rw[AG J, Ag];by_cases K : (z : Int) = 2
  · rw[AF K, Ah]
    obtain ⟨r, S, c, t, T, h3, U, V⟩ := IO (step := eY (b, s) (d, H)) (λj (u : Int × Int × List Wr) => 0 ≤ u.1 ∧ j ≤ u.2.2.length ∧ u.2.2.length ≤ 41 ∧ ∀ w ∈ u.2.2, w.2.length ≤ 1048576) 42 (λr => ∃ (c : List Wr) (t : Cs), r = .inl (t.1, t.2, d.1, c, d.2.2.1, d.2.2.2) ∧ c.length ≤ 41 ∧ (∀ w ∈ c, w.2.length ≤ 1048576) ∧ 0 ≤ t.1)
      (fun j u hj h => by
        obtain ⟨i, q, c⟩ := u;obtain ⟨O, P, D, E⟩ := h;simp only at O P D E;unfold eY;simp only;obtain ⟨k, g, l, A, _, e⟩ := Dl (s := (i, q)) 3 m O;have A := A (by omega);have C : Au .i64 39 (k : Int) = ((39 + k : Nat) : Int) := by rw[CS (by omega) (by omega)]; omega
        simp only[l, Ad, C];by_cases hl : c.length < 39 + k
        · rw[Bw (by simp only[Av]; omega), Ah, B8 (by omega), AY]
          refine .inl ⟨_, rfl, e, by simp[Ax]; omega, by simp[Ax]; omega, ?_⟩;intro w a;rcases C7.1 a with a | a
          · exact E w a
          simp only[Db] at a; subst a; simp
        · rw[B1 (by simp only[Av]; omega), Ag]
          exact .inr ⟨_, rfl, c, g, rfl, D, E, e⟩)
      (fun u h => by
        obtain ⟨_, P, D, _⟩ := h;omega)
      (f.1, f.2, d.2.1) ⟨n, Cq _, by simp only; omega, p⟩
    subst T;rw[S, A4];exact ⟨_, _, rfl, QY v o (by simp only; omega) U, V⟩
  rw[AG K, Ag];by_cases L : (z : Int) = 3
  · rw[AF L, Ah]
    obtain ⟨k, g, l, _, e⟩ := F6 (s := (f.1, f.2)) [0, 1, 5, -2, 1001] m n (by simp);simp only[l, Ad, A4];exact ⟨_, _, rfl, QY v o x p, e⟩
  rw[AG L, Ag];by_cases M : (z : Int) = 4
  · rw[AF M, Ah, A4]
    exact ⟨_, _, rfl, QY v o x p, n⟩
  rw[AG M, Ag];by_cases N : (z : Int) = 5
  · rw[AF N, Ah, A4]
    exact ⟨_, _, rfl, QY v o x p, n⟩
  rw[AG N, Ag, A4];exact ⟨_, _, rfl, QY v o x p, n⟩
def Zm7{x:Dv}(h:GP x):X6 (x,x)=some true:=by
 obtain⟨b,a,d,c⟩:=x;obtain⟨f,g,j,k⟩:=h;simp only at f g j k;unfold X6;simp only[Jr,Ag,xc];rw[show Bd (YF ((b,(a,(d,c))),(b,(a,(d,c))))) 0=some (.inl ()) from HI (λi=>(i:Int)) b.length _ (λi e=>by
  unfold YF;simp only;rw[Bw (by simp only[Av];omega),Ah,BK e,Ad,Ad,uT,Bf,Ag,CX (by omega)]) (by
  unfold YF;simp only;rw[B1 (by simp only[Av];omega),Ag]) 0 rfl,A4]
 exact HI (λi=>(i:Int)) a.length _ (λi e=>by
  unfold eO;simp only;rw[Bw (by simp only[Av];omega),Ah,BK e,Ad,Ad,Jr,Ag,Ad,Ad,uT,Bf,Ag,CX (by omega)]) (by
  unfold eO;simp only;rw[B1 (by simp only[Av];omega),Ag]) 0 rfl
def Gq(x:Dv):Prop:=x.2.2.2=false/\x.2.2.1=-1
def mB{x:Dv}{n:Int}{b:List UInt8}(h:Gq x):Gq (x.1,Ff x.1 x.2.1 x.2.2.1 x.2.2.2 n b):=by
 obtain⟨g,a,d,c⟩:=x;obtain⟨e,f⟩:=h;simp only at e f;subst e f;unfold Ff Gq;split
 .exact⟨rfl,rfl⟩
 split
 .rename_i h;exact H4 h (show ¬(-1:Int)=0 by decide)
 exact⟨rfl,show Gx (-1)=-1 by decide⟩
def gs{x:Dv}(h:Gq x):Gq (E6 x.1 x.2.1 x.2.2.1 x.2.2.2):=by
 obtain⟨f,a,c,b⟩:=x;obtain⟨d,e⟩:=h;simp only at d e;subst d e;simp only;rw[aJ (by omega)];exact⟨rfl,show Gx (-1)=-1 by decide⟩
def qH(s:List (List UInt8))(c:List Wr)(f:Int)(d:Bool):(E6 s c f d).1.length=s.length:=by
 unfold E6;split
 .rfl
 split
 .rfl
 simp
def qG(s:List (List UInt8))(c:List Wr)(f:Int)(d:Bool):(E6 s c f d).2.2.2=true\/(E6 s c f d).2.1=[]:=by
 unfold E6;split
 .rename_i h;exact .inl h
 split
 .exact .inl rfl
 exact .inr rfl
def o8{g:Int}{a:List Bo}{D:Dv}(h:Gq D):∀i,Gq (Cf g a D i)
 |0=>h
 |i+1=>mB (o8 h i)
def r_{g:Int}{a:List Bo}{D:Dv}(h:Gq D):Gq (Gg g a D):=gs (x:=(_,_)) (mB (gs (o8 h _)))
def r9{g:Int}{a:List Bo}{D:Dv}:(Gg g a D).1.length=D.1.length:=by
 unfold Gg;simp only[qH,ZB]
def r8{g:Int}{a:List Bo}{D:Dv}:(Gg g a D).2.2.2=true\/(Gg g a D).2.1=[]:=qG _ _ _ _
def tA{u:BN}{r:Bo}(h:Gq u.1):Gq (IU u r):=gs (x:=(_,_)) (mB h)
def sy{u:BN}{r:Bo}:(IU u r).1.length=u.1.1.length:=qH _ _ _ _
def sx{u:BN}{r:Bo}:(IU u r).2.2.2=true\/(IU u r).2.1=[]:=qG _ _ _ _
structure RightS (s:BN):Prop where
 dev:EQ s.1=true
 len:s.1.1.length=62
 cache:s.1.2.2.2=true\/s.1.2.1=[]
 tab:Dw s.2.1=true
 gen:1<=s.2.2.1/\s.2.2.1<=60000
 place:0<=s.2.2.2/\s.2.2.2<=30
def kB{s:BN}(h:RightS s):GH s=true:=by
 obtain⟨a,b,c,d,e,f⟩:=h;unfold GH;rw[show CH s.1.1 s.1.2.1 s.1.2.2.1=true from a,AF b,d,AF e,AF f];rcases c with h|h<;>simp[h]
def QN{s:BN}(h:RightS s):FD 1048576 s:=by
 have a:=Qh h.dev;have b:=Hk (show CH s.1.1 s.1.2.1 s.1.2.2.1=true from h.dev);exact⟨⟨a.1,a.2.1,by have:=b.2.1;omega,a.2.2.2⟩,(Pj h.tab).mono (by decide)⟩
def Zli{t:B9}(h:Dw t=true):(Hs t).length<=18:=by
 obtain⟨_,_,a,_,_,b⟩:=cb h;rw[jv];omega
def Zjp{s:BN}(h:RightS s):RightS (IN s):=by
 unfold IN;split
 .rename_i b;have a:=h.gen;have c:=Zli h.tab;refine⟨VV h.dev,by simp only[r9,h.len],r8,h.tab, ?_, ?_⟩
  .simp only;split
   .exact a
   simp only;omega
  simp only;split
  .exact h.place
  simp only;omega
 exact h
def Zbw{s:BN}(h:RightS s):RightS (Fs s):=by
 unfold Fs;split
 .exact Zjp h
 exact h
def Zk8{u:BN}{t:B9}{r:Bo}(h:RightS u)(c:Dw t=true):RightS (Lm u t r).1:=by
 have d:=h.place;unfold Lm;split
 .exact h
 rename_i a;have b:¬u.2.2.2=30:=λe=>a (.inr e);split
 .exact⟨bX h.dev,by simp only[sy,h.len],sx,h.tab,h.gen,h.place⟩
 exact⟨bX h.dev,by simp only[sy,h.len],sx,c,h.gen,by simp only;rw[CS (by omega) (by omega)];omega⟩
def nH{s:BN}{r:Bo}(h:RightS s):RightS (HV s r).1:=by
 unfold HV;split
 .exact Zk8 (Zbw h) (ek h.tab)
 exact h
def Zjq{s:BN}(h:Gq s.1):Gq (IN s).1:=by
 unfold IN;split
 .exact r_ h
 exact h
def x2{s:BN}{r:Bo}(h:Gq s.1):Gq (HV s r).1.1:=by
 have a:Gq (Fs s).1:=by
  unfold Fs;split
  .exact Zjq h
  exact h
 unfold HV;split
 .unfold Lm;split
  .exact a
  split
  .exact tA a
  exact tA a
 exact h
def Wh:EQ (Jt 62)=true/\Gq (Jt 62)/\(Jt 62).1.length=62:=⟨(sV (by omega)).ok,⟨rfl,rfl⟩,rfl⟩
def V5:BN:=(Gg 1 (Hs IW) (Jt 62),(IW,(1,1)))
def ca:EU 1048576 IW:=(Pj Tx).mono (by decide)
def gz:RightS V5/\Gq V5.1:=⟨⟨VV Wh.1,r9.trans Wh.2.2,r8,Tx,by decide,by decide⟩,r_ Wh.2.1⟩
def Zh1:Xw ()=some V5:=by
 have a:=Wx ca;rw[Xw];rw[show Rv ([],(0,[]))=some (Hs IW) from qn ca,Ad,Zhy,Ad,qy Wh.1 (tM _) a.1 a.2,Ad];rfl
def uY:Ue ()=some V5:=by
 have a:=Wx ca;have b:=(gz).2.1;have e:=k_ (D:=Jt 62) (T:=IW) (gp:=(0,0)) (g:=1) Wh.1 (kS ca) a.1 a.2;rw[Ue,uV,Ad,show L3 ((Jt 62,(([],(0,[])),(0,0))),1)=_ from e,Ad,Ae (by rw[show (Gg 1 (Hs IW) (Jt 62)).2.2.2=false from b];decide)];rfl
end
end Go.Vs
