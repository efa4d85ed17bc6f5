import Derived.Test.YteaoaehkkcbmbaaGreatDoorVsQv3
set_option linter.all false
namespace Go.Vs
noncomputable section
def WD(a b:List UInt8):Dc a b=(a==b):=rfl
def Eu(a b:Int):Ak a b=decide (a=b):=by simp only[Ak];rfl
def gq{α σ ρ : Type}{step : σ → Option (σ ⊕ ρ)}(c : Nat → σ)(x : List α)(p : α → Bool)(a : Nat → ρ)(no : ρ)
    (t : ∀ (i : Nat) (h : i < x.length), step (c i) = if p x[i] = true then some (.inr (a i)) else some (.inl (c (i + 1)))) (o : step (c x.length) = some (.inr no)) (g : σ) (l : g = c 0):
    Bd step g = some (match x.findIdx? p with | some i => a i | none => no) := by
  obtain ⟨r, m, n⟩ := IO (step := step) (λi s => s = c i ∧ ∀ (j : Nat) (h : j < x.length), j < i → p x[j] = false) x.length (λr => r = match x.findIdx? p with | some i => a i | none => no)
    (fun i s k h => by
      obtain ⟨rfl, d⟩ := h;rw[t i k];by_cases f : p x[i] = true
      · refine .inr ⟨_, by rw[Af f], ?_⟩
        have : x.findIdx? p = some i := by
          rw[Y0];exact ⟨k, f, λj b => by simpa using d j (by omega) b⟩
        rw[this]
      · refine .inl ⟨_, by rw[Ae f], rfl, λj b q => ?_⟩
        by_cases e : j = i
        · subst e; simpa using f
        · exact d j b (by omega))
    (fun s h => by
      obtain ⟨rfl, d⟩ := h;refine ⟨_, o, ?_⟩;have : x.findIdx? p = none := by
        rw[Y1];intro y u;obtain ⟨j, b, rfl⟩ := MI u;exact d j b b
      rw[this]) g ⟨l, λj _ h => H4 h (U9 _)⟩
  rw[m, n]
def KR{α β:Type}(q:α->β->Bool):List α->List β->Bool
 |a::x,b::y=>q a b&&KR q x y
 |_,_=>true
def ui{α β σ ρ:Type}{step:σ->Option (σ ⊕ ρ)}(f:Nat->σ)(x:List α)(y:List β)(q:α->β->Bool)(no c:ρ)(v:x.length=y.length)
  (s:∀(i:Nat) (h:i<x.length) (u:i<y.length),step (f i)=if q x[i] y[i]=true then some (.inl (f (i+1))) else some (.inr no)) (p:step (f x.length)=some (.inr c)) (n:σ) (o:n=f 0):
  Bd step n=some (if KR q x y=true then c else no):=by
 have l:∀(g:List α) (j:List β) (i:Nat),x.drop i=g->y.drop i=j->i<=x.length->Bd step (f i)=some (if KR q g j=true then c else no):=by
  intro g
  induction g with
  |nil=>
   intro j i b k r;have:i=x.length:=by have:=DU List.length b;simp at this;omega
   subst this;rw[LU,p];simp[KR]
  |cons a g t=>
   intro j i b k r;have d:i<x.length:=by have:=DU List.length b;simp at this;omega
   have e:i<y.length:=by omega
   rw[H1 d]at b;rw[H1 e]at k;simp only[List.cons.injEq]at b;obtain⟨rfl,b⟩:=b;subst k;rw[LU,s i d e];cases m:q x[i] y[i] with
   |true=>rw[Af rfl];simp only[KR,m,I7];exact t _ (i+1) b rfl (by omega)
   |false=>rw[Ae (by simp)];simp[KR,m]
 rw[o];exact l x y 0 rfl rfl (Cq _)
abbrev BI:=Int×List UInt8
def GQ(c:BI):Bool:=decide (0<=c.1/\c.1<=5)&&decide (c.2.length<=20)
def C0(c:BI):Option (List UInt8):=if GQ c then Kj c.1.toNat c.2 else none
def JN(a b:BI):Bool:=match C0 a,C0 b with
 |some x,some y=>x==y
 |_,_=>false
def oI{c:BI}{t:List UInt8}(h:C0 c=some t):GQ c=true/\Kj c.1.toNat c.2=some t:=by
 unfold C0 at h;split at h
 .rename_i a;exact⟨a,h⟩
 cases h
def kV(c:BI):M0 c=some (GQ c):=by
 unfold M0 PG GQ;simp only[Ef,Ad,Vj];split
 .rename_i h;have:(0:Int)<=c.1/\c.1<=5:=by simpa using h
  rw[AF this];simp only[I7,Ck,Av];exact DU some (decide_eq_decide.2 (by omega))
 rename_i h;have:¬((0:Int)<=c.1/\c.1<=5):=by simpa using h
 rw[AG this];rfl
def qr(c:BI):TK c=some (GQ c):=kV c
def oH{c:BI}{F:Int×List UInt8->Option (List UInt8×Bool)}(g:∀{a:Nat}{b:List UInt8},a<=5->b.length<=1048576->F ((a:Int),b)=some (F8 (Kj a b))):
  (Aa (some (GQ c)) (λj=>(Ab (Ap j) (some ([],false)) (Aa (F (c.1,c.2)) (λe=>(some (e.1,e.2)))))))=some (F8 (C0 c)):=by
 rw[Ad];unfold C0;cases h:GQ c with
 |false=>rfl
 |true=>
  simp only[Bf,Ag,BF];simp only[GQ,A6,AA]at h;obtain⟨⟨d,f⟩,i⟩:=h;obtain⟨t,b⟩:=c;simp only at d f i ⊢;obtain⟨n,rfl⟩:=Gb d;rw[g (by omega) (by omega),Ad];rfl
def bt(c:BI):I6 c=some (F8 (C0 c)):=by
 unfold I6;rw[show M0 (c.1,c.2)=some (GQ c) from kV c];exact oH λa b=>Zl9 a b
def iJ(c:BI):P1 c=some (F8 (C0 c)):=by
 unfold P1;rw[show TK (c.1,c.2)=some (GQ c) from qr c];exact oH λa b=>Zhw a b
def uh{a b:BI}{F:BI->Option (List UInt8×Bool)}(d:∀c,F c=some (F8 (C0 c))):(Aa (F (a.1,a.2)) (λe=>(Aa
 (F (b.1,b.2)) (λf=>(Ab e.2 (Ab f.2 (some (Dc e.1 f.1)) (some false)) (some false))))))=some (JN a b):=by
 rw[d,Ad,d,Ad];unfold JN;cases g:C0 a<;>cases h:C0 b<;>rfl
def Zmo(a b:BI):Cz (a,b)=some (JN a b):=uh bt
def Zie(a b:BI):dN (a,b)=some (JN a b):=uh iJ
def E5(a:Int)(x:List UInt8):Option BI:=match J9 a x with
 |none=>none
 |some b=>if b.length<=20 then some (a,b) else none
def cR(o:Option BI):BI×Bool:=match o with
 |none=>((0,[]),false)
 |some c=>(c,true)
def Za6{a:Int}{x b:List UInt8}(h:J9 a x=some b):0<=a/\a<=5:=by
 unfold J9 at h;split at h
 .assumption
 cases h
def br{a:Int}{x:List UInt8}(c:x.length<=1048576):P6 (a,x)=some (cR (E5 a x)):=by
 unfold P6 E5;simp only[uW c,Ad];cases J9 a x with
 |none=>rfl
 |some b=>
  simp only[F8,Bf,Ag];by_cases h:b.length<=20
  .rw[Ee (by simp only[Av];omega),Ag,Af h];rfl
  rw[D4 (by simp only[Av];omega),Ah,Ae h];rfl
def oG(a:Int)(x:List UInt8):(cR (E5 a x)).1.2.length<=20:=by
 unfold E5;split
 .exact Cq _
 split
 .assumption
 exact Cq _
def yA{c:BI}{t:List UInt8}(h:C0 c=some t):t.length<=80:=by
 obtain⟨d,a⟩:=oI h;simp only[GQ,A6,AA]at d;simp only[Kj,BP]at a;obtain⟨f,e,rfl⟩:=a;have b:c.1.toNat<=5:=by omega
 have g:=jk b (bW b _ (AE _) e).1;have:=Re f;omega
def Ps(c:BI)(a:Int):BI×Bool:=match C0 c with
 |none=>(c,false)
 |some t=>match E5 a t with
  |none=>(c,false)
  |some d=>(d,true)
def Zmt{c:BI}{a:Int}(h:c.2.length<=1048576):Um (c,a)=some (Ps c a):=by
 have b:M5 (c.1,c.2)=some c:=by unfold M5;rw[B8 (by simp only;omega)];rfl
 unfold Um Ps;simp only;rw[show I6 (c.1,c.2)=some (F8 (C0 c)) from bt c,Ad];cases e:C0 c with
 |none=>
  simp only[F8,B2,Ah,b,Ad];rw[br (by simp),Ad]
 |some t=>
  have f:=yA e;simp only[F8,Bf,Ag,b,Ad];rw[br (by omega),Ad];cases E5 a t with
  |none=>rfl
  |some d=>rfl
def qi(a:Int):∃n:Nat,n<=255/\Bg .i64 a 255=(n:Int):=by
 refine⟨((BitVec.ofInt 64 a).toNat&&&255),mw, ?_⟩;have e:(BitVec.ofInt 64 255).toNat=255:=by decide
 have b:(BitVec.ofInt 64 a).toNat&&&255<=255:=mw;show IntKind.wrap .i64 (((BitVec.ofInt 64 a)&&&(BitVec.ofInt 64 255)).toNat:Int)=_;rw[BitVec.toNat_and,e];exact Rs (by omega) (by omega)
def qo(v n:Nat):EX (v:Int) (n:Int)=((v%n:Nat):Int):=rfl
abbrev Cs:=Int×Int
def DD(b:List UInt8):Prop:=b.length<=1048576
def ah{b:List UInt8}{s:Cs}(f:DD b)(d:0<=s.1):∃(v:Nat) (e:Cs),NZ (b,s)=some ((v:Int),e)/\v<=255/\0<=e.1:=by
 obtain⟨i,h⟩:=s;simp only at d;obtain⟨k,rfl⟩:=Gb d;unfold DD at f;unfold NZ;simp only;by_cases g:k<b.length
 .rw[Bw (by simp only[Av];omega),Ah,BK g,Ad,A4];obtain⟨n,a,c⟩:=qi (Au .i64 (Bg .i64 (JD .i64 (Cl .i64 (Au .i64 (Fu .i64 h 6364136223846793005) 1442695040888963407) 33) (Cl .i64 (Au .i64 (Fu .i64 h 6364136223846793005) 1442695040888963407) 47)) 255) (Az .i64 (Aj b[k])));refine⟨n,_,by simp only[c];rfl,a, ?_⟩;simp only;rw[CX (by omega)];omega
 rw[B1 (by simp only[Av];omega),Ag,A4];obtain⟨n,a,c⟩:=qi (JD .i64 (Cl .i64 (Au .i64 (Fu .i64 h 6364136223846793005) 1442695040888963407) 33) (Cl .i64 (Au .i64 (Fu .i64 h 6364136223846793005) 1442695040888963407) 47));exact⟨n,_,by simp only[c];rfl,a,by simp only;omega⟩
def Dl{b:List UInt8}{s:Cs}(n:Int)(d:DD b)(j:0<=s.1):∃(v:Nat) (l:Cs),Ct ((b,s),n)=some ((v:Int),l)/\(0<n->(v:Int)<n)/\(n<=0->v=0)/\0<=l.1:=by
 obtain⟨i,h⟩:=s;unfold Ct;simp only;by_cases t:n<=0
 .rw[HC t,Ah];exact⟨0,(i,h),rfl,λh=>by omega,λ_=>rfl,j⟩
 obtain⟨m,rfl⟩:=Gb (show 0<=n by omega);have g:0<m:=by omega
 rw[JC (by omega),Ag];obtain⟨a,c,f,B,k⟩:=ah d j;by_cases u:(m:Int)<=256
 .rw[HC u,Ah,f,Ad,Hl (by omega),AY];simp only;rw[qo];exact⟨a%m,(c.1,c.2),rfl,λ_=>by have:=KG a g;omega,λh=>by omega,k⟩
 rw[JC (by omega),Ag,f,Ad];obtain⟨e,o,q,l2,w⟩:=ah (s:=(c.1,c.2)) d k;simp only[q,Ad];obtain⟨A,p,r,C,x⟩:=ah (s:=(o.1,o.2)) d w;simp only[r,Ad];rw[Hl (by omega),AY];have y:Fu .i64 (a:Int) 65536=((a*65536:Nat):Int):=by rw[qk (by omega) (by omega)];omega
 have z:Fu .i64 (e:Int) 256=((e*256:Nat):Int):=by rw[qk (by omega) (by omega)];omega
 rw[y,z,Qy (by omega),Qy (by omega),qo];exact⟨_,(p.1,p.2),rfl,λ_=>by have:=KG (a*65536+e*256+A) g;omega,λh=>by omega,x⟩
def ir{b:List UInt8}{s:Cs}(n:Int)(c:DD b)(d:0<=s.1):∃(v:Bool) (a:Cs),PF ((b,s),n)=some (v,a)/\0<=a.1:=by
 obtain⟨v,a,e,_,_,k⟩:=Dl (s:=(s.1,s.2)) n c d;unfold PF;simp only[e,Ad];exact⟨_,_,rfl,k⟩
def F6{b:List UInt8}{s:Cs}(l:List Int)(d:DD b)(f:0<=s.1)(g:0<l.length):∃(v:Int) (c:Cs),E2 ((b,s),l)=some (v,c)/\v∈l/\0<=c.1:=by
 obtain⟨v,c,e,a,_,k⟩:=Dl (s:=(s.1,s.2)) (Am l) d f;have a:=a (by simp only[Av];omega);simp only[Av]at a;unfold E2;simp only[e,Ad];rw[BK (i:=v) (by omega),Ad];exact⟨_,_,rfl,EN _,k⟩
def VU{b : List UInt8}(f : DD b) : ∃ h : Int, Oa b = some h := by
  unfold Oa;obtain ⟨r, c, h, d⟩ := IO (step := YX b) (λi (a : Int × Int) => a.2 = (i : Int)) b.length (λr => ∃ h, r = .inl h)
    (fun i a g h => by
      obtain ⟨p, q⟩ := a;simp only at h;subst h;unfold YX;simp only;rw[Bw (by simp only[Av]; omega), Ah];by_cases e : (i : Int) < 4000
      · rw[Bw e, Ah, BK g, Ad]
        exact .inl ⟨_, rfl, by simp only; rw[CX (by unfold DD at f; omega)]⟩
      · rw[B1 (by omega), Ag]
        exact .inr ⟨_, rfl, _, rfl⟩)
    (fun a h => by
      obtain ⟨p, q⟩ := a;simp only at h;subst h;refine ⟨.inl p, ?_, p, rfl⟩;unfold YX;simp only;rw[B1 (by simp only[Av]; omega), Ag])
    (Au .i64 953953 (Am b), 0) rfl
  subst d;rw[c, A4];exact ⟨_, rfl⟩
def VT{b : List UInt8}{s : Cs}(n : Nat)(x : DD b)(y : 0 ≤ s.1)(B : n ≤ 1048576) : ∃ (v : List UInt8) (a : Cs), Kb ((b, s), (n : Int)) = some (v, a) ∧ v.length = n ∧ 0 ≤ a.1 := by
  unfold Kb;simp only;obtain ⟨r, m, v, a, o, t, u⟩ := IO (step := YW ((b, s), (n : Int))) (λi (c : Int × Int × List UInt8 × Int) => 0 ≤ c.1 ∧ c.2.2.1.length = i ∧ c.2.2.2 = (i : Int)) n (λr => ∃ (v : List UInt8) (a : Cs), r = .inl (a.1, a.2, v) ∧ v.length = n ∧ 0 ≤ a.1)
    (fun i c A h => by
      obtain ⟨p, q, w, j⟩ := c;obtain ⟨d, e, f⟩ := h;simp only at d e f;subst f;obtain ⟨z, g, k, C, l⟩ := ah (s := (p, q)) x d;refine .inl ⟨(g.1, g.2, w ++ [u8 (Az .u8 (z : Int))], ((i + 1 : Nat) : Int)), ?_, l, by simp[e], rfl⟩;unfold YW;simp only;rw[Bw (by omega), Ah, k, Ad, B8 (by omega), AY, CX (by omega)];rfl)
    (fun c h => by
      obtain ⟨p, q, w, j⟩ := c;obtain ⟨d, e, f⟩ := h;simp only at d e f;subst f;refine ⟨.inl (p, q, w), ?_, w, (p, q), rfl, e, d⟩;unfold YW;simp only;rw[B1 (by omega), Ag])
    (s.1, s.2, ([], 0)) ⟨y, rfl, rfl⟩
  subst o;rw[m, A4];exact ⟨_, _, rfl, t, u⟩
def Zja{b l:List UInt8}{s:Cs}(c:DD b)(w:0<=s.1)(z:l.length<=1048576):∃(v:List UInt8) (n:Cs),XU ((b,s),l)=some (v,n)/\v.length<=l.length/\0<=n.1:=by
 have p:Ax [] l=l:=rfl;unfold XU;simp only[p];rw[B8 (by omega),AY];obtain⟨o,e,q,_,_,d⟩:=Dl (s:=(s.1,s.2)) 5 c w;simp only[q,Ad];rw[Eu];by_cases k:(o:Int)=0
 .rw[AF k,Ah];have t:Au .i64 (Am l) 1=((l.length+1:Nat):Int):=CX (by omega);rw[t];obtain⟨f,j,g,a,_,h⟩:=Dl (s:=(e.1,e.2)) ((l.length+1:Nat):Int) c d;have a:=a (by omega);simp only[g,Ad];rw[show De 0 (f:Int) (Am l)=true from AF (by simp only[Av];omega),AY,show IJ 0 (A9 (f:Int)-0) l.length=true from AF (by simp only[Gv];omega),AY];refine⟨_,_,rfl, ?_,h⟩;simp only[BA,Gv,EF];omega
 rw[AG k,Ag,Eu];by_cases m:(o:Int)=1
 .rw[AF m,Ah];by_cases u:l.length=0
  .rw[Ee (by simp only[Av];omega),Ag,A4];exact⟨_,_,rfl,AE _,d⟩
  rw[D4 (by simp only[Av];omega),Ah];obtain⟨f,j,g,a,_,h⟩:=Dl (s:=(e.1,e.2)) (Am l) c d;have a:=a (by simp only[Av];omega);simp only[Av]at a;simp only[g,Ad];rw[BK (i:=f) (by omega),Ad];obtain⟨B,A,r,y,_,x⟩:=Dl (s:=(j.1,j.2)) 255 c h;simp only[r,Ad,A4];exact⟨_,_,rfl,by simp[BS],x⟩
 rw[AG m,Ag,A4];exact⟨_,_,rfl,AE _,d⟩
def rV{b:List UInt8}{s:Cs}(l:List (List UInt8))(d:DD b)(f:0<=s.1)(g:0<l.length):∃(v:List UInt8) (c:Cs),Ut ((b,s),l)=some (v,c)/\v∈l/\0<=c.1:=by
 obtain⟨v,c,e,a,_,k⟩:=Dl (s:=(s.1,s.2)) (Am l) d f;have a:=a (by simp only[Av];omega);simp only[Av]at a;unfold Ut;simp only[e,Ad];rw[BK (i:=v) (by omega),Ad];exact⟨_,_,rfl,EN _,k⟩
def j1{p:Int->Bool}{l:List Int}{v:Int}(h:l.all p=true)(a:v∈l):p v=true:=(DE.1 h) v a
def kj(v:Int):Bool:=decide (0<=v)&&CT v.toNat
def Znl{v:Int}(h:kj v=true):∃n:Nat,v=(n:Int)/\CT n=true:=by
 simp only[kj,A6,AA]at h;exact⟨v.toNat,by omega,h.2⟩
def Zjc{b:List UInt8}{s:Cs}(f:DD b)(g:0<=s.1):∃(n:Nat) (a:Cs),XX (b,s)=some ((n:Int),a)/\CT n=true/\0<=a.1:=by
 unfold XX;obtain⟨v,a,e,c,k⟩:=F6 (s:=(s.1,s.2)) [0,97,90,127,128,164,233,2047,2048,8364,1072,1102,1025,12354,12450,352,65535,65536,1114111] f g (by simp);simp only[e,Ad];obtain⟨n,rfl,d⟩:=Znl (j1 (p:=kj) (by decide +kernel) c);exact⟨n,a,rfl,d,k⟩
def Zjd{b:List UInt8}{s:Cs}(d:DD b)(f:0<=s.1):∃(v:Int) (a:Cs),XY (b,s)=some (v,a)/\v∈[(0:Int),1,2,3,4,5,6,-1]/\0<=a.1:=by
 unfold XY;obtain⟨v,a,e,c,k⟩:=F6 (s:=(s.1,s.2)) [0,1,2,3,4,5,6,-1] d f (by simp);simp only[e,Ad];exact⟨v,a,rfl,c,k⟩
def U0(a:Int)(n:Nat):Prop:=CT n=true/\(0<=a->a<=5->∃b,FZ a.toNat n=some b)
def jl{n:Nat}(h:CT n=true):FZ 0 n=some (D2 n):=by unfold FZ;rw[Af rfl,Af h]
def tB{a n b:Nat}(c:1<=a)(d:a<=4)(e:b<256)(h:DW a b=some n):FZ a n=some [yN b]:=by
 unfold FZ;rw[Ae (by omega),Ae (by omega),uv c d e h];rfl
def pj(v:Int):Bool:=decide (0<=v)&&CT v.toNat&&(Nc v.toNat).isSome
def Zjg{b:List UInt8}{s:Cs}(g:Int)(t:DD b)(u:0<=s.1):∃(n:Nat) (a:Cs),Yc ((b,s),g)=some ((n:Int),a)/\U0 g n/\0<=a.1:=by
 unfold Yc;simp only[Eu];by_cases l:g=0
 .rw[AF l,Ah];obtain⟨n,a,e,h,k⟩:=Zjc (s:=(s.1,s.2)) t u;simp only[e,Ad];subst l;exact⟨n,a,rfl,⟨h,λ_ _=>⟨_,jl h⟩⟩,k⟩
 rw[AG l,Ag];by_cases o:g=5
 .rw[AF o,Ah];obtain⟨v,a,e,r,k⟩:=F6 (s:=(s.1,s.2)) [97,32,12353,12435,12449,12534,12354] t u (by simp);simp only[e,Ad];have i:=j1 (p:=pj) (by decide +kernel) r;simp only[pj,A6,AA]at i;obtain⟨⟨i,y⟩,z⟩:=i;obtain⟨n,rfl⟩:=Gb i;subst o;obtain⟨q,B⟩:=dY.1 z;exact⟨n,a,rfl,⟨y,λ_ _=>⟨q,by unfold FZ;rw[Ae (by decide),Af (by decide)];exact B⟩⟩,k⟩
 rw[AG o,Ag];obtain⟨v,a,e,r,k⟩:=F6 (s:=(s.1,s.2)) [65,97,32,164,192,200,228,255,163,128,130,189] t u (by simp);simp only[e,Ad];have i:=j1 (p:=λv=>decide (0<=v/\v<256)) (by decide +kernel) r;simp only[AA]at i;obtain⟨m,rfl⟩:=Gb i.1;by_cases A:1<=g/\g<=4
 .obtain⟨c,rfl⟩:=Gb (show 0<=g by omega);have d:1<=c:=by omega
  have f:c<=4:=by omega
  rw[kU d f (by omega),Ad];cases w:DW c m with
  |none=>
   have j:DW c 120=some 120:=by unfold DW;rw[Af (by omega)]
   exact⟨120,a,rfl,⟨by decide,λ_ _=>⟨_,tB d f (by omega) j⟩⟩,k⟩
  |some n=>
   exact⟨n,a,rfl,⟨nh d f (by omega) w,λ_ _=>⟨_,tB d f (by omega) w⟩⟩,k⟩
 have x:KD (g,(m:Int))=some (0,false):=by
  unfold KD;simp only[Ef,Ad];rw[AG A,B2,Ah]
 rw[x,Ad];exact⟨120,a,rfl,⟨by decide,λ_ _=>by omega⟩,k⟩
def Zlc{l:List UInt8}{n:Nat}(a:l.length+4<=140737488355328)(h:CT n=true):M2 (l,(n:Int))=some (l++D2 n):=by
 rw[bz a];have:GG (n:Int)=true:=by simp[GG,h]
 rw[this];rfl
def Zog(a:List Nat)(n:Nat):F0 (a++[n])=F0 a++D2 n:=by simp[F0]
def ai{b : List UInt8}{s : Cs}(e : Int)(m : Nat)(v : DD b)(G : 0 ≤ s.1)(N : m ≤ 100) : ∃ (a : List Nat) (c : Cs), PH ((b, s), (e, (m : Int))) = some (F0 a, c) ∧ a.length ≤ m ∧ (∀ n ∈ a, U0 e n) ∧ 0 ≤ c.1 := by
  unfold PH;simp only;rw[CX (by omega)];obtain ⟨K, z, B, y, _, H⟩ := Dl (s := (s.1, s.2)) ((m + 1 : Nat) : Int) v G;have y := y (by omega);simp only[B, Ad];obtain ⟨r, D, a, c, o, J, E, F⟩ := IO (step := YY ((b, s), (e, (m : Int)))) (λj (d : Int × Int × List UInt8 × Int) => 0 ≤ d.1 ∧ d.2.2.2 = (K : Int) - j ∧ ∃ a : List Nat, d.2.2.1 = F0 a ∧ a.length = j ∧ ∀ n ∈ a, U0 e n) K (λr => ∃ (a : List Nat) (c : Cs), r = .inl (c.1, c.2, F0 a) ∧ a.length = K ∧ (∀ n ∈ a, U0 e n) ∧ 0 ≤ c.1)
    (fun j d L h => by
      obtain ⟨p, q, w, k⟩ := d;obtain ⟨g, i, a, l, t, u⟩ := h;simp only at g i l;subst i l;obtain ⟨n, A, C, o, I⟩ := Zjg (s := (p, q)) e v g;have M := Re a;refine .inl ⟨(A.1, A.2, F0 (a ++ [n]), (K : Int) - ((j + 1 : Nat) : Int)), ?_, I, rfl, a ++ [n], rfl, by simp[t], λx f => by
        rcases C7.1 f with f | f
        · exact u x f
        · simp only[Db] at f; subst f; exact o⟩
      unfold YY;simp only;rw[D4 (by omega), Ah, C, Ad, Zlc (by omega) o.1, Ad, E8 (by omega) (by omega), Zog, show (K : Int) - j - 1 = (K : Int) - ((j + 1 : Nat) : Int) by omega])
    (fun d h => by
      obtain ⟨p, q, w, k⟩ := d;obtain ⟨g, i, a, l, t, u⟩ := h;simp only at g i l;subst i l;refine ⟨.inl (p, q, F0 a), ?_, a, (p, q), rfl, t, u, g⟩;unfold YY;simp only;rw[Ee (by omega), Ag])
    (z.1, z.2, ([], (K : Int))) ⟨H, by simp, [], rfl, rfl, by simp⟩
  subst o;rw[D, A4];exact ⟨a, c, rfl, by omega, E, F⟩
def jj{cs:Nat}(e:cs<=5):∀{c:List Nat}{l:List UInt8},F9 cs c=some l->l.length<=4*c.length
 |[],l,h=>by simp only[F9,Ac]at h;subst h;simp
 |n::c,l,h=>by
  simp only[F9]at h;cases a:FZ cs n with
  |none=>rw[a]at h;simp at h
  |some b=>
   cases d:F9 cs c with
   |none=>rw[a,d]at h;simp at h
   |some r=>
    rw[a,d]at h;simp only[Ac]at h;subst h;have f:=tC e a;have:=jj e d;simp only[Aq,Cb];omega
def Za7{cs:Int}{t:List UInt8}:(F8 (J9 cs t)).1.length<=4*t.length:=by
 unfold J9;split
 .rename_i h;cases a:Qk cs.toNat t with
  |none=>simp[F8]
  |some b=>
   simp only[Qk,AO]at a;obtain⟨e,c,d⟩:=a;have:=jj (by omega) d;have:=(vA c).2;show b.length<=_;omega
 simp[F8]
def Zjf{b:List UInt8}{s:Cs}(a:Int)(c:DD b)(u:0<=s.1):∃(v:List UInt8) (m:Cs),Ya ((b,s),a)=some (v,m)/\v.length<=100/\0<=m.1:=by
 unfold Ya;obtain⟨h,n,k,z,_,w⟩:=ai (s:=(s.1,s.2)) a 5 c u (by omega);have y:=Re h;simp only[show ((5:Nat):Int)=5 from rfl]at k;simp only[k,Ad];rw[uW (by omega),Ad];have r:=Za7 (cs:=a) (t:=F0 h);obtain⟨o,d,p,_,_,f⟩:=Dl (s:=(n.1,n.2)) 5 c w;simp only[p,Ad,Eu];by_cases i:(o:Int)=0
 .rw[AF i,Ah];obtain⟨v,x,e,q,g⟩:=Zja (s:=(d.1,d.2)) (l:=(F8 (J9 a (F0 h))).1) c f (by omega);simp only[e,Ad];exact⟨_,_,rfl,by omega,g⟩
 rw[AG i,Ag];by_cases j:(o:Int)=1
 .rw[AF j,Ah];obtain⟨v,x,e,q,g⟩:=F6 (s:=(d.1,d.2)) [128,129,164,255,194,157] c f (by simp);simp only[e,Ad];rw[B8 (by omega),AY];exact⟨_,_,rfl,by simp only[Ax,Cb,my];omega,g⟩
 rw[AG j,Ag];exact⟨_,_,rfl,by omega,f⟩
def Zv(c:BI):Prop:=c.2.length<=100
def Zjh{b:List UInt8}{s:Cs}(d:DD b)(j:0<=s.1):∃(c:BI) (f:Cs),Yd (b,s)=some (c,f)/\Zv c/\0<=f.1:=by
 unfold Yd;obtain⟨h,g,i,n,_,k⟩:=Dl (s:=(s.1,s.2)) 6 d j;simp only[i,Ad];obtain⟨e,o,a,l2,_,l⟩:=ai (s:=(g.1,g.2)) (h:Int) 6 d k (by omega);have m:=Re e;simp only[show ((6:Nat):Int)=6 from rfl]at a;simp only[a,Ad];rw[br (by omega),Ad];have:=oG (h:Int) (F0 e);exact⟨_,_,rfl,by unfold Zv;simp only;omega,l⟩
def rX{b:List UInt8}{s:Cs}(e:DD b)(x:0<=s.1):∃(c:BI) (o:Cs),Uw (b,s)=some (c,o)/\Zv c/\0<=o.1:=by
 unfold Uw;obtain⟨c,p,t,m,y⟩:=Zjh (s:=(s.1,s.2)) e x;simp only[t,Ad];obtain⟨h,a,u,l2,_,g⟩:=Dl (s:=(p.1,p.2)) 6 e y;simp only[u,Ad,Eu];by_cases i:(h:Int)=0
 .rw[AF i,Ah];obtain⟨v,q,d,l,f⟩:=Zjd (s:=(a.1,a.2)) e g;simp only[d,Ad,A4];exact⟨_,_,rfl,m,f⟩
 rw[AG i,Ag];by_cases j:(h:Int)=1
 .rw[AF j,Ah];obtain⟨v,q,d,l,f⟩:=Zjf (s:=(a.1,a.2)) c.1 e g;simp only[d,Ad,A4];exact⟨_,_,rfl,l,f⟩
 rw[AG j,Ag];by_cases k:(h:Int)=2
 .rw[AF k,Ah];obtain⟨r,q,d,n,_,f⟩:=Dl (s:=(a.1,a.2)) 3 e g;have n:=n (by omega);simp only[d,Ad];have w:Au .i64 19 (r:Int)=((19+r:Nat):Int):=by rw[CS (by omega) (by omega)];omega
  rw[w];simp only[decide_true,AY];rw[jQ (by omega) (by omega),AY,A4];exact⟨_,_,rfl,by unfold Zv;simp only[Gv,GX,da];omega,f⟩
 rw[AG k,Ag,A4];exact⟨_,_,rfl,m,g⟩
def xk{x:List UInt8}(h:1048576<x.length):R2 x=some true:=by unfold R2;rw[D4 (by simp only[Av];omega)]
def xj{x:List UInt8}(h:x.length<=1048576):R2 x=some false:=by unfold R2;rw[Ee (by simp only[Av];omega)]
@[simp] def et(a:Bool):MT a a=true:=by cases a<;>rfl
def Zkg(n:Nat):A9 (n:Int)=n:=Gv n
def cf{d:Int}{t:List UInt8}{c:BI}(h:E5 d t=some c):C0 c=some t/\c.1=d:=by
 unfold E5 at h;cases a:J9 d t with
 |none=>rw[a]at h;cases h
 |some b=>
  rw[a]at h;have e:=Za6 a;unfold J9 at a;rw[Af e]at a;simp only at h;split at h
  .rename_i f;simp only[Ac]at h;subst h;refine⟨?_,rfl⟩;unfold C0 GQ;rw[Af (by simp[e,f])];exact y4 (by omega) a
  cases h
end
end Go.Vs
