import Derived.Test.YtmfmjngkbddenaaGreatDoorVsQt3
set_option linter.all false
namespace Go.Vs
noncomputable section
theorem Zbk (a b:List UInt8):sEq a b=(a==b):=rfl
theorem E8 (a b:Int):iEq a b=decide (a=b):=by simp only[iEq];rfl
theorem Zme {α σ ρ : Type} {step : σ → Option (σ ⊕ ρ)} (st : Nat → σ) (x : List α) (p : α → Bool) (found : Nat → ρ) (no : ρ)
    (hs : ∀ (i : Nat) (h : i < x.length), step (st i) = if p x[i] = true then some (.inr (found i)) else some (.inl (st (i + 1)))) (he : step (st x.length) = some (.inr no)) (s0 : σ) (h0 : s0 = st 0) :
    Aw step s0 = some (match x.findIdx? p with | some i => found i | none => no) := by
  obtain ⟨r, h1, h2⟩ := M7 (step := step) (fun i s => s = st i ∧ ∀ (j : Nat) (h : j < x.length), j < i → p x[j] = false) x.length (fun r => r = match x.findIdx? p with | some i => found i | none => no)
    (fun i s hi h => by
      obtain ⟨rfl, hp⟩ := h;rw [hs i hi];by_cases hq : p x[i] = true
      · refine .inr ⟨_, by rw [if_pos hq], ?_⟩
        have : x.findIdx? p = some i := by
          rw [Kzf];exact ⟨hi, hq, fun j hj => by simpa using hp j (by omega) hj⟩
        rw [this]
      · refine .inl ⟨_, by rw [if_neg hq], rfl, fun j hj hji => ?_⟩
        by_cases e : j = i
        · subst e; simpa using hq
        · exact hp j hj (by omega))
    (fun s h => by
      obtain ⟨rfl, hp⟩ := h;refine ⟨_, he, ?_⟩;have : x.findIdx? p = none := by
        rw [Kag];intro y hy;obtain ⟨j, hj, rfl⟩ := Krc hy;exact hp j hj hj
      rw [this]) s0 ⟨h0, fun j _ h => absurd h (Kle _)⟩
  rw [h1, h2]
def L0 {α β:Type}(q:α->β->Bool):List α->List β->Bool
 | a::x,b::y=>q a b&&L0 q x y
 | _,_=>true
theorem Ybd {α β σ ρ:Type}{step:σ->Option (σ ⊕ ρ)}(st:Nat->σ) (x:List α) (y:List β) (q:α->β->Bool) (no yes:ρ) (hl:x.length=y.length)
  (hs:∀(i:Nat) (h:i<x.length) (h':i<y.length),step (st i)=if q x[i] y[i]=true then some (.inl (st (i+1))) else some (.inr no)) (he:step (st x.length)=some (.inr yes)) (s0:σ) (h0:s0=st 0) :
  Aw step s0=some (if L0 q x y=true then yes else no):=by
 have key:∀(x':List α) (y':List β) (i:Nat),x.drop i=x'->y.drop i=y'->i<=x.length->Aw step (st i)=some (if L0 q x' y'=true then yes else no):=by
  intro x'
  induction x' with
  | nil =>
   intro y' i h1 h2 hi;have:i=x.length:=by have:=congrArg List.length h1;simp at this;omega
   subst this;rw[M6,he];simp [L0]
  | cons a x' ih =>
   intro y' i h1 h2 hi;have hi':i<x.length:=by have:=congrArg List.length h1;simp at this;omega
   have hi2:i<y.length:=by omega
   rw[Kwb hi']at h1;rw[Kwb hi2]at h2;simp only[List.cons.injEq]at h1;obtain⟨rfl,h1⟩:=h1;subst h2;rw[M6,hs i hi' hi2];cases hq:q x[i] y[i] with
   | true=>rw[if_pos rfl];simp only[L0,hq,Kec];exact ih _ (i+1) h1 rfl (by omega)
   | false=>rw[if_neg (by simp)];simp [L0,hq]
 rw[h0];exact key x y 0 rfl rfl (Kda _)
abbrev Bb:=Int×List UInt8
def Fw (c:Bb):Bool:=decide (0<=c.1/\c.1<=5)&&decide (c.2.length<=20)
def Bz (c:Bb):Option (List UInt8):=if Fw c then K0 c.1.toNat c.2 else none
def Ju (a b:Bb):Bool:=match Bz a,Bz b with
 | some x,some y=>x==y
 | _,_=>false
theorem Zta {c:Bb}{t:List UInt8}(h:Bz c=some t):Fw c=true/\K0 c.1.toNat c.2=some t:=by
 unfold Bz at h;split at h
 ·rename_i h1;exact⟨h1,h⟩
 cases h
theorem Zpy (c:Bb):Nx c=some (Fw c):=by
 unfold Nx R8 Fw;simp only[E4,Aa,Zj];split
 ·rename_i h;have:(0:Int)<=c.1/\c.1<=5:=by simpa using h
  rw[decide_eq_true this];simp only[Kec,iLe,Ak];exact congrArg some (decide_eq_decide.2 (by omega))
 rename_i h;have:¬((0:Int)<=c.1/\c.1<=5):=by simpa using h
 rw[decide_eq_false this];rfl
theorem Zws (c:Bb):Xy c=some (Fw c):=Zpy c
theorem Zs9 {c:Bb}{F:Int×List UInt8->Option (List UInt8×Bool)}(hF:∀{cs:Nat}{b:List UInt8},cs<=5->b.length<=1048576->F ((cs:Int),b)=some (Fh (K0 cs b))) :
  (bnd (some (Fw c)) (fun z1=>(cnd (Ag z1) (some ([],false)) (bnd (F (c.1,c.2)) (fun z2=>(some (z2.1,z2.2)))))))=some (Fh (Bz c)):=by
 rw[Aa];unfold Bz;cases h:Fw c with
 | false=>rfl
 | true =>
  simp only[Av,Ac,if_true];simp only[Fw,Kd,decide_eq_true_eq]at h;obtain⟨⟨h0,h5⟩,hl⟩:=h;obtain⟨t,b⟩:=c;simp only at h0 h5 hl ⊢;obtain⟨n,rfl⟩:=Kob h0;rw[hF (by omega) (by omega),Aa];rfl
theorem Zhx (c:Bb):Hy c=some (Fh (Bz c)):=by
 unfold Hy;rw[show Nx (c.1,c.2)=some (Fw c) from Zpy c];exact Zs9 fun h1 h2=>Ytv h1 h2
theorem Zm0 (c:Bb):Rw c=some (Fh (Bz c)):=by
 unfold Rw;rw[show Xy (c.1,c.2)=some (Fw c) from Zws c];exact Zs9 fun h1 h2=>Yo9 h1 h2
theorem Ybc {a b:Bb}{F:Bb->Option (List UInt8×Bool)}(hF:∀c,F c=some (Fh (Bz c))):(bnd (F (a.1,a.2)) (fun z1=>(bnd
 (F (b.1,b.2)) (fun z2=>(cnd z1.2 (cnd z2.2 (some (sEq z1.1 z2.1)) (some false)) (some false))))))=some (Ju a b):=by
 rw[hF,Aa,hF,Aa];unfold Ju;cases h1:Bz a<;>cases h2:Bz b<;>rfl
theorem Yt9 (a b:Bb):Bx (a,b)=some (Ju a b):=Ybc Zhx
theorem Ypo (a b:Bb):Zi6 (a,b)=some (Ju a b):=Ybc Zm0
def Dm (cs:Int) (x:List UInt8):Option Bb:=match Mw cs x with
 | none=>none
 | some b=>if b.length<=20 then some (cs,b) else none
def cR (o:Option Bb):Bb×Bool:=match o with
 | none=>((0,[]),false)
 | some c=>(c,true)
theorem Yjb {cs:Int}{x b:List UInt8}(h:Mw cs x=some b):0<=cs/\cs<=5:=by
 unfold Mw at h;split at h
 ·assumption
 cases h
theorem Zpx {cs:Int}{x:List UInt8}(hl:x.length<=1048576):Uy (cs,x)=some (cR (Dm cs x)):=by
 unfold Uy Dm;simp only[Ytx hl,Aa];cases Mw cs x with
 | none=>rfl
 | some b =>
  simp only[Fh,Av,Ac];by_cases h:b.length<=20
  ·rw[Eb (by simp only[Ak];omega),Ac,if_pos h];rfl
  rw[Dq (by simp only[Ak];omega),Ad,if_neg h];rfl
theorem Yfg (cs:Int) (x:List UInt8):(cR (Dm cs x)).1.2.length<=20:=by
 unfold Dm;split
 ·exact Kda _
 split
 ·assumption
 exact Kda _
theorem Yfh {c:Bb}{t:List UInt8}(h:Bz c=some t):t.length<=80:=by
 obtain⟨h1,h2⟩:=Zta h;simp only[Fw,Kd,decide_eq_true_eq]at h1;simp only[K0,Ks]at h2;obtain⟨ns,h3,rfl⟩:=h2;have hc:c.1.toNat<=5:=by omega
 have h4:=Zpa hc (Zhc hc _ (Kc _) h3).1;have:=Zbz ns;omega
def Rp (c:Bb) (cs:Int):Bb×Bool:=match Bz c with
 | none=>(c,false)
 | some t=>match Dm cs t with
  | none=>(c,false)
  | some d=>(d,true)
theorem Yue {c:Bb}{cs:Int}(h:c.2.length<=1048576):Yp (c,cs)=some (Rp c cs):=by
 have e1:N0 (c.1,c.2)=some c:=by unfold N0;rw[Bj (by simp only;omega)];rfl
 unfold Yp Rp;simp only;rw[show Hy (c.1,c.2)=some (Fh (Bz c)) from Zhx c,Aa];cases hc:Bz c with
 | none =>
  simp only[Fh,A5,Ad,e1,Aa];rw[Zpx (by simp),Aa]
 | some t =>
  have hl:=Yfh hc;simp only[Fh,Av,Ac,e1,Aa];rw[Zpx (by omega),Aa];cases Dm cs t with
  | none=>rfl
  | some d=>rfl
theorem Zwl (a:Int):∃n:Nat,n<=255/\Aq .i64 a 255=(n:Int):=by
 refine⟨((BitVec.ofInt 64 a).toNat&&&255),Nat.and_le_right, ?_⟩;have e:(BitVec.ofInt 64 255).toNat=255:=by decide
 have hle:(BitVec.ofInt 64 a).toNat&&&255<=255:=Nat.and_le_right;show IntKind.wrap .i64 (((BitVec.ofInt 64 a)&&&(BitVec.ofInt 64 255)).toNat:Int)=_;rw[BitVec.toNat_and,e];exact Mn (by omega) (by omega)
theorem Zwq (v n:Nat):De (v:Int) (n:Int)=((v%n:Nat):Int):=rfl
abbrev Cs:=Int×Int
def B20 (b:List UInt8):Prop:=b.length<=1048576
theorem Znt {b:List UInt8}{s:Cs}(hb:B20 b) (hs:0<=s.1):∃(v:Nat) (s':Cs),R7 (b,s)=some ((v:Int),s')/\v<=255/\0<=s'.1:=by
 obtain⟨i,h⟩:=s;simp only at hs;obtain⟨k,rfl⟩:=Kob hs;unfold B20 at hb;unfold R7;simp only;by_cases hk:k<b.length
 ·rw[A3 (by simp only[Ak];omega),Ad,Bp hk,Aa,Ar];obtain⟨n,h1,h2⟩:=Zwl (Aj .i64 (Aq .i64 (K6 .i64 (Bi .i64 (Aj .i64 (Dd .i64 h 6364136223846793005) 1442695040888963407) 33) (Bi .i64 (Aj .i64 (Dd .i64 h 6364136223846793005) 1442695040888963407) 47)) 255) (Ai .i64 (y2i b[k])));refine⟨n,_,by simp only[h2];rfl,h1, ?_⟩;simp only;rw[C4 (by omega)];omega
 rw[A6 (by simp only[Ak];omega),Ac,Ar];obtain⟨n,h1,h2⟩:=Zwl (K6 .i64 (Bi .i64 (Aj .i64 (Dd .i64 h 6364136223846793005) 1442695040888963407) 33) (Bi .i64 (Aj .i64 (Dd .i64 h 6364136223846793005) 1442695040888963407) 47));exact⟨n,_,by simp only[h2];rfl,h1,by simp only;omega⟩
theorem I1 {b:List UInt8}{s:Cs}(n:Int) (hb:B20 b) (hs:0<=s.1):∃(v:Nat) (s':Cs),D8 ((b,s),n)=some ((v:Int),s')/\(0<n->(v:Int)<n)/\(n<=0->v=0)/\0<=s'.1:=by
 obtain⟨i,h⟩:=s;unfold D8;simp only;by_cases h0:n<=0
 ·rw[G0 h0,Ad];exact⟨0,(i,h),rfl,fun h=>by omega,fun _=>rfl,hs⟩
 obtain⟨m,rfl⟩:=Kob (show 0<=n by omega);have hm:0<m:=by omega
 rw[K5 (by omega),Ac];obtain⟨v1,s1,e1,l1,k1⟩:=Znt hb hs;by_cases h1:(m:Int)<=256
 ·rw[G0 h1,Ad,e1,Aa,Iz (by omega),Az];simp only;rw[Zwq];exact⟨v1%m,(s1.1,s1.2),rfl,fun _=>by have:=Kmc v1 hm;omega,fun h=>by omega,k1⟩
 rw[K5 (by omega),Ac,e1,Aa];obtain⟨v2,s2,e2,l2,k2⟩:=Znt (s:=(s1.1,s1.2)) hb k1;simp only[e2,Aa];obtain⟨v3,s3,e3,l3,k3⟩:=Znt (s:=(s2.1,s2.2)) hb k2;simp only[e3,Aa];rw[Iz (by omega),Az];have q1:Dd .i64 (v1:Int) 65536=((v1*65536:Nat):Int):=by rw[Zwn (by omega) (by omega)];omega
 have q2:Dd .i64 (v2:Int) 256=((v2*256:Nat):Int):=by rw[Zwn (by omega) (by omega)];omega
 rw[q1,q2,Ta (by omega),Ta (by omega),Zwq];exact⟨_,(s3.1,s3.2),rfl,fun _=>by have:=Kmc (v1*65536+v2*256+v3) hm;omega,fun h=>by omega,k3⟩
theorem Yqk {b:List UInt8}{s:Cs}(n:Int) (hb:B20 b) (hs:0<=s.1):∃(v:Bool) (s':Cs),Yw ((b,s),n)=some (v,s')/\0<=s'.1:=by
 obtain⟨v,s',e,_,_,k⟩:=I1 (s:=(s.1,s.2)) n hb hs;unfold Yw;simp only[e,Aa];exact⟨_,_,rfl,k⟩
theorem Wh {b:List UInt8}{s:Cs}(l:List Int) (hb:B20 b) (hs:0<=s.1) (hl:0<l.length):∃(v:Int) (s':Cs),Jk ((b,s),l)=some (v,s')/\v∈l/\0<=s'.1:=by
 obtain⟨v,s',e,h1,_,k⟩:=I1 (s:=(s.1,s.2)) (Ah l) hb hs;have h1:=h1 (by simp only[Ak];omega);simp only[Ak]at h1;unfold Jk;simp only[e,Aa];rw[Bp (i:=v) (by omega),Aa];exact⟨_,_,rfl,Kcb _,k⟩
theorem Yqj {b : List UInt8} (hb : B20 b) : ∃ h : Int, Zdd b = some h := by
  unfold Zdd;obtain ⟨r, h1, h, h2⟩ := M7 (step := Zd8 b) (fun i (st : Int × Int) => st.2 = (i : Int)) b.length (fun r => ∃ h, r = .inl h)
    (fun i st hi h => by
      obtain ⟨p, q⟩ := st;simp only at h;subst h;unfold Zd8;simp only;rw [A3 (by simp only [Ak]; omega), Ad];by_cases h4 : (i : Int) < 4000
      · rw [A3 h4, Ad, Bp hi, Aa]
        exact .inl ⟨_, rfl, by simp only; rw [C4 (by unfold B20 at hb; omega)]⟩
      · rw [A6 (by omega), Ac]
        exact .inr ⟨_, rfl, _, rfl⟩)
    (fun st h => by
      obtain ⟨p, q⟩ := st;simp only at h;subst h;refine ⟨.inl p, ?_, p, rfl⟩;unfold Zd8;simp only;rw [A6 (by simp only [Ak]; omega), Ac])
    (Aj .i64 953953 (Ah b), 0) rfl
  subst h2;rw [h1, Ar];exact ⟨_, rfl⟩
theorem Yql {b:List UInt8}{s:Cs}(l:List (List UInt8)) (hb:B20 b) (hs:0<=s.1) (hl:0<l.length):∃(v:List UInt8) (s':Cs),Zde ((b,s),l)=some (v,s')/\v∈l/\0<=s'.1:=by
 obtain⟨v,s',e,h1,_,k⟩:=I1 (s:=(s.1,s.2)) (Ah l) hb hs;have h1:=h1 (by simp only[Ak];omega);simp only[Ak]at h1;unfold Zde;simp only[e,Aa];rw[Bp (i:=v) (by omega),Aa];exact⟨_,_,rfl,Kcb _,k⟩
theorem Zop {p:Int->Bool}{l:List Int}{v:Int}(h:l.all p=true) (hv:v∈l):p v=true:=(Kna.1 h) v hv
def sgI (v:Int):Bool:=decide (0<=v)&&Cc v.toNat
theorem Yu6 {v:Int}(h:sgI v=true):∃n:Nat,v=(n:Int)/\Cc n=true:=by
 simp only[sgI,Kd,decide_eq_true_eq]at h;exact⟨v.toNat,by omega,h.2⟩
theorem Yqn {b:List UInt8}{s:Cs}(hb:B20 b) (hs:0<=s.1):∃(n:Nat) (s':Cs),Zdg (b,s)=some ((n:Int),s')/\Cc n=true/\0<=s'.1:=by
 unfold Zdg;obtain⟨v,s',e,h1,k⟩:=Wh (s:=(s.1,s.2)) [0,97,90,127,128,164,233,2047,2048,8364,1072,1102,1025,12354,12450,352,65535,65536,1114111] hb hs (by simp);simp only[e,Aa];obtain⟨n,rfl,h2⟩:=Yu6 (Zop (p:=sgI) (by decide +kernel) h1);exact⟨n,s',rfl,h2,k⟩
def Y0 (cs:Int) (n:Nat):Prop:=Cc n=true/\(0<=cs->cs<=5->∃b,E2 cs.toNat n=some b)
theorem Zpb {n:Nat}(h:Cc n=true):E2 0 n=some (enc n):=by unfold E2;rw[if_pos rfl,if_pos h]
theorem Zzi {cs n b:Nat}(h1:1<=cs) (h4:cs<=4) (hb:b<256) (h:C7 cs b=some n):E2 cs n=some [yN b]:=by
 unfold E2;rw[if_neg (by omega),if_neg (by omega),Ybn h1 h4 hb h];rfl
def euI (v:Int):Bool:=decide (0<=v)&&Cc v.toNat&&(Oe v.toNat).isSome
theorem Yqp {b:List UInt8}{s:Cs}(cs:Int) (hb:B20 b) (hs:0<=s.1):∃(n:Nat) (s':Cs),Zdj ((b,s),cs)=some ((n:Int),s')/\Y0 cs n/\0<=s'.1:=by
 unfold Zdj;simp only[E8];by_cases c0:cs=0
 ·rw[decide_eq_true c0,Ad];obtain⟨n,s',e,h,k⟩:=Yqn (s:=(s.1,s.2)) hb hs;simp only[e,Aa];subst c0;exact⟨n,s',rfl,⟨h,fun _ _=>⟨_,Zpb h⟩⟩,k⟩
 rw[decide_eq_false c0,Ac];by_cases c5:cs=5
 ·rw[decide_eq_true c5,Ad];obtain⟨v,s',e,h1,k⟩:=Wh (s:=(s.1,s.2)) [97,32,12353,12435,12449,12534,12354] hb hs (by simp);simp only[e,Aa];have h2:=Zop (p:=euI) (by decide +kernel) h1;simp only[euI,Kd,decide_eq_true_eq]at h2;obtain⟨⟨h2,h3⟩,h4⟩:=h2;obtain⟨n,rfl⟩:=Kob h2;subst c5;obtain⟨q,hq⟩:=Kcg.1 h4;exact⟨n,s',rfl,⟨h3,fun _ _=>⟨q,by unfold E2;rw[if_neg (by decide),if_pos (by decide)];exact hq⟩⟩,k⟩
 rw[decide_eq_false c5,Ac];obtain⟨v,s',e,h1,k⟩:=Wh (s:=(s.1,s.2)) [65,97,32,164,192,200,228,255,163,128,130,189] hb hs (by simp);simp only[e,Aa];have h2:=Zop (p:=fun v=>decide (0<=v/\v<256)) (by decide +kernel) h1;simp only[decide_eq_true_eq]at h2;obtain⟨m,rfl⟩:=Kob h2.1;by_cases hc:1<=cs/\cs<=4
 ·obtain⟨c,rfl⟩:=Kob (show 0<=cs by omega);have hc1:1<=c:=by omega
  have hc4:c<=4:=by omega
  rw[Zpw hc1 hc4 (by omega),Aa];cases hv:C7 c m with
  | none =>
   have h120:C7 c 120=some 120:=by unfold C7;rw[if_pos (by omega)]
   exact⟨120,s',rfl,⟨by decide,fun _ _=>⟨_,Zzi hc1 hc4 (by omega) h120⟩⟩,k⟩
  | some n =>
   exact⟨n,s',rfl,⟨Zso hc1 hc4 (by omega) hv,fun _ _=>⟨_,Zzi hc1 hc4 (by omega) hv⟩⟩,k⟩
 have e2:Lp (cs,(m:Int))=some (0,false):=by
  unfold Lp;simp only[E4,Aa];rw[decide_eq_false hc,A5,Ad]
 rw[e2,Aa];exact⟨120,s',rfl,⟨by decide,fun _ _=>by omega⟩,k⟩
theorem Ysu {l:List UInt8}{n:Nat}(hl:l.length+4<=140737488355328) (h:Cc n=true):Ny (l,(n:Int))=some (l++enc n):=by
 rw[Zhz hl];have:sgn (n:Int)=true:=by simp [sgn,h]
 rw[this];rfl
theorem Yv7 (ns:List Nat) (n:Nat):E5 (ns++[n])=E5 ns++enc n:=by simp [E5]
theorem Zxk {b : List UInt8} {s : Cs} (cs : Int) (m : Nat) (hb : B20 b) (hs : 0 ≤ s.1) (hm : m ≤ 100) : ∃ (ns : List Nat) (s' : Cs), Yy ((b, s), (cs, (m : Int))) = some (E5 ns, s') ∧ ns.length ≤ m ∧ (∀ n ∈ ns, Y0 cs n) ∧ 0 ≤ s'.1 := by
  unfold Yy;simp only;rw [C4 (by omega)];obtain ⟨K, s1, e1, l1, _, k1⟩ := I1 (s := (s.1, s.2)) ((m + 1 : Nat) : Int) hb hs;have l1 := l1 (by omega);simp only [e1, Aa];obtain ⟨r, h1, ns, s', h2, h3, h4, h5⟩ := M7 (step := Zd9 ((b, s), (cs, (m : Int)))) (fun j (st : Int × Int × List UInt8 × Int) => 0 ≤ st.1 ∧ st.2.2.2 = (K : Int) - j ∧ ∃ ns : List Nat, st.2.2.1 = E5 ns ∧ ns.length = j ∧ ∀ n ∈ ns, Y0 cs n) K (fun r => ∃ (ns : List Nat) (s' : Cs), r = .inl (s'.1, s'.2, E5 ns) ∧ ns.length = K ∧ (∀ n ∈ ns, Y0 cs n) ∧ 0 ≤ s'.1)
    (fun j st hj h => by
      obtain ⟨p, q, w, k⟩ := st;obtain ⟨g1, g2, ns, g3, g4, g5⟩ := h;simp only at g1 g2 g3;subst g2 g3;obtain ⟨n, s2, e2, h2, k2⟩ := Yqp (s := (p, q)) cs hb g1;have hl := Zbz ns;refine .inl ⟨(s2.1, s2.2, E5 (ns ++ [n]), (K : Int) - ((j + 1 : Nat) : Int)), ?_, k2, rfl, ns ++ [n], rfl, by simp [g4], fun x hx => by
        rcases Kca.1 hx with hx | hx
        · exact g5 x hx
        · simp only [Koa] at hx; subst hx; exact h2⟩
      unfold Zd9;simp only;rw [Dq (by omega), Ad, e2, Aa, Ysu (by omega) h2.1, Aa, Ei (by omega) (by omega), Yv7, show (K : Int) - j - 1 = (K : Int) - ((j + 1 : Nat) : Int) by omega])
    (fun st h => by
      obtain ⟨p, q, w, k⟩ := st;obtain ⟨g1, g2, ns, g3, g4, g5⟩ := h;simp only at g1 g2 g3;subst g2 g3;refine ⟨.inl (p, q, E5 ns), ?_, ns, (p, q), rfl, g4, g5, g1⟩;unfold Zd9;simp only;rw [Eb (by omega), Ac])
    (s1.1, s1.2, ([], (K : Int))) ⟨k1, by simp, [], rfl, rfl, by simp⟩
  subst h2;rw [h1, Ar];exact ⟨ns, s', rfl, by omega, h4, h5⟩
theorem Zzf {cs:Nat}(hc:cs<=5):∀{ns:List Nat}{l:List UInt8},El cs ns=some l->l.length<=4*ns.length
 | [],l,h=>by simp only[El,Ka]at h;subst h;simp
 | n::ns,l,h=>by
  simp only[El]at h;cases h1:E2 cs n with
  | none=>rw[h1]at h;simp at h
  | some b =>
   cases h2:El cs ns with
   | none=>rw[h1,h2]at h;simp at h
   | some r =>
    rw[h1,h2]at h;simp only[Ka]at h;subst h;have h3:=Zzj hc h1;have:=Zzf hc h2;simp only[Kf,Kt];omega
theorem Ye1 {x:List UInt8}(h:1048576<x.length):Uw x=some true:=by unfold Uw;rw[Dq (by simp only[Ak];omega)]
theorem Ye0 {x:List UInt8}(h:x.length<=1048576):Uw x=some false:=by unfold Uw;rw[Eb (by simp only[Ak];omega)]
@[simp] theorem Yyj (a:Bool):bEq a a=true:=by cases a<;>rfl
theorem Zil {cs:Int}{t:List UInt8}{c:Bb}(h:Dm cs t=some c):Bz c=some t/\c.1=cs:=by
 unfold Dm at h;cases he:Mw cs t with
 | none=>rw[he]at h;cases h
 | some b =>
  rw[he]at h;have hc:=Yjb he;unfold Mw at he;rw[if_pos hc]at he;simp only at h;split at h
  ·rename_i hl;simp only[Ka]at h;subst h;refine⟨?_,rfl⟩;unfold Bz Fw;rw[if_pos (by simp [hc,hl])];exact Yf7 (by omega) he
  cases h
end
end Go.Vs
