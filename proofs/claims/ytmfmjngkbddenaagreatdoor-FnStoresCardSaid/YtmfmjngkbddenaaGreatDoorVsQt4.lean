import Derived.Test.YtmfmjngkbddenaaGreatDoorVsW5
import Derived.Test.YtmfmjngkbddenaaGreatDoorVsQt3
set_option linter.all false
namespace Go.Vs
noncomputable section
theorem Zbb (a b:List UInt8):sEq a b=(a==b):=rfl
theorem E9 (a b:Int):iEq a b=decide (a=b):=by simp only[iEq];rfl
theorem Zl0 {α σ ρ : Type} {step : σ → Option (σ ⊕ ρ)} (st : Nat → σ) (x : List α) (p : α → Bool) (found : Nat → ρ) (no : ρ)
    (hs : ∀ (i : Nat) (h : i < x.length), step (st i) = if p x[i] = true then some (.inr (found i)) else some (.inl (st (i + 1)))) (he : step (st x.length) = some (.inr no)) (s0 : σ) (h0 : s0 = st 0) :
    Aw step s0 = some (match x.findIdx? p with | some i => found i | none => no) := by
  obtain ⟨r, h1, h2⟩ := M5 (step := step) (fun i s => s = st i ∧ ∀ (j : Nat) (h : j < x.length), j < i → p x[j] = false) x.length (fun r => r = match x.findIdx? p with | some i => found i | none => no)
    (fun i s hi h => by
      obtain ⟨rfl, hp⟩ := h;rw [hs i hi];by_cases hq : p x[i] = true
      · refine .inr ⟨_, by rw [if_pos hq], ?_⟩
        have : x.findIdx? p = some i := by
          rw [Kzf];exact ⟨hi, hq, fun j hj => by simpa using hp j (by omega) hj⟩
        rw [this]
      · refine .inl ⟨_, by rw [if_neg hq], rfl, fun j hj hji => ?_⟩
        by_cases e : j = i
        · subst e; simpa using hq
        · exact hp j hj (by omega))
    (fun s h => by
      obtain ⟨rfl, hp⟩ := h;refine ⟨_, he, ?_⟩;have : x.findIdx? p = none := by
        rw [Kag];intro y hy;obtain ⟨j, hj, rfl⟩ := Kpc hy;exact hp j hj hj
      rw [this]) s0 ⟨h0, fun j _ h => absurd h (Kke _)⟩
  rw [h1, h2]
def Lz {α β:Type}(q:α->β->Bool):List α->List β->Bool
 | a::x,b::y=>q a b&&Lz q x y
 | _,_=>true
theorem Yaz {α β σ ρ:Type}{step:σ->Option (σ ⊕ ρ)}(st:Nat->σ) (x:List α) (y:List β) (q:α->β->Bool) (no yes:ρ) (hl:x.length=y.length)
  (hs:∀(i:Nat) (h:i<x.length) (h':i<y.length),step (st i)=if q x[i] y[i]=true then some (.inl (st (i+1))) else some (.inr no)) (he:step (st x.length)=some (.inr yes)) (s0:σ) (h0:s0=st 0) :
  Aw step s0=some (if Lz q x y=true then yes else no):=by
 have key:∀(x':List α) (y':List β) (i:Nat),x.drop i=x'->y.drop i=y'->i<=x.length->Aw step (st i)=some (if Lz q x' y'=true then yes else no):=by
  intro x'
  induction x' with
  | nil =>
   intro y' i h1 h2 hi;have:i=x.length:=by have:=congrArg List.length h1;simp at this;omega
   subst this;rw[M4,he];simp [Lz]
  | cons a x' ih =>
   intro y' i h1 h2 hi;have hi':i<x.length:=by have:=congrArg List.length h1;simp at this;omega
   have hi2:i<y.length:=by omega
   rw[Kwb hi']at h1;rw[Kwb hi2]at h2;simp only[List.cons.injEq]at h1;obtain⟨rfl,h1⟩:=h1;subst h2;rw[M4,hs i hi' hi2];cases hq:q x[i] y[i] with
   | true=>rw[if_pos rfl];simp only[Lz,hq,Kec];exact ih _ (i+1) h1 rfl (by omega)
   | false=>rw[if_neg (by simp)];simp [Lz,hq]
 rw[h0];exact key x y 0 rfl rfl (Kca _)
abbrev Ba:=Int×List UInt8
def Fw (c:Ba):Bool:=decide (0<=c.1/\c.1<=5)&&decide (c.2.length<=20)
def Bx (c:Ba):Option (List UInt8):=if Fw c then J9 c.1.toNat c.2 else none
def Jt (a b:Ba):Bool:=match Bx a,Bx b with
 | some x,some y=>x==y
 | _,_=>false
theorem Zss {c:Ba}{t:List UInt8}(h:Bx c=some t):Fw c=true/\J9 c.1.toNat c.2=some t:=by
 unfold Bx at h;split at h
 ·rename_i h1;exact⟨h1,h⟩
 ·cases h
theorem Zph (c:Ba):Nv c=some (Fw c):=by
 unfold Nv Rx Fw;simp only[E5,Aa,Y7];split
 ·rename_i h;have:(0:Int)<=c.1/\c.1<=5:=by simpa using h
  rw[decide_eq_true this];simp only[Kec,iLe,Ak];exact congrArg some (decide_eq_decide.2 (by omega))
 ·rename_i h;have:¬((0:Int)<=c.1/\c.1<=5):=by simpa using h
  rw[decide_eq_false this];rfl
theorem Zwg (c:Ba):Xn c=some (Fw c):=Zph c
theorem Zsr {c:Ba}{F:Int×List UInt8->Option (List UInt8×Bool)}(hF:∀{cs:Nat}{b:List UInt8},cs<=5->b.length<=1048576->F ((cs:Int),b)=some (Fh (J9 cs b))) :
  (bnd (some (Fw c)) (fun z1=>(cnd (Ag z1) (some ([],false)) (bnd (F (c.1,c.2)) (fun z2=>(some (z2.1,z2.2)))))))=some (Fh (Bx c)):=by
 rw[Aa];unfold Bx;cases h:Fw c with
 | false=>rfl
 | true =>
  simp only[Au,Ac,if_true];simp only[Fw,Kd,decide_eq_true_eq]at h;obtain⟨⟨h0,h5⟩,hl⟩:=h;obtain⟨t,b⟩:=c;simp only at h0 h5 hl ⊢;obtain⟨n,rfl⟩:=Kpb h0;rw[hF (by omega) (by omega),Aa];rfl
theorem Zhl (c:Ba):Hv c=some (Fh (Bx c)):=by
 unfold Hv;rw[show Nv (c.1,c.2)=some (Fw c) from Zph c];exact Zsr fun h1 h2=>Yte h1 h2
theorem Zmk (c:Ba):Rq c=some (Fh (Bx c)):=by
 unfold Rq;rw[show Xn (c.1,c.2)=some (Fw c) from Zwg c];exact Zsr fun h1 h2=>Yos h1 h2
theorem Yay {a b:Ba}{F:Ba->Option (List UInt8×Bool)}(hF:∀c,F c=some (Fh (Bx c))):(bnd (F (a.1,a.2)) (fun z1=>(bnd
 (F (b.1,b.2)) (fun z2=>(cnd z1.2 (cnd z2.2 (some (sEq z1.1 z2.1)) (some false)) (some false))))))=some (Jt a b):=by
 rw[hF,Aa,hF,Aa];unfold Jt;cases h1:Bx a<;>cases h2:Bx b<;>rfl
theorem Yts (a b:Ba):Bw (a,b)=some (Jt a b):=Yay Zhl
theorem Yo6 (a b:Ba):Ziv (a,b)=some (Jt a b):=Yay Zmk
def Di (cs:Int) (x:List UInt8):Option Ba:=match Mu cs x with
 | none=>none
 | some b=>if b.length<=20 then some (cs,b) else none
def cR (o:Option Ba):Ba×Bool:=match o with
 | none=>((0,[]),false)
 | some c=>(c,true)
theorem Yiu {cs:Int}{x b:List UInt8}(h:Mu cs x=some b):0<=cs/\cs<=5:=by
 unfold Mu at h;split at h
 ·assumption
 ·cases h
theorem Zpg {cs:Int}{x:List UInt8}(hl:x.length<=1048576):Uo (cs,x)=some (cR (Di cs x)):=by
 unfold Uo Di;simp only[Ytg hl,Aa];cases Mu cs x with
 | none=>rfl
 | some b =>
  simp only[Fh,Au,Ac];by_cases h:b.length<=20
  ·rw[D7 (by simp only[Ak];omega),Ac,if_pos h];rfl
  ·rw[Dl (by simp only[Ak];omega),Ad,if_neg h];rfl
theorem Ye1 (cs:Int) (x:List UInt8):(cR (Di cs x)).1.2.length<=20:=by
 unfold Di;split
 ·exact Kca _
 ·split
  ·assumption
  ·exact Kca _
theorem Ye2 {c:Ba}{t:List UInt8}(h:Bx c=some t):t.length<=80:=by
 obtain⟨h1,h2⟩:=Zss h;simp only[Fw,Kd,decide_eq_true_eq]at h1;simp only[J9,Ks]at h2;obtain⟨ns,h3,rfl⟩:=h2;have hc:c.1.toNat<=5:=by omega
 have h4:=Zos hc (Zg3 hc _ (Kc _) h3).1;have:=Zbq ns;omega
def Rj (c:Ba) (cs:Int):Ba×Bool:=match Bx c with
 | none=>(c,false)
 | some t=>match Di cs t with
  | none=>(c,false)
  | some d=>(d,true)
theorem Ytx {c:Ba}{cs:Int}(h:c.2.length<=1048576):Yd (c,cs)=some (Rj c cs):=by
 have e1:Ny (c.1,c.2)=some c:=by unfold Ny;rw[Bi (by simp only;omega)];rfl
 unfold Yd Rj;simp only;rw[show Hv (c.1,c.2)=some (Fh (Bx c)) from Zhl c,Aa];cases hc:Bx c with
 | none =>
  simp only[Fh,A3,Ad,e1,Aa];rw[Zpg (by simp),Aa]
 | some t =>
  have hl:=Ye2 hc;simp only[Fh,Au,Ac,e1,Aa];rw[Zpg (by omega),Aa];cases Di cs t with
  | none=>rfl
  | some d=>rfl
theorem Zv9 (a:Int):∃n:Nat,n<=255/\Aq .i64 a 255=(n:Int):=by
 refine⟨((BitVec.ofInt 64 a).toNat&&&255),Nat.and_le_right, ?_⟩;have e:(BitVec.ofInt 64 255).toNat=255:=by decide
 have hle:(BitVec.ofInt 64 a).toNat&&&255<=255:=Nat.and_le_right;show IntKind.wrap .i64 (((BitVec.ofInt 64 a)&&&(BitVec.ofInt 64 255)).toNat:Int)=_;rw[BitVec.toNat_and,e];exact Ue (by omega) (by omega)
theorem Zwe (v n:Nat):Dy (v:Int) (n:Int)=((v%n:Nat):Int):=rfl
abbrev Cs:=Int×Int
def B20 (b:List UInt8):Prop:=b.length<=1048576
theorem Znd {b:List UInt8}{s:Cs}(hb:B20 b) (hs:0<=s.1):∃(v:Nat) (s':Cs),Rw (b,s)=some ((v:Int),s')/\v<=255/\0<=s'.1:=by
 obtain⟨i,h⟩:=s;simp only at hs;obtain⟨k,rfl⟩:=Kpb hs;unfold B20 at hb;unfold Rw;simp only;by_cases hk:k<b.length
 ·rw[A5 (by simp only[Ak];omega),Ad,Br hk,Aa,Ar];obtain⟨n,h1,h2⟩:=Zv9 (Aj .i64 (Aq .i64 (K5 .i64 (Bh .i64 (Aj .i64 (D8 .i64 h 6364136223846793005) 1442695040888963407) 33) (Bh .i64 (Aj .i64 (D8 .i64 h 6364136223846793005) 1442695040888963407) 47)) 255) (Ai .i64 (y2i b[k])));refine⟨n,_,by simp only[h2];rfl,h1, ?_⟩;simp only;rw[Cz (by omega)];omega
 ·rw[A6 (by simp only[Ak];omega),Ac,Ar];obtain⟨n,h1,h2⟩:=Zv9 (K5 .i64 (Bh .i64 (Aj .i64 (D8 .i64 h 6364136223846793005) 1442695040888963407) 33) (Bh .i64 (Aj .i64 (D8 .i64 h 6364136223846793005) 1442695040888963407) 47));exact⟨n,_,by simp only[h2];rfl,h1,by simp only;omega⟩
theorem Iy {b:List UInt8}{s:Cs}(n:Int) (hb:B20 b) (hs:0<=s.1):∃(v:Nat) (s':Cs),D5 ((b,s),n)=some ((v:Int),s')/\(0<n->(v:Int)<n)/\(n<=0->v=0)/\0<=s'.1:=by
 obtain⟨i,h⟩:=s;unfold D5;simp only;by_cases h0:n<=0
 ·rw[Gy h0,Ad];exact⟨0,(i,h),rfl,fun h=>by omega,fun _=>rfl,hs⟩
 obtain⟨m,rfl⟩:=Kpb (show 0<=n by omega);have hm:0<m:=by omega
 rw[K4 (by omega),Ac];obtain⟨v1,s1,e1,l1,k1⟩:=Znd hb hs;by_cases h1:(m:Int)<=256
 ·rw[Gy h1,Ad,e1,Aa,Iw (by omega),Az];simp only;rw[Zwe];exact⟨v1%m,(s1.1,s1.2),rfl,fun _=>by have:=Ksc v1 hm;omega,fun h=>by omega,k1⟩
 ·rw[K4 (by omega),Ac,e1,Aa];obtain⟨v2,s2,e2,l2,k2⟩:=Znd (s:=(s1.1,s1.2)) hb k1;simp only[e2,Aa];obtain⟨v3,s3,e3,l3,k3⟩:=Znd (s:=(s2.1,s2.2)) hb k2;simp only[e3,Aa];rw[Iw (by omega),Az];have q1:D8 .i64 (v1:Int) 65536=((v1*65536:Nat):Int):=by rw[Zwb (by omega) (by omega)];omega
  have q2:D8 .i64 (v2:Int) 256=((v2*256:Nat):Int):=by rw[Zwb (by omega) (by omega)];omega
  rw[q1,q2,Sv (by omega),Sv (by omega),Zwe];exact⟨_,(s3.1,s3.2),rfl,fun _=>by have:=Ksc (v1*65536+v2*256+v3) hm;omega,fun h=>by omega,k3⟩
theorem Yp2 {b:List UInt8}{s:Cs}(n:Int) (hb:B20 b) (hs:0<=s.1):∃(v:Bool) (s':Cs),Yk ((b,s),n)=some (v,s')/\0<=s'.1:=by
 obtain⟨v,s',e,_,_,k⟩:=Iy (s:=(s.1,s.2)) n hb hs;unfold Yk;simp only[e,Aa];exact⟨_,_,rfl,k⟩
theorem V7 {b:List UInt8}{s:Cs}(l:List Int) (hb:B20 b) (hs:0<=s.1) (hl:0<l.length):∃(v:Int) (s':Cs),Jj ((b,s),l)=some (v,s')/\v∈l/\0<=s'.1:=by
 obtain⟨v,s',e,h1,_,k⟩:=Iy (s:=(s.1,s.2)) (Ah l) hb hs;have h1:=h1 (by simp only[Ak];omega);simp only[Ak]at h1;unfold Jj;simp only[e,Aa];rw[Br (i:=v) (by omega),Aa];exact⟨_,_,rfl,Kcb _,k⟩
theorem Yp1 {b : List UInt8} (hb : B20 b) : ∃ h : Int, Zc4 b = some h := by
  unfold Zc4;obtain ⟨r, h1, h, h2⟩ := M5 (step := Zdz b) (fun i (st : Int × Int) => st.2 = (i : Int)) b.length (fun r => ∃ h, r = .inl h)
    (fun i st hi h => by
      obtain ⟨p, q⟩ := st;simp only at h;subst h;unfold Zdz;simp only;rw [A5 (by simp only [Ak]; omega), Ad];by_cases h4 : (i : Int) < 4000
      · rw [A5 h4, Ad, Br hi, Aa]
        exact .inl ⟨_, rfl, by simp only; rw [Cz (by unfold B20 at hb; omega)]⟩
      · rw [A6 (by omega), Ac]
        exact .inr ⟨_, rfl, _, rfl⟩)
    (fun st h => by
      obtain ⟨p, q⟩ := st;simp only at h;subst h;refine ⟨.inl p, ?_, p, rfl⟩;unfold Zdz;simp only;rw [A6 (by simp only [Ak]; omega), Ac])
    (Aj .i64 953953 (Ah b), 0) rfl
  subst h2;rw [h1, Ar];exact ⟨_, rfl⟩
theorem Yp3 {b:List UInt8}{s:Cs}(l:List (List UInt8)) (hb:B20 b) (hs:0<=s.1) (hl:0<l.length):∃(v:List UInt8) (s':Cs),Zc5 ((b,s),l)=some (v,s')/\v∈l/\0<=s'.1:=by
 obtain⟨v,s',e,h1,_,k⟩:=Iy (s:=(s.1,s.2)) (Ah l) hb hs;have h1:=h1 (by simp only[Ak];omega);simp only[Ak]at h1;unfold Zc5;simp only[e,Aa];rw[Br (i:=v) (by omega),Aa];exact⟨_,_,rfl,Kcb _,k⟩
theorem Zn7 {p:Int->Bool}{l:List Int}{v:Int}(h:l.all p=true) (hv:v∈l):p v=true:=(Kna.1 h) v hv
def sgI (v:Int):Bool:=decide (0<=v)&&Cb v.toNat
theorem Yuq {v:Int}(h:sgI v=true):∃n:Nat,v=(n:Int)/\Cb n=true:=by
 simp only[sgI,Kd,decide_eq_true_eq]at h;exact⟨v.toNat,by omega,h.2⟩
theorem Yp5 {b:List UInt8}{s:Cs}(hb:B20 b) (hs:0<=s.1):∃(n:Nat) (s':Cs),Zc7 (b,s)=some ((n:Int),s')/\Cb n=true/\0<=s'.1:=by
 unfold Zc7;obtain⟨v,s',e,h1,k⟩:=V7 (s:=(s.1,s.2)) [0,97,90,127,128,164,233,2047,2048,8364,1072,1102,1025,12354,12450,352,65535,65536,1114111] hb hs (by simp);simp only[e,Aa];obtain⟨n,rfl,h2⟩:=Yuq (Zn7 (p:=sgI) (by decide +kernel) h1);exact⟨n,s',rfl,h2,k⟩
def Yo (cs:Int) (n:Nat):Prop:=Cb n=true/\(0<=cs->cs<=5->∃b,E3 cs.toNat n=some b)
theorem Zot {n:Nat}(h:Cb n=true):E3 0 n=some (enc n):=by unfold E3;rw[if_pos rfl,if_pos h]
theorem Zy3 {cs n b:Nat}(h1:1<=cs) (h4:cs<=4) (hb:b<256) (h:C4 cs b=some n):E3 cs n=some [yN b]:=by
 unfold E3;rw[if_neg (by omega),if_neg (by omega),Ya9 h1 h4 hb h];rfl
def euI (v:Int):Bool:=decide (0<=v)&&Cb v.toNat&&(Od v.toNat).isSome
theorem Yp7 {b:List UInt8}{s:Cs}(cs:Int) (hb:B20 b) (hs:0<=s.1):∃(n:Nat) (s':Cs),Zda ((b,s),cs)=some ((n:Int),s')/\Yo cs n/\0<=s'.1:=by
 unfold Zda;simp only[E9];by_cases c0:cs=0
 ·rw[decide_eq_true c0,Ad];obtain⟨n,s',e,h,k⟩:=Yp5 (s:=(s.1,s.2)) hb hs;simp only[e,Aa];subst c0;exact⟨n,s',rfl,⟨h,fun _ _=>⟨_,Zot h⟩⟩,k⟩
 rw[decide_eq_false c0,Ac];by_cases c5:cs=5
 ·rw[decide_eq_true c5,Ad];obtain⟨v,s',e,h1,k⟩:=V7 (s:=(s.1,s.2)) [97,32,12353,12435,12449,12534,12354] hb hs (by simp);simp only[e,Aa];have h2:=Zn7 (p:=euI) (by decide +kernel) h1;simp only[euI,Kd,decide_eq_true_eq]at h2;obtain⟨⟨h2,h3⟩,h4⟩:=h2;obtain⟨n,rfl⟩:=Kpb h2;subst c5;obtain⟨q,hq⟩:=Kcg.1 h4;exact⟨n,s',rfl,⟨h3,fun _ _=>⟨q,by unfold E3;rw[if_neg (by decide),if_pos (by decide)];exact hq⟩⟩,k⟩
 rw[decide_eq_false c5,Ac];obtain⟨v,s',e,h1,k⟩:=V7 (s:=(s.1,s.2)) [65,97,32,164,192,200,228,255,163,128,130,189] hb hs (by simp);simp only[e,Aa];have h2:=Zn7 (p:=fun v=>decide (0<=v/\v<256)) (by decide +kernel) h1;simp only[decide_eq_true_eq]at h2;obtain⟨m,rfl⟩:=Kpb h2.1;by_cases hc:1<=cs/\cs<=4
 ·obtain⟨c,rfl⟩:=Kpb (show 0<=cs by omega);have hc1:1<=c:=by omega
  have hc4:c<=4:=by omega
  rw[Zpf hc1 hc4 (by omega),Aa];cases hv:C4 c m with
  | none =>
   have h120:C4 c 120=some 120:=by unfold C4;rw[if_pos (by omega)]
   exact⟨120,s',rfl,⟨by decide,fun _ _=>⟨_,Zy3 hc1 hc4 (by omega) h120⟩⟩,k⟩
  | some n =>
   exact⟨n,s',rfl,⟨Zr6 hc1 hc4 (by omega) hv,fun _ _=>⟨_,Zy3 hc1 hc4 (by omega) hv⟩⟩,k⟩
 ·have e2:Lp (cs,(m:Int))=some (0,false):=by
   unfold Lp;simp only[E5,Aa];rw[decide_eq_false hc,A3,Ad]
  rw[e2,Aa];exact⟨120,s',rfl,⟨by decide,fun _ _=>by omega⟩,k⟩
theorem Ysd {l:List UInt8}{n:Nat}(hl:l.length+4<=140737488355328) (h:Cb n=true):Nw (l,(n:Int))=some (l++enc n):=by
 rw[Zhn hl];have:sgn (n:Int)=true:=by simp [sgn,h]
 rw[this];rfl
theorem Yvr (ns:List Nat) (n:Nat):E6 (ns++[n])=E6 ns++enc n:=by simp [E6]
theorem Zw8 {b : List UInt8} {s : Cs} (cs : Int) (m : Nat) (hb : B20 b) (hs : 0 ≤ s.1) (hm : m ≤ 100) : ∃ (ns : List Nat) (s' : Cs), Ym ((b, s), (cs, (m : Int))) = some (E6 ns, s') ∧ ns.length ≤ m ∧ (∀ n ∈ ns, Yo cs n) ∧ 0 ≤ s'.1 := by
  unfold Ym;simp only;rw [Cz (by omega)];obtain ⟨K, s1, e1, l1, _, k1⟩ := Iy (s := (s.1, s.2)) ((m + 1 : Nat) : Int) hb hs;have l1 := l1 (by omega);simp only [e1, Aa];obtain ⟨r, h1, ns, s', h2, h3, h4, h5⟩ := M5 (step := Zd0 ((b, s), (cs, (m : Int)))) (fun j (st : Int × Int × List UInt8 × Int) => 0 ≤ st.1 ∧ st.2.2.2 = (K : Int) - j ∧ ∃ ns : List Nat, st.2.2.1 = E6 ns ∧ ns.length = j ∧ ∀ n ∈ ns, Yo cs n) K (fun r => ∃ (ns : List Nat) (s' : Cs), r = .inl (s'.1, s'.2, E6 ns) ∧ ns.length = K ∧ (∀ n ∈ ns, Yo cs n) ∧ 0 ≤ s'.1)
    (fun j st hj h => by
      obtain ⟨p, q, w, k⟩ := st;obtain ⟨g1, g2, ns, g3, g4, g5⟩ := h;simp only at g1 g2 g3;subst g2 g3;obtain ⟨n, s2, e2, h2, k2⟩ := Yp7 (s := (p, q)) cs hb g1;have hl := Zbq ns;refine .inl ⟨(s2.1, s2.2, E6 (ns ++ [n]), (K : Int) - ((j + 1 : Nat) : Int)), ?_, k2, rfl, ns ++ [n], rfl, by simp [g4], fun x hx => by
        rcases Kda.1 hx with hx | hx
        · exact g5 x hx
        · simp only [Kpa] at hx; subst hx; exact h2⟩
      unfold Zd0;simp only;rw [Dl (by omega), Ad, e2, Aa, Ysd (by omega) h2.1, Aa, Eh (by omega) (by omega), Yvr, show (K : Int) - j - 1 = (K : Int) - ((j + 1 : Nat) : Int) by omega])
    (fun st h => by
      obtain ⟨p, q, w, k⟩ := st;obtain ⟨g1, g2, ns, g3, g4, g5⟩ := h;simp only at g1 g2 g3;subst g2 g3;refine ⟨.inl (p, q, E6 ns), ?_, ns, (p, q), rfl, g4, g5, g1⟩;unfold Zd0;simp only;rw [D7 (by omega), Ac])
    (s1.1, s1.2, ([], (K : Int))) ⟨k1, by simp, [], rfl, rfl, by simp⟩
  subst h2;rw [h1, Ar];exact ⟨ns, s', rfl, by omega, h4, h5⟩
theorem Zy1 {cs:Nat}(hc:cs<=5):∀{ns:List Nat}{l:List UInt8},Ek cs ns=some l->l.length<=4*ns.length
 | [],l,h=>by simp only[Ek,Ka]at h;subst h;simp
 | n::ns,l,h=>by
  simp only[Ek]at h;cases h1:E3 cs n with
  | none=>rw[h1]at h;simp at h
  | some b =>
   cases h2:Ek cs ns with
   | none=>rw[h1,h2]at h;simp at h
   | some r =>
    rw[h1,h2]at h;simp only[Ka]at h;subst h;have h3:=Zy4 hc h1;have:=Zy1 hc h2;simp only[Kf,Kt];omega
theorem Yem {x:List UInt8}(h:1048576<x.length):Un x=some true:=by unfold Un;rw[Dl (by simp only[Ak];omega)]
theorem Yel {x:List UInt8}(h:x.length<=1048576):Un x=some false:=by unfold Un;rw[D7 (by simp only[Ak];omega)]
@[simp] theorem Yx2 (a:Bool):bEq a a=true:=by cases a<;>rfl
theorem Zia {cs:Int}{t:List UInt8}{c:Ba}(h:Di cs t=some c):Bx c=some t/\c.1=cs:=by
 unfold Di at h;cases he:Mu cs t with
 | none=>rw[he]at h;cases h
 | some b =>
  rw[he]at h;have hc:=Yiu he;unfold Mu at he;rw[if_pos hc]at he;simp only at h;split at h
  ·rename_i hl;simp only[Ka]at h;subst h;refine⟨?_,rfl⟩;unfold Bx Fw;rw[if_pos (by simp [hc,hl])];exact Yfs (by omega) he
  ·cases h
end
end Go.Vs
