import Derived.Test.YtmfmjngkbddenaaGreatDoorVsQtc
set_option linter.all false
namespace Go.Vs
noncomputable section
theorem Zsa {α σ ρ:Type}{step:σ->Option (σ ⊕ ρ)}(st:Nat->σ) (x:List α) (p:α->Bool) (no yes:ρ)
  (hs:∀(i:Nat) (h:i<x.length),step (st i)=if p x[i]=true then some (.inl (st (i+1))) else some (.inr no)) (he:step (st x.length)=some (.inr yes)) (s0:σ) (h0:s0=st 0) :
  Aw step s0=some (if x.all p=true then yes else no):=by
 rw[Zme (step:=step) st x (fun a=>!p a) (fun _=>no) yes (fun i hi=>by
  rw[hs i hi];cases p x[i]<;>rfl) he s0 h0]
 cases hq:x.findIdx? (fun a=>!p a) with
 | none =>
  rw[Kag]at hq;rw[if_pos (Kna.2 fun a ha=>by simpa using hq a ha)]
 | some i =>
  rw[Kzf]at hq;obtain⟨h1,h2,_⟩:=hq;rw[if_neg (fun h=>by
   have:=Kna.1 h _ (Kcb h1);rw[this]at h2;cases h2)]
theorem Yqb {ρ:Type}(c:Prop) [Decidable c] (r:ρ) (k:Unit->Option ρ):Ao (some (if c then (Sum.inl ():Unit ⊕ ρ) else .inr r)) k=if c then k () else some r:=by
 split<;>rfl
def Zbp (b:List UInt8):Bool:=decide (b.length<=120)
def wrB (m:Int) (w:Wr):Bool:=decide (0<=w.1/\w.1<=m)&&decide (w.2.length<=120)
theorem Ygb (secs:List (List UInt8)) (cache:List Wr) (fuse:Int):Ce secs cache fuse=(decide (1<=(secs.length:Int)/\(secs.length:Int)<=64)&&decide ((cache.length:Int)<=40)&&decide (-1<=fuse/\fuse<=1000)&&secs.all Zbp&&cache.all (wrB ((secs.length:Int)-1))):=by
 rw[Kdc];simp only[Ce,Kd,decide_eq_true_eq,Kna,Zbp,wrB];constructor
 ·rintro ⟨a,b,c,d,e⟩;exact⟨⟨⟨⟨⟨by omega,by omega⟩,by omega⟩,c⟩,d⟩,fun w hw=>⟨⟨(e w hw).1,(e w hw).2.1⟩,(e w hw).2.2⟩⟩
 rintro ⟨⟨⟨⟨a,b⟩,c⟩,d⟩,e⟩;exact⟨⟨by omega,by omega⟩,by omega,c,d,fun w hw=>⟨(e w hw).1.1,(e w hw).1.2,(e w hw).2⟩⟩
theorem Z9 {x:Dv}(h:SmD x):Jh x=some (Ce x.1 x.2.1 x.2.2.1):=by
 obtain⟨secs,cache,fuse,down⟩:=x;obtain⟨h1,h2,h3,h4⟩:=h;simp only at h1 h2 h3 h4;have es:Ba .i64 (Ah secs) 1=(secs.length:Int)-1:=Ei (by simp only[Ak];omega) (by simp only[Ak];omega);unfold Jh;simp only[Ak];rw[G1,Aa,Ygb];by_cases ha:1<=(secs.length:Int)/\(secs.length:Int)<=64
 case neg=>rw[decide_eq_false ha,A5,Ad];simp
 rw[decide_eq_true ha,Av,Ac];by_cases hb:(cache.length:Int)<=40
 case neg=>rw[Dq (by omega),Ad,decide_eq_false hb];simp
 rw[Eb hb,Ac,decide_eq_true hb,G1,Aa];by_cases hc:-1<=fuse/\fuse<=1000
 case neg=>rw[decide_eq_false hc,A5,Ad];simp
 rw[decide_eq_true hc,Av,Ac];rw[Zsa (step:=Zdo (secs,(cache,(fuse,down)))) (fun i=>(i:Int)) secs Zbp (.inr false) (.inl ()) (fun i hi=>by
  unfold Zdo;simp only;rw[A3 (by simp only[Ak];omega),Ad,Bp hi,Aa,C4 (by omega)];unfold Zbp;by_cases hb:secs[i].length<=120
  ·rw[Eb (by simp only[Ak];omega),Ac,decide_eq_true hb,if_pos (by simp)]
  ·rw[Dq (by simp only[Ak];omega),Ad,decide_eq_false hb,if_neg (by simp)]) (by
  unfold Zdo;simp only;rw[A6 (by simp only[Ak];omega),Ac]) (0:Int) rfl,Yqb]
 split
 case isFalse hn =>
  have:secs.all Zbp=false:=by simpa using hn
  rw[this];simp
 rename_i hy;rw[Zsa (step:=Zdp (secs,(cache,(fuse,down)))) (fun i=>(i:Int)) cache (wrB ((secs.length:Int)-1)) false true (fun i hi=>by
  unfold Zdp;simp only;rw[A3 (by simp only[Ak];omega),Ad,Bp hi,Aa,es,G1,Aa,C4 (by omega)];unfold wrB;by_cases ha:0<=cache[i].1/\cache[i].1<=(secs.length:Int)-1
  ·rw[decide_eq_true ha,Av,Ac];by_cases hb:cache[i].2.length<=120
   ·rw[Eb (by simp only[Ak];omega),Ac,decide_eq_true hb,if_pos (by simp)]
   rw[Dq (by simp only[Ak];omega),Ad,decide_eq_false hb,if_neg (by simp)]
  ·rw[decide_eq_false ha,A5,Ad,if_neg (by simp)]) (by
  unfold Zdp;simp only;rw[A6 (by simp only[Ak];omega),Ac]) (0:Int) rfl,hy]
 cases cache.all (wrB ((secs.length:Int)-1))<;>simp
theorem Wa {x:Dv}(h:SmD x):J2 x=some x:=by
 obtain⟨secs,cache,fuse,down⟩:=x;obtain⟨h1,h2,h3,h4⟩:=h;simp only at h1 h2 h3 h4;unfold J2;simp only;rw[Sd (step:=Zdx (secs,(cache,(fuse,down)))) (x:=secs) (f:=fun b=>b) (l0:=[]) (fun l i hi hl=>by
  have:=h2 _ (Kcb hi);simp only[Ki,Kr]at hl;unfold Zdx;simp only;rw[A3 (by simp only[Ak];omega),Ad,Bp hi,Aa,L5 (by omega),Aa,Bj (by omega),Az,C4 (by omega)];rfl) (fun l=>by
  unfold Zdx;simp only;rw[A6 (by simp only[Ak];omega),Ac]),Ar]
 rw[Sd (step:=Zdy (secs,(cache,(fuse,down)))) (x:=cache) (f:=fun b=>b) (l0:=[]) (fun l i hi hl=>by
  have:=h4 _ (Kcb hi);simp only[Ki,Kr]at hl;unfold Zdy;simp only;rw[A3 (by simp only[Ak];omega),Ad,Bp hi,Aa,L5 (by omega),Aa,Bj (by omega),Az,C4 (by omega)];rfl) (fun l=>by
  unfold Zdy;simp only;rw[A6 (by simp only[Ak];omega),Ac]),Ar]
 simp
def wrD (x:Dv) (n:Int) (b:List UInt8):Dv:=(x.1,Zi2 x.1 x.2.1 x.2.2.1 x.2.2.2 n b)
def dOk (x:Dv):Bool:=Ce x.1 x.2.1 x.2.2.1
def flD (x:Dv):Dv:=Zfy x.1 x.2.1 x.2.2.1 x.2.2.2
theorem Yt4 {secs:List (List UInt8)}{cache:List Wr}{fuse:Int}{down:Bool}(hf:-1<=fuse/\fuse<=1000):U3 (secs,(cache,(fuse,down)))=some (opR fuse,(opF fuse,opD fuse down)):=by
 unfold U3 opR opF opD;simp only[E8];by_cases h0:fuse=0
 ·subst h0;rfl
 rw[decide_eq_false h0,Ac,if_neg h0,if_neg h0,show (fuse==0)=false by simp [h0]];by_cases h1:0<fuse
 ·rw[Dq h1,Ad,if_pos h1,Ei (by omega) (by omega)];rfl
 rw[Eb (by omega),Ac,if_neg h1];rfl
theorem Zwz {x:Dv}(hf:-1<=x.2.2.1/\x.2.2.1<=1000):Yc x=some ((x.1,x.2.1,opF x.2.2.1,opD x.2.2.1 x.2.2.2),opR x.2.2.1):=by
 obtain⟨secs,cache,fuse,down⟩:=x;simp only at hf;unfold Yc opR opF opD;simp only[E8];by_cases h0:fuse=0
 ·subst h0;rfl
 rw[decide_eq_false h0,Ac,if_neg h0,if_neg h0,show (fuse==0)=false by simp [h0]];by_cases h1:0<fuse
 ·rw[Dq h1,Ad,if_pos h1,Ar,Ei (by omega) (by omega)];rfl
 rw[Eb (by omega),Ac,if_neg h1,Ar];rfl
theorem Yuf {x:Dv}{n:Int}{b:List UInt8}(h:SmD x) (hf:-1<=x.2.2.1/\x.2.2.1<=1000) (hb:b.length<=1048576):Mq (x,(n,b))=some (wrC x.1 x.2.1 x.2.2.1 x.2.2.2 n b):=by
 obtain⟨secs,cache,fuse,down⟩:=x;obtain⟨h1,h2,h3,h4⟩:=h;simp only at h1 h2 h3 h4 hf;have es:Ba .i64 (Ah secs) 1=(secs.length:Int)-1:=Ei (by simp only[Ak];omega) (by simp only[Ak];omega);unfold Mq;simp only[es];cases down with
 | true=>rw[Ad,Mm (.inl rfl)]
 | false =>
 rw[Ac,E4,Aa];by_cases ha:0<=n/\n<=(secs.length:Int)-1
 case neg=>rw[decide_eq_false ha,A5,Ad,Mm (.inr (.inl ha))]
 rw[decide_eq_true ha,Av,Ac];by_cases hc:b.length<=120
 case neg=>rw[Dq (by simp only[Ak];omega),Ad,Mm (.inr (.inr (.inl (by omega))))]
 rw[Eb (by simp only[Ak];omega),Ac];by_cases hd:cache.length<40
 case neg=>rw[Qz (by simp only[Ak];omega),Ad,Mm (.inr (.inr (.inr (by omega))))]
 rw[Oo (by simp only[Ak];omega),Ac,Yt4 hf,Aa];have hno:¬(false=true\/¬(0<=n/\n<=(secs.length:Int)-1)\/120<b.length\/40<=cache.length):=by
  rintro (h|h|h|h)
  ·cases h
  ·exact h ha
  ·omega
  omega
 by_cases h0:fuse=0
 ·obtain⟨e1,e2,e3⟩:=Zg4 (down:=false) h0;simp only[e1,e2,e3,A5,Ad];rw[Zci hno h0]
 obtain⟨e2,e3⟩:=Zg3 (down:=false) h0;simp only[e2,e3,Av,Ac];rw[Bj (by omega),Az,Bj (by omega),Az,Rr hno h0];rfl
theorem Vo {x:Dv}(h:dOk x=true):SmD x:=by
 obtain⟨⟨a,b⟩,c,d,e,f⟩:=H6 h;exact⟨by omega,fun b hb=>by have:=e b hb;omega,by omega,fun w hw=>by have:=(f w hw).2.2;omega⟩
theorem Yps {x:Dv}{n:Int}{b:List UInt8}(h:SmD x) (hb:b.length<=1048576):Ji (x,(n,b))=some (wrD x n b):=by
 have h1:=h.1;have h3:=h.2.2.1;have es:Ba .i64 (Ah x.1) 1=(x.1.length:Int)-1:=Ei (by simp only[Ak];omega) (by simp only[Ak];omega);unfold Ji wrD;simp only[es];rw[show J2 (x.1,(x.2.1,(x.2.2.1,x.2.2.2)))=some x from Wa h,Aa,show Jh (x.1,(x.2.1,(x.2.2.1,x.2.2.2)))=some (Ce x.1 x.2.1 x.2.2.1) from Z9 h,Aa];cases hk:Ce x.1 x.2.1 x.2.2.1 with
 | false=>rw[A5,Ad,Yxy hk]
 | true =>
  obtain⟨_,d2,d3,_,_⟩:=H6 hk;rw[Av,Ac,Ydv hk];cases hdn:x.2.2.2 with
  | true=>rw[Ad,Mm (.inl rfl)]
  | false =>
  rw[Ac,G1,Aa];by_cases ha:0<=n/\n<=(x.1.length:Int)-1
  case neg=>rw[decide_eq_false ha,A5,Ad,Mm (.inr (.inl ha))]
  rw[decide_eq_true ha,Av,Ac];by_cases hc:b.length<=120
  case neg=>rw[Dq (by simp only[Ak];omega),Ad,Mm (.inr (.inr (.inl (by omega))))]
  rw[Eb (by simp only[Ak];omega),Ac,E8];by_cases hd:x.2.1.length=40
  ·rw[decide_eq_true (by simp only[Ak];omega),Ad,Mm (.inr (.inr (.inr (by omega))))]
  rw[decide_eq_false (by simp only[Ak];omega),Ac];have hno:¬(false=true\/¬(0<=n/\n<=(x.1.length:Int)-1)\/120<b.length\/40<=x.2.1.length):=by
   rintro (h|h|h|h)
   ·cases h
   ·exact h ha
   ·omega
   omega
  have eb:=Zwz (x:=(x.1,(x.2.1,(x.2.2.1,false)))) d3;rw[eb,Aa];simp only;by_cases h0:x.2.2.1=0
  ·obtain⟨e1,e2,e3⟩:=Zg4 (down:=false) h0;simp only[e1,e2,e3,Ac,Ar];rw[Zci hno h0]
  obtain⟨e2,e3⟩:=Zg3 (down:=false) h0;simp only[e2,e3,Ad];rw[L5 (by omega),Aa,Bj (by omega),Az,Ar,Rr hno h0];rfl
theorem Yt0 {x:Dv}(h:SmD x) (hf:-1<=x.2.2.1/\x.2.2.1<=1000) (hc:∀w∈x.2.1,0<=w.1/\w.1<=(x.1.length:Int)-1):Lq x=some (flC x.1 x.2.1 x.2.2.1 x.2.2.2):=by
 unfold Lq;have h1:=h.1;have h3:=h.2.2.1;rw[decide_eq_true (by exact⟨hf,by omega,by omega,hc⟩),Az]
theorem Ypc {x:Dv}(h:SmD x):Lm x=some (flD x):=by
 have h3:=h.2.2.1;unfold Lm flD;rw[show J2 (x.1,(x.2.1,(x.2.2.1,x.2.2.2)))=some x from Wa h,Aa,show Jh (x.1,(x.2.1,(x.2.2.1,x.2.2.2)))=some (Ce x.1 x.2.1 x.2.2.1) from Z9 h,Aa];cases hk:Ce x.1 x.2.1 x.2.2.1 with
 | false=>rw[A5,Ad,Yj0 hk]
 | true =>
  obtain⟨_,d2,d3,d4,d5⟩:=H6 hk;rw[Av,Ac,Zvn hk];cases hdn:x.2.2.2 with
  | true=>rw[Ad,Sz rfl]
  | false =>
  rw[Ac];have eb:=Zwz (x:=(x.1,(x.2.1,(x.2.2.1,false)))) d3;rw[eb,Aa];simp only;by_cases h0:x.2.2.1=0
  ·obtain⟨e1,e2,e3⟩:=Zg4 (down:=false) h0;simp only[e1,e2,e3,A5,Ad];rw[h0,Z1 rfl]
  obtain⟨e2,e3⟩:=Zg3 (down:=false) h0;simp only[e2,e3,Av,Ac];rw[show Aw (Zdr ((x.1,(x.2.1,(opF x.2.2.1,false))),true)) (x.1,0)=some (.inl (flL x.1 x.2.1)) from I3 (fun i=>(flL x.1 (x.2.1.take i),(i:Int))) x.2.1.length _ (fun i hi=>by
   obtain⟨g1,g2,g3⟩:=d5 _ (Kcb hi);obtain⟨k,hk⟩:=Kob g1;have hkl:k<(flL x.1 (x.2.1.take i)).length:=by rw[S3];omega
   unfold Zdr;simp only;rw[A3 (by simp only[Ak];omega),Ad,Bp hi,Aa,L5 (by omega),Aa,hk,Bp (i:=k) hkl,Aa,C4 (by omega),Zvq hi hk];rfl) (by
   unfold Zdr;simp only;rw[A6 (by simp only[Ak];omega),Ac,Kkc]) (x.1,0) rfl,Ar,Oj h0]
theorem Qg {x:Dv}(h1:1<=x.1.length/\x.1.length<=64) (h2:x.2.1.length<=40) (h3:-1<=x.2.2.1/\x.2.2.1<=1000) (h4:∀b∈x.1,b.length<=120) (h5:∀w∈x.2.1,0<=w.1/\w.1<=(x.1.length:Int)-1/\w.2.length<=120):dOk x=true:=by
 unfold dOk Ce;exact decide_eq_true ⟨h1,h2,h3,h4,h5⟩
def Zmr (g n:Int):List UInt8:=(Bh g++Bh n)++Bh (crc (Bh g++Bh n))
def K3 (g n:Int):Bool:=decide (1<=g/\g<=60000)&&decide (0<=n/\n<=30)
def D1 (g n:Int):List UInt8:=if K3 g n=true then Zmr g n else []
theorem Yt3 {g n:Int}:Zc6 (g,n)=some (D1 g n):=by
 unfold Zc6 D1 K3;simp only[E4,Aa];by_cases h1:1<=g/\g<=60000
 case neg=>rw[decide_eq_false h1,A5,Ad];rfl
 rw[decide_eq_true h1,Av,Ac];by_cases h2:0<=n/\n<=30
 case neg=>rw[decide_eq_false h2,A5,Ad];rfl
 rw[decide_eq_true h2,Av,Ac];have hc:=Oc (Bh g++Bh n);rw[T5 (by simp) (by omega) (by omega),Aa,T5 (by simp [Bh]) (by omega) (by omega),Aa];simp only[Km];rw[Ya3 (by simp [Bh]),Aa,T5 (by simp [Bh]) (by omega) (by omega)];rfl
theorem Ypi {g n:Int}:X7 (g,n)=some (D1 g n):=by
 unfold X7 D1 K3;simp only[G1,Aa];by_cases h1:1<=g/\g<=60000
 case neg=>rw[decide_eq_false h1,A5,Ad];rfl
 rw[decide_eq_true h1,Av,Ac];by_cases h2:0<=n/\n<=30
 case neg=>rw[decide_eq_false h2,A5,Ad];rfl
 rw[decide_eq_true h2,Av,Ac];have hc:=Oc (Bh g++Bh n);rw[Tb (by simp) (by omega) (by omega),Aa,Tb (by simp [Bh]) (by omega) (by omega),Aa];simp only[Km];rw[Zab (by simp [Bh]),Aa,Tb (by simp [Bh]) (by omega) (by omega)];rfl
theorem Zwa {g n:Int}:(D1 g n).length=if K3 g n=true then 6 else 0:=by
 unfold D1;split<;>rfl
def faD (x:Dv) (n:Int):Dv:=Zfr x.1 x.2.1 x.2.2.1 x.2.2.2 n
def rdD (x:Dv) (n:Int):List UInt8:=W0 x.1 x.2.1 x.2.2.1 n
theorem Zwt {x:Dv}{n:Int}(h:SmD x):Xz (x,n)=some (faD x n):=by
 have h3:=h.2.2.1;unfold Xz faD;simp only;rw[show J2 (x.1,(x.2.1,(x.2.2.1,x.2.2.2)))=some x from Wa h,Aa,show Jh (x.1,(x.2.1,(x.2.2.1,x.2.2.2)))=some (Ce x.1 x.2.1 x.2.2.1) from Z9 h,Aa];cases hk:Ce x.1 x.2.1 x.2.2.1 with
 | false=>rw[A5,Ad,Yjt hk]
 | true =>
  obtain⟨_,d2,d3,d4,d5⟩:=H6 hk;rw[Av,Ac,Zvb hk,G1,Aa];have ej:Ao (cnd (Ag (decide (0<=n/\n<=1073741823))) (some (.inl 0)) (some (.inl n)):Option (Int ⊕ Dv))=fun f=>f (faN n):=by
   funext f;unfold faN;by_cases hq:0<=n/\n<=1073741823
   ·rw[decide_eq_true hq,Av,Ac,Ar,if_pos hq]
   rw[decide_eq_false hq,A5,Ad,Ar,if_neg hq]
  rw[ej];simp only;have hb:=Yjv n;generalize faN n=m at hb ⊢;rw[show Aw (Zdq x m) (x.1,0)=some (.inl (faL m 0 x.1 x.2.1)) from I3 (fun i=>(faL m 0 x.1 (x.2.1.take i),(i:Int))) x.2.1.length _ (fun i hi=>by
   obtain⟨g1,g2,g3⟩:=d5 _ (Kcb hi);obtain⟨k,hk⟩:=Kob g1;have hkl:k<(faL m 0 x.1 (x.2.1.take i)).length:=by rw[Zy];omega
   unfold Zdq;simp only;rw[A3 (by simp only[Ak];omega),Ad,Bp hi,Aa,Yju hi hk];by_cases h30:i<30
   ·have e1:Aq .i64 (Bi .i64 m (i:Int)) 1=((m.toNat / 2^i%2:Nat):Int):=by
     have:=Ye6 hb i;unfold Aq Bi;rw[Knb,Kod (by show i<=64;omega)];exact this
    rw[A3 (by omega),Ad,G0 (by omega),Az,e1,E8];by_cases hbit:((m.toNat / 2^i%2:Nat):Int)=1
    ·rw[decide_eq_true hbit,Ad,L5 (by omega),Aa,hk,Bp (i:=k) hkl,Aa,Ar,C4 (by omega),Yqd h30 hbit];rfl
    rw[decide_eq_false hbit,Ac,Ar,C4 (by omega),Zxb (fun h=>hbit h.2)];rfl
   ·rw[A6 (by omega),Ac,Ar,C4 (by omega),Zxb (fun h=>h30 h.1)];rfl) (by
   unfold Zdq;simp only;rw[A6 (by simp only[Ak];omega),Ac,Kkc]) (x.1,0) rfl,Ar]
theorem Zwy {x : Dv} {n : Int} (h : SmD x) : Ur (x, n) = some (rdD x n) := by
  have h1 := h.1;have h3 := h.2.2.1;have es : Ba .i64 (Ah x.1) 1 = (x.1.length : Int) - 1 := Ei (by simp only [Ak]; omega) (by simp only [Ak]; omega);have ec : Ba .i64 (Ah x.2.1) 1 = (x.2.1.length : Int) - 1 := Ei (by simp only [Ak]; omega) (by simp only [Ak]; omega);unfold Ur rdD;simp only [es, ec];rw [show Jh (x.1, (x.2.1, (x.2.2.1, x.2.2.2))) = some (Ce x.1 x.2.1 x.2.2.1) from Z9 h, Aa];cases hk : Ce x.1 x.2.1 x.2.2.1 with
  | false => rw [A5, Ad, Zzn (fun h => by rw [hk] at h; cases h.1)]
  | true =>
    obtain ⟨_, d2, d3, d4, d5⟩ := H6 hk;rw [Av, Ac, G1, Aa];by_cases ha : 0 ≤ n ∧ n ≤ (x.1.length : Int) - 1
    case neg => rw [decide_eq_false ha, A5, Ad, Zzn (fun h => ha h.2)]
    rw [decide_eq_true ha, Av, Ac];obtain ⟨k, rfl⟩ := Kob ha.1;have hkl : k < x.1.length := by omega
    have hsk := d4 _ (Kcb hkl);rw [Zzo hk hkl];obtain ⟨r, e1, e2⟩ := M7 (step := Zdt (x, (k : Int))) (fun j (s : Int) => s = ((x.2.1.length - j : Nat) : Int) - 1 ∧ rdL x.2.1 k x.1[k] = rdL (x.2.1.take (x.2.1.length - j)) k x.1[k]) x.2.1.length (fun r => (r = .inl () ∧ rdL x.2.1 k x.1[k] = x.1[k]) ∨ r = .inr (rdL x.2.1 k x.1[k]))
      (fun j s hj hinv => by
        obtain ⟨rfl, hr⟩ := hinv;have hi : x.2.1.length - j - 1 < x.2.1.length := by omega
        have hwl := (d5 _ (Kcb hi)).2.2;have e0 : ((x.2.1.length - j : Nat) : Int) - 1 = ((x.2.1.length - j - 1 : Nat) : Int) := by omega
        unfold Zdt;simp only;rw [e0, Qz (by omega), Ad, Bp hi, Aa, E8];by_cases hw : x.2.1[x.2.1.length - j - 1].1 = (k : Int)
        · rw [decide_eq_true hw, Ad, Aa, L5 (by omega), Aa]
          refine .inr ⟨_, rfl, .inr ?_⟩;have := Ysw (b := x.1[k]) hi hw;rw [show x.2.1.length - j - 1 + 1 = x.2.1.length - j by omega] at this;rw [hr, this]
        · rw [decide_eq_false hw, Ac]
          refine .inl ⟨_, rfl, ?_, ?_⟩
          · rw [Ei (by omega) (by omega)]; omega
          · have := Ysy (b := x.1[k]) hi hw
            rw [show x.2.1.length - j - 1 + 1 = x.2.1.length - j by omega] at this;rw [hr, this, show x.2.1.length - (j + 1) = x.2.1.length - j - 1 by omega])
      (fun s hinv => by
        obtain ⟨rfl, hr⟩ := hinv;refine ⟨.inl (), ?_, .inl ⟨rfl, ?_⟩⟩
        · unfold Zdt
          simp only;rw [Oo (by omega), Ac]
        · rw [hr, Kse]; rfl)
      ((x.2.1.length : Int) - 1) ⟨by simp, by simp⟩
    rw [e1];rcases e2 with ⟨rfl, e2⟩ | rfl
    · rw [Ar, Bp hkl, Aa, L5 (by omega), Aa, e2]
    rfl
def nwD (n:Int):Dv:=if 1<=n/\n<=64 then (List.replicate n.toNat [],[],-1,false) else ([],[],0,false)
theorem Ytw {n:Int}:Zc1 n=some (nwD n):=by
 unfold Zc1 nwD;rw[E4,Aa];by_cases h:1<=n/\n<=64
 case neg=>rw[decide_eq_false h,A5,Ad,if_neg h]
 rw[decide_eq_true h,Av,Ac,if_pos h];obtain⟨k,rfl⟩:=Kob (show 0<=n by omega);rw[show Aw (Zd2 (k:Int)) ([],0)=some (.inl (List.replicate k [])) from I3 (fun i=>(List.replicate i [],(i:Int))) k _ (fun i hi=>by
  unfold Zd2;simp only;rw[A3 (by omega),Ad,Bj (by simp;omega),Az,C4 (by omega)];rw[show Al (List.replicate i ([]:List UInt8)) [[]]=List.replicate (i+1) [] from by rw[Al,List.replicate_succ']]) (by
  unfold Zd2;simp only;rw[A6 (by omega),Ac]) ([],0) rfl,Ar]
 rfl
end
end Go.Vs
