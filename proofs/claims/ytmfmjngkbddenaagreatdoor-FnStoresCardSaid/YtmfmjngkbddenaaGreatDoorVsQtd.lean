import Derived.Test.YtmfmjngkbddenaaGreatDoorVsW5
import Derived.Test.YtmfmjngkbddenaaGreatDoorVsQtc
set_option linter.all false
namespace Go.Vs
noncomputable section
theorem Zrs {α σ ρ:Type}{step:σ->Option (σ ⊕ ρ)}(st:Nat->σ) (x:List α) (p:α->Bool) (no yes:ρ)
  (hs:∀(i:Nat) (h:i<x.length),step (st i)=if p x[i]=true then some (.inl (st (i+1))) else some (.inr no)) (he:step (st x.length)=some (.inr yes)) (s0:σ) (h0:s0=st 0) :
  Aw step s0=some (if x.all p=true then yes else no):=by
 rw[Zl0 (step:=step) st x (fun a=>!p a) (fun _=>no) yes (fun i hi=>by
  rw[hs i hi];cases p x[i]<;>rfl) he s0 h0]
 cases hq:x.findIdx? (fun a=>!p a) with
 | none =>
  rw[Kag]at hq;rw[if_pos (Kna.2 fun a ha=>by simpa using hq a ha)]
 | some i =>
  rw[Kzf]at hq;obtain⟨h1,h2,_⟩:=hq;rw[if_neg (fun h=>by
   have:=Kna.1 h _ (Kcb h1);rw[this]at h2;cases h2)]
theorem Ypt {ρ:Type}(c:Prop) [Decidable c] (r:ρ) (k:Unit->Option ρ):Ao (some (if c then (Sum.inl ():Unit ⊕ ρ) else .inr r)) k=if c then k () else some r:=by
 split<;>rfl
def Zbf (b:List UInt8):Bool:=decide (b.length<=120)
def wrB (m:Int) (w:Wr):Bool:=decide (0<=w.1/\w.1<=m)&&decide (w.2.length<=120)
theorem Yfw (secs:List (List UInt8)) (cache:List Wr) (fuse:Int):Cj secs cache fuse=(decide (1<=(secs.length:Int)/\(secs.length:Int)<=64)&&decide ((cache.length:Int)<=40)&&decide (-1<=fuse/\fuse<=1000)&&secs.all Zbf&&cache.all (wrB ((secs.length:Int)-1))):=by
 rw[Kdc];simp only[Cj,Kd,decide_eq_true_eq,Kna,Zbf,wrB];constructor
 ·rintro ⟨a,b,c,d,e⟩;exact⟨⟨⟨⟨⟨by omega,by omega⟩,by omega⟩,c⟩,d⟩,fun w hw=>⟨⟨(e w hw).1,(e w hw).2.1⟩,(e w hw).2.2⟩⟩
 ·rintro ⟨⟨⟨⟨a,b⟩,c⟩,d⟩,e⟩;exact⟨⟨by omega,by omega⟩,by omega,c,d,fun w hw=>⟨(e w hw).1.1,(e w hw).1.2,(e w hw).2⟩⟩
theorem Zy {x:Dv}(h:SmD x):Jf x=some (Cj x.1 x.2.1 x.2.2.1):=by
 obtain⟨secs,cache,fuse,down⟩:=x;obtain⟨h1,h2,h3,h4⟩:=h;simp only at h1 h2 h3 h4;have es:A9 .i64 (Ah secs) 1=(secs.length:Int)-1:=Eh (by simp only[Ak];omega) (by simp only[Ak];omega);unfold Jf;simp only[Ak];rw[Gz,Aa,Yfw];by_cases ha:1<=(secs.length:Int)/\(secs.length:Int)<=64
 case neg=>rw[decide_eq_false ha,A3,Ad];simp
 rw[decide_eq_true ha,Au,Ac];by_cases hb:(cache.length:Int)<=40
 case neg=>rw[Dl (by omega),Ad,decide_eq_false hb];simp
 rw[D7 hb,Ac,decide_eq_true hb,Gz,Aa];by_cases hc:-1<=fuse/\fuse<=1000
 case neg=>rw[decide_eq_false hc,A3,Ad];simp
 rw[decide_eq_true hc,Au,Ac];rw[Zrs (step:=Zdf (secs,(cache,(fuse,down)))) (fun i=>(i:Int)) secs Zbf (.inr false) (.inl ()) (fun i hi=>by
  unfold Zdf;simp only;rw[A5 (by simp only[Ak];omega),Ad,Br hi,Aa,Cz (by omega)];unfold Zbf;by_cases hb:secs[i].length<=120
  ·rw[D7 (by simp only[Ak];omega),Ac,decide_eq_true hb,if_pos (by simp)]
  ·rw[Dl (by simp only[Ak];omega),Ad,decide_eq_false hb,if_neg (by simp)]) (by
  unfold Zdf;simp only;rw[A6 (by simp only[Ak];omega),Ac]) (0:Int) rfl,Ypt]
 split
 case isFalse hn =>
  have:secs.all Zbf=false:=by simpa using hn
  rw[this];simp
 rename_i hy;rw[Zrs (step:=Zdg (secs,(cache,(fuse,down)))) (fun i=>(i:Int)) cache (wrB ((secs.length:Int)-1)) false true (fun i hi=>by
  unfold Zdg;simp only;rw[A5 (by simp only[Ak];omega),Ad,Br hi,Aa,es,Gz,Aa,Cz (by omega)];unfold wrB;by_cases ha:0<=cache[i].1/\cache[i].1<=(secs.length:Int)-1
  ·rw[decide_eq_true ha,Au,Ac];by_cases hb:cache[i].2.length<=120
   ·rw[D7 (by simp only[Ak];omega),Ac,decide_eq_true hb,if_pos (by simp)]
   ·rw[Dl (by simp only[Ak];omega),Ad,decide_eq_false hb,if_neg (by simp)]
  ·rw[decide_eq_false ha,A3,Ad,if_neg (by simp)]) (by
  unfold Zdg;simp only;rw[A6 (by simp only[Ak];omega),Ac]) (0:Int) rfl,hy]
 cases cache.all (wrB ((secs.length:Int)-1))<;>simp
theorem Vz {x:Dv}(h:SmD x):J0 x=some x:=by
 obtain⟨secs,cache,fuse,down⟩:=x;obtain⟨h1,h2,h3,h4⟩:=h;simp only at h1 h2 h3 h4;unfold J0;simp only;rw[R4 (step:=Zdo (secs,(cache,(fuse,down)))) (x:=secs) (f:=fun b=>b) (l0:=[]) (fun l i hi hl=>by
  have:=h2 _ (Kcb hi);simp only[Ki,Kr]at hl;unfold Zdo;simp only;rw[A5 (by simp only[Ak];omega),Ad,Br hi,Aa,L4 (by omega),Aa,Bi (by omega),Az,Cz (by omega)];rfl) (fun l=>by
  unfold Zdo;simp only;rw[A6 (by simp only[Ak];omega),Ac]),Ar]
 rw[R4 (step:=Zdp (secs,(cache,(fuse,down)))) (x:=cache) (f:=fun b=>b) (l0:=[]) (fun l i hi hl=>by
  have:=h4 _ (Kcb hi);simp only[Ki,Kr]at hl;unfold Zdp;simp only;rw[A5 (by simp only[Ak];omega),Ad,Br hi,Aa,L4 (by omega),Aa,Bi (by omega),Az,Cz (by omega)];rfl) (fun l=>by
  unfold Zdp;simp only;rw[A6 (by simp only[Ak];omega),Ac]),Ar]
 simp
def wrD (x:Dv) (n:Int) (b:List UInt8):Dv:=(x.1,Zir x.1 x.2.1 x.2.2.1 x.2.2.2 n b)
def dOk (x:Dv):Bool:=Cj x.1 x.2.1 x.2.2.1
def flD (x:Dv):Dv:=Zfp x.1 x.2.1 x.2.2.1 x.2.2.2
theorem Ytn {secs:List (List UInt8)}{cache:List Wr}{fuse:Int}{down:Bool}(hf:-1<=fuse/\fuse<=1000):Ut (secs,(cache,(fuse,down)))=some (opR fuse,(opF fuse,opD fuse down)):=by
 unfold Ut opR opF opD;simp only[E9];by_cases h0:fuse=0
 ·subst h0;rfl
 rw[decide_eq_false h0,Ac,if_neg h0,if_neg h0,show (fuse==0)=false by simp [h0]];by_cases h1:0<fuse
 ·rw[Dl h1,Ad,if_pos h1,Eh (by omega) (by omega)];rfl
 ·rw[D7 (by omega),Ac,if_neg h1];rfl
theorem Zwn {x:Dv}(hf:-1<=x.2.2.1/\x.2.2.1<=1000):Xw x=some ((x.1,x.2.1,opF x.2.2.1,opD x.2.2.1 x.2.2.2),opR x.2.2.1):=by
 obtain⟨secs,cache,fuse,down⟩:=x;simp only at hf;unfold Xw opR opF opD;simp only[E9];by_cases h0:fuse=0
 ·subst h0;rfl
 rw[decide_eq_false h0,Ac,if_neg h0,if_neg h0,show (fuse==0)=false by simp [h0]];by_cases h1:0<fuse
 ·rw[Dl h1,Ad,if_pos h1,Ar,Eh (by omega) (by omega)];rfl
 ·rw[D7 (by omega),Ac,if_neg h1,Ar];rfl
theorem Yty {x:Dv}{n:Int}{b:List UInt8}(h:SmD x) (hf:-1<=x.2.2.1/\x.2.2.1<=1000) (hb:b.length<=1048576):Mn (x,(n,b))=some (wrC x.1 x.2.1 x.2.2.1 x.2.2.2 n b):=by
 obtain⟨secs,cache,fuse,down⟩:=x;obtain⟨h1,h2,h3,h4⟩:=h;simp only at h1 h2 h3 h4 hf;have es:A9 .i64 (Ah secs) 1=(secs.length:Int)-1:=Eh (by simp only[Ak];omega) (by simp only[Ak];omega);unfold Mn;simp only[es];cases down with
 | true=>rw[Ad,Rl (.inl rfl)]
 | false =>
 rw[Ac,E5,Aa];by_cases ha:0<=n/\n<=(secs.length:Int)-1
 case neg=>rw[decide_eq_false ha,A3,Ad,Rl (.inr (.inl ha))]
 rw[decide_eq_true ha,Au,Ac];by_cases hc:b.length<=120
 case neg=>rw[Dl (by simp only[Ak];omega),Ad,Rl (.inr (.inr (.inl (by omega))))]
 rw[D7 (by simp only[Ak];omega),Ac];by_cases hd:cache.length<40
 case neg=>rw[Qu (by simp only[Ak];omega),Ad,Rl (.inr (.inr (.inr (by omega))))]
 rw[Ol (by simp only[Ak];omega),Ac,Ytn hf,Aa];have hno:¬(false=true\/¬(0<=n/\n<=(secs.length:Int)-1)\/120<b.length\/40<=cache.length):=by
  rintro (h|h|h|h)
  ·cases h
  ·exact h ha
  ·omega
  ·omega
 by_cases h0:fuse=0
 ·obtain⟨e1,e2,e3⟩:=Zgv (down:=false) h0;simp only[e1,e2,e3,A3,Ad];rw[Ydg hno h0]
 ·obtain⟨e2,e3⟩:=Zgu (down:=false) h0;simp only[e2,e3,Au,Ac];rw[Bi (by omega),Az,Bi (by omega),Az,Zb9 hno h0];rfl
theorem Zkz {x:Dv}(h:dOk x=true):SmD x:=by
 obtain⟨⟨a,b⟩,c,d,e,f⟩:=Ms h;exact⟨by omega,fun b hb=>by have:=e b hb;omega,by omega,fun w hw=>by have:=(f w hw).2.2;omega⟩
theorem Ypa {x:Dv}{n:Int}{b:List UInt8}(h:SmD x) (hb:b.length<=1048576):Jh (x,(n,b))=some (wrD x n b):=by
 have h1:=h.1;have h3:=h.2.2.1;have es:A9 .i64 (Ah x.1) 1=(x.1.length:Int)-1:=Eh (by simp only[Ak];omega) (by simp only[Ak];omega);unfold Jh wrD;simp only[es];rw[show J0 (x.1,(x.2.1,(x.2.2.1,x.2.2.2)))=some x from Vz h,Aa,show Jf (x.1,(x.2.1,(x.2.2.1,x.2.2.2)))=some (Cj x.1 x.2.1 x.2.2.1) from Zy h,Aa];cases hk:Cj x.1 x.2.1 x.2.2.1 with
 | false=>rw[A3,Ad,Yxh hk]
 | true =>
  obtain⟨_,d2,d3,_,_⟩:=Ms hk;rw[Au,Ac,Ydh hk];cases hdn:x.2.2.2 with
  | true=>rw[Ad,Rl (.inl rfl)]
  | false =>
  rw[Ac,Gz,Aa];by_cases ha:0<=n/\n<=(x.1.length:Int)-1
  case neg=>rw[decide_eq_false ha,A3,Ad,Rl (.inr (.inl ha))]
  rw[decide_eq_true ha,Au,Ac];by_cases hc:b.length<=120
  case neg=>rw[Dl (by simp only[Ak];omega),Ad,Rl (.inr (.inr (.inl (by omega))))]
  rw[D7 (by simp only[Ak];omega),Ac,E9];by_cases hd:x.2.1.length=40
  ·rw[decide_eq_true (by simp only[Ak];omega),Ad,Rl (.inr (.inr (.inr (by omega))))]
  rw[decide_eq_false (by simp only[Ak];omega),Ac];have hno:¬(false=true\/¬(0<=n/\n<=(x.1.length:Int)-1)\/120<b.length\/40<=x.2.1.length):=by
   rintro (h|h|h|h)
   ·cases h
   ·exact h ha
   ·omega
   ·omega
  have eb:=Zwn (x:=(x.1,(x.2.1,(x.2.2.1,false)))) d3;rw[eb,Aa];simp only;by_cases h0:x.2.2.1=0
  ·obtain⟨e1,e2,e3⟩:=Zgv (down:=false) h0;simp only[e1,e2,e3,Ac,Ar];rw[Ydg hno h0]
  ·obtain⟨e2,e3⟩:=Zgu (down:=false) h0;simp only[e2,e3,Ad];rw[L4 (by omega),Aa,Bi (by omega),Az,Ar,Zb9 hno h0];rfl
theorem Ytj {x:Dv}(h:SmD x) (hf:-1<=x.2.2.1/\x.2.2.1<=1000) (hc:∀w∈x.2.1,0<=w.1/\w.1<=(x.1.length:Int)-1):Lq x=some (flC x.1 x.2.1 x.2.2.1 x.2.2.2):=by
 unfold Lq;have h1:=h.1;have h3:=h.2.2.1;rw[decide_eq_true (by exact⟨hf,by omega,by omega,hc⟩),Az]
theorem Yov {x:Dv}(h:SmD x):Lm x=some (flD x):=by
 have h3:=h.2.2.1;unfold Lm flD;rw[show J0 (x.1,(x.2.1,(x.2.2.1,x.2.2.2)))=some x from Vz h,Aa,show Jf (x.1,(x.2.1,(x.2.2.1,x.2.2.2)))=some (Cj x.1 x.2.1 x.2.2.1) from Zy h,Aa];cases hk:Cj x.1 x.2.1 x.2.2.1 with
 | false=>rw[A3,Ad,Yjj hk]
 | true =>
  obtain⟨_,d2,d3,d4,d5⟩:=Ms hk;rw[Au,Ac,Zu7 hk];cases hdn:x.2.2.2 with
  | true=>rw[Ad,Zu4 rfl]
  | false =>
  rw[Ac];have eb:=Zwn (x:=(x.1,(x.2.1,(x.2.2.1,false)))) d3;rw[eb,Aa];simp only;by_cases h0:x.2.2.1=0
  ·obtain⟨e1,e2,e3⟩:=Zgv (down:=false) h0;simp only[e1,e2,e3,A3,Ad];rw[h0,Zu6 rfl]
  ·obtain⟨e2,e3⟩:=Zgu (down:=false) h0;simp only[e2,e3,Au,Ac];rw[show Aw (Zdi ((x.1,(x.2.1,(opF x.2.2.1,false))),true)) (x.1,0)=some (.inl (flL x.1 x.2.1)) from I0 (fun i=>(flL x.1 (x.2.1.take i),(i:Int))) x.2.1.length _ (fun i hi=>by
    obtain⟨g1,g2,g3⟩:=d5 _ (Kcb hi);obtain⟨k,hk⟩:=Kpb g1;have hkl:k<(flL x.1 (x.2.1.take i)).length:=by rw[Zp];omega
    unfold Zdi;simp only;rw[A5 (by simp only[Ak];omega),Ad,Br hi,Aa,L4 (by omega),Aa,hk,Br (i:=k) hkl,Aa,Cz (by omega),Zva hi hk];rfl) (by
    unfold Zdi;simp only;rw[A6 (by simp only[Ak];omega),Ac,Kjc]) (x.1,0) rfl,Ar,Vn h0]
theorem Zc {x:Dv}(h1:1<=x.1.length/\x.1.length<=64) (h2:x.2.1.length<=40) (h3:-1<=x.2.2.1/\x.2.2.1<=1000) (h4:∀b∈x.1,b.length<=120) (h5:∀w∈x.2.1,0<=w.1/\w.1<=(x.1.length:Int)-1/\w.2.length<=120):dOk x=true:=by
 unfold dOk Cj;exact decide_eq_true ⟨h1,h2,h3,h4,h5⟩
def Zmb (g n:Int):List UInt8:=(Bg g++Bg n)++Bg (crc (Bg g++Bg n))
def K2 (g n:Int):Bool:=decide (1<=g/\g<=60000)&&decide (0<=n/\n<=30)
def Eo (g n:Int):List UInt8:=if K2 g n=true then Zmb g n else []
theorem Ytm {g n:Int}:Zcx (g,n)=some (Eo g n):=by
 unfold Zcx Eo K2;simp only[E5,Aa];by_cases h1:1<=g/\g<=60000
 case neg=>rw[decide_eq_false h1,A3,Ad];rfl
 rw[decide_eq_true h1,Au,Ac];by_cases h2:0<=n/\n<=30
 case neg=>rw[decide_eq_false h2,A3,Ad];rfl
 rw[decide_eq_true h2,Au,Ac];have hc:=Ob (Bg g++Bg n);rw[Ts (by simp) (by omega) (by omega),Aa,Ts (by simp [Bg]) (by omega) (by omega),Aa];simp only[Kl];rw[Yap (by simp [Bg]),Aa,Ts (by simp [Bg]) (by omega) (by omega)];rfl
theorem Yo1 {g n:Int}:Xs (g,n)=some (Eo g n):=by
 unfold Xs Eo K2;simp only[Gz,Aa];by_cases h1:1<=g/\g<=60000
 case neg=>rw[decide_eq_false h1,A3,Ad];rfl
 rw[decide_eq_true h1,Au,Ac];by_cases h2:0<=n/\n<=30
 case neg=>rw[decide_eq_false h2,A3,Ad];rfl
 rw[decide_eq_true h2,Au,Ac];have hc:=Ob (Bg g++Bg n);rw[Sx (by simp) (by omega) (by omega),Aa,Sx (by simp [Bg]) (by omega) (by omega),Aa];simp only[Kl];rw[Z0 (by simp [Bg]),Aa,Sx (by simp [Bg]) (by omega) (by omega)];rfl
theorem Zvv {g n:Int}:(Eo g n).length=if K2 g n=true then 6 else 0:=by
 unfold Eo;split<;>rfl
def faD (x:Dv) (n:Int):Dv:=Zfi x.1 x.2.1 x.2.2.1 x.2.2.2 n
def rdD (x:Dv) (n:Int):List UInt8:=Wo x.1 x.2.1 x.2.2.1 n
theorem Zwh {x:Dv}{n:Int}(h:SmD x):Xo (x,n)=some (faD x n):=by
 have h3:=h.2.2.1;unfold Xo faD;simp only;rw[show J0 (x.1,(x.2.1,(x.2.2.1,x.2.2.2)))=some x from Vz h,Aa,show Jf (x.1,(x.2.1,(x.2.2.1,x.2.2.2)))=some (Cj x.1 x.2.1 x.2.2.1) from Zy h,Aa];cases hk:Cj x.1 x.2.1 x.2.2.1 with
 | false=>rw[A3,Ad,Yjc hk]
 | true =>
  obtain⟨_,d2,d3,d4,d5⟩:=Ms hk;rw[Au,Ac,Zut hk,Gz,Aa];have ej:Ao (cnd (Ag (decide (0<=n/\n<=1073741823))) (some (.inl 0)) (some (.inl n)):Option (Int ⊕ Dv))=fun f=>f (faN n):=by
   funext f;unfold faN;by_cases hq:0<=n/\n<=1073741823
   ·rw[decide_eq_true hq,Au,Ac,Ar,if_pos hq]
   ·rw[decide_eq_false hq,A3,Ad,Ar,if_neg hq]
  rw[ej];simp only;have hb:=Yje n;generalize faN n=m at hb ⊢;rw[show Aw (Zdh x m) (x.1,0)=some (.inl (faL m 0 x.1 x.2.1)) from I0 (fun i=>(faL m 0 x.1 (x.2.1.take i),(i:Int))) x.2.1.length _ (fun i hi=>by
   obtain⟨g1,g2,g3⟩:=d5 _ (Kcb hi);obtain⟨k,hk⟩:=Kpb g1;have hkl:k<(faL m 0 x.1 (x.2.1.take i)).length:=by rw[Zuv];omega
   unfold Zdh;simp only;rw[A5 (by simp only[Ak];omega),Ad,Br hi,Aa,Yjd hi hk];by_cases h30:i<30
   ·have e1:Aq .i64 (Bh .i64 m (i:Int)) 1=((m.toNat / 2^i%2:Nat):Int):=by
     have:=Yer hb i;unfold Aq Bh;rw[Knb,Kmd (by show i<=64;omega)];exact this
    rw[A5 (by omega),Ad,Gy (by omega),Az,e1,E9];by_cases hbit:((m.toNat / 2^i%2:Nat):Int)=1
    ·rw[decide_eq_true hbit,Ad,L4 (by omega),Aa,hk,Br (i:=k) hkl,Aa,Ar,Cz (by omega),Ypv h30 hbit];rfl
    ·rw[decide_eq_false hbit,Ac,Ar,Cz (by omega),Zwz (fun h=>hbit h.2)];rfl
   ·rw[A6 (by omega),Ac,Ar,Cz (by omega),Zwz (fun h=>h30 h.1)];rfl) (by
   unfold Zdh;simp only;rw[A6 (by simp only[Ak];omega),Ac,Kjc]) (x.1,0) rfl,Ar]
theorem Zwl {x : Dv} {n : Int} (h : SmD x) : Uh (x, n) = some (rdD x n) := by
  have h1 := h.1;have h3 := h.2.2.1;have es : A9 .i64 (Ah x.1) 1 = (x.1.length : Int) - 1 := Eh (by simp only [Ak]; omega) (by simp only [Ak]; omega);have ec : A9 .i64 (Ah x.2.1) 1 = (x.2.1.length : Int) - 1 := Eh (by simp only [Ak]; omega) (by simp only [Ak]; omega);unfold Uh rdD;simp only [es, ec];rw [show Jf (x.1, (x.2.1, (x.2.2.1, x.2.2.2))) = some (Cj x.1 x.2.1 x.2.2.1) from Zy h, Aa];cases hk : Cj x.1 x.2.1 x.2.2.1 with
  | false => rw [A3, Ad, Zy8 (fun h => by rw [hk] at h; cases h.1)]
  | true =>
    obtain ⟨_, d2, d3, d4, d5⟩ := Ms hk;rw [Au, Ac, Gz, Aa];by_cases ha : 0 ≤ n ∧ n ≤ (x.1.length : Int) - 1
    case neg => rw [decide_eq_false ha, A3, Ad, Zy8 (fun h => ha h.2)]
    rw [decide_eq_true ha, Au, Ac];obtain ⟨k, rfl⟩ := Kpb ha.1;have hkl : k < x.1.length := by omega
    have hsk := d4 _ (Kcb hkl);rw [Zy9 hk hkl];obtain ⟨r, e1, e2⟩ := M5 (step := Zdk (x, (k : Int))) (fun j (s : Int) => s = ((x.2.1.length - j : Nat) : Int) - 1 ∧ rdL x.2.1 k x.1[k] = rdL (x.2.1.take (x.2.1.length - j)) k x.1[k]) x.2.1.length (fun r => (r = .inl () ∧ rdL x.2.1 k x.1[k] = x.1[k]) ∨ r = .inr (rdL x.2.1 k x.1[k]))
      (fun j s hj hinv => by
        obtain ⟨rfl, hr⟩ := hinv;have hi : x.2.1.length - j - 1 < x.2.1.length := by omega
        have hwl := (d5 _ (Kcb hi)).2.2;have e0 : ((x.2.1.length - j : Nat) : Int) - 1 = ((x.2.1.length - j - 1 : Nat) : Int) := by omega
        unfold Zdk;simp only;rw [e0, Qu (by omega), Ad, Br hi, Aa, E9];by_cases hw : x.2.1[x.2.1.length - j - 1].1 = (k : Int)
        · rw [decide_eq_true hw, Ad, Aa, L4 (by omega), Aa]
          refine .inr ⟨_, rfl, .inr ?_⟩;have := Ysf (b := x.1[k]) hi hw;rw [show x.2.1.length - j - 1 + 1 = x.2.1.length - j by omega] at this;rw [hr, this]
        · rw [decide_eq_false hw, Ac]
          refine .inl ⟨_, rfl, ?_, ?_⟩
          · rw [Eh (by omega) (by omega)]; omega
          · have := Ysh (b := x.1[k]) hi hw
            rw [show x.2.1.length - j - 1 + 1 = x.2.1.length - j by omega] at this;rw [hr, this, show x.2.1.length - (j + 1) = x.2.1.length - j - 1 by omega])
      (fun s hinv => by
        obtain ⟨rfl, hr⟩ := hinv;refine ⟨.inl (), ?_, .inl ⟨rfl, ?_⟩⟩
        · unfold Zdk
          simp only;rw [Ol (by omega), Ac]
        · rw [hr, Kre]; rfl)
      ((x.2.1.length : Int) - 1) ⟨by simp, by simp⟩
    rw [e1];rcases e2 with ⟨rfl, e2⟩ | rfl
    · rw [Ar, Br hkl, Aa, L4 (by omega), Aa, e2]
    · rfl
def nwD (n:Int):Dv:=if 1<=n/\n<=64 then (List.replicate n.toNat [],[],-1,false) else ([],[],0,false)
theorem Ytf {n:Int}:Zcs n=some (nwD n):=by
 unfold Zcs nwD;rw[E5,Aa];by_cases h:1<=n/\n<=64
 case neg=>rw[decide_eq_false h,A3,Ad,if_neg h]
 rw[decide_eq_true h,Au,Ac,if_pos h];obtain⟨k,rfl⟩:=Kpb (show 0<=n by omega);rw[show Aw (Zdt (k:Int)) ([],0)=some (.inl (List.replicate k [])) from I0 (fun i=>(List.replicate i [],(i:Int))) k _ (fun i hi=>by
  unfold Zdt;simp only;rw[A5 (by omega),Ad,Bi (by simp;omega),Az,Cz (by omega)];rw[show Al (List.replicate i ([]:List UInt8)) [[]]=List.replicate (i+1) [] from by rw[Al,List.replicate_succ']]) (by
  unfold Zdt;simp only;rw[A6 (by omega),Ac]) ([],0) rfl,Ar]
 rfl
end
end Go.Vs
