import Derived.Test.YtmfmjngkbddenaaGreatDoorVsW5
import Derived.Test.YtmfmjngkbddenaaGreatDoorVsQo6
set_option linter.all false
namespace Go.Vs
noncomputable section
theorem Zdo {α σ ρ:Type}{step:σ->Option (σ ⊕ ρ)}(st:Nat->σ) (x:List α) (p:α->Bool) (no yes:ρ)
  (hs:∀(i:Nat) (h:i<x.length),step (st i)=if p x[i]=true then some (.inl (st (i+1))) else some (.inr no)) (he:step (st x.length)=some (.inr yes)) (s0:σ) (h0:s0=st 0) :
  Ar step s0=some (if x.all p=true then yes else no):=by
 rw[Zlo (step:=step) st x (fun a=>!p a) (fun _=>no) yes (fun i hi=>by
  rw[hs i hi];cases p x[i]<;>rfl) he s0 h0]
 cases hq:x.findIdx? (fun a=>!p a) with
 | none =>
  rw[Kuf]at hq;rw[if_pos (Kua.2 fun a ha=>by simpa using hq a ha)]
 | some i =>
  rw[Ktf]at hq;obtain⟨h1,h2,_⟩:=hq;rw[if_neg (fun h=>by
   have:=Kua.1 h _ (Kcb h1);rw[this]at h2;cases h2)]
theorem Zmq {ρ:Type}(c:Prop) [Decidable c] (r:ρ) (k:Unit->Option ρ):Ao (some (if c then (Sum.inl ():Unit ⊕ ρ) else .inr r)) k=if c then k () else some r:=by
 split<;>rfl
def Qy (b:List UInt8):Bool:=decide (b.length<=120)
def wrB (m:Int) (w:Wr):Bool:=decide (0<=w.1/\w.1<=m)&&decide (w.2.length<=120)
theorem Zso (secs:List (List UInt8)) (cache:List Wr) (fuse:Int):C2 secs cache fuse=(decide (1<=(secs.length:Int)/\(secs.length:Int)<=64)&&decide ((cache.length:Int)<=40)&&decide (-1<=fuse/\fuse<=1000)&&secs.all Qy&&cache.all (wrB ((secs.length:Int)-1))):=by
 rw[Ktc];simp only[C2,Kd,decide_eq_true_eq,Kua,Qy,wrB];constructor
 ·rintro ⟨a,b,c,d,e⟩;exact⟨⟨⟨⟨⟨by omega,by omega⟩,by omega⟩,c⟩,d⟩,fun w hw=>⟨⟨(e w hw).1,(e w hw).2.1⟩,(e w hw).2.2⟩⟩
 ·rintro ⟨⟨⟨⟨a,b⟩,c⟩,d⟩,e⟩;exact⟨⟨by omega,by omega⟩,by omega,c,d,fun w hw=>⟨(e w hw).1.1,(e w hw).1.2,(e w hw).2⟩⟩
theorem Zfk {x:Dv}(h:SmD x):K2 x=some (C2 x.1 x.2.1 x.2.2.1):=by
 obtain⟨secs,cache,fuse,down⟩:=x;obtain⟨h1,h2,h3,h4⟩:=h;simp only at h1 h2 h3 h4;have es:A1 .i64 (Ae secs) 1=(secs.length:Int)-1:=D3 (by simp only[Ai];omega) (by simp only[Ai];omega);unfold K2;simp only[Ai];rw[G9,Aa,Zso];by_cases ha:1<=(secs.length:Int)/\(secs.length:Int)<=64
 case neg=>rw[decide_eq_false ha,Bd,Ad];simp
 rw[decide_eq_true ha,Az,Ac];by_cases hb:(cache.length:Int)<=40
 case neg=>rw[Df (by omega),Ad,decide_eq_false hb];simp
 rw[Dx hb,Ac,decide_eq_true hb,G9,Aa];by_cases hc:-1<=fuse/\fuse<=1000
 case neg=>rw[decide_eq_false hc,Bd,Ad];simp
 rw[decide_eq_true hc,Az,Ac];rw[Zdo (step:=Zcy (secs,(cache,(fuse,down)))) (fun i=>(i:Int)) secs Qy (.inr false) (.inl ()) (fun i hi=>by
  unfold Zcy;simp only;rw[A5 (by simp only[Ai];omega),Ad,Bp hi,Aa,Cw (by omega)];unfold Qy;by_cases hb:secs[i].length<=120
  ·rw[Dx (by simp only[Ai];omega),Ac,decide_eq_true hb,if_pos (by simp)]
  ·rw[Df (by simp only[Ai];omega),Ad,decide_eq_false hb,if_neg (by simp)]) (by
  unfold Zcy;simp only;rw[A3 (by simp only[Ai];omega),Ac]) (0:Int) rfl,Zmq]
 split
 case isFalse hn =>
  have:secs.all Qy=false:=by simpa using hn
  rw[this];simp
 rename_i hy;rw[Zdo (step:=Zcz (secs,(cache,(fuse,down)))) (fun i=>(i:Int)) cache (wrB ((secs.length:Int)-1)) false true (fun i hi=>by
  unfold Zcz;simp only;rw[A5 (by simp only[Ai];omega),Ad,Bp hi,Aa,es,G9,Aa,Cw (by omega)];unfold wrB;by_cases ha:0<=cache[i].1/\cache[i].1<=(secs.length:Int)-1
  ·rw[decide_eq_true ha,Az,Ac];by_cases hb:cache[i].2.length<=120
   ·rw[Dx (by simp only[Ai];omega),Ac,decide_eq_true hb,if_pos (by simp)]
   ·rw[Df (by simp only[Ai];omega),Ad,decide_eq_false hb,if_neg (by simp)]
  ·rw[decide_eq_false ha,Bd,Ad,if_neg (by simp)]) (by
  unfold Zcz;simp only;rw[A3 (by simp only[Ai];omega),Ac]) (0:Int) rfl,hy]
 cases cache.all (wrB ((secs.length:Int)-1))<;>simp
theorem Zzk {x:Dv}(h:SmD x):T7 x=some (C2 x.1 x.2.1 x.2.2.1):=by
 obtain⟨secs,cache,fuse,down⟩:=x;obtain⟨h1,h2,h3,h4⟩:=h;simp only at h1 h2 h3 h4;have es:A1 .i64 (Ae secs) 1=(secs.length:Int)-1:=D3 (by simp only[Ai];omega) (by simp only[Ai];omega);unfold T7;simp only;rw[Zdo (step:=Zde (secs,(cache,(fuse,down)))) (fun i=>(i:Int)) secs Qy (.inr false) (.inl ()) (fun i hi=>by
  unfold Zde;simp only;rw[A5 (by simp only[Ai];omega),Ad,Bp hi,Aa,Cw (by omega)];unfold Qy;by_cases hb:secs[i].length<=120
  ·rw[Dx (by simp only[Ai];omega),Ac,decide_eq_true hb,if_pos (by simp)]
  ·rw[Df (by simp only[Ai];omega),Ad,decide_eq_false hb,if_neg (by simp)]) (by
  unfold Zde;simp only;rw[A3 (by simp only[Ai];omega),Ac]) (0:Int) rfl,Zmq]
 rw[Zso];split
 case isFalse hn =>
  have:secs.all Qy=false:=by simpa using hn
  rw[this];simp
 rename_i hy;rw[Zdo (step:=Zdf (secs,(cache,(fuse,down)))) (fun i=>(i:Int)) cache (wrB ((secs.length:Int)-1)) (.inr false) (.inl ()) (fun i hi=>by
  unfold Zdf;simp only;rw[A5 (by simp only[Ai];omega),Ad,Bp hi,Aa,es,D0,Aa,Aa,Cw (by omega)];unfold wrB;by_cases ha:0<=cache[i].1/\cache[i].1<=(secs.length:Int)-1
  ·rw[decide_eq_true ha,Az,Ac];by_cases hb:cache[i].2.length<=120
   ·rw[Dx (by simp only[Ai];omega),Ac,decide_eq_true hb,if_pos (by simp)]
   ·rw[Df (by simp only[Ai];omega),Ad,decide_eq_false hb,if_neg (by simp)]
  ·rw[decide_eq_false ha,Bd,Ad,if_neg (by simp)]) (by
  unfold Zdf;simp only;rw[A3 (by simp only[Ai];omega),Ac]) (0:Int) rfl,Zmq]
 split
 case isFalse hn =>
  have:cache.all (wrB ((secs.length:Int)-1))=false:=by simpa using hn
  rw[this];simp
 rename_i hz;simp only[Ai];rw[D0,Aa,hy,hz];simp only[Kde];by_cases ha:1<=(secs.length:Int)/\(secs.length:Int)<=64
 case neg=>rw[decide_eq_false ha,Ac];simp
 rw[decide_eq_true ha,Ad];by_cases hb:(cache.length:Int)<=40
 case neg=>rw[Jp (by omega),Ac,decide_eq_false hb];simp
 rw[G8 hb,Ad,D0,Aa,decide_eq_true hb];simp
theorem Zfj {x:Dv}(h:SmD x):L0 x=some x:=by
 obtain⟨secs,cache,fuse,down⟩:=x;obtain⟨h1,h2,h3,h4⟩:=h;simp only at h1 h2 h3 h4;unfold L0;simp only;rw[Nq (step:=Zc6 (secs,(cache,(fuse,down)))) (x:=secs) (f:=fun b=>b) (l0:=[]) (fun l i hi hl=>by
  have:=h2 _ (Kcb hi);simp only[Ki,Km]at hl;unfold Zc6;simp only;rw[A5 (by simp only[Ai];omega),Ad,Bp hi,Aa,Mg (by omega),Aa,Bq (by omega),Av,Cw (by omega)];rfl) (fun l=>by
  unfold Zc6;simp only;rw[A3 (by simp only[Ai];omega),Ac]),Ax]
 rw[Nq (step:=Zc7 (secs,(cache,(fuse,down)))) (x:=cache) (f:=fun b=>b) (l0:=[]) (fun l i hi hl=>by
  have:=h4 _ (Kcb hi);simp only[Ki,Km]at hl;unfold Zc7;simp only;rw[A5 (by simp only[Ai];omega),Ad,Bp hi,Aa,Mg (by omega),Aa,Bq (by omega),Av,Cw (by omega)];rfl) (fun l=>by
  unfold Zc7;simp only;rw[A3 (by simp only[Ai];omega),Ac]),Ax]
 simp
theorem Zzj {x:Dv}(h:SmD x):Ud x=some x:=by
 obtain⟨secs,cache,fuse,down⟩:=x;obtain⟨h1,h2,h3,h4⟩:=h;simp only at h1 h2 h3 h4;unfold Ud;simp only;rw[Nq (step:=Zdj (secs,(cache,(fuse,down)))) (x:=secs) (f:=fun b=>b) (l0:=[]) (fun l i hi hl=>by
  have:=h2 _ (Kcb hi);simp only[Ki,Km]at hl;unfold Zdj;simp only;rw[A5 (by simp only[Ai];omega),Ad,Bp hi,Aa,Bq (by omega),Av,Bq (by omega),Av,Cw (by omega)];rfl) (fun l=>by
  unfold Zdj;simp only;rw[A3 (by simp only[Ai];omega),Ac]),Ax]
 rw[Nq (step:=Zdk (secs,(cache,(fuse,down)))) (x:=cache) (f:=fun b=>b) (l0:=[]) (fun l i hi hl=>by
  have:=h4 _ (Kcb hi);simp only[Ki,Km]at hl;unfold Zdk;simp only;rw[A5 (by simp only[Ai];omega),Ad,Bp hi,Aa,Aa,Bq (by omega),Av,Bq (by omega),Av,Cw (by omega)];rfl) (fun l=>by
  unfold Zdk;simp only;rw[A3 (by simp only[Ai];omega),Ac]),Ax]
 simp
def wrD (x:Dv) (n:Int) (b:List UInt8):Dv:=(x.1,Zh9 x.1 x.2.1 x.2.2.1 x.2.2.2 n b)
def dOk (x:Dv):Bool:=C2 x.1 x.2.1 x.2.2.1
def flD (x:Dv):Dv:=Ze9 x.1 x.2.1 x.2.2.1 x.2.2.2
theorem Yso {secs:List (List UInt8)}{cache:List Wr}{fuse:Int}{down:Bool}(hf:-1<=fuse/\fuse<=1000):Ue (secs,(cache,(fuse,down)))=some (opR fuse,(opF fuse,opD fuse down)):=by
 unfold Ue opR opF opD;simp only[Zc];by_cases h0:fuse=0
 ·subst h0;rfl
 rw[decide_eq_false h0,Ac,if_neg h0,if_neg h0,show (fuse==0)=false by simp [h0]];by_cases h1:0<fuse
 ·rw[Df h1,Ad,if_pos h1,D3 (by omega) (by omega)];rfl
 ·rw[Dx (by omega),Ac,if_neg h1];rfl
theorem Zvk {x:Dv}(hf:-1<=x.2.2.1/\x.2.2.1<=1000):Xe x=some ((x.1,x.2.1,opF x.2.2.1,opD x.2.2.1 x.2.2.2),opR x.2.2.1):=by
 obtain⟨secs,cache,fuse,down⟩:=x;simp only at hf;unfold Xe opR opF opD;simp only[Zc];by_cases h0:fuse=0
 ·subst h0;rfl
 rw[decide_eq_false h0,Ac,if_neg h0,if_neg h0,show (fuse==0)=false by simp [h0]];by_cases h1:0<fuse
 ·rw[Df h1,Ad,if_pos h1,Ax,D3 (by omega) (by omega)];rfl
 ·rw[Dx (by omega),Ac,if_neg h1,Ax];rfl
theorem Ysw {x:Dv}{n:Int}{b:List UInt8}(h:SmD x) (hf:-1<=x.2.2.1/\x.2.2.1<=1000) (hb:b.length<=1048576):Ph (x,(n,b))=some (wrC x.1 x.2.1 x.2.2.1 x.2.2.2 n b):=by
 obtain⟨secs,cache,fuse,down⟩:=x;obtain⟨h1,h2,h3,h4⟩:=h;simp only at h1 h2 h3 h4 hf;have es:A1 .i64 (Ae secs) 1=(secs.length:Int)-1:=D3 (by simp only[Ai];omega) (by simp only[Ai];omega);unfold Ph;simp only[es];cases down with
 | true=>rw[Ad,Q5 (.inl rfl)]
 | false =>
 rw[Ac,D0,Aa];by_cases ha:0<=n/\n<=(secs.length:Int)-1
 case neg=>rw[decide_eq_false ha,Bd,Ad,Q5 (.inr (.inl ha))]
 rw[decide_eq_true ha,Az,Ac];by_cases hc:b.length<=120
 case neg=>rw[Df (by simp only[Ai];omega),Ad,Q5 (.inr (.inr (.inl (by omega))))]
 rw[Dx (by simp only[Ai];omega),Ac];by_cases hd:cache.length<40
 case neg=>rw[Qd (by simp only[Ai];omega),Ad,Q5 (.inr (.inr (.inr (by omega))))]
 rw[N5 (by simp only[Ai];omega),Ac,Yso hf,Aa];have hno:¬(false=true\/¬(0<=n/\n<=(secs.length:Int)-1)\/120<b.length\/40<=cache.length):=by
  rintro (h|h|h|h)
  ·cases h
  ·exact h ha
  ·omega
  ·omega
 by_cases h0:fuse=0
 ·obtain⟨e1,e2,e3⟩:=Zgh (down:=false) h0;simp only[e1,e2,e3,Bd,Ad];rw[Ycm hno h0]
 ·obtain⟨e2,e3⟩:=Zgg (down:=false) h0;simp only[e2,e3,Az,Ac];rw[Bq (by omega),Av,Bq (by omega),Av,Ycl hno h0];rfl
theorem Zkj {x:Dv}(h:dOk x=true):SmD x:=by
 obtain⟨⟨a,b⟩,c,d,e,f⟩:=Ny h;exact⟨by omega,fun b hb=>by have:=e b hb;omega,by omega,fun w hw=>by have:=(f w hw).2.2;omega⟩
theorem Yoy {x:Dv}{n:Int}{b:List UInt8}(h:SmD x) (hb:b.length<=1048576):K4 (x,(n,b))=some (wrD x n b):=by
 have h1:=h.1;have h3:=h.2.2.1;have es:A1 .i64 (Ae x.1) 1=(x.1.length:Int)-1:=D3 (by simp only[Ai];omega) (by simp only[Ai];omega);unfold K4 wrD;simp only[es];rw[show L0 (x.1,(x.2.1,(x.2.2.1,x.2.2.2)))=some x from Zfj h,Aa,show K2 (x.1,(x.2.1,(x.2.2.1,x.2.2.2)))=some (C2 x.1 x.2.1 x.2.2.1) from Zfk h,Aa];cases hk:C2 x.1 x.2.1 x.2.2.1 with
 | false=>rw[Bd,Ad,Yvp hk]
 | true =>
  obtain⟨_,d2,d3,_,_⟩:=Ny hk;rw[Az,Ac,Ycn hk];cases hdn:x.2.2.2 with
  | true=>rw[Ad,Q5 (.inl rfl)]
  | false =>
  rw[Ac,G9,Aa];by_cases ha:0<=n/\n<=(x.1.length:Int)-1
  case neg=>rw[decide_eq_false ha,Bd,Ad,Q5 (.inr (.inl ha))]
  rw[decide_eq_true ha,Az,Ac];by_cases hc:b.length<=120
  case neg=>rw[Df (by simp only[Ai];omega),Ad,Q5 (.inr (.inr (.inl (by omega))))]
  rw[Dx (by simp only[Ai];omega),Ac,Zc];by_cases hd:x.2.1.length=40
  ·rw[decide_eq_true (by simp only[Ai];omega),Ad,Q5 (.inr (.inr (.inr (by omega))))]
  rw[decide_eq_false (by simp only[Ai];omega),Ac];have hno:¬(false=true\/¬(0<=n/\n<=(x.1.length:Int)-1)\/120<b.length\/40<=x.2.1.length):=by
   rintro (h|h|h|h)
   ·cases h
   ·exact h ha
   ·omega
   ·omega
  have eb:=Zvk (x:=(x.1,(x.2.1,(x.2.2.1,false)))) d3;rw[eb,Aa];simp only;by_cases h0:x.2.2.1=0
  ·obtain⟨e1,e2,e3⟩:=Zgh (down:=false) h0;simp only[e1,e2,e3,Ac,Ax];rw[Ycm hno h0]
  ·obtain⟨e2,e3⟩:=Zgg (down:=false) h0;simp only[e2,e3,Ad];rw[Mg (by omega),Aa,Bq (by omega),Av,Ax,Ycl hno h0];rfl
theorem Ysg {x:Dv}(h:SmD x) (hf:-1<=x.2.2.1/\x.2.2.1<=1000) (hc:∀w∈x.2.1,0<=w.1/\w.1<=(x.1.length:Int)-1):Nh x=some (flC x.1 x.2.1 x.2.2.1 x.2.2.2):=by
 unfold Nh;have h1:=h.1;have h3:=h.2.2.1;rw[decide_eq_true (by exact⟨hf,by omega,by omega,hc⟩),Av]
theorem Yog {x:Dv}(h:SmD x):M6 x=some (flD x):=by
 have h3:=h.2.2.1;unfold M6 flD;rw[show L0 (x.1,(x.2.1,(x.2.2.1,x.2.2.2)))=some x from Zfj h,Aa,show K2 (x.1,(x.2.1,(x.2.2.1,x.2.2.2)))=some (C2 x.1 x.2.1 x.2.2.1) from Zfk h,Aa];cases hk:C2 x.1 x.2.1 x.2.2.1 with
 | false=>rw[Bd,Ad,Yiu hk]
 | true =>
  obtain⟨_,d2,d3,d4,d5⟩:=Ny hk;rw[Az,Ac,Zui hk];cases hdn:x.2.2.2 with
  | true=>rw[Ad,Zuf rfl]
  | false =>
  rw[Ac];have eb:=Zvk (x:=(x.1,(x.2.1,(x.2.2.1,false)))) d3;rw[eb,Aa];simp only;by_cases h0:x.2.2.1=0
  ·obtain⟨e1,e2,e3⟩:=Zgh (down:=false) h0;simp only[e1,e2,e3,Bd,Ad];rw[h0,Zuh rfl]
  ·obtain⟨e2,e3⟩:=Zgg (down:=false) h0;simp only[e2,e3,Az,Ac];rw[show Ar (Zc0 ((x.1,(x.2.1,(opF x.2.2.1,false))),true)) (x.1,0)=some (.inl (flL x.1 x.2.1)) from Gn (fun i=>(flL x.1 (x.2.1.take i),(i:Int))) x.2.1.length _ (fun i hi=>by
    obtain⟨g1,g2,g3⟩:=d5 _ (Kcb hi);obtain⟨k,hk⟩:=Kpc g1;have hkl:k<(flL x.1 (x.2.1.take i)).length:=by rw[Zuj];omega
    unfold Zc0;simp only;rw[A5 (by simp only[Ai];omega),Ad,Bp hi,Aa,Mg (by omega),Aa,hk,Bp (i:=k) hkl,Aa,Cw (by omega),Zul hi hk];rfl) (by
    unfold Zc0;simp only;rw[A3 (by simp only[Ai];omega),Ac,Kdc]) (x.1,0) rfl,Ax,Zug h0]
theorem Zel {x:Dv}(h1:1<=x.1.length/\x.1.length<=64) (h2:x.2.1.length<=40) (h3:-1<=x.2.2.1/\x.2.2.1<=1000) (h4:∀b∈x.1,b.length<=120) (h5:∀w∈x.2.1,0<=w.1/\w.1<=(x.1.length:Int)-1/\w.2.length<=120):dOk x=true:=by
 unfold dOk C2;exact decide_eq_true ⟨h1,h2,h3,h4,h5⟩
def Yn1 (g n:Int):List UInt8:=(Bn g++Bn n)++Bn (crc (Bn g++Bn n))
def Si (g n:Int):Bool:=decide (1<=g/\g<=60000)&&decide (0<=n/\n<=30)
def Ft (g n:Int):List UInt8:=if Si g n=true then Yn1 g n else []
theorem Ysm {g n:Int}:Zco (g,n)=some (Ft g n):=by
 unfold Zco Ft Si;simp only[D0,Aa];by_cases h1:1<=g/\g<=60000
 case neg=>rw[decide_eq_false h1,Bd,Ad];rfl
 rw[decide_eq_true h1,Az,Ac];by_cases h2:0<=n/\n<=30
 case neg=>rw[decide_eq_false h2,Bd,Ad];rfl
 rw[decide_eq_true h2,Az,Ac];have hc:=Nw (Bn g++Bn n);rw[Ta (by simp) (by omega) (by omega),Aa,Ta (by simp [Bn]) (by omega) (by omega),Aa];simp only[Kj];rw[Zg5 (by simp [Bn]),Aa,Ta (by simp [Bn]) (by omega) (by omega)];rfl
theorem Yom {g n:Int}:W7 (g,n)=some (Ft g n):=by
 unfold W7 Ft Si;simp only[G9,Aa];by_cases h1:1<=g/\g<=60000
 case neg=>rw[decide_eq_false h1,Bd,Ad];rfl
 rw[decide_eq_true h1,Az,Ac];by_cases h2:0<=n/\n<=30
 case neg=>rw[decide_eq_false h2,Bd,Ad];rfl
 rw[decide_eq_true h2,Az,Ac];have hc:=Nw (Bn g++Bn n);rw[Sj (by simp) (by omega) (by omega),Aa,Sj (by simp [Bn]) (by omega) (by omega),Aa];simp only[Kj];rw[Zf (by simp [Bn]),Aa,Sj (by simp [Bn]) (by omega) (by omega)];rfl
theorem Yn2 {g n:Int}:(Ft g n).length=if Si g n=true then 6 else 0:=by
 unfold Ft;split<;>rfl
def Zpy (z:Int):Rec:=(3,([],(0,[]),(0,[]),0,false),[],z,0,0,0)
def rdD (x:Dv) (n:Int):List UInt8:=Qu x.1 x.2.1 x.2.2.1 n
theorem Zzo {x:Dv}{n:Int}(h:SmD x):Rj (x,n)=some (rdD x n):=by
 unfold Rj rdD;simp only;have h1:=h.1;have h3:=h.2.2.1;rw[Zzk h,Zq4,Aa,decide_eq_true (by exact⟨by omega,by omega,fun b hb=>by have:=h.2.1 b hb;omega,fun w hw=>by have:=h.2.2.2 w hw;omega⟩),Av]
theorem Zvi {x : Dv} {n : Int} (h : SmD x) : Tx (x, n) = some (rdD x n) := by
  have h1 := h.1;have h3 := h.2.2.1;have es : A1 .i64 (Ae x.1) 1 = (x.1.length : Int) - 1 := D3 (by simp only [Ai]; omega) (by simp only [Ai]; omega);have ec : A1 .i64 (Ae x.2.1) 1 = (x.2.1.length : Int) - 1 := D3 (by simp only [Ai]; omega) (by simp only [Ai]; omega);unfold Tx rdD;simp only [es, ec];rw [show K2 (x.1, (x.2.1, (x.2.2.1, x.2.2.2))) = some (C2 x.1 x.2.1 x.2.2.1) from Zfk h, Aa];cases hk : C2 x.1 x.2.1 x.2.2.1 with
  | false => rw [Bd, Ad, Zgq (fun h => by rw [hk] at h; cases h.1)]
  | true =>
    obtain ⟨_, d2, d3, d4, d5⟩ := Ny hk;rw [Az, Ac, G9, Aa];by_cases ha : 0 ≤ n ∧ n ≤ (x.1.length : Int) - 1
    case neg => rw [decide_eq_false ha, Bd, Ad, Zgq (fun h => ha h.2)]
    rw [decide_eq_true ha, Az, Ac];obtain ⟨k, rfl⟩ := Kpc ha.1;have hkl : k < x.1.length := by omega
    have hsk := d4 _ (Kcb hkl);rw [Zxz hk hkl];obtain ⟨r, e1, e2⟩ := Lm (step := Zc2 (x, (k : Int))) (fun j (s : Int) => s = ((x.2.1.length - j : Nat) : Int) - 1 ∧ rdL x.2.1 k x.1[k] = rdL (x.2.1.take (x.2.1.length - j)) k x.1[k]) x.2.1.length (fun r => (r = .inl () ∧ rdL x.2.1 k x.1[k] = x.1[k]) ∨ r = .inr (rdL x.2.1 k x.1[k]))
      (fun j s hj hinv => by
        obtain ⟨rfl, hr⟩ := hinv;have hi : x.2.1.length - j - 1 < x.2.1.length := by omega
        have hwl := (d5 _ (Kcb hi)).2.2;have e0 : ((x.2.1.length - j : Nat) : Int) - 1 = ((x.2.1.length - j - 1 : Nat) : Int) := by omega
        unfold Zc2;simp only;rw [e0, Qd (by omega), Ad, Bp hi, Aa, Zc];by_cases hw : x.2.1[x.2.1.length - j - 1].1 = (k : Int)
        · rw [decide_eq_true hw, Ad, Aa, Mg (by omega), Aa]
          refine .inr ⟨_, rfl, .inr ?_⟩;have := Zxx (b := x.1[k]) hi hw;rw [show x.2.1.length - j - 1 + 1 = x.2.1.length - j by omega] at this;rw [hr, this]
        · rw [decide_eq_false hw, Ac]
          refine .inl ⟨_, rfl, ?_, ?_⟩
          · rw [D3 (by omega) (by omega)]; omega
          · have := Zxy (b := x.1[k]) hi hw
            rw [show x.2.1.length - j - 1 + 1 = x.2.1.length - j by omega] at this;rw [hr, this, show x.2.1.length - (j + 1) = x.2.1.length - j - 1 by omega])
      (fun s hinv => by
        obtain ⟨rfl, hr⟩ := hinv;refine ⟨.inl (), ?_, .inl ⟨rfl, ?_⟩⟩
        · unfold Zc2
          simp only;rw [N5 (by omega), Ac]
        · rw [hr, Kge]; rfl)
      ((x.2.1.length : Int) - 1) ⟨by simp, by simp⟩
    rw [e1];rcases e2 with ⟨rfl, e2⟩ | rfl
    · rw [Ax, Bp hkl, Aa, Mg (by omega), Aa, e2]
    · rfl
end
end Go.Vs
