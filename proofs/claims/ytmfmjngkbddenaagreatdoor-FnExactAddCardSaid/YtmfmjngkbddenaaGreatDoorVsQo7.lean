import Derived.Test.YtmfmjngkbddenaaGreatDoorVsW5
import Derived.Test.YtmfmjngkbddenaaGreatDoorVsQo6
set_option linter.all false
namespace Go.Vs
noncomputable section
theorem Zbv {α σ ρ:Type}{step:σ->Option (σ ⊕ ρ)}(st:Nat->σ) (x:List α) (p:α->Bool) (no yes:ρ)
  (hs:∀(i:Nat) (h:i<x.length),step (st i)=if p x[i]=true then some (.inl (st (i+1))) else some (.inr no)) (he:step (st x.length)=some (.inr yes)) (s0:σ) (h0:s0=st 0) :
  Ar step s0=some (if x.all p=true then yes else no):=by
 rw[Ziy (step:=step) st x (fun a=>!p a) (fun _=>no) yes (fun i hi=>by
  rw[hs i hi];cases p x[i]<;>rfl) he s0 h0]
 cases hq:x.findIdx? (fun a=>!p a) with
 | none =>
  rw[Ksf]at hq;rw[if_pos (Koa.2 fun a ha=>by simpa using hq a ha)]
 | some i =>
  rw[Krf]at hq;obtain⟨h1,h2,_⟩:=hq;rw[if_neg (fun h=>by
   have:=Koa.1 h _ (Khb h1);rw[this]at h2;cases h2)]
theorem Zj2 {ρ:Type}(c:Prop) [Decidable c] (r:ρ) (k:Unit->Option ρ):Ao (some (if c then (Sum.inl ():Unit ⊕ ρ) else .inr r)) k=if c then k () else some r:=by
 split<;>rfl
def Pt (b:List UInt8):Bool:=decide (b.length<=120)
def wrB (m:Int) (w:Wr):Bool:=decide (0<=w.1/\w.1<=m)&&decide (w.2.length<=120)
theorem Zp3 (secs:List (List UInt8)) (cache:List Wr) (fuse:Int):C6 secs cache fuse=(decide (1<=(secs.length:Int)/\(secs.length:Int)<=64)&&decide ((cache.length:Int)<=40)&&decide (-1<=fuse/\fuse<=1000)&&secs.all Pt&&cache.all (wrB ((secs.length:Int)-1))):=by
 rw[Klc];simp only[C6,Ke,decide_eq_true_eq,Koa,Pt,wrB];constructor
 ·rintro ⟨a,b,c,d,e⟩;exact⟨⟨⟨⟨⟨by omega,by omega⟩,by omega⟩,c⟩,d⟩,fun w hw=>⟨⟨(e w hw).1,(e w hw).2.1⟩,(e w hw).2.2⟩⟩
 ·rintro ⟨⟨⟨⟨a,b⟩,c⟩,d⟩,e⟩;exact⟨⟨by omega,by omega⟩,by omega,c,d,fun w hw=>⟨(e w hw).1.1,(e w hw).1.2,(e w hw).2⟩⟩
theorem Zji {x:Dv}(h:SmD x):L3 x=some (C6 x.1 x.2.1 x.2.2.1):=by
 obtain⟨secs,cache,fuse,down⟩:=x;obtain⟨h1,h2,h3,h4⟩:=h;simp only at h1 h2 h3 h4;have es:A6 .i64 (Ae secs) 1=(secs.length:Int)-1:=Er (by simp only[Aj];omega) (by simp only[Aj];omega);unfold L3;simp only[Aj];rw[Ix,Ab,Zp3];by_cases ha:1<=(secs.length:Int)/\(secs.length:Int)<=64
 case neg=>rw[decide_eq_false ha,B6,Ag];simp
 rw[decide_eq_true ha,A5,Ac];by_cases hb:(cache.length:Int)<=40
 case neg=>rw[Dq (by omega),Ag,decide_eq_false hb];simp
 rw[Ej hb,Ac,decide_eq_true hb,Ix,Ab];by_cases hc:-1<=fuse/\fuse<=1000
 case neg=>rw[decide_eq_false hc,B6,Ag];simp
 rw[decide_eq_true hc,A5,Ac];rw[Zbv (step:=Za9 (secs,(cache,(fuse,down)))) (fun i=>(i:Int)) secs Pt (.inr false) (.inl ()) (fun i hi=>by
  unfold Za9;simp only;rw[A4 (by simp only[Aj];omega),Ag,Bt hi,Ab,Cs (by omega)];unfold Pt;by_cases hb:secs[i].length<=120
  ·rw[Ej (by simp only[Aj];omega),Ac,decide_eq_true hb,if_pos (by simp)]
  ·rw[Dq (by simp only[Aj];omega),Ag,decide_eq_false hb,if_neg (by simp)]) (by
  unfold Za9;simp only;rw[A0 (by simp only[Aj];omega),Ac]) (0:Int) rfl,Zj2]
 split
 case isFalse hn =>
  have:secs.all Pt=false:=by simpa using hn
  rw[this];simp
 rename_i hy;rw[Zbv (step:=Zba (secs,(cache,(fuse,down)))) (fun i=>(i:Int)) cache (wrB ((secs.length:Int)-1)) false true (fun i hi=>by
  unfold Zba;simp only;rw[A4 (by simp only[Aj];omega),Ag,Bt hi,Ab,es,Ix,Ab,Cs (by omega)];unfold wrB;by_cases ha:0<=cache[i].1/\cache[i].1<=(secs.length:Int)-1
  ·rw[decide_eq_true ha,A5,Ac];by_cases hb:cache[i].2.length<=120
   ·rw[Ej (by simp only[Aj];omega),Ac,decide_eq_true hb,if_pos (by simp)]
   ·rw[Dq (by simp only[Aj];omega),Ag,decide_eq_false hb,if_neg (by simp)]
  ·rw[decide_eq_false ha,B6,Ag,if_neg (by simp)]) (by
  unfold Zba;simp only;rw[A0 (by simp only[Aj];omega),Ac]) (0:Int) rfl,hy]
 cases cache.all (wrB ((secs.length:Int)-1))<;>simp
theorem Yon {x:Dv}(h:SmD x):V3 x=some (C6 x.1 x.2.1 x.2.2.1):=by
 obtain⟨secs,cache,fuse,down⟩:=x;obtain⟨h1,h2,h3,h4⟩:=h;simp only at h1 h2 h3 h4;have es:A6 .i64 (Ae secs) 1=(secs.length:Int)-1:=Er (by simp only[Aj];omega) (by simp only[Aj];omega);unfold V3;simp only;rw[Zbv (step:=Zbm (secs,(cache,(fuse,down)))) (fun i=>(i:Int)) secs Pt (.inr false) (.inl ()) (fun i hi=>by
  unfold Zbm;simp only;rw[A4 (by simp only[Aj];omega),Ag,Bt hi,Ab,Cs (by omega)];unfold Pt;by_cases hb:secs[i].length<=120
  ·rw[Ej (by simp only[Aj];omega),Ac,decide_eq_true hb,if_pos (by simp)]
  ·rw[Dq (by simp only[Aj];omega),Ag,decide_eq_false hb,if_neg (by simp)]) (by
  unfold Zbm;simp only;rw[A0 (by simp only[Aj];omega),Ac]) (0:Int) rfl,Zj2]
 rw[Zp3];split
 case isFalse hn =>
  have:secs.all Pt=false:=by simpa using hn
  rw[this];simp
 rename_i hy;rw[Zbv (step:=Zbn (secs,(cache,(fuse,down)))) (fun i=>(i:Int)) cache (wrB ((secs.length:Int)-1)) (.inr false) (.inl ()) (fun i hi=>by
  unfold Zbn;simp only;rw[A4 (by simp only[Aj];omega),Ag,Bt hi,Ab,es,En,Ab,Ab,Cs (by omega)];unfold wrB;by_cases ha:0<=cache[i].1/\cache[i].1<=(secs.length:Int)-1
  ·rw[decide_eq_true ha,A5,Ac];by_cases hb:cache[i].2.length<=120
   ·rw[Ej (by simp only[Aj];omega),Ac,decide_eq_true hb,if_pos (by simp)]
   ·rw[Dq (by simp only[Aj];omega),Ag,decide_eq_false hb,if_neg (by simp)]
  ·rw[decide_eq_false ha,B6,Ag,if_neg (by simp)]) (by
  unfold Zbn;simp only;rw[A0 (by simp only[Aj];omega),Ac]) (0:Int) rfl,Zj2]
 split
 case isFalse hn =>
  have:cache.all (wrB ((secs.length:Int)-1))=false:=by simpa using hn
  rw[this];simp
 rename_i hz;simp only[Aj];rw[En,Ab,hy,hz];simp only[Ktd];by_cases ha:1<=(secs.length:Int)/\(secs.length:Int)<=64
 case neg=>rw[decide_eq_false ha,Ac];simp
 rw[decide_eq_true ha,Ag];by_cases hb:(cache.length:Int)<=40
 case neg=>rw[Jv (by omega),Ac,decide_eq_false hb];simp
 rw[G8 hb,Ag,En,Ab,decide_eq_true hb];simp
theorem Zdo {x:Dv}(h:SmD x):N2 x=some x:=by
 obtain⟨secs,cache,fuse,down⟩:=x;obtain⟨h1,h2,h3,h4⟩:=h;simp only at h1 h2 h3 h4;unfold N2;simp only;rw[Mm (step:=Zbe (secs,(cache,(fuse,down)))) (x:=secs) (f:=fun b=>b) (l0:=[]) (fun l i hi hl=>by
  have:=h2 _ (Khb hi);simp only[Ki,Kr]at hl;unfold Zbe;simp only;rw[A4 (by simp only[Aj];omega),Ag,Bt hi,Ab,Pa (by omega),Ab,Bk (by omega),Av,Cs (by omega)];rfl) (fun l=>by
  unfold Zbe;simp only;rw[A0 (by simp only[Aj];omega),Ac]),A3]
 rw[Mm (step:=Zbf (secs,(cache,(fuse,down)))) (x:=cache) (f:=fun b=>b) (l0:=[]) (fun l i hi hl=>by
  have:=h4 _ (Khb hi);simp only[Ki,Kr]at hl;unfold Zbf;simp only;rw[A4 (by simp only[Aj];omega),Ag,Bt hi,Ab,Pa (by omega),Ab,Bk (by omega),Av,Cs (by omega)];rfl) (fun l=>by
  unfold Zbf;simp only;rw[A0 (by simp only[Aj];omega),Ac]),A3]
 simp
theorem Yol {x:Dv}(h:SmD x):Za2 x=some x:=by
 obtain⟨secs,cache,fuse,down⟩:=x;obtain⟨h1,h2,h3,h4⟩:=h;simp only at h1 h2 h3 h4;unfold Za2;simp only;rw[Mm (step:=Zbq (secs,(cache,(fuse,down)))) (x:=secs) (f:=fun b=>b) (l0:=[]) (fun l i hi hl=>by
  have:=h2 _ (Khb hi);simp only[Ki,Kr]at hl;unfold Zbq;simp only;rw[A4 (by simp only[Aj];omega),Ag,Bt hi,Ab,Bk (by omega),Av,Bk (by omega),Av,Cs (by omega)];rfl) (fun l=>by
  unfold Zbq;simp only;rw[A0 (by simp only[Aj];omega),Ac]),A3]
 rw[Mm (step:=Zbr (secs,(cache,(fuse,down)))) (x:=cache) (f:=fun b=>b) (l0:=[]) (fun l i hi hl=>by
  have:=h4 _ (Khb hi);simp only[Ki,Kr]at hl;unfold Zbr;simp only;rw[A4 (by simp only[Aj];omega),Ag,Bt hi,Ab,Ab,Bk (by omega),Av,Bk (by omega),Av,Cs (by omega)];rfl) (fun l=>by
  unfold Zbr;simp only;rw[A0 (by simp only[Aj];omega),Ac]),A3]
 simp
def wrD (x:Dv) (n:Int) (b:List UInt8):Dv:=(x.1,Zfu x.1 x.2.1 x.2.2.1 x.2.2.2 n b)
def dOk (x:Dv):Bool:=C6 x.1 x.2.1 x.2.2.1
def flD (x:Dv):Dv:=Zdd x.1 x.2.1 x.2.2.1 x.2.2.2
theorem Yot {secs:List (List UInt8)}{cache:List Wr}{fuse:Int}{down:Bool}(hf:-1<=fuse/\fuse<=1000):So (secs,(cache,(fuse,down)))=some (opR fuse,(opF fuse,opD fuse down)):=by
 unfold So opR opF opD;simp only[Q8];by_cases h0:fuse=0
 ·subst h0;rfl
 rw[decide_eq_false h0,Ac,if_neg h0,if_neg h0,show (fuse==0)=false by simp [h0]];by_cases h1:0<fuse
 ·rw[Dq h1,Ag,if_pos h1,Er (by omega) (by omega)];rfl
 ·rw[Ej (by omega),Ac,if_neg h1];rfl
theorem Zs3 {x:Dv}(hf:-1<=x.2.2.1/\x.2.2.1<=1000):Vo x=some ((x.1,x.2.1,opF x.2.2.1,opD x.2.2.1 x.2.2.2),opR x.2.2.1):=by
 obtain⟨secs,cache,fuse,down⟩:=x;simp only at hf;unfold Vo opR opF opD;simp only[Q8];by_cases h0:fuse=0
 ·subst h0;rfl
 rw[decide_eq_false h0,Ac,if_neg h0,if_neg h0,show (fuse==0)=false by simp [h0]];by_cases h1:0<fuse
 ·rw[Dq h1,Ag,if_pos h1,A3,Er (by omega) (by omega)];rfl
 ·rw[Ej (by omega),Ac,if_neg h1,A3];rfl
theorem Yo0 {x:Dv}{n:Int}{b:List UInt8}(h:SmD x) (hf:-1<=x.2.2.1/\x.2.2.1<=1000) (hb:b.length<=1048576):K3 (x,(n,b))=some (wrC x.1 x.2.1 x.2.2.1 x.2.2.2 n b):=by
 obtain⟨secs,cache,fuse,down⟩:=x;obtain⟨h1,h2,h3,h4⟩:=h;simp only at h1 h2 h3 h4 hf;have es:A6 .i64 (Ae secs) 1=(secs.length:Int)-1:=Er (by simp only[Aj];omega) (by simp only[Aj];omega);unfold K3;simp only[es];cases down with
 | true=>rw[Ag,Pz (.inl rfl)]
 | false =>
 rw[Ac,En,Ab];by_cases ha:0<=n/\n<=(secs.length:Int)-1
 case neg=>rw[decide_eq_false ha,B6,Ag,Pz (.inr (.inl ha))]
 rw[decide_eq_true ha,A5,Ac];by_cases hc:b.length<=120
 case neg=>rw[Dq (by simp only[Aj];omega),Ag,Pz (.inr (.inr (.inl (by omega))))]
 rw[Ej (by simp only[Aj];omega),Ac];by_cases hd:cache.length<40
 case neg=>rw[Xj (by simp only[Aj];omega),Ag,Pz (.inr (.inr (.inr (by omega))))]
 rw[T3 (by simp only[Aj];omega),Ac,Yot hf,Ab];have hno:¬(false=true\/¬(0<=n/\n<=(secs.length:Int)-1)\/120<b.length\/40<=cache.length):=by
  rintro (h|h|h|h)
  ·cases h
  ·exact h ha
  ·omega
  ·omega
 by_cases h0:fuse=0
 ·obtain⟨e1,e2,e3⟩:=Zeg (down:=false) h0;simp only[e1,e2,e3,B6,Ag];rw[Zy6 hno h0]
 ·obtain⟨e2,e3⟩:=Zef (down:=false) h0;simp only[e2,e3,A5,Ac];rw[Bk (by omega),Av,Bk (by omega),Av,Zy5 hno h0];rfl
theorem Zct {x:Dv}(h:dOk x=true):SmD x:=by
 obtain⟨⟨a,b⟩,c,d,e,f⟩:=Mu h;exact⟨by omega,fun b hb=>by have:=e b hb;omega,by omega,fun w hw=>by have:=(f w hw).2.2;omega⟩
theorem Ylh {x:Dv}{n:Int}{b:List UInt8}(h:SmD x) (hb:b.length<=1048576):H7 (x,(n,b))=some (wrD x n b):=by
 have h1:=h.1;have h3:=h.2.2.1;have es:A6 .i64 (Ae x.1) 1=(x.1.length:Int)-1:=Er (by simp only[Aj];omega) (by simp only[Aj];omega);unfold H7 wrD;simp only[es];rw[show N2 (x.1,(x.2.1,(x.2.2.1,x.2.2.2)))=some x from Zdo h,Ab,show L3 (x.1,(x.2.1,(x.2.2.1,x.2.2.2)))=some (C6 x.1 x.2.1 x.2.2.1) from Zji h,Ab];cases hk:C6 x.1 x.2.1 x.2.2.1 with
 | false=>rw[B6,Ag,Yr1 hk]
 | true =>
  obtain⟨_,d2,d3,_,_⟩:=Mu hk;rw[A5,Ac,Zy7 hk];cases hdn:x.2.2.2 with
  | true=>rw[Ag,Pz (.inl rfl)]
  | false =>
  rw[Ac,Ix,Ab];by_cases ha:0<=n/\n<=(x.1.length:Int)-1
  case neg=>rw[decide_eq_false ha,B6,Ag,Pz (.inr (.inl ha))]
  rw[decide_eq_true ha,A5,Ac];by_cases hc:b.length<=120
  case neg=>rw[Dq (by simp only[Aj];omega),Ag,Pz (.inr (.inr (.inl (by omega))))]
  rw[Ej (by simp only[Aj];omega),Ac,Q8];by_cases hd:x.2.1.length=40
  ·rw[decide_eq_true (by simp only[Aj];omega),Ag,Pz (.inr (.inr (.inr (by omega))))]
  rw[decide_eq_false (by simp only[Aj];omega),Ac];have hno:¬(false=true\/¬(0<=n/\n<=(x.1.length:Int)-1)\/120<b.length\/40<=x.2.1.length):=by
   rintro (h|h|h|h)
   ·cases h
   ·exact h ha
   ·omega
   ·omega
  have eb:=Zs3 (x:=(x.1,(x.2.1,(x.2.2.1,false)))) d3;rw[eb,Ab];simp only;by_cases h0:x.2.2.1=0
  ·obtain⟨e1,e2,e3⟩:=Zeg (down:=false) h0;simp only[e1,e2,e3,Ac,A3];rw[Zy6 hno h0]
  ·obtain⟨e2,e3⟩:=Zef (down:=false) h0;simp only[e2,e3,Ag];rw[Pa (by omega),Ab,Bk (by omega),Av,A3,Zy5 hno h0];rfl
theorem Yop {x:Dv}(h:SmD x) (hf:-1<=x.2.2.1/\x.2.2.1<=1000) (hc:∀w∈x.2.1,0<=w.1/\w.1<=(x.1.length:Int)-1):Jg x=some (flC x.1 x.2.1 x.2.2.1 x.2.2.2):=by
 unfold Jg;have h1:=h.1;have h3:=h.2.2.1;rw[decide_eq_true (by exact⟨hf,by omega,by omega,hc⟩),Av]
theorem Yk4 {x:Dv}(h:SmD x):Je x=some (flD x):=by
 have h3:=h.2.2.1;unfold Je flD;rw[show N2 (x.1,(x.2.1,(x.2.2.1,x.2.2.2)))=some x from Zdo h,Ab,show L3 (x.1,(x.2.1,(x.2.2.1,x.2.2.2)))=some (C6 x.1 x.2.1 x.2.2.1) from Zji h,Ab];cases hk:C6 x.1 x.2.1 x.2.2.1 with
 | false=>rw[B6,Ag,Yfk hk]
 | true =>
  obtain⟨_,d2,d3,d4,d5⟩:=Mu hk;rw[A5,Ac,Zr2 hk];cases hdn:x.2.2.2 with
  | true=>rw[Ag,Zrz rfl]
  | false =>
  rw[Ac];have eb:=Zs3 (x:=(x.1,(x.2.1,(x.2.2.1,false)))) d3;rw[eb,Ab];simp only;by_cases h0:x.2.2.1=0
  ·obtain⟨e1,e2,e3⟩:=Zeg (down:=false) h0;simp only[e1,e2,e3,B6,Ag];rw[h0,Zr1 rfl]
  ·obtain⟨e2,e3⟩:=Zef (down:=false) h0;simp only[e2,e3,A5,Ac];rw[show Ar (Zbb ((x.1,(x.2.1,(opF x.2.2.1,false))),true)) (x.1,0)=some (.inl (flL x.1 x.2.1)) from Hv (fun i=>(flL x.1 (x.2.1.take i),(i:Int))) x.2.1.length _ (fun i hi=>by
    obtain⟨g1,g2,g3⟩:=d5 _ (Khb hi);obtain⟨k,hk⟩:=Kid g1;have hkl:k<(flL x.1 (x.2.1.take i)).length:=by rw[Zr3];omega
    unfold Zbb;simp only;rw[A4 (by simp only[Aj];omega),Ag,Bt hi,Ab,Pa (by omega),Ab,hk,Bt (i:=k) hkl,Ab,Cs (by omega),Zr5 hi hk];rfl) (by
    unfold Zbb;simp only;rw[A0 (by simp only[Aj];omega),Ac,Khc]) (x.1,0) rfl,A3,Zr0 h0]
theorem Zcs {x:Dv}(h1:1<=x.1.length/\x.1.length<=64) (h2:x.2.1.length<=40) (h3:-1<=x.2.2.1/\x.2.2.1<=1000) (h4:∀b∈x.1,b.length<=120) (h5:∀w∈x.2.1,0<=w.1/\w.1<=(x.1.length:Int)-1/\w.2.length<=120):dOk x=true:=by
 unfold dOk C6;exact decide_eq_true ⟨h1,h2,h3,h4,h5⟩
def Yko (g n:Int):List UInt8:=(B2 g++B2 n)++B2 (crc (B2 g++B2 n))
def Zdj (g n:Int):Bool:=decide (1<=g/\g<=60000)&&decide (0<=n/\n<=30)
def Fb (g n:Int):List UInt8:=if Zdj g n=true then Yko g n else []
theorem Yos {g n:Int}:Zaz (g,n)=some (Fb g n):=by
 unfold Zaz Fb Zdj;simp only[En,Ab];by_cases h1:1<=g/\g<=60000
 case neg=>rw[decide_eq_false h1,B6,Ag];rfl
 rw[decide_eq_true h1,A5,Ac];by_cases h2:0<=n/\n<=30
 case neg=>rw[decide_eq_false h2,B6,Ag];rfl
 rw[decide_eq_true h2,A5,Ac];have hc:=Td (B2 g++B2 n);rw[Rs (by simp) (by omega) (by omega),Ab,Rs (by simp [B2]) (by omega) (by omega),Ab];simp only[Kp];rw[Zwj (by simp [B2]),Ab,Rs (by simp [B2]) (by omega) (by omega)];rfl
theorem Yk7 {g n:Int}:Vi (g,n)=some (Fb g n):=by
 unfold Vi Fb Zdj;simp only[Ix,Ab];by_cases h1:1<=g/\g<=60000
 case neg=>rw[decide_eq_false h1,B6,Ag];rfl
 rw[decide_eq_true h1,A5,Ac];by_cases h2:0<=n/\n<=30
 case neg=>rw[decide_eq_false h2,B6,Ag];rfl
 rw[decide_eq_true h2,A5,Ac];have hc:=Td (B2 g++B2 n);rw[Q9 (by simp) (by omega) (by omega),Ab,Q9 (by simp [B2]) (by omega) (by omega),Ab];simp only[Kp];rw[Zs2 (by simp [B2]),Ab,Q9 (by simp [B2]) (by omega) (by omega)];rfl
theorem Ykp {g n:Int}:(Fb g n).length=if Zdj g n=true then 6 else 0:=by
 unfold Fb;split<;>rfl
def Znd (z:Int):Rec:=(3,([],(0,[]),(0,[]),0,false),[],z,0,0,0)
end
end Go.Vs
