import Derived.Test.YtmfmjngkbddenaaGreatDoorVsW5
import Derived.Test.YtmfmjngkbddenaaGreatDoorVsPo
set_option linter.all false
namespace Go.Vs
noncomputable section
def Ds (n:Nat):Bool:=decide (n<=1114111/\¬(55296<=n/\n<=57343))
def yN (n:Nat):UInt8:=UInt8.ofNat n
theorem Fo {n:Nat}(h:n<256):(yN n).toNat=n:=by simp [yN,UInt8.toNat_ofNat',Kdd h]
theorem Ef {b:UInt8}{n:Nat}(h:b.toNat=n):yN n=b:=by subst h;simp [yN]
theorem Bv (b:UInt8):b.toNat<256:=b.toNat_lt
def enc (n:Nat):List UInt8 :=
 if n<128 then [yN n]
 else if n<2048 then [yN (192+n / 64),yN (128+n%64)]
 else if n<65536 then [yN (224+n / 4096),yN (128+n / 64%64),yN (128+n%64)]
 else [yN (240+n / 262144),yN (128+n / 4096%64),yN (128+n / 64%64),yN (128+n%64)]
def C5 (b:UInt8):Bool:=decide (128<=b.toNat/\b.toNat<192)
def Pz (b0:UInt8):List UInt8->Option (Nat×Nat)
 | b1::_=>if C5 b1 then some (b0.toNat%32*64+b1.toNat%64,2) else none
 | _=>none
def Mj (b0:UInt8):Nat:=if b0.toNat=224 then 160 else 128
def hi3 (b0:UInt8):Nat:=if b0.toNat=237 then 159 else 191
def Ml (b0:UInt8):Nat:=if b0.toNat=240 then 144 else 128
def hi4 (b0:UInt8):Nat:=if b0.toNat=244 then 143 else 191
def L7 (b0:UInt8):List UInt8->Option (Nat×Nat)
 | b1::b2::_=>if Mj b0<=b1.toNat/\b1.toNat<=hi3 b0/\C5 b2=true then some (b0.toNat%16*4096+b1.toNat%64*64+b2.toNat%64,3) else none
 | _=>none
def Jm (b0:UInt8):List UInt8->Option (Nat×Nat)
 | b1::b2::b3::_=>if Ml b0<=b1.toNat/\b1.toNat<=hi4 b0/\C5 b2=true/\C5 b3=true then some (b0.toNat%8*262144+b1.toNat%64*4096+b2.toNat%64*64+b3.toNat%64,4) else none
 | _=>none
def dec:List UInt8->Option (Nat×Nat)
 | []=>none
 | b0::r =>
  if b0.toNat<128 then some (b0.toNat,1)
  else if b0.toNat<194 then none
  else if b0.toNat<224 then Pz b0 r
  else if b0.toNat<240 then L7 b0 r
  else if b0.toNat<245 then Jm b0 r
  else none
theorem Zlb {l:List UInt8}{n k:Nat}(h:dec l=some (n,k)):Ds n=true/\enc n=l.take k/\1<=k/\k<=l.length:=by
 match l,h with
 | [],h=>simp [dec]at h
 | b0::r,h =>
 have h0:=Bv b0;simp only[dec]at h;split at h
 ·simp only[Ka,Kb]at h;obtain⟨rfl,rfl⟩:=h;refine⟨by simp [Ds];omega, ?_,Kf _,by simp⟩;rename_i hb;rw[enc,if_pos hb,Ef rfl];rfl
 split at h
 ·cases h
 split at h
 ·match r,h with
  | [],h=>simp [Pz]at h
  | b1::r,h =>
  have h1:=Bv b1;simp only[Pz]at h;split at h
  ·rename_i hc;simp only[C5,decide_eq_true_eq]at hc;simp only[Ka,Kb]at h;obtain⟨rfl,rfl⟩:=h;refine⟨by simp only[Ds,decide_eq_true_eq];omega, ?_,by omega,by simp⟩;rw[enc,if_neg (by omega),if_pos (by omega),Ef (b:=b0) (by omega),Ef (b:=b1) (by omega)];rfl
  ·cases h
 split at h
 ·match r,h with
  | [],h=>simp [L7]at h
  | [_],h=>simp [L7]at h
  | b1::b2::r,h =>
  have h1:=Bv b1;have h2:=Bv b2;simp only[L7]at h;split at h
  ·rename_i hc;simp only[C5,decide_eq_true_eq,Mj,hi3]at hc;obtain⟨c1,c2,c3⟩:=hc;simp only[Ka,Kb]at h;obtain⟨rfl,rfl⟩:=h;split at c1<;>split at c2 <;>
   ·refine⟨by simp only[Ds,decide_eq_true_eq];omega, ?_,by omega,by simp⟩;rw[enc,if_neg (by omega),if_neg (by omega),if_pos (by omega),Ef (b:=b0) (by omega),Ef (b:=b1) (by omega),Ef (b:=b2) (by omega)];rfl
  ·cases h
 split at h
 ·match r,h with
  | [],h=>simp [Jm]at h
  | [_],h=>simp [Jm]at h
  | [_,_],h=>simp [Jm]at h
  | b1::b2::b3::r,h =>
  have h1:=Bv b1;have h2:=Bv b2;have h3:=Bv b3;simp only[Jm]at h;split at h
  ·rename_i hc;simp only[C5,decide_eq_true_eq,Ml,hi4]at hc;obtain⟨c1,c2,c3,c4⟩:=hc;simp only[Ka,Kb]at h;obtain⟨rfl,rfl⟩:=h;split at c1<;>split at c2 <;>
   ·refine⟨by simp only[Ds,decide_eq_true_eq];omega, ?_,by omega,by simp⟩;rw[enc,if_neg (by omega),if_neg (by omega),if_neg (by omega),Ef (b:=b0) (by omega),Ef (b:=b1) (by omega),Ef (b:=b2) (by omega),Ef (b:=b3) (by omega)];rfl
  ·cases h
 ·cases h
theorem Yes {n:Nat}(h:Ds n=true) (r:List UInt8):dec (enc n++r)=some (n,(enc n).length):=by
 simp only[Ds,decide_eq_true_eq]at h;unfold enc;split
 ·have e:=Fo (n:=n) (by omega);simp only[Kl,Kj,dec,e];rw[if_pos (by omega)];rfl
 split
 ·have e0:=Fo (n:=192+n / 64) (by omega);have e1:=Fo (n:=128+n%64) (by omega);simp only[Kl,Kj,dec,e0];rw[if_neg (by omega),if_neg (by omega),if_pos (by omega)];simp only[Pz,C5,e0,e1];rw[if_pos (by simp only[decide_eq_true_eq];omega)];simp only[Ke,Ki];congr 2;omega
 split
 ·have e0:=Fo (n:=224+n / 4096) (by omega);have e1:=Fo (n:=128+n / 64%64) (by omega);have e2:=Fo (n:=128+n%64) (by omega);simp only[Kl,Kj,dec,e0];rw[if_neg (by omega),if_neg (by omega),if_neg (by omega),if_pos (by omega)];simp only[L7,C5,e0,e1,e2,Mj,hi3,decide_eq_true_eq];rw[if_pos (by refine⟨?_, ?_,by omega⟩<;>split<;>omega)]
  simp only[Ke,Ki];congr 2;omega
 ·have e0:=Fo (n:=240+n / 262144) (by omega);have e1:=Fo (n:=128+n / 4096%64) (by omega);have e2:=Fo (n:=128+n / 64%64) (by omega);have e3:=Fo (n:=128+n%64) (by omega);simp only[Kl,Kj,dec,e0];rw[if_neg (by omega),if_neg (by omega),if_neg (by omega),if_neg (by omega),if_pos (by omega)];simp only[Jm,C5,e0,e1,e2,e3,Ml,hi4,decide_eq_true_eq];rw[if_pos (by refine⟨?_, ?_,by omega⟩<;>split<;>omega)]
  simp only[Ke,Ki];congr 2;omega
theorem Ztx {n:Nat}:1<=(enc n).length/\(enc n).length<=4:=by
 unfold enc;split
 ·simp
 split
 ·simp
 split<;>simp
theorem Zbg {k:IntKind}{n:Nat}(h:n<2^(k.bits-1)):k.wrap (n:Int)=(n:Int):=by
 have hp:(2:Nat)^(k.bits-1)<=2^k.bits:=Klg (by decide) (by omega);have e1:((2:Int)^(k.bits-1))=((2^(k.bits-1):Nat):Int):=by simp
 have e2:((2:Int)^k.bits)=((2^k.bits:Nat):Int):=by simp
 have e3:((n:Int)%((2^k.bits:Nat):Int))=(n:Int):=Kjg (by omega) (by omega);simp only[IntKind.wrap,e1,e2,e3];rw[if_neg];simp only[Kd,decide_eq_true_eq];omega
theorem wrap_u8 {n:Nat}(h:n<256):IntKind.u8.wrap (n:Int)=(n:Int):=by
 have e1:IntKind.u8.bits=8:=rfl;have e2:IntKind.u8.signed=false:=rfl;simp only[IntKind.wrap,e1,e2,Ktd,Kma,if_false];exact Kjg (by omega) (by simp;omega)
theorem Mq {m a:Nat}(h:a<2^m):(BitVec.ofInt m (a:Int)).toNat=a:=by
 rw[Yqu,BitVec.toNat_ofNat,Kdd h]
section
variable {k:IntKind} {a b:Nat}
theorem Vv (h:a<2^(k.bits-1)):a<2^k.bits:=Kka h (Klg (by decide) (by omega))
theorem N4 (ha:a<2^(k.bits-1)) (hb:b<2^(k.bits-1)):Aw k (a:Int) (b:Int)=((a&&&b:Nat):Int):=by
 unfold Aw;rw[BitVec.toNat_and,Mq (Vv ha),Mq (Vv hb)];exact Zbg (Kmg Nat.and_le_left ha)
theorem Zvc (ha:a<2^(k.bits-1)) (hb:b<2^(k.bits-1)):iOr k (a:Int) (b:Int)=((a ||| b:Nat):Int):=by
 unfold iOr;rw[BitVec.toNat_or,Mq (Vv ha),Mq (Vv hb)];exact Zbg (Nat.or_lt_two_pow ha hb)
theorem Zd (ha:a<2^(k.bits-1)) (hb:b<2^(k.bits-1)):Qe k (a:Int) (b:Int)=((a ^^^ b:Nat):Int):=by
 unfold Qe;rw[BitVec.toNat_xor,Mq (Vv ha),Mq (Vv hb)];exact Zbg (Nat.xor_lt_two_pow ha hb)
theorem Vi {s:Nat}(hs:s<=k.bits) (h:a*2^s<2^(k.bits-1)):B1 k (a:Int) (s:Int)=((a*2^s:Nat):Int):=by
 unfold B1;rw[Kxb,Kxd hs];rw[show (a:Int)*2^s=((a*2^s:Nat):Int) by simp];exact Zbg h
theorem Zvd {s:Nat}(hs:s<=k.bits):B2 k (a:Int) (s:Int)=((a / 2^s:Nat):Int):=by
 unfold B2;rw[Kxb,Kxd hs,Int.fdiv_eq_ediv_of_nonneg _ (Int.pow_nonneg (by decide))];simp
theorem Ik (h:a<2^(k.bits-1)):Ak k (a:Int)=(a:Int):=Zbg h
end
theorem Zva {a b:Nat}(ha:a<256) (hb:b<256):Aw .u8 (a:Int) (b:Int)=((a&&&b:Nat):Int):=by
 unfold Aw;rw[BitVec.toNat_and,Mq (m:=IntKind.u8.bits) ha,Mq (m:=IntKind.u8.bits) hb];exact wrap_u8 (Kmg Nat.and_le_left ha)
theorem Yn9 {a b:Nat}(ha:a<256) (hb:b<256):iOr .u8 (a:Int) (b:Int)=((a ||| b:Nat):Int):=by
 unfold iOr;rw[BitVec.toNat_or,Mq (m:=IntKind.u8.bits) ha,Mq (m:=IntKind.u8.bits) hb];exact wrap_u8 (Nat.or_lt_two_pow (n:=8) ha hb)
theorem Zqb (n:Nat):u8 (n:Int)=yN n:=rfl
theorem Cq (b:UInt8):y2i b=(b.toNat:Int):=rfl
theorem L3 {a j m:Nat}(hm:m=2^j-1):a&&&m=a%2^j:=by rw[hm,Nat.and_two_pow_sub_one_eq_mod]
theorem Znr {a b j:Nat}(hb:b<2^j):a*2^j ||| b=a*2^j+b:=by
 have:=Nat.shiftLeft_add_eq_or_of_lt hb a;rw[Nat.shiftLeft_eq]at this;exact this.symm
def Zv2:List Nat:=[0x44e,0x430,0x431,0x446,0x434,0x435,0x444,0x433,0x445,0x438,0x439,0x43a,0x43b,0x43c,0x43d,0x43e,0x43f,0x44f,0x440,0x441,0x442,0x443,0x436,0x432,0x44c,0x44b,0x437,0x448,0x44d,0x449,0x447,0x44a]
def Yvm:List Nat:=[0x20ac,0,0x201a,0x192,0x201e,0x2026,0x2020,0x2021,0x2c6,0x2030,0x160,0x2039,0x152,0,0x17d,0,0,0x2018,0x2019,0x201c,0x201d,0x2022,0x2013,0x2014,0x2dc,0x2122,0x161,0x203a,0x153,0,0x17e,0x178]
def Qa (cs b:Nat):Nat :=
 if cs=2 then (if b=0xa4 then 0x20ac else if b=0xa6 then 0x160 else if b=0xa8 then 0x161 else if b=0xb4 then 0x17d else if b=0xb8 then 0x17e else if b=0xbc then 0x152 else if b=0xbd then 0x153 else if b=0xbe then 0x178 else b)
 else if cs=3 then (if 0xe0<=b then Zv2.getD (b-0xe0) 0-0x20 else if 0xc0<=b then Zv2.getD (b-0xc0) 0 else if b=0xa3 then 0x451 else if b=0xb3 then 0x401 else 0)
 else if cs=4 then (if 0xa0<=b then b else Yvm.getD (b-0x80) 0)
 else b
def Ey (cs b:Nat):Option Nat :=
 if b<128 then some b else if Qa cs b=0 then none else some (Qa cs b)
def Zhh (cs n:Nat):Nat->Nat->Option Nat
 | 0,_=>none
 | k+1,b=>if Ey cs b=some n then some b else Zhh cs n k (b+1)
def Zz6 (cs n:Nat):Option Nat:=Zhh cs n 256 0
theorem Zz7 {cs n:Nat}:∀{k b x:Nat},b<=x->x<b+k->Ey cs x=some n->(∀y,b<=y->y<x->Ey cs y≠some n)->Zhh cs n k b=some x
 | 0,_,_,h1,h2,_,_=>by omega
 | k+1,b,x,h1,h2,h3,h4=>by
  simp only[Zhh];by_cases hx:b=x
  ·subst hx;rw[if_pos h3]
  ·rw[if_neg (h4 b (Kf _) (by omega))];exact Zz7 (by omega) (by omega) h3 fun y hy=>h4 y (by omega)
def Oi:List Nat->Bool
 | []=>true
 | x::l=>(Nat.beq x 0||!l.any (Nat.beq x))&&Oi l
theorem Zw3:∀{l:List Nat}{i j x:Nat},Oi l=true->l[i]? = some x->l[j]? = some x->x≠0->i=j
 | [],i,j,x,_,h,_,_=>by simp at h
 | y::l,i,j,x,h,h1,h2,h0=>by
  simp only[Oi,Kd,Kbb,Kjb]at h;obtain⟨ha,hb⟩:=h;have out:y=x->∀k:Nat,l[k]?≠some x:=by
   rintro rfl k hk;rcases ha with ha|ha
   ·exact h0 (Kr ha)
   ·have:l.any (Nat.beq y)=true:=Kve.2 ⟨y,Kfa hk,Nat.beq_refl y⟩;rw[this]at ha;cases ha
  cases i with
  | zero =>
   simp only[Kp,Ka]at h1;cases j with
   | zero=>rfl
   | succ j=>exact (out h1 j (by simpa using h2)).elim
  | succ i =>
   cases j with
   | zero =>
    simp only[Kp,Ka]at h2;exact (out h2 i (by simpa using h1)).elim
   | succ j=>exact congrArg Nat.succ (Zw3 hb (by simpa using h1) (by simpa using h2) h0)
def Ij (cs:Nat):List Nat:=(List.range 128).map fun i=>Qa cs (i+128)
theorem Yn3:(Oi (Ij 1)&&(Ij 1).all fun x=>Nat.beq x 0||Nat.ble 128 x&&Ds x)=true:=by decide +kernel
theorem Yn4:(Oi (Ij 2)&&(Ij 2).all fun x=>Nat.beq x 0||Nat.ble 128 x&&Ds x)=true:=by decide +kernel
theorem Yn5:(Oi (Ij 3)&&(Ij 3).all fun x=>Nat.beq x 0||Nat.ble 128 x&&Ds x)=true:=by decide +kernel
theorem Yn6:(Oi (Ij 4)&&(Ij 4).all fun x=>Nat.beq x 0||Nat.ble 128 x&&Ds x)=true:=by decide +kernel
theorem Zu4 {cs:Nat}(h1:1<=cs) (h4:cs<=4):Oi (Ij cs)=true/\∀b,128<=b->b<256->(Ij cs)[b-128]? = some (Qa cs b)/\(Qa cs b=0\/(128<=Qa cs b/\Ds (Qa cs b)=true)):=by
 have key:(Oi (Ij cs)&&(Ij cs).all fun x=>Nat.beq x 0||Nat.ble 128 x&&Ds x)=true:=by
  rcases (show cs=1\/cs=2\/cs=3\/cs=4 by omega) with rfl|rfl|rfl|rfl
  ·exact Yn3
  ·exact Yn4
  ·exact Yn5
  ·exact Yn6
 simp only[Kd]at key;refine⟨key.1,fun b h5 h6=>?_⟩;have e:(Ij cs)[b-128]? = some (Qa cs b):=by
  simp only[Ij,Kga,Kud (show b-128<128 by omega),Kna];rw[show b-128+128=b by omega]
 refine⟨e, ?_⟩;have:=Kua.1 key.2 _ (Kfa e);simp only[Kbb,Kd]at this;rcases this with h|h
 ·exact .inl (Kr h)
 ·exact .inr ⟨Kea h.1,h.2⟩
theorem Yd2 {cs b c n:Nat}(h1:1<=cs) (h4:cs<=4) (hb:b<256) (hc:c<256) (h:Ey cs b=some n) (k:Ey cs c=some n):b=c:=by
 obtain⟨t1,t2⟩:=Zu4 h1 h4;unfold Ey at h k;split at h
 ·simp only[Ka]at h;split at k
  ·simp only[Ka]at k;omega
  ·split at k
   ·cases k
   ·simp only[Ka]at k;rcases (t2 c (by omega) hc).2 with q|q<;>omega
 ·split at h
  ·cases h
  ·simp only[Ka]at h;split at k
   ·simp only[Ka]at k;rcases (t2 b (by omega) hb).2 with q|q<;>omega
   ·split at k
    ·cases k
    ·simp only[Ka]at k;have e1:=(t2 b (by omega) hb).1;have e2:=(t2 c (by omega) hc).1;have hn:n≠0:=by omega
     rw[h]at e1;rw[k]at e2;have:=Zw3 t1 e1 e2 hn;omega
theorem Ytl {cs b n:Nat}(h1:1<=cs) (h4:cs<=4) (hb:b<256) (h:Ey cs b=some n):Zz6 cs n=some b :=
 Zz7 (Koa _) (by omega) h fun y _ hy k=>by have:=Yd2 h1 h4 (by omega) hb k h;omega
theorem Yd3 {cs b n:Nat}(h1:1<=cs) (h4:cs<=4) (hb:b<256) (h:Ey cs b=some n):Ds n=true:=by
 unfold Ey at h;split at h
 ·simp only[Ka]at h;simp only[Ds,decide_eq_true_eq];omega
 ·split at h
  ·cases h
  ·simp only[Ka]at h;rcases ((Zu4 h1 h4).2 b (by omega) hb).2 with q|q
   ·omega
   ·rw[<-h];exact q.2
def Lg:List UInt8->Option (Nat×Nat)
 | []=>none
 | b0::r=>if b0.toNat<128 then some (b0.toNat,1) else match r with
  | []=>none
  | b1::_=>if b0.toNat=0xa4/\0xa1<=b1.toNat/\b1.toNat<=0xf3 then some (0x3041+(b1.toNat-0xa1),2)
   else if b0.toNat=0xa5/\0xa1<=b1.toNat/\b1.toNat<=0xf6 then some (0x30a1+(b1.toNat-0xa1),2) else none
def Zez (n:Nat):Option (List UInt8) :=
 if n<128 then some [yN n]
 else if 0x3041<=n/\n<=0x3093 then some [yN 0xa4,yN (n-0x3041+0xa1)]
 else if 0x30a1<=n/\n<=0x30f6 then some [yN 0xa5,yN (n-0x30a1+0xa1)]
 else none
def Jb (cs:Nat) (l:List UInt8):Option (Nat×Nat) :=
 if cs=0 then dec l else if cs=5 then Lg l else match l with
  | []=>none
  | b::_=>(Ey cs b.toNat).map fun n=>(n,1)
def Zxt (cs n:Nat):Option (List UInt8) :=
 if cs=0 then (if Ds n then some (enc n) else none) else if cs=5 then Zez n else (Zz6 cs n).map fun b=>[yN b]
theorem Zat {cs:Nat}{l:List UInt8}{n k:Nat}(hc:cs<=5) (h:Jb cs l=some (n,k)):Ds n=true/\Zxt cs n=some (l.take k)/\1<=k/\k<=l.length:=by
 unfold Jb at h;unfold Zxt;split at h
 ·rename_i h0;obtain⟨a,b,c,d⟩:=Zlb h;rw[if_pos h0,if_pos a,b];exact⟨a,rfl,c,d⟩
 split at h
 ·rename_i h0 h5;rw[if_neg h0,if_pos h5]
  match l,h with
  | [],h=>simp [Lg]at h
  | b0::r,h =>
  have hb0:=Bv b0;simp only[Lg]at h;split at h
  ·rename_i hb;simp only[Ka,Kb]at h;obtain⟨rfl,rfl⟩:=h;refine⟨by simp only[Ds,decide_eq_true_eq];omega, ?_,Kf _,by simp⟩;rw[Zez,if_pos hb,Ef rfl];rfl
  ·match r,h with
   | [],h=>simp at h
   | b1::r,h =>
   have hb1:=Bv b1;simp only at h;split at h
   ·rename_i hb;simp only[Ka,Kb]at h;obtain⟨rfl,rfl⟩:=h;refine⟨by simp only[Ds,decide_eq_true_eq];omega, ?_,by omega,by simp⟩;rw[Zez,if_neg (by omega),if_pos (by omega),Ef (b:=b0) (by omega),Ef (b:=b1) (by omega)];rfl
   ·split at h
    ·rename_i hb;simp only[Ka,Kb]at h;obtain⟨rfl,rfl⟩:=h;refine⟨by simp only[Ds,decide_eq_true_eq];omega, ?_,by omega,by simp⟩;rw[Zez,if_neg (by omega),if_neg (by omega),if_pos (by omega),Ef (b:=b0) (by omega),Ef (b:=b1) (by omega)];rfl
    ·cases h
 ·rename_i h0 h5;rw[if_neg h0,if_neg h5]
  match l,h with
  | [],h=>simp at h
  | b::r,h =>
  simp only[Kx,Kb]at h;obtain⟨m,hm,rfl,rfl⟩:=h;refine⟨Yd3 (by omega) (by omega) (Bv b) hm, ?_,Kf _,by simp⟩;rw[Ytl (by omega) (by omega) (Bv b) hm,Kna,Ef rfl];rfl
def Wh (cs:Nat):Nat->List UInt8->Option (List Nat)
 | _,[]=>some []
 | 0,_::_=>none
 | k+1,l=>match Jb cs l with
  | none=>none
  | some (n,j)=>(Wh cs k (l.drop j)).map (n::·)
def Qz (cs:Nat) (l:List UInt8):Option (List Nat):=Wh cs l.length l
def Tm (ns:List Nat):List UInt8:=ns.flatMap enc
theorem Zz8 {cs:Nat}(hc:cs<=5):∀(k j:Nat) (l:List UInt8),l.length<=k->l.length<=j->Wh cs k l=Wh cs j l
 | 0,0,_,_,_=>rfl
 | k,j,[],_,_=>by cases k<;>cases j<;>rfl
 | 0,_+1,_::_,h,_=>by simp at h
 | _+1,0,_::_,_,h=>by simp at h
 | k+1,j+1,b::r,h1,h2=>by
  simp only[Wh];cases hs:Jb cs (b::r) with
  | none=>rfl
  | some x =>
   obtain⟨n,i⟩:=x;obtain⟨_,_,hi,_⟩:=Zat hc hs;simp only;rw[Zz8 hc k j _ (by simp only[Kpa,Ke]at *;omega) (by simp only[Kpa,Ke]at *;omega)]
theorem Ytm (cs:Nat):Qz cs []=some []:=rfl
theorem Zz9 {cs:Nat}(hc:cs<=5){l:List UInt8}(hl:l≠[]):Qz cs l=match Jb cs l with
  | none=>none
  | some (n,j)=>(Qz cs (l.drop j)).map (n::·):=by
 match l,hl with
 | b::r,_ =>
 unfold Qz;simp only[Ke,Wh];cases hs:Jb cs (b::r) with
 | none=>rfl
 | some x =>
  obtain⟨n,i⟩:=x;obtain⟨_,_,hi,_⟩:=Zat hc hs;simp only;rw[Zz8 hc r.length ((b::r).drop i).length _ (by simp only[Kpa,Ke];omega) (Kf _)]
theorem Yuh (ns:List Nat):(Tm ns).length<=4*ns.length:=by
 induction ns with
 | nil=>simp [Tm]
 | cons n ns ih =>
  have:=(Ztx (n:=n)).2;simp only[Tm,Kya,Kz,Ke]at *
  omega
def Nx (cs:Nat) (b:List UInt8):Option (List UInt8):=(Qz cs b).map Tm
theorem Yp4 {σ ρ:Type}{step:σ->Option (σ ⊕ ρ)}(inv:σ->Prop) (m:σ->Nat) (Q:ρ->Prop) (hs:∀s,inv s->(∃s',step s=some (.inl s')/\inv s'/\m s'<m s)\/∃r,step s=some (.inr r)/\Q r) (s0:σ) (h0:inv s0):∃r,Ar step s0=some r/\Q r:=by
 have key:∀k s,m s<=k->inv s->∃r,Ar step s=some r/\Q r:=by
  intro k
  induction k with
  | zero =>
   intro s hk h;rcases hs s h with ⟨s',h1,h2,h3⟩|⟨r,h1,h2⟩
   ·omega
   ·exact⟨r,by rw[Qj,h1],h2⟩
  | succ k ih =>
   intro s hk h;rcases hs s h with ⟨s',h1,h2,h3⟩|⟨r,h1,h2⟩
   ·obtain⟨r,h4,h5⟩:=ih s' (by omega) h2;exact⟨r,by rw[Qj,h1];exact h4,h5⟩
   ·exact⟨r,by rw[Qj,h1],h2⟩
 exact key (m s0) s0 (Kf _) h0
theorem Ys {β:Type}{p:Prop} [Decidable p] (x y:Option β):cnd (decide p) x y=if p then x else y:=by
 by_cases h:p<;>simp [h]
theorem Zr9 {β:Type}{b:Bool}(x y:Option β):cnd b x y=if b=true then x else y:=by cases b<;>rfl
theorem D0 (x l h:Int):Br (x,(l,h))=some (decide (l<=x/\x<=h)):=by
 unfold Br;simp only[iGe,iLe,Ys];split
 ·rename_i h1;have:l<=x:=h1;simp [this]
 ·rename_i h1;have:¬l<=x:=h1;simp [this]
theorem G9 (x l h:Int):Cu (x,(l,h))=some (decide (l<=x/\x<=h)):=D0 x l h
def sgn (x:Int):Bool:=decide (0<=x)&&Ds x.toNat
theorem Zoy (x:Int):Ub x=some (sgn x):=by
 unfold Ub;simp only[D0,Aa,Ys];split
 ·simp only[sgn,Ds,Ah];congr 1;rw[Ktc];simp only[Kjb,decide_eq_false_iff_not,Kd,decide_eq_true_eq];omega
 ·simp only[sgn,Ds];congr 1;rw[Ktc];simp only[Kd,decide_eq_true_eq,Kma,false_iff];omega
theorem Yov (x:Int):Zif x=some (sgn x):=Zoy x
theorem Gz (n:Nat):u8 (Ak .u8 (n:Int))=yN n:=by
 have e1:IntKind.u8.bits=8:=rfl;have e2:IntKind.u8.signed=false:=rfl;simp only[u8,Ak,IntKind.wrap,e1,e2,Ktd,Kma,if_false,yN];rw[show ((n:Int)%2^8)=((n%256:Nat):Int) by simp,Kxb];apply UInt8.toNat_inj.1;simp [UInt8.toNat_ofNat']
theorem orc {c q j b:Nat}(hc:c=q*2^j) (hb:b<2^j) (h1:c<2^63) (h2:b<2^63):iOr .i64 (c:Int) (b:Int)=((c+b:Nat):Int):=by
 rw[Zvc (k:=.i64) h1 h2,hc,Znr hb]
theorem Zxc {c q j b:Nat}(hc:c=q*2^j) (hb:b<2^j) (h1:c<256) (h2:b<256):iOr .u8 (c:Int) (b:Int)=((c+b:Nat):Int):=by
 rw[Yn9 h1 h2,hc,Znr hb]
theorem Zji {n:Nat}(h:n<2^63):Aw .i64 (n:Int) 63=((n%64:Nat):Int):=by
 have:=N4 (k:=.i64) (a:=n) (b:=63) h (by decide);rw[L3 (j:=6) (by decide)]at this;exact this
theorem Zas {n s:Nat}(hs:s<=64):B2 .i64 (n:Int) (s:Int)=((n / 2^s:Nat):Int):=Zvd (k:=.i64) hs
theorem Zo7 {n s:Nat}(hs:s<=32):B2 .i32 (n:Int) (s:Int)=((n / 2^s:Nat):Int):=Zvd (k:=.i32) hs
theorem Zzn {b:List UInt8}{x:Int}(hb:b.length+4<=140737488355328):Ua (b,x)=some (b++if sgn x then enc x.toNat else []):=by
 unfold Ua;simp only[Al,Kj,Zoy,Aa];rw[Bq (by omega),Av];cases hs:sgn x with
 | false=>simp
 | true =>
  simp only[Az,Ac];simp only[sgn,Kd,decide_eq_true_eq]at hs;obtain⟨h0,hs⟩:=hs;obtain⟨n,rfl⟩:=Kpc h0;simp only[Kxb,Ds,decide_eq_true_eq]at hs ⊢;have e6:B2 .i64 (n:Int) 6=((n / 64:Nat):Int):=Zas (s:=6) (by omega);have e12:B2 .i64 (n:Int) 12=((n / 4096:Nat):Int):=Zas (s:=12) (by omega);have e18:B2 .i64 (n:Int) 18=((n / 262144:Nat):Int):=Zas (s:=18) (by omega);have l1:iOr .i64 128 (Aw .i64 (n:Int) 63)=((128+n%64:Nat):Int):=by
   rw[Zji (by omega)];exact orc (c:=128) (q:=2) (j:=6) (by decide) (by omega) (by omega) (by omega)
  have l2:iOr .i64 128 (Aw .i64 ((n / 64:Nat):Int) 63)=((128+n / 64%64:Nat):Int):=by
   rw[Zji (by omega)];exact orc (c:=128) (q:=2) (j:=6) (by decide) (by omega) (by omega) (by omega)
  have l3:iOr .i64 128 (Aw .i64 ((n / 4096:Nat):Int) 63)=((128+n / 4096%64:Nat):Int):=by
   rw[Zji (by omega)];exact orc (c:=128) (q:=2) (j:=6) (by decide) (by omega) (by omega) (by omega)
  by_cases h1:n<128
  ·rw[G8 (by omega),Ad,Bq (by omega),Av,Gz,enc,if_pos h1];rfl
  rw[Jp (by omega),Ac];by_cases h2:n<2048
  ·rw[G8 (by omega),Ad,Bq (by omega),Av,enc,if_neg h1,if_pos h2,e6,l1];rw[show iOr .i64 192 ((n / 64:Nat):Int)=((192+n / 64:Nat):Int) from orc (c:=192) (q:=6) (j:=5) (by decide) (by omega) (by omega) (by omega),Gz,Gz];rfl
  rw[Jp (by omega),Ac];by_cases h3:n<65536
  ·rw[G8 (by omega),Ad,Bq (by omega),Av,enc,if_neg h1,if_neg h2,if_pos h3,e12,e6,l1,l2];rw[show iOr .i64 224 ((n / 4096:Nat):Int)=((224+n / 4096:Nat):Int) from orc (c:=224) (q:=14) (j:=4) (by decide) (by omega) (by omega) (by omega),Gz,Gz,Gz];rfl
  ·rw[Jp (by omega),Ac,Bq (by omega),Av,enc,if_neg h1,if_neg h2,if_neg h3,e18,e12,e6,l1,l2,l3];rw[show iOr .i64 240 ((n / 262144:Nat):Int)=((240+n / 262144:Nat):Int) from orc (c:=240) (q:=30) (j:=3) (by decide) (by omega) (by omega) (by omega),Gz,Gz,Gz,Gz];rfl
theorem Mg {b:List UInt8}(hb:b.length<=140737488355328):F4 [b]=some b:=by
 unfold F4;rw[Gn (fun i=>(if i=0 then [] else b,(i:Int))) 1 (.inl b)]
 ·rfl
 ·intro i hi;obtain rfl:i=0:=by omega
  show Rn [b] ([],0)=some (.inl (b,1));unfold Rn;rw[A5 (by simp),Ad,show idx [b] (([],0):List UInt8×Int).2=some b from rfl,Aa,Bq (by simp;omega),Av];rfl
 ·show Rn [b] (b,1)=some (.inr (.inl b));unfold Rn;rw[A3 (by simp),Ac]
 ·rfl
theorem J8 (n:Nat) (h:n<256):y2i (u8 (n:Int))=(n:Int):=by rw[Zqb,Cq,Fo h]
theorem Ycp (n:Nat):y2i (u8 (Ak .u8 (n:Int)))=((n%256:Nat):Int):=by
 rw[Gz,Cq,yN,UInt8.toNat_ofNat']
theorem Yos {b:List UInt8}{x:Int}(hb:b.length+4<=140737488355328):Zbq (b,x)=some (b++if sgn x then enc x.toNat else []):=by
 unfold Zbq;simp only[Mg (show b.length<=140737488355328 by omega),Aa,Yov];cases hs:sgn x with
 | false=>simp
 | true =>
  simp only[Az,Ac,if_true];simp only[sgn,Kd,decide_eq_true_eq]at hs;obtain⟨h0,hs⟩:=hs;obtain⟨n,rfl⟩:=Kpc h0;simp only[Kxb,Ds,decide_eq_true_eq]at hs ⊢;have ec:Ak .i32 (n:Int)=(n:Int):=Ik (k:=.i32) (show n<2^31 by omega);have eu:Ak .u32 (n:Int)=(n:Int):=Ik (k:=.u32) (show n<2^31 by omega);have e6:B2 .i32 (n:Int) 6=((n / 64:Nat):Int):=Zo7 (s:=6) (by omega);have e12:B2 .i32 (n:Int) 12=((n / 4096:Nat):Int):=Zo7 (s:=12) (by omega);have e18:B2 .i32 (n:Int) 18=((n / 262144:Nat):Int):=Zo7 (s:=18) (by omega);have lo:∀m:Nat,u8 (iOr .u8 (y2i (u8 128)) (y2i (u8 (Aw .u8 (y2i (u8 (Ak .u8 (m:Int)))) (y2i (u8 63))))))=yN (128+m%64):=by
   intro m;rw[Ycp,show y2i (u8 63)=((63:Nat):Int) from J8 63 (by omega),show y2i (u8 128)=((128:Nat):Int) from J8 128 (by omega)];rw[Zva (by omega) (by omega),L3 (j:=6) (by decide),J8 _ (by omega)];rw[show m%256%2^6=m%64 by omega,Zxc (q:=2) (j:=6) (by decide) (by omega) (by omega) (by omega),Zqb]
  have hi:∀(c q j m:Nat),c=q*2^j->m<2^j->c<256->m<256->u8 (iOr .u8 (y2i (u8 (c:Int))) (y2i (u8 (Ak .u8 (m:Int)))))=yN (c+m):=by
   intro c q j m h1 h2 h3 h4;rw[Ycp,J8 c h3,Kdd h4,Zxc h1 h2 h3 h4,Zqb]
  unfold Zio;simp only[ec,eu];by_cases h1:n<128
  ·rw[G8 (by omega),Ad,Bq (by omega),Av,Aa,Gz,enc,if_pos h1];rfl
  rw[Jp (by omega),Ac];unfold Zip;simp only[eu,e6,e12,e18,lo];by_cases h2:n<2048
  ·rw[G8 (by omega),Ad,Bq (by omega),Av,Aa,Aa,enc,if_neg h1,if_pos h2];rw[show u8 (iOr .u8 (y2i (u8 192)) (y2i (u8 (Ak .u8 ((n / 64:Nat):Int)))))=yN (192+n / 64) from hi 192 6 5 _ (by decide) (by omega) (by omega) (by omega)];rfl
  rw[Jp (by omega),Ac];by_cases h3:n<65536
  ·have e3:(cnd (iLt (n:Int) 55296) (some (Sum.inl (β:=List UInt8) true)) (cnd (iLt 57343 (n:Int)) (some (.inl (iLe (n:Int) 65535))) (some (.inl false))))=some (.inl true):=by
    by_cases h4:n<55296
    ·rw[A5 (by omega),Ad]
    ·rw[A3 (by omega),Ac,A5 (by omega),Ad,G8 (by omega)]
   rw[e3,Ax,Ad,Bq (by omega),Av,Aa,Aa,enc,if_neg h1,if_neg h2,if_pos h3];rw[show u8 (iOr .u8 (y2i (u8 224)) (y2i (u8 (Ak .u8 ((n / 4096:Nat):Int)))))=yN (224+n / 4096) from hi 224 14 4 _ (by decide) (by omega) (by omega) (by omega)];rfl
  ·have e3:(cnd (iLt (n:Int) 55296) (some (Sum.inl (β:=List UInt8) true)) (cnd (iLt 57343 (n:Int)) (some (.inl (iLe (n:Int) 65535))) (some (.inl false))))=some (.inl false):=by
    rw[A3 (by omega),Ac,A5 (by omega),Ad,Jp (by omega)]
   rw[e3,Ax,Ac,Df (by omega),Ad,G8 (by omega),Ad,Bq (by omega),Av,Aa,Aa,enc,if_neg h1,if_neg h2,if_neg h3];rw[show u8 (iOr .u8 (y2i (u8 240)) (y2i (u8 (Ak .u8 ((n / 262144:Nat):Int)))))=yN (240+n / 262144) from hi 240 30 3 _ (by decide) (by omega) (by omega) (by omega)];rfl
theorem Vu {σ ρ:Type}{step:σ->Option (σ ⊕ ρ)}{s s':σ}(h:step s=some (.inl s')):Ar step s=Ar step s':=by rw[Qj,h]
theorem Ju {σ ρ:Type}{step:σ->Option (σ ⊕ ρ)}{s:σ}{r:ρ}(h:step s=some (.inr r)):Ar step s=some r:=by rw[Qj,h]
def Ee (o:Option (Nat×Nat)) (z:Int):Int×Int×Bool:=match o with
 | some (n,k)=>((n:Int),z+(k:Int),true)
 | none=>(0,0,false)
theorem Yef:∀b:Fin 256,iNe (y2i (u8 (Aw .u8 (y2i (UInt8.ofNat b.val)) (y2i (u8 192))))) (y2i (u8 128))=!C5 (UInt8.ofNat b.val):=by decide +kernel
theorem Yeg (b:UInt8):iNe (y2i (u8 (Aw .u8 (y2i b) (y2i (u8 192))))) (y2i (u8 128))=!C5 b:=by
 have:=Yef ⟨b.toNat,Bv b⟩;simpa using this
theorem Zwn (b:UInt8){j m:Nat}(hm:m=2^j-1) (h:m<256):y2i (u8 (Aw .u8 (y2i b) (y2i (u8 (m:Int)))))=((b.toNat%2^j:Nat):Int):=by
 have:=Bv b;have hle:b.toNat%2^j<=b.toNat:=Nat.mod_le _ _;rw[J8 m h,Cq b,Zva (by omega) h,L3 hm,J8 _ (by omega)]
theorem Ypc {α:Type}(b:List α) (i j:Nat) (h:i+j<9223372036854775808):idx b (Aj .i64 (i:Int) (j:Int))=(b.drop i)[j]?:=by
 rw[Zb h,Ha,Kdb]
def l2 (b:UInt8):Nat:=if b.toNat<128 then 1 else if b.toNat<194 then 0 else if b.toNat<224 then 2 else if b.toNat<240 then 3 else if b.toNat<245 then 4 else 0
theorem Ys6 (b:UInt8):Zct b=some ((l2 b:Nat):Int):=by
 have hb:=Bv b;have e0:y2i (u8 128)=128:=J8 128 (by omega);have e1:Ak .i64 (b.toNat:Int)=(b.toNat:Int):=Ik (k:=.i64) (show b.toNat<2^63 by omega);unfold Zct l2;simp only[e0,Cq,e1,D0,Aa,iLt,Ys];by_cases h1:b.toNat<128
 ·rw[if_pos (by omega),if_pos h1];rfl
 rw[if_neg (by omega),if_neg h1];by_cases h2:b.toNat<194
 ·rw[if_neg (by omega),if_neg (by omega),if_neg (by omega),if_pos h2];rfl
 rw[if_neg h2];by_cases h3:b.toNat<224
 ·rw[if_pos (by omega),if_pos h3];rfl
 rw[if_neg (by omega),if_neg h3];by_cases h4:b.toNat<240
 ·rw[if_pos (by omega),if_pos h4];rfl
 rw[if_neg (by omega),if_neg h4];by_cases h5:b.toNat<245
 ·rw[if_pos (by omega),if_pos h5];rfl
 ·rw[if_neg (by omega),if_neg h5];rfl
theorem Yer {l:List UInt8}{n k:Nat}(h:∀x,dec l=some x->x=(n,k)):dec l=if Ds n=true/\enc n=l.take k then some (n,k) else none:=by
 cases hd:dec l with
 | some x =>
  have:=h x hd;subst this;obtain⟨a,b,_⟩:=Zlb hd;rw[if_pos ⟨a,b⟩]
 | none =>
  rw[if_neg];rintro ⟨a,b⟩;have:=Yes a (l.drop k);rw[b,Ksc,hd]at this;cases this
theorem Zg6 {b:List UInt8}{i n k:Nat}(hl:b.length<4611686018427387904) (hi:i+k<=b.length) (h:∀x,dec (b.drop i)=some x->x=(n,k)) :
  (bnd (Ub (n:Int)) fun z7=>cnd (Ah z7) (some (0,(0,false))) (bnd (Ua ([],(n:Int))) fun z8=>chk (Cp (i:Int) (Aj .i64 (i:Int) (k:Int)) (Ae b)) (cnd (Ah (sEq z8 (A9 ((nOf (Aj .i64 (i:Int) (k:Int)))-(nOf (i:Int))) (Dk (nOf (i:Int)) b)))) (some (0,(0,false))) (some ((n:Int),((Aj .i64 (i:Int) (k:Int)),true))))))
   = some (Ee (dec (b.drop i)) i):=by
 rw[Yer h];have ea:Aj .i64 (i:Int) (k:Int)=((i+k:Nat):Int):=Zb (by omega);have es:sgn (n:Int)=Ds n:=by simp [sgn]
 have et:A9 (nOf ((i+k:Nat):Int)-nOf (i:Int)) (Dk (nOf (i:Int)) b)=(b.drop i).take k:=by
  rw[Es,Es,A9,Dk,Kdg]
 rw[Zoy,Aa,es];cases hs:Ds n with
 | false=>simp [Ee]
 | true =>
  rw[Zzn (by simp),Aa,es,hs,ea,et];have ew:Cp (i:Int) ((i+k:Nat):Int) (Ae b)=true:=by
   unfold Cp;rw[decide_eq_true_eq,Ai];omega
  simp only[Az,Ac,ew,Av,if_true,Kj,Kxb,true_and,sEq,Ah];by_cases he:enc n=(b.drop i).take k
  ·rw[if_pos he,he,beq_self_eq_true];simp [Ee]
  ·rw[if_neg he];have:(enc n==(b.drop i).take k)=false:=by simpa using he
   rw[this];simp [Ee]
theorem Ytk {a c:Nat}(ha:a<1099511627776) (hc:c<64):iOr .i64 (B1 .i64 (a:Int) 6) (c:Int)=((a*64+c:Nat):Int):=by
 have h1:a*64<9223372036854775808:=by omega
 have e:B1 .i64 (a:Int) 6=((a*64:Nat):Int):=Vi (k:=.i64) (s:=6) (by decide) h1;rw[e];exact orc (c:=a*64) (q:=a) (j:=6) rfl hc h1 (by omega)
theorem Wc {b:List UInt8}{i j k n:Nat}{y:UInt8}(j':Nat) (hl:b.length<4611686018427387904) (hi:i<=b.length) (hk:k<=4) (hj:j<k) (hj':j'=j+1) (hn:n<1099511627776) (hy:(b.drop i)[j]? = some y) :
  Nm (b,(i:Int)) (k:Int) ((n:Int),(j:Int))=if C5 y then some (.inl (((n*64+y.toNat%64:Nat):Int),(j':Int))) else some (.inr (.inr (0,(0,false)))):=by
 subst hj';unfold Nm;simp only;rw[A5 (by omega),Ad,Ypc b i j (by omega),hy,Aa,Aa,Yeg];cases C5 y with
 | false=>simp
 | true =>
  have e63:y2i (u8 (Aw .u8 (y2i y) (y2i (u8 63))))=((y.toNat%2^6:Nat):Int):=Zwn y (m:=63) (by decide) (by omega);have ec:Ak .i64 ((y.toNat%2^6:Nat):Int)=((y.toNat%2^6:Nat):Int):=Ik (k:=.i64) (show y.toNat%2^6<2^63 by omega);simp only[Kld,Ac,if_true];rw[e63,ec,Cw (by omega)];rw[show (2:Nat)^6=64 by rfl,Ytk hn (by omega)]
theorem Zg8 {b:List UInt8}{i k n:Nat}:Nm (b,(i:Int)) (k:Int) ((n:Int),(k:Int))=some (.inr (.inl (n:Int))):=by
 unfold Nm;simp only;rw[A3 (Koc _),Ac]
theorem Ysl {b:List UInt8}{i:Nat}(hl:b.length<4611686018427387904) (hi:i<b.length):Zcm (b,(i:Int))=some (Ee (dec (b.drop i)) i):=by
 unfold Zcm;have e0:A1 .i64 (Ae b) 1=(b.length:Int)-1:=D3 (by simp only[Ai];omega) (by simp only[Ai];omega);simp only[D0,Aa];rw[e0,show decide ((0:Int)<=(i:Int)/\(i:Int)<=(b.length:Int)-1)=true by simp only[decide_eq_true_eq];omega,Az,Ac,Bp hi,Aa,Ys6,Aa];have hd:b.drop i=b[i]::b.drop (i+1):=Kcc hi;have hlen:(b.drop i).length=b.length-i:=Kpa;have e1:A1 .i64 (Ae b) (i:Int)=((b.length-i:Nat):Int):=by
  rw[D3 (by simp only[Ai];omega) (by simp only[Ai];omega),Ai];omega
 have hb0:=Bv b[i];have ec0:Ak .i64 (y2i b[i])=((b[i].toNat:Nat):Int):=Ik (k:=.i64) (show b[i].toNat<2^63 by omega);rw[e1];unfold l2;by_cases h1:b[i].toNat<128
 ·rw[if_pos h1,Eg (by decide),Ac,Dx (by omega),Ac,Aa,Dx (by omega),Ac,Ax,ec0];rw[Ju (show Nm (b,(i:Int)) ((1:Nat):Int) (((b[i].toNat:Nat):Int),1)=_ from Zg8 (k:=1)),Ax];refine Zg6 (k:=1) hl (by omega) fun x hx=>?_;rw[hd]at hx;simp only[dec,if_pos h1,Ka]at hx;exact hx.symm
 rw[if_neg h1];by_cases h2:b[i].toNat<194
 ·rw[if_pos h2,show iEq ((0:Nat):Int) 0=true from rfl,Ad,hd];simp only[dec,if_neg h1,if_pos h2,Ee]
 rw[if_neg h2];by_cases h3:b[i].toNat<224
 ·rw[if_pos h3,Eg (by decide),Ac];by_cases hk:b.length-i<2
  ·rw[Df (by omega),Ad,hd];have:b.drop (i+1)=[]:=Kle (by omega);rw[this];simp only[dec,if_neg h1,if_neg h2,if_pos h3,Pz,Ee]
  rw[Dx (by omega),Ac,Aa,Df (by omega),Ad];rw[show iLe 0 (Ak .u64 ((2:Nat):Int))=true by decide +kernel,Av,Ax,ec0];have em:Aw .i64 ((b[i].toNat:Nat):Int) (B2 .i64 127 (Ak .u64 ((2:Nat):Int)))=((b[i].toNat%32:Nat):Int):=by
   rw[show B2 .i64 127 (Ak .u64 ((2:Nat):Int))=((31:Nat):Int) by decide +kernel,N4 (k:=.i64) (show b[i].toNat<2^63 by omega) (by decide),L3 (j:=5) (by decide)]
  rw[em];obtain⟨b1,r,hr⟩:∃b1 r,b.drop (i+1)=b1::r:=by
   cases hq:b.drop (i+1) with
   | nil=>have:=congrArg List.length hq;simp only[Kpa,Ki]at this;omega
   | cons x y=>exact⟨x,y,rfl⟩
  have y1:(b.drop i)[1]? = some b1:=by rw[hd,hr];rfl
  have s1:Nm (b,(i:Int)) ((2:Nat):Int) (((b[i].toNat%32:Nat):Int),1)=_:=Wc (j:=1) 2 (k:=2) (n:=b[i].toNat%32) hl (by omega) (by omega) (by omega) rfl (by omega) y1;by_cases c1:C5 b1=true
  ·rw[if_pos c1]at s1;rw[Vu s1,Ju (Zg8 (k:=2)),Ax];refine Zg6 (k:=2) hl (by omega) fun x hx=>?_;rw[hd,hr]at hx;simp only[dec,if_neg h1,if_neg h2,if_pos h3,Pz,if_pos c1,Ka]at hx;exact hx.symm
  ·rw[if_neg c1]at s1;rw[Ju s1,Oa,hd,hr];simp only[dec,if_neg h1,if_neg h2,if_pos h3,Pz,if_neg c1,Ee]
 rw[if_neg h3];by_cases h4:b[i].toNat<240
 ·rw[if_pos h4,Eg (by decide),Ac];by_cases hk:b.length-i<3
  ·rw[Df (by omega),Ad,hd];have:L7 b[i] (b.drop (i+1))=none:=by
    have hl3:(b.drop (i+1)).length<2:=by rw[Kpa];omega
    match b.drop (i+1),hl3 with
    | [],_=>rfl
    | [_],_=>rfl
    | _::_::_,h=>simp at h;omega
   simp only[dec,if_neg h1,if_neg h2,if_neg h3,if_pos h4,this,Ee]
  rw[Dx (by omega),Ac,Aa,Df (by omega),Ad];rw[show iLe 0 (Ak .u64 ((3:Nat):Int))=true by decide +kernel,Av,Ax,ec0];have em:Aw .i64 ((b[i].toNat:Nat):Int) (B2 .i64 127 (Ak .u64 ((3:Nat):Int)))=((b[i].toNat%16:Nat):Int):=by
   rw[show B2 .i64 127 (Ak .u64 ((3:Nat):Int))=((15:Nat):Int) by decide +kernel,N4 (k:=.i64) (show b[i].toNat<2^63 by omega) (by decide),L3 (j:=4) (by decide)]
  rw[em];obtain⟨b1,b2,r,hr⟩:∃b1 b2 r,b.drop (i+1)=b1::b2::r:=by
   have hl3:2<=(b.drop (i+1)).length:=by rw[Kpa];omega
   match b.drop (i+1),hl3 with
   | x::y::r,_=>exact⟨x,y,r,rfl⟩
  have y1:(b.drop i)[1]? = some b1:=by rw[hd,hr];rfl
  have y2:(b.drop i)[2]? = some b2:=by rw[hd,hr];rfl
  have q1:=Bv b1;have s1:Nm (b,(i:Int)) ((3:Nat):Int) (((b[i].toNat%16:Nat):Int),1)=_:=Wc (j:=1) 2 (k:=3) (n:=b[i].toNat%16) hl (by omega) (by omega) (by omega) rfl (by omega) y1;have s2:=Wc (j:=2) 3 (k:=3) (n:=b[i].toNat%16*64+b1.toNat%64) hl (by omega) (by omega) (by omega) rfl (by omega) y2;by_cases c1:C5 b1=true
  ·rw[if_pos c1]at s1;rw[Vu s1];by_cases c2:C5 b2=true
   ·rw[if_pos c2]at s2;rw[Vu s2,Ju (Zg8 (k:=3)),Ax];refine Zg6 (k:=3) hl (by omega) fun x hx=>?_;rw[hd,hr]at hx;simp only[dec,if_neg h1,if_neg h2,if_neg h3,if_pos h4,L7]at hx;split at hx
    ·simp only[Ka]at hx;rw[<-hx];congr 1;omega
    ·cases hx
   ·rw[if_neg c2]at s2;rw[Ju s2,Oa,hd,hr];simp only[dec,if_neg h1,if_neg h2,if_neg h3,if_pos h4,L7];rw[if_neg (fun h=>c2 h.2.2)];rfl
  ·rw[if_neg c1]at s1;rw[Ju s1,Oa,hd,hr];simp only[dec,if_neg h1,if_neg h2,if_neg h3,if_pos h4,L7];rw[if_neg]
   ·rfl
   ·rintro ⟨a,c,_⟩;refine c1 ?_;simp only[C5,decide_eq_true_eq];unfold Mj at a;unfold hi3 at c;split at a<;>split at c<;>omega
 rw[if_neg h4];by_cases h5:b[i].toNat<245
 ·rw[if_pos h5,Eg (by decide),Ac];by_cases hk:b.length-i<4
  ·rw[Df (by omega),Ad,hd];have:Jm b[i] (b.drop (i+1))=none:=by
    have hl3:(b.drop (i+1)).length<3:=by rw[Kpa];omega
    match b.drop (i+1),hl3 with
    | [],_=>rfl
    | [_],_=>rfl
    | [_,_],_=>rfl
    | _::_::_::_,h=>simp at h;omega
   simp only[dec,if_neg h1,if_neg h2,if_neg h3,if_neg h4,if_pos h5,this,Ee]
  rw[Dx (by omega),Ac,Aa,Df (by omega),Ad];rw[show iLe 0 (Ak .u64 ((4:Nat):Int))=true by decide +kernel,Av,Ax,ec0];have em:Aw .i64 ((b[i].toNat:Nat):Int) (B2 .i64 127 (Ak .u64 ((4:Nat):Int)))=((b[i].toNat%8:Nat):Int):=by
   rw[show B2 .i64 127 (Ak .u64 ((4:Nat):Int))=((7:Nat):Int) by decide +kernel,N4 (k:=.i64) (show b[i].toNat<2^63 by omega) (by decide),L3 (j:=3) (by decide)]
  rw[em];obtain⟨b1,b2,b3,r,hr⟩:∃b1 b2 b3 r,b.drop (i+1)=b1::b2::b3::r:=by
   have hl3:3<=(b.drop (i+1)).length:=by rw[Kpa];omega
   match b.drop (i+1),hl3 with
   | x::y::z::r,_=>exact⟨x,y,z,r,rfl⟩
  have y1:(b.drop i)[1]? = some b1:=by rw[hd,hr];rfl
  have y2:(b.drop i)[2]? = some b2:=by rw[hd,hr];rfl
  have y3:(b.drop i)[3]? = some b3:=by rw[hd,hr];rfl
  have q1:=Bv b1;have q2:=Bv b2;have s1:Nm (b,(i:Int)) ((4:Nat):Int) (((b[i].toNat%8:Nat):Int),1)=_:=Wc (j:=1) 2 (k:=4) (n:=b[i].toNat%8) hl (by omega) (by omega) (by omega) rfl (by omega) y1;have s2:=Wc (j:=2) 3 (k:=4) (n:=b[i].toNat%8*64+b1.toNat%64) hl (by omega) (by omega) (by omega) rfl (by omega) y2;have s3:=Wc (j:=3) 4 (k:=4) (n:=(b[i].toNat%8*64+b1.toNat%64)*64+b2.toNat%64) hl (by omega) (by omega) (by omega) rfl (by omega) y3;by_cases c1:C5 b1=true
  ·rw[if_pos c1]at s1;rw[Vu s1];by_cases c2:C5 b2=true
   ·rw[if_pos c2]at s2;rw[Vu s2];by_cases c3:C5 b3=true
    ·rw[if_pos c3]at s3;rw[Vu s3,Ju (Zg8 (k:=4)),Ax];refine Zg6 (k:=4) hl (by omega) fun x hx=>?_;rw[hd,hr]at hx;simp only[dec,if_neg h1,if_neg h2,if_neg h3,if_neg h4,if_pos h5,Jm]at hx;split at hx
     ·simp only[Ka]at hx;rw[<-hx];congr 1;omega
     ·cases hx
    ·rw[if_neg c3]at s3;rw[Ju s3,Oa,hd,hr];simp only[dec,if_neg h1,if_neg h2,if_neg h3,if_neg h4,if_pos h5,Jm];rw[if_neg (fun h=>c3 h.2.2.2)];rfl
   ·rw[if_neg c2]at s2;rw[Ju s2,Oa,hd,hr];simp only[dec,if_neg h1,if_neg h2,if_neg h3,if_neg h4,if_pos h5,Jm];rw[if_neg (fun h=>c2 h.2.2.1)];rfl
  ·rw[if_neg c1]at s1;rw[Ju s1,Oa,hd,hr];simp only[dec,if_neg h1,if_neg h2,if_neg h3,if_neg h4,if_pos h5,Jm];rw[if_neg]
   ·rfl
   ·rintro ⟨a,c,_⟩;refine c1 ?_;simp only[C5,decide_eq_true_eq];unfold Ml at a;unfold hi4 at c;split at a<;>split at c<;>omega
 ·rw[if_neg h5,show iEq ((0:Nat):Int) 0=true from rfl,Ad,hd];simp only[dec,if_neg h1,if_neg h2,if_neg h3,if_neg h4,if_neg h5,Ee]
structure XT (x lo hi:UInt8) (k:Nat):Prop where
 a:iGe (y2i x) (y2i (u8 240))=false
 b:iLe 0 (y2i (u8 (B2 .u8 (y2i x) 4)))=true
 c:iLt (y2i (u8 (B2 .u8 (y2i x) 4))) 16=true
 d:idx U9 (Int.ofNat (0+((nOf (y2i (u8 (B2 .u8 (y2i x) 4))))*2)))=some lo
 e:idx U9 (Int.ofNat ((0+((nOf (y2i (u8 (B2 .u8 (y2i x) 4))))*2))+1))=some hi
 f:Ak .i64 (y2i (u8 (Aw .u8 (y2i x) (y2i (u8 7)))))=(k:Int)
theorem xt2:XT 0x02 128 191 2:=⟨by decide +kernel,by decide +kernel,by decide +kernel,by decide +kernel,by decide +kernel,by decide +kernel⟩
theorem Yv0:XT 0x13 160 191 3:=⟨by decide +kernel,by decide +kernel,by decide +kernel,by decide +kernel,by decide +kernel,by decide +kernel⟩
theorem xt3:XT 0x03 128 191 3:=⟨by decide +kernel,by decide +kernel,by decide +kernel,by decide +kernel,by decide +kernel,by decide +kernel⟩
theorem Yv1:XT 0x23 128 159 3:=⟨by decide +kernel,by decide +kernel,by decide +kernel,by decide +kernel,by decide +kernel,by decide +kernel⟩
theorem Yv2:XT 0x34 144 191 4:=⟨by decide +kernel,by decide +kernel,by decide +kernel,by decide +kernel,by decide +kernel,by decide +kernel⟩
theorem xt4:XT 0x04 128 191 4:=⟨by decide +kernel,by decide +kernel,by decide +kernel,by decide +kernel,by decide +kernel,by decide +kernel⟩
theorem Yv3:XT 0x44 128 143 4:=⟨by decide +kernel,by decide +kernel,by decide +kernel,by decide +kernel,by decide +kernel,by decide +kernel⟩
theorem Yit:∀b:Fin 256,128<=b.val->P5[b.val]? = some (if b.val<194 then 241 else if b.val<224 then 0x02 else if b.val=224 then 0x13 else if b.val=237 then 0x23 else if b.val<240 then 0x03 else if b.val=240 then 0x34 else if b.val<244 then 0x04 else if b.val=244 then 0x44 else 241):=by decide +kernel
theorem Yds:∀b:Fin 256,iOr .i32 (Zl4 .i32 (Ak .i32 (y2i (UInt8.ofNat b.val))) (B2 .i32 (B1 .i32 (Ak .i32 (y2i 241)) 31) 31)) (Aw .i32 65533 (B2 .i32 (B1 .i32 (Ak .i32 (y2i 241)) 31) 31))=65533:=by decide +kernel
theorem Wg {a s:Nat}(hs:s<=32) (h:a*2^s<2147483648):B1 .i32 (a:Int) (s:Int)=((a*2^s:Nat):Int):=Vi (k:=.i32) hs h
theorem V2 {a j b:Nat}(hb:b<2^j) (h1:a*2^j<2147483648) (h2:b<2147483648):iOr .i32 ((a*2^j:Nat):Int) (b:Int)=((a*2^j+b:Nat):Int):=by
 rw[Zvc (k:=.i32) h1 h2,Znr hb]
theorem m32 (b:UInt8){j m:Nat}(hm:m=2^j-1) (h:m<256) (hj:j<=8):Ak .i32 (y2i (u8 (Aw .u8 (y2i b) (y2i (u8 (m:Int))))))=((b.toNat%2^j:Nat):Int):=by
 have hlt:b.toNat%2^j<2^31:=Kmg (Nat.mod_le _ _) (by have:=Bv b;omega);rw[Zwn b hm h];exact Ik (k:=.i32) hlt
theorem Yu2 (b0 b1:UInt8):iOr .i32 (B1 .i32 (Ak .i32 (y2i (u8 (Aw .u8 (y2i b0) (y2i (u8 31)))))) 6) (Ak .i32 (y2i (u8 (Aw .u8 (y2i b1) (y2i (u8 63))))))=((b0.toNat%32*64+b1.toNat%64:Nat):Int):=by
 have h0:=Bv b0;rw[show Ak .i32 (y2i (u8 (Aw .u8 (y2i b0) (y2i (u8 31)))))=((b0.toNat%32:Nat):Int) from m32 b0 (m:=31) (j:=5) rfl (by omega) (by omega),
  show Ak .i32 (y2i (u8 (Aw .u8 (y2i b1) (y2i (u8 63)))))=((b1.toNat%64:Nat):Int) from m32 b1 (m:=63) (j:=6) rfl (by omega) (by omega)]
 rw[show B1 .i32 ((b0.toNat%32:Nat):Int) 6=((b0.toNat%32*2^6:Nat):Int) from Wg (s:=6) (by omega) (by omega)];exact V2 (j:=6) (by omega) (by omega) (by omega)
theorem Yu3 (b0 b1 b2:UInt8):iOr .i32 (iOr .i32 (B1 .i32 (Ak .i32 (y2i (u8 (Aw .u8 (y2i b0) (y2i (u8 15)))))) 12) (B1 .i32 (Ak .i32 (y2i (u8 (Aw .u8 (y2i b1) (y2i (u8 63)))))) 6)) (Ak .i32 (y2i (u8 (Aw .u8 (y2i b2) (y2i (u8 63))))))=((b0.toNat%16*4096+b1.toNat%64*64+b2.toNat%64:Nat):Int):=by
 have h0:=Bv b0;have e:∀b:UInt8,Ak .i32 (y2i (u8 (Aw .u8 (y2i b) (y2i (u8 63)))))=((b.toNat%64:Nat):Int):=fun b=>m32 b (m:=63) (j:=6) rfl (by omega) (by omega);rw[show Ak .i32 (y2i (u8 (Aw .u8 (y2i b0) (y2i (u8 15)))))=((b0.toNat%16:Nat):Int) from m32 b0 (m:=15) (j:=4) rfl (by omega) (by omega),e b1,e b2];rw[show B1 .i32 ((b0.toNat%16:Nat):Int) 12=((b0.toNat%16*2^12:Nat):Int) from Wg (s:=12) (by omega) (by omega),
  show B1 .i32 ((b1.toNat%64:Nat):Int) 6=((b1.toNat%64*2^6:Nat):Int) from Wg (s:=6) (by omega) (by omega)]
 rw[V2 (j:=12) (by omega) (by omega) (by omega)];rw[show b0.toNat%16*2^12+b1.toNat%64*2^6=(b0.toNat%16*64+b1.toNat%64)*2^6 by omega,V2 (j:=6) (by omega) (by omega) (by omega)]
theorem Yu4 (b0 b1 b2 b3:UInt8):iOr .i32 (iOr .i32 (iOr .i32 (B1 .i32 (Ak .i32 (y2i (u8 (Aw .u8 (y2i b0) (y2i (u8 7)))))) 18) (B1 .i32 (Ak .i32 (y2i (u8 (Aw .u8 (y2i b1) (y2i (u8 63)))))) 12)) (B1 .i32 (Ak .i32 (y2i (u8 (Aw .u8 (y2i b2) (y2i (u8 63)))))) 6)) (Ak .i32 (y2i (u8 (Aw .u8 (y2i b3) (y2i (u8 63))))))=((b0.toNat%8*262144+b1.toNat%64*4096+b2.toNat%64*64+b3.toNat%64:Nat):Int):=by
 have h0:=Bv b0;have e:∀b:UInt8,Ak .i32 (y2i (u8 (Aw .u8 (y2i b) (y2i (u8 63)))))=((b.toNat%64:Nat):Int):=fun b=>m32 b (m:=63) (j:=6) rfl (by omega) (by omega);rw[show Ak .i32 (y2i (u8 (Aw .u8 (y2i b0) (y2i (u8 7)))))=((b0.toNat%8:Nat):Int) from m32 b0 (m:=7) (j:=3) rfl (by omega) (by omega),e b1,e b2,e b3];rw[show B1 .i32 ((b0.toNat%8:Nat):Int) 18=((b0.toNat%8*2^18:Nat):Int) from Wg (s:=18) (by omega) (by omega),
  show B1 .i32 ((b1.toNat%64:Nat):Int) 12=((b1.toNat%64*2^12:Nat):Int) from Wg (s:=12) (by omega) (by omega),
  show B1 .i32 ((b2.toNat%64:Nat):Int) 6=((b2.toNat%64*2^6:Nat):Int) from Wg (s:=6) (by omega) (by omega)]
 rw[V2 (j:=18) (by omega) (by omega) (by omega)];rw[show b0.toNat%8*2^18+b1.toNat%64*2^12=(b0.toNat%8*64+b1.toNat%64)*2^12 by omega,V2 (j:=12) (by omega) (by omega) (by omega)];rw[show (b0.toNat%8*64+b1.toNat%64)*2^12+b2.toNat%64*2^6=((b0.toNat%8*64+b1.toNat%64)*64+b2.toNat%64)*2^6 by omega,V2 (j:=6) (by omega) (by omega) (by omega)]
def Oo (o:Option (Nat×Nat)):Int×Int:=match o with
 | some (n,k)=>((n:Int),(k:Int))
 | none=>(65533,1)
def Ou (b0 lo hi:UInt8) (k:Nat) (r:List UInt8):Int×Int:=if r.length+1<k then (65533,1) else match r with
   | []=>(65533,1)
   | b1::r=>if b1.toNat<lo.toNat\/hi.toNat<b1.toNat then (65533,1) else if k<=2 then (((b0.toNat%32*64+b1.toNat%64:Nat):Int),2) else match r with
    | []=>(65533,1)
    | b2::r=>if b2.toNat<128\/191<b2.toNat then (65533,1) else if k<=3 then (((b0.toNat%16*4096+b1.toNat%64*64+b2.toNat%64:Nat):Int),3) else match r with
     | []=>(65533,1)
     | b3::_=>if b3.toNat<128\/191<b3.toNat then (65533,1) else (((b0.toNat%8*262144+b1.toNat%64*4096+b2.toNat%64*64+b3.toNat%64:Nat):Int),4)
theorem Tf {b0:UInt8}{r:List UInt8}{x lo hi:UInt8}{k:Nat}(hf:P5[b0.toNat]? = some x) (ht:XT x lo hi k) (hk:2<=k) (hl:r.length<4611686018427387904) :
  Nj (b0::r)=some (Ou b0 lo hi k r):=by
 have h0:=Bv b0;have e0:idx (b0::r) 0=some b0:=rfl;have e1:idx P5 (Int.ofNat (0+nOf (y2i b0)*1))=some x:=by
  rw[Cq,Es,N6];simpa using hf
 by_cases hs:r.length+1<k
 ·unfold Ou;rw[if_pos hs];unfold Nj;rw[A3 (by simp only[Ai,Ke];omega),Ac,e0,Aa,G8 (by rw[Cq];omega),Av,A5 (by rw[Cq];omega),Av,e1,Aa,ht.a,Ac,ht.b,Av,ht.c,Av,ht.d,Aa,ht.e,Aa,ht.f,
   A5 (by simp only[Ai,Ke];omega),Ad]
 match r with
 | []=>exact (hs (by simp only[Ki];omega)).elim
 | b1::r =>
  have h1:=Bv b1;have i1:idx (b0::b1::r) 1=some b1:=rfl;have pre:Nj (b0::b1::r)=(cnd (iLt (y2i b1) (y2i lo)) (some (65533,1)) (cnd (iLt (y2i hi) (y2i b1)) (some (65533,1))
   (cnd (iLe (k:Int) 2) (some ((iOr .i32 (B1 .i32 (Ak .i32 (y2i (u8 (Aw .u8 (y2i b0) (y2i (u8 31)))))) 6) (Ak .i32 (y2i (u8 (Aw .u8 (y2i b1) (y2i (u8 63))))))),2)) (bnd (idx (b0::b1::r) 2) (fun z6=>(cnd (iLt (y2i z6) (y2i (u8 128))) (some (65533,1)) (cnd (iLt (y2i (u8 191)) (y2i z6)) (some
   (65533,1)) (cnd (iLe (k:Int) 3) (some ((iOr .i32 (iOr .i32 (B1 .i32 (Ak .i32 (y2i (u8 (Aw .u8 (y2i b0) (y2i (u8 15))))))
   12) (B1 .i32 (Ak .i32 (y2i (u8 (Aw .u8 (y2i b1) (y2i (u8 63)))))) 6)) (Ak .i32 (y2i (u8 (Aw .u8 (y2i z6) (y2i (u8 63))))))),3)) (bnd (idx (b0::b1::r) 3) (fun z7 =>
   (cnd (iLt (y2i z7) (y2i (u8 128))) (some (65533,1)) (cnd (iLt (y2i (u8 191)) (y2i z7)) (some (65533,1)) (some ((iOr .i32 (iOr .i32 (iOr .i32 (B1 .i32 (Ak .i32 (y2i (u8
   (Aw .u8 (y2i b0) (y2i (u8 7)))))) 18) (B1 .i32 (Ak .i32 (y2i (u8 (Aw .u8 (y2i b1) (y2i (u8 63)))))) 12)) (B1 .i32 (Ak .i32 (y2i (u8 (Aw .u8 (y2i z6) (y2i (u8
   63)))))) 6)) (Ak .i32 (y2i (u8 (Aw .u8 (y2i z7) (y2i (u8 63))))))),4)))))))))))))):=by
   unfold Nj;rw[A3 (by simp only[Ai,Ke];omega),Ac,e0,Aa,G8 (by rw[Cq];omega),Av,A5 (by rw[Cq];omega),Av,e1,Aa,ht.a,Ac,ht.b,Av,ht.c,Av,ht.d,Aa,ht.e,Aa,ht.f,
    A3 (by simp only[Ai,Ke]at hs ⊢;omega),Ac,i1,Aa]
  have e128:y2i (u8 128)=128:=J8 128 (by omega);have e191:y2i (u8 191)=191:=J8 191 (by omega);unfold Ou;rw[pre,if_neg hs];simp only[e128,e191,Yu2,Yu3,Yu4];by_cases c1:b1.toNat<lo.toNat
  ·rw[A5 (by rw[Cq,Cq];omega),Ad,if_pos (.inl c1)]
  rw[A3 (by rw[Cq,Cq];omega),Ac];by_cases c2:hi.toNat<b1.toNat
  ·rw[A5 (by rw[Cq,Cq];omega),Ad,if_pos (.inr c2)]
  rw[A3 (by rw[Cq,Cq];omega),Ac,if_neg (by omega)];by_cases k2:k<=2
  ·rw[G8 (by omega),Ad,if_pos k2]
  rw[Jp (by omega),Ac,if_neg k2];obtain⟨b2,q,rfl⟩:∃b2 q,r=b2::q:=by
   cases r with
   | nil=>exact (hs (by simp only[Ki,Ke];omega)).elim
   | cons x y=>exact⟨x,y,rfl⟩
  have h2:=Bv b2;have i2:idx (b0::b1::b2::q) 2=some b2:=rfl;rw[i2,Aa];by_cases c3:b2.toNat<128
  ·rw[A5 (by rw[Cq];omega),Ad];simp only;rw[if_pos (.inl c3)]
  rw[A3 (by rw[Cq];omega),Ac];by_cases c4:191<b2.toNat
  ·rw[A5 (by rw[Cq];omega),Ad];simp only;rw[if_pos (.inr c4)]
  rw[A3 (by rw[Cq];omega),Ac];simp only;rw[if_neg (by omega)];by_cases k3:k<=3
  ·rw[G8 (by omega),Ad,if_pos k3]
  rw[Jp (by omega),Ac,if_neg k3];obtain⟨b3,p,rfl⟩:∃b3 p,q=b3::p:=by
   cases q with
   | nil=>exact (hs (by simp only[Ki,Ke];omega)).elim
   | cons x y=>exact⟨x,y,rfl⟩
  have h3:=Bv b3;have i3:idx (b0::b1::b2::b3::p) 3=some b3:=rfl;rw[i3,Aa];by_cases c5:b3.toNat<128
  ·rw[A5 (by rw[Cq];omega),Ad];simp only;rw[if_pos (.inl c5)]
  rw[A3 (by rw[Cq];omega),Ac];by_cases c6:191<b3.toNat
  ·rw[A5 (by rw[Cq];omega),Ad];simp only;rw[if_pos (.inr c6)]
  rw[A3 (by rw[Cq];omega),Ac];simp only;rw[if_neg (by omega)]
theorem Ytq {b0:UInt8}{r:List UInt8}(h1:194<=b0.toNat) (h2:b0.toNat<224):Ou b0 128 191 2 r=Oo (dec (b0::r)):=by
 have e1:(128:UInt8).toNat=128:=rfl;have e2:(191:UInt8).toNat=191:=rfl;unfold Ou;simp only[dec,if_neg (show ¬b0.toNat<128 by omega),if_neg (show ¬b0.toNat<194 by omega),if_pos h2,e1,e2];cases r with
 | nil=>rfl
 | cons b1 r =>
  rw[if_neg (by simp)];simp only[Pz];by_cases hc:C5 b1=true
  ·rw[if_pos hc];simp only[C5,decide_eq_true_eq]at hc;rw[if_neg (by omega),if_pos (Kf _)];rfl
  ·rw[if_neg hc];simp only[C5,decide_eq_true_eq]at hc;rw[if_pos (by omega)];rfl
theorem Zpa {b0 lo hi:UInt8}{r:List UInt8}(h1:224<=b0.toNat) (h2:b0.toNat<240) (hl:lo.toNat=Mj b0) (hh:hi.toNat=hi3 b0):Ou b0 lo hi 3 r=Oo (dec (b0::r)):=by
 unfold Ou;simp only[dec,if_neg (show ¬b0.toNat<128 by omega),if_neg (show ¬b0.toNat<194 by omega),if_neg (show ¬b0.toNat<224 by omega),if_pos h2,hl,hh]
 match r with
 | []=>rfl
 | [_]=>rfl
 | b1::b2::r =>
  rw[if_neg (by simp)];simp only[L7];by_cases hc:Mj b0<=b1.toNat/\b1.toNat<=hi3 b0/\C5 b2=true
  ·rw[if_pos hc];obtain⟨c1,c2,c3⟩:=hc;simp only[C5,decide_eq_true_eq]at c3;rw[if_neg (by omega),if_neg (by omega),if_neg (by omega),if_pos (Kf _)];rfl
  ·rw[if_neg hc];by_cases c1:b1.toNat<Mj b0\/hi3 b0<b1.toNat
   ·rw[if_pos c1];rfl
   ·rw[if_neg c1,if_neg (by omega),if_pos]
    ·rfl
    ·have:¬C5 b2=true:=fun h=>hc ⟨by omega,by omega,h⟩;simp only[C5,decide_eq_true_eq]at this;omega
theorem Zpb {b0 lo hi:UInt8}{r:List UInt8}(h1:240<=b0.toNat) (h2:b0.toNat<245) (hl:lo.toNat=Ml b0) (hh:hi.toNat=hi4 b0):Ou b0 lo hi 4 r=Oo (dec (b0::r)):=by
 unfold Ou;simp only[dec,if_neg (show ¬b0.toNat<128 by omega),if_neg (show ¬b0.toNat<194 by omega),if_neg (show ¬b0.toNat<224 by omega),if_neg (show ¬b0.toNat<240 by omega),if_pos h2,hl,hh]
 match r with
 | []=>rfl
 | [_]=>rfl
 | [_,_]=>rfl
 | b1::b2::b3::r =>
  rw[if_neg (by simp)];simp only[Jm];by_cases hc:Ml b0<=b1.toNat/\b1.toNat<=hi4 b0/\C5 b2=true/\C5 b3=true
  ·rw[if_pos hc];obtain⟨c1,c2,c3,c4⟩:=hc;simp only[C5,decide_eq_true_eq]at c3 c4;rw[if_neg (by omega),if_neg (by omega),if_neg (by omega),if_neg (by omega),if_neg (by omega)];rfl
  ·rw[if_neg hc];by_cases c1:b1.toNat<Ml b0\/hi4 b0<b1.toNat
   ·rw[if_pos c1];rfl
   ·rw[if_neg c1,if_neg (by omega)];by_cases c2:b2.toNat<128\/191<b2.toNat
    ·rw[if_pos c2];rfl
    ·rw[if_neg c2,if_neg (by omega),if_pos]
     ·rfl
     ·have:¬C5 b3=true:=fun h=>hc ⟨by omega,by omega,by simp only[C5,decide_eq_true_eq];omega,h⟩;simp only[C5,decide_eq_true_eq]at this;omega
theorem Yac {b0:UInt8}{r:List UInt8}(hf:P5[b0.toNat]? = some 241):Nj (b0::r)=some (65533,1):=by
 have h0:=Bv b0;have e0:idx (b0::r) 0=some b0:=rfl;have e1:idx P5 (Int.ofNat (0+nOf (y2i b0)*1))=some 241:=by
  rw[Cq,Es,N6];simpa using hf
 have e2:=Yds ⟨b0.toNat,h0⟩;simp only[UInt8.ofNat_toNat]at e2;unfold Nj;rw[A3 (by simp only[Ai,Ke];omega),Ac,e0,Aa,G8 (by rw[Cq];omega),Av,A5 (by rw[Cq];omega),Av,e1,Aa,show iGe (y2i 241) (y2i (u8 240))=true by decide +kernel,Ad,Aa,e2]
theorem Ytr {b0:UInt8}{r:List UInt8}(h:128<=b0.toNat) (hl:r.length<4611686018427387904):Nj (b0::r)=some (Oo (dec (b0::r))):=by
 have h0:=Bv b0;have ht:=Yit ⟨b0.toNat,h0⟩ h;simp only at ht;by_cases h1:b0.toNat<194
 ·rw[if_pos h1]at ht;rw[Yac ht];simp only[dec,if_neg (show ¬b0.toNat<128 by omega),if_pos h1,Oo]
 rw[if_neg h1]at ht;by_cases h2:b0.toNat<224
 ·rw[if_pos h2]at ht;rw[Tf ht xt2 (by omega) hl,Ytq (by omega) h2]
 rw[if_neg h2]at ht;by_cases h3:b0.toNat=224
 ·rw[if_pos h3]at ht;rw[Tf ht Yv0 (by omega) hl,Zpa (by omega) (by omega) (by rw[Mj,if_pos h3];rfl) (by rw[hi3,if_neg (by omega)];rfl)]
 rw[if_neg h3]at ht;by_cases h4:b0.toNat=237
 ·rw[if_pos h4]at ht;rw[Tf ht Yv1 (by omega) hl,Zpa (by omega) (by omega) (by rw[Mj,if_neg (by omega)];rfl) (by rw[hi3,if_pos h4];rfl)]
 rw[if_neg h4]at ht;by_cases h5:b0.toNat<240
 ·rw[if_pos h5]at ht;rw[Tf ht xt3 (by omega) hl,Zpa (by omega) (by omega) (by rw[Mj,if_neg (by omega)];rfl) (by rw[hi3,if_neg (by omega)];rfl)]
 rw[if_neg h5]at ht;by_cases h6:b0.toNat=240
 ·rw[if_pos h6]at ht;rw[Tf ht Yv2 (by omega) hl,Zpb (by omega) (by omega) (by rw[Ml,if_pos h6];rfl) (by rw[hi4,if_neg (by omega)];rfl)]
 rw[if_neg h6]at ht;by_cases h7:b0.toNat<244
 ·rw[if_pos h7]at ht;rw[Tf ht xt4 (by omega) hl,Zpb (by omega) (by omega) (by rw[Ml,if_neg (by omega)];rfl) (by rw[hi4,if_neg (by omega)];rfl)]
 rw[if_neg h7]at ht;by_cases h8:b0.toNat=244
 ·rw[if_pos h8]at ht;rw[Tf ht Yv3 (by omega) hl,Zpb (by omega) (by omega) (by rw[Ml,if_neg (by omega)];rfl) (by rw[hi4,if_pos h8];rfl)]
 ·rw[if_neg h8]at ht;rw[Yac ht];simp only[dec,if_neg (show ¬b0.toNat<128 by omega),if_neg h1,if_neg h2,if_neg h5,if_neg (show ¬b0.toNat<245 by omega),Oo]
theorem Yet {b0:UInt8}{r:List UInt8}(hl:r.length<4611686018427387904):Zcw (b0::r)=some (Oo (dec (b0::r))):=by
 have h0:=Bv b0;have e128:y2i (u8 128)=128:=J8 128 (by omega);unfold Zcw;by_cases h:b0.toNat<128
 ·have s1:Yd (b0::r) 0=some (.inr (.inr ((b0.toNat:Int),1))):=by
   unfold Yd;rw[A5 (by simp only[Ai,Ke];omega),Ad,show idx (b0::r) 0=some b0 from rfl,Aa,e128,A5 (by rw[Cq];omega),Ad,Cq];rw[show Ak .i32 (b0.toNat:Int)=(b0.toNat:Int) from Ik (k:=.i32) (show b0.toNat<2^31 by omega)]
  rw[Ju s1,Oa];simp only[dec,if_pos h,Oo];rfl
 ·have s1:Yd (b0::r) 0=some (.inr (.inl ())):=by
   unfold Yd;rw[A5 (by simp only[Ai,Ke];omega),Ad,show idx (b0::r) 0=some b0 from rfl,Aa,e128,A3 (by rw[Cq];omega),Ac]
  rw[Ju s1,Ax,Ytr (by omega) hl,Aa]
theorem Yol {b:List UInt8}{i:Nat}(hl:b.length<4611686018427387904) (hi:i<b.length):Zbo (b,(i:Int))=some (Ee (dec (b.drop i)) i):=by
 unfold Zbo;have hd:b.drop i=b[i]::b.drop (i+1):=Kcc hi;have et:A9 (nOf (Ae b)-nOf (i:Int)) (Dk (nOf (i:Int)) b)=b.drop i:=by
  rw[Ai,Es,Es,A9,Dk];exact Kob (by rw[Kpa];omega)
 have ew:Cp (i:Int) (Ae b) (Ae b)=true:=by
  unfold Cp;rw[decide_eq_true_eq,Ai];omega
 simp only;rw[A3 (by omega),Ac,N5 (by rw[Ai];omega),Ac,ew,Av,et];rw[show S5 (nOf (i:Int)) (b.drop i).length=true by simp only[S5,Kpa,Es,decide_eq_true_eq];omega,Av];rw[hd,Yet (by rw[Kpa];omega),Aa];cases hx:dec (b[i]::b.drop (i+1)) with
 | none=>rfl
 | some x =>
  obtain⟨n,k⟩:=x;obtain⟨hs,he,k1,k2⟩:=Zlb hx;have hk:k=(enc n).length:=by rw[he,Kab];omega
  simp only[Ds,decide_eq_true_eq]at hs;have en:=(Ztx (n:=n)).2;have ec:Ak .i64 (n:Int)=(n:Int):=Ik (k:=.i64) (show n<2^63 by omega);have ea:Aj .i64 (i:Int) (k:Int)=((i+k:Nat):Int):=Zb (by simp only[Ke,Kpa]at k2;omega);have er:((n:Int),Aj .i64 (i:Int) (k:Int),true)=Ee (some (n,k)) i:=by
   rw[ea];simp [Ee]
  simp only[Oo,ec];rw[er];by_cases h5:n=65533
  ·subst h5;have h3:k=3:=by rw[hk];decide +kernel
   rw[show iEq ((65533:Nat):Int) 65533=true from Vh _,Ad,A3 (by omega),Ac]
  ·rw[Eg (by omega),Ac]
theorem Jr {b:List UInt8}{i:Nat}(hi:i<b.length):b.drop i=b[i]::b.drop (i+1):=Kcc hi
theorem Nt (b:UInt8):Ak .i64 (y2i b)=(b.toNat:Int):=Ik (k:=.i64) (show b.toNat<2^63 by have:=Bv b;omega)
theorem Zzm (a c:UInt8):Zcq ((a.toNat:Int),(c.toNat:Int))=some (if a.toNat=0xa4/\0xa1<=c.toNat/\c.toNat<=0xf3 then (((0x3041+(c.toNat-0xa1):Nat):Int),true) else if a.toNat=0xa5/\0xa1<=c.toNat/\c.toNat<=0xf6 then (((0x30a1+(c.toNat-0xa1):Nat):Int),true) else (0,false)):=by
 have hc:=Bv c;have e1:161<=c.toNat->A1 .i64 (Aj .i64 12353 (c.toNat:Int)) 161=((0x3041+(c.toNat-0xa1):Nat):Int):=fun h=>by
  rw[C3 (by omega) (by omega),D3 (by omega) (by omega)];omega
 have e2:161<=c.toNat->A1 .i64 (Aj .i64 12449 (c.toNat:Int)) 161=((0x30a1+(c.toNat-0xa1):Nat):Int):=fun h=>by
  rw[C3 (by omega) (by omega),D3 (by omega) (by omega)];omega
 unfold Zcq;simp only[D0,Aa,Ys];by_cases h4:a.toNat=0xa4
 ·rw[show iEq (a.toNat:Int) 164=true by rw[h4];rfl,Ad];by_cases h1:161<=c.toNat/\c.toNat<=243
  ·rw[if_pos (by omega),if_pos ⟨h4,h1⟩,e1 h1.1]
  ·rw[if_neg (by omega),Eg (by omega),Ac,if_neg (fun h=>h1 h.2),if_neg (by omega)]
 ·rw[Eg (by omega),Ac];by_cases h5:a.toNat=0xa5
  ·rw[show iEq (a.toNat:Int) 165=true by rw[h5];rfl,Ad];by_cases h1:161<=c.toNat/\c.toNat<=246
   ·rw[if_pos (show (161:Int)<=(c.toNat:Int)/\(c.toNat:Int)<=246 by omega),if_neg (fun h=>h4 h.1),if_pos ⟨h5,h1⟩,e2 h1.1]
   ·rw[if_neg (show ¬((161:Int)<=(c.toNat:Int)/\(c.toNat:Int)<=246) by omega),if_neg (fun h=>h4 h.1),if_neg (fun h=>h1 h.2)]
  ·rw[Eg (by omega),Ac,if_neg (fun h=>h4 h.1),if_neg (fun h=>h5 h.1)]
theorem Yoq (a c:UInt8):Zid ((a.toNat:Int),(c.toNat:Int))=some (if a.toNat=0xa4/\0xa1<=c.toNat/\c.toNat<=0xf3 then (((0x3041+(c.toNat-0xa1):Nat):Int),true) else if a.toNat=0xa5/\0xa1<=c.toNat/\c.toNat<=0xf6 then (((0x30a1+(c.toNat-0xa1):Nat):Int),true) else (0,false)):=Zzm a c
theorem Zt2 (b0 b1:UInt8) (r:List UInt8) (i:Nat) (h:¬b0.toNat<128) (hi:i<4611686018427387904) :
  (bnd (some (if b0.toNat=0xa4/\0xa1<=b1.toNat/\b1.toNat<=0xf3 then (((0x3041+(b1.toNat-0xa1):Nat):Int),true) else if b0.toNat=0xa5/\0xa1<=b1.toNat/\b1.toNat<=0xf6 then (((0x30a1+(b1.toNat-0xa1):Nat):Int),true) else (0,false))) fun z5:Int×Bool=>cnd (Ah z5.2) (some (0,(0,false))) (some (z5.1,((Aj .i64 (i:Int) 2),true))))=some (Ee (Lg (b0::b1::r)) i):=by
 have ea:Aj .i64 (i:Int) 2=((i+2:Nat):Int):=Zb (n:=2) (by omega);simp only[Lg,if_neg h,Aa];split
 ·rw[ea];simp [Ee]
 split
 ·rw[ea];simp [Ee]
 ·rfl
theorem Ysf {b:List UInt8}{i:Nat}(hl:b.length<4611686018427387904) (hi:i<b.length):Zcl (b,(i:Int))=some (Ee (Lg (b.drop i)) i):=by
 unfold Zcl;have e0:A1 .i64 (Ae b) 1=(b.length:Int)-1:=D3 (by simp only[Ai];omega) (by simp only[Ai];omega);have e128:y2i (u8 128)=128:=J8 128 (by omega);simp only[D0,Aa];rw[e0,show decide ((0:Int)<=(i:Int)/\(i:Int)<=(b.length:Int)-1)=true by simp only[decide_eq_true_eq];omega,Az,Ac,Bp hi,Aa,e128];have ea:Aj .i64 (i:Int) 1=((i+1:Nat):Int):=Cw (by omega);by_cases h:b[i].toNat<128
 ·rw[A5 (by rw[Cq];omega),Ad,Aa,Nt,ea,Jr hi];simp only[Lg,if_pos h,Ee];simp
 ·rw[A3 (by rw[Cq];omega),Ac,ea];by_cases h1:i+1<b.length
  ·rw[N5 (by rw[Ai];omega),Ac,Aa,Bp h1,Aa,Nt,Nt,Zzm,Jr hi,Jr h1];exact Zt2 _ _ _ _ h (by omega)
  ·rw[Qd (by rw[Ai];omega),Ad,Jr hi,Kle (show b.length<=i+1 by omega)];simp only[Lg,if_neg h,Ee]
theorem Yof {b:List UInt8}{i:Nat}(hl:b.length<4611686018427387904) (hi:i<b.length):Zbn (b,(i:Int))=some (Ee (Lg (b.drop i)) i):=by
 unfold Zbn;have e127:y2i (u8 127)=127:=J8 127 (by omega);simp only;rw[A3 (by omega),Ac,N5 (by rw[Ai];omega),Ac,Bp hi,Aa,e127];have ea:Aj .i64 (i:Int) 1=((i+1:Nat):Int):=Cw (by omega);by_cases h:b[i].toNat<128
 ·rw[G8 (by rw[Cq];omega),Ad,Aa,Nt,ea,Jr hi];simp only[Lg,if_pos h,Ee];simp
 ·rw[Jp (by rw[Cq];omega),Ac,ea];by_cases h1:i+1<b.length
  ·rw[Eg (by rw[Ai];omega),Ac,Aa,Bp h1,Aa,Nt,Nt,Yoq,Jr hi,Jr h1];exact Zt2 _ _ _ _ h (by omega)
  ·rw[show iEq ((i+1:Nat):Int) (Ae b)=true by rw[Ai,show i+1=b.length by omega];exact Vh _,Ad,Jr hi,Kle (show b.length<=i+1 by omega)];simp only[Lg,if_neg h,Ee]
def bsR (o:Option Nat):Int×Bool:=match o with
 | some n=>((n:Int),true)
 | none=>(0,false)
theorem Ysx:∀b:Fin 256,Rh (1,(b.val:Int))=some (bsR (Ey 1 b.val)):=by decide +kernel
theorem Ysy:∀b:Fin 256,Rh (2,(b.val:Int))=some (bsR (Ey 2 b.val)):=by decide +kernel
theorem Ysz:∀b:Fin 256,Rh (3,(b.val:Int))=some (bsR (Ey 3 b.val)):=by decide +kernel
theorem Ys0:∀b:Fin 256,Rh (4,(b.val:Int))=some (bsR (Ey 4 b.val)):=by decide +kernel
theorem Yoz:∀b:Fin 256,Q9 (1,(b.val:Int))=some (bsR (Ey 1 b.val)):=by decide +kernel
theorem Yo0:∀b:Fin 256,Q9 (2,(b.val:Int))=some (bsR (Ey 2 b.val)):=by decide +kernel
theorem Yo1:∀b:Fin 256,Q9 (3,(b.val:Int))=some (bsR (Ey 3 b.val)):=by decide +kernel
theorem Yo2:∀b:Fin 256,Q9 (4,(b.val:Int))=some (bsR (Ey 4 b.val)):=by decide +kernel
theorem Ysd {cs b:Nat}(h1:1<=cs) (h4:cs<=4) (hb:b<256):Rh ((cs:Int),(b:Int))=some (bsR (Ey cs b)):=by
 rcases (show cs=1\/cs=2\/cs=3\/cs=4 by omega) with rfl|rfl|rfl|rfl
 ·exact Ysx ⟨b,hb⟩
 ·exact Ysy ⟨b,hb⟩
 ·exact Ysz ⟨b,hb⟩
 ·exact Ys0 ⟨b,hb⟩
theorem Yoc {cs b:Nat}(h1:1<=cs) (h4:cs<=4) (hb:b<256):Q9 ((cs:Int),(b:Int))=some (bsR (Ey cs b)):=by
 rcases (show cs=1\/cs=2\/cs=3\/cs=4 by omega) with rfl|rfl|rfl|rfl
 ·exact Yoz ⟨b,hb⟩
 ·exact Yo0 ⟨b,hb⟩
 ·exact Yo1 ⟨b,hb⟩
 ·exact Yo2 ⟨b,hb⟩
def Got (o:Option (Int×Int×Bool)) (s:Option (Nat×Nat)) (i:Nat):Prop:=match s with
 | some (n,k)=>o=some ((n:Int),((i+k:Nat):Int),true)
 | none=>∃p q,o=some (p,q,false)
theorem Zfe {s:Option (Nat×Nat)}{i:Nat}:Got (some (Ee s i)) s i:=by
 cases s with
 | none=>exact⟨_,_,rfl⟩
 | some x=>simp [Got,Ee]
theorem Ysh {cs i:Nat}{b:List UInt8}(hc:cs<=5) (hl:b.length<4611686018427387904) (hi:i<b.length):Got (Zcu ((cs:Int),(b,(i:Int)))) (Jb cs (b.drop i)) i:=by
 unfold Zcu Jb;simp only;by_cases h0:cs=0
 ·subst h0;rw[show iEq ((0:Nat):Int) 0=true from rfl,Ad,Ysl hl hi,Aa,if_pos rfl];exact Zfe
 rw[Eg (by omega),Ac,if_neg h0];by_cases h5:cs=5
 ·subst h5;rw[show iEq ((5:Nat):Int) 5=true from rfl,Ad,Ysf hl hi,Aa,if_pos rfl];exact Zfe
 rw[Eg (by omega),Ac,if_neg h5,Bp hi,Aa,Nt,Ysd (by omega) (by omega) (Bv _),Aa,Jr hi];cases hb:Ey cs b[i].toNat with
 | none=>simp only[hb,Kub,Got,bsR];exact⟨_,_,rfl⟩
 | some n=>simp only[hb,Kna,Got,bsR];rw[Cw (by omega)]
theorem Yoh {cs i:Nat}{b:List UInt8}(hc:cs<=5) (hl:b.length<4611686018427387904) (hi:i<b.length):Got (Zbv ((cs:Int),(b,(i:Int)))) (Jb cs (b.drop i)) i:=by
 unfold Zbv Jb;simp only;by_cases h0:cs=0
 ·subst h0;rw[show iEq ((0:Nat):Int) 0=true from rfl,Ad,Yol hl hi,Aa,if_pos rfl];exact Zfe
 rw[Eg (by omega),Ac,if_neg h0];by_cases h5:cs=5
 ·subst h5;rw[show iEq ((5:Nat):Int) 5=true from rfl,Ad,Yof hl hi,Aa,if_pos rfl];exact Zfe
 rw[Eg (by omega),Ac,if_neg h5,Bp hi,Aa,Nt,Yoc (by omega) (by omega) (Bv _),Aa,Jr hi];cases hb:Ey cs b[i].toNat with
 | none=>simp only[hb,Kub,Got,bsR];exact⟨_,_,rfl⟩
 | some n=>simp only[hb,Kna,Got,bsR];rw[Cw (by omega)]
def Jw (o:Option (List UInt8)):List UInt8×Bool:=match o with
 | some t=>(t,true)
 | none=>([],false)
theorem Zsn {cs:Nat}{b:List UInt8}(hc:cs<=5) (hl:b.length<=1048576){step:List UInt8×Int->Option ((List UInt8×Int) ⊕ (List UInt8 ⊕ (List UInt8×Bool)))}
  (hs:∀(out:List UInt8) (i:Nat),i<b.length->out.length<=4*i->(∀n k,Jb cs (b.drop i)=some (n,k)->step (out,(i:Int))=some (.inl (out++enc n,((i+k:Nat):Int))))/\(Jb cs (b.drop i)=none->step (out,(i:Int))=some (.inr (.inr ([],false)))))
  (he:∀out,step (out,(b.length:Int))=some (.inr (.inl out))) :
  Ao (Ar step ([],0)) (fun z=>some (z,true))=some (Jw (Nx cs b)):=by
 obtain⟨r,h1,h2⟩:=Yp4 (step:=step)
  (fun s=>∃(i:Nat) (ns:List Nat),s.2=(i:Int)/\i<=b.length/\s.1=Tm ns/\ns.length<=i/\Qz cs b=(Qz cs (b.drop i)).map (ns++·)) (fun s=>b.length-s.2.toNat)
  (fun r=>Ao (some r) (fun z=>some (z,true))=some (Jw (Nx cs b))) (by
   rintro ⟨out,j⟩ ⟨i,ns,rfl,hi,rfl,hn,hp⟩;simp only at hi hn hp ⊢;have ht:=Yuh ns;by_cases hlt:i<b.length
   ·obtain⟨q1,q2⟩:=hs (Tm ns) i hlt (by omega);cases hq:Jb cs (b.drop i) with
    | none =>
     right;refine⟨_,q2 hq, ?_⟩;rw[Oa];have hne:b.drop i≠[]:=by rw[Jr hlt];exact Kvf _ _
     rw[Zz9 hc hne,hq]at hp;simp only[Kub]at hp;simp only[Nx,hp,Kub,Jw]
    | some x =>
     obtain⟨n,k⟩:=x;left;obtain⟨_,_,k1,k2⟩:=Zat hc hq;rw[Kpa]at k2;refine⟨_,q1 n k hq,⟨i+k,ns++[n],rfl,by omega, ?_, ?_, ?_⟩, ?_⟩
     ·simp [Tm]
     ·simp only[Kz,Ke,Ki];omega
     ·have hne:b.drop i≠[]:=by rw[Jr hlt];exact Kvf _ _
      rw[hp,Zz9 hc hne,hq];simp only[Ked,Option.map_map];congr 1;funext l;simp
     ·simp only[Kxb];omega
   ·have hie:i=b.length:=by omega
    subst hie;right;refine⟨_,he _, ?_⟩;rw[Ax];rw[Kkg,Ytm]at hp;simp only[Kna,Kq]at hp;simp only[Nx,hp,Kna,Jw]) ([],0) ⟨0,[],rfl,Koa _,rfl,Kf _,by
   rw[Kv];cases Qz cs b<;>simp⟩
 rw[h1];exact h2
theorem Yse {cs:Nat}{b:List UInt8}(hc:cs<=5) (hl:b.length<=1048576):Zck ((cs:Int),b)=some (Jw (Nx cs b)):=by
 unfold Zck Xy;simp only[D0,Aa];rw[show decide ((0:Int)<=(cs:Int)/\(cs:Int)<=5)=true by simp only[decide_eq_true_eq];omega,Az,Ac];refine Zsn hc hl ?_ ?_
 ·intro out i hi ho;have hg:=Ysh hc (by omega) hi;unfold Zi4;simp only;rw[A5 (by rw[Ai];omega),Ad];refine⟨fun n k hq=>?_,fun hq=>?_⟩
  ·rw[hq]at hg;simp only[Got]at hg;obtain⟨hs,_,_,_⟩:=Zat hc hq;rw[hg,Aa];simp only[Az,Ac];rw[Zzn (by omega),Aa,show sgn (n:Int)=true by simp [sgn,hs]];simp
  ·rw[hq]at hg;obtain⟨p,q,hg⟩:=hg;rw[hg,Aa];rfl
 ·intro out;unfold Zi4;simp only;rw[A3 (by rw[Ai];exact Koc _),Ac]
theorem Yod {cs:Nat}{b:List UInt8}(hc:cs<=5) (hl:b.length<=1048576):Zbm ((cs:Int),b)=some (Jw (Nx cs b)):=by
 unfold Zbm Zbs;simp only[G9,Aa];rw[show decide ((0:Int)<=(cs:Int)/\(cs:Int)<=5)=true by simp only[decide_eq_true_eq];omega,Az,Ac];refine Zsn hc hl ?_ ?_
 ·intro out i hi ho;have hg:=Yoh hc (by omega) hi;unfold Ziu;simp only;rw[A5 (by rw[Ai];omega),Ad];refine⟨fun n k hq=>?_,fun hq=>?_⟩
  ·rw[hq]at hg;simp only[Got]at hg;obtain⟨hs,_,_,_⟩:=Zat hc hq;rw[hg,Aa];simp only[Az,Ac];rw[Yos (by omega),Aa,show sgn (n:Int)=true by simp [sgn,hs]];simp
  ·rw[hq]at hg;obtain⟨p,q,hg⟩:=hg;rw[hg,Aa];rfl
 ·intro out;unfold Ziu;simp only;rw[A3 (by rw[Ai];exact Koc _),Ac]
end
end Go.Vs
