import Derived.Test.YtmfmjngkbddenaaGreatDoorVsW5
import Derived.Test.YtmfmjngkbddenaaGreatDoorVsPo
set_option linter.all false
namespace Go.Vs
noncomputable section
def Dc (n:Nat):Bool:=decide (n<=1114111/\¬(55296<=n/\n<=57343))
def yN (n:Nat):UInt8:=UInt8.ofNat n
theorem Gf {n:Nat}(h:n<256):(yN n).toNat=n:=by simp [yN,UInt8.toNat_ofNat',Kuc h]
theorem Fv {b:UInt8}{n:Nat}(h:b.toNat=n):yN n=b:=by subst h;simp [yN]
theorem Cn (b:UInt8):b.toNat<256:=b.toNat_lt
def enc (n:Nat):List UInt8 :=
 if n<128 then [yN n]
 else if n<2048 then [yN (192+n / 64),yN (128+n%64)]
 else if n<65536 then [yN (224+n / 4096),yN (128+n / 64%64),yN (128+n%64)]
 else [yN (240+n / 262144),yN (128+n / 4096%64),yN (128+n / 64%64),yN (128+n%64)]
def Cp (b:UInt8):Bool:=decide (128<=b.toNat/\b.toNat<192)
def Ok (b0:UInt8):List UInt8->Option (Nat×Nat)
 | b1::_=>if Cp b1 then some (b0.toNat%32*64+b1.toNat%64,2) else none
 | _=>none
def Lj (b0:UInt8):Nat:=if b0.toNat=224 then 160 else 128
def hi3 (b0:UInt8):Nat:=if b0.toNat=237 then 159 else 191
def Lk (b0:UInt8):Nat:=if b0.toNat=240 then 144 else 128
def hi4 (b0:UInt8):Nat:=if b0.toNat=244 then 143 else 191
def K6 (b0:UInt8):List UInt8->Option (Nat×Nat)
 | b1::b2::_=>if Lj b0<=b1.toNat/\b1.toNat<=hi3 b0/\Cp b2=true then some (b0.toNat%16*4096+b1.toNat%64*64+b2.toNat%64,3) else none
 | _=>none
def Iu (b0:UInt8):List UInt8->Option (Nat×Nat)
 | b1::b2::b3::_=>if Lk b0<=b1.toNat/\b1.toNat<=hi4 b0/\Cp b2=true/\Cp b3=true then some (b0.toNat%8*262144+b1.toNat%64*4096+b2.toNat%64*64+b3.toNat%64,4) else none
 | _=>none
def dec:List UInt8->Option (Nat×Nat)
 | []=>none
 | b0::r =>
  if b0.toNat<128 then some (b0.toNat,1)
  else if b0.toNat<194 then none
  else if b0.toNat<224 then Ok b0 r
  else if b0.toNat<240 then K6 b0 r
  else if b0.toNat<245 then Iu b0 r
  else none
theorem Zio {l:List UInt8}{n k:Nat}(h:dec l=some (n,k)):Dc n=true/\enc n=l.take k/\1<=k/\k<=l.length:=by
 match l,h with
 | [],h=>simp [dec]at h
 | b0::r,h =>
 have h0:=Cn b0;simp only[dec]at h;split at h
 ·simp only[Ka,Kb]at h;obtain⟨rfl,rfl⟩:=h;refine⟨by simp [Dc];omega, ?_,Kd _,by simp⟩;rename_i hb;rw[enc,if_pos hb,Fv rfl];rfl
 split at h
 ·cases h
 split at h
 ·match r,h with
  | [],h=>simp [Ok]at h
  | b1::r,h =>
  have h1:=Cn b1;simp only[Ok]at h;split at h
  ·rename_i hc;simp only[Cp,decide_eq_true_eq]at hc;simp only[Ka,Kb]at h;obtain⟨rfl,rfl⟩:=h;refine⟨by simp only[Dc,decide_eq_true_eq];omega, ?_,by omega,by simp⟩;rw[enc,if_neg (by omega),if_pos (by omega),Fv (b:=b0) (by omega),Fv (b:=b1) (by omega)];rfl
  ·cases h
 split at h
 ·match r,h with
  | [],h=>simp [K6]at h
  | [_],h=>simp [K6]at h
  | b1::b2::r,h =>
  have h1:=Cn b1;have h2:=Cn b2;simp only[K6]at h;split at h
  ·rename_i hc;simp only[Cp,decide_eq_true_eq,Lj,hi3]at hc;obtain⟨c1,c2,c3⟩:=hc;simp only[Ka,Kb]at h;obtain⟨rfl,rfl⟩:=h;split at c1<;>split at c2 <;>
   ·refine⟨by simp only[Dc,decide_eq_true_eq];omega, ?_,by omega,by simp⟩;rw[enc,if_neg (by omega),if_neg (by omega),if_pos (by omega),Fv (b:=b0) (by omega),Fv (b:=b1) (by omega),Fv (b:=b2) (by omega)];rfl
  ·cases h
 split at h
 ·match r,h with
  | [],h=>simp [Iu]at h
  | [_],h=>simp [Iu]at h
  | [_,_],h=>simp [Iu]at h
  | b1::b2::b3::r,h =>
  have h1:=Cn b1;have h2:=Cn b2;have h3:=Cn b3;simp only[Iu]at h;split at h
  ·rename_i hc;simp only[Cp,decide_eq_true_eq,Lk,hi4]at hc;obtain⟨c1,c2,c3,c4⟩:=hc;simp only[Ka,Kb]at h;obtain⟨rfl,rfl⟩:=h;split at c1<;>split at c2 <;>
   ·refine⟨by simp only[Dc,decide_eq_true_eq];omega, ?_,by omega,by simp⟩;rw[enc,if_neg (by omega),if_neg (by omega),if_neg (by omega),Fv (b:=b0) (by omega),Fv (b:=b1) (by omega),Fv (b:=b2) (by omega),Fv (b:=b3) (by omega)];rfl
  ·cases h
 ·cases h
theorem Ybd {n:Nat}(h:Dc n=true) (r:List UInt8):dec (enc n++r)=some (n,(enc n).length):=by
 simp only[Dc,decide_eq_true_eq]at h;unfold enc;split
 ·have e:=Gf (n:=n) (by omega);simp only[Ks,Kp,dec,e];rw[if_pos (by omega)];rfl
 split
 ·have e0:=Gf (n:=192+n / 64) (by omega);have e1:=Gf (n:=128+n%64) (by omega);simp only[Ks,Kp,dec,e0];rw[if_neg (by omega),if_neg (by omega),if_pos (by omega)];simp only[Ok,Cp,e0,e1];rw[if_pos (by simp only[decide_eq_true_eq];omega)];simp only[Kg,Ki];congr 2;omega
 split
 ·have e0:=Gf (n:=224+n / 4096) (by omega);have e1:=Gf (n:=128+n / 64%64) (by omega);have e2:=Gf (n:=128+n%64) (by omega);simp only[Ks,Kp,dec,e0];rw[if_neg (by omega),if_neg (by omega),if_neg (by omega),if_pos (by omega)];simp only[K6,Cp,e0,e1,e2,Lj,hi3,decide_eq_true_eq];rw[if_pos (by refine⟨?_, ?_,by omega⟩<;>split<;>omega)]
  simp only[Kg,Ki];congr 2;omega
 ·have e0:=Gf (n:=240+n / 262144) (by omega);have e1:=Gf (n:=128+n / 4096%64) (by omega);have e2:=Gf (n:=128+n / 64%64) (by omega);have e3:=Gf (n:=128+n%64) (by omega);simp only[Ks,Kp,dec,e0];rw[if_neg (by omega),if_neg (by omega),if_neg (by omega),if_neg (by omega),if_pos (by omega)];simp only[Iu,Cp,e0,e1,e2,e3,Lk,hi4,decide_eq_true_eq];rw[if_pos (by refine⟨?_, ?_,by omega⟩<;>split<;>omega)]
  simp only[Kg,Ki];congr 2;omega
theorem Zrg {n:Nat}:1<=(enc n).length/\(enc n).length<=4:=by
 unfold enc;split
 ·simp
 split
 ·simp
 split<;>simp
theorem Zj {k:IntKind}{n:Nat}(h:n<2^(k.bits-1)):k.wrap (n:Int)=(n:Int):=by
 have hp:(2:Nat)^(k.bits-1)<=2^k.bits:=Kig (by decide) (by omega);have e1:((2:Int)^(k.bits-1))=((2^(k.bits-1):Nat):Int):=by simp
 have e2:((2:Int)^k.bits)=((2^k.bits:Nat):Int):=by simp
 have e3:((n:Int)%((2^k.bits:Nat):Int))=(n:Int):=Kgg (by omega) (by omega);simp only[IntKind.wrap,e1,e2,e3];rw[if_neg];simp only[Ke,decide_eq_true_eq];omega
theorem wrap_u8 {n:Nat}(h:n<256):IntKind.u8.wrap (n:Int)=(n:Int):=by
 have e1:IntKind.u8.bits=8:=rfl;have e2:IntKind.u8.signed=false:=rfl;simp only[IntKind.wrap,e1,e2,Kjd,Kja,if_false];exact Kgg (by omega) (by simp;omega)
theorem Lq {m a:Nat}(h:a<2^m):(BitVec.ofInt m (a:Int)).toNat=a:=by
 rw[Ync,BitVec.toNat_ofNat,Kuc h]
section
variable {k:IntKind} {a b:Nat}
theorem Ue (h:a<2^(k.bits-1)):a<2^k.bits:=Kfa h (Kig (by decide) (by omega))
theorem Q7 (ha:a<2^(k.bits-1)) (hb:b<2^(k.bits-1)):Ax k (a:Int) (b:Int)=((a&&&b:Nat):Int):=by
 unfold Ax;rw[BitVec.toNat_and,Lq (Ue ha),Lq (Ue hb)];exact Zj (Kjg Nat.and_le_left ha)
theorem Zsw (ha:a<2^(k.bits-1)) (hb:b<2^(k.bits-1)):iOr k (a:Int) (b:Int)=((a ||| b:Nat):Int):=by
 unfold iOr;rw[BitVec.toNat_or,Lq (Ue ha),Lq (Ue hb)];exact Zj (Nat.or_lt_two_pow ha hb)
theorem Xl (ha:a<2^(k.bits-1)) (hb:b<2^(k.bits-1)):O6 k (a:Int) (b:Int)=((a ^^^ b:Nat):Int):=by
 unfold O6;rw[BitVec.toNat_xor,Lq (Ue ha),Lq (Ue hb)];exact Zj (Nat.xor_lt_two_pow ha hb)
theorem Zdn {s:Nat}(hs:s<=k.bits) (h:a*2^s<2^(k.bits-1)):B4 k (a:Int) (s:Int)=((a*2^s:Nat):Int):=by
 unfold B4;rw[Kmc,Kpd hs];rw[show (a:Int)*2^s=((a*2^s:Nat):Int) by simp];exact Zj h
theorem Zsx {s:Nat}(hs:s<=k.bits):Bp k (a:Int) (s:Int)=((a / 2^s:Nat):Int):=by
 unfold Bp;rw[Kmc,Kpd hs,Int.fdiv_eq_ediv_of_nonneg _ (Int.pow_nonneg (by decide))];simp
theorem Ju (h:a<2^(k.bits-1)):Ak k (a:Int)=(a:Int):=Zj h
end
theorem Zsu {a b:Nat}(ha:a<256) (hb:b<256):Ax .u8 (a:Int) (b:Int)=((a&&&b:Nat):Int):=by
 unfold Ax;rw[BitVec.toNat_and,Lq (m:=IntKind.u8.bits) ha,Lq (m:=IntKind.u8.bits) hb];exact wrap_u8 (Kjg Nat.and_le_left ha)
theorem Ykw {a b:Nat}(ha:a<256) (hb:b<256):iOr .u8 (a:Int) (b:Int)=((a ||| b:Nat):Int):=by
 unfold iOr;rw[BitVec.toNat_or,Lq (m:=IntKind.u8.bits) ha,Lq (m:=IntKind.u8.bits) hb];exact wrap_u8 (Nat.or_lt_two_pow (n:=8) ha hb)
theorem Znw (n:Nat):u8 (n:Int)=yN n:=rfl
theorem Cm (b:UInt8):y2i b=(b.toNat:Int):=rfl
theorem Ml {a j m:Nat}(hm:m=2^j-1):a&&&m=a%2^j:=by rw[hm,Nat.and_two_pow_sub_one_eq_mod]
theorem Zk6 {a b j:Nat}(hb:b<2^j):a*2^j ||| b=a*2^j+b:=by
 have:=Nat.shiftLeft_add_eq_or_of_lt hb a;rw[Nat.shiftLeft_eq]at this;exact this.symm
def Ztj:List Nat:=[0x44e,0x430,0x431,0x446,0x434,0x435,0x444,0x433,0x445,0x438,0x439,0x43a,0x43b,0x43c,0x43d,0x43e,0x43f,0x44f,0x440,0x441,0x442,0x443,0x436,0x432,0x44c,0x44b,0x437,0x448,0x44d,0x449,0x447,0x44a]
def Yry:List Nat:=[0x20ac,0,0x201a,0x192,0x201e,0x2026,0x2020,0x2021,0x2c6,0x2030,0x160,0x2039,0x152,0,0x17d,0,0,0x2018,0x2019,0x201c,0x201d,0x2022,0x2013,0x2014,0x2dc,0x2122,0x161,0x203a,0x153,0,0x17e,0x178]
def O2 (cs b:Nat):Nat :=
 if cs=2 then (if b=0xa4 then 0x20ac else if b=0xa6 then 0x160 else if b=0xa8 then 0x161 else if b=0xb4 then 0x17d else if b=0xb8 then 0x17e else if b=0xbc then 0x152 else if b=0xbd then 0x153 else if b=0xbe then 0x178 else b)
 else if cs=3 then (if 0xe0<=b then Ztj.getD (b-0xe0) 0-0x20 else if 0xc0<=b then Ztj.getD (b-0xc0) 0 else if b=0xa3 then 0x451 else if b=0xb3 then 0x401 else 0)
 else if cs=4 then (if 0xa0<=b then b else Yry.getD (b-0x80) 0)
 else b
def Eg (cs b:Nat):Option Nat :=
 if b<128 then some b else if O2 cs b=0 then none else some (O2 cs b)
def Ze9 (cs n:Nat):Nat->Nat->Option Nat
 | 0,_=>none
 | k+1,b=>if Eg cs b=some n then some b else Ze9 cs n k (b+1)
def Zwz (cs n:Nat):Option Nat:=Ze9 cs n 256 0
theorem Zw0 {cs n:Nat}:∀{k b x:Nat},b<=x->x<b+k->Eg cs x=some n->(∀y,b<=y->y<x->Eg cs y≠some n)->Ze9 cs n k b=some x
 | 0,_,_,h1,h2,_,_=>by omega
 | k+1,b,x,h1,h2,h3,h4=>by
  simp only[Ze9];by_cases hx:b=x
  ·subst hx;rw[if_pos h3]
  ·rw[if_neg (h4 b (Kd _) (by omega))];exact Zw0 (by omega) (by omega) h3 fun y hy=>h4 y (by omega)
def Nc:List Nat->Bool
 | []=>true
 | x::l=>(Nat.beq x 0||!l.any (Nat.beq x))&&Nc l
theorem Zuj:∀{l:List Nat}{i j x:Nat},Nc l=true->l[i]? = some x->l[j]? = some x->x≠0->i=j
 | [],i,j,x,_,h,_,_=>by simp at h
 | y::l,i,j,x,h,h1,h2,h0=>by
  simp only[Nc,Ke,Knb,Kxb]at h;obtain⟨ha,hb⟩:=h;have out:y=x->∀k:Nat,l[k]?≠some x:=by
   rintro rfl k hk;rcases ha with ha|ha
   ·exact h0 (Km ha)
   ·have:l.any (Nat.beq y)=true:=Kke.2 ⟨y,Kz hk,Nat.beq_refl y⟩;rw[this]at ha;cases ha
  cases i with
  | zero =>
   simp only[Ku,Ka]at h1;cases j with
   | zero=>rfl
   | succ j=>exact (out h1 j (by simpa using h2)).elim
  | succ i =>
   cases j with
   | zero =>
    simp only[Ku,Ka]at h2;exact (out h2 i (by simpa using h1)).elim
   | succ j=>exact congrArg Nat.succ (Zuj hb (by simpa using h1) (by simpa using h2) h0)
def Hu (cs:Nat):List Nat:=(List.range 128).map fun i=>O2 cs (i+128)
theorem Ykq:(Nc (Hu 1)&&(Hu 1).all fun x=>Nat.beq x 0||Nat.ble 128 x&&Dc x)=true:=by decide +kernel
theorem Ykr:(Nc (Hu 2)&&(Hu 2).all fun x=>Nat.beq x 0||Nat.ble 128 x&&Dc x)=true:=by decide +kernel
theorem Yks:(Nc (Hu 3)&&(Hu 3).all fun x=>Nat.beq x 0||Nat.ble 128 x&&Dc x)=true:=by decide +kernel
theorem Ykt:(Nc (Hu 4)&&(Hu 4).all fun x=>Nat.beq x 0||Nat.ble 128 x&&Dc x)=true:=by decide +kernel
theorem Zso {cs:Nat}(h1:1<=cs) (h4:cs<=4):Nc (Hu cs)=true/\∀b,128<=b->b<256->(Hu cs)[b-128]? = some (O2 cs b)/\(O2 cs b=0\/(128<=O2 cs b/\Dc (O2 cs b)=true)):=by
 have key:(Nc (Hu cs)&&(Hu cs).all fun x=>Nat.beq x 0||Nat.ble 128 x&&Dc x)=true:=by
  rcases (show cs=1\/cs=2\/cs=3\/cs=4 by omega) with rfl|rfl|rfl|rfl
  ·exact Ykq
  ·exact Ykr
  ·exact Yks
  ·exact Ykt
 simp only[Ke]at key;refine⟨key.1,fun b h5 h6=>?_⟩;have e:(Hu cs)[b-128]? = some (O2 cs b):=by
  simp only[Hu,Kaa,Kkd (show b-128<128 by omega),Kia];rw[show b-128+128=b by omega]
 refine⟨e, ?_⟩;have:=Koa.1 key.2 _ (Kz e);simp only[Knb,Ke]at this;rcases this with h|h
 ·exact .inl (Km h)
 ·exact .inr ⟨Kba h.1,h.2⟩
theorem Yam {cs b c n:Nat}(h1:1<=cs) (h4:cs<=4) (hb:b<256) (hc:c<256) (h:Eg cs b=some n) (k:Eg cs c=some n):b=c:=by
 obtain⟨t1,t2⟩:=Zso h1 h4;unfold Eg at h k;split at h
 ·simp only[Ka]at h;split at k
  ·simp only[Ka]at k;omega
  ·split at k
   ·cases k
   ·simp only[Ka]at k;rcases (t2 c (by omega) hc).2 with q|q<;>omega
 ·split at h
  ·cases h
  ·simp only[Ka]at h;split at k
   ·simp only[Ka]at k;rcases (t2 b (by omega) hb).2 with q|q<;>omega
   ·split at k
    ·cases k
    ·simp only[Ka]at k;have e1:=(t2 b (by omega) hb).1;have e2:=(t2 c (by omega) hc).1;have hn:n≠0:=by omega
     rw[h]at e1;rw[k]at e2;have:=Zuj t1 e1 e2 hn;omega
theorem Ypo {cs b n:Nat}(h1:1<=cs) (h4:cs<=4) (hb:b<256) (h:Eg cs b=some n):Zwz cs n=some b :=
 Zw0 (Kpa _) (by omega) h fun y _ hy k=>by have:=Yam h1 h4 (by omega) hb k h;omega
theorem Yan {cs b n:Nat}(h1:1<=cs) (h4:cs<=4) (hb:b<256) (h:Eg cs b=some n):Dc n=true:=by
 unfold Eg at h;split at h
 ·simp only[Ka]at h;simp only[Dc,decide_eq_true_eq];omega
 ·split at h
  ·cases h
  ·simp only[Ka]at h;rcases ((Zso h1 h4).2 b (by omega) hb).2 with q|q
   ·omega
   ·rw[<-h];exact q.2
def Js:List UInt8->Option (Nat×Nat)
 | []=>none
 | b0::r=>if b0.toNat<128 then some (b0.toNat,1) else match r with
  | []=>none
  | b1::_=>if b0.toNat=0xa4/\0xa1<=b1.toNat/\b1.toNat<=0xf3 then some (0x3041+(b1.toNat-0xa1),2)
   else if b0.toNat=0xa5/\0xa1<=b1.toNat/\b1.toNat<=0xf6 then some (0x30a1+(b1.toNat-0xa1),2) else none
def Zc3 (n:Nat):Option (List UInt8) :=
 if n<128 then some [yN n]
 else if 0x3041<=n/\n<=0x3093 then some [yN 0xa4,yN (n-0x3041+0xa1)]
 else if 0x30a1<=n/\n<=0x30f6 then some [yN 0xa5,yN (n-0x30a1+0xa1)]
 else none
def Ii (cs:Nat) (l:List UInt8):Option (Nat×Nat) :=
 if cs=0 then dec l else if cs=5 then Js l else match l with
  | []=>none
  | b::_=>(Eg cs b.toNat).map fun n=>(n,1)
def Zu6 (cs n:Nat):Option (List UInt8) :=
 if cs=0 then (if Dc n then some (enc n) else none) else if cs=5 then Zc3 n else (Zwz cs n).map fun b=>[yN b]
theorem Yv {cs:Nat}{l:List UInt8}{n k:Nat}(hc:cs<=5) (h:Ii cs l=some (n,k)):Dc n=true/\Zu6 cs n=some (l.take k)/\1<=k/\k<=l.length:=by
 unfold Ii at h;unfold Zu6;split at h
 ·rename_i h0;obtain⟨a,b,c,d⟩:=Zio h;rw[if_pos h0,if_pos a,b];exact⟨a,rfl,c,d⟩
 split at h
 ·rename_i h0 h5;rw[if_neg h0,if_pos h5]
  match l,h with
  | [],h=>simp [Js]at h
  | b0::r,h =>
  have hb0:=Cn b0;simp only[Js]at h;split at h
  ·rename_i hb;simp only[Ka,Kb]at h;obtain⟨rfl,rfl⟩:=h;refine⟨by simp only[Dc,decide_eq_true_eq];omega, ?_,Kd _,by simp⟩;rw[Zc3,if_pos hb,Fv rfl];rfl
  ·match r,h with
   | [],h=>simp at h
   | b1::r,h =>
   have hb1:=Cn b1;simp only at h;split at h
   ·rename_i hb;simp only[Ka,Kb]at h;obtain⟨rfl,rfl⟩:=h;refine⟨by simp only[Dc,decide_eq_true_eq];omega, ?_,by omega,by simp⟩;rw[Zc3,if_neg (by omega),if_pos (by omega),Fv (b:=b0) (by omega),Fv (b:=b1) (by omega)];rfl
   ·split at h
    ·rename_i hb;simp only[Ka,Kb]at h;obtain⟨rfl,rfl⟩:=h;refine⟨by simp only[Dc,decide_eq_true_eq];omega, ?_,by omega,by simp⟩;rw[Zc3,if_neg (by omega),if_neg (by omega),if_pos (by omega),Fv (b:=b0) (by omega),Fv (b:=b1) (by omega)];rfl
    ·cases h
 ·rename_i h0 h5;rw[if_neg h0,if_neg h5]
  match l,h with
  | [],h=>simp at h
  | b::r,h =>
  simp only[Kt,Kb]at h;obtain⟨m,hm,rfl,rfl⟩:=h;refine⟨Yan (by omega) (by omega) (Cn b) hm, ?_,Kd _,by simp⟩;rw[Ypo (by omega) (by omega) (Cn b) hm,Kia,Fv rfl];rfl
def Uv (cs:Nat):Nat->List UInt8->Option (List Nat)
 | _,[]=>some []
 | 0,_::_=>none
 | k+1,l=>match Ii cs l with
  | none=>none
  | some (n,j)=>(Uv cs k (l.drop j)).map (n::·)
def Pu (cs:Nat) (l:List UInt8):Option (List Nat):=Uv cs l.length l
def R1 (ns:List Nat):List UInt8:=ns.flatMap enc
theorem Zw1 {cs:Nat}(hc:cs<=5):∀(k j:Nat) (l:List UInt8),l.length<=k->l.length<=j->Uv cs k l=Uv cs j l
 | 0,0,_,_,_=>rfl
 | k,j,[],_,_=>by cases k<;>cases j<;>rfl
 | 0,_+1,_::_,h,_=>by simp at h
 | _+1,0,_::_,_,h=>by simp at h
 | k+1,j+1,b::r,h1,h2=>by
  simp only[Uv];cases hs:Ii cs (b::r) with
  | none=>rfl
  | some x =>
   obtain⟨n,i⟩:=x;obtain⟨_,_,hi,_⟩:=Yv hc hs;simp only;rw[Zw1 hc k j _ (by simp only[Kra,Kg]at *;omega) (by simp only[Kra,Kg]at *;omega)]
theorem Ypp (cs:Nat):Pu cs []=some []:=rfl
theorem Zw2 {cs:Nat}(hc:cs<=5){l:List UInt8}(hl:l≠[]):Pu cs l=match Ii cs l with
  | none=>none
  | some (n,j)=>(Pu cs (l.drop j)).map (n::·):=by
 match l,hl with
 | b::r,_ =>
 unfold Pu;simp only[Kg,Uv];cases hs:Ii cs (b::r) with
 | none=>rfl
 | some x =>
  obtain⟨n,i⟩:=x;obtain⟨_,_,hi,_⟩:=Yv hc hs;simp only;rw[Zw1 hc r.length ((b::r).drop i).length _ (by simp only[Kra,Kg];omega) (Kd _)]
theorem Yqp (ns:List Nat):(R1 ns).length<=4*ns.length:=by
 induction ns with
 | nil=>simp [R1]
 | cons n ns ih =>
  have:=(Zrg (n:=n)).2;simp only[R1,Kya,Ky,Kg]at *
  omega
def Mt (cs:Nat) (b:List UInt8):Option (List UInt8):=(Pu cs b).map R1
theorem Yml {σ ρ:Type}{step:σ->Option (σ ⊕ ρ)}(inv:σ->Prop) (m:σ->Nat) (Q:ρ->Prop) (hs:∀s,inv s->(∃s',step s=some (.inl s')/\inv s'/\m s'<m s)\/∃r,step s=some (.inr r)/\Q r) (s0:σ) (h0:inv s0):∃r,Ar step s0=some r/\Q r:=by
 have key:∀k s,m s<=k->inv s->∃r,Ar step s=some r/\Q r:=by
  intro k
  induction k with
  | zero =>
   intro s hk h;rcases hs s h with ⟨s',h1,h2,h3⟩|⟨r,h1,h2⟩
   ·omega
   ·exact⟨r,by rw[Pd,h1],h2⟩
  | succ k ih =>
   intro s hk h;rcases hs s h with ⟨s',h1,h2,h3⟩|⟨r,h1,h2⟩
   ·obtain⟨r,h4,h5⟩:=ih s' (by omega) h2;exact⟨r,by rw[Pd,h1];exact h4,h5⟩
   ·exact⟨r,by rw[Pd,h1],h2⟩
 exact key (m s0) s0 (Kd _) h0
theorem W1 {β:Type}{p:Prop} [Decidable p] (x y:Option β):cnd (decide p) x y=if p then x else y:=by
 by_cases h:p<;>simp [h]
theorem Zpo {β:Type}{b:Bool}(x y:Option β):cnd b x y=if b=true then x else y:=by cases b<;>rfl
theorem En (x l h:Int):Bv (x,(l,h))=some (decide (l<=x/\x<=h)):=by
 unfold Bv;simp only[iGe,iLe,W1];split
 ·rename_i h1;have:l<=x:=h1;simp [this]
 ·rename_i h1;have:¬l<=x:=h1;simp [this]
theorem Ix (x l h:Int):Cw (x,(l,h))=some (decide (l<=x/\x<=h)):=En x l h
def sgn (x:Int):Bool:=decide (0<=x)&&Dc x.toNat
theorem Zmf (x:Int):Sn x=some (sgn x):=by
 unfold Sn;simp only[En,Ab,W1];split
 ·simp only[sgn,Dc,Ah];congr 1;rw[Klc];simp only[Kxb,decide_eq_false_iff_not,Ke,decide_eq_true_eq];omega
 ·simp only[sgn,Dc];congr 1;rw[Klc];simp only[Ke,decide_eq_true_eq,Kja,false_iff];omega
theorem Yle (x:Int):Zfz x=some (sgn x):=Zmf x
theorem Gj (n:Nat):u8 (Ak .u8 (n:Int))=yN n:=by
 have e1:IntKind.u8.bits=8:=rfl;have e2:IntKind.u8.signed=false:=rfl;simp only[u8,Ak,IntKind.wrap,e1,e2,Kjd,Kja,if_false,yN];rw[show ((n:Int)%2^8)=((n%256:Nat):Int) by simp,Kmc];apply UInt8.toNat_inj.1;simp [UInt8.toNat_ofNat']
theorem orc {c q j b:Nat}(hc:c=q*2^j) (hb:b<2^j) (h1:c<2^63) (h2:b<2^63):iOr .i64 (c:Int) (b:Int)=((c+b:Nat):Int):=by
 rw[Zsw (k:=.i64) h1 h2,hc,Zk6 hb]
theorem Zuq {c q j b:Nat}(hc:c=q*2^j) (hb:b<2^j) (h1:c<256) (h2:b<256):iOr .u8 (c:Int) (b:Int)=((c+b:Nat):Int):=by
 rw[Ykw h1 h2,hc,Zk6 hb]
theorem Zg4 {n:Nat}(h:n<2^63):Ax .i64 (n:Int) 63=((n%64:Nat):Int):=by
 have:=Q7 (k:=.i64) (a:=n) (b:=63) h (by decide);rw[Ml (j:=6) (by decide)]at this;exact this
theorem Yu {n s:Nat}(hs:s<=64):Bp .i64 (n:Int) (s:Int)=((n / 2^s:Nat):Int):=Zsx (k:=.i64) hs
theorem Zmm {n s:Nat}(hs:s<=32):Bp .i32 (n:Int) (s:Int)=((n / 2^s:Nat):Int):=Zsx (k:=.i32) hs
theorem Zwh {b:List UInt8}{x:Int}(hb:b.length+4<=140737488355328):Sl (b,x)=some (b++if sgn x then enc x.toNat else []):=by
 unfold Sl;simp only[Al,Kp,Zmf,Ab];rw[Bk (by omega),Av];cases hs:sgn x with
 | false=>simp
 | true =>
  simp only[A5,Ac];simp only[sgn,Ke,decide_eq_true_eq]at hs;obtain⟨h0,hs⟩:=hs;obtain⟨n,rfl⟩:=Kid h0;simp only[Kmc,Dc,decide_eq_true_eq]at hs ⊢;have e6:Bp .i64 (n:Int) 6=((n / 64:Nat):Int):=Yu (s:=6) (by omega);have e12:Bp .i64 (n:Int) 12=((n / 4096:Nat):Int):=Yu (s:=12) (by omega);have e18:Bp .i64 (n:Int) 18=((n / 262144:Nat):Int):=Yu (s:=18) (by omega);have l1:iOr .i64 128 (Ax .i64 (n:Int) 63)=((128+n%64:Nat):Int):=by
   rw[Zg4 (by omega)];exact orc (c:=128) (q:=2) (j:=6) (by decide) (by omega) (by omega) (by omega)
  have l2:iOr .i64 128 (Ax .i64 ((n / 64:Nat):Int) 63)=((128+n / 64%64:Nat):Int):=by
   rw[Zg4 (by omega)];exact orc (c:=128) (q:=2) (j:=6) (by decide) (by omega) (by omega) (by omega)
  have l3:iOr .i64 128 (Ax .i64 ((n / 4096:Nat):Int) 63)=((128+n / 4096%64:Nat):Int):=by
   rw[Zg4 (by omega)];exact orc (c:=128) (q:=2) (j:=6) (by decide) (by omega) (by omega) (by omega)
  by_cases h1:n<128
  ·rw[G8 (by omega),Ag,Bk (by omega),Av,Gj,enc,if_pos h1];rfl
  rw[Jv (by omega),Ac];by_cases h2:n<2048
  ·rw[G8 (by omega),Ag,Bk (by omega),Av,enc,if_neg h1,if_pos h2,e6,l1];rw[show iOr .i64 192 ((n / 64:Nat):Int)=((192+n / 64:Nat):Int) from orc (c:=192) (q:=6) (j:=5) (by decide) (by omega) (by omega) (by omega),Gj,Gj];rfl
  rw[Jv (by omega),Ac];by_cases h3:n<65536
  ·rw[G8 (by omega),Ag,Bk (by omega),Av,enc,if_neg h1,if_neg h2,if_pos h3,e12,e6,l1,l2];rw[show iOr .i64 224 ((n / 4096:Nat):Int)=((224+n / 4096:Nat):Int) from orc (c:=224) (q:=14) (j:=4) (by decide) (by omega) (by omega) (by omega),Gj,Gj,Gj];rfl
  ·rw[Jv (by omega),Ac,Bk (by omega),Av,enc,if_neg h1,if_neg h2,if_neg h3,e18,e12,e6,l1,l2,l3];rw[show iOr .i64 240 ((n / 262144:Nat):Int)=((240+n / 262144:Nat):Int) from orc (c:=240) (q:=30) (j:=3) (by decide) (by omega) (by omega) (by omega),Gj,Gj,Gj,Gj];rfl
theorem Pa {b:List UInt8}(hb:b.length<=140737488355328):Gg [b]=some b:=by
 unfold Gg;rw[Hv (fun i=>(if i=0 then [] else b,(i:Int))) 1 (.inl b)]
 ·rfl
 ·intro i hi;obtain rfl:i=0:=by omega
  show Qh [b] ([],0)=some (.inl (b,1));unfold Qh;rw[A4 (by simp),Ag,show idx [b] (([],0):List UInt8×Int).2=some b from rfl,Ab,Bk (by simp;omega),Av];rfl
 ·show Qh [b] (b,1)=some (.inr (.inl b));unfold Qh;rw[A0 (by simp),Ac]
 ·rfl
theorem Ja (n:Nat) (h:n<256):y2i (u8 (n:Int))=(n:Int):=by rw[Znw,Cm,Gf h]
theorem Zza (n:Nat):y2i (u8 (Ak .u8 (n:Int)))=((n%256:Nat):Int):=by
 rw[Gj,Cm,yN,UInt8.toNat_ofNat']
theorem Ylc {b:List UInt8}{x:Int}(hb:b.length+4<=140737488355328):Zs (b,x)=some (b++if sgn x then enc x.toNat else []):=by
 unfold Zs;simp only[Pa (show b.length<=140737488355328 by omega),Ab,Yle];cases hs:sgn x with
 | false=>simp
 | true =>
  simp only[A5,Ac,if_true];simp only[sgn,Ke,decide_eq_true_eq]at hs;obtain⟨h0,hs⟩:=hs;obtain⟨n,rfl⟩:=Kid h0;simp only[Kmc,Dc,decide_eq_true_eq]at hs ⊢;have ec:Ak .i32 (n:Int)=(n:Int):=Ju (k:=.i32) (show n<2^31 by omega);have eu:Ak .u32 (n:Int)=(n:Int):=Ju (k:=.u32) (show n<2^31 by omega);have e6:Bp .i32 (n:Int) 6=((n / 64:Nat):Int):=Zmm (s:=6) (by omega);have e12:Bp .i32 (n:Int) 12=((n / 4096:Nat):Int):=Zmm (s:=12) (by omega);have e18:Bp .i32 (n:Int) 18=((n / 262144:Nat):Int):=Zmm (s:=18) (by omega);have lo:∀m:Nat,u8 (iOr .u8 (y2i (u8 128)) (y2i (u8 (Ax .u8 (y2i (u8 (Ak .u8 (m:Int)))) (y2i (u8 63))))))=yN (128+m%64):=by
   intro m;rw[Zza,show y2i (u8 63)=((63:Nat):Int) from Ja 63 (by omega),show y2i (u8 128)=((128:Nat):Int) from Ja 128 (by omega)];rw[Zsu (by omega) (by omega),Ml (j:=6) (by decide),Ja _ (by omega)];rw[show m%256%2^6=m%64 by omega,Zuq (q:=2) (j:=6) (by decide) (by omega) (by omega) (by omega),Znw]
  have hi:∀(c q j m:Nat),c=q*2^j->m<2^j->c<256->m<256->u8 (iOr .u8 (y2i (u8 (c:Int))) (y2i (u8 (Ak .u8 (m:Int)))))=yN (c+m):=by
   intro c q j m h1 h2 h3 h4;rw[Zza,Ja c h3,Kuc h4,Zuq h1 h2 h3 h4,Znw]
  unfold Zf9;simp only[ec,eu];by_cases h1:n<128
  ·rw[G8 (by omega),Ag,Bk (by omega),Av,Ab,Gj,enc,if_pos h1];rfl
  rw[Jv (by omega),Ac];unfold Zga;simp only[eu,e6,e12,e18,lo];by_cases h2:n<2048
  ·rw[G8 (by omega),Ag,Bk (by omega),Av,Ab,Ab,enc,if_neg h1,if_pos h2];rw[show u8 (iOr .u8 (y2i (u8 192)) (y2i (u8 (Ak .u8 ((n / 64:Nat):Int)))))=yN (192+n / 64) from hi 192 6 5 _ (by decide) (by omega) (by omega) (by omega)];rfl
  rw[Jv (by omega),Ac];by_cases h3:n<65536
  ·have e3:(cnd (iLt (n:Int) 55296) (some (Sum.inl (β:=List UInt8) true)) (cnd (iLt 57343 (n:Int)) (some (.inl (iLe (n:Int) 65535))) (some (.inl false))))=some (.inl true):=by
    by_cases h4:n<55296
    ·rw[A4 (by omega),Ag]
    ·rw[A0 (by omega),Ac,A4 (by omega),Ag,G8 (by omega)]
   rw[e3,A3,Ag,Bk (by omega),Av,Ab,Ab,enc,if_neg h1,if_neg h2,if_pos h3];rw[show u8 (iOr .u8 (y2i (u8 224)) (y2i (u8 (Ak .u8 ((n / 4096:Nat):Int)))))=yN (224+n / 4096) from hi 224 14 4 _ (by decide) (by omega) (by omega) (by omega)];rfl
  ·have e3:(cnd (iLt (n:Int) 55296) (some (Sum.inl (β:=List UInt8) true)) (cnd (iLt 57343 (n:Int)) (some (.inl (iLe (n:Int) 65535))) (some (.inl false))))=some (.inl false):=by
    rw[A0 (by omega),Ac,A4 (by omega),Ag,Jv (by omega)]
   rw[e3,A3,Ac,Dq (by omega),Ag,G8 (by omega),Ag,Bk (by omega),Av,Ab,Ab,enc,if_neg h1,if_neg h2,if_neg h3];rw[show u8 (iOr .u8 (y2i (u8 240)) (y2i (u8 (Ak .u8 ((n / 262144:Nat):Int)))))=yN (240+n / 262144) from hi 240 30 3 _ (by decide) (by omega) (by omega) (by omega)];rfl
theorem Ud {σ ρ:Type}{step:σ->Option (σ ⊕ ρ)}{s s':σ}(h:step s=some (.inl s')):Ar step s=Ar step s':=by rw[Pd,h]
theorem I1 {σ ρ:Type}{step:σ->Option (σ ⊕ ρ)}{s:σ}{r:ρ}(h:step s=some (.inr r)):Ar step s=some r:=by rw[Pd,h]
def Dz (o:Option (Nat×Nat)) (z:Int):Int×Int×Bool:=match o with
 | some (n,k)=>((n:Int),z+(k:Int),true)
 | none=>(0,0,false)
theorem Ya0:∀b:Fin 256,iNe (y2i (u8 (Ax .u8 (y2i (UInt8.ofNat b.val)) (y2i (u8 192))))) (y2i (u8 128))=!Cp (UInt8.ofNat b.val):=by decide +kernel
theorem Ya1 (b:UInt8):iNe (y2i (u8 (Ax .u8 (y2i b) (y2i (u8 192))))) (y2i (u8 128))=!Cp b:=by
 have:=Ya0 ⟨b.toNat,Cn b⟩;simpa using this
theorem Zt4 (b:UInt8){j m:Nat}(hm:m=2^j-1) (h:m<256):y2i (u8 (Ax .u8 (y2i b) (y2i (u8 (m:Int)))))=((b.toNat%2^j:Nat):Int):=by
 have:=Cn b;have hle:b.toNat%2^j<=b.toNat:=Nat.mod_le _ _;rw[Ja m h,Cm b,Zsu (by omega) h,Ml hm,Ja _ (by omega)]
theorem Ylt {α:Type}(b:List α) (i j:Nat) (h:i+j<9223372036854775808):idx b (Ai .i64 (i:Int) (j:Int))=(b.drop i)[j]?:=by
 rw[Xi h,Gr,Kva]
def l2 (b:UInt8):Nat:=if b.toNat<128 then 1 else if b.toNat<194 then 0 else if b.toNat<224 then 2 else if b.toNat<240 then 3 else if b.toNat<245 then 4 else 0
theorem Ypb (b:UInt8):Za4 b=some ((l2 b:Nat):Int):=by
 have hb:=Cn b;have e0:y2i (u8 128)=128:=Ja 128 (by omega);have e1:Ak .i64 (b.toNat:Int)=(b.toNat:Int):=Ju (k:=.i64) (show b.toNat<2^63 by omega);unfold Za4 l2;simp only[e0,Cm,e1,En,Ab,iLt,W1];by_cases h1:b.toNat<128
 ·rw[if_pos (by omega),if_pos h1];rfl
 rw[if_neg (by omega),if_neg h1];by_cases h2:b.toNat<194
 ·rw[if_neg (by omega),if_neg (by omega),if_neg (by omega),if_pos h2];rfl
 rw[if_neg h2];by_cases h3:b.toNat<224
 ·rw[if_pos (by omega),if_pos h3];rfl
 rw[if_neg (by omega),if_neg h3];by_cases h4:b.toNat<240
 ·rw[if_pos (by omega),if_pos h4];rfl
 rw[if_neg (by omega),if_neg h4];by_cases h5:b.toNat<245
 ·rw[if_pos (by omega),if_pos h5];rfl
 ·rw[if_neg (by omega),if_neg h5];rfl
theorem Ybc {l:List UInt8}{n k:Nat}(h:∀x,dec l=some x->x=(n,k)):dec l=if Dc n=true/\enc n=l.take k then some (n,k) else none:=by
 cases hd:dec l with
 | some x =>
  have:=h x hd;subst this;obtain⟨a,b,_⟩:=Zio hd;rw[if_pos ⟨a,b⟩]
 | none =>
  rw[if_neg];rintro ⟨a,b⟩;have:=Ybd a (l.drop k);rw[b,Kkc,hd]at this;cases this
theorem Zey {b:List UInt8}{i n k:Nat}(hl:b.length<4611686018427387904) (hi:i+k<=b.length) (h:∀x,dec (b.drop i)=some x->x=(n,k)) :
  (bnd (Sn (n:Int)) fun z7=>cnd (Ah z7) (some (0,(0,false))) (bnd (Sl ([],(n:Int))) fun z8=>chk (Dx (i:Int) (Ai .i64 (i:Int) (k:Int)) (Ae b)) (cnd (Ah (sEq z8 (Bq ((nOf (Ai .i64 (i:Int) (k:Int)))-(nOf (i:Int))) (Dk (nOf (i:Int)) b)))) (some (0,(0,false))) (some ((n:Int),((Ai .i64 (i:Int) (k:Int)),true))))))
   = some (Dz (dec (b.drop i)) i):=by
 rw[Ybc h];have ea:Ai .i64 (i:Int) (k:Int)=((i+k:Nat):Int):=Xi (by omega);have es:sgn (n:Int)=Dc n:=by simp [sgn]
 have et:Bq (nOf ((i+k:Nat):Int)-nOf (i:Int)) (Dk (nOf (i:Int)) b)=(b.drop i).take k:=by
  rw[D9,D9,Bq,Dk,Kbg]
 rw[Zmf,Ab,es];cases hs:Dc n with
 | false=>simp [Dz]
 | true =>
  rw[Zwh (by simp),Ab,es,hs,ea,et];have ew:Dx (i:Int) ((i+k:Nat):Int) (Ae b)=true:=by
   unfold Dx;rw[decide_eq_true_eq,Aj];omega
  simp only[A5,Ac,ew,Av,if_true,Kp,Kmc,true_and,sEq,Ah];by_cases he:enc n=(b.drop i).take k
  ·rw[if_pos he,he,beq_self_eq_true];simp [Dz]
  ·rw[if_neg he];have:(enc n==(b.drop i).take k)=false:=by simpa using he
   rw[this];simp [Dz]
theorem Ypn {a c:Nat}(ha:a<1099511627776) (hc:c<64):iOr .i64 (B4 .i64 (a:Int) 6) (c:Int)=((a*64+c:Nat):Int):=by
 have h1:a*64<9223372036854775808:=by omega
 have e:B4 .i64 (a:Int) 6=((a*64:Nat):Int):=Zdn (k:=.i64) (s:=6) (by decide) h1;rw[e];exact orc (c:=a*64) (q:=a) (j:=6) rfl hc h1 (by omega)
theorem Uq {b:List UInt8}{i j k n:Nat}{y:UInt8}(j':Nat) (hl:b.length<4611686018427387904) (hi:i<=b.length) (hk:k<=4) (hj:j<k) (hj':j'=j+1) (hn:n<1099511627776) (hy:(b.drop i)[j]? = some y) :
  Mh (b,(i:Int)) (k:Int) ((n:Int),(j:Int))=if Cp y then some (.inl (((n*64+y.toNat%64:Nat):Int),(j':Int))) else some (.inr (.inr (0,(0,false)))):=by
 subst hj';unfold Mh;simp only;rw[A4 (by omega),Ag,Ylt b i j (by omega),hy,Ab,Ab,Ya1];cases Cp y with
 | false=>simp
 | true =>
  have e63:y2i (u8 (Ax .u8 (y2i y) (y2i (u8 63))))=((y.toNat%2^6:Nat):Int):=Zt4 y (m:=63) (by decide) (by omega);have ec:Ak .i64 ((y.toNat%2^6:Nat):Int)=((y.toNat%2^6:Nat):Int):=Ju (k:=.i64) (show y.toNat%2^6<2^63 by omega);simp only[Kbd,Ac,if_true];rw[e63,ec,Cs (by omega)];rw[show (2:Nat)^6=64 by rfl,Ypn hn (by omega)]
theorem Ze0 {b:List UInt8}{i k n:Nat}:Mh (b,(i:Int)) (k:Int) ((n:Int),(k:Int))=some (.inr (.inl (n:Int))):=by
 unfold Mh;simp only;rw[A0 (Klb _),Ac]
theorem Yor {b:List UInt8}{i:Nat}(hl:b.length<4611686018427387904) (hi:i<b.length):Zay (b,(i:Int))=some (Dz (dec (b.drop i)) i):=by
 unfold Zay;have e0:A6 .i64 (Ae b) 1=(b.length:Int)-1:=Er (by simp only[Aj];omega) (by simp only[Aj];omega);simp only[En,Ab];rw[e0,show decide ((0:Int)<=(i:Int)/\(i:Int)<=(b.length:Int)-1)=true by simp only[decide_eq_true_eq];omega,A5,Ac,Bt hi,Ab,Ypb,Ab];have hd:b.drop i=b[i]::b.drop (i+1):=Kfc hi;have hlen:(b.drop i).length=b.length-i:=Kra;have e1:A6 .i64 (Ae b) (i:Int)=((b.length-i:Nat):Int):=by
  rw[Er (by simp only[Aj];omega) (by simp only[Aj];omega),Aj];omega
 have hb0:=Cn b[i];have ec0:Ak .i64 (y2i b[i])=((b[i].toNat:Nat):Int):=Ju (k:=.i64) (show b[i].toNat<2^63 by omega);rw[e1];unfold l2;by_cases h1:b[i].toNat<128
 ·rw[if_pos h1,Dp (by decide),Ac,Ej (by omega),Ac,Ab,Ej (by omega),Ac,A3,ec0];rw[I1 (show Mh (b,(i:Int)) ((1:Nat):Int) (((b[i].toNat:Nat):Int),1)=_ from Ze0 (k:=1)),A3];refine Zey (k:=1) hl (by omega) fun x hx=>?_;rw[hd]at hx;simp only[dec,if_pos h1,Ka]at hx;exact hx.symm
 rw[if_neg h1];by_cases h2:b[i].toNat<194
 ·rw[if_pos h2,show iEq ((0:Nat):Int) 0=true from rfl,Ag,hd];simp only[dec,if_neg h1,if_pos h2,Dz]
 rw[if_neg h2];by_cases h3:b[i].toNat<224
 ·rw[if_pos h3,Dp (by decide),Ac];by_cases hk:b.length-i<2
  ·rw[Dq (by omega),Ag,hd];have:b.drop (i+1)=[]:=Kzd (by omega);rw[this];simp only[dec,if_neg h1,if_neg h2,if_pos h3,Ok,Dz]
  rw[Ej (by omega),Ac,Ab,Dq (by omega),Ag];rw[show iLe 0 (Ak .u64 ((2:Nat):Int))=true by decide +kernel,Av,A3,ec0];have em:Ax .i64 ((b[i].toNat:Nat):Int) (Bp .i64 127 (Ak .u64 ((2:Nat):Int)))=((b[i].toNat%32:Nat):Int):=by
   rw[show Bp .i64 127 (Ak .u64 ((2:Nat):Int))=((31:Nat):Int) by decide +kernel,Q7 (k:=.i64) (show b[i].toNat<2^63 by omega) (by decide),Ml (j:=5) (by decide)]
  rw[em];obtain⟨b1,r,hr⟩:∃b1 r,b.drop (i+1)=b1::r:=by
   cases hq:b.drop (i+1) with
   | nil=>have:=congrArg List.length hq;simp only[Kra,Ki]at this;omega
   | cons x y=>exact⟨x,y,rfl⟩
  have y1:(b.drop i)[1]? = some b1:=by rw[hd,hr];rfl
  have s1:Mh (b,(i:Int)) ((2:Nat):Int) (((b[i].toNat%32:Nat):Int),1)=_:=Uq (j:=1) 2 (k:=2) (n:=b[i].toNat%32) hl (by omega) (by omega) (by omega) rfl (by omega) y1;by_cases c1:Cp b1=true
  ·rw[if_pos c1]at s1;rw[Ud s1,I1 (Ze0 (k:=2)),A3];refine Zey (k:=2) hl (by omega) fun x hx=>?_;rw[hd,hr]at hx;simp only[dec,if_neg h1,if_neg h2,if_pos h3,Ok,if_pos c1,Ka]at hx;exact hx.symm
  ·rw[if_neg c1]at s1;rw[I1 s1,M3,hd,hr];simp only[dec,if_neg h1,if_neg h2,if_pos h3,Ok,if_neg c1,Dz]
 rw[if_neg h3];by_cases h4:b[i].toNat<240
 ·rw[if_pos h4,Dp (by decide),Ac];by_cases hk:b.length-i<3
  ·rw[Dq (by omega),Ag,hd];have:K6 b[i] (b.drop (i+1))=none:=by
    have hl3:(b.drop (i+1)).length<2:=by rw[Kra];omega
    match b.drop (i+1),hl3 with
    | [],_=>rfl
    | [_],_=>rfl
    | _::_::_,h=>simp at h;omega
   simp only[dec,if_neg h1,if_neg h2,if_neg h3,if_pos h4,this,Dz]
  rw[Ej (by omega),Ac,Ab,Dq (by omega),Ag];rw[show iLe 0 (Ak .u64 ((3:Nat):Int))=true by decide +kernel,Av,A3,ec0];have em:Ax .i64 ((b[i].toNat:Nat):Int) (Bp .i64 127 (Ak .u64 ((3:Nat):Int)))=((b[i].toNat%16:Nat):Int):=by
   rw[show Bp .i64 127 (Ak .u64 ((3:Nat):Int))=((15:Nat):Int) by decide +kernel,Q7 (k:=.i64) (show b[i].toNat<2^63 by omega) (by decide),Ml (j:=4) (by decide)]
  rw[em];obtain⟨b1,b2,r,hr⟩:∃b1 b2 r,b.drop (i+1)=b1::b2::r:=by
   have hl3:2<=(b.drop (i+1)).length:=by rw[Kra];omega
   match b.drop (i+1),hl3 with
   | x::y::r,_=>exact⟨x,y,r,rfl⟩
  have y1:(b.drop i)[1]? = some b1:=by rw[hd,hr];rfl
  have y2:(b.drop i)[2]? = some b2:=by rw[hd,hr];rfl
  have q1:=Cn b1;have s1:Mh (b,(i:Int)) ((3:Nat):Int) (((b[i].toNat%16:Nat):Int),1)=_:=Uq (j:=1) 2 (k:=3) (n:=b[i].toNat%16) hl (by omega) (by omega) (by omega) rfl (by omega) y1;have s2:=Uq (j:=2) 3 (k:=3) (n:=b[i].toNat%16*64+b1.toNat%64) hl (by omega) (by omega) (by omega) rfl (by omega) y2;by_cases c1:Cp b1=true
  ·rw[if_pos c1]at s1;rw[Ud s1];by_cases c2:Cp b2=true
   ·rw[if_pos c2]at s2;rw[Ud s2,I1 (Ze0 (k:=3)),A3];refine Zey (k:=3) hl (by omega) fun x hx=>?_;rw[hd,hr]at hx;simp only[dec,if_neg h1,if_neg h2,if_neg h3,if_pos h4,K6]at hx;split at hx
    ·simp only[Ka]at hx;rw[<-hx];congr 1;omega
    ·cases hx
   ·rw[if_neg c2]at s2;rw[I1 s2,M3,hd,hr];simp only[dec,if_neg h1,if_neg h2,if_neg h3,if_pos h4,K6];rw[if_neg (fun h=>c2 h.2.2)];rfl
  ·rw[if_neg c1]at s1;rw[I1 s1,M3,hd,hr];simp only[dec,if_neg h1,if_neg h2,if_neg h3,if_pos h4,K6];rw[if_neg]
   ·rfl
   ·rintro ⟨a,c,_⟩;refine c1 ?_;simp only[Cp,decide_eq_true_eq];unfold Lj at a;unfold hi3 at c;split at a<;>split at c<;>omega
 rw[if_neg h4];by_cases h5:b[i].toNat<245
 ·rw[if_pos h5,Dp (by decide),Ac];by_cases hk:b.length-i<4
  ·rw[Dq (by omega),Ag,hd];have:Iu b[i] (b.drop (i+1))=none:=by
    have hl3:(b.drop (i+1)).length<3:=by rw[Kra];omega
    match b.drop (i+1),hl3 with
    | [],_=>rfl
    | [_],_=>rfl
    | [_,_],_=>rfl
    | _::_::_::_,h=>simp at h;omega
   simp only[dec,if_neg h1,if_neg h2,if_neg h3,if_neg h4,if_pos h5,this,Dz]
  rw[Ej (by omega),Ac,Ab,Dq (by omega),Ag];rw[show iLe 0 (Ak .u64 ((4:Nat):Int))=true by decide +kernel,Av,A3,ec0];have em:Ax .i64 ((b[i].toNat:Nat):Int) (Bp .i64 127 (Ak .u64 ((4:Nat):Int)))=((b[i].toNat%8:Nat):Int):=by
   rw[show Bp .i64 127 (Ak .u64 ((4:Nat):Int))=((7:Nat):Int) by decide +kernel,Q7 (k:=.i64) (show b[i].toNat<2^63 by omega) (by decide),Ml (j:=3) (by decide)]
  rw[em];obtain⟨b1,b2,b3,r,hr⟩:∃b1 b2 b3 r,b.drop (i+1)=b1::b2::b3::r:=by
   have hl3:3<=(b.drop (i+1)).length:=by rw[Kra];omega
   match b.drop (i+1),hl3 with
   | x::y::z::r,_=>exact⟨x,y,z,r,rfl⟩
  have y1:(b.drop i)[1]? = some b1:=by rw[hd,hr];rfl
  have y2:(b.drop i)[2]? = some b2:=by rw[hd,hr];rfl
  have y3:(b.drop i)[3]? = some b3:=by rw[hd,hr];rfl
  have q1:=Cn b1;have q2:=Cn b2;have s1:Mh (b,(i:Int)) ((4:Nat):Int) (((b[i].toNat%8:Nat):Int),1)=_:=Uq (j:=1) 2 (k:=4) (n:=b[i].toNat%8) hl (by omega) (by omega) (by omega) rfl (by omega) y1;have s2:=Uq (j:=2) 3 (k:=4) (n:=b[i].toNat%8*64+b1.toNat%64) hl (by omega) (by omega) (by omega) rfl (by omega) y2;have s3:=Uq (j:=3) 4 (k:=4) (n:=(b[i].toNat%8*64+b1.toNat%64)*64+b2.toNat%64) hl (by omega) (by omega) (by omega) rfl (by omega) y3;by_cases c1:Cp b1=true
  ·rw[if_pos c1]at s1;rw[Ud s1];by_cases c2:Cp b2=true
   ·rw[if_pos c2]at s2;rw[Ud s2];by_cases c3:Cp b3=true
    ·rw[if_pos c3]at s3;rw[Ud s3,I1 (Ze0 (k:=4)),A3];refine Zey (k:=4) hl (by omega) fun x hx=>?_;rw[hd,hr]at hx;simp only[dec,if_neg h1,if_neg h2,if_neg h3,if_neg h4,if_pos h5,Iu]at hx;split at hx
     ·simp only[Ka]at hx;rw[<-hx];congr 1;omega
     ·cases hx
    ·rw[if_neg c3]at s3;rw[I1 s3,M3,hd,hr];simp only[dec,if_neg h1,if_neg h2,if_neg h3,if_neg h4,if_pos h5,Iu];rw[if_neg (fun h=>c3 h.2.2.2)];rfl
   ·rw[if_neg c2]at s2;rw[I1 s2,M3,hd,hr];simp only[dec,if_neg h1,if_neg h2,if_neg h3,if_neg h4,if_pos h5,Iu];rw[if_neg (fun h=>c2 h.2.2.1)];rfl
  ·rw[if_neg c1]at s1;rw[I1 s1,M3,hd,hr];simp only[dec,if_neg h1,if_neg h2,if_neg h3,if_neg h4,if_pos h5,Iu];rw[if_neg]
   ·rfl
   ·rintro ⟨a,c,_⟩;refine c1 ?_;simp only[Cp,decide_eq_true_eq];unfold Lk at a;unfold hi4 at c;split at a<;>split at c<;>omega
 ·rw[if_neg h5,show iEq ((0:Nat):Int) 0=true from rfl,Ag,hd];simp only[dec,if_neg h1,if_neg h2,if_neg h3,if_neg h4,if_neg h5,Dz]
structure XT (x lo hi:UInt8) (k:Nat):Prop where
 a:iGe (y2i x) (y2i (u8 240))=false
 b:iLe 0 (y2i (u8 (Bp .u8 (y2i x) 4)))=true
 c:iLt (y2i (u8 (Bp .u8 (y2i x) 4))) 16=true
 d:idx Ts (Int.ofNat (0+((nOf (y2i (u8 (Bp .u8 (y2i x) 4))))*2)))=some lo
 e:idx Ts (Int.ofNat ((0+((nOf (y2i (u8 (Bp .u8 (y2i x) 4))))*2))+1))=some hi
 f:Ak .i64 (y2i (u8 (Ax .u8 (y2i x) (y2i (u8 7)))))=(k:Int)
theorem xt2:XT 0x02 128 191 2:=⟨by decide +kernel,by decide +kernel,by decide +kernel,by decide +kernel,by decide +kernel,by decide +kernel⟩
theorem Ysc:XT 0x13 160 191 3:=⟨by decide +kernel,by decide +kernel,by decide +kernel,by decide +kernel,by decide +kernel,by decide +kernel⟩
theorem xt3:XT 0x03 128 191 3:=⟨by decide +kernel,by decide +kernel,by decide +kernel,by decide +kernel,by decide +kernel,by decide +kernel⟩
theorem Ysd:XT 0x23 128 159 3:=⟨by decide +kernel,by decide +kernel,by decide +kernel,by decide +kernel,by decide +kernel,by decide +kernel⟩
theorem Yse:XT 0x34 144 191 4:=⟨by decide +kernel,by decide +kernel,by decide +kernel,by decide +kernel,by decide +kernel,by decide +kernel⟩
theorem xt4:XT 0x04 128 191 4:=⟨by decide +kernel,by decide +kernel,by decide +kernel,by decide +kernel,by decide +kernel,by decide +kernel⟩
theorem Ysf:XT 0x44 128 143 4:=⟨by decide +kernel,by decide +kernel,by decide +kernel,by decide +kernel,by decide +kernel,by decide +kernel⟩
theorem Yfj:∀b:Fin 256,128<=b.val->Ox[b.val]? = some (if b.val<194 then 241 else if b.val<224 then 0x02 else if b.val=224 then 0x13 else if b.val=237 then 0x23 else if b.val<240 then 0x03 else if b.val=240 then 0x34 else if b.val<244 then 0x04 else if b.val=244 then 0x44 else 241):=by decide +kernel
theorem Yaf:∀b:Fin 256,iOr .i32 (Zje .i32 (Ak .i32 (y2i (UInt8.ofNat b.val))) (Bp .i32 (B4 .i32 (Ak .i32 (y2i 241)) 31) 31)) (Ax .i32 65533 (Bp .i32 (B4 .i32 (Ak .i32 (y2i 241)) 31) 31))=65533:=by decide +kernel
theorem Uu {a s:Nat}(hs:s<=32) (h:a*2^s<2147483648):B4 .i32 (a:Int) (s:Int)=((a*2^s:Nat):Int):=Zdn (k:=.i32) hs h
theorem Uk {a j b:Nat}(hb:b<2^j) (h1:a*2^j<2147483648) (h2:b<2147483648):iOr .i32 ((a*2^j:Nat):Int) (b:Int)=((a*2^j+b:Nat):Int):=by
 rw[Zsw (k:=.i32) h1 h2,Zk6 hb]
theorem m32 (b:UInt8){j m:Nat}(hm:m=2^j-1) (h:m<256) (hj:j<=8):Ak .i32 (y2i (u8 (Ax .u8 (y2i b) (y2i (u8 (m:Int))))))=((b.toNat%2^j:Nat):Int):=by
 have hlt:b.toNat%2^j<2^31:=Kjg (Nat.mod_le _ _) (by have:=Cn b;omega);rw[Zt4 b hm h];exact Ju (k:=.i32) hlt
theorem Yrc (b0 b1:UInt8):iOr .i32 (B4 .i32 (Ak .i32 (y2i (u8 (Ax .u8 (y2i b0) (y2i (u8 31)))))) 6) (Ak .i32 (y2i (u8 (Ax .u8 (y2i b1) (y2i (u8 63))))))=((b0.toNat%32*64+b1.toNat%64:Nat):Int):=by
 have h0:=Cn b0;rw[show Ak .i32 (y2i (u8 (Ax .u8 (y2i b0) (y2i (u8 31)))))=((b0.toNat%32:Nat):Int) from m32 b0 (m:=31) (j:=5) rfl (by omega) (by omega),
  show Ak .i32 (y2i (u8 (Ax .u8 (y2i b1) (y2i (u8 63)))))=((b1.toNat%64:Nat):Int) from m32 b1 (m:=63) (j:=6) rfl (by omega) (by omega)]
 rw[show B4 .i32 ((b0.toNat%32:Nat):Int) 6=((b0.toNat%32*2^6:Nat):Int) from Uu (s:=6) (by omega) (by omega)];exact Uk (j:=6) (by omega) (by omega) (by omega)
theorem Yrd (b0 b1 b2:UInt8):iOr .i32 (iOr .i32 (B4 .i32 (Ak .i32 (y2i (u8 (Ax .u8 (y2i b0) (y2i (u8 15)))))) 12) (B4 .i32 (Ak .i32 (y2i (u8 (Ax .u8 (y2i b1) (y2i (u8 63)))))) 6)) (Ak .i32 (y2i (u8 (Ax .u8 (y2i b2) (y2i (u8 63))))))=((b0.toNat%16*4096+b1.toNat%64*64+b2.toNat%64:Nat):Int):=by
 have h0:=Cn b0;have e:∀b:UInt8,Ak .i32 (y2i (u8 (Ax .u8 (y2i b) (y2i (u8 63)))))=((b.toNat%64:Nat):Int):=fun b=>m32 b (m:=63) (j:=6) rfl (by omega) (by omega);rw[show Ak .i32 (y2i (u8 (Ax .u8 (y2i b0) (y2i (u8 15)))))=((b0.toNat%16:Nat):Int) from m32 b0 (m:=15) (j:=4) rfl (by omega) (by omega),e b1,e b2];rw[show B4 .i32 ((b0.toNat%16:Nat):Int) 12=((b0.toNat%16*2^12:Nat):Int) from Uu (s:=12) (by omega) (by omega),
  show B4 .i32 ((b1.toNat%64:Nat):Int) 6=((b1.toNat%64*2^6:Nat):Int) from Uu (s:=6) (by omega) (by omega)]
 rw[Uk (j:=12) (by omega) (by omega) (by omega)];rw[show b0.toNat%16*2^12+b1.toNat%64*2^6=(b0.toNat%16*64+b1.toNat%64)*2^6 by omega,Uk (j:=6) (by omega) (by omega) (by omega)]
theorem Yre (b0 b1 b2 b3:UInt8):iOr .i32 (iOr .i32 (iOr .i32 (B4 .i32 (Ak .i32 (y2i (u8 (Ax .u8 (y2i b0) (y2i (u8 7)))))) 18) (B4 .i32 (Ak .i32 (y2i (u8 (Ax .u8 (y2i b1) (y2i (u8 63)))))) 12)) (B4 .i32 (Ak .i32 (y2i (u8 (Ax .u8 (y2i b2) (y2i (u8 63)))))) 6)) (Ak .i32 (y2i (u8 (Ax .u8 (y2i b3) (y2i (u8 63))))))=((b0.toNat%8*262144+b1.toNat%64*4096+b2.toNat%64*64+b3.toNat%64:Nat):Int):=by
 have h0:=Cn b0;have e:∀b:UInt8,Ak .i32 (y2i (u8 (Ax .u8 (y2i b) (y2i (u8 63)))))=((b.toNat%64:Nat):Int):=fun b=>m32 b (m:=63) (j:=6) rfl (by omega) (by omega);rw[show Ak .i32 (y2i (u8 (Ax .u8 (y2i b0) (y2i (u8 7)))))=((b0.toNat%8:Nat):Int) from m32 b0 (m:=7) (j:=3) rfl (by omega) (by omega),e b1,e b2,e b3];rw[show B4 .i32 ((b0.toNat%8:Nat):Int) 18=((b0.toNat%8*2^18:Nat):Int) from Uu (s:=18) (by omega) (by omega),
  show B4 .i32 ((b1.toNat%64:Nat):Int) 12=((b1.toNat%64*2^12:Nat):Int) from Uu (s:=12) (by omega) (by omega),
  show B4 .i32 ((b2.toNat%64:Nat):Int) 6=((b2.toNat%64*2^6:Nat):Int) from Uu (s:=6) (by omega) (by omega)]
 rw[Uk (j:=18) (by omega) (by omega) (by omega)];rw[show b0.toNat%8*2^18+b1.toNat%64*2^12=(b0.toNat%8*64+b1.toNat%64)*2^12 by omega,Uk (j:=12) (by omega) (by omega) (by omega)];rw[show (b0.toNat%8*64+b1.toNat%64)*2^12+b2.toNat%64*2^6=((b0.toNat%8*64+b1.toNat%64)*64+b2.toNat%64)*2^6 by omega,Uk (j:=6) (by omega) (by omega) (by omega)]
def Nj (o:Option (Nat×Nat)):Int×Int:=match o with
 | some (n,k)=>((n:Int),(k:Int))
 | none=>(65533,1)
def Nm (b0 lo hi:UInt8) (k:Nat) (r:List UInt8):Int×Int:=if r.length+1<k then (65533,1) else match r with
   | []=>(65533,1)
   | b1::r=>if b1.toNat<lo.toNat\/hi.toNat<b1.toNat then (65533,1) else if k<=2 then (((b0.toNat%32*64+b1.toNat%64:Nat):Int),2) else match r with
    | []=>(65533,1)
    | b2::r=>if b2.toNat<128\/191<b2.toNat then (65533,1) else if k<=3 then (((b0.toNat%16*4096+b1.toNat%64*64+b2.toNat%64:Nat):Int),3) else match r with
     | []=>(65533,1)
     | b3::_=>if b3.toNat<128\/191<b3.toNat then (65533,1) else (((b0.toNat%8*262144+b1.toNat%64*4096+b2.toNat%64*64+b3.toNat%64:Nat):Int),4)
theorem Rw {b0:UInt8}{r:List UInt8}{x lo hi:UInt8}{k:Nat}(hf:Ox[b0.toNat]? = some x) (ht:XT x lo hi k) (hk:2<=k) (hl:r.length<4611686018427387904) :
  Me (b0::r)=some (Nm b0 lo hi k r):=by
 have h0:=Cn b0;have e0:idx (b0::r) 0=some b0:=rfl;have e1:idx Ox (Int.ofNat (0+nOf (y2i b0)*1))=some x:=by
  rw[Cm,D9,Mz];simpa using hf
 by_cases hs:r.length+1<k
 ·unfold Nm;rw[if_pos hs];unfold Me;rw[A0 (by simp only[Aj,Kg];omega),Ac,e0,Ab,G8 (by rw[Cm];omega),Av,A4 (by rw[Cm];omega),Av,e1,Ab,ht.a,Ac,ht.b,Av,ht.c,Av,ht.d,Ab,ht.e,Ab,ht.f,
   A4 (by simp only[Aj,Kg];omega),Ag]
 match r with
 | []=>exact (hs (by simp only[Ki];omega)).elim
 | b1::r =>
  have h1:=Cn b1;have i1:idx (b0::b1::r) 1=some b1:=rfl;have pre:Me (b0::b1::r)=(cnd (iLt (y2i b1) (y2i lo)) (some (65533,1)) (cnd (iLt (y2i hi) (y2i b1)) (some (65533,1))
   (cnd (iLe (k:Int) 2) (some ((iOr .i32 (B4 .i32 (Ak .i32 (y2i (u8 (Ax .u8 (y2i b0) (y2i (u8 31)))))) 6) (Ak .i32 (y2i (u8 (Ax .u8 (y2i b1) (y2i (u8 63))))))),2)) (bnd (idx (b0::b1::r) 2) (fun z6=>(cnd (iLt (y2i z6) (y2i (u8 128))) (some (65533,1)) (cnd (iLt (y2i (u8 191)) (y2i z6)) (some
   (65533,1)) (cnd (iLe (k:Int) 3) (some ((iOr .i32 (iOr .i32 (B4 .i32 (Ak .i32 (y2i (u8 (Ax .u8 (y2i b0) (y2i (u8 15))))))
   12) (B4 .i32 (Ak .i32 (y2i (u8 (Ax .u8 (y2i b1) (y2i (u8 63)))))) 6)) (Ak .i32 (y2i (u8 (Ax .u8 (y2i z6) (y2i (u8 63))))))),3)) (bnd (idx (b0::b1::r) 3) (fun z7 =>
   (cnd (iLt (y2i z7) (y2i (u8 128))) (some (65533,1)) (cnd (iLt (y2i (u8 191)) (y2i z7)) (some (65533,1)) (some ((iOr .i32 (iOr .i32 (iOr .i32 (B4 .i32 (Ak .i32 (y2i (u8
   (Ax .u8 (y2i b0) (y2i (u8 7)))))) 18) (B4 .i32 (Ak .i32 (y2i (u8 (Ax .u8 (y2i b1) (y2i (u8 63)))))) 12)) (B4 .i32 (Ak .i32 (y2i (u8 (Ax .u8 (y2i z6) (y2i (u8
   63)))))) 6)) (Ak .i32 (y2i (u8 (Ax .u8 (y2i z7) (y2i (u8 63))))))),4)))))))))))))):=by
   unfold Me;rw[A0 (by simp only[Aj,Kg];omega),Ac,e0,Ab,G8 (by rw[Cm];omega),Av,A4 (by rw[Cm];omega),Av,e1,Ab,ht.a,Ac,ht.b,Av,ht.c,Av,ht.d,Ab,ht.e,Ab,ht.f,
    A0 (by simp only[Aj,Kg]at hs ⊢;omega),Ac,i1,Ab]
  have e128:y2i (u8 128)=128:=Ja 128 (by omega);have e191:y2i (u8 191)=191:=Ja 191 (by omega);unfold Nm;rw[pre,if_neg hs];simp only[e128,e191,Yrc,Yrd,Yre];by_cases c1:b1.toNat<lo.toNat
  ·rw[A4 (by rw[Cm,Cm];omega),Ag,if_pos (.inl c1)]
  rw[A0 (by rw[Cm,Cm];omega),Ac];by_cases c2:hi.toNat<b1.toNat
  ·rw[A4 (by rw[Cm,Cm];omega),Ag,if_pos (.inr c2)]
  rw[A0 (by rw[Cm,Cm];omega),Ac,if_neg (by omega)];by_cases k2:k<=2
  ·rw[G8 (by omega),Ag,if_pos k2]
  rw[Jv (by omega),Ac,if_neg k2];obtain⟨b2,q,rfl⟩:∃b2 q,r=b2::q:=by
   cases r with
   | nil=>exact (hs (by simp only[Ki,Kg];omega)).elim
   | cons x y=>exact⟨x,y,rfl⟩
  have h2:=Cn b2;have i2:idx (b0::b1::b2::q) 2=some b2:=rfl;rw[i2,Ab];by_cases c3:b2.toNat<128
  ·rw[A4 (by rw[Cm];omega),Ag];simp only;rw[if_pos (.inl c3)]
  rw[A0 (by rw[Cm];omega),Ac];by_cases c4:191<b2.toNat
  ·rw[A4 (by rw[Cm];omega),Ag];simp only;rw[if_pos (.inr c4)]
  rw[A0 (by rw[Cm];omega),Ac];simp only;rw[if_neg (by omega)];by_cases k3:k<=3
  ·rw[G8 (by omega),Ag,if_pos k3]
  rw[Jv (by omega),Ac,if_neg k3];obtain⟨b3,p,rfl⟩:∃b3 p,q=b3::p:=by
   cases q with
   | nil=>exact (hs (by simp only[Ki,Kg];omega)).elim
   | cons x y=>exact⟨x,y,rfl⟩
  have h3:=Cn b3;have i3:idx (b0::b1::b2::b3::p) 3=some b3:=rfl;rw[i3,Ab];by_cases c5:b3.toNat<128
  ·rw[A4 (by rw[Cm];omega),Ag];simp only;rw[if_pos (.inl c5)]
  rw[A0 (by rw[Cm];omega),Ac];by_cases c6:191<b3.toNat
  ·rw[A4 (by rw[Cm];omega),Ag];simp only;rw[if_pos (.inr c6)]
  rw[A0 (by rw[Cm];omega),Ac];simp only;rw[if_neg (by omega)]
theorem Ypt {b0:UInt8}{r:List UInt8}(h1:194<=b0.toNat) (h2:b0.toNat<224):Nm b0 128 191 2 r=Nj (dec (b0::r)):=by
 have e1:(128:UInt8).toNat=128:=rfl;have e2:(191:UInt8).toNat=191:=rfl;unfold Nm;simp only[dec,if_neg (show ¬b0.toNat<128 by omega),if_neg (show ¬b0.toNat<194 by omega),if_pos h2,e1,e2];cases r with
 | nil=>rfl
 | cons b1 r =>
  rw[if_neg (by simp)];simp only[Ok];by_cases hc:Cp b1=true
  ·rw[if_pos hc];simp only[Cp,decide_eq_true_eq]at hc;rw[if_neg (by omega),if_pos (Kd _)];rfl
  ·rw[if_neg hc];simp only[Cp,decide_eq_true_eq]at hc;rw[if_pos (by omega)];rfl
theorem Zmp {b0 lo hi:UInt8}{r:List UInt8}(h1:224<=b0.toNat) (h2:b0.toNat<240) (hl:lo.toNat=Lj b0) (hh:hi.toNat=hi3 b0):Nm b0 lo hi 3 r=Nj (dec (b0::r)):=by
 unfold Nm;simp only[dec,if_neg (show ¬b0.toNat<128 by omega),if_neg (show ¬b0.toNat<194 by omega),if_neg (show ¬b0.toNat<224 by omega),if_pos h2,hl,hh]
 match r with
 | []=>rfl
 | [_]=>rfl
 | b1::b2::r =>
  rw[if_neg (by simp)];simp only[K6];by_cases hc:Lj b0<=b1.toNat/\b1.toNat<=hi3 b0/\Cp b2=true
  ·rw[if_pos hc];obtain⟨c1,c2,c3⟩:=hc;simp only[Cp,decide_eq_true_eq]at c3;rw[if_neg (by omega),if_neg (by omega),if_neg (by omega),if_pos (Kd _)];rfl
  ·rw[if_neg hc];by_cases c1:b1.toNat<Lj b0\/hi3 b0<b1.toNat
   ·rw[if_pos c1];rfl
   ·rw[if_neg c1,if_neg (by omega),if_pos]
    ·rfl
    ·have:¬Cp b2=true:=fun h=>hc ⟨by omega,by omega,h⟩;simp only[Cp,decide_eq_true_eq]at this;omega
theorem Zmq {b0 lo hi:UInt8}{r:List UInt8}(h1:240<=b0.toNat) (h2:b0.toNat<245) (hl:lo.toNat=Lk b0) (hh:hi.toNat=hi4 b0):Nm b0 lo hi 4 r=Nj (dec (b0::r)):=by
 unfold Nm;simp only[dec,if_neg (show ¬b0.toNat<128 by omega),if_neg (show ¬b0.toNat<194 by omega),if_neg (show ¬b0.toNat<224 by omega),if_neg (show ¬b0.toNat<240 by omega),if_pos h2,hl,hh]
 match r with
 | []=>rfl
 | [_]=>rfl
 | [_,_]=>rfl
 | b1::b2::b3::r =>
  rw[if_neg (by simp)];simp only[Iu];by_cases hc:Lk b0<=b1.toNat/\b1.toNat<=hi4 b0/\Cp b2=true/\Cp b3=true
  ·rw[if_pos hc];obtain⟨c1,c2,c3,c4⟩:=hc;simp only[Cp,decide_eq_true_eq]at c3 c4;rw[if_neg (by omega),if_neg (by omega),if_neg (by omega),if_neg (by omega),if_neg (by omega)];rfl
  ·rw[if_neg hc];by_cases c1:b1.toNat<Lk b0\/hi4 b0<b1.toNat
   ·rw[if_pos c1];rfl
   ·rw[if_neg c1,if_neg (by omega)];by_cases c2:b2.toNat<128\/191<b2.toNat
    ·rw[if_pos c2];rfl
    ·rw[if_neg c2,if_neg (by omega),if_pos]
     ·rfl
     ·have:¬Cp b3=true:=fun h=>hc ⟨by omega,by omega,by simp only[Cp,decide_eq_true_eq];omega,h⟩;simp only[Cp,decide_eq_true_eq]at this;omega
theorem Zw5 {b0:UInt8}{r:List UInt8}(hf:Ox[b0.toNat]? = some 241):Me (b0::r)=some (65533,1):=by
 have h0:=Cn b0;have e0:idx (b0::r) 0=some b0:=rfl;have e1:idx Ox (Int.ofNat (0+nOf (y2i b0)*1))=some 241:=by
  rw[Cm,D9,Mz];simpa using hf
 have e2:=Yaf ⟨b0.toNat,h0⟩;simp only[UInt8.ofNat_toNat]at e2;unfold Me;rw[A0 (by simp only[Aj,Kg];omega),Ac,e0,Ab,G8 (by rw[Cm];omega),Av,A4 (by rw[Cm];omega),Av,e1,Ab,show iGe (y2i 241) (y2i (u8 240))=true by decide +kernel,Ag,Ab,e2]
theorem Ypu {b0:UInt8}{r:List UInt8}(h:128<=b0.toNat) (hl:r.length<4611686018427387904):Me (b0::r)=some (Nj (dec (b0::r))):=by
 have h0:=Cn b0;have ht:=Yfj ⟨b0.toNat,h0⟩ h;simp only at ht;by_cases h1:b0.toNat<194
 ·rw[if_pos h1]at ht;rw[Zw5 ht];simp only[dec,if_neg (show ¬b0.toNat<128 by omega),if_pos h1,Nj]
 rw[if_neg h1]at ht;by_cases h2:b0.toNat<224
 ·rw[if_pos h2]at ht;rw[Rw ht xt2 (by omega) hl,Ypt (by omega) h2]
 rw[if_neg h2]at ht;by_cases h3:b0.toNat=224
 ·rw[if_pos h3]at ht;rw[Rw ht Ysc (by omega) hl,Zmp (by omega) (by omega) (by rw[Lj,if_pos h3];rfl) (by rw[hi3,if_neg (by omega)];rfl)]
 rw[if_neg h3]at ht;by_cases h4:b0.toNat=237
 ·rw[if_pos h4]at ht;rw[Rw ht Ysd (by omega) hl,Zmp (by omega) (by omega) (by rw[Lj,if_neg (by omega)];rfl) (by rw[hi3,if_pos h4];rfl)]
 rw[if_neg h4]at ht;by_cases h5:b0.toNat<240
 ·rw[if_pos h5]at ht;rw[Rw ht xt3 (by omega) hl,Zmp (by omega) (by omega) (by rw[Lj,if_neg (by omega)];rfl) (by rw[hi3,if_neg (by omega)];rfl)]
 rw[if_neg h5]at ht;by_cases h6:b0.toNat=240
 ·rw[if_pos h6]at ht;rw[Rw ht Yse (by omega) hl,Zmq (by omega) (by omega) (by rw[Lk,if_pos h6];rfl) (by rw[hi4,if_neg (by omega)];rfl)]
 rw[if_neg h6]at ht;by_cases h7:b0.toNat<244
 ·rw[if_pos h7]at ht;rw[Rw ht xt4 (by omega) hl,Zmq (by omega) (by omega) (by rw[Lk,if_neg (by omega)];rfl) (by rw[hi4,if_neg (by omega)];rfl)]
 rw[if_neg h7]at ht;by_cases h8:b0.toNat=244
 ·rw[if_pos h8]at ht;rw[Rw ht Ysf (by omega) hl,Zmq (by omega) (by omega) (by rw[Lk,if_neg (by omega)];rfl) (by rw[hi4,if_pos h8];rfl)]
 ·rw[if_neg h8]at ht;rw[Zw5 ht];simp only[dec,if_neg (show ¬b0.toNat<128 by omega),if_neg h1,if_neg h2,if_neg h5,if_neg (show ¬b0.toNat<245 by omega),Nj]
theorem Ybe {b0:UInt8}{r:List UInt8}(hl:r.length<4611686018427387904):Za7 (b0::r)=some (Nj (dec (b0::r))):=by
 have h0:=Cn b0;have e128:y2i (u8 128)=128:=Ja 128 (by omega);unfold Za7;by_cases h:b0.toNat<128
 ·have s1:Wn (b0::r) 0=some (.inr (.inr ((b0.toNat:Int),1))):=by
   unfold Wn;rw[A4 (by simp only[Aj,Kg];omega),Ag,show idx (b0::r) 0=some b0 from rfl,Ab,e128,A4 (by rw[Cm];omega),Ag,Cm];rw[show Ak .i32 (b0.toNat:Int)=(b0.toNat:Int) from Ju (k:=.i32) (show b0.toNat<2^31 by omega)]
  rw[I1 s1,M3];simp only[dec,if_pos h,Nj];rfl
 ·have s1:Wn (b0::r) 0=some (.inr (.inl ())):=by
   unfold Wn;rw[A4 (by simp only[Aj,Kg];omega),Ag,show idx (b0::r) 0=some b0 from rfl,Ab,e128,A0 (by rw[Cm];omega),Ac]
  rw[I1 s1,A3,Ypu (by omega) hl,Ab]
theorem Yk6 {b:List UInt8}{i:Nat}(hl:b.length<4611686018427387904) (hi:i<b.length):Zr (b,(i:Int))=some (Dz (dec (b.drop i)) i):=by
 unfold Zr;have hd:b.drop i=b[i]::b.drop (i+1):=Kfc hi;have et:Bq (nOf (Ae b)-nOf (i:Int)) (Dk (nOf (i:Int)) b)=b.drop i:=by
  rw[Aj,D9,D9,Bq,Dk];exact Kob (by rw[Kra];omega)
 have ew:Dx (i:Int) (Ae b) (Ae b)=true:=by
  unfold Dx;rw[decide_eq_true_eq,Aj];omega
 simp only;rw[A0 (by omega),Ac,T3 (by rw[Aj];omega),Ac,ew,Av,et];rw[show Rm (nOf (i:Int)) (b.drop i).length=true by simp only[Rm,Kra,D9,decide_eq_true_eq];omega,Av];rw[hd,Ybe (by rw[Kra];omega),Ab];cases hx:dec (b[i]::b.drop (i+1)) with
 | none=>rfl
 | some x =>
  obtain⟨n,k⟩:=x;obtain⟨hs,he,k1,k2⟩:=Zio hx;have hk:k=(enc n).length:=by rw[he,Kbb];omega
  simp only[Dc,decide_eq_true_eq]at hs;have en:=(Zrg (n:=n)).2;have ec:Ak .i64 (n:Int)=(n:Int):=Ju (k:=.i64) (show n<2^63 by omega);have ea:Ai .i64 (i:Int) (k:Int)=((i+k:Nat):Int):=Xi (by simp only[Kg,Kra]at k2;omega);have er:((n:Int),Ai .i64 (i:Int) (k:Int),true)=Dz (some (n,k)) i:=by
   rw[ea];simp [Dz]
  simp only[Nj,ec];rw[er];by_cases h5:n=65533
  ·subst h5;have h3:k=3:=by rw[hk];decide +kernel
   rw[show iEq ((65533:Nat):Int) 65533=true from T2 _,Ag,A0 (by omega),Ac]
  ·rw[Dp (by omega),Ac]
theorem Iy {b:List UInt8}{i:Nat}(hi:i<b.length):b.drop i=b[i]::b.drop (i+1):=Kfc hi
theorem Mq (b:UInt8):Ak .i64 (y2i b)=(b.toNat:Int):=Ju (k:=.i64) (show b.toNat<2^63 by have:=Cn b;omega)
theorem Zwf (a c:UInt8):Za0 ((a.toNat:Int),(c.toNat:Int))=some (if a.toNat=0xa4/\0xa1<=c.toNat/\c.toNat<=0xf3 then (((0x3041+(c.toNat-0xa1):Nat):Int),true) else if a.toNat=0xa5/\0xa1<=c.toNat/\c.toNat<=0xf6 then (((0x30a1+(c.toNat-0xa1):Nat):Int),true) else (0,false)):=by
 have hc:=Cn c;have e1:161<=c.toNat->A6 .i64 (Ai .i64 12353 (c.toNat:Int)) 161=((0x3041+(c.toNat-0xa1):Nat):Int):=fun h=>by
  rw[C8 (by omega) (by omega),Er (by omega) (by omega)];omega
 have e2:161<=c.toNat->A6 .i64 (Ai .i64 12449 (c.toNat:Int)) 161=((0x30a1+(c.toNat-0xa1):Nat):Int):=fun h=>by
  rw[C8 (by omega) (by omega),Er (by omega) (by omega)];omega
 unfold Za0;simp only[En,Ab,W1];by_cases h4:a.toNat=0xa4
 ·rw[show iEq (a.toNat:Int) 164=true by rw[h4];rfl,Ag];by_cases h1:161<=c.toNat/\c.toNat<=243
  ·rw[if_pos (by omega),if_pos ⟨h4,h1⟩,e1 h1.1]
  ·rw[if_neg (by omega),Dp (by omega),Ac,if_neg (fun h=>h1 h.2),if_neg (by omega)]
 ·rw[Dp (by omega),Ac];by_cases h5:a.toNat=0xa5
  ·rw[show iEq (a.toNat:Int) 165=true by rw[h5];rfl,Ag];by_cases h1:161<=c.toNat/\c.toNat<=246
   ·rw[if_pos (show (161:Int)<=(c.toNat:Int)/\(c.toNat:Int)<=246 by omega),if_neg (fun h=>h4 h.1),if_pos ⟨h5,h1⟩,e2 h1.1]
   ·rw[if_neg (show ¬((161:Int)<=(c.toNat:Int)/\(c.toNat:Int)<=246) by omega),if_neg (fun h=>h4 h.1),if_neg (fun h=>h1 h.2)]
  ·rw[Dp (by omega),Ac,if_neg (fun h=>h4 h.1),if_neg (fun h=>h5 h.1)]
theorem Yla (a c:UInt8):Zfx ((a.toNat:Int),(c.toNat:Int))=some (if a.toNat=0xa4/\0xa1<=c.toNat/\c.toNat<=0xf3 then (((0x3041+(c.toNat-0xa1):Nat):Int),true) else if a.toNat=0xa5/\0xa1<=c.toNat/\c.toNat<=0xf6 then (((0x30a1+(c.toNat-0xa1):Nat):Int),true) else (0,false)):=Zwf a c
theorem Zrp (b0 b1:UInt8) (r:List UInt8) (i:Nat) (h:¬b0.toNat<128) (hi:i<4611686018427387904) :
  (bnd (some (if b0.toNat=0xa4/\0xa1<=b1.toNat/\b1.toNat<=0xf3 then (((0x3041+(b1.toNat-0xa1):Nat):Int),true) else if b0.toNat=0xa5/\0xa1<=b1.toNat/\b1.toNat<=0xf6 then (((0x30a1+(b1.toNat-0xa1):Nat):Int),true) else (0,false))) fun z5:Int×Bool=>cnd (Ah z5.2) (some (0,(0,false))) (some (z5.1,((Ai .i64 (i:Int) 2),true))))=some (Dz (Js (b0::b1::r)) i):=by
 have ea:Ai .i64 (i:Int) 2=((i+2:Nat):Int):=Xi (n:=2) (by omega);simp only[Js,if_neg h,Ab];split
 ·rw[ea];simp [Dz]
 split
 ·rw[ea];simp [Dz]
 ·rfl
theorem Yoo {b:List UInt8}{i:Nat}(hl:b.length<4611686018427387904) (hi:i<b.length):Zax (b,(i:Int))=some (Dz (Js (b.drop i)) i):=by
 unfold Zax;have e0:A6 .i64 (Ae b) 1=(b.length:Int)-1:=Er (by simp only[Aj];omega) (by simp only[Aj];omega);have e128:y2i (u8 128)=128:=Ja 128 (by omega);simp only[En,Ab];rw[e0,show decide ((0:Int)<=(i:Int)/\(i:Int)<=(b.length:Int)-1)=true by simp only[decide_eq_true_eq];omega,A5,Ac,Bt hi,Ab,e128];have ea:Ai .i64 (i:Int) 1=((i+1:Nat):Int):=Cs (by omega);by_cases h:b[i].toNat<128
 ·rw[A4 (by rw[Cm];omega),Ag,Ab,Mq,ea,Iy hi];simp only[Js,if_pos h,Dz];simp
 ·rw[A0 (by rw[Cm];omega),Ac,ea];by_cases h1:i+1<b.length
  ·rw[T3 (by rw[Aj];omega),Ac,Ab,Bt h1,Ab,Mq,Mq,Zwf,Iy hi,Iy h1];exact Zrp _ _ _ _ h (by omega)
  ·rw[Xj (by rw[Aj];omega),Ag,Iy hi,Kzd (show b.length<=i+1 by omega)];simp only[Js,if_neg h,Dz]
theorem Yk3 {b:List UInt8}{i:Nat}(hl:b.length<4611686018427387904) (hi:i<b.length):Zq (b,(i:Int))=some (Dz (Js (b.drop i)) i):=by
 unfold Zq;have e127:y2i (u8 127)=127:=Ja 127 (by omega);simp only;rw[A0 (by omega),Ac,T3 (by rw[Aj];omega),Ac,Bt hi,Ab,e127];have ea:Ai .i64 (i:Int) 1=((i+1:Nat):Int):=Cs (by omega);by_cases h:b[i].toNat<128
 ·rw[G8 (by rw[Cm];omega),Ag,Ab,Mq,ea,Iy hi];simp only[Js,if_pos h,Dz];simp
 ·rw[Jv (by rw[Cm];omega),Ac,ea];by_cases h1:i+1<b.length
  ·rw[Dp (by rw[Aj];omega),Ac,Ab,Bt h1,Ab,Mq,Mq,Yla,Iy hi,Iy h1];exact Zrp _ _ _ _ h (by omega)
  ·rw[show iEq ((i+1:Nat):Int) (Ae b)=true by rw[Aj,show i+1=b.length by omega];exact T2 _,Ag,Iy hi,Kzd (show b.length<=i+1 by omega)];simp only[Js,if_neg h,Dz]
def bsR (o:Option Nat):Int×Bool:=match o with
 | some n=>((n:Int),true)
 | none=>(0,false)
theorem Yo1:∀b:Fin 256,Qe (1,(b.val:Int))=some (bsR (Eg 1 b.val)):=by decide +kernel
theorem Yo2:∀b:Fin 256,Qe (2,(b.val:Int))=some (bsR (Eg 2 b.val)):=by decide +kernel
theorem Yo3:∀b:Fin 256,Qe (3,(b.val:Int))=some (bsR (Eg 3 b.val)):=by decide +kernel
theorem Yo4:∀b:Fin 256,Qe (4,(b.val:Int))=some (bsR (Eg 4 b.val)):=by decide +kernel
theorem Yli:∀b:Fin 256,P3 (1,(b.val:Int))=some (bsR (Eg 1 b.val)):=by decide +kernel
theorem Ylj:∀b:Fin 256,P3 (2,(b.val:Int))=some (bsR (Eg 2 b.val)):=by decide +kernel
theorem Ylk:∀b:Fin 256,P3 (3,(b.val:Int))=some (bsR (Eg 3 b.val)):=by decide +kernel
theorem Yll:∀b:Fin 256,P3 (4,(b.val:Int))=some (bsR (Eg 4 b.val)):=by decide +kernel
theorem Yok {cs b:Nat}(h1:1<=cs) (h4:cs<=4) (hb:b<256):Qe ((cs:Int),(b:Int))=some (bsR (Eg cs b)):=by
 rcases (show cs=1\/cs=2\/cs=3\/cs=4 by omega) with rfl|rfl|rfl|rfl
 ·exact Yo1 ⟨b,hb⟩
 ·exact Yo2 ⟨b,hb⟩
 ·exact Yo3 ⟨b,hb⟩
 ·exact Yo4 ⟨b,hb⟩
theorem Yk0 {cs b:Nat}(h1:1<=cs) (h4:cs<=4) (hb:b<256):P3 ((cs:Int),(b:Int))=some (bsR (Eg cs b)):=by
 rcases (show cs=1\/cs=2\/cs=3\/cs=4 by omega) with rfl|rfl|rfl|rfl
 ·exact Yli ⟨b,hb⟩
 ·exact Ylj ⟨b,hb⟩
 ·exact Ylk ⟨b,hb⟩
 ·exact Yll ⟨b,hb⟩
def Got (o:Option (Int×Int×Bool)) (s:Option (Nat×Nat)) (i:Nat):Prop:=match s with
 | some (n,k)=>o=some ((n:Int),((i+k:Nat):Int),true)
 | none=>∃p q,o=some (p,q,false)
theorem Zdh {s:Option (Nat×Nat)}{i:Nat}:Got (some (Dz s i)) s i:=by
 cases s with
 | none=>exact⟨_,_,rfl⟩
 | some x=>simp [Got,Dz]
theorem Yoq {cs i:Nat}{b:List UInt8}(hc:cs<=5) (hl:b.length<4611686018427387904) (hi:i<b.length):Got (Za5 ((cs:Int),(b,(i:Int)))) (Ii cs (b.drop i)) i:=by
 unfold Za5 Ii;simp only;by_cases h0:cs=0
 ·subst h0;rw[show iEq ((0:Nat):Int) 0=true from rfl,Ag,Yor hl hi,Ab,if_pos rfl];exact Zdh
 rw[Dp (by omega),Ac,if_neg h0];by_cases h5:cs=5
 ·subst h5;rw[show iEq ((5:Nat):Int) 5=true from rfl,Ag,Yoo hl hi,Ab,if_pos rfl];exact Zdh
 rw[Dp (by omega),Ac,if_neg h5,Bt hi,Ab,Mq,Yok (by omega) (by omega) (Cn _),Ab,Iy hi];cases hb:Eg cs b[i].toNat with
 | none=>simp only[hb,Kub,Got,bsR];exact⟨_,_,rfl⟩
 | some n=>simp only[hb,Kia,Got,bsR];rw[Cs (by omega)]
theorem Yk5 {cs i:Nat}{b:List UInt8}(hc:cs<=5) (hl:b.length<4611686018427387904) (hi:i<b.length):Got (Zx ((cs:Int),(b,(i:Int)))) (Ii cs (b.drop i)) i:=by
 unfold Zx Ii;simp only;by_cases h0:cs=0
 ·subst h0;rw[show iEq ((0:Nat):Int) 0=true from rfl,Ag,Yk6 hl hi,Ab,if_pos rfl];exact Zdh
 rw[Dp (by omega),Ac,if_neg h0];by_cases h5:cs=5
 ·subst h5;rw[show iEq ((5:Nat):Int) 5=true from rfl,Ag,Yk3 hl hi,Ab,if_pos rfl];exact Zdh
 rw[Dp (by omega),Ac,if_neg h5,Bt hi,Ab,Mq,Yk0 (by omega) (by omega) (Cn _),Ab,Iy hi];cases hb:Eg cs b[i].toNat with
 | none=>simp only[hb,Kub,Got,bsR];exact⟨_,_,rfl⟩
 | some n=>simp only[hb,Kia,Got,bsR];rw[Cs (by omega)]
def I3 (o:Option (List UInt8)):List UInt8×Bool:=match o with
 | some t=>(t,true)
 | none=>([],false)
theorem Zp2 {cs:Nat}{b:List UInt8}(hc:cs<=5) (hl:b.length<=1048576){step:List UInt8×Int->Option ((List UInt8×Int) ⊕ (List UInt8 ⊕ (List UInt8×Bool)))}
  (hs:∀(out:List UInt8) (i:Nat),i<b.length->out.length<=4*i->(∀n k,Ii cs (b.drop i)=some (n,k)->step (out,(i:Int))=some (.inl (out++enc n,((i+k:Nat):Int))))/\(Ii cs (b.drop i)=none->step (out,(i:Int))=some (.inr (.inr ([],false)))))
  (he:∀out,step (out,(b.length:Int))=some (.inr (.inl out))) :
  Ao (Ar step ([],0)) (fun z=>some (z,true))=some (I3 (Mt cs b)):=by
 obtain⟨r,h1,h2⟩:=Yml (step:=step)
  (fun s=>∃(i:Nat) (ns:List Nat),s.2=(i:Int)/\i<=b.length/\s.1=R1 ns/\ns.length<=i/\Pu cs b=(Pu cs (b.drop i)).map (ns++·)) (fun s=>b.length-s.2.toNat)
  (fun r=>Ao (some r) (fun z=>some (z,true))=some (I3 (Mt cs b))) (by
   rintro ⟨out,j⟩ ⟨i,ns,rfl,hi,rfl,hn,hp⟩;simp only at hi hn hp ⊢;have ht:=Yqp ns;by_cases hlt:i<b.length
   ·obtain⟨q1,q2⟩:=hs (R1 ns) i hlt (by omega);cases hq:Ii cs (b.drop i) with
    | none =>
     right;refine⟨_,q2 hq, ?_⟩;rw[M3];have hne:b.drop i≠[]:=by rw[Iy hlt];exact Ktf _ _
     rw[Zw2 hc hne,hq]at hp;simp only[Kub]at hp;simp only[Mt,hp,Kub,I3]
    | some x =>
     obtain⟨n,k⟩:=x;left;obtain⟨_,_,k1,k2⟩:=Yv hc hq;rw[Kra]at k2;refine⟨_,q1 n k hq,⟨i+k,ns++[n],rfl,by omega, ?_, ?_, ?_⟩, ?_⟩
     ·simp [R1]
     ·simp only[Ky,Kg,Ki];omega
     ·have hne:b.drop i≠[]:=by rw[Iy hlt];exact Ktf _ _
      rw[hp,Zw2 hc hne,hq];simp only[Ked,Option.map_map];congr 1;funext l;simp
     ·simp only[Kmc];omega
   ·have hie:i=b.length:=by omega
    subst hie;right;refine⟨_,he _, ?_⟩;rw[A3];rw[Khg,Ypp]at hp;simp only[Kia,Kw]at hp;simp only[Mt,hp,Kia,I3]) ([],0) ⟨0,[],rfl,Kpa _,rfl,Kd _,by
   rw[Kha];cases Pu cs b<;>simp⟩
 rw[h1];exact h2
theorem Yom {cs:Nat}{b:List UInt8}(hc:cs<=5) (hl:b.length<=1048576):Zaw ((cs:Int),b)=some (I3 (Mt cs b)):=by
 unfold Zaw Wc;simp only[En,Ab];rw[show decide ((0:Int)<=(cs:Int)/\(cs:Int)<=5)=true by simp only[decide_eq_true_eq];omega,A5,Ac];refine Zp2 hc hl ?_ ?_
 ·intro out i hi ho;have hg:=Yoq hc (by omega) hi;unfold Zgp;simp only;rw[A4 (by rw[Aj];omega),Ag];refine⟨fun n k hq=>?_,fun hq=>?_⟩
  ·rw[hq]at hg;simp only[Got]at hg;obtain⟨hs,_,_,_⟩:=Yv hc hq;rw[hg,Ab];simp only[A5,Ac];rw[Zwh (by omega),Ab,show sgn (n:Int)=true by simp [sgn,hs]];simp
  ·rw[hq]at hg;obtain⟨p,q,hg⟩:=hg;rw[hg,Ab];rfl
 ·intro out;unfold Zgp;simp only;rw[A0 (by rw[Aj];exact Klb _),Ac]
theorem Yk1 {cs:Nat}{b:List UInt8}(hc:cs<=5) (hl:b.length<=1048576):Zp ((cs:Int),b)=some (I3 (Mt cs b)):=by
 unfold Zp Zu;simp only[Ix,Ab];rw[show decide ((0:Int)<=(cs:Int)/\(cs:Int)<=5)=true by simp only[decide_eq_true_eq];omega,A5,Ac];refine Zp2 hc hl ?_ ?_
 ·intro out i hi ho;have hg:=Yk5 hc (by omega) hi;unfold Zgf;simp only;rw[A4 (by rw[Aj];omega),Ag];refine⟨fun n k hq=>?_,fun hq=>?_⟩
  ·rw[hq]at hg;simp only[Got]at hg;obtain⟨hs,_,_,_⟩:=Yv hc hq;rw[hg,Ab];simp only[A5,Ac];rw[Ylc (by omega),Ab,show sgn (n:Int)=true by simp [sgn,hs]];simp
  ·rw[hq]at hg;obtain⟨p,q,hg⟩:=hg;rw[hg,Ab];rfl
 ·intro out;unfold Zgf;simp only;rw[A0 (by rw[Aj];exact Klb _),Ac]
end
end Go.Vs
