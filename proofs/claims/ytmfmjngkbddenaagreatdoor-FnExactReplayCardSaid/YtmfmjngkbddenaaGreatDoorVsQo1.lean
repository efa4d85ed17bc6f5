import Derived.Test.YtmfmjngkbddenaaGreatDoorVsW5
import Derived.Test.YtmfmjngkbddenaaGreatDoorVsPo
set_option linter.all false
namespace Go.Vs
noncomputable section
def Da (n:Nat):Bool:=decide (n<=1114111/\¬(55296<=n/\n<=57343))
def yN (n:Nat):UInt8:=UInt8.ofNat n
theorem E2 {n:Nat}(h:n<256):(yN n).toNat=n:=by simp [yN,UInt8.toNat_ofNat',Kuc h]
theorem D0 {b:UInt8}{n:Nat}(h:b.toNat=n):yN n=b:=by subst h;simp [yN]
theorem B2 (b:UInt8):b.toNat<256:=b.toNat_lt
def enc (n:Nat):List UInt8 :=
 if n<128 then [yN n]
 else if n<2048 then [yN (192+n / 64),yN (128+n%64)]
 else if n<65536 then [yN (224+n / 4096),yN (128+n / 64%64),yN (128+n%64)]
 else [yN (240+n / 262144),yN (128+n / 4096%64),yN (128+n / 64%64),yN (128+n%64)]
def Cn (b:UInt8):Bool:=decide (128<=b.toNat/\b.toNat<192)
def Nv (b0:UInt8):List UInt8->Option (Nat×Nat)
 | b1::_=>if Cn b1 then some (b0.toNat%32*64+b1.toNat%64,2) else none
 | _=>none
def Lb (b0:UInt8):Nat:=if b0.toNat=224 then 160 else 128
def hi3 (b0:UInt8):Nat:=if b0.toNat=237 then 159 else 191
def Ld (b0:UInt8):Nat:=if b0.toNat=240 then 144 else 128
def hi4 (b0:UInt8):Nat:=if b0.toNat=244 then 143 else 191
def J8 (b0:UInt8):List UInt8->Option (Nat×Nat)
 | b1::b2::_=>if Lb b0<=b1.toNat/\b1.toNat<=hi3 b0/\Cn b2=true then some (b0.toNat%16*4096+b1.toNat%64*64+b2.toNat%64,3) else none
 | _=>none
def Ic (b0:UInt8):List UInt8->Option (Nat×Nat)
 | b1::b2::b3::_=>if Ld b0<=b1.toNat/\b1.toNat<=hi4 b0/\Cn b2=true/\Cn b3=true then some (b0.toNat%8*262144+b1.toNat%64*4096+b2.toNat%64*64+b3.toNat%64,4) else none
 | _=>none
def dec:List UInt8->Option (Nat×Nat)
 | []=>none
 | b0::r =>
  if b0.toNat<128 then some (b0.toNat,1)
  else if b0.toNat<194 then none
  else if b0.toNat<224 then Nv b0 r
  else if b0.toNat<240 then J8 b0 r
  else if b0.toNat<245 then Ic b0 r
  else none
theorem Zg6 {l:List UInt8}{n k:Nat}(h:dec l=some (n,k)):Da n=true/\enc n=l.take k/\1<=k/\k<=l.length:=by
 match l,h with
 | [],h=>simp [dec]at h
 | b0::r,h =>
 have h0:=B2 b0;simp only[dec]at h;split at h
 ·simp only[Ka,Kb]at h;obtain⟨rfl,rfl⟩:=h;refine⟨by simp [Da];omega, ?_,Kd _,by simp⟩;rename_i hb;rw[enc,if_pos hb,D0 rfl];rfl
 split at h
 ·cases h
 split at h
 ·match r,h with
  | [],h=>simp [Nv]at h
  | b1::r,h =>
  have h1:=B2 b1;simp only[Nv]at h;split at h
  ·rename_i hc;simp only[Cn,decide_eq_true_eq]at hc;simp only[Ka,Kb]at h;obtain⟨rfl,rfl⟩:=h;refine⟨by simp only[Da,decide_eq_true_eq];omega, ?_,by omega,by simp⟩;rw[enc,if_neg (by omega),if_pos (by omega),D0 (b:=b0) (by omega),D0 (b:=b1) (by omega)];rfl
  ·cases h
 split at h
 ·match r,h with
  | [],h=>simp [J8]at h
  | [_],h=>simp [J8]at h
  | b1::b2::r,h =>
  have h1:=B2 b1;have h2:=B2 b2;simp only[J8]at h;split at h
  ·rename_i hc;simp only[Cn,decide_eq_true_eq,Lb,hi3]at hc;obtain⟨c1,c2,c3⟩:=hc;simp only[Ka,Kb]at h;obtain⟨rfl,rfl⟩:=h;split at c1<;>split at c2 <;>
   ·refine⟨by simp only[Da,decide_eq_true_eq];omega, ?_,by omega,by simp⟩;rw[enc,if_neg (by omega),if_neg (by omega),if_pos (by omega),D0 (b:=b0) (by omega),D0 (b:=b1) (by omega),D0 (b:=b2) (by omega)];rfl
  ·cases h
 split at h
 ·match r,h with
  | [],h=>simp [Ic]at h
  | [_],h=>simp [Ic]at h
  | [_,_],h=>simp [Ic]at h
  | b1::b2::b3::r,h =>
  have h1:=B2 b1;have h2:=B2 b2;have h3:=B2 b3;simp only[Ic]at h;split at h
  ·rename_i hc;simp only[Cn,decide_eq_true_eq,Ld,hi4]at hc;obtain⟨c1,c2,c3,c4⟩:=hc;simp only[Ka,Kb]at h;obtain⟨rfl,rfl⟩:=h;split at c1<;>split at c2 <;>
   ·refine⟨by simp only[Da,decide_eq_true_eq];omega, ?_,by omega,by simp⟩;rw[enc,if_neg (by omega),if_neg (by omega),if_neg (by omega),D0 (b:=b0) (by omega),D0 (b:=b1) (by omega),D0 (b:=b2) (by omega),D0 (b:=b3) (by omega)];rfl
  ·cases h
 ·cases h
theorem Zy2 {n:Nat}(h:Da n=true) (r:List UInt8):dec (enc n++r)=some (n,(enc n).length):=by
 simp only[Da,decide_eq_true_eq]at h;unfold enc;split
 ·have e:=E2 (n:=n) (by omega);simp only[Kq,Ks,dec,e];rw[if_pos (by omega)];rfl
 split
 ·have e0:=E2 (n:=192+n / 64) (by omega);have e1:=E2 (n:=128+n%64) (by omega);simp only[Kq,Ks,dec,e0];rw[if_neg (by omega),if_neg (by omega),if_pos (by omega)];simp only[Nv,Cn,e0,e1];rw[if_pos (by simp only[decide_eq_true_eq];omega)];simp only[Kh,Ko];congr 2;omega
 split
 ·have e0:=E2 (n:=224+n / 4096) (by omega);have e1:=E2 (n:=128+n / 64%64) (by omega);have e2:=E2 (n:=128+n%64) (by omega);simp only[Kq,Ks,dec,e0];rw[if_neg (by omega),if_neg (by omega),if_neg (by omega),if_pos (by omega)];simp only[J8,Cn,e0,e1,e2,Lb,hi3,decide_eq_true_eq];rw[if_pos (by refine⟨?_, ?_,by omega⟩<;>split<;>omega)]
  simp only[Kh,Ko];congr 2;omega
 ·have e0:=E2 (n:=240+n / 262144) (by omega);have e1:=E2 (n:=128+n / 4096%64) (by omega);have e2:=E2 (n:=128+n / 64%64) (by omega);have e3:=E2 (n:=128+n%64) (by omega);simp only[Kq,Ks,dec,e0];rw[if_neg (by omega),if_neg (by omega),if_neg (by omega),if_neg (by omega),if_pos (by omega)];simp only[Ic,Cn,e0,e1,e2,e3,Ld,hi4,decide_eq_true_eq];rw[if_pos (by refine⟨?_, ?_,by omega⟩<;>split<;>omega)]
  simp only[Kh,Ko];congr 2;omega
theorem Zo9 {n:Nat}:1<=(enc n).length/\(enc n).length<=4:=by
 unfold enc;split
 ·simp
 split
 ·simp
 split<;>simp
theorem Yx {k:IntKind}{n:Nat}(h:n<2^(k.bits-1)):k.wrap (n:Int)=(n:Int):=by
 have hp:(2:Nat)^(k.bits-1)<=2^k.bits:=Kig (by decide) (by omega);have e1:((2:Int)^(k.bits-1))=((2^(k.bits-1):Nat):Int):=by simp
 have e2:((2:Int)^k.bits)=((2^k.bits:Nat):Int):=by simp
 have e3:((n:Int)%((2^k.bits:Nat):Int))=(n:Int):=Kgg (by omega) (by omega);simp only[IntKind.wrap,e1,e2,e3];rw[if_neg];simp only[Ke,decide_eq_true_eq];omega
theorem wrap_u8 {n:Nat}(h:n<256):IntKind.u8.wrap (n:Int)=(n:Int):=by
 have e1:IntKind.u8.bits=8:=rfl;have e2:IntKind.u8.signed=false:=rfl;simp only[IntKind.wrap,e1,e2,Kud,Kka,if_false];exact Kgg (by omega) (by simp;omega)
theorem Lk {m a:Nat}(h:a<2^m):(BitVec.ofInt m (a:Int)).toNat=a:=by
 rw[Yi7,BitVec.toNat_ofNat,Kuc h]
section
variable {k:IntKind} {a b:Nat}
theorem Tr (h:a<2^(k.bits-1)):a<2^k.bits:=Kda h (Kig (by decide) (by omega))
theorem Qm (ha:a<2^(k.bits-1)) (hb:b<2^(k.bits-1)):Av k (a:Int) (b:Int)=((a&&&b:Nat):Int):=by
 unfold Av;rw[BitVec.toNat_and,Lk (Tr ha),Lk (Tr hb)];exact Yx (Kjg Nat.and_le_left ha)
theorem Zqj (ha:a<2^(k.bits-1)) (hb:b<2^(k.bits-1)):iOr k (a:Int) (b:Int)=((a ||| b:Nat):Int):=by
 unfold iOr;rw[BitVec.toNat_or,Lk (Tr ha),Lk (Tr hb)];exact Yx (Nat.or_lt_two_pow ha hb)
theorem Wx (ha:a<2^(k.bits-1)) (hb:b<2^(k.bits-1)):Oc k (a:Int) (b:Int)=((a ^^^ b:Nat):Int):=by
 unfold Oc;rw[BitVec.toNat_xor,Lk (Tr ha),Lk (Tr hb)];exact Yx (Nat.xor_lt_two_pow ha hb)
theorem Tc {s:Nat}(hs:s<=k.bits) (h:a*2^s<2^(k.bits-1)):Br k (a:Int) (s:Int)=((a*2^s:Nat):Int):=by
 unfold Br;rw[Kxb,Kvd hs];rw[show (a:Int)*2^s=((a*2^s:Nat):Int) by simp];exact Yx h
theorem Zqk {s:Nat}(hs:s<=k.bits):B3 k (a:Int) (s:Int)=((a / 2^s:Nat):Int):=by
 unfold B3;rw[Kxb,Kvd hs,Int.fdiv_eq_ediv_of_nonneg _ (Int.pow_nonneg (by decide))];simp
theorem He (h:a<2^(k.bits-1)):Ak k (a:Int)=(a:Int):=Yx h
end
theorem Zqg {a b:Nat}(ha:a<256) (hb:b<256):Av .u8 (a:Int) (b:Int)=((a&&&b:Nat):Int):=by
 unfold Av;rw[BitVec.toNat_and,Lk (m:=IntKind.u8.bits) ha,Lk (m:=IntKind.u8.bits) hb];exact wrap_u8 (Kjg Nat.and_le_left ha)
theorem Ygu {a b:Nat}(ha:a<256) (hb:b<256):iOr .u8 (a:Int) (b:Int)=((a ||| b:Nat):Int):=by
 unfold iOr;rw[BitVec.toNat_or,Lk (m:=IntKind.u8.bits) ha,Lk (m:=IntKind.u8.bits) hb];exact wrap_u8 (Nat.or_lt_two_pow (n:=8) ha hb)
theorem Zlu (n:Nat):u8 (n:Int)=yN n:=rfl
theorem Ce (b:UInt8):y2i b=(b.toNat:Int):=rfl
theorem Nl {a j m:Nat}(hm:m=2^j-1):a&&&m=a%2^j:=by rw[hm,Nat.and_two_pow_sub_one_eq_mod]
theorem Zji {a b j:Nat}(hb:b<2^j):a*2^j ||| b=a*2^j+b:=by
 have:=Nat.shiftLeft_add_eq_or_of_lt hb a;rw[Nat.shiftLeft_eq]at this;exact this.symm
def Zq4:List Nat:=[0x44e,0x430,0x431,0x446,0x434,0x435,0x444,0x433,0x445,0x438,0x439,0x43a,0x43b,0x43c,0x43d,0x43e,0x43f,0x44f,0x440,0x441,0x442,0x443,0x436,0x432,0x44c,0x44b,0x437,0x448,0x44d,0x449,0x447,0x44a]
def Ynn:List Nat:=[0x20ac,0,0x201a,0x192,0x201e,0x2026,0x2020,0x2021,0x2c6,0x2030,0x160,0x2039,0x152,0,0x17d,0,0,0x2018,0x2019,0x201c,0x201d,0x2022,0x2013,0x2014,0x2dc,0x2122,0x161,0x203a,0x153,0,0x17e,0x178]
def N7 (cs b:Nat):Nat :=
 if cs=2 then (if b=0xa4 then 0x20ac else if b=0xa6 then 0x160 else if b=0xa8 then 0x161 else if b=0xb4 then 0x17d else if b=0xb8 then 0x17e else if b=0xbc then 0x152 else if b=0xbd then 0x153 else if b=0xbe then 0x178 else b)
 else if cs=3 then (if 0xe0<=b then Zq4.getD (b-0xe0) 0-0x20 else if 0xc0<=b then Zq4.getD (b-0xc0) 0 else if b=0xa3 then 0x451 else if b=0xb3 then 0x401 else 0)
 else if cs=4 then (if 0xa0<=b then b else Ynn.getD (b-0x80) 0)
 else b
def Eg (cs b:Nat):Option Nat :=
 if b<128 then some b else if N7 cs b=0 then none else some (N7 cs b)
def Zd5 (cs n:Nat):Nat->Nat->Option Nat
 | 0,_=>none
 | k+1,b=>if Eg cs b=some n then some b else Zd5 cs n k (b+1)
def Zuo (cs n:Nat):Option Nat:=Zd5 cs n 256 0
theorem Zup {cs n:Nat}:∀{k b x:Nat},b<=x->x<b+k->Eg cs x=some n->(∀y,b<=y->y<x->Eg cs y≠some n)->Zd5 cs n k b=some x
 | 0,_,_,h1,h2,_,_=>by omega
 | k+1,b,x,h1,h2,h3,h4=>by
  simp only[Zd5];by_cases hx:b=x
  ·subst hx;rw[if_pos h3]
  ·rw[if_neg (h4 b (Kd _) (by omega))];exact Zup (by omega) (by omega) h3 fun y hy=>h4 y (by omega)
def Mr:List Nat->Bool
 | []=>true
 | x::l=>(Nat.beq x 0||!l.any (Nat.beq x))&&Mr l
theorem Zr2:∀{l:List Nat}{i j x:Nat},Mr l=true->l[i]? = some x->l[j]? = some x->x≠0->i=j
 | [],i,j,x,_,h,_,_=>by simp at h
 | y::l,i,j,x,h,h1,h2,h0=>by
  simp only[Mr,Ke,Kfb,Kjb]at h;obtain⟨ha,hb⟩:=h;have out:y=x->∀k:Nat,l[k]?≠some x:=by
   rintro rfl k hk;rcases ha with ha|ha
   ·exact h0 (Kl ha)
   ·have:l.any (Nat.beq y)=true:=Kqe.2 ⟨y,Ky hk,Nat.beq_refl y⟩;rw[this]at ha;cases ha
  cases i with
  | zero =>
   simp only[Kt,Ka]at h1;cases j with
   | zero=>rfl
   | succ j=>exact (out h1 j (by simpa using h2)).elim
  | succ i =>
   cases j with
   | zero =>
    simp only[Kt,Ka]at h2;exact (out h2 i (by simpa using h1)).elim
   | succ j=>exact congrArg Nat.succ (Zr2 hb (by simpa using h1) (by simpa using h2) h0)
def Hd (cs:Nat):List Nat:=(List.range 128).map fun i=>N7 cs (i+128)
theorem Ygo:(Mr (Hd 1)&&(Hd 1).all fun x=>Nat.beq x 0||Nat.ble 128 x&&Da x)=true:=by decide +kernel
theorem Ygp:(Mr (Hd 2)&&(Hd 2).all fun x=>Nat.beq x 0||Nat.ble 128 x&&Da x)=true:=by decide +kernel
theorem Ygq:(Mr (Hd 3)&&(Hd 3).all fun x=>Nat.beq x 0||Nat.ble 128 x&&Da x)=true:=by decide +kernel
theorem Ygr:(Mr (Hd 4)&&(Hd 4).all fun x=>Nat.beq x 0||Nat.ble 128 x&&Da x)=true:=by decide +kernel
theorem Zqa {cs:Nat}(h1:1<=cs) (h4:cs<=4):Mr (Hd cs)=true/\∀b,128<=b->b<256->(Hd cs)[b-128]? = some (N7 cs b)/\(N7 cs b=0\/(128<=N7 cs b/\Da (N7 cs b)=true)):=by
 have key:(Mr (Hd cs)&&(Hd cs).all fun x=>Nat.beq x 0||Nat.ble 128 x&&Da x)=true:=by
  rcases (show cs=1\/cs=2\/cs=3\/cs=4 by omega) with rfl|rfl|rfl|rfl
  ·exact Ygo
  ·exact Ygp
  ·exact Ygq
  ·exact Ygr
 simp only[Ke]at key;refine⟨key.1,fun b h5 h6=>?_⟩;have e:(Hd cs)[b-128]? = some (N7 cs b):=by
  simp only[Hd,Kz,Krd (show b-128<128 by omega),Kha];rw[show b-128+128=b by omega]
 refine⟨e, ?_⟩;have:=Kma.1 key.2 _ (Ky e);simp only[Kfb,Ke]at this;rcases this with h|h
 ·exact .inl (Kl h)
 ·exact .inr ⟨Kgb h.1,h.2⟩
theorem Zyc {cs b c n:Nat}(h1:1<=cs) (h4:cs<=4) (hb:b<256) (hc:c<256) (h:Eg cs b=some n) (k:Eg cs c=some n):b=c:=by
 obtain⟨t1,t2⟩:=Zqa h1 h4;unfold Eg at h k;split at h
 ·simp only[Ka]at h;split at k
  ·simp only[Ka]at k;omega
  ·split at k
   ·cases k
   ·simp only[Ka]at k;rcases (t2 c (by omega) hc).2 with q|q<;>omega
 ·split at h
  ·cases h
  ·simp only[Ka]at h;split at k
   ·simp only[Ka]at k;rcases (t2 b (by omega) hb).2 with q|q<;>omega
   ·split at k
    ·cases k
    ·simp only[Ka]at k;have e1:=(t2 b (by omega) hb).1;have e2:=(t2 c (by omega) hc).1;have hn:n≠0:=by omega
     rw[h]at e1;rw[k]at e2;have:=Zr2 t1 e1 e2 hn;omega
theorem Ylk {cs b n:Nat}(h1:1<=cs) (h4:cs<=4) (hb:b<256) (h:Eg cs b=some n):Zuo cs n=some b :=
 Zup (Kbb _) (by omega) h fun y _ hy k=>by have:=Zyc h1 h4 (by omega) hb k h;omega
theorem Zyd {cs b n:Nat}(h1:1<=cs) (h4:cs<=4) (hb:b<256) (h:Eg cs b=some n):Da n=true:=by
 unfold Eg at h;split at h
 ·simp only[Ka]at h;simp only[Da,decide_eq_true_eq];omega
 ·split at h
  ·cases h
  ·simp only[Ka]at h;rcases ((Zqa h1 h4).2 b (by omega) hb).2 with q|q
   ·omega
   ·rw[<-h];exact q.2
def Jh:List UInt8->Option (Nat×Nat)
 | []=>none
 | b0::r=>if b0.toNat<128 then some (b0.toNat,1) else match r with
  | []=>none
  | b1::_=>if b0.toNat=0xa4/\0xa1<=b1.toNat/\b1.toNat<=0xf3 then some (0x3041+(b1.toNat-0xa1),2)
   else if b0.toNat=0xa5/\0xa1<=b1.toNat/\b1.toNat<=0xf6 then some (0x30a1+(b1.toNat-0xa1),2) else none
def Zbz (n:Nat):Option (List UInt8) :=
 if n<128 then some [yN n]
 else if 0x3041<=n/\n<=0x3093 then some [yN 0xa4,yN (n-0x3041+0xa1)]
 else if 0x30a1<=n/\n<=0x30f6 then some [yN 0xa5,yN (n-0x30a1+0xa1)]
 else none
def H1 (cs:Nat) (l:List UInt8):Option (Nat×Nat) :=
 if cs=0 then dec l else if cs=5 then Jh l else match l with
  | []=>none
  | b::_=>(Eg cs b.toNat).map fun n=>(n,1)
def Zsp (cs n:Nat):Option (List UInt8) :=
 if cs=0 then (if Da n then some (enc n) else none) else if cs=5 then Zbz n else (Zuo cs n).map fun b=>[yN b]
theorem Yc {cs:Nat}{l:List UInt8}{n k:Nat}(hc:cs<=5) (h:H1 cs l=some (n,k)):Da n=true/\Zsp cs n=some (l.take k)/\1<=k/\k<=l.length:=by
 unfold H1 at h;unfold Zsp;split at h
 ·rename_i h0;obtain⟨a,b,c,d⟩:=Zg6 h;rw[if_pos h0,if_pos a,b];exact⟨a,rfl,c,d⟩
 split at h
 ·rename_i h0 h5;rw[if_neg h0,if_pos h5]
  match l,h with
  | [],h=>simp [Jh]at h
  | b0::r,h =>
  have hb0:=B2 b0;simp only[Jh]at h;split at h
  ·rename_i hb;simp only[Ka,Kb]at h;obtain⟨rfl,rfl⟩:=h;refine⟨by simp only[Da,decide_eq_true_eq];omega, ?_,Kd _,by simp⟩;rw[Zbz,if_pos hb,D0 rfl];rfl
  ·match r,h with
   | [],h=>simp at h
   | b1::r,h =>
   have hb1:=B2 b1;simp only at h;split at h
   ·rename_i hb;simp only[Ka,Kb]at h;obtain⟨rfl,rfl⟩:=h;refine⟨by simp only[Da,decide_eq_true_eq];omega, ?_,by omega,by simp⟩;rw[Zbz,if_neg (by omega),if_pos (by omega),D0 (b:=b0) (by omega),D0 (b:=b1) (by omega)];rfl
   ·split at h
    ·rename_i hb;simp only[Ka,Kb]at h;obtain⟨rfl,rfl⟩:=h;refine⟨by simp only[Da,decide_eq_true_eq];omega, ?_,by omega,by simp⟩;rw[Zbz,if_neg (by omega),if_neg (by omega),if_pos (by omega),D0 (b:=b0) (by omega),D0 (b:=b1) (by omega)];rfl
    ·cases h
 ·rename_i h0 h5;rw[if_neg h0,if_neg h5]
  match l,h with
  | [],h=>simp at h
  | b::r,h =>
  simp only[Ku,Kb]at h;obtain⟨m,hm,rfl,rfl⟩:=h;refine⟨Zyd (by omega) (by omega) (B2 b) hm, ?_,Kd _,by simp⟩;rw[Ylk (by omega) (by omega) (B2 b) hm,Kha,D0 rfl];rfl
def Uf (cs:Nat):Nat->List UInt8->Option (List Nat)
 | _,[]=>some []
 | 0,_::_=>none
 | k+1,l=>match H1 cs l with
  | none=>none
  | some (n,j)=>(Uf cs k (l.drop j)).map (n::·)
def O4 (cs:Nat) (l:List UInt8):Option (List Nat):=Uf cs l.length l
def Rf (ns:List Nat):List UInt8:=ns.flatMap enc
theorem Zuq {cs:Nat}(hc:cs<=5):∀(k j:Nat) (l:List UInt8),l.length<=k->l.length<=j->Uf cs k l=Uf cs j l
 | 0,0,_,_,_=>rfl
 | k,j,[],_,_=>by cases k<;>cases j<;>rfl
 | 0,_+1,_::_,h,_=>by simp at h
 | _+1,0,_::_,_,h=>by simp at h
 | k+1,j+1,b::r,h1,h2=>by
  simp only[Uf];cases hs:H1 cs (b::r) with
  | none=>rfl
  | some x =>
   obtain⟨n,i⟩:=x;obtain⟨_,_,hi,_⟩:=Yc hc hs;simp only;rw[Zuq hc k j _ (by simp only[Kia,Kh]at *;omega) (by simp only[Kia,Kh]at *;omega)]
theorem Yll (cs:Nat):O4 cs []=some []:=rfl
theorem Zur {cs:Nat}(hc:cs<=5){l:List UInt8}(hl:l≠[]):O4 cs l=match H1 cs l with
  | none=>none
  | some (n,j)=>(O4 cs (l.drop j)).map (n::·):=by
 match l,hl with
 | b::r,_ =>
 unfold O4;simp only[Kh,Uf];cases hs:H1 cs (b::r) with
 | none=>rfl
 | some x =>
  obtain⟨n,i⟩:=x;obtain⟨_,_,hi,_⟩:=Yc hc hs;simp only;rw[Zuq hc r.length ((b::r).drop i).length _ (by simp only[Kia,Kh];omega) (Kd _)]
theorem Ymh (ns:List Nat):(Rf ns).length<=4*ns.length:=by
 induction ns with
 | nil=>simp [Rf]
 | cons n ns ih =>
  have:=(Zo9 (n:=n)).2;simp only[Rf,Kua,Kab,Kh]at *
  omega
def Md (cs:Nat) (b:List UInt8):Option (List UInt8):=(O4 cs b).map Rf
theorem Yif {σ ρ:Type}{step:σ->Option (σ ⊕ ρ)}(inv:σ->Prop) (m:σ->Nat) (Q:ρ->Prop) (hs:∀s,inv s->(∃s',step s=some (.inl s')/\inv s'/\m s'<m s)\/∃r,step s=some (.inr r)/\Q r) (s0:σ) (h0:inv s0):∃r,Ar step s0=some r/\Q r:=by
 have key:∀k s,m s<=k->inv s->∃r,Ar step s=some r/\Q r:=by
  intro k
  induction k with
  | zero =>
   intro s hk h;rcases hs s h with ⟨s',h1,h2,h3⟩|⟨r,h1,h2⟩
   ·omega
   ·exact⟨r,by rw[Oi,h1],h2⟩
  | succ k ih =>
   intro s hk h;rcases hs s h with ⟨s',h1,h2,h3⟩|⟨r,h1,h2⟩
   ·obtain⟨r,h4,h5⟩:=ih s' (by omega) h2;exact⟨r,by rw[Oi,h1];exact h4,h5⟩
   ·exact⟨r,by rw[Oi,h1],h2⟩
 exact key (m s0) s0 (Kd _) h0
theorem Wd {β:Type}{p:Prop} [Decidable p] (x y:Option β):cnd (decide p) x y=if p then x else y:=by
 by_cases h:p<;>simp [h]
theorem Znt {β:Type}{b:Bool}(x y:Option β):cnd b x y=if b=true then x else y:=by cases b<;>rfl
theorem Ee (x l h:Int):B0 (x,(l,h))=some (decide (l<=x/\x<=h)):=by
 unfold B0;simp only[iGe,iLe,Wd];split
 ·rename_i h1;have:l<=x:=h1;simp [this]
 ·rename_i h1;have:¬l<=x:=h1;simp [this]
theorem K6 (x l h:Int):De (x,(l,h))=some (decide (l<=x/\x<=h)):=Ee x l h
def sgn (x:Int):Bool:=decide (0<=x)&&Da x.toNat
theorem Zkm (x:Int):Rx x=some (sgn x):=by
 unfold Rx;simp only[Ee,Ab,Wd];split
 ·simp only[sgn,Da,Ah];congr 1;rw[Klc];simp only[Kjb,decide_eq_false_iff_not,Ke,decide_eq_true_eq];omega
 ·simp only[sgn,Da];congr 1;rw[Klc];simp only[Ke,decide_eq_true_eq,Kka,false_iff];omega
theorem Yhb (x:Int):Zew x=some (sgn x):=Zkm x
theorem Ib (n:Nat):u8 (Ak .u8 (n:Int))=yN n:=by
 have e1:IntKind.u8.bits=8:=rfl;have e2:IntKind.u8.signed=false:=rfl;simp only[u8,Ak,IntKind.wrap,e1,e2,Kud,Kka,if_false,yN];rw[show ((n:Int)%2^8)=((n%256:Nat):Int) by simp,Kxb];apply UInt8.toNat_inj.1;simp [UInt8.toNat_ofNat']
theorem orc {c q j b:Nat}(hc:c=q*2^j) (hb:b<2^j) (h1:c<2^63) (h2:b<2^63):iOr .i64 (c:Int) (b:Int)=((c+b:Nat):Int):=by
 rw[Zqj (k:=.i64) h1 h2,hc,Zji hb]
theorem Zr8 {c q j b:Nat}(hc:c=q*2^j) (hb:b<2^j) (h1:c<256) (h2:b<256):iOr .u8 (c:Int) (b:Int)=((c+b:Nat):Int):=by
 rw[Ygu h1 h2,hc,Zji hb]
theorem Zft {n:Nat}(h:n<2^63):Av .i64 (n:Int) 63=((n%64:Nat):Int):=by
 have:=Qm (k:=.i64) (a:=n) (b:=63) h (by decide);rw[Nl (j:=6) (by decide)]at this;exact this
theorem Zkv {n s:Nat}(hs:s<=64):B3 .i64 (n:Int) (s:Int)=((n / 2^s:Nat):Int):=Zqk (k:=.i64) hs
theorem Zku {n s:Nat}(hs:s<=32):B3 .i32 (n:Int) (s:Int)=((n / 2^s:Nat):Int):=Zqk (k:=.i32) hs
theorem Zt5 {b:List UInt8}{x:Int}(hb:b.length+4<=140737488355328):Rv (b,x)=some (b++if sgn x then enc x.toNat else []):=by
 unfold Rv;simp only[A0,Ks,Zkm,Ab];rw[Dt (by omega),A4];cases hs:sgn x with
 | false=>simp
 | true =>
  simp only[Bd,Ae];simp only[sgn,Ke,decide_eq_true_eq]at hs;obtain⟨h0,hs⟩:=hs;obtain⟨n,rfl⟩:=Kdd h0;simp only[Kxb,Da,decide_eq_true_eq]at hs ⊢;have e6:B3 .i64 (n:Int) 6=((n / 64:Nat):Int):=Zkv (s:=6) (by omega);have e12:B3 .i64 (n:Int) 12=((n / 4096:Nat):Int):=Zkv (s:=12) (by omega);have e18:B3 .i64 (n:Int) 18=((n / 262144:Nat):Int):=Zkv (s:=18) (by omega);have l1:iOr .i64 128 (Av .i64 (n:Int) 63)=((128+n%64:Nat):Int):=by
   rw[Zft (by omega)];exact orc (c:=128) (q:=2) (j:=6) (by decide) (by omega) (by omega) (by omega)
  have l2:iOr .i64 128 (Av .i64 ((n / 64:Nat):Int) 63)=((128+n / 64%64:Nat):Int):=by
   rw[Zft (by omega)];exact orc (c:=128) (q:=2) (j:=6) (by decide) (by omega) (by omega) (by omega)
  have l3:iOr .i64 128 (Av .i64 ((n / 4096:Nat):Int) 63)=((128+n / 4096%64:Nat):Int):=by
   rw[Zft (by omega)];exact orc (c:=128) (q:=2) (j:=6) (by decide) (by omega) (by omega) (by omega)
  by_cases h1:n<128
  ·rw[Gv (by omega),Ag,Dt (by omega),A4,Ib,enc,if_pos h1];rfl
  rw[Jl (by omega),Ae];by_cases h2:n<2048
  ·rw[Gv (by omega),Ag,Dt (by omega),A4,enc,if_neg h1,if_pos h2,e6,l1];rw[show iOr .i64 192 ((n / 64:Nat):Int)=((192+n / 64:Nat):Int) from orc (c:=192) (q:=6) (j:=5) (by decide) (by omega) (by omega) (by omega),Ib,Ib];rfl
  rw[Jl (by omega),Ae];by_cases h3:n<65536
  ·rw[Gv (by omega),Ag,Dt (by omega),A4,enc,if_neg h1,if_neg h2,if_pos h3,e12,e6,l1,l2];rw[show iOr .i64 224 ((n / 4096:Nat):Int)=((224+n / 4096:Nat):Int) from orc (c:=224) (q:=14) (j:=4) (by decide) (by omega) (by omega) (by omega),Ib,Ib,Ib];rfl
  ·rw[Jl (by omega),Ae,Dt (by omega),A4,enc,if_neg h1,if_neg h2,if_neg h3,e18,e12,e6,l1,l2,l3];rw[show iOr .i64 240 ((n / 262144:Nat):Int)=((240+n / 262144:Nat):Int) from orc (c:=240) (q:=30) (j:=3) (by decide) (by omega) (by omega) (by omega),Ib,Ib,Ib,Ib];rfl
theorem Zcn {b:List UInt8}(hb:b.length<=140737488355328):Pm [b]=some b:=by
 unfold Pm;rw[Jp (fun i=>(if i=0 then [] else b,(i:Int))) 1 (.inl b)]
 ·rfl
 ·intro i hi;obtain rfl:i=0:=by omega
  show Vm [b] ([],0)=some (.inl (b,1));unfold Vm;rw[A6 (by simp),Ag,show idx [b] (([],0):List UInt8×Int).2=some b from rfl,Ab,Dt (by simp;omega),A4];rfl
 ·show Vm [b] (b,1)=some (.inr (.inl b));unfold Vm;rw[A3 (by simp),Ae]
 ·rfl
theorem I2 (n:Nat) (h:n<256):y2i (u8 (n:Int))=(n:Int):=by rw[Zlu,Ce,E2 h]
theorem Zw0 (n:Nat):y2i (u8 (Ak .u8 (n:Int)))=((n%256:Nat):Int):=by
 rw[Ib,Ce,yN,UInt8.toNat_ofNat']
theorem Yg7 {b:List UInt8}{x:Int}(hb:b.length+4<=140737488355328):Y7 (b,x)=some (b++if sgn x then enc x.toNat else []):=by
 unfold Y7;simp only[Zcn (show b.length<=140737488355328 by omega),Ab,Yhb];cases hs:sgn x with
 | false=>simp
 | true =>
  simp only[Bd,Ae,if_true];simp only[sgn,Ke,decide_eq_true_eq]at hs;obtain⟨h0,hs⟩:=hs;obtain⟨n,rfl⟩:=Kdd h0;simp only[Kxb,Da,decide_eq_true_eq]at hs ⊢;have ec:Ak .i32 (n:Int)=(n:Int):=He (k:=.i32) (show n<2^31 by omega);have eu:Ak .u32 (n:Int)=(n:Int):=He (k:=.u32) (show n<2^31 by omega);have e6:B3 .i32 (n:Int) 6=((n / 64:Nat):Int):=Zku (s:=6) (by omega);have e12:B3 .i32 (n:Int) 12=((n / 4096:Nat):Int):=Zku (s:=12) (by omega);have e18:B3 .i32 (n:Int) 18=((n / 262144:Nat):Int):=Zku (s:=18) (by omega);have lo:∀m:Nat,u8 (iOr .u8 (y2i (u8 128)) (y2i (u8 (Av .u8 (y2i (u8 (Ak .u8 (m:Int)))) (y2i (u8 63))))))=yN (128+m%64):=by
   intro m;rw[Zw0,show y2i (u8 63)=((63:Nat):Int) from I2 63 (by omega),show y2i (u8 128)=((128:Nat):Int) from I2 128 (by omega)];rw[Zqg (by omega) (by omega),Nl (j:=6) (by decide),I2 _ (by omega)];rw[show m%256%2^6=m%64 by omega,Zr8 (q:=2) (j:=6) (by decide) (by omega) (by omega) (by omega),Zlu]
  have hi:∀(c q j m:Nat),c=q*2^j->m<2^j->c<256->m<256->u8 (iOr .u8 (y2i (u8 (c:Int))) (y2i (u8 (Ak .u8 (m:Int)))))=yN (c+m):=by
   intro c q j m h1 h2 h3 h4;rw[Zw0,I2 c h3,Kuc h4,Zr8 h1 h2 h3 h4,Zlu]
  unfold Ze4;simp only[ec,eu];by_cases h1:n<128
  ·rw[Gv (by omega),Ag,Dt (by omega),A4,Ab,Ib,enc,if_pos h1];rfl
  rw[Jl (by omega),Ae];unfold Ze5;simp only[eu,e6,e12,e18,lo];by_cases h2:n<2048
  ·rw[Gv (by omega),Ag,Dt (by omega),A4,Ab,Ab,enc,if_neg h1,if_pos h2];rw[show u8 (iOr .u8 (y2i (u8 192)) (y2i (u8 (Ak .u8 ((n / 64:Nat):Int)))))=yN (192+n / 64) from hi 192 6 5 _ (by decide) (by omega) (by omega) (by omega)];rfl
  rw[Jl (by omega),Ae];by_cases h3:n<65536
  ·have e3:(cnd (iLt (n:Int) 55296) (some (Sum.inl (β:=List UInt8) true)) (cnd (iLt 57343 (n:Int)) (some (.inl (iLe (n:Int) 65535))) (some (.inl false))))=some (.inl true):=by
    by_cases h4:n<55296
    ·rw[A6 (by omega),Ag]
    ·rw[A3 (by omega),Ae,A6 (by omega),Ag,Gv (by omega)]
   rw[e3,A2,Ag,Dt (by omega),A4,Ab,Ab,enc,if_neg h1,if_neg h2,if_pos h3];rw[show u8 (iOr .u8 (y2i (u8 224)) (y2i (u8 (Ak .u8 ((n / 4096:Nat):Int)))))=yN (224+n / 4096) from hi 224 14 4 _ (by decide) (by omega) (by omega) (by omega)];rfl
  ·have e3:(cnd (iLt (n:Int) 55296) (some (Sum.inl (β:=List UInt8) true)) (cnd (iLt 57343 (n:Int)) (some (.inl (iLe (n:Int) 65535))) (some (.inl false))))=some (.inl false):=by
    rw[A3 (by omega),Ae,A6 (by omega),Ag,Jl (by omega)]
   rw[e3,A2,Ae,Dp (by omega),Ag,Gv (by omega),Ag,Dt (by omega),A4,Ab,Ab,enc,if_neg h1,if_neg h2,if_neg h3];rw[show u8 (iOr .u8 (y2i (u8 240)) (y2i (u8 (Ak .u8 ((n / 262144:Nat):Int)))))=yN (240+n / 262144) from hi 240 30 3 _ (by decide) (by omega) (by omega) (by omega)];rfl
theorem Tq {σ ρ:Type}{step:σ->Option (σ ⊕ ρ)}{s s':σ}(h:step s=some (.inl s')):Ar step s=Ar step s':=by rw[Oi,h]
theorem Im {σ ρ:Type}{step:σ->Option (σ ⊕ ρ)}{s:σ}{r:ρ}(h:step s=some (.inr r)):Ar step s=some r:=by rw[Oi,h]
def Dx (o:Option (Nat×Nat)) (z:Int):Int×Int×Bool:=match o with
 | some (n,k)=>((n:Int),z+(k:Int),true)
 | none=>(0,0,false)
theorem Zyp:∀b:Fin 256,iNe (y2i (u8 (Av .u8 (y2i (UInt8.ofNat b.val)) (y2i (u8 192))))) (y2i (u8 128))=!Cn (UInt8.ofNat b.val):=by decide +kernel
theorem Zyq (b:UInt8):iNe (y2i (u8 (Av .u8 (y2i b) (y2i (u8 192))))) (y2i (u8 128))=!Cn b:=by
 have:=Zyp ⟨b.toNat,B2 b⟩;simpa using this
theorem Zrm (b:UInt8){j m:Nat}(hm:m=2^j-1) (h:m<256):y2i (u8 (Av .u8 (y2i b) (y2i (u8 (m:Int)))))=((b.toNat%2^j:Nat):Int):=by
 have:=B2 b;have hle:b.toNat%2^j<=b.toNat:=Nat.mod_le _ _;rw[I2 m h,Ce b,Zqg (by omega) h,Nl hm,I2 _ (by omega)]
theorem Yhs {α:Type}(b:List α) (i j:Nat) (h:i+j<9223372036854775808):idx b (Ai .i64 (i:Int) (j:Int))=(b.drop i)[j]?:=by
 rw[Wv h,Gd,Kva]
def l2 (b:UInt8):Nat:=if b.toNat<128 then 1 else if b.toNat<194 then 0 else if b.toNat<224 then 2 else if b.toNat<240 then 3 else if b.toNat<245 then 4 else 0
theorem Yk7 (b:UInt8):Z7 b=some ((l2 b:Nat):Int):=by
 have hb:=B2 b;have e0:y2i (u8 128)=128:=I2 128 (by omega);have e1:Ak .i64 (b.toNat:Int)=(b.toNat:Int):=He (k:=.i64) (show b.toNat<2^63 by omega);unfold Z7 l2;simp only[e0,Ce,e1,Ee,Ab,iLt,Wd];by_cases h1:b.toNat<128
 ·rw[if_pos (by omega),if_pos h1];rfl
 rw[if_neg (by omega),if_neg h1];by_cases h2:b.toNat<194
 ·rw[if_neg (by omega),if_neg (by omega),if_neg (by omega),if_pos h2];rfl
 rw[if_neg h2];by_cases h3:b.toNat<224
 ·rw[if_pos (by omega),if_pos h3];rfl
 rw[if_neg (by omega),if_neg h3];by_cases h4:b.toNat<240
 ·rw[if_pos (by omega),if_pos h4];rfl
 rw[if_neg (by omega),if_neg h4];by_cases h5:b.toNat<245
 ·rw[if_pos (by omega),if_pos h5];rfl
 ·rw[if_neg (by omega),if_neg h5];rfl
theorem Zy1 {l:List UInt8}{n k:Nat}(h:∀x,dec l=some x->x=(n,k)):dec l=if Da n=true/\enc n=l.take k then some (n,k) else none:=by
 cases hd:dec l with
 | some x =>
  have:=h x hd;subst this;obtain⟨a,b,_⟩:=Zg6 hd;rw[if_pos ⟨a,b⟩]
 | none =>
  rw[if_neg];rintro ⟨a,b⟩;have:=Zy2 a (l.drop k);rw[b,Kkc,hd]at this;cases this
theorem Zdu {b:List UInt8}{i n k:Nat}(hl:b.length<4611686018427387904) (hi:i+k<=b.length) (h:∀x,dec (b.drop i)=some x->x=(n,k)) :
  (bnd (Rx (n:Int)) fun z7=>cnd (Ah z7) (some (0,(0,false))) (bnd (Rv ([],(n:Int))) fun z8=>chk (Co (i:Int) (Ai .i64 (i:Int) (k:Int)) (Af b)) (cnd (Ah (sEq z8 (A9 ((nOf (Ai .i64 (i:Int) (k:Int)))-(nOf (i:Int))) (C0 (nOf (i:Int)) b)))) (some (0,(0,false))) (some ((n:Int),((Ai .i64 (i:Int) (k:Int)),true))))))
   = some (Dx (dec (b.drop i)) i):=by
 rw[Zy1 h];have ea:Ai .i64 (i:Int) (k:Int)=((i+k:Nat):Int):=Wv (by omega);have es:sgn (n:Int)=Da n:=by simp [sgn]
 have et:A9 (nOf ((i+k:Nat):Int)-nOf (i:Int)) (C0 (nOf (i:Int)) b)=(b.drop i).take k:=by
  rw[D9,D9,A9,C0,Kag]
 rw[Zkm,Ab,es];cases hs:Da n with
 | false=>simp [Dx]
 | true =>
  rw[Zt5 (by simp),Ab,es,hs,ea,et];have ew:Co (i:Int) ((i+k:Nat):Int) (Af b)=true:=by
   unfold Co;rw[decide_eq_true_eq,Aj];omega
  simp only[Bd,Ae,ew,A4,if_true,Ks,Kxb,true_and,sEq,Ah];by_cases he:enc n=(b.drop i).take k
  ·rw[if_pos he,he,beq_self_eq_true];simp [Dx]
  ·rw[if_neg he];have:(enc n==(b.drop i).take k)=false:=by simpa using he
   rw[this];simp [Dx]
theorem Ylj {a c:Nat}(ha:a<1099511627776) (hc:c<64):iOr .i64 (Br .i64 (a:Int) 6) (c:Int)=((a*64+c:Nat):Int):=by
 have h1:a*64<9223372036854775808:=by omega
 have e:Br .i64 (a:Int) 6=((a*64:Nat):Int):=Tc (k:=.i64) (s:=6) (by decide) h1;rw[e];exact orc (c:=a*64) (q:=a) (j:=6) rfl hc h1 (by omega)
theorem T9 {b:List UInt8}{i j k n:Nat}{y:UInt8}(j':Nat) (hl:b.length<4611686018427387904) (hi:i<=b.length) (hk:k<=4) (hj:j<k) (hj':j'=j+1) (hn:n<1099511627776) (hy:(b.drop i)[j]? = some y) :
  L6 (b,(i:Int)) (k:Int) ((n:Int),(j:Int))=if Cn y then some (.inl (((n*64+y.toNat%64:Nat):Int),(j':Int))) else some (.inr (.inr (0,(0,false)))):=by
 subst hj';unfold L6;simp only;rw[A6 (by omega),Ag,Yhs b i j (by omega),hy,Ab,Ab,Zyq];cases Cn y with
 | false=>simp
 | true =>
  have e63:y2i (u8 (Av .u8 (y2i y) (y2i (u8 63))))=((y.toNat%2^6:Nat):Int):=Zrm y (m:=63) (by decide) (by omega);have ec:Ak .i64 ((y.toNat%2^6:Nat):Int)=((y.toNat%2^6:Nat):Int):=He (k:=.i64) (show y.toNat%2^6<2^63 by omega);simp only[Kkd,Ae,if_true];rw[e63,ec,Dg (by omega)];rw[show (2:Nat)^6=64 by rfl,Ylj hn (by omega)]
theorem Zdw {b:List UInt8}{i k n:Nat}:L6 (b,(i:Int)) (k:Int) ((n:Int),(k:Int))=some (.inr (.inl (n:Int))):=by
 unfold L6;simp only;rw[A3 (Kec _),Ae]
theorem Ykr {b:List UInt8}{i:Nat}(hl:b.length<4611686018427387904) (hi:i<b.length):Z1 (b,(i:Int))=some (Dx (dec (b.drop i)) i):=by
 unfold Z1;have e0:Ax .i64 (Af b) 1=(b.length:Int)-1:=D7 (by simp only[Aj];omega) (by simp only[Aj];omega);simp only[Ee,Ab];rw[e0,show decide ((0:Int)<=(i:Int)/\(i:Int)<=(b.length:Int)-1)=true by simp only[decide_eq_true_eq];omega,Bd,Ae,B9 hi,Ab,Yk7,Ab];have hd:b.drop i=b[i]::b.drop (i+1):=Kzb hi;have hlen:(b.drop i).length=b.length-i:=Kia;have e1:Ax .i64 (Af b) (i:Int)=((b.length-i:Nat):Int):=by
  rw[D7 (by simp only[Aj];omega) (by simp only[Aj];omega),Aj];omega
 have hb0:=B2 b[i];have ec0:Ak .i64 (y2i b[i])=((b[i].toNat:Nat):Int):=He (k:=.i64) (show b[i].toNat<2^63 by omega);rw[e1];unfold l2;by_cases h1:b[i].toNat<128
 ·rw[if_pos h1,Ep (by decide),Ae,Er (by omega),Ae,Ab,Er (by omega),Ae,A2,ec0];rw[Im (show L6 (b,(i:Int)) ((1:Nat):Int) (((b[i].toNat:Nat):Int),1)=_ from Zdw (k:=1)),A2];refine Zdu (k:=1) hl (by omega) fun x hx=>?_;rw[hd]at hx;simp only[dec,if_pos h1,Ka]at hx;exact hx.symm
 rw[if_neg h1];by_cases h2:b[i].toNat<194
 ·rw[if_pos h2,show iEq ((0:Nat):Int) 0=true from rfl,Ag,hd];simp only[dec,if_neg h1,if_pos h2,Dx]
 rw[if_neg h2];by_cases h3:b[i].toNat<224
 ·rw[if_pos h3,Ep (by decide),Ae];by_cases hk:b.length-i<2
  ·rw[Dp (by omega),Ag,hd];have:b.drop (i+1)=[]:=Kge (by omega);rw[this];simp only[dec,if_neg h1,if_neg h2,if_pos h3,Nv,Dx]
  rw[Er (by omega),Ae,Ab,Dp (by omega),Ag];rw[show iLe 0 (Ak .u64 ((2:Nat):Int))=true by decide +kernel,A4,A2,ec0];have em:Av .i64 ((b[i].toNat:Nat):Int) (B3 .i64 127 (Ak .u64 ((2:Nat):Int)))=((b[i].toNat%32:Nat):Int):=by
   rw[show B3 .i64 127 (Ak .u64 ((2:Nat):Int))=((31:Nat):Int) by decide +kernel,Qm (k:=.i64) (show b[i].toNat<2^63 by omega) (by decide),Nl (j:=5) (by decide)]
  rw[em];obtain⟨b1,r,hr⟩:∃b1 r,b.drop (i+1)=b1::r:=by
   cases hq:b.drop (i+1) with
   | nil=>have:=congrArg List.length hq;simp only[Kia,Ko]at this;omega
   | cons x y=>exact⟨x,y,rfl⟩
  have y1:(b.drop i)[1]? = some b1:=by rw[hd,hr];rfl
  have s1:L6 (b,(i:Int)) ((2:Nat):Int) (((b[i].toNat%32:Nat):Int),1)=_:=T9 (j:=1) 2 (k:=2) (n:=b[i].toNat%32) hl (by omega) (by omega) (by omega) rfl (by omega) y1;by_cases c1:Cn b1=true
  ·rw[if_pos c1]at s1;rw[Tq s1,Im (Zdw (k:=2)),A2];refine Zdu (k:=2) hl (by omega) fun x hx=>?_;rw[hd,hr]at hx;simp only[dec,if_neg h1,if_neg h2,if_pos h3,Nv,if_pos c1,Ka]at hx;exact hx.symm
  ·rw[if_neg c1]at s1;rw[Im s1,Mj,hd,hr];simp only[dec,if_neg h1,if_neg h2,if_pos h3,Nv,if_neg c1,Dx]
 rw[if_neg h3];by_cases h4:b[i].toNat<240
 ·rw[if_pos h4,Ep (by decide),Ae];by_cases hk:b.length-i<3
  ·rw[Dp (by omega),Ag,hd];have:J8 b[i] (b.drop (i+1))=none:=by
    have hl3:(b.drop (i+1)).length<2:=by rw[Kia];omega
    match b.drop (i+1),hl3 with
    | [],_=>rfl
    | [_],_=>rfl
    | _::_::_,h=>simp at h;omega
   simp only[dec,if_neg h1,if_neg h2,if_neg h3,if_pos h4,this,Dx]
  rw[Er (by omega),Ae,Ab,Dp (by omega),Ag];rw[show iLe 0 (Ak .u64 ((3:Nat):Int))=true by decide +kernel,A4,A2,ec0];have em:Av .i64 ((b[i].toNat:Nat):Int) (B3 .i64 127 (Ak .u64 ((3:Nat):Int)))=((b[i].toNat%16:Nat):Int):=by
   rw[show B3 .i64 127 (Ak .u64 ((3:Nat):Int))=((15:Nat):Int) by decide +kernel,Qm (k:=.i64) (show b[i].toNat<2^63 by omega) (by decide),Nl (j:=4) (by decide)]
  rw[em];obtain⟨b1,b2,r,hr⟩:∃b1 b2 r,b.drop (i+1)=b1::b2::r:=by
   have hl3:2<=(b.drop (i+1)).length:=by rw[Kia];omega
   match b.drop (i+1),hl3 with
   | x::y::r,_=>exact⟨x,y,r,rfl⟩
  have y1:(b.drop i)[1]? = some b1:=by rw[hd,hr];rfl
  have y2:(b.drop i)[2]? = some b2:=by rw[hd,hr];rfl
  have q1:=B2 b1;have s1:L6 (b,(i:Int)) ((3:Nat):Int) (((b[i].toNat%16:Nat):Int),1)=_:=T9 (j:=1) 2 (k:=3) (n:=b[i].toNat%16) hl (by omega) (by omega) (by omega) rfl (by omega) y1;have s2:=T9 (j:=2) 3 (k:=3) (n:=b[i].toNat%16*64+b1.toNat%64) hl (by omega) (by omega) (by omega) rfl (by omega) y2;by_cases c1:Cn b1=true
  ·rw[if_pos c1]at s1;rw[Tq s1];by_cases c2:Cn b2=true
   ·rw[if_pos c2]at s2;rw[Tq s2,Im (Zdw (k:=3)),A2];refine Zdu (k:=3) hl (by omega) fun x hx=>?_;rw[hd,hr]at hx;simp only[dec,if_neg h1,if_neg h2,if_neg h3,if_pos h4,J8]at hx;split at hx
    ·simp only[Ka]at hx;rw[<-hx];congr 1;omega
    ·cases hx
   ·rw[if_neg c2]at s2;rw[Im s2,Mj,hd,hr];simp only[dec,if_neg h1,if_neg h2,if_neg h3,if_pos h4,J8];rw[if_neg (fun h=>c2 h.2.2)];rfl
  ·rw[if_neg c1]at s1;rw[Im s1,Mj,hd,hr];simp only[dec,if_neg h1,if_neg h2,if_neg h3,if_pos h4,J8];rw[if_neg]
   ·rfl
   ·rintro ⟨a,c,_⟩;refine c1 ?_;simp only[Cn,decide_eq_true_eq];unfold Lb at a;unfold hi3 at c;split at a<;>split at c<;>omega
 rw[if_neg h4];by_cases h5:b[i].toNat<245
 ·rw[if_pos h5,Ep (by decide),Ae];by_cases hk:b.length-i<4
  ·rw[Dp (by omega),Ag,hd];have:Ic b[i] (b.drop (i+1))=none:=by
    have hl3:(b.drop (i+1)).length<3:=by rw[Kia];omega
    match b.drop (i+1),hl3 with
    | [],_=>rfl
    | [_],_=>rfl
    | [_,_],_=>rfl
    | _::_::_::_,h=>simp at h;omega
   simp only[dec,if_neg h1,if_neg h2,if_neg h3,if_neg h4,if_pos h5,this,Dx]
  rw[Er (by omega),Ae,Ab,Dp (by omega),Ag];rw[show iLe 0 (Ak .u64 ((4:Nat):Int))=true by decide +kernel,A4,A2,ec0];have em:Av .i64 ((b[i].toNat:Nat):Int) (B3 .i64 127 (Ak .u64 ((4:Nat):Int)))=((b[i].toNat%8:Nat):Int):=by
   rw[show B3 .i64 127 (Ak .u64 ((4:Nat):Int))=((7:Nat):Int) by decide +kernel,Qm (k:=.i64) (show b[i].toNat<2^63 by omega) (by decide),Nl (j:=3) (by decide)]
  rw[em];obtain⟨b1,b2,b3,r,hr⟩:∃b1 b2 b3 r,b.drop (i+1)=b1::b2::b3::r:=by
   have hl3:3<=(b.drop (i+1)).length:=by rw[Kia];omega
   match b.drop (i+1),hl3 with
   | x::y::z::r,_=>exact⟨x,y,z,r,rfl⟩
  have y1:(b.drop i)[1]? = some b1:=by rw[hd,hr];rfl
  have y2:(b.drop i)[2]? = some b2:=by rw[hd,hr];rfl
  have y3:(b.drop i)[3]? = some b3:=by rw[hd,hr];rfl
  have q1:=B2 b1;have q2:=B2 b2;have s1:L6 (b,(i:Int)) ((4:Nat):Int) (((b[i].toNat%8:Nat):Int),1)=_:=T9 (j:=1) 2 (k:=4) (n:=b[i].toNat%8) hl (by omega) (by omega) (by omega) rfl (by omega) y1;have s2:=T9 (j:=2) 3 (k:=4) (n:=b[i].toNat%8*64+b1.toNat%64) hl (by omega) (by omega) (by omega) rfl (by omega) y2;have s3:=T9 (j:=3) 4 (k:=4) (n:=(b[i].toNat%8*64+b1.toNat%64)*64+b2.toNat%64) hl (by omega) (by omega) (by omega) rfl (by omega) y3;by_cases c1:Cn b1=true
  ·rw[if_pos c1]at s1;rw[Tq s1];by_cases c2:Cn b2=true
   ·rw[if_pos c2]at s2;rw[Tq s2];by_cases c3:Cn b3=true
    ·rw[if_pos c3]at s3;rw[Tq s3,Im (Zdw (k:=4)),A2];refine Zdu (k:=4) hl (by omega) fun x hx=>?_;rw[hd,hr]at hx;simp only[dec,if_neg h1,if_neg h2,if_neg h3,if_neg h4,if_pos h5,Ic]at hx;split at hx
     ·simp only[Ka]at hx;rw[<-hx];congr 1;omega
     ·cases hx
    ·rw[if_neg c3]at s3;rw[Im s3,Mj,hd,hr];simp only[dec,if_neg h1,if_neg h2,if_neg h3,if_neg h4,if_pos h5,Ic];rw[if_neg (fun h=>c3 h.2.2.2)];rfl
   ·rw[if_neg c2]at s2;rw[Im s2,Mj,hd,hr];simp only[dec,if_neg h1,if_neg h2,if_neg h3,if_neg h4,if_pos h5,Ic];rw[if_neg (fun h=>c2 h.2.2.1)];rfl
  ·rw[if_neg c1]at s1;rw[Im s1,Mj,hd,hr];simp only[dec,if_neg h1,if_neg h2,if_neg h3,if_neg h4,if_pos h5,Ic];rw[if_neg]
   ·rfl
   ·rintro ⟨a,c,_⟩;refine c1 ?_;simp only[Cn,decide_eq_true_eq];unfold Ld at a;unfold hi4 at c;split at a<;>split at c<;>omega
 ·rw[if_neg h5,show iEq ((0:Nat):Int) 0=true from rfl,Ag,hd];simp only[dec,if_neg h1,if_neg h2,if_neg h3,if_neg h4,if_neg h5,Dx]
structure XT (x lo hi:UInt8) (k:Nat):Prop where
 a:iGe (y2i x) (y2i (u8 240))=false
 b:iLe 0 (y2i (u8 (B3 .u8 (y2i x) 4)))=true
 c:iLt (y2i (u8 (B3 .u8 (y2i x) 4))) 16=true
 d:idx Sz (Int.ofNat (0+((nOf (y2i (u8 (B3 .u8 (y2i x) 4))))*2)))=some lo
 e:idx Sz (Int.ofNat ((0+((nOf (y2i (u8 (B3 .u8 (y2i x) 4))))*2))+1))=some hi
 f:Ak .i64 (y2i (u8 (Av .u8 (y2i x) (y2i (u8 7)))))=(k:Int)
theorem xt2:XT 0x02 128 191 2:=⟨by decide +kernel,by decide +kernel,by decide +kernel,by decide +kernel,by decide +kernel,by decide +kernel⟩
theorem Yn0:XT 0x13 160 191 3:=⟨by decide +kernel,by decide +kernel,by decide +kernel,by decide +kernel,by decide +kernel,by decide +kernel⟩
theorem xt3:XT 0x03 128 191 3:=⟨by decide +kernel,by decide +kernel,by decide +kernel,by decide +kernel,by decide +kernel,by decide +kernel⟩
theorem Yn1:XT 0x23 128 159 3:=⟨by decide +kernel,by decide +kernel,by decide +kernel,by decide +kernel,by decide +kernel,by decide +kernel⟩
theorem Yn2:XT 0x34 144 191 4:=⟨by decide +kernel,by decide +kernel,by decide +kernel,by decide +kernel,by decide +kernel,by decide +kernel⟩
theorem xt4:XT 0x04 128 191 4:=⟨by decide +kernel,by decide +kernel,by decide +kernel,by decide +kernel,by decide +kernel,by decide +kernel⟩
theorem Yn3:XT 0x44 128 143 4:=⟨by decide +kernel,by decide +kernel,by decide +kernel,by decide +kernel,by decide +kernel,by decide +kernel⟩
theorem Ycr:∀b:Fin 256,128<=b.val->N2[b.val]? = some (if b.val<194 then 241 else if b.val<224 then 0x02 else if b.val=224 then 0x13 else if b.val=237 then 0x23 else if b.val<240 then 0x03 else if b.val=240 then 0x34 else if b.val<244 then 0x04 else if b.val=244 then 0x44 else 241):=by decide +kernel
theorem Zx2:∀b:Fin 256,iOr .i32 (Zhz .i32 (Ak .i32 (y2i (UInt8.ofNat b.val))) (B3 .i32 (Br .i32 (Ak .i32 (y2i 241)) 31) 31)) (Av .i32 65533 (B3 .i32 (Br .i32 (Ak .i32 (y2i 241)) 31) 31))=65533:=by decide +kernel
theorem Ue {a s:Nat}(hs:s<=32) (h:a*2^s<2147483648):Br .i32 (a:Int) (s:Int)=((a*2^s:Nat):Int):=Tc (k:=.i32) hs h
theorem Tx {a j b:Nat}(hb:b<2^j) (h1:a*2^j<2147483648) (h2:b<2147483648):iOr .i32 ((a*2^j:Nat):Int) (b:Int)=((a*2^j+b:Nat):Int):=by
 rw[Zqj (k:=.i32) h1 h2,Zji hb]
theorem m32 (b:UInt8){j m:Nat}(hm:m=2^j-1) (h:m<256) (hj:j<=8):Ak .i32 (y2i (u8 (Av .u8 (y2i b) (y2i (u8 (m:Int))))))=((b.toNat%2^j:Nat):Int):=by
 have hlt:b.toNat%2^j<2^31:=Kjg (Nat.mod_le _ _) (by have:=B2 b;omega);rw[Zrm b hm h];exact He (k:=.i32) hlt
theorem Ym3 (b0 b1:UInt8):iOr .i32 (Br .i32 (Ak .i32 (y2i (u8 (Av .u8 (y2i b0) (y2i (u8 31)))))) 6) (Ak .i32 (y2i (u8 (Av .u8 (y2i b1) (y2i (u8 63))))))=((b0.toNat%32*64+b1.toNat%64:Nat):Int):=by
 have h0:=B2 b0;rw[show Ak .i32 (y2i (u8 (Av .u8 (y2i b0) (y2i (u8 31)))))=((b0.toNat%32:Nat):Int) from m32 b0 (m:=31) (j:=5) rfl (by omega) (by omega),
  show Ak .i32 (y2i (u8 (Av .u8 (y2i b1) (y2i (u8 63)))))=((b1.toNat%64:Nat):Int) from m32 b1 (m:=63) (j:=6) rfl (by omega) (by omega)]
 rw[show Br .i32 ((b0.toNat%32:Nat):Int) 6=((b0.toNat%32*2^6:Nat):Int) from Ue (s:=6) (by omega) (by omega)];exact Tx (j:=6) (by omega) (by omega) (by omega)
theorem Ym4 (b0 b1 b2:UInt8):iOr .i32 (iOr .i32 (Br .i32 (Ak .i32 (y2i (u8 (Av .u8 (y2i b0) (y2i (u8 15)))))) 12) (Br .i32 (Ak .i32 (y2i (u8 (Av .u8 (y2i b1) (y2i (u8 63)))))) 6)) (Ak .i32 (y2i (u8 (Av .u8 (y2i b2) (y2i (u8 63))))))=((b0.toNat%16*4096+b1.toNat%64*64+b2.toNat%64:Nat):Int):=by
 have h0:=B2 b0;have e:∀b:UInt8,Ak .i32 (y2i (u8 (Av .u8 (y2i b) (y2i (u8 63)))))=((b.toNat%64:Nat):Int):=fun b=>m32 b (m:=63) (j:=6) rfl (by omega) (by omega);rw[show Ak .i32 (y2i (u8 (Av .u8 (y2i b0) (y2i (u8 15)))))=((b0.toNat%16:Nat):Int) from m32 b0 (m:=15) (j:=4) rfl (by omega) (by omega),e b1,e b2];rw[show Br .i32 ((b0.toNat%16:Nat):Int) 12=((b0.toNat%16*2^12:Nat):Int) from Ue (s:=12) (by omega) (by omega),
  show Br .i32 ((b1.toNat%64:Nat):Int) 6=((b1.toNat%64*2^6:Nat):Int) from Ue (s:=6) (by omega) (by omega)]
 rw[Tx (j:=12) (by omega) (by omega) (by omega)];rw[show b0.toNat%16*2^12+b1.toNat%64*2^6=(b0.toNat%16*64+b1.toNat%64)*2^6 by omega,Tx (j:=6) (by omega) (by omega) (by omega)]
theorem Ym5 (b0 b1 b2 b3:UInt8):iOr .i32 (iOr .i32 (iOr .i32 (Br .i32 (Ak .i32 (y2i (u8 (Av .u8 (y2i b0) (y2i (u8 7)))))) 18) (Br .i32 (Ak .i32 (y2i (u8 (Av .u8 (y2i b1) (y2i (u8 63)))))) 12)) (Br .i32 (Ak .i32 (y2i (u8 (Av .u8 (y2i b2) (y2i (u8 63)))))) 6)) (Ak .i32 (y2i (u8 (Av .u8 (y2i b3) (y2i (u8 63))))))=((b0.toNat%8*262144+b1.toNat%64*4096+b2.toNat%64*64+b3.toNat%64:Nat):Int):=by
 have h0:=B2 b0;have e:∀b:UInt8,Ak .i32 (y2i (u8 (Av .u8 (y2i b) (y2i (u8 63)))))=((b.toNat%64:Nat):Int):=fun b=>m32 b (m:=63) (j:=6) rfl (by omega) (by omega);rw[show Ak .i32 (y2i (u8 (Av .u8 (y2i b0) (y2i (u8 7)))))=((b0.toNat%8:Nat):Int) from m32 b0 (m:=7) (j:=3) rfl (by omega) (by omega),e b1,e b2,e b3];rw[show Br .i32 ((b0.toNat%8:Nat):Int) 18=((b0.toNat%8*2^18:Nat):Int) from Ue (s:=18) (by omega) (by omega),
  show Br .i32 ((b1.toNat%64:Nat):Int) 12=((b1.toNat%64*2^12:Nat):Int) from Ue (s:=12) (by omega) (by omega),
  show Br .i32 ((b2.toNat%64:Nat):Int) 6=((b2.toNat%64*2^6:Nat):Int) from Ue (s:=6) (by omega) (by omega)]
 rw[Tx (j:=18) (by omega) (by omega) (by omega)];rw[show b0.toNat%8*2^18+b1.toNat%64*2^12=(b0.toNat%8*64+b1.toNat%64)*2^12 by omega,Tx (j:=12) (by omega) (by omega) (by omega)];rw[show (b0.toNat%8*64+b1.toNat%64)*2^12+b2.toNat%64*2^6=((b0.toNat%8*64+b1.toNat%64)*64+b2.toNat%64)*2^6 by omega,Tx (j:=6) (by omega) (by omega) (by omega)]
def My (o:Option (Nat×Nat)):Int×Int:=match o with
 | some (n,k)=>((n:Int),(k:Int))
 | none=>(65533,1)
def M1 (b0 lo hi:UInt8) (k:Nat) (r:List UInt8):Int×Int:=if r.length+1<k then (65533,1) else match r with
   | []=>(65533,1)
   | b1::r=>if b1.toNat<lo.toNat\/hi.toNat<b1.toNat then (65533,1) else if k<=2 then (((b0.toNat%32*64+b1.toNat%64:Nat):Int),2) else match r with
    | []=>(65533,1)
    | b2::r=>if b2.toNat<128\/191<b2.toNat then (65533,1) else if k<=3 then (((b0.toNat%16*4096+b1.toNat%64*64+b2.toNat%64:Nat):Int),3) else match r with
     | []=>(65533,1)
     | b3::_=>if b3.toNat<128\/191<b3.toNat then (65533,1) else (((b0.toNat%8*262144+b1.toNat%64*4096+b2.toNat%64*64+b3.toNat%64:Nat):Int),4)
theorem Rb {b0:UInt8}{r:List UInt8}{x lo hi:UInt8}{k:Nat}(hf:N2[b0.toNat]? = some x) (ht:XT x lo hi k) (hk:2<=k) (hl:r.length<4611686018427387904) :
  L3 (b0::r)=some (M1 b0 lo hi k r):=by
 have h0:=B2 b0;have e0:idx (b0::r) 0=some b0:=rfl;have e1:idx N2 (Int.ofNat (0+nOf (y2i b0)*1))=some x:=by
  rw[Ce,D9,Mf];simpa using hf
 by_cases hs:r.length+1<k
 ·unfold M1;rw[if_pos hs];unfold L3;rw[A3 (by simp only[Aj,Kh];omega),Ae,e0,Ab,Gv (by rw[Ce];omega),A4,A6 (by rw[Ce];omega),A4,e1,Ab,ht.a,Ae,ht.b,A4,ht.c,A4,ht.d,Ab,ht.e,Ab,ht.f,
   A6 (by simp only[Aj,Kh];omega),Ag]
 match r with
 | []=>exact (hs (by simp only[Ko];omega)).elim
 | b1::r =>
  have h1:=B2 b1;have i1:idx (b0::b1::r) 1=some b1:=rfl;have pre:L3 (b0::b1::r)=(cnd (iLt (y2i b1) (y2i lo)) (some (65533,1)) (cnd (iLt (y2i hi) (y2i b1)) (some (65533,1))
   (cnd (iLe (k:Int) 2) (some ((iOr .i32 (Br .i32 (Ak .i32 (y2i (u8 (Av .u8 (y2i b0) (y2i (u8 31)))))) 6) (Ak .i32 (y2i (u8 (Av .u8 (y2i b1) (y2i (u8 63))))))),2)) (bnd (idx (b0::b1::r) 2) (fun z6=>(cnd (iLt (y2i z6) (y2i (u8 128))) (some (65533,1)) (cnd (iLt (y2i (u8 191)) (y2i z6)) (some
   (65533,1)) (cnd (iLe (k:Int) 3) (some ((iOr .i32 (iOr .i32 (Br .i32 (Ak .i32 (y2i (u8 (Av .u8 (y2i b0) (y2i (u8 15))))))
   12) (Br .i32 (Ak .i32 (y2i (u8 (Av .u8 (y2i b1) (y2i (u8 63)))))) 6)) (Ak .i32 (y2i (u8 (Av .u8 (y2i z6) (y2i (u8 63))))))),3)) (bnd (idx (b0::b1::r) 3) (fun z7 =>
   (cnd (iLt (y2i z7) (y2i (u8 128))) (some (65533,1)) (cnd (iLt (y2i (u8 191)) (y2i z7)) (some (65533,1)) (some ((iOr .i32 (iOr .i32 (iOr .i32 (Br .i32 (Ak .i32 (y2i (u8
   (Av .u8 (y2i b0) (y2i (u8 7)))))) 18) (Br .i32 (Ak .i32 (y2i (u8 (Av .u8 (y2i b1) (y2i (u8 63)))))) 12)) (Br .i32 (Ak .i32 (y2i (u8 (Av .u8 (y2i z6) (y2i (u8
   63)))))) 6)) (Ak .i32 (y2i (u8 (Av .u8 (y2i z7) (y2i (u8 63))))))),4)))))))))))))):=by
   unfold L3;rw[A3 (by simp only[Aj,Kh];omega),Ae,e0,Ab,Gv (by rw[Ce];omega),A4,A6 (by rw[Ce];omega),A4,e1,Ab,ht.a,Ae,ht.b,A4,ht.c,A4,ht.d,Ab,ht.e,Ab,ht.f,
    A3 (by simp only[Aj,Kh]at hs ⊢;omega),Ae,i1,Ab]
  have e128:y2i (u8 128)=128:=I2 128 (by omega);have e191:y2i (u8 191)=191:=I2 191 (by omega);unfold M1;rw[pre,if_neg hs];simp only[e128,e191,Ym3,Ym4,Ym5];by_cases c1:b1.toNat<lo.toNat
  ·rw[A6 (by rw[Ce,Ce];omega),Ag,if_pos (.inl c1)]
  rw[A3 (by rw[Ce,Ce];omega),Ae];by_cases c2:hi.toNat<b1.toNat
  ·rw[A6 (by rw[Ce,Ce];omega),Ag,if_pos (.inr c2)]
  rw[A3 (by rw[Ce,Ce];omega),Ae,if_neg (by omega)];by_cases k2:k<=2
  ·rw[Gv (by omega),Ag,if_pos k2]
  rw[Jl (by omega),Ae,if_neg k2];obtain⟨b2,q,rfl⟩:∃b2 q,r=b2::q:=by
   cases r with
   | nil=>exact (hs (by simp only[Ko,Kh];omega)).elim
   | cons x y=>exact⟨x,y,rfl⟩
  have h2:=B2 b2;have i2:idx (b0::b1::b2::q) 2=some b2:=rfl;rw[i2,Ab];by_cases c3:b2.toNat<128
  ·rw[A6 (by rw[Ce];omega),Ag];simp only;rw[if_pos (.inl c3)]
  rw[A3 (by rw[Ce];omega),Ae];by_cases c4:191<b2.toNat
  ·rw[A6 (by rw[Ce];omega),Ag];simp only;rw[if_pos (.inr c4)]
  rw[A3 (by rw[Ce];omega),Ae];simp only;rw[if_neg (by omega)];by_cases k3:k<=3
  ·rw[Gv (by omega),Ag,if_pos k3]
  rw[Jl (by omega),Ae,if_neg k3];obtain⟨b3,p,rfl⟩:∃b3 p,q=b3::p:=by
   cases q with
   | nil=>exact (hs (by simp only[Ko,Kh];omega)).elim
   | cons x y=>exact⟨x,y,rfl⟩
  have h3:=B2 b3;have i3:idx (b0::b1::b2::b3::p) 3=some b3:=rfl;rw[i3,Ab];by_cases c5:b3.toNat<128
  ·rw[A6 (by rw[Ce];omega),Ag];simp only;rw[if_pos (.inl c5)]
  rw[A3 (by rw[Ce];omega),Ae];by_cases c6:191<b3.toNat
  ·rw[A6 (by rw[Ce];omega),Ag];simp only;rw[if_pos (.inr c6)]
  rw[A3 (by rw[Ce];omega),Ae];simp only;rw[if_neg (by omega)]
theorem Ylp {b0:UInt8}{r:List UInt8}(h1:194<=b0.toNat) (h2:b0.toNat<224):M1 b0 128 191 2 r=My (dec (b0::r)):=by
 have e1:(128:UInt8).toNat=128:=rfl;have e2:(191:UInt8).toNat=191:=rfl;unfold M1;simp only[dec,if_neg (show ¬b0.toNat<128 by omega),if_neg (show ¬b0.toNat<194 by omega),if_pos h2,e1,e2];cases r with
 | nil=>rfl
 | cons b1 r =>
  rw[if_neg (by simp)];simp only[Nv];by_cases hc:Cn b1=true
  ·rw[if_pos hc];simp only[Cn,decide_eq_true_eq]at hc;rw[if_neg (by omega),if_pos (Kd _)];rfl
  ·rw[if_neg hc];simp only[Cn,decide_eq_true_eq]at hc;rw[if_pos (by omega)];rfl
theorem Zky {b0 lo hi:UInt8}{r:List UInt8}(h1:224<=b0.toNat) (h2:b0.toNat<240) (hl:lo.toNat=Lb b0) (hh:hi.toNat=hi3 b0):M1 b0 lo hi 3 r=My (dec (b0::r)):=by
 unfold M1;simp only[dec,if_neg (show ¬b0.toNat<128 by omega),if_neg (show ¬b0.toNat<194 by omega),if_neg (show ¬b0.toNat<224 by omega),if_pos h2,hl,hh]
 match r with
 | []=>rfl
 | [_]=>rfl
 | b1::b2::r =>
  rw[if_neg (by simp)];simp only[J8];by_cases hc:Lb b0<=b1.toNat/\b1.toNat<=hi3 b0/\Cn b2=true
  ·rw[if_pos hc];obtain⟨c1,c2,c3⟩:=hc;simp only[Cn,decide_eq_true_eq]at c3;rw[if_neg (by omega),if_neg (by omega),if_neg (by omega),if_pos (Kd _)];rfl
  ·rw[if_neg hc];by_cases c1:b1.toNat<Lb b0\/hi3 b0<b1.toNat
   ·rw[if_pos c1];rfl
   ·rw[if_neg c1,if_neg (by omega),if_pos]
    ·rfl
    ·have:¬Cn b2=true:=fun h=>hc ⟨by omega,by omega,h⟩;simp only[Cn,decide_eq_true_eq]at this;omega
theorem Zkz {b0 lo hi:UInt8}{r:List UInt8}(h1:240<=b0.toNat) (h2:b0.toNat<245) (hl:lo.toNat=Ld b0) (hh:hi.toNat=hi4 b0):M1 b0 lo hi 4 r=My (dec (b0::r)):=by
 unfold M1;simp only[dec,if_neg (show ¬b0.toNat<128 by omega),if_neg (show ¬b0.toNat<194 by omega),if_neg (show ¬b0.toNat<224 by omega),if_neg (show ¬b0.toNat<240 by omega),if_pos h2,hl,hh]
 match r with
 | []=>rfl
 | [_]=>rfl
 | [_,_]=>rfl
 | b1::b2::b3::r =>
  rw[if_neg (by simp)];simp only[Ic];by_cases hc:Ld b0<=b1.toNat/\b1.toNat<=hi4 b0/\Cn b2=true/\Cn b3=true
  ·rw[if_pos hc];obtain⟨c1,c2,c3,c4⟩:=hc;simp only[Cn,decide_eq_true_eq]at c3 c4;rw[if_neg (by omega),if_neg (by omega),if_neg (by omega),if_neg (by omega),if_neg (by omega)];rfl
  ·rw[if_neg hc];by_cases c1:b1.toNat<Ld b0\/hi4 b0<b1.toNat
   ·rw[if_pos c1];rfl
   ·rw[if_neg c1,if_neg (by omega)];by_cases c2:b2.toNat<128\/191<b2.toNat
    ·rw[if_pos c2];rfl
    ·rw[if_neg c2,if_neg (by omega),if_pos]
     ·rfl
     ·have:¬Cn b3=true:=fun h=>hc ⟨by omega,by omega,by simp only[Cn,decide_eq_true_eq];omega,h⟩;simp only[Cn,decide_eq_true_eq]at this;omega
theorem Zuu {b0:UInt8}{r:List UInt8}(hf:N2[b0.toNat]? = some 241):L3 (b0::r)=some (65533,1):=by
 have h0:=B2 b0;have e0:idx (b0::r) 0=some b0:=rfl;have e1:idx N2 (Int.ofNat (0+nOf (y2i b0)*1))=some 241:=by
  rw[Ce,D9,Mf];simpa using hf
 have e2:=Zx2 ⟨b0.toNat,h0⟩;simp only[UInt8.ofNat_toNat]at e2;unfold L3;rw[A3 (by simp only[Aj,Kh];omega),Ae,e0,Ab,Gv (by rw[Ce];omega),A4,A6 (by rw[Ce];omega),A4,e1,Ab,show iGe (y2i 241) (y2i (u8 240))=true by decide +kernel,Ag,Ab,e2]
theorem Ylq {b0:UInt8}{r:List UInt8}(h:128<=b0.toNat) (hl:r.length<4611686018427387904):L3 (b0::r)=some (My (dec (b0::r))):=by
 have h0:=B2 b0;have ht:=Ycr ⟨b0.toNat,h0⟩ h;simp only at ht;by_cases h1:b0.toNat<194
 ·rw[if_pos h1]at ht;rw[Zuu ht];simp only[dec,if_neg (show ¬b0.toNat<128 by omega),if_pos h1,My]
 rw[if_neg h1]at ht;by_cases h2:b0.toNat<224
 ·rw[if_pos h2]at ht;rw[Rb ht xt2 (by omega) hl,Ylp (by omega) h2]
 rw[if_neg h2]at ht;by_cases h3:b0.toNat=224
 ·rw[if_pos h3]at ht;rw[Rb ht Yn0 (by omega) hl,Zky (by omega) (by omega) (by rw[Lb,if_pos h3];rfl) (by rw[hi3,if_neg (by omega)];rfl)]
 rw[if_neg h3]at ht;by_cases h4:b0.toNat=237
 ·rw[if_pos h4]at ht;rw[Rb ht Yn1 (by omega) hl,Zky (by omega) (by omega) (by rw[Lb,if_neg (by omega)];rfl) (by rw[hi3,if_pos h4];rfl)]
 rw[if_neg h4]at ht;by_cases h5:b0.toNat<240
 ·rw[if_pos h5]at ht;rw[Rb ht xt3 (by omega) hl,Zky (by omega) (by omega) (by rw[Lb,if_neg (by omega)];rfl) (by rw[hi3,if_neg (by omega)];rfl)]
 rw[if_neg h5]at ht;by_cases h6:b0.toNat=240
 ·rw[if_pos h6]at ht;rw[Rb ht Yn2 (by omega) hl,Zkz (by omega) (by omega) (by rw[Ld,if_pos h6];rfl) (by rw[hi4,if_neg (by omega)];rfl)]
 rw[if_neg h6]at ht;by_cases h7:b0.toNat<244
 ·rw[if_pos h7]at ht;rw[Rb ht xt4 (by omega) hl,Zkz (by omega) (by omega) (by rw[Ld,if_neg (by omega)];rfl) (by rw[hi4,if_neg (by omega)];rfl)]
 rw[if_neg h7]at ht;by_cases h8:b0.toNat=244
 ·rw[if_pos h8]at ht;rw[Rb ht Yn3 (by omega) hl,Zkz (by omega) (by omega) (by rw[Ld,if_neg (by omega)];rfl) (by rw[hi4,if_pos h8];rfl)]
 ·rw[if_neg h8]at ht;rw[Zuu ht];simp only[dec,if_neg (show ¬b0.toNat<128 by omega),if_neg h1,if_neg h2,if_neg h5,if_neg (show ¬b0.toNat<245 by omega),My]
theorem Zy3 {b0:UInt8}{r:List UInt8}(hl:r.length<4611686018427387904):Zaa (b0::r)=some (My (dec (b0::r))):=by
 have h0:=B2 b0;have e128:y2i (u8 128)=128:=I2 128 (by omega);unfold Zaa;by_cases h:b0.toNat<128
 ·have s1:Vu (b0::r) 0=some (.inr (.inr ((b0.toNat:Int),1))):=by
   unfold Vu;rw[A6 (by simp only[Aj,Kh];omega),Ag,show idx (b0::r) 0=some b0 from rfl,Ab,e128,A6 (by rw[Ce];omega),Ag,Ce];rw[show Ak .i32 (b0.toNat:Int)=(b0.toNat:Int) from He (k:=.i32) (show b0.toNat<2^31 by omega)]
  rw[Im s1,Mj];simp only[dec,if_pos h,My];rfl
 ·have s1:Vu (b0::r) 0=some (.inr (.inl ())):=by
   unfold Vu;rw[A6 (by simp only[Aj,Kh];omega),Ag,show idx (b0::r) 0=some b0 from rfl,Ab,e128,A3 (by rw[Ce];omega),Ae]
  rw[Im s1,A2,Ylq (by omega) hl,Ab]
theorem Yg4 {b:List UInt8}{i:Nat}(hl:b.length<4611686018427387904) (hi:i<b.length):Y5 (b,(i:Int))=some (Dx (dec (b.drop i)) i):=by
 unfold Y5;have hd:b.drop i=b[i]::b.drop (i+1):=Kzb hi;have et:A9 (nOf (Af b)-nOf (i:Int)) (C0 (nOf (i:Int)) b)=b.drop i:=by
  rw[Aj,D9,D9,A9,C0];exact Kob (by rw[Kia];omega)
 have ew:Co (i:Int) (Af b) (Af b)=true:=by
  unfold Co;rw[decide_eq_true_eq,Aj];omega
 simp only;rw[A3 (by omega),Ae,Qn (by rw[Aj];omega),Ae,ew,A4,et];rw[show Q2 (nOf (i:Int)) (b.drop i).length=true by simp only[Q2,Kia,D9,decide_eq_true_eq];omega,A4];rw[hd,Zy3 (by rw[Kia];omega),Ab];cases hx:dec (b[i]::b.drop (i+1)) with
 | none=>rfl
 | some x =>
  obtain⟨n,k⟩:=x;obtain⟨hs,he,k1,k2⟩:=Zg6 hx;have hk:k=(enc n).length:=by rw[he,Kta];omega
  simp only[Da,decide_eq_true_eq]at hs;have en:=(Zo9 (n:=n)).2;have ec:Ak .i64 (n:Int)=(n:Int):=He (k:=.i64) (show n<2^63 by omega);have ea:Ai .i64 (i:Int) (k:Int)=((i+k:Nat):Int):=Wv (by simp only[Kh,Kia]at k2;omega);have er:((n:Int),Ai .i64 (i:Int) (k:Int),true)=Dx (some (n,k)) i:=by
   rw[ea];simp [Dx]
  simp only[My,ec];rw[er];by_cases h5:n=65533
  ·subst h5;have h3:k=3:=by rw[hk];decide +kernel
   rw[show iEq ((65533:Nat):Int) 65533=true from Ww _,Ag,A3 (by omega),Ae]
  ·rw[Ep (by omega),Ae]
theorem Ij {b:List UInt8}{i:Nat}(hi:i<b.length):b.drop i=b[i]::b.drop (i+1):=Kzb hi
theorem Mb (b:UInt8):Ak .i64 (y2i b)=(b.toNat:Int):=He (k:=.i64) (show b.toNat<2^63 by have:=B2 b;omega)
theorem Zt4 (a c:UInt8):Z3 ((a.toNat:Int),(c.toNat:Int))=some (if a.toNat=0xa4/\0xa1<=c.toNat/\c.toNat<=0xf3 then (((0x3041+(c.toNat-0xa1):Nat):Int),true) else if a.toNat=0xa5/\0xa1<=c.toNat/\c.toNat<=0xf6 then (((0x30a1+(c.toNat-0xa1):Nat):Int),true) else (0,false)):=by
 have hc:=B2 c;have e1:161<=c.toNat->Ax .i64 (Ai .i64 12353 (c.toNat:Int)) 161=((0x3041+(c.toNat-0xa1):Nat):Int):=fun h=>by
  rw[C9 (by omega) (by omega),D7 (by omega) (by omega)];omega
 have e2:161<=c.toNat->Ax .i64 (Ai .i64 12449 (c.toNat:Int)) 161=((0x30a1+(c.toNat-0xa1):Nat):Int):=fun h=>by
  rw[C9 (by omega) (by omega),D7 (by omega) (by omega)];omega
 unfold Z3;simp only[Ee,Ab,Wd];by_cases h4:a.toNat=0xa4
 ·rw[show iEq (a.toNat:Int) 164=true by rw[h4];rfl,Ag];by_cases h1:161<=c.toNat/\c.toNat<=243
  ·rw[if_pos (by omega),if_pos ⟨h4,h1⟩,e1 h1.1]
  ·rw[if_neg (by omega),Ep (by omega),Ae,if_neg (fun h=>h1 h.2),if_neg (by omega)]
 ·rw[Ep (by omega),Ae];by_cases h5:a.toNat=0xa5
  ·rw[show iEq (a.toNat:Int) 165=true by rw[h5];rfl,Ag];by_cases h1:161<=c.toNat/\c.toNat<=246
   ·rw[if_pos (show (161:Int)<=(c.toNat:Int)/\(c.toNat:Int)<=246 by omega),if_neg (fun h=>h4 h.1),if_pos ⟨h5,h1⟩,e2 h1.1]
   ·rw[if_neg (show ¬((161:Int)<=(c.toNat:Int)/\(c.toNat:Int)<=246) by omega),if_neg (fun h=>h4 h.1),if_neg (fun h=>h1 h.2)]
  ·rw[Ep (by omega),Ae,if_neg (fun h=>h4 h.1),if_neg (fun h=>h5 h.1)]
theorem Yg6 (a c:UInt8):Zeu ((a.toNat:Int),(c.toNat:Int))=some (if a.toNat=0xa4/\0xa1<=c.toNat/\c.toNat<=0xf3 then (((0x3041+(c.toNat-0xa1):Nat):Int),true) else if a.toNat=0xa5/\0xa1<=c.toNat/\c.toNat<=0xf6 then (((0x30a1+(c.toNat-0xa1):Nat):Int),true) else (0,false)):=Zt4 a c
theorem Zpd (b0 b1:UInt8) (r:List UInt8) (i:Nat) (h:¬b0.toNat<128) (hi:i<4611686018427387904) :
  (bnd (some (if b0.toNat=0xa4/\0xa1<=b1.toNat/\b1.toNat<=0xf3 then (((0x3041+(b1.toNat-0xa1):Nat):Int),true) else if b0.toNat=0xa5/\0xa1<=b1.toNat/\b1.toNat<=0xf6 then (((0x30a1+(b1.toNat-0xa1):Nat):Int),true) else (0,false))) fun z5:Int×Bool=>cnd (Ah z5.2) (some (0,(0,false))) (some (z5.1,((Ai .i64 (i:Int) 2),true))))=some (Dx (Jh (b0::b1::r)) i):=by
 have ea:Ai .i64 (i:Int) 2=((i+2:Nat):Int):=Wv (n:=2) (by omega);simp only[Jh,if_neg h,Ab];split
 ·rw[ea];simp [Dx]
 split
 ·rw[ea];simp [Dx]
 ·rfl
theorem Ykn {b:List UInt8}{i:Nat}(hl:b.length<4611686018427387904) (hi:i<b.length):Z0 (b,(i:Int))=some (Dx (Jh (b.drop i)) i):=by
 unfold Z0;have e0:Ax .i64 (Af b) 1=(b.length:Int)-1:=D7 (by simp only[Aj];omega) (by simp only[Aj];omega);have e128:y2i (u8 128)=128:=I2 128 (by omega);simp only[Ee,Ab];rw[e0,show decide ((0:Int)<=(i:Int)/\(i:Int)<=(b.length:Int)-1)=true by simp only[decide_eq_true_eq];omega,Bd,Ae,B9 hi,Ab,e128];have ea:Ai .i64 (i:Int) 1=((i+1:Nat):Int):=Dg (by omega);by_cases h:b[i].toNat<128
 ·rw[A6 (by rw[Ce];omega),Ag,Ab,Mb,ea,Ij hi];simp only[Jh,if_pos h,Dx];simp
 ·rw[A3 (by rw[Ce];omega),Ae,ea];by_cases h1:i+1<b.length
  ·rw[Qn (by rw[Aj];omega),Ae,Ab,B9 h1,Ab,Mb,Mb,Zt4,Ij hi,Ij h1];exact Zpd _ _ _ _ h (by omega)
  ·rw[Tb (by rw[Aj];omega),Ag,Ij hi,Kge (show b.length<=i+1 by omega)];simp only[Jh,if_neg h,Dx]
theorem Yg0 {b:List UInt8}{i:Nat}(hl:b.length<4611686018427387904) (hi:i<b.length):Y4 (b,(i:Int))=some (Dx (Jh (b.drop i)) i):=by
 unfold Y4;have e127:y2i (u8 127)=127:=I2 127 (by omega);simp only;rw[A3 (by omega),Ae,Qn (by rw[Aj];omega),Ae,B9 hi,Ab,e127];have ea:Ai .i64 (i:Int) 1=((i+1:Nat):Int):=Dg (by omega);by_cases h:b[i].toNat<128
 ·rw[Gv (by rw[Ce];omega),Ag,Ab,Mb,ea,Ij hi];simp only[Jh,if_pos h,Dx];simp
 ·rw[Jl (by rw[Ce];omega),Ae,ea];by_cases h1:i+1<b.length
  ·rw[Ep (by rw[Aj];omega),Ae,Ab,B9 h1,Ab,Mb,Mb,Yg6,Ij hi,Ij h1];exact Zpd _ _ _ _ h (by omega)
  ·rw[show iEq ((i+1:Nat):Int) (Af b)=true by rw[Aj,show i+1=b.length by omega];exact Ww _,Ag,Ij hi,Kge (show b.length<=i+1 by omega)];simp only[Jh,if_neg h,Dx]
def bsR (o:Option Nat):Int×Bool:=match o with
 | some n=>((n:Int),true)
 | none=>(0,false)
theorem Ykz:∀b:Fin 256,Pq (1,(b.val:Int))=some (bsR (Eg 1 b.val)):=by decide +kernel
theorem Yk0:∀b:Fin 256,Pq (2,(b.val:Int))=some (bsR (Eg 2 b.val)):=by decide +kernel
theorem Yk1:∀b:Fin 256,Pq (3,(b.val:Int))=some (bsR (Eg 3 b.val)):=by decide +kernel
theorem Yk2:∀b:Fin 256,Pq (4,(b.val:Int))=some (bsR (Eg 4 b.val)):=by decide +kernel
theorem Yhf:∀b:Fin 256,Ph (1,(b.val:Int))=some (bsR (Eg 1 b.val)):=by decide +kernel
theorem Yhg:∀b:Fin 256,Ph (2,(b.val:Int))=some (bsR (Eg 2 b.val)):=by decide +kernel
theorem Yhh:∀b:Fin 256,Ph (3,(b.val:Int))=some (bsR (Eg 3 b.val)):=by decide +kernel
theorem Yhi:∀b:Fin 256,Ph (4,(b.val:Int))=some (bsR (Eg 4 b.val)):=by decide +kernel
theorem Ykk {cs b:Nat}(h1:1<=cs) (h4:cs<=4) (hb:b<256):Pq ((cs:Int),(b:Int))=some (bsR (Eg cs b)):=by
 rcases (show cs=1\/cs=2\/cs=3\/cs=4 by omega) with rfl|rfl|rfl|rfl
 ·exact Ykz ⟨b,hb⟩
 ·exact Yk0 ⟨b,hb⟩
 ·exact Yk1 ⟨b,hb⟩
 ·exact Yk2 ⟨b,hb⟩
theorem Ygw {cs b:Nat}(h1:1<=cs) (h4:cs<=4) (hb:b<256):Ph ((cs:Int),(b:Int))=some (bsR (Eg cs b)):=by
 rcases (show cs=1\/cs=2\/cs=3\/cs=4 by omega) with rfl|rfl|rfl|rfl
 ·exact Yhf ⟨b,hb⟩
 ·exact Yhg ⟨b,hb⟩
 ·exact Yhh ⟨b,hb⟩
 ·exact Yhi ⟨b,hb⟩
def Got (o:Option (Int×Int×Bool)) (s:Option (Nat×Nat)) (i:Nat):Prop:=match s with
 | some (n,k)=>o=some ((n:Int),((i+k:Nat):Int),true)
 | none=>∃p q,o=some (p,q,false)
theorem Zcb {s:Option (Nat×Nat)}{i:Nat}:Got (some (Dx s i)) s i:=by
 cases s with
 | none=>exact⟨_,_,rfl⟩
 | some x=>simp [Got,Dx]
theorem Yko {cs i:Nat}{b:List UInt8}(hc:cs<=5) (hl:b.length<4611686018427387904) (hi:i<b.length):Got (Z8 ((cs:Int),(b,(i:Int)))) (H1 cs (b.drop i)) i:=by
 unfold Z8 H1;simp only;by_cases h0:cs=0
 ·subst h0;rw[show iEq ((0:Nat):Int) 0=true from rfl,Ag,Ykr hl hi,Ab,if_pos rfl];exact Zcb
 rw[Ep (by omega),Ae,if_neg h0];by_cases h5:cs=5
 ·subst h5;rw[show iEq ((5:Nat):Int) 5=true from rfl,Ag,Ykn hl hi,Ab,if_pos rfl];exact Zcb
 rw[Ep (by omega),Ae,if_neg h5,B9 hi,Ab,Mb,Ykk (by omega) (by omega) (B2 _),Ab,Ij hi];cases hb:Eg cs b[i].toNat with
 | none=>simp only[hb,Krb,Got,bsR];exact⟨_,_,rfl⟩
 | some n=>simp only[hb,Kha,Got,bsR];rw[Dg (by omega)]
theorem Yg1 {cs i:Nat}{b:List UInt8}(hc:cs<=5) (hl:b.length<4611686018427387904) (hi:i<b.length):Got (Zc ((cs:Int),(b,(i:Int)))) (H1 cs (b.drop i)) i:=by
 unfold Zc H1;simp only;by_cases h0:cs=0
 ·subst h0;rw[show iEq ((0:Nat):Int) 0=true from rfl,Ag,Yg4 hl hi,Ab,if_pos rfl];exact Zcb
 rw[Ep (by omega),Ae,if_neg h0];by_cases h5:cs=5
 ·subst h5;rw[show iEq ((5:Nat):Int) 5=true from rfl,Ag,Yg0 hl hi,Ab,if_pos rfl];exact Zcb
 rw[Ep (by omega),Ae,if_neg h5,B9 hi,Ab,Mb,Ygw (by omega) (by omega) (B2 _),Ab,Ij hi];cases hb:Eg cs b[i].toNat with
 | none=>simp only[hb,Krb,Got,bsR];exact⟨_,_,rfl⟩
 | some n=>simp only[hb,Kha,Got,bsR];rw[Dg (by omega)]
def Ip (o:Option (List UInt8)):List UInt8×Bool:=match o with
 | some t=>(t,true)
 | none=>([],false)
theorem Zn6 {cs:Nat}{b:List UInt8}(hc:cs<=5) (hl:b.length<=1048576){step:List UInt8×Int->Option ((List UInt8×Int) ⊕ (List UInt8 ⊕ (List UInt8×Bool)))}
  (hs:∀(out:List UInt8) (i:Nat),i<b.length->out.length<=4*i->(∀n k,H1 cs (b.drop i)=some (n,k)->step (out,(i:Int))=some (.inl (out++enc n,((i+k:Nat):Int))))/\(H1 cs (b.drop i)=none->step (out,(i:Int))=some (.inr (.inr ([],false)))))
  (he:∀out,step (out,(b.length:Int))=some (.inr (.inl out))) :
  Aq (Ar step ([],0)) (fun z=>some (z,true))=some (Ip (Md cs b)):=by
 obtain⟨r,h1,h2⟩:=Yif (step:=step)
  (fun s=>∃(i:Nat) (ns:List Nat),s.2=(i:Int)/\i<=b.length/\s.1=Rf ns/\ns.length<=i/\O4 cs b=(O4 cs (b.drop i)).map (ns++·)) (fun s=>b.length-s.2.toNat)
  (fun r=>Aq (some r) (fun z=>some (z,true))=some (Ip (Md cs b))) (by
   rintro ⟨out,j⟩ ⟨i,ns,rfl,hi,rfl,hn,hp⟩;simp only at hi hn hp ⊢;have ht:=Ymh ns;by_cases hlt:i<b.length
   ·obtain⟨q1,q2⟩:=hs (Rf ns) i hlt (by omega);cases hq:H1 cs (b.drop i) with
    | none =>
     right;refine⟨_,q2 hq, ?_⟩;rw[Mj];have hne:b.drop i≠[]:=by rw[Ij hlt];exact Krf _ _
     rw[Zur hc hne,hq]at hp;simp only[Krb]at hp;simp only[Md,hp,Krb,Ip]
    | some x =>
     obtain⟨n,k⟩:=x;left;obtain⟨_,_,k1,k2⟩:=Yc hc hq;rw[Kia]at k2;refine⟨_,q1 n k hq,⟨i+k,ns++[n],rfl,by omega, ?_, ?_, ?_⟩, ?_⟩
     ·simp [Rf]
     ·simp only[Kab,Kh,Ko];omega
     ·have hne:b.drop i≠[]:=by rw[Ij hlt];exact Krf _ _
      rw[hp,Zur hc hne,hq];simp only[Kvc,Option.map_map];congr 1;funext l;simp
     ·simp only[Kxb];omega
   ·have hie:i=b.length:=by omega
    subst hie;right;refine⟨_,he _, ?_⟩;rw[A2];rw[Khg,Yll]at hp;simp only[Kha,Kv]at hp;simp only[Md,hp,Kha,Ip]) ([],0) ⟨0,[],rfl,Kbb _,rfl,Kd _,by
   rw[Kaa];cases O4 cs b<;>simp⟩
 rw[h1];exact h2
theorem Ykl {cs:Nat}{b:List UInt8}(hc:cs<=5) (hl:b.length<=1048576):Zy ((cs:Int),b)=some (Ip (Md cs b)):=by
 unfold Zy Vh;simp only[Ee,Ab];rw[show decide ((0:Int)<=(cs:Int)/\(cs:Int)<=5)=true by simp only[decide_eq_true_eq];omega,Bd,Ae];refine Zn6 hc hl ?_ ?_
 ·intro out i hi ho;have hg:=Yko hc (by omega) hi;unfold Zfh;simp only;rw[A6 (by rw[Aj];omega),Ag];refine⟨fun n k hq=>?_,fun hq=>?_⟩
  ·rw[hq]at hg;simp only[Got]at hg;obtain⟨hs,_,_,_⟩:=Yc hc hq;rw[hg,Ab];simp only[Bd,Ae];rw[Zt5 (by omega),Ab,show sgn (n:Int)=true by simp [sgn,hs]];simp
  ·rw[hq]at hg;obtain⟨p,q,hg⟩:=hg;rw[hg,Ab];rfl
 ·intro out;unfold Zfh;simp only;rw[A3 (by rw[Aj];exact Kec _),Ae]
theorem Ygx {cs:Nat}{b:List UInt8}(hc:cs<=5) (hl:b.length<=1048576):Y3 ((cs:Int),b)=some (Ip (Md cs b)):=by
 unfold Y3 Y9;simp only[K6,Ab];rw[show decide ((0:Int)<=(cs:Int)/\(cs:Int)<=5)=true by simp only[decide_eq_true_eq];omega,Bd,Ae];refine Zn6 hc hl ?_ ?_
 ·intro out i hi ho;have hg:=Yg1 hc (by omega) hi;unfold Zfa;simp only;rw[A6 (by rw[Aj];omega),Ag];refine⟨fun n k hq=>?_,fun hq=>?_⟩
  ·rw[hq]at hg;simp only[Got]at hg;obtain⟨hs,_,_,_⟩:=Yc hc hq;rw[hg,Ab];simp only[Bd,Ae];rw[Yg7 (by omega),Ab,show sgn (n:Int)=true by simp [sgn,hs]];simp
  ·rw[hq]at hg;obtain⟨p,q,hg⟩:=hg;rw[hg,Ab];rfl
 ·intro out;unfold Zfa;simp only;rw[A3 (by rw[Aj];exact Kec _),Ae]
end
end Go.Vs
