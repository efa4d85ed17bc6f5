import Derived.Test.YtmfmjngkbddenaaGreatDoorVsPt
set_option linter.all false
namespace Go.Vs
noncomputable section
def Cc (n:Nat):Bool:=decide (n<=1114111/\¬(55296<=n/\n<=57343))
def yN (n:Nat):UInt8:=UInt8.ofNat n
theorem D3 {n:Nat}(h:n<256):(yN n).toNat=n:=by simp [yN,UInt8.toNat_ofNat',Kpc h]
theorem Em {b:UInt8}{n:Nat}(h:b.toNat=n):yN n=b:=by subst h;simp [yN]
theorem B1 (b:UInt8):b.toNat<256:=b.toNat_lt
def enc (n:Nat):List UInt8 :=
 if n<128 then [yN n]
 else if n<2048 then [yN (192+n / 64),yN (128+n%64)]
 else if n<65536 then [yN (224+n / 4096),yN (128+n / 64%64),yN (128+n%64)]
 else [yN (240+n / 262144),yN (128+n / 4096%64),yN (128+n / 64%64),yN (128+n%64)]
def C5 (b:UInt8):Bool:=decide (128<=b.toNat/\b.toNat<192)
def Qh (b0:UInt8):List UInt8->Option (Nat×Nat)
 | b1::_=>if C5 b1 then some (b0.toNat%32*64+b1.toNat%64,2) else none
 | _=>none
def M8 (b0:UInt8):Nat:=if b0.toNat=224 then 160 else 128
def hi3 (b0:UInt8):Nat:=if b0.toNat=237 then 159 else 191
def M9 (b0:UInt8):Nat:=if b0.toNat=240 then 144 else 128
def hi4 (b0:UInt8):Nat:=if b0.toNat=244 then 143 else 191
def Mu (b0:UInt8):List UInt8->Option (Nat×Nat)
 | b1::b2::_=>if M8 b0<=b1.toNat/\b1.toNat<=hi3 b0/\C5 b2=true then some (b0.toNat%16*4096+b1.toNat%64*64+b2.toNat%64,3) else none
 | _=>none
def J9 (b0:UInt8):List UInt8->Option (Nat×Nat)
 | b1::b2::b3::_=>if M9 b0<=b1.toNat/\b1.toNat<=hi4 b0/\C5 b2=true/\C5 b3=true then some (b0.toNat%8*262144+b1.toNat%64*4096+b2.toNat%64*64+b3.toNat%64,4) else none
 | _=>none
def dec:List UInt8->Option (Nat×Nat)
 | []=>none
 | b0::r =>
  if b0.toNat<128 then some (b0.toNat,1)
  else if b0.toNat<194 then none
  else if b0.toNat<224 then Qh b0 r
  else if b0.toNat<240 then Mu b0 r
  else if b0.toNat<245 then J9 b0 r
  else none
theorem Zfj {l:List UInt8}{n k:Nat}(h:dec l=some (n,k)):Cc n=true/\enc n=l.take k/\1<=k/\k<=l.length:=by
 match l,h with
 | [],h=>simp [dec]at h
 | b0::r,h =>
 have h0:=B1 b0;simp only[dec]at h;split at h
 ·simp only[Ka,Kb]at h;obtain⟨rfl,rfl⟩:=h;refine⟨by simp [Cc];omega, ?_,Kc _,by simp⟩;rename_i hb;rw[enc,if_pos hb,Em rfl];rfl
 split at h
 ·cases h
 split at h
 ·match r,h with
  | [],h=>simp [Qh]at h
  | b1::r,h =>
  have h1:=B1 b1;simp only[Qh]at h;split at h
  ·rename_i hc;simp only[C5,decide_eq_true_eq]at hc;simp only[Ka,Kb]at h;obtain⟨rfl,rfl⟩:=h;refine⟨by simp only[Cc,decide_eq_true_eq];omega, ?_,by omega,by simp⟩;rw[enc,if_neg (by omega),if_pos (by omega),Em (b:=b0) (by omega),Em (b:=b1) (by omega)];rfl
  cases h
 split at h
 ·match r,h with
  | [],h=>simp [Mu]at h
  | [_],h=>simp [Mu]at h
  | b1::b2::r,h =>
  have h1:=B1 b1;have h2:=B1 b2;simp only[Mu]at h;split at h
  ·rename_i hc;simp only[C5,decide_eq_true_eq,M8,hi3]at hc;obtain⟨c1,c2,c3⟩:=hc;simp only[Ka,Kb]at h;obtain⟨rfl,rfl⟩:=h;split at c1<;>split at c2 <;>
   ·refine⟨by simp only[Cc,decide_eq_true_eq];omega, ?_,by omega,by simp⟩;rw[enc,if_neg (by omega),if_neg (by omega),if_pos (by omega),Em (b:=b0) (by omega),Em (b:=b1) (by omega),Em (b:=b2) (by omega)];rfl
  cases h
 split at h
 ·match r,h with
  | [],h=>simp [J9]at h
  | [_],h=>simp [J9]at h
  | [_,_],h=>simp [J9]at h
  | b1::b2::b3::r,h =>
  have h1:=B1 b1;have h2:=B1 b2;have h3:=B1 b3;simp only[J9]at h;split at h
  ·rename_i hc;simp only[C5,decide_eq_true_eq,M9,hi4]at hc;obtain⟨c1,c2,c3,c4⟩:=hc;simp only[Ka,Kb]at h;obtain⟨rfl,rfl⟩:=h;split at c1<;>split at c2 <;>
   ·refine⟨by simp only[Cc,decide_eq_true_eq];omega, ?_,by omega,by simp⟩;rw[enc,if_neg (by omega),if_neg (by omega),if_neg (by omega),Em (b:=b0) (by omega),Em (b:=b1) (by omega),Em (b:=b2) (by omega),Em (b:=b3) (by omega)];rfl
  cases h
 cases h
theorem Ztu {n:Nat}(h:Cc n=true) (r:List UInt8):dec (enc n++r)=some (n,(enc n).length):=by
 simp only[Cc,decide_eq_true_eq]at h;unfold enc;split
 ·have e:=D3 (n:=n) (by omega);simp only[Kn,Km,dec,e];rw[if_pos (by omega)];rfl
 split
 ·have e0:=D3 (n:=192+n / 64) (by omega);have e1:=D3 (n:=128+n%64) (by omega);simp only[Kn,Km,dec,e0];rw[if_neg (by omega),if_neg (by omega),if_pos (by omega)];simp only[Qh,C5,e0,e1];rw[if_pos (by simp only[decide_eq_true_eq];omega)];simp only[Kf,Ki];congr 2;omega
 split
 ·have e0:=D3 (n:=224+n / 4096) (by omega);have e1:=D3 (n:=128+n / 64%64) (by omega);have e2:=D3 (n:=128+n%64) (by omega);simp only[Kn,Km,dec,e0];rw[if_neg (by omega),if_neg (by omega),if_neg (by omega),if_pos (by omega)];simp only[Mu,C5,e0,e1,e2,M8,hi3,decide_eq_true_eq];rw[if_pos (by refine⟨?_, ?_,by omega⟩<;>split<;>omega)]
  simp only[Kf,Ki];congr 2;omega
 have e0:=D3 (n:=240+n / 262144) (by omega);have e1:=D3 (n:=128+n / 4096%64) (by omega);have e2:=D3 (n:=128+n / 64%64) (by omega);have e3:=D3 (n:=128+n%64) (by omega);simp only[Kn,Km,dec,e0];rw[if_neg (by omega),if_neg (by omega),if_neg (by omega),if_neg (by omega),if_pos (by omega)];simp only[J9,C5,e0,e1,e2,e3,M9,hi4,decide_eq_true_eq];rw[if_pos (by refine⟨?_, ?_,by omega⟩<;>split<;>omega)]
 simp only[Kf,Ki];congr 2;omega
theorem Zl3 {n:Nat}:1<=(enc n).length/\(enc n).length<=4:=by
 unfold enc;split
 ·simp
 split
 ·simp
 split<;>simp
theorem Zcj {k:IntKind}{n:Nat}(h:n<2^(k.bits-1)):k.wrap (n:Int)=(n:Int):=by
 have hp:(2:Nat)^(k.bits-1)<=2^k.bits:=Nat.pow_le_pow_right (by decide) (by omega);have e1:((2:Int)^(k.bits-1))=((2^(k.bits-1):Nat):Int):=by simp
 have e2:((2:Int)^k.bits)=((2^k.bits:Nat):Int):=by simp
 have e3:((n:Int)%((2^k.bits:Nat):Int))=(n:Int):=Kug (by omega) (by omega);simp only[IntKind.wrap,e1,e2,e3];rw[if_neg];simp only[Kd,decide_eq_true_eq];omega
theorem wrap_u8 {n:Nat}(h:n<256):IntKind.u8.wrap (n:Int)=(n:Int):=by
 have e1:IntKind.u8.bits=8:=rfl;have e2:IntKind.u8.signed=false:=rfl;simp only[IntKind.wrap,e1,e2,Knd,Kka,if_false];exact Kug (by omega) (by simp;omega)
theorem Nf {m a:Nat}(h:a<2^m):(BitVec.ofInt m (a:Int)).toNat=a:=by
 rw[Zoo,BitVec.toNat_ofNat,Kpc h]
section
variable {k:IntKind} {a b:Nat}
theorem Wl (h:a<2^(k.bits-1)):a<2^k.bits:=Kz h (Nat.pow_le_pow_right (by decide) (by omega))
theorem Om (ha:a<2^(k.bits-1)) (hb:b<2^(k.bits-1)):Aq k (a:Int) (b:Int)=((a&&&b:Nat):Int):=by
 unfold Aq;rw[BitVec.toNat_and,Nf (Wl ha),Nf (Wl hb)];exact Zcj (Kyf Nat.and_le_left ha)
theorem Zwp (ha:a<2^(k.bits-1)) (hb:b<2^(k.bits-1)):iOr k (a:Int) (b:Int)=((a ||| b:Nat):Int):=by
 unfold iOr;rw[BitVec.toNat_or,Nf (Wl ha),Nf (Wl hb)];exact Zcj (Nat.or_lt_two_pow ha hb)
theorem Z8 (ha:a<2^(k.bits-1)) (hb:b<2^(k.bits-1)):K6 k (a:Int) (b:Int)=((a ^^^ b:Nat):Int):=by
 unfold K6;rw[BitVec.toNat_xor,Nf (Wl ha),Nf (Wl hb)];exact Zcj (Nat.xor_lt_two_pow ha hb)
theorem Z7 {s:Nat}(hs:s<=k.bits) (h:a*2^s<2^(k.bits-1)):B9 k (a:Int) (s:Int)=((a*2^s:Nat):Int):=by
 unfold B9;rw[Knb,Kod hs];rw[show (a:Int)*2^s=((a*2^s:Nat):Int) by simp];exact Zcj h
theorem Zwr {s:Nat}(hs:s<=k.bits):Bi k (a:Int) (s:Int)=((a / 2^s:Nat):Int):=by
 unfold Bi;rw[Knb,Kod hs,Kng _ (Int.pow_nonneg (by decide))];simp
theorem Iy (h:a<2^(k.bits-1)):Ai k (a:Int)=(a:Int):=Zcj h
end
theorem Zwm {a b:Nat}(ha:a<256) (hb:b<256):Aq .u8 (a:Int) (b:Int)=((a&&&b:Nat):Int):=by
 unfold Aq;rw[BitVec.toNat_and,Nf (m:=IntKind.u8.bits) ha,Nf (m:=IntKind.u8.bits) hb];exact wrap_u8 (Kyf Nat.and_le_left ha)
theorem Yo4 {a b:Nat}(ha:a<256) (hb:b<256):iOr .u8 (a:Int) (b:Int)=((a ||| b:Nat):Int):=by
 unfold iOr;rw[BitVec.toNat_or,Nf (m:=IntKind.u8.bits) ha,Nf (m:=IntKind.u8.bits) hb];exact wrap_u8 (Nat.or_lt_two_pow (n:=8) ha hb)
theorem Zre (n:Nat):u8 (n:Int)=yN n:=rfl
theorem Cp (b:UInt8):y2i b=(b.toNat:Int):=rfl
theorem Mr {a j m:Nat}(hm:m=2^j-1):a&&&m=a%2^j:=by rw[hm,Kah]
theorem Zou {a b j:Nat}(hb:b<2^j):a*2^j ||| b=a*2^j+b:=by
 have:=Nat.shiftLeft_add_eq_or_of_lt hb a;rw[Nat.shiftLeft_eq]at this;exact this.symm
def Zxh:List Nat:=[0x44e,0x430,0x431,0x446,0x434,0x435,0x444,0x433,0x445,0x438,0x439,0x43a,0x43b,0x43c,0x43d,0x43e,0x43f,0x44f,0x440,0x441,0x442,0x443,0x436,0x432,0x44c,0x44b,0x437,0x448,0x44d,0x449,0x447,0x44a]
def Yxt:List Nat:=[0x20ac,0,0x201a,0x192,0x201e,0x2026,0x2020,0x2021,0x2c6,0x2030,0x160,0x2039,0x152,0,0x17d,0,0,0x2018,0x2019,0x201c,0x201d,0x2022,0x2013,0x2014,0x2dc,0x2122,0x161,0x203a,0x153,0,0x17e,0x178]
def Qv (cs b:Nat):Nat :=
 if cs=2 then (if b=0xa4 then 0x20ac else if b=0xa6 then 0x160 else if b=0xa8 then 0x161 else if b=0xb4 then 0x17d else if b=0xb8 then 0x17e else if b=0xbc then 0x152 else if b=0xbd then 0x153 else if b=0xbe then 0x178 else b)
 else if cs=3 then (if 0xe0<=b then Zxh.getD (b-0xe0) 0-0x20 else if 0xc0<=b then Zxh.getD (b-0xc0) 0 else if b=0xa3 then 0x451 else if b=0xb3 then 0x401 else 0)
 else if cs=4 then (if 0xa0<=b then b else Yxt.getD (b-0x80) 0)
 else b
def C7 (cs b:Nat):Option Nat :=
 if b<128 then some b else if Qv cs b=0 then none else some (Qv cs b)
def Ph (cs n:Nat):Nat->Nat->Option Nat
 | 0,_=>none
 | k+1,b=>if C7 cs b=some n then some b else Ph cs n k (b+1)
def Xb (cs n:Nat):Option Nat:=Ph cs n 256 0
theorem Ybp {cs n:Nat}:∀{k b x:Nat},Ph cs n k b=some x->C7 cs x=some n/\b<=x/\x<b+k
 | 0,_,_,h=>by simp [Ph]at h
 | k+1,b,x,h=>by
  simp only[Ph]at h;split at h
  ·rename_i hb;simp only[Ka]at h;subst h;exact⟨hb,by omega,by omega⟩
  obtain⟨h1,h2,h3⟩:=Ybp h;exact⟨h1,by omega,by omega⟩
theorem Ybo {cs n:Nat}:∀{k b x:Nat},b<=x->x<b+k->C7 cs x=some n->(∀y,b<=y->y<x->C7 cs y≠some n)->Ph cs n k b=some x
 | 0,_,_,h1,h2,_,_=>by omega
 | k+1,b,x,h1,h2,h3,h4=>by
  simp only[Ph];by_cases hx:b=x
  ·subst hx;rw[if_pos h3]
  rw[if_neg (h4 b (Kc _) (by omega))];exact Ybo (by omega) (by omega) h3 fun y hy=>h4 y (by omega)
def O5:List Nat->Bool
 | []=>true
 | x::l=>(Nat.beq x 0||!l.any (Nat.beq x))&&O5 l
theorem Zyp:∀{l:List Nat}{i j x:Nat},O5 l=true->l[i]? = some x->l[j]? = some x->x≠0->i=j
 | [],i,j,x,_,h,_,_=>by simp at h
 | y::l,i,j,x,h,h1,h2,h0=>by
  simp only[O5,Kd,Kmb,Kzb]at h;obtain⟨ha,hb⟩:=h;have out:y=x->∀k:Nat,l[k]?≠some x:=by
   rintro rfl k hk;rcases ha with ha|ha
   ·exact h0 (Kq ha)
   have:l.any (Nat.beq y)=true:=Kpe.2 ⟨y,Kaa hk,Nat.beq_refl y⟩;rw[this]at ha;cases ha
  cases i with
  | zero =>
   simp only[Kv,Ka]at h1;cases j with
   | zero=>rfl
   | succ j=>exact (out h1 j (by simpa using h2)).elim
  | succ i =>
   cases j with
   | zero =>
    simp only[Kv,Ka]at h2;exact (out h2 i (by simpa using h1)).elim
   | succ j=>exact congrArg Nat.succ (Zyp hb (by simpa using h1) (by simpa using h2) h0)
def Ix (cs:Nat):List Nat:=(List.range 128).map fun i=>Qv cs (i+128)
theorem Yos:(O5 (Ix 1)&&(Ix 1).all fun x=>Nat.beq x 0||Nat.ble 128 x&&Cc x)=true:=by decide +kernel
theorem Yot:(O5 (Ix 2)&&(Ix 2).all fun x=>Nat.beq x 0||Nat.ble 128 x&&Cc x)=true:=by decide +kernel
theorem You:(O5 (Ix 3)&&(Ix 3).all fun x=>Nat.beq x 0||Nat.ble 128 x&&Cc x)=true:=by decide +kernel
theorem Yov:(O5 (Ix 4)&&(Ix 4).all fun x=>Nat.beq x 0||Nat.ble 128 x&&Cc x)=true:=by decide +kernel
theorem Zwd {cs:Nat}(h1:1<=cs) (h4:cs<=4):O5 (Ix cs)=true/\∀b,128<=b->b<256->(Ix cs)[b-128]? = some (Qv cs b)/\(Qv cs b=0\/(128<=Qv cs b/\Cc (Qv cs b)=true)):=by
 have key:(O5 (Ix cs)&&(Ix cs).all fun x=>Nat.beq x 0||Nat.ble 128 x&&Cc x)=true:=by
  rcases (show cs=1\/cs=2\/cs=3\/cs=4 by omega) with rfl|rfl|rfl|rfl
  ·exact Yos
  ·exact Yot
  ·exact You
  exact Yov
 simp only[Kd]at key;refine⟨key.1,fun b h5 h6=>?_⟩;have e:(Ix cs)[b-128]? = some (Qv cs b):=by
  simp only[Ix,Kba,Kpd (show b-128<128 by omega),Kha];rw[show b-128+128=b by omega]
 refine⟨e, ?_⟩;have:=Kna.1 key.2 _ (Kaa e);simp only[Kmb,Kd]at this;rcases this with h|h
 ·exact .inl (Kq h)
 exact .inr ⟨Kea h.1,h.2⟩
theorem Yfd {cs b c n:Nat}(h1:1<=cs) (h4:cs<=4) (hb:b<256) (hc:c<256) (h:C7 cs b=some n) (k:C7 cs c=some n):b=c:=by
 obtain⟨t1,t2⟩:=Zwd h1 h4;unfold C7 at h k;split at h
 ·simp only[Ka]at h;split at k
  ·simp only[Ka]at k;omega
  split at k
  ·cases k
  simp only[Ka]at k;rcases (t2 c (by omega) hc).2 with q|q<;>omega
 split at h
 ·cases h
 simp only[Ka]at h;split at k
 ·simp only[Ka]at k;rcases (t2 b (by omega) hb).2 with q|q<;>omega
 split at k
 ·cases k
 simp only[Ka]at k;have e1:=(t2 b (by omega) hb).1;have e2:=(t2 c (by omega) hc).1;have hn:n≠0:=by omega
 rw[h]at e1;rw[k]at e2;have:=Zyp t1 e1 e2 hn;omega
theorem Ybn {cs b n:Nat}(h1:1<=cs) (h4:cs<=4) (hb:b<256) (h:C7 cs b=some n):Xb cs n=some b :=
 Ybo (Kda _) (by omega) h fun y _ hy k=>by have:=Yfd h1 h4 (by omega) hb k h;omega
theorem Yr8 {cs b n:Nat}(h:Xb cs n=some b):C7 cs b=some n/\b<256:=by
 obtain⟨a,_,c⟩:=Ybp h;exact⟨a,by omega⟩
theorem Zso {cs b n:Nat}(h1:1<=cs) (h4:cs<=4) (hb:b<256) (h:C7 cs b=some n):Cc n=true:=by
 unfold C7 at h;split at h
 ·simp only[Ka]at h;simp only[Cc,decide_eq_true_eq];omega
 split at h
 ·cases h
 simp only[Ka]at h;rcases ((Zwd h1 h4).2 b (by omega) hb).2 with q|q
 ·omega
 rw[<-h];exact q.2
def Hg:List UInt8->Option (Nat×Nat)
 | []=>none
 | b0::r=>if b0.toNat<128 then some (b0.toNat,1) else match r with
  | []=>none
  | b1::_=>if b0.toNat=0xa4/\0xa1<=b1.toNat/\b1.toNat<=0xf3 then some (0x3041+(b1.toNat-0xa1),2)
   else if b0.toNat=0xa5/\0xa1<=b1.toNat/\b1.toNat<=0xf6 then some (0x30a1+(b1.toNat-0xa1),2) else none
theorem Yji {x y:UInt8}{r:List UInt8}(hx:x.toNat=0xa4) (hy:0xa1<=y.toNat/\y.toNat<=0xf3):Hg (x::y::r)=some (0x3041+(y.toNat-0xa1),2):=by
 simp only[Hg];rw[if_neg (by omega),if_pos ⟨hx,hy⟩]
theorem Yjj {x y:UInt8}{r:List UInt8}(hx:x.toNat=0xa5) (hy:0xa1<=y.toNat/\y.toNat<=0xf6):Hg (x::y::r)=some (0x30a1+(y.toNat-0xa1),2):=by
 simp only[Hg];rw[if_neg (by omega),if_neg (by omega),if_pos ⟨hx,hy⟩]
def Oe (n:Nat):Option (List UInt8) :=
 if n<128 then some [yN n]
 else if 0x3041<=n/\n<=0x3093 then some [yN 0xa4,yN (n-0x3041+0xa1)]
 else if 0x30a1<=n/\n<=0x30f6 then some [yN 0xa5,yN (n-0x30a1+0xa1)]
 else none
def G9 (cs:Nat) (l:List UInt8):Option (Nat×Nat) :=
 if cs=0 then dec l else if cs=5 then Hg l else match l with
  | []=>none
  | b::_=>(C7 cs b.toNat).map fun n=>(n,1)
def E2 (cs n:Nat):Option (List UInt8) :=
 if cs=0 then (if Cc n then some (enc n) else none) else if cs=5 then Oe n else (Xb cs n).map fun b=>[yN b]
theorem Xc {cs:Nat}{l:List UInt8}{n k:Nat}(hc:cs<=5) (h:G9 cs l=some (n,k)):Cc n=true/\E2 cs n=some (l.take k)/\1<=k/\k<=l.length:=by
 unfold G9 at h;unfold E2;split at h
 ·rename_i h0;obtain⟨a,b,c,d⟩:=Zfj h;rw[if_pos h0,if_pos a,b];exact⟨a,rfl,c,d⟩
 split at h
 ·rename_i h0 h5;rw[if_neg h0,if_pos h5]
  match l,h with
  | [],h=>simp [Hg]at h
  | b0::r,h =>
  have hb0:=B1 b0;simp only[Hg]at h;split at h
  ·rename_i hb;simp only[Ka,Kb]at h;obtain⟨rfl,rfl⟩:=h;refine⟨by simp only[Cc,decide_eq_true_eq];omega, ?_,Kc _,by simp⟩;rw[Oe,if_pos hb,Em rfl];rfl
  match r,h with
  | [],h=>simp at h
  | b1::r,h =>
  have hb1:=B1 b1;simp only at h;split at h
  ·rename_i hb;simp only[Ka,Kb]at h;obtain⟨rfl,rfl⟩:=h;refine⟨by simp only[Cc,decide_eq_true_eq];omega, ?_,by omega,by simp⟩;rw[Oe,if_neg (by omega),if_pos (by omega),Em (b:=b0) (by omega),Em (b:=b1) (by omega)];rfl
  split at h
  ·rename_i hb;simp only[Ka,Kb]at h;obtain⟨rfl,rfl⟩:=h;refine⟨by simp only[Cc,decide_eq_true_eq];omega, ?_,by omega,by simp⟩;rw[Oe,if_neg (by omega),if_neg (by omega),if_pos (by omega),Em (b:=b0) (by omega),Em (b:=b1) (by omega)];rfl
  cases h
 rename_i h0 h5;rw[if_neg h0,if_neg h5]
 match l,h with
 | [],h=>simp at h
 | b::r,h =>
 simp only[Ks,Kb]at h;obtain⟨m,hm,rfl,rfl⟩:=h;refine⟨Zso (by omega) (by omega) (B1 b) hm, ?_,Kc _,by simp⟩;rw[Ybn (by omega) (by omega) (B1 b) hm,Kha,Em rfl];rfl
theorem Zpc {cs n:Nat}{b:List UInt8}(hc:cs<=5) (h:E2 cs n=some b) (r:List UInt8):G9 cs (b++r)=some (n,b.length)/\1<=b.length/\b.length<=4:=by
 unfold E2 at h;unfold G9;split at h
 ·rename_i h0;rw[if_pos h0];split at h
  ·rename_i hs;simp only[Ka]at h;subst h;exact⟨Ztu hs r,Zl3⟩
  cases h
 split at h
 ·rename_i h0 h5;rw[if_neg h0,if_pos h5];unfold Oe at h;split at h
  ·rename_i hn;simp only[Ka]at h;subst h;simp only[Kn,Km,Hg,D3 (n:=n) (by omega)];rw[if_pos hn];simp
  split at h
  ·rename_i hn;simp only[Ka]at h;subst h;have e0:=D3 (n:=0xa4) (by omega);have e1:=D3 (n:=n-0x3041+0xa1) (by omega);rw[Kn,Kn,Km,Yji e0 (by rw[e1];omega),e1,show 0x3041+(n-0x3041+0xa1-0xa1)=n by omega];exact⟨rfl,by simp,by simp⟩
  split at h
  ·rename_i hn;simp only[Ka]at h;subst h;have e0:=D3 (n:=0xa5) (by omega);have e1:=D3 (n:=n-0x30a1+0xa1) (by omega);rw[Kn,Kn,Km,Yjj e0 (by rw[e1];omega),e1,show 0x30a1+(n-0x30a1+0xa1-0xa1)=n by omega];exact⟨rfl,by simp,by simp⟩
  cases h
 rename_i h0 h5;rw[if_neg h0,if_neg h5];simp only[Ks]at h;obtain⟨x,hx,rfl⟩:=h;obtain⟨hb,hlt⟩:=Yr8 hx;simp only[Kn,Km,D3 hlt,hb,Kha];exact⟨rfl,by simp,by simp⟩
def Xd (cs:Nat):Nat->List UInt8->Option (List Nat)
 | _,[]=>some []
 | 0,_::_=>none
 | k+1,l=>match G9 cs l with
  | none=>none
  | some (n,j)=>(Xd cs k (l.drop j)).map (n::·)
def Ha (cs:Nat) (l:List UInt8):Option (List Nat):=Xd cs l.length l
def E5 (ns:List Nat):List UInt8:=ns.flatMap enc
def El (cs:Nat):List Nat->Option (List UInt8)
 | []=>some []
 | n::ns=>match E2 cs n,El cs ns with
  | some b,some r=>some (b++r)
  | _,_=>none
theorem Ybr {cs:Nat}(hc:cs<=5):∀(k j:Nat) (l:List UInt8),l.length<=k->l.length<=j->Xd cs k l=Xd cs j l
 | 0,0,_,_,_=>rfl
 | k,j,[],_,_=>by cases k<;>cases j<;>rfl
 | 0,_+1,_::_,h,_=>by simp at h
 | _+1,0,_::_,_,h=>by simp at h
 | k+1,j+1,b::r,h1,h2=>by
  simp only[Xd];cases hs:G9 cs (b::r) with
  | none=>rfl
  | some x =>
   obtain⟨n,i⟩:=x;obtain⟨_,_,hi,_⟩:=Xc hc hs;simp only;rw[Ybr hc k j _ (by simp only[Kma,Kf]at *;omega) (by simp only[Kma,Kf]at *;omega)]
theorem Zp9 (cs:Nat):Ha cs []=some []:=rfl
theorem Zbs {cs:Nat}(hc:cs<=5){l:List UInt8}(hl:l≠[]):Ha cs l=match G9 cs l with
  | none=>none
  | some (n,j)=>(Ha cs (l.drop j)).map (n::·):=by
 match l,hl with
 | b::r,_ =>
 unfold Ha;simp only[Kf,Xd];cases hs:G9 cs (b::r) with
 | none=>rfl
 | some x =>
  obtain⟨n,i⟩:=x;obtain⟨_,_,hi,_⟩:=Xc hc hs;simp only;rw[Ybr hc r.length ((b::r).drop i).length _ (by simp only[Kma,Kf];omega) (Kc _)]
theorem Zhc {cs:Nat}(hc:cs<=5):∀(k:Nat){l:List UInt8}{ns:List Nat},l.length<=k->Ha cs l=some ns->El cs ns=some l/\∀n∈ns,Cc n=true
 | k,[],ns,_,h=>by
  simp only[Zp9,Ka]at h;subst h;exact⟨rfl,by simp⟩
 | 0,b::r,ns,hk,h=>by simp at hk
 | k+1,b::r,ns,hk,h=>by
  rw[Zbs hc (by simp)]at h;cases hs:G9 cs (b::r) with
  | none=>rw[hs]at h;simp at h
  | some x =>
   obtain⟨n,j⟩:=x;obtain⟨h1,h2,h3,h4⟩:=Xc hc hs;rw[hs]at h;simp only[Ks]at h;obtain⟨ms,hms,rfl⟩:=h;obtain⟨h5,h6⟩:=Zhc hc k (by simp only[Kma,Kf]at *;omega) hms;refine⟨?_, ?_⟩
   ·simp only[El,h2,h5,Knc]
   intro m hm;rcases Kh.1 hm with rfl|hm
   ·exact h1
   exact h6 m hm
theorem Zqa {cs:Nat}(hc:cs<=5):∀{ns:List Nat}{l:List UInt8},El cs ns=some l->Ha cs l=some ns
 | [],l,h=>by simp only[El,Ka]at h;subst h;rfl
 | n::ns,l,h=>by
  simp only[El]at h;cases h1:E2 cs n with
  | none=>rw[h1]at h;simp at h
  | some b =>
   cases h2:El cs ns with
   | none=>rw[h1,h2]at h;simp at h
   | some r =>
    rw[h1,h2]at h;simp only[Ka]at h;subst h;obtain⟨h3,h4,h5⟩:=Zpc hc h1 r;have hne:b++r≠[]:=by cases b with
     | nil=>simp at h4
     | cons x y=>simp
    rw[Zbs hc hne,h3];simp only[Kge];rw[Zqa hc h2];rfl
theorem Zo9:∀{ns:List Nat},(∀n∈ns,Cc n=true)->El 0 ns=some (E5 ns)
 | [],_=>rfl
 | n::ns,h=>by
  have h1:E2 0 n=some (enc n):=by unfold E2;rw[if_pos rfl,if_pos (h n (by simp))]
  simp only[El,h1,Zo9 fun m hm=>h m (Kj _ hm),E5,Kxa]
theorem Zpa {cs:Nat}(hc:cs<=5):∀{ns:List Nat}{l:List UInt8},El cs ns=some l->ns.length<=l.length
 | [],l,h=>by simp
 | n::ns,l,h=>by
  simp only[El]at h;cases h1:E2 cs n with
  | none=>rw[h1]at h;simp at h
  | some b =>
   cases h2:El cs ns with
   | none=>rw[h1,h2]at h;simp at h
   | some r =>
    rw[h1,h2]at h;simp only[Ka]at h;subst h;obtain⟨_,h4,_⟩:=Zpc hc h1 r;have:=Zpa hc h2;simp only[Kf,Kt];omega
theorem Zbz (ns:List Nat):(E5 ns).length<=4*ns.length:=by
 induction ns with
 | nil=>simp [E5]
 | cons n ns ih =>
  have:=(Zl3 (n:=n)).2;simp only[E5,Kxa,Kt,Kf]at *
  omega
def K0 (cs:Nat) (b:List UInt8):Option (List UInt8):=(Ha cs b).map E5
def Zv (cs:Nat) (t:List UInt8):Option (List UInt8):=(Ha 0 t).bind (El cs)
theorem Yf7 {cs:Nat}(hc:cs<=5){b t:List UInt8}(h:Zv cs t=some b):K0 cs b=some t:=by
 simp only[Zv,Kg]at h;obtain⟨ns,h1,h2⟩:=h;obtain⟨h3,h4⟩:=Zhc (cs:=0) (by omega) _ (Kc _) h1;rw[Zo9 h4]at h3;simp only[Ka]at h3;simp only[K0,Zqa hc h2,Kha,h3]
theorem Zx0 {σ ρ:Type}{step:σ->Option (σ ⊕ ρ)}(inv:σ->Prop) (m:σ->Nat) (Q:ρ->Prop) (hs:∀s,inv s->(∃s',step s=some (.inl s')/\inv s'/\m s'<m s)\/∃r,step s=some (.inr r)/\Q r) (s0:σ) (h0:inv s0):∃r,Aw step s0=some r/\Q r:=by
 have key:∀k s,m s<=k->inv s->∃r,Aw step s=some r/\Q r:=by
  intro k
  induction k with
  | zero =>
   intro s hk h;rcases hs s h with ⟨s',h1,h2,h3⟩|⟨r,h1,h2⟩
   ·omega
   exact⟨r,by rw[M6,h1],h2⟩
  | succ k ih =>
   intro s hk h;rcases hs s h with ⟨s',h1,h2,h3⟩|⟨r,h1,h2⟩
   ·obtain⟨r,h4,h5⟩:=ih s' (by omega) h2;exact⟨r,by rw[M6,h1];exact h4,h5⟩
   exact⟨r,by rw[M6,h1],h2⟩
 exact key (m s0) s0 (Kc _) h0
theorem Zj {β:Type}{p:Prop} [Decidable p] (x y:Option β):cnd (decide p) x y=if p then x else y:=by
 by_cases h:p<;>simp [h]
theorem Ztd {β:Type}{b:Bool}(x y:Option β):cnd b x y=if b=true then x else y:=by cases b<;>rfl
theorem E4 (x l h:Int):B8 (x,(l,h))=some (decide (l<=x/\x<=h)):=by
 unfold B8;simp only[iGe,iLe,Zj];split
 ·rename_i h1;have:l<=x:=h1;simp [this]
 rename_i h1;have:¬l<=x:=h1;simp [this]
theorem G1 (x l h:Int):Cq (x,(l,h))=some (decide (l<=x/\x<=h)):=E4 x l h
def sgn (x:Int):Bool:=decide (0<=x)&&Cc x.toNat
theorem Zh0 (x:Int):R6 x=some (sgn x):=by
 unfold R6;simp only[E4,Aa,Zj];split
 ·simp only[sgn,Cc,Ag];congr 1;rw[Kdc];simp only[Kzb,decide_eq_false_iff_not,Kd,decide_eq_true_eq];omega
 simp only[sgn,Cc];congr 1;rw[Kdc];simp only[Kd,decide_eq_true_eq,Kka,false_iff];omega
theorem Ypp (x:Int):Zi7 x=some (sgn x):=Zh0 x
theorem Fm (n:Nat):u8 (Ai .u8 (n:Int))=yN n:=by
 have e1:IntKind.u8.bits=8:=rfl;have e2:IntKind.u8.signed=false:=rfl;simp only[u8,Ai,IntKind.wrap,e1,e2,Knd,Kka,if_false,yN];rw[show ((n:Int)%2^8)=((n%256:Nat):Int) by simp,Knb];apply UInt8.toNat_inj.1;simp [UInt8.toNat_ofNat']
theorem orc {c q j b:Nat}(hc:c=q*2^j) (hb:b<2^j) (h1:c<2^63) (h2:b<2^63):iOr .i64 (c:Int) (b:Int)=((c+b:Nat):Int):=by
 rw[Zwp (k:=.i64) h1 h2,hc,Zou hb]
theorem Zyz {c q j b:Nat}(hc:c=q*2^j) (hb:b<2^j) (h1:c<256) (h2:b<256):iOr .u8 (c:Int) (b:Int)=((c+b:Nat):Int):=by
 rw[Yo4 h1 h2,hc,Zou hb]
theorem Zj7 {n:Nat}(h:n<2^63):Aq .i64 (n:Int) 63=((n%64:Nat):Int):=by
 have:=Om (k:=.i64) (a:=n) (b:=63) h (by decide);rw[Mr (j:=6) (by decide)]at this;exact this
theorem Zbr {n s:Nat}(hs:s<=64):Bi .i64 (n:Int) (s:Int)=((n / 2^s:Nat):Int):=Zwr (k:=.i64) hs
theorem Zp8 {n s:Nat}(hs:s<=32):Bi .i32 (n:Int) (s:Int)=((n / 2^s:Nat):Int):=Zwr (k:=.i32) hs
theorem Zhz {b:List UInt8}{x:Int}(hb:b.length+4<=140737488355328):Ny (b,x)=some (b++if sgn x then enc x.toNat else []):=by
 unfold Ny;simp only[Al,Km,Zh0,Aa];rw[Bj (by omega),Az];cases hs:sgn x with
 | false=>simp
 | true =>
  simp only[Av,Ac];simp only[sgn,Kd,decide_eq_true_eq]at hs;obtain⟨h0,hs⟩:=hs;obtain⟨n,rfl⟩:=Kob h0;simp only[Knb,Cc,decide_eq_true_eq]at hs ⊢;have e6:Bi .i64 (n:Int) 6=((n / 64:Nat):Int):=Zbr (s:=6) (by omega);have e12:Bi .i64 (n:Int) 12=((n / 4096:Nat):Int):=Zbr (s:=12) (by omega);have e18:Bi .i64 (n:Int) 18=((n / 262144:Nat):Int):=Zbr (s:=18) (by omega);have l1:iOr .i64 128 (Aq .i64 (n:Int) 63)=((128+n%64:Nat):Int):=by
   rw[Zj7 (by omega)];exact orc (c:=128) (q:=2) (j:=6) (by decide) (by omega) (by omega) (by omega)
  have l2:iOr .i64 128 (Aq .i64 ((n / 64:Nat):Int) 63)=((128+n / 64%64:Nat):Int):=by
   rw[Zj7 (by omega)];exact orc (c:=128) (q:=2) (j:=6) (by decide) (by omega) (by omega) (by omega)
  have l3:iOr .i64 128 (Aq .i64 ((n / 4096:Nat):Int) 63)=((128+n / 4096%64:Nat):Int):=by
   rw[Zj7 (by omega)];exact orc (c:=128) (q:=2) (j:=6) (by decide) (by omega) (by omega) (by omega)
  by_cases h1:n<128
  ·rw[G0 (by omega),Ad,Bj (by omega),Az,Fm,enc,if_pos h1];rfl
  rw[K5 (by omega),Ac];by_cases h2:n<2048
  ·rw[G0 (by omega),Ad,Bj (by omega),Az,enc,if_neg h1,if_pos h2,e6,l1];rw[show iOr .i64 192 ((n / 64:Nat):Int)=((192+n / 64:Nat):Int) from orc (c:=192) (q:=6) (j:=5) (by decide) (by omega) (by omega) (by omega),Fm,Fm];rfl
  rw[K5 (by omega),Ac];by_cases h3:n<65536
  ·rw[G0 (by omega),Ad,Bj (by omega),Az,enc,if_neg h1,if_neg h2,if_pos h3,e12,e6,l1,l2];rw[show iOr .i64 224 ((n / 4096:Nat):Int)=((224+n / 4096:Nat):Int) from orc (c:=224) (q:=14) (j:=4) (by decide) (by omega) (by omega) (by omega),Fm,Fm,Fm];rfl
  rw[K5 (by omega),Ac,Bj (by omega),Az,enc,if_neg h1,if_neg h2,if_neg h3,e18,e12,e6,l1,l2,l3];rw[show iOr .i64 240 ((n / 262144:Nat):Int)=((240+n / 262144:Nat):Int) from orc (c:=240) (q:=30) (j:=3) (by decide) (by omega) (by omega) (by omega),Fm,Fm,Fm,Fm];rfl
theorem L5 {b:List UInt8}(hb:b.length<=140737488355328):Fv [b]=some b:=by
 unfold Fv;rw[I3 (fun i=>(if i=0 then [] else b,(i:Int))) 1 (.inl b)]
 ·rfl
 ·intro i hi;obtain rfl:i=0:=by omega
  show Sa [b] ([],0)=some (.inl (b,1));unfold Sa;rw[A3 (by simp),Ad,show idx [b] (([],0):List UInt8×Int).2=some b from rfl,Aa,Bj (by simp;omega),Az];rfl
 ·show Sa [b] (b,1)=some (.inr (.inl b));unfold Sa;rw[A6 (by simp),Ac]
 rfl
theorem Lj (n:Nat) (h:n<256):y2i (u8 (n:Int))=(n:Int):=by rw[Zre,Cp,D3 h]
theorem Ydx (n:Nat):y2i (u8 (Ai .u8 (n:Int)))=((n%256:Nat):Int):=by
 rw[Fm,Cp,yN,UInt8.toNat_ofNat']
theorem Ypm {b:List UInt8}{x:Int}(hb:b.length+4<=140737488355328):Zct (b,x)=some (b++if sgn x then enc x.toNat else []):=by
 unfold Zct;simp only[L5 (show b.length<=140737488355328 by omega),Aa,Ypp];cases hs:sgn x with
 | false=>simp
 | true =>
  simp only[Av,Ac,if_true];simp only[sgn,Kd,decide_eq_true_eq]at hs;obtain⟨h0,hs⟩:=hs;obtain⟨n,rfl⟩:=Kob h0;simp only[Knb,Cc,decide_eq_true_eq]at hs ⊢;have ec:Ai .i32 (n:Int)=(n:Int):=Iy (k:=.i32) (show n<2^31 by omega);have eu:Ai .u32 (n:Int)=(n:Int):=Iy (k:=.u32) (show n<2^31 by omega);have e6:Bi .i32 (n:Int) 6=((n / 64:Nat):Int):=Zp8 (s:=6) (by omega);have e12:Bi .i32 (n:Int) 12=((n / 4096:Nat):Int):=Zp8 (s:=12) (by omega);have e18:Bi .i32 (n:Int) 18=((n / 262144:Nat):Int):=Zp8 (s:=18) (by omega);have lo:∀m:Nat,u8 (iOr .u8 (y2i (u8 128)) (y2i (u8 (Aq .u8 (y2i (u8 (Ai .u8 (m:Int)))) (y2i (u8 63))))))=yN (128+m%64):=by
   intro m;rw[Ydx,show y2i (u8 63)=((63:Nat):Int) from Lj 63 (by omega),show y2i (u8 128)=((128:Nat):Int) from Lj 128 (by omega)];rw[Zwm (by omega) (by omega),Mr (j:=6) (by decide),Lj _ (by omega)];rw[show m%256%2^6=m%64 by omega,Zyz (q:=2) (j:=6) (by decide) (by omega) (by omega) (by omega),Zre]
  have hi:∀(c q j m:Nat),c=q*2^j->m<2^j->c<256->m<256->u8 (iOr .u8 (y2i (u8 (c:Int))) (y2i (u8 (Ai .u8 (m:Int)))))=yN (c+m):=by
   intro c q j m h1 h2 h3 h4;rw[Ydx,Lj c h3,Kpc h4,Zyz h1 h2 h3 h4,Zre]
  unfold Zjd;simp only[ec,eu];by_cases h1:n<128
  ·rw[G0 (by omega),Ad,Bj (by omega),Az,Aa,Fm,enc,if_pos h1];rfl
  rw[K5 (by omega),Ac];unfold Zje;simp only[eu,e6,e12,e18,lo];by_cases h2:n<2048
  ·rw[G0 (by omega),Ad,Bj (by omega),Az,Aa,Aa,enc,if_neg h1,if_pos h2];rw[show u8 (iOr .u8 (y2i (u8 192)) (y2i (u8 (Ai .u8 ((n / 64:Nat):Int)))))=yN (192+n / 64) from hi 192 6 5 _ (by decide) (by omega) (by omega) (by omega)];rfl
  rw[K5 (by omega),Ac];by_cases h3:n<65536
  ·have e3:(cnd (iLt (n:Int) 55296) (some (Sum.inl (β:=List UInt8) true)) (cnd (iLt 57343 (n:Int)) (some (.inl (iLe (n:Int) 65535))) (some (.inl false))))=some (.inl true):=by
    by_cases h4:n<55296
    ·rw[A3 (by omega),Ad]
    rw[A6 (by omega),Ac,A3 (by omega),Ad,G0 (by omega)]
   rw[e3,Ar,Ad,Bj (by omega),Az,Aa,Aa,enc,if_neg h1,if_neg h2,if_pos h3];rw[show u8 (iOr .u8 (y2i (u8 224)) (y2i (u8 (Ai .u8 ((n / 4096:Nat):Int)))))=yN (224+n / 4096) from hi 224 14 4 _ (by decide) (by omega) (by omega) (by omega)];rfl
  have e3:(cnd (iLt (n:Int) 55296) (some (Sum.inl (β:=List UInt8) true)) (cnd (iLt 57343 (n:Int)) (some (.inl (iLe (n:Int) 65535))) (some (.inl false))))=some (.inl false):=by
   rw[A6 (by omega),Ac,A3 (by omega),Ad,K5 (by omega)]
  rw[e3,Ar,Ac,Dq (by omega),Ad,G0 (by omega),Ad,Bj (by omega),Az,Aa,Aa,enc,if_neg h1,if_neg h2,if_neg h3];rw[show u8 (iOr .u8 (y2i (u8 240)) (y2i (u8 (Ai .u8 ((n / 262144:Nat):Int)))))=yN (240+n / 262144) from hi 240 30 3 _ (by decide) (by omega) (by omega) (by omega)];rfl
theorem Q4 {σ ρ:Type}{step:σ->Option (σ ⊕ ρ)}{s s':σ}(h:step s=some (.inl s')):Aw step s=Aw step s':=by rw[M6,h]
theorem Ho {σ ρ:Type}{step:σ->Option (σ ⊕ ρ)}{s:σ}{r:ρ}(h:step s=some (.inr r)):Aw step s=some r:=by rw[M6,h]
def D5 (o:Option (Nat×Nat)) (z:Int):Int×Int×Bool:=match o with
 | some (n,k)=>((n:Int),z+(k:Int),true)
 | none=>(0,0,false)
theorem Yft:∀b:Fin 256,iNe (y2i (u8 (Aq .u8 (y2i (UInt8.ofNat b.val)) (y2i (u8 192))))) (y2i (u8 128))=!C5 (UInt8.ofNat b.val):=by decide +kernel
theorem Yfu (b:UInt8):iNe (y2i (u8 (Aq .u8 (y2i b) (y2i (u8 192))))) (y2i (u8 128))=!C5 b:=by
 have:=Yft ⟨b.toNat,B1 b⟩;simpa using this
theorem Zx7 (b:UInt8){j m:Nat}(hm:m=2^j-1) (h:m<256):y2i (u8 (Aq .u8 (y2i b) (y2i (u8 (m:Int)))))=((b.toNat%2^j:Nat):Int):=by
 have:=B1 b;have hle:b.toNat%2^j<=b.toNat:=Nat.mod_le _ _;rw[Lj m h,Cp b,Zwm (by omega) h,Mr hm,Lj _ (by omega)]
theorem Yp6 {α:Type}(b:List α) (i j:Nat) (h:i+j<9223372036854775808):idx b (Aj .i64 (i:Int) (j:Int))=(b.drop i)[j]?:=by
 rw[Ta h,Tc,Kdb]
def l2 (b:UInt8):Nat:=if b.toNat<128 then 1 else if b.toNat<194 then 0 else if b.toNat<224 then 2 else if b.toNat<240 then 3 else if b.toNat<245 then 4 else 0
theorem Yuq (b:UInt8):Zdf b=some ((l2 b:Nat):Int):=by
 have hb:=B1 b;have e0:y2i (u8 128)=128:=Lj 128 (by omega);have e1:Ai .i64 (b.toNat:Int)=(b.toNat:Int):=Iy (k:=.i64) (show b.toNat<2^63 by omega);unfold Zdf l2;simp only[e0,Cp,e1,E4,Aa,iLt,Zj];by_cases h1:b.toNat<128
 ·rw[if_pos (by omega),if_pos h1];rfl
 rw[if_neg (by omega),if_neg h1];by_cases h2:b.toNat<194
 ·rw[if_neg (by omega),if_neg (by omega),if_neg (by omega),if_pos h2];rfl
 rw[if_neg h2];by_cases h3:b.toNat<224
 ·rw[if_pos (by omega),if_pos h3];rfl
 rw[if_neg (by omega),if_neg h3];by_cases h4:b.toNat<240
 ·rw[if_pos (by omega),if_pos h4];rfl
 rw[if_neg (by omega),if_neg h4];by_cases h5:b.toNat<245
 ·rw[if_pos (by omega),if_pos h5];rfl
 rw[if_neg (by omega),if_neg h5];rfl
theorem Yf5 {l:List UInt8}{n k:Nat}(h:∀x,dec l=some x->x=(n,k)):dec l=if Cc n=true/\enc n=l.take k then some (n,k) else none:=by
 cases hd:dec l with
 | some x =>
  have:=h x hd;subst this;obtain⟨a,b,_⟩:=Zfj hd;rw[if_pos ⟨a,b⟩]
 | none =>
  rw[if_neg];rintro ⟨a,b⟩;have:=Ztu a (l.drop k);rw[b,Knc,hd]at this;cases this
theorem Zh1 {b:List UInt8}{i n k:Nat}(hl:b.length<4611686018427387904) (hi:i+k<=b.length) (h:∀x,dec (b.drop i)=some x->x=(n,k)) :
  (bnd (R6 (n:Int)) fun z7=>cnd (Ag z7) (some (0,(0,false))) (bnd (Ny ([],(n:Int))) fun z8=>chk (Di (i:Int) (Aj .i64 (i:Int) (k:Int)) (Ah b)) (cnd (Ag (sEq z8 (Br ((nOf (Aj .i64 (i:Int) (k:Int)))-(nOf (i:Int))) (Dw (nOf (i:Int)) b)))) (some (0,(0,false))) (some ((n:Int),((Aj .i64 (i:Int) (k:Int)),true))))))
   = some (D5 (dec (b.drop i)) i):=by
 rw[Yf5 h];have ea:Aj .i64 (i:Int) (k:Int)=((i+k:Nat):Int):=Ta (by omega);have es:sgn (n:Int)=Cc n:=by simp [sgn]
 have et:Br (nOf ((i+k:Nat):Int)-nOf (i:Int)) (Dw (nOf (i:Int)) b)=(b.drop i).take k:=by
  rw[G5,G5,Br,Dw,Kmg]
 rw[Zh0,Aa,es];cases hs:Cc n with
 | false=>simp [D5]
 | true =>
  rw[Zhz (by simp),Aa,es,hs,ea,et];have ew:Di (i:Int) ((i+k:Nat):Int) (Ah b)=true:=by
   unfold Di;rw[decide_eq_true_eq,Ak];omega
  simp only[Av,Ac,ew,Az,if_true,Km,Knb,true_and,sEq,Ag];by_cases he:enc n=(b.drop i).take k
  ·rw[if_pos he,he,beq_self_eq_true];simp [D5]
  rw[if_neg he];have:(enc n==(b.drop i).take k)=false:=by simpa using he
  rw[this];simp [D5]
theorem Yu8 {a c:Nat}(ha:a<1099511627776) (hc:c<64):iOr .i64 (B9 .i64 (a:Int) 6) (c:Int)=((a*64+c:Nat):Int):=by
 have h1:a*64<9223372036854775808:=by omega
 have e:B9 .i64 (a:Int) 6=((a*64:Nat):Int):=Z7 (k:=.i64) (s:=6) (by decide) h1;rw[e];exact orc (c:=a*64) (q:=a) (j:=6) rfl hc h1 (by omega)
theorem W6 {b:List UInt8}{i j k n:Nat}{y:UInt8}(j':Nat) (hl:b.length<4611686018427387904) (hi:i<=b.length) (hk:k<=4) (hj:j<k) (hj':j'=j+1) (hn:n<1099511627776) (hy:(b.drop i)[j]? = some y) :
  N4 (b,(i:Int)) (k:Int) ((n:Int),(j:Int))=if C5 y then some (.inl (((n*64+y.toNat%64:Nat):Int),(j':Int))) else some (.inr (.inr (0,(0,false)))):=by
 subst hj';unfold N4;simp only;rw[A3 (by omega),Ad,Yp6 b i j (by omega),hy,Aa,Aa,Yfu];cases C5 y with
 | false=>simp
 | true =>
  have e63:y2i (u8 (Aq .u8 (y2i y) (y2i (u8 63))))=((y.toNat%2^6:Nat):Int):=Zx7 y (m:=63) (by decide) (by omega);have ec:Ai .i64 ((y.toNat%2^6:Nat):Int)=((y.toNat%2^6:Nat):Int):=Iy (k:=.i64) (show y.toNat%2^6<2^63 by omega);simp only[Ksc,Ac,if_true];rw[e63,ec,C4 (by omega)];rw[show (2:Nat)^6=64 by rfl,Yu8 hn (by omega)]
theorem Zh3 {b:List UInt8}{i k n:Nat}:N4 (b,(i:Int)) (k:Int) ((n:Int),(k:Int))=some (.inr (.inl (n:Int))):=by
 unfold N4;simp only;rw[A6 (Koc _),Ac]
theorem Yaz {b:List UInt8}{i:Nat}(hl:b.length<4611686018427387904) (hi:i<b.length):Yj (b,(i:Int))=some (D5 (dec (b.drop i)) i):=by
 unfold Yj;have e0:Ba .i64 (Ah b) 1=(b.length:Int)-1:=Ei (by simp only[Ak];omega) (by simp only[Ak];omega);simp only[E4,Aa];rw[e0,show decide ((0:Int)<=(i:Int)/\(i:Int)<=(b.length:Int)-1)=true by simp only[decide_eq_true_eq];omega,Av,Ac,Bp hi,Aa,Yuq,Aa];have hd:b.drop i=b[i]::b.drop (i+1):=Kwb hi;have hlen:(b.drop i).length=b.length-i:=Kma;have e1:Ba .i64 (Ah b) (i:Int)=((b.length-i:Nat):Int):=by
  rw[Ei (by simp only[Ak];omega) (by simp only[Ak];omega),Ak];omega
 have hb0:=B1 b[i];have ec0:Ai .i64 (y2i b[i])=((b[i].toNat:Nat):Int):=Iy (k:=.i64) (show b[i].toNat<2^63 by omega);rw[e1];unfold l2;by_cases h1:b[i].toNat<128
 ·rw[if_pos h1,Dp (by decide),Ac,Eb (by omega),Ac,Aa,Eb (by omega),Ac,Ar,ec0];rw[Ho (show N4 (b,(i:Int)) ((1:Nat):Int) (((b[i].toNat:Nat):Int),1)=_ from Zh3 (k:=1)),Ar];refine Zh1 (k:=1) hl (by omega) fun x hx=>?_;rw[hd]at hx;simp only[dec,if_pos h1,Ka]at hx;exact hx.symm
 rw[if_neg h1];by_cases h2:b[i].toNat<194
 ·rw[if_pos h2,show iEq ((0:Nat):Int) 0=true from rfl,Ad,hd];simp only[dec,if_neg h1,if_pos h2,D5]
 rw[if_neg h2];by_cases h3:b[i].toNat<224
 ·rw[if_pos h3,Dp (by decide),Ac];by_cases hk:b.length-i<2
  ·rw[Dq (by omega),Ad,hd];have:b.drop (i+1)=[]:=Ktd (by omega);rw[this];simp only[dec,if_neg h1,if_neg h2,if_pos h3,Qh,D5]
  rw[Eb (by omega),Ac,Aa,Dq (by omega),Ad];rw[show iLe 0 (Ai .u64 ((2:Nat):Int))=true by decide +kernel,Az,Ar,ec0];have em:Aq .i64 ((b[i].toNat:Nat):Int) (Bi .i64 127 (Ai .u64 ((2:Nat):Int)))=((b[i].toNat%32:Nat):Int):=by
   rw[show Bi .i64 127 (Ai .u64 ((2:Nat):Int))=((31:Nat):Int) by decide +kernel,Om (k:=.i64) (show b[i].toNat<2^63 by omega) (by decide),Mr (j:=5) (by decide)]
  rw[em];obtain⟨b1,r,hr⟩:∃b1 r,b.drop (i+1)=b1::r:=by
   cases hq:b.drop (i+1) with
   | nil=>have:=congrArg List.length hq;simp only[Kma,Ki]at this;omega
   | cons x y=>exact⟨x,y,rfl⟩
  have y1:(b.drop i)[1]? = some b1:=by rw[hd,hr];rfl
  have s1:N4 (b,(i:Int)) ((2:Nat):Int) (((b[i].toNat%32:Nat):Int),1)=_:=W6 (j:=1) 2 (k:=2) (n:=b[i].toNat%32) hl (by omega) (by omega) (by omega) rfl (by omega) y1;by_cases c1:C5 b1=true
  ·rw[if_pos c1]at s1;rw[Q4 s1,Ho (Zh3 (k:=2)),Ar];refine Zh1 (k:=2) hl (by omega) fun x hx=>?_;rw[hd,hr]at hx;simp only[dec,if_neg h1,if_neg h2,if_pos h3,Qh,if_pos c1,Ka]at hx;exact hx.symm
  rw[if_neg c1]at s1;rw[Ho s1,L4,hd,hr];simp only[dec,if_neg h1,if_neg h2,if_pos h3,Qh,if_neg c1,D5]
 rw[if_neg h3];by_cases h4:b[i].toNat<240
 ·rw[if_pos h4,Dp (by decide),Ac];by_cases hk:b.length-i<3
  ·rw[Dq (by omega),Ad,hd];have:Mu b[i] (b.drop (i+1))=none:=by
    have hl3:(b.drop (i+1)).length<2:=by rw[Kma];omega
    match b.drop (i+1),hl3 with
    | [],_=>rfl
    | [_],_=>rfl
    | _::_::_,h=>simp at h;omega
   simp only[dec,if_neg h1,if_neg h2,if_neg h3,if_pos h4,this,D5]
  rw[Eb (by omega),Ac,Aa,Dq (by omega),Ad];rw[show iLe 0 (Ai .u64 ((3:Nat):Int))=true by decide +kernel,Az,Ar,ec0];have em:Aq .i64 ((b[i].toNat:Nat):Int) (Bi .i64 127 (Ai .u64 ((3:Nat):Int)))=((b[i].toNat%16:Nat):Int):=by
   rw[show Bi .i64 127 (Ai .u64 ((3:Nat):Int))=((15:Nat):Int) by decide +kernel,Om (k:=.i64) (show b[i].toNat<2^63 by omega) (by decide),Mr (j:=4) (by decide)]
  rw[em];obtain⟨b1,b2,r,hr⟩:∃b1 b2 r,b.drop (i+1)=b1::b2::r:=by
   have hl3:2<=(b.drop (i+1)).length:=by rw[Kma];omega
   match b.drop (i+1),hl3 with
   | x::y::r,_=>exact⟨x,y,r,rfl⟩
  have y1:(b.drop i)[1]? = some b1:=by rw[hd,hr];rfl
  have y2:(b.drop i)[2]? = some b2:=by rw[hd,hr];rfl
  have q1:=B1 b1;have s1:N4 (b,(i:Int)) ((3:Nat):Int) (((b[i].toNat%16:Nat):Int),1)=_:=W6 (j:=1) 2 (k:=3) (n:=b[i].toNat%16) hl (by omega) (by omega) (by omega) rfl (by omega) y1;have s2:=W6 (j:=2) 3 (k:=3) (n:=b[i].toNat%16*64+b1.toNat%64) hl (by omega) (by omega) (by omega) rfl (by omega) y2;by_cases c1:C5 b1=true
  ·rw[if_pos c1]at s1;rw[Q4 s1];by_cases c2:C5 b2=true
   ·rw[if_pos c2]at s2;rw[Q4 s2,Ho (Zh3 (k:=3)),Ar];refine Zh1 (k:=3) hl (by omega) fun x hx=>?_;rw[hd,hr]at hx;simp only[dec,if_neg h1,if_neg h2,if_neg h3,if_pos h4,Mu]at hx;split at hx
    ·simp only[Ka]at hx;rw[<-hx];congr 1;omega
    cases hx
   rw[if_neg c2]at s2;rw[Ho s2,L4,hd,hr];simp only[dec,if_neg h1,if_neg h2,if_neg h3,if_pos h4,Mu];rw[if_neg (fun h=>c2 h.2.2)];rfl
  rw[if_neg c1]at s1;rw[Ho s1,L4,hd,hr];simp only[dec,if_neg h1,if_neg h2,if_neg h3,if_pos h4,Mu];rw[if_neg]
  ·rfl
  rintro ⟨a,c,_⟩;refine c1 ?_;simp only[C5,decide_eq_true_eq];unfold M8 at a;unfold hi3 at c;split at a<;>split at c<;>omega
 rw[if_neg h4];by_cases h5:b[i].toNat<245
 ·rw[if_pos h5,Dp (by decide),Ac];by_cases hk:b.length-i<4
  ·rw[Dq (by omega),Ad,hd];have:J9 b[i] (b.drop (i+1))=none:=by
    have hl3:(b.drop (i+1)).length<3:=by rw[Kma];omega
    match b.drop (i+1),hl3 with
    | [],_=>rfl
    | [_],_=>rfl
    | [_,_],_=>rfl
    | _::_::_::_,h=>simp at h;omega
   simp only[dec,if_neg h1,if_neg h2,if_neg h3,if_neg h4,if_pos h5,this,D5]
  rw[Eb (by omega),Ac,Aa,Dq (by omega),Ad];rw[show iLe 0 (Ai .u64 ((4:Nat):Int))=true by decide +kernel,Az,Ar,ec0];have em:Aq .i64 ((b[i].toNat:Nat):Int) (Bi .i64 127 (Ai .u64 ((4:Nat):Int)))=((b[i].toNat%8:Nat):Int):=by
   rw[show Bi .i64 127 (Ai .u64 ((4:Nat):Int))=((7:Nat):Int) by decide +kernel,Om (k:=.i64) (show b[i].toNat<2^63 by omega) (by decide),Mr (j:=3) (by decide)]
  rw[em];obtain⟨b1,b2,b3,r,hr⟩:∃b1 b2 b3 r,b.drop (i+1)=b1::b2::b3::r:=by
   have hl3:3<=(b.drop (i+1)).length:=by rw[Kma];omega
   match b.drop (i+1),hl3 with
   | x::y::z::r,_=>exact⟨x,y,z,r,rfl⟩
  have y1:(b.drop i)[1]? = some b1:=by rw[hd,hr];rfl
  have y2:(b.drop i)[2]? = some b2:=by rw[hd,hr];rfl
  have y3:(b.drop i)[3]? = some b3:=by rw[hd,hr];rfl
  have q1:=B1 b1;have q2:=B1 b2;have s1:N4 (b,(i:Int)) ((4:Nat):Int) (((b[i].toNat%8:Nat):Int),1)=_:=W6 (j:=1) 2 (k:=4) (n:=b[i].toNat%8) hl (by omega) (by omega) (by omega) rfl (by omega) y1;have s2:=W6 (j:=2) 3 (k:=4) (n:=b[i].toNat%8*64+b1.toNat%64) hl (by omega) (by omega) (by omega) rfl (by omega) y2;have s3:=W6 (j:=3) 4 (k:=4) (n:=(b[i].toNat%8*64+b1.toNat%64)*64+b2.toNat%64) hl (by omega) (by omega) (by omega) rfl (by omega) y3;by_cases c1:C5 b1=true
  ·rw[if_pos c1]at s1;rw[Q4 s1];by_cases c2:C5 b2=true
   ·rw[if_pos c2]at s2;rw[Q4 s2];by_cases c3:C5 b3=true
    ·rw[if_pos c3]at s3;rw[Q4 s3,Ho (Zh3 (k:=4)),Ar];refine Zh1 (k:=4) hl (by omega) fun x hx=>?_;rw[hd,hr]at hx;simp only[dec,if_neg h1,if_neg h2,if_neg h3,if_neg h4,if_pos h5,J9]at hx;split at hx
     ·simp only[Ka]at hx;rw[<-hx];congr 1;omega
     cases hx
    rw[if_neg c3]at s3;rw[Ho s3,L4,hd,hr];simp only[dec,if_neg h1,if_neg h2,if_neg h3,if_neg h4,if_pos h5,J9];rw[if_neg (fun h=>c3 h.2.2.2)];rfl
   rw[if_neg c2]at s2;rw[Ho s2,L4,hd,hr];simp only[dec,if_neg h1,if_neg h2,if_neg h3,if_neg h4,if_pos h5,J9];rw[if_neg (fun h=>c2 h.2.2.1)];rfl
  rw[if_neg c1]at s1;rw[Ho s1,L4,hd,hr];simp only[dec,if_neg h1,if_neg h2,if_neg h3,if_neg h4,if_pos h5,J9];rw[if_neg]
  ·rfl
  rintro ⟨a,c,_⟩;refine c1 ?_;simp only[C5,decide_eq_true_eq];unfold M9 at a;unfold hi4 at c;split at a<;>split at c<;>omega
 rw[if_neg h5,show iEq ((0:Nat):Int) 0=true from rfl,Ad,hd];simp only[dec,if_neg h1,if_neg h2,if_neg h3,if_neg h4,if_neg h5,D5]
structure XT (x lo hi:UInt8) (k:Nat):Prop where
 a:iGe (y2i x) (y2i (u8 240))=false
 b:iLe 0 (y2i (u8 (Bi .u8 (y2i x) 4)))=true
 c:iLt (y2i (u8 (Bi .u8 (y2i x) 4))) 16=true
 d:idx V0 (Int.ofNat (0+((nOf (y2i (u8 (Bi .u8 (y2i x) 4))))*2)))=some lo
 e:idx V0 (Int.ofNat ((0+((nOf (y2i (u8 (Bi .u8 (y2i x) 4))))*2))+1))=some hi
 f:Ai .i64 (y2i (u8 (Aq .u8 (y2i x) (y2i (u8 7)))))=(k:Int)
theorem xt2:XT 0x02 128 191 2:=⟨by decide +kernel,by decide +kernel,by decide +kernel,by decide +kernel,by decide +kernel,by decide +kernel⟩
theorem Yyb:XT 0x13 160 191 3:=⟨by decide +kernel,by decide +kernel,by decide +kernel,by decide +kernel,by decide +kernel,by decide +kernel⟩
theorem xt3:XT 0x03 128 191 3:=⟨by decide +kernel,by decide +kernel,by decide +kernel,by decide +kernel,by decide +kernel,by decide +kernel⟩
theorem Yyc:XT 0x23 128 159 3:=⟨by decide +kernel,by decide +kernel,by decide +kernel,by decide +kernel,by decide +kernel,by decide +kernel⟩
theorem Yyd:XT 0x34 144 191 4:=⟨by decide +kernel,by decide +kernel,by decide +kernel,by decide +kernel,by decide +kernel,by decide +kernel⟩
theorem xt4:XT 0x04 128 191 4:=⟨by decide +kernel,by decide +kernel,by decide +kernel,by decide +kernel,by decide +kernel,by decide +kernel⟩
theorem Yye:XT 0x44 128 143 4:=⟨by decide +kernel,by decide +kernel,by decide +kernel,by decide +kernel,by decide +kernel,by decide +kernel⟩
theorem Yjx:∀b:Fin 256,128<=b.val->Qq[b.val]? = some (if b.val<194 then 241 else if b.val<224 then 0x02 else if b.val=224 then 0x13 else if b.val=237 then 0x23 else if b.val<240 then 0x03 else if b.val=240 then 0x34 else if b.val<244 then 0x04 else if b.val=244 then 0x44 else 241):=by decide +kernel
theorem Yez:∀b:Fin 256,iOr .i32 (Zmx .i32 (Ai .i32 (y2i (UInt8.ofNat b.val))) (Bi .i32 (B9 .i32 (Ai .i32 (y2i 241)) 31) 31)) (Aq .i32 65533 (Bi .i32 (B9 .i32 (Ai .i32 (y2i 241)) 31) 31))=65533:=by decide +kernel
theorem Xa {a s:Nat}(hs:s<=32) (h:a*2^s<2147483648):B9 .i32 (a:Int) (s:Int)=((a*2^s:Nat):Int):=Z7 (k:=.i32) hs h
theorem Wu {a j b:Nat}(hb:b<2^j) (h1:a*2^j<2147483648) (h2:b<2147483648):iOr .i32 ((a*2^j:Nat):Int) (b:Int)=((a*2^j+b:Nat):Int):=by
 rw[Zwp (k:=.i32) h1 h2,Zou hb]
theorem m32 (b:UInt8){j m:Nat}(hm:m=2^j-1) (h:m<256) (hj:j<=8):Ai .i32 (y2i (u8 (Aq .u8 (y2i b) (y2i (u8 (m:Int))))))=((b.toNat%2^j:Nat):Int):=by
 have hlt:b.toNat%2^j<2^31:=Kyf (Nat.mod_le _ _) (by have:=B1 b;omega);rw[Zx7 b hm h];exact Iy (k:=.i32) hlt
theorem Yw6 (b0 b1:UInt8):iOr .i32 (B9 .i32 (Ai .i32 (y2i (u8 (Aq .u8 (y2i b0) (y2i (u8 31)))))) 6) (Ai .i32 (y2i (u8 (Aq .u8 (y2i b1) (y2i (u8 63))))))=((b0.toNat%32*64+b1.toNat%64:Nat):Int):=by
 have h0:=B1 b0;rw[show Ai .i32 (y2i (u8 (Aq .u8 (y2i b0) (y2i (u8 31)))))=((b0.toNat%32:Nat):Int) from m32 b0 (m:=31) (j:=5) rfl (by omega) (by omega),
  show Ai .i32 (y2i (u8 (Aq .u8 (y2i b1) (y2i (u8 63)))))=((b1.toNat%64:Nat):Int) from m32 b1 (m:=63) (j:=6) rfl (by omega) (by omega)]
 rw[show B9 .i32 ((b0.toNat%32:Nat):Int) 6=((b0.toNat%32*2^6:Nat):Int) from Xa (s:=6) (by omega) (by omega)];exact Wu (j:=6) (by omega) (by omega) (by omega)
theorem Yw7 (b0 b1 b2:UInt8):iOr .i32 (iOr .i32 (B9 .i32 (Ai .i32 (y2i (u8 (Aq .u8 (y2i b0) (y2i (u8 15)))))) 12) (B9 .i32 (Ai .i32 (y2i (u8 (Aq .u8 (y2i b1) (y2i (u8 63)))))) 6)) (Ai .i32 (y2i (u8 (Aq .u8 (y2i b2) (y2i (u8 63))))))=((b0.toNat%16*4096+b1.toNat%64*64+b2.toNat%64:Nat):Int):=by
 have h0:=B1 b0;have e:∀b:UInt8,Ai .i32 (y2i (u8 (Aq .u8 (y2i b) (y2i (u8 63)))))=((b.toNat%64:Nat):Int):=fun b=>m32 b (m:=63) (j:=6) rfl (by omega) (by omega);rw[show Ai .i32 (y2i (u8 (Aq .u8 (y2i b0) (y2i (u8 15)))))=((b0.toNat%16:Nat):Int) from m32 b0 (m:=15) (j:=4) rfl (by omega) (by omega),e b1,e b2];rw[show B9 .i32 ((b0.toNat%16:Nat):Int) 12=((b0.toNat%16*2^12:Nat):Int) from Xa (s:=12) (by omega) (by omega),
  show B9 .i32 ((b1.toNat%64:Nat):Int) 6=((b1.toNat%64*2^6:Nat):Int) from Xa (s:=6) (by omega) (by omega)]
 rw[Wu (j:=12) (by omega) (by omega) (by omega)];rw[show b0.toNat%16*2^12+b1.toNat%64*2^6=(b0.toNat%16*64+b1.toNat%64)*2^6 by omega,Wu (j:=6) (by omega) (by omega) (by omega)]
theorem Yw8 (b0 b1 b2 b3:UInt8):iOr .i32 (iOr .i32 (iOr .i32 (B9 .i32 (Ai .i32 (y2i (u8 (Aq .u8 (y2i b0) (y2i (u8 7)))))) 18) (B9 .i32 (Ai .i32 (y2i (u8 (Aq .u8 (y2i b1) (y2i (u8 63)))))) 12)) (B9 .i32 (Ai .i32 (y2i (u8 (Aq .u8 (y2i b2) (y2i (u8 63)))))) 6)) (Ai .i32 (y2i (u8 (Aq .u8 (y2i b3) (y2i (u8 63))))))=((b0.toNat%8*262144+b1.toNat%64*4096+b2.toNat%64*64+b3.toNat%64:Nat):Int):=by
 have h0:=B1 b0;have e:∀b:UInt8,Ai .i32 (y2i (u8 (Aq .u8 (y2i b) (y2i (u8 63)))))=((b.toNat%64:Nat):Int):=fun b=>m32 b (m:=63) (j:=6) rfl (by omega) (by omega);rw[show Ai .i32 (y2i (u8 (Aq .u8 (y2i b0) (y2i (u8 7)))))=((b0.toNat%8:Nat):Int) from m32 b0 (m:=7) (j:=3) rfl (by omega) (by omega),e b1,e b2,e b3];rw[show B9 .i32 ((b0.toNat%8:Nat):Int) 18=((b0.toNat%8*2^18:Nat):Int) from Xa (s:=18) (by omega) (by omega),
  show B9 .i32 ((b1.toNat%64:Nat):Int) 12=((b1.toNat%64*2^12:Nat):Int) from Xa (s:=12) (by omega) (by omega),
  show B9 .i32 ((b2.toNat%64:Nat):Int) 6=((b2.toNat%64*2^6:Nat):Int) from Xa (s:=6) (by omega) (by omega)]
 rw[Wu (j:=18) (by omega) (by omega) (by omega)];rw[show b0.toNat%8*2^18+b1.toNat%64*2^12=(b0.toNat%8*64+b1.toNat%64)*2^12 by omega,Wu (j:=12) (by omega) (by omega) (by omega)];rw[show (b0.toNat%8*64+b1.toNat%64)*2^12+b2.toNat%64*2^6=((b0.toNat%8*64+b1.toNat%64)*64+b2.toNat%64)*2^6 by omega,Wu (j:=6) (by omega) (by omega) (by omega)]
def Pd (o:Option (Nat×Nat)):Int×Int:=match o with
 | some (n,k)=>((n:Int),(k:Int))
 | none=>(65533,1)
def Pk (b0 lo hi:UInt8) (k:Nat) (r:List UInt8):Int×Int:=if r.length+1<k then (65533,1) else match r with
   | []=>(65533,1)
   | b1::r=>if b1.toNat<lo.toNat\/hi.toNat<b1.toNat then (65533,1) else if k<=2 then (((b0.toNat%32*64+b1.toNat%64:Nat):Int),2) else match r with
    | []=>(65533,1)
    | b2::r=>if b2.toNat<128\/191<b2.toNat then (65533,1) else if k<=3 then (((b0.toNat%16*4096+b1.toNat%64*64+b2.toNat%64:Nat):Int),3) else match r with
     | []=>(65533,1)
     | b3::_=>if b3.toNat<128\/191<b3.toNat then (65533,1) else (((b0.toNat%8*262144+b1.toNat%64*4096+b2.toNat%64*64+b3.toNat%64:Nat):Int),4)
theorem Ub {b0:UInt8}{r:List UInt8}{x lo hi:UInt8}{k:Nat}(hf:Qq[b0.toNat]? = some x) (ht:XT x lo hi k) (hk:2<=k) (hl:r.length<4611686018427387904) :
  N1 (b0::r)=some (Pk b0 lo hi k r):=by
 have h0:=B1 b0;have e0:idx (b0::r) 0=some b0:=rfl;have e1:idx Qq (Int.ofNat (0+nOf (y2i b0)*1))=some x:=by
  rw[Cp,G5,Zad];simpa using hf
 by_cases hs:r.length+1<k
 ·unfold Pk;rw[if_pos hs];unfold N1;rw[A6 (by simp only[Ak,Kf];omega),Ac,e0,Aa,G0 (by rw[Cp];omega),Az,A3 (by rw[Cp];omega),Az,e1,Aa,ht.a,Ac,ht.b,Az,ht.c,Az,ht.d,Aa,ht.e,Aa,ht.f,
   A3 (by simp only[Ak,Kf];omega),Ad]
 match r with
 | []=>exact (hs (by simp only[Ki];omega)).elim
 | b1::r =>
  have h1:=B1 b1;have i1:idx (b0::b1::r) 1=some b1:=rfl;have pre:N1 (b0::b1::r)=(cnd (iLt (y2i b1) (y2i lo)) (some (65533,1)) (cnd (iLt (y2i hi) (y2i b1)) (some (65533,1))
   (cnd (iLe (k:Int) 2) (some ((iOr .i32 (B9 .i32 (Ai .i32 (y2i (u8 (Aq .u8 (y2i b0) (y2i (u8 31)))))) 6) (Ai .i32 (y2i (u8 (Aq .u8 (y2i b1) (y2i (u8 63))))))),2)) (bnd (idx (b0::b1::r) 2) (fun z6=>(cnd (iLt (y2i z6) (y2i (u8 128))) (some (65533,1)) (cnd (iLt (y2i (u8 191)) (y2i z6)) (some
   (65533,1)) (cnd (iLe (k:Int) 3) (some ((iOr .i32 (iOr .i32 (B9 .i32 (Ai .i32 (y2i (u8 (Aq .u8 (y2i b0) (y2i (u8 15))))))
   12) (B9 .i32 (Ai .i32 (y2i (u8 (Aq .u8 (y2i b1) (y2i (u8 63)))))) 6)) (Ai .i32 (y2i (u8 (Aq .u8 (y2i z6) (y2i (u8 63))))))),3)) (bnd (idx (b0::b1::r) 3) (fun z7 =>
   (cnd (iLt (y2i z7) (y2i (u8 128))) (some (65533,1)) (cnd (iLt (y2i (u8 191)) (y2i z7)) (some (65533,1)) (some ((iOr .i32 (iOr .i32 (iOr .i32 (B9 .i32 (Ai .i32 (y2i (u8
   (Aq .u8 (y2i b0) (y2i (u8 7)))))) 18) (B9 .i32 (Ai .i32 (y2i (u8 (Aq .u8 (y2i b1) (y2i (u8 63)))))) 12)) (B9 .i32 (Ai .i32 (y2i (u8 (Aq .u8 (y2i z6) (y2i (u8
   63)))))) 6)) (Ai .i32 (y2i (u8 (Aq .u8 (y2i z7) (y2i (u8 63))))))),4)))))))))))))):=by
   unfold N1;rw[A6 (by simp only[Ak,Kf];omega),Ac,e0,Aa,G0 (by rw[Cp];omega),Az,A3 (by rw[Cp];omega),Az,e1,Aa,ht.a,Ac,ht.b,Az,ht.c,Az,ht.d,Aa,ht.e,Aa,ht.f,
    A6 (by simp only[Ak,Kf]at hs ⊢;omega),Ac,i1,Aa]
  have e128:y2i (u8 128)=128:=Lj 128 (by omega);have e191:y2i (u8 191)=191:=Lj 191 (by omega);unfold Pk;rw[pre,if_neg hs];simp only[e128,e191,Yw6,Yw7,Yw8];by_cases c1:b1.toNat<lo.toNat
  ·rw[A3 (by rw[Cp,Cp];omega),Ad,if_pos (.inl c1)]
  rw[A6 (by rw[Cp,Cp];omega),Ac];by_cases c2:hi.toNat<b1.toNat
  ·rw[A3 (by rw[Cp,Cp];omega),Ad,if_pos (.inr c2)]
  rw[A6 (by rw[Cp,Cp];omega),Ac,if_neg (by omega)];by_cases k2:k<=2
  ·rw[G0 (by omega),Ad,if_pos k2]
  rw[K5 (by omega),Ac,if_neg k2];obtain⟨b2,q,rfl⟩:∃b2 q,r=b2::q:=by
   cases r with
   | nil=>exact (hs (by simp only[Ki,Kf];omega)).elim
   | cons x y=>exact⟨x,y,rfl⟩
  have h2:=B1 b2;have i2:idx (b0::b1::b2::q) 2=some b2:=rfl;rw[i2,Aa];by_cases c3:b2.toNat<128
  ·rw[A3 (by rw[Cp];omega),Ad];simp only;rw[if_pos (.inl c3)]
  rw[A6 (by rw[Cp];omega),Ac];by_cases c4:191<b2.toNat
  ·rw[A3 (by rw[Cp];omega),Ad];simp only;rw[if_pos (.inr c4)]
  rw[A6 (by rw[Cp];omega),Ac];simp only;rw[if_neg (by omega)];by_cases k3:k<=3
  ·rw[G0 (by omega),Ad,if_pos k3]
  rw[K5 (by omega),Ac,if_neg k3];obtain⟨b3,p,rfl⟩:∃b3 p,q=b3::p:=by
   cases q with
   | nil=>exact (hs (by simp only[Ki,Kf];omega)).elim
   | cons x y=>exact⟨x,y,rfl⟩
  have h3:=B1 b3;have i3:idx (b0::b1::b2::b3::p) 3=some b3:=rfl;rw[i3,Aa];by_cases c5:b3.toNat<128
  ·rw[A3 (by rw[Cp];omega),Ad];simp only;rw[if_pos (.inl c5)]
  rw[A6 (by rw[Cp];omega),Ac];by_cases c6:191<b3.toNat
  ·rw[A3 (by rw[Cp];omega),Ad];simp only;rw[if_pos (.inr c6)]
  rw[A6 (by rw[Cp];omega),Ac];simp only;rw[if_neg (by omega)]
theorem Yvd {b0:UInt8}{r:List UInt8}(h1:194<=b0.toNat) (h2:b0.toNat<224):Pk b0 128 191 2 r=Pd (dec (b0::r)):=by
 have e1:(128:UInt8).toNat=128:=rfl;have e2:(191:UInt8).toNat=191:=rfl;unfold Pk;simp only[dec,if_neg (show ¬b0.toNat<128 by omega),if_neg (show ¬b0.toNat<194 by omega),if_pos h2,e1,e2];cases r with
 | nil=>rfl
 | cons b1 r =>
  rw[if_neg (by simp)];simp only[Qh];by_cases hc:C5 b1=true
  ·rw[if_pos hc];simp only[C5,decide_eq_true_eq]at hc;rw[if_neg (by omega),if_pos (Kc _)];rfl
  rw[if_neg hc];simp only[C5,decide_eq_true_eq]at hc;rw[if_pos (by omega)];rfl
theorem Zqd {b0 lo hi:UInt8}{r:List UInt8}(h1:224<=b0.toNat) (h2:b0.toNat<240) (hl:lo.toNat=M8 b0) (hh:hi.toNat=hi3 b0):Pk b0 lo hi 3 r=Pd (dec (b0::r)):=by
 unfold Pk;simp only[dec,if_neg (show ¬b0.toNat<128 by omega),if_neg (show ¬b0.toNat<194 by omega),if_neg (show ¬b0.toNat<224 by omega),if_pos h2,hl,hh]
 match r with
 | []=>rfl
 | [_]=>rfl
 | b1::b2::r =>
  rw[if_neg (by simp)];simp only[Mu];by_cases hc:M8 b0<=b1.toNat/\b1.toNat<=hi3 b0/\C5 b2=true
  ·rw[if_pos hc];obtain⟨c1,c2,c3⟩:=hc;simp only[C5,decide_eq_true_eq]at c3;rw[if_neg (by omega),if_neg (by omega),if_neg (by omega),if_pos (Kc _)];rfl
  rw[if_neg hc];by_cases c1:b1.toNat<M8 b0\/hi3 b0<b1.toNat
  ·rw[if_pos c1];rfl
  rw[if_neg c1,if_neg (by omega),if_pos]
  ·rfl
  have:¬C5 b2=true:=fun h=>hc ⟨by omega,by omega,h⟩;simp only[C5,decide_eq_true_eq]at this;omega
theorem Zqe {b0 lo hi:UInt8}{r:List UInt8}(h1:240<=b0.toNat) (h2:b0.toNat<245) (hl:lo.toNat=M9 b0) (hh:hi.toNat=hi4 b0):Pk b0 lo hi 4 r=Pd (dec (b0::r)):=by
 unfold Pk;simp only[dec,if_neg (show ¬b0.toNat<128 by omega),if_neg (show ¬b0.toNat<194 by omega),if_neg (show ¬b0.toNat<224 by omega),if_neg (show ¬b0.toNat<240 by omega),if_pos h2,hl,hh]
 match r with
 | []=>rfl
 | [_]=>rfl
 | [_,_]=>rfl
 | b1::b2::b3::r =>
  rw[if_neg (by simp)];simp only[J9];by_cases hc:M9 b0<=b1.toNat/\b1.toNat<=hi4 b0/\C5 b2=true/\C5 b3=true
  ·rw[if_pos hc];obtain⟨c1,c2,c3,c4⟩:=hc;simp only[C5,decide_eq_true_eq]at c3 c4;rw[if_neg (by omega),if_neg (by omega),if_neg (by omega),if_neg (by omega),if_neg (by omega)];rfl
  rw[if_neg hc];by_cases c1:b1.toNat<M9 b0\/hi4 b0<b1.toNat
  ·rw[if_pos c1];rfl
  rw[if_neg c1,if_neg (by omega)];by_cases c2:b2.toNat<128\/191<b2.toNat
  ·rw[if_pos c2];rfl
  rw[if_neg c2,if_neg (by omega),if_pos]
  ·rfl
  have:¬C5 b3=true:=fun h=>hc ⟨by omega,by omega,by simp only[C5,decide_eq_true_eq];omega,h⟩;simp only[C5,decide_eq_true_eq]at this;omega
theorem Ybu {b0:UInt8}{r:List UInt8}(hf:Qq[b0.toNat]? = some 241):N1 (b0::r)=some (65533,1):=by
 have h0:=B1 b0;have e0:idx (b0::r) 0=some b0:=rfl;have e1:idx Qq (Int.ofNat (0+nOf (y2i b0)*1))=some 241:=by
  rw[Cp,G5,Zad];simpa using hf
 have e2:=Yez ⟨b0.toNat,h0⟩;simp only[UInt8.ofNat_toNat]at e2;unfold N1;rw[A6 (by simp only[Ak,Kf];omega),Ac,e0,Aa,G0 (by rw[Cp];omega),Az,A3 (by rw[Cp];omega),Az,e1,Aa,show iGe (y2i 241) (y2i (u8 240))=true by decide +kernel,Ad,Aa,e2]
theorem Yve {b0:UInt8}{r:List UInt8}(h:128<=b0.toNat) (hl:r.length<4611686018427387904):N1 (b0::r)=some (Pd (dec (b0::r))):=by
 have h0:=B1 b0;have ht:=Yjx ⟨b0.toNat,h0⟩ h;simp only at ht;by_cases h1:b0.toNat<194
 ·rw[if_pos h1]at ht;rw[Ybu ht];simp only[dec,if_neg (show ¬b0.toNat<128 by omega),if_pos h1,Pd]
 rw[if_neg h1]at ht;by_cases h2:b0.toNat<224
 ·rw[if_pos h2]at ht;rw[Ub ht xt2 (by omega) hl,Yvd (by omega) h2]
 rw[if_neg h2]at ht;by_cases h3:b0.toNat=224
 ·rw[if_pos h3]at ht;rw[Ub ht Yyb (by omega) hl,Zqd (by omega) (by omega) (by rw[M8,if_pos h3];rfl) (by rw[hi3,if_neg (by omega)];rfl)]
 rw[if_neg h3]at ht;by_cases h4:b0.toNat=237
 ·rw[if_pos h4]at ht;rw[Ub ht Yyc (by omega) hl,Zqd (by omega) (by omega) (by rw[M8,if_neg (by omega)];rfl) (by rw[hi3,if_pos h4];rfl)]
 rw[if_neg h4]at ht;by_cases h5:b0.toNat<240
 ·rw[if_pos h5]at ht;rw[Ub ht xt3 (by omega) hl,Zqd (by omega) (by omega) (by rw[M8,if_neg (by omega)];rfl) (by rw[hi3,if_neg (by omega)];rfl)]
 rw[if_neg h5]at ht;by_cases h6:b0.toNat=240
 ·rw[if_pos h6]at ht;rw[Ub ht Yyd (by omega) hl,Zqe (by omega) (by omega) (by rw[M9,if_pos h6];rfl) (by rw[hi4,if_neg (by omega)];rfl)]
 rw[if_neg h6]at ht;by_cases h7:b0.toNat<244
 ·rw[if_pos h7]at ht;rw[Ub ht xt4 (by omega) hl,Zqe (by omega) (by omega) (by rw[M9,if_neg (by omega)];rfl) (by rw[hi4,if_neg (by omega)];rfl)]
 rw[if_neg h7]at ht;by_cases h8:b0.toNat=244
 ·rw[if_pos h8]at ht;rw[Ub ht Yye (by omega) hl,Zqe (by omega) (by omega) (by rw[M9,if_neg (by omega)];rfl) (by rw[hi4,if_pos h8];rfl)]
 rw[if_neg h8]at ht;rw[Ybu ht];simp only[dec,if_neg (show ¬b0.toNat<128 by omega),if_neg h1,if_neg h2,if_neg h5,if_neg (show ¬b0.toNat<245 by omega),Pd]
theorem Yf6 {b0:UInt8}{r:List UInt8}(hl:r.length<4611686018427387904):Zdm (b0::r)=some (Pd (dec (b0::r))):=by
 have h0:=B1 b0;have e128:y2i (u8 128)=128:=Lj 128 (by omega);unfold Zdm;by_cases h:b0.toNat<128
 ·have s1:Y6 (b0::r) 0=some (.inr (.inr ((b0.toNat:Int),1))):=by
   unfold Y6;rw[A3 (by simp only[Ak,Kf];omega),Ad,show idx (b0::r) 0=some b0 from rfl,Aa,e128,A3 (by rw[Cp];omega),Ad,Cp];rw[show Ai .i32 (b0.toNat:Int)=(b0.toNat:Int) from Iy (k:=.i32) (show b0.toNat<2^31 by omega)]
  rw[Ho s1,L4];simp only[dec,if_pos h,Pd];rfl
 have s1:Y6 (b0::r) 0=some (.inr (.inl ())):=by
  unfold Y6;rw[A3 (by simp only[Ak,Kf];omega),Ad,show idx (b0::r) 0=some b0 from rfl,Aa,e128,A6 (by rw[Cp];omega),Ac]
 rw[Ho s1,Ar,Yve (by omega) hl,Aa]
theorem Yph {b:List UInt8}{i:Nat}(hl:b.length<4611686018427387904) (hi:i<b.length):Zcr (b,(i:Int))=some (D5 (dec (b.drop i)) i):=by
 unfold Zcr;have hd:b.drop i=b[i]::b.drop (i+1):=Kwb hi;have et:Br (nOf (Ah b)-nOf (i:Int)) (Dw (nOf (i:Int)) b)=b.drop i:=by
  rw[Ak,G5,G5,Br,Dw];exact Kib (by rw[Kma];omega)
 have ew:Di (i:Int) (Ah b) (Ah b)=true:=by
  unfold Di;rw[decide_eq_true_eq,Ak];omega
 simp only;rw[A6 (by omega),Ac,Oo (by rw[Ak];omega),Ac,ew,Az,et];rw[show Tu (nOf (i:Int)) (b.drop i).length=true by simp only[Tu,Kma,G5,decide_eq_true_eq];omega,Az];rw[hd,Yf6 (by rw[Kma];omega),Aa];cases hx:dec (b[i]::b.drop (i+1)) with
 | none=>rfl
 | some x =>
  obtain⟨n,k⟩:=x;obtain⟨hs,he,k1,k2⟩:=Zfj hx;have hk:k=(enc n).length:=by rw[he,Kua];omega
  simp only[Cc,decide_eq_true_eq]at hs;have en:=(Zl3 (n:=n)).2;have ec:Ai .i64 (n:Int)=(n:Int):=Iy (k:=.i64) (show n<2^63 by omega);have ea:Aj .i64 (i:Int) (k:Int)=((i+k:Nat):Int):=Ta (by simp only[Kf,Kma]at k2;omega);have er:((n:Int),Aj .i64 (i:Int) (k:Int),true)=D5 (some (n,k)) i:=by
   rw[ea];simp [D5]
  simp only[Pd,ec];rw[er];by_cases h5:n=65533
  ·subst h5;have h3:k=3:=by rw[hk];decide +kernel
   rw[show iEq ((65533:Nat):Int) 65533=true from V9 _,Ad,A6 (by omega),Ac]
  rw[Dp (by omega),Ac]
theorem Jp {b:List UInt8}{i:Nat}(hi:i<b.length):b.drop i=b[i]::b.drop (i+1):=Kwb hi
theorem N9 (b:UInt8):Ai .i64 (y2i b)=(b.toNat:Int):=Iy (k:=.i64) (show b.toNat<2^63 by have:=B1 b;omega)
theorem Ya0 (a c:UInt8):Zc7 ((a.toNat:Int),(c.toNat:Int))=some (if a.toNat=0xa4/\0xa1<=c.toNat/\c.toNat<=0xf3 then (((0x3041+(c.toNat-0xa1):Nat):Int),true) else if a.toNat=0xa5/\0xa1<=c.toNat/\c.toNat<=0xf6 then (((0x30a1+(c.toNat-0xa1):Nat):Int),true) else (0,false)):=by
 have hc:=B1 c;have e1:161<=c.toNat->Ba .i64 (Aj .i64 12353 (c.toNat:Int)) 161=((0x3041+(c.toNat-0xa1):Nat):Int):=fun h=>by
  rw[Cz (by omega) (by omega),Ei (by omega) (by omega)];omega
 have e2:161<=c.toNat->Ba .i64 (Aj .i64 12449 (c.toNat:Int)) 161=((0x30a1+(c.toNat-0xa1):Nat):Int):=fun h=>by
  rw[Cz (by omega) (by omega),Ei (by omega) (by omega)];omega
 unfold Zc7;simp only[E4,Aa,Zj];by_cases h4:a.toNat=0xa4
 ·rw[show iEq (a.toNat:Int) 164=true by rw[h4];rfl,Ad];by_cases h1:161<=c.toNat/\c.toNat<=243
  ·rw[if_pos (by omega),if_pos ⟨h4,h1⟩,e1 h1.1]
  rw[if_neg (by omega),Dp (by omega),Ac,if_neg (fun h=>h1 h.2),if_neg (by omega)]
 rw[Dp (by omega),Ac];by_cases h5:a.toNat=0xa5
 ·rw[show iEq (a.toNat:Int) 165=true by rw[h5];rfl,Ad];by_cases h1:161<=c.toNat/\c.toNat<=246
  ·rw[if_pos (show (161:Int)<=(c.toNat:Int)/\(c.toNat:Int)<=246 by omega),if_neg (fun h=>h4 h.1),if_pos ⟨h5,h1⟩,e2 h1.1]
  rw[if_neg (show ¬((161:Int)<=(c.toNat:Int)/\(c.toNat:Int)<=246) by omega),if_neg (fun h=>h4 h.1),if_neg (fun h=>h1 h.2)]
 rw[Dp (by omega),Ac,if_neg (fun h=>h4 h.1),if_neg (fun h=>h5 h.1)]
theorem Ypk (a c:UInt8):Zi5 ((a.toNat:Int),(c.toNat:Int))=some (if a.toNat=0xa4/\0xa1<=c.toNat/\c.toNat<=0xf3 then (((0x3041+(c.toNat-0xa1):Nat):Int),true) else if a.toNat=0xa5/\0xa1<=c.toNat/\c.toNat<=0xf6 then (((0x30a1+(c.toNat-0xa1):Nat):Int),true) else (0,false)):=Ya0 a c
theorem Zu7 (b0 b1:UInt8) (r:List UInt8) (i:Nat) (h:¬b0.toNat<128) (hi:i<4611686018427387904) :
  (bnd (some (if b0.toNat=0xa4/\0xa1<=b1.toNat/\b1.toNat<=0xf3 then (((0x3041+(b1.toNat-0xa1):Nat):Int),true) else if b0.toNat=0xa5/\0xa1<=b1.toNat/\b1.toNat<=0xf6 then (((0x30a1+(b1.toNat-0xa1):Nat):Int),true) else (0,false))) fun z5:Int×Bool=>cnd (Ag z5.2) (some (0,(0,false))) (some (z5.1,((Aj .i64 (i:Int) 2),true))))=some (D5 (Hg (b0::b1::r)) i):=by
 have ea:Aj .i64 (i:Int) 2=((i+2:Nat):Int):=Ta (n:=2) (by omega);simp only[Hg,if_neg h,Aa];split
 ·rw[ea];simp [D5]
 split
 ·rw[ea];simp [D5]
 rfl
theorem Yty {b:List UInt8}{i:Nat}(hl:b.length<4611686018427387904) (hi:i<b.length):Zc4 (b,(i:Int))=some (D5 (Hg (b.drop i)) i):=by
 unfold Zc4;have e0:Ba .i64 (Ah b) 1=(b.length:Int)-1:=Ei (by simp only[Ak];omega) (by simp only[Ak];omega);have e128:y2i (u8 128)=128:=Lj 128 (by omega);simp only[E4,Aa];rw[e0,show decide ((0:Int)<=(i:Int)/\(i:Int)<=(b.length:Int)-1)=true by simp only[decide_eq_true_eq];omega,Av,Ac,Bp hi,Aa,e128];have ea:Aj .i64 (i:Int) 1=((i+1:Nat):Int):=C4 (by omega);by_cases h:b[i].toNat<128
 ·rw[A3 (by rw[Cp];omega),Ad,Aa,N9,ea,Jp hi];simp only[Hg,if_pos h,D5];simp
 rw[A6 (by rw[Cp];omega),Ac,ea];by_cases h1:i+1<b.length
 ·rw[Oo (by rw[Ak];omega),Ac,Aa,Bp h1,Aa,N9,N9,Ya0,Jp hi,Jp h1];exact Zu7 _ _ _ _ h (by omega)
 rw[Qz (by rw[Ak];omega),Ad,Jp hi,Ktd (show b.length<=i+1 by omega)];simp only[Hg,if_neg h,D5]
theorem Ypb {b:List UInt8}{i:Nat}(hl:b.length<4611686018427387904) (hi:i<b.length):Zcq (b,(i:Int))=some (D5 (Hg (b.drop i)) i):=by
 unfold Zcq;have e127:y2i (u8 127)=127:=Lj 127 (by omega);simp only;rw[A6 (by omega),Ac,Oo (by rw[Ak];omega),Ac,Bp hi,Aa,e127];have ea:Aj .i64 (i:Int) 1=((i+1:Nat):Int):=C4 (by omega);by_cases h:b[i].toNat<128
 ·rw[G0 (by rw[Cp];omega),Ad,Aa,N9,ea,Jp hi];simp only[Hg,if_pos h,D5];simp
 rw[K5 (by rw[Cp];omega),Ac,ea];by_cases h1:i+1<b.length
 ·rw[Dp (by rw[Ak];omega),Ac,Aa,Bp h1,Aa,N9,N9,Ypk,Jp hi,Jp h1];exact Zu7 _ _ _ _ h (by omega)
 rw[show iEq ((i+1:Nat):Int) (Ah b)=true by rw[Ak,show i+1=b.length by omega];exact V9 _,Ad,Jp hi,Ktd (show b.length<=i+1 by omega)];simp only[Hg,if_neg h,D5]
def bsR (o:Option Nat):Int×Bool:=match o with
 | some n=>((n:Int),true)
 | none=>(0,false)
theorem Yug:∀b:Fin 256,Lp (1,(b.val:Int))=some (bsR (C7 1 b.val)):=by decide +kernel
theorem Yuh:∀b:Fin 256,Lp (2,(b.val:Int))=some (bsR (C7 2 b.val)):=by decide +kernel
theorem Yui:∀b:Fin 256,Lp (3,(b.val:Int))=some (bsR (C7 3 b.val)):=by decide +kernel
theorem Yuj:∀b:Fin 256,Lp (4,(b.val:Int))=some (bsR (C7 4 b.val)):=by decide +kernel
theorem Ypt:∀b:Fin 256,Rv (1,(b.val:Int))=some (bsR (C7 1 b.val)):=by decide +kernel
theorem Ypu:∀b:Fin 256,Rv (2,(b.val:Int))=some (bsR (C7 2 b.val)):=by decide +kernel
theorem Ypv:∀b:Fin 256,Rv (3,(b.val:Int))=some (bsR (C7 3 b.val)):=by decide +kernel
theorem Ypw:∀b:Fin 256,Rv (4,(b.val:Int))=some (bsR (C7 4 b.val)):=by decide +kernel
theorem Zpw {cs b:Nat}(h1:1<=cs) (h4:cs<=4) (hb:b<256):Lp ((cs:Int),(b:Int))=some (bsR (C7 cs b)):=by
 rcases (show cs=1\/cs=2\/cs=3\/cs=4 by omega) with rfl|rfl|rfl|rfl
 ·exact Yug ⟨b,hb⟩
 ·exact Yuh ⟨b,hb⟩
 ·exact Yui ⟨b,hb⟩
 exact Yuj ⟨b,hb⟩
theorem Yo8 {cs b:Nat}(h1:1<=cs) (h4:cs<=4) (hb:b<256):Rv ((cs:Int),(b:Int))=some (bsR (C7 cs b)):=by
 rcases (show cs=1\/cs=2\/cs=3\/cs=4 by omega) with rfl|rfl|rfl|rfl
 ·exact Ypt ⟨b,hb⟩
 ·exact Ypu ⟨b,hb⟩
 ·exact Ypv ⟨b,hb⟩
 exact Ypw ⟨b,hb⟩
def Got (o:Option (Int×Int×Bool)) (s:Option (Nat×Nat)) (i:Nat):Prop:=match s with
 | some (n,k)=>o=some ((n:Int),((i+k:Nat):Int),true)
 | none=>∃p q,o=some (p,q,false)
theorem Zf2 {s:Option (Nat×Nat)}{i:Nat}:Got (some (D5 s i)) s i:=by
 cases s with
 | none=>exact⟨_,_,rfl⟩
 | some x=>simp [Got,D5]
theorem Yt2 {cs i:Nat}{b:List UInt8}(hc:cs<=5) (hl:b.length<4611686018427387904) (hi:i<b.length):Got (Zdi ((cs:Int),(b,(i:Int)))) (G9 cs (b.drop i)) i:=by
 unfold Zdi G9;simp only;by_cases h0:cs=0
 ·subst h0;rw[show iEq ((0:Nat):Int) 0=true from rfl,Ad,Yaz hl hi,Aa,if_pos rfl];exact Zf2
 rw[Dp (by omega),Ac,if_neg h0];by_cases h5:cs=5
 ·subst h5;rw[show iEq ((5:Nat):Int) 5=true from rfl,Ad,Yty hl hi,Aa,if_pos rfl];exact Zf2
 rw[Dp (by omega),Ac,if_neg h5,Bp hi,Aa,N9,Zpw (by omega) (by omega) (B1 _),Aa,Jp hi];cases hb:C7 cs b[i].toNat with
 | none=>simp only[hb,Kxb,Got,bsR];exact⟨_,_,rfl⟩
 | some n=>simp only[hb,Kha,Got,bsR];rw[C4 (by omega)]
theorem Ypd {cs i:Nat}{b:List UInt8}(hc:cs<=5) (hl:b.length<4611686018427387904) (hi:i<b.length):Got (Zcy ((cs:Int),(b,(i:Int)))) (G9 cs (b.drop i)) i:=by
 unfold Zcy G9;simp only;by_cases h0:cs=0
 ·subst h0;rw[show iEq ((0:Nat):Int) 0=true from rfl,Ad,Yph hl hi,Aa,if_pos rfl];exact Zf2
 rw[Dp (by omega),Ac,if_neg h0];by_cases h5:cs=5
 ·subst h5;rw[show iEq ((5:Nat):Int) 5=true from rfl,Ad,Ypb hl hi,Aa,if_pos rfl];exact Zf2
 rw[Dp (by omega),Ac,if_neg h5,Bp hi,Aa,N9,Yo8 (by omega) (by omega) (B1 _),Aa,Jp hi];cases hb:C7 cs b[i].toNat with
 | none=>simp only[hb,Kxb,Got,bsR];exact⟨_,_,rfl⟩
 | some n=>simp only[hb,Kha,Got,bsR];rw[C4 (by omega)]
def Fh (o:Option (List UInt8)):List UInt8×Bool:=match o with
 | some t=>(t,true)
 | none=>([],false)
theorem Ztv {cs:Nat}{b:List UInt8}(hc:cs<=5) (hl:b.length<=1048576){step:List UInt8×Int->Option ((List UInt8×Int) ⊕ (List UInt8 ⊕ (List UInt8×Bool)))}
  (hs:∀(out:List UInt8) (i:Nat),i<b.length->out.length<=4*i->(∀n k,G9 cs (b.drop i)=some (n,k)->step (out,(i:Int))=some (.inl (out++enc n,((i+k:Nat):Int))))/\(G9 cs (b.drop i)=none->step (out,(i:Int))=some (.inr (.inr ([],false)))))
  (he:∀out,step (out,(b.length:Int))=some (.inr (.inl out))) :
  Ao (Aw step ([],0)) (fun z=>some (z,true))=some (Fh (K0 cs b)):=by
 obtain⟨r,h1,h2⟩:=Zx0 (step:=step)
  (fun s=>∃(i:Nat) (ns:List Nat),s.2=(i:Int)/\i<=b.length/\s.1=E5 ns/\ns.length<=i/\Ha cs b=(Ha cs (b.drop i)).map (ns++·)) (fun s=>b.length-s.2.toNat)
  (fun r=>Ao (some r) (fun z=>some (z,true))=some (Fh (K0 cs b))) (by
   rintro ⟨out,j⟩ ⟨i,ns,rfl,hi,rfl,hn,hp⟩;simp only at hi hn hp ⊢;have ht:=Zbz ns;by_cases hlt:i<b.length
   ·obtain⟨q1,q2⟩:=hs (E5 ns) i hlt (by omega);cases hq:G9 cs (b.drop i) with
    | none =>
     right;refine⟨_,q2 hq, ?_⟩;rw[L4];have hne:b.drop i≠[]:=by rw[Jp hlt];exact Kff _ _
     rw[Zbs hc hne,hq]at hp;simp only[Kxb]at hp;simp only[K0,hp,Kxb,Fh]
    | some x =>
     obtain⟨n,k⟩:=x;left;obtain⟨_,_,k1,k2⟩:=Xc hc hq;rw[Kma]at k2;refine⟨_,q1 n k hq,⟨i+k,ns++[n],rfl,by omega, ?_, ?_, ?_⟩, ?_⟩
     ·simp [E5]
     ·simp only[Kt,Kf,Ki];omega
     ·have hne:b.drop i≠[]:=by rw[Jp hlt];exact Kff _ _
      rw[hp,Zbs hc hne,hq];simp only[Kbd,Option.map_map];congr 1;funext l;simp
     simp only[Knb];omega
   ·have hie:i=b.length:=by omega
    subst hie;right;refine⟨_,he _, ?_⟩;rw[Ar];rw[Kvg,Zp9]at hp;simp only[Kha,Kw]at hp;simp only[K0,hp,Kha,Fh]) ([],0) ⟨0,[],rfl,Kda _,rfl,Kc _,by
   rw[Kja];cases Ha cs b<;>simp⟩
 rw[h1];exact h2
theorem Ytv {cs:Nat}{b:List UInt8}(hc:cs<=5) (hl:b.length<=1048576):Zc0 ((cs:Int),b)=some (Fh (K0 cs b)):=by
 unfold Zc0 R8;simp only[E4,Aa];rw[show decide ((0:Int)<=(cs:Int)/\(cs:Int)<=5)=true by simp only[decide_eq_true_eq];omega,Av,Ac];refine Ztv hc hl ?_ ?_
 ·intro out i hi ho;have hg:=Yt2 hc (by omega) hi;unfold Zjq;simp only;rw[A3 (by rw[Ak];omega),Ad];refine⟨fun n k hq=>?_,fun hq=>?_⟩
  ·rw[hq]at hg;simp only[Got]at hg;obtain⟨hs,_,_,_⟩:=Xc hc hq;rw[hg,Aa];simp only[Av,Ac];rw[Zhz (by omega),Aa,show sgn (n:Int)=true by simp [sgn,hs]];simp
  rw[hq]at hg;obtain⟨p,q,hg⟩:=hg;rw[hg,Aa];rfl
 intro out;unfold Zjq;simp only;rw[A6 (by rw[Ak];exact Koc _),Ac]
theorem Yo9 {cs:Nat}{b:List UInt8}(hc:cs<=5) (hl:b.length<=1048576):Zcp ((cs:Int),b)=some (Fh (K0 cs b)):=by
 unfold Zcp Zcv;simp only[G1,Aa];rw[show decide ((0:Int)<=(cs:Int)/\(cs:Int)<=5)=true by simp only[decide_eq_true_eq];omega,Av,Ac];refine Ztv hc hl ?_ ?_
 ·intro out i hi ho;have hg:=Ypd hc (by omega) hi;unfold Zjj;simp only;rw[A3 (by rw[Ak];omega),Ad];refine⟨fun n k hq=>?_,fun hq=>?_⟩
  ·rw[hq]at hg;simp only[Got]at hg;obtain⟨hs,_,_,_⟩:=Xc hc hq;rw[hg,Aa];simp only[Av,Ac];rw[Ypm (by omega),Aa,show sgn (n:Int)=true by simp [sgn,hs]];simp
  rw[hq]at hg;obtain⟨p,q,hg⟩:=hg;rw[hg,Aa];rfl
 intro out;unfold Zjj;simp only;rw[A6 (by rw[Ak];exact Koc _),Ac]
end
end Go.Vs
