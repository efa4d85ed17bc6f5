import Derived.Test.YtmpopjdcbabchaaGreatDoorVsW5
import Derived.Test.YtmpopjdcbabchaaGreatDoorVsPu
set_option linter.all false
namespace Go.Vs
noncomputable section
def isSign (n:Nat):Bool:=decide (n<=1114111/\¬(55296<=n/\n<=57343))
def yN (n:Nat):UInt8:=UInt8.ofNat n
theorem yN_toNat {n:Nat}(h:n<256):(yN n).toNat=n:=by simp [yN,UInt8.toNat_ofNat',Nat.mod_eq_of_lt h]
theorem yN_of {b:UInt8}{n:Nat}(h:b.toNat=n):yN n=b:=by subst h;simp [yN]
theorem y_lt (b:UInt8):b.toNat<256:=b.toNat_lt
def enc (n:Nat):List UInt8 :=
 if n<128 then [yN n]
 else if n<2048 then [yN (192+n / 64),yN (128+n%64)]
 else if n<65536 then [yN (224+n / 4096),yN (128+n / 64%64),yN (128+n%64)]
 else [yN (240+n / 262144),yN (128+n / 4096%64),yN (128+n / 64%64),yN (128+n%64)]
def isCont (b:UInt8):Bool:=decide (128<=b.toNat/\b.toNat<192)
def dec2 (b0:UInt8):List UInt8->Option (Nat×Nat)
 | b1::_=>if isCont b1 then some (b0.toNat%32*64+b1.toNat%64,2) else none
 | _=>none
def low3 (b0:UInt8):Nat:=if b0.toNat=224 then 160 else 128
def hi3 (b0:UInt8):Nat:=if b0.toNat=237 then 159 else 191
def low4 (b0:UInt8):Nat:=if b0.toNat=240 then 144 else 128
def hi4 (b0:UInt8):Nat:=if b0.toNat=244 then 143 else 191
def dec3 (b0:UInt8):List UInt8->Option (Nat×Nat)
 | b1::b2::_=>if low3 b0<=b1.toNat/\b1.toNat<=hi3 b0/\isCont b2=true then some (b0.toNat%16*4096+b1.toNat%64*64+b2.toNat%64,3) else none
 | _=>none
def dec4 (b0:UInt8):List UInt8->Option (Nat×Nat)
 | b1::b2::b3::_=>if low4 b0<=b1.toNat/\b1.toNat<=hi4 b0/\isCont b2=true/\isCont b3=true then some (b0.toNat%8*262144+b1.toNat%64*4096+b2.toNat%64*64+b3.toNat%64,4) else none
 | _=>none
def dec:List UInt8->Option (Nat×Nat)
 | []=>none
 | b0::r =>
  if b0.toNat<128 then some (b0.toNat,1)
  else if b0.toNat<194 then none
  else if b0.toNat<224 then dec2 b0 r
  else if b0.toNat<240 then dec3 b0 r
  else if b0.toNat<245 then dec4 b0 r
  else none
theorem enc_dec {l:List UInt8}{n k:Nat}(h:dec l=some (n,k)):isSign n=true/\enc n=l.take k/\1<=k/\k<=l.length:=by
 match l,h with
 | [],h=>simp [dec]at h
 | b0::r,h =>
 have h0:=y_lt b0
 simp only[dec]at h
 split at h
 ·simp only[Option.some.injEq,Prod.mk.injEq]at h
  obtain⟨rfl,rfl⟩:=h
  refine⟨by simp [isSign];omega, ?_,Nat.le_refl _,by simp⟩
  rename_i hb
  rw[enc,if_pos hb,yN_of rfl];rfl
 split at h
 ·cases h
 split at h
 ·match r,h with
  | [],h=>simp [dec2]at h
  | b1::r,h =>
  have h1:=y_lt b1
  simp only[dec2]at h
  split at h
  ·rename_i hc
   simp only[isCont,decide_eq_true_eq]at hc
   simp only[Option.some.injEq,Prod.mk.injEq]at h
   obtain⟨rfl,rfl⟩:=h
   refine⟨by simp only[isSign,decide_eq_true_eq];omega, ?_,by omega,by simp⟩
   rw[enc,if_neg (by omega),if_pos (by omega),yN_of (b:=b0) (by omega),yN_of (b:=b1) (by omega)];rfl
  ·cases h
 split at h
 ·match r,h with
  | [],h=>simp [dec3]at h
  | [_],h=>simp [dec3]at h
  | b1::b2::r,h =>
  have h1:=y_lt b1
  have h2:=y_lt b2
  simp only[dec3]at h
  split at h
  ·rename_i hc
   simp only[isCont,decide_eq_true_eq,low3,hi3]at hc
   obtain⟨c1,c2,c3⟩:=hc
   simp only[Option.some.injEq,Prod.mk.injEq]at h
   obtain⟨rfl,rfl⟩:=h
   split at c1<;>split at c2 <;>
   ·refine⟨by simp only[isSign,decide_eq_true_eq];omega, ?_,by omega,by simp⟩
    rw[enc,if_neg (by omega),if_neg (by omega),if_pos (by omega),yN_of (b:=b0) (by omega),yN_of (b:=b1) (by omega),yN_of (b:=b2) (by omega)];rfl
  ·cases h
 split at h
 ·match r,h with
  | [],h=>simp [dec4]at h
  | [_],h=>simp [dec4]at h
  | [_,_],h=>simp [dec4]at h
  | b1::b2::b3::r,h =>
  have h1:=y_lt b1
  have h2:=y_lt b2
  have h3:=y_lt b3
  simp only[dec4]at h
  split at h
  ·rename_i hc
   simp only[isCont,decide_eq_true_eq,low4,hi4]at hc
   obtain⟨c1,c2,c3,c4⟩:=hc
   simp only[Option.some.injEq,Prod.mk.injEq]at h
   obtain⟨rfl,rfl⟩:=h
   split at c1<;>split at c2 <;>
   ·refine⟨by simp only[isSign,decide_eq_true_eq];omega, ?_,by omega,by simp⟩
    rw[enc,if_neg (by omega),if_neg (by omega),if_neg (by omega),yN_of (b:=b0) (by omega),yN_of (b:=b1) (by omega),yN_of (b:=b2) (by omega),yN_of (b:=b3) (by omega)];rfl
  ·cases h
 ·cases h
theorem dec_enc {n:Nat}(h:isSign n=true) (r:List UInt8):dec (enc n++r)=some (n,(enc n).length):=by
 simp only[isSign,decide_eq_true_eq]at h
 unfold enc
 split
 ·have e:=yN_toNat (n:=n) (by omega)
  simp only[List.cons_append,List.nil_append,dec,e]
  rw[if_pos (by omega)];rfl
 split
 ·have e0:=yN_toNat (n:=192+n / 64) (by omega)
  have e1:=yN_toNat (n:=128+n%64) (by omega)
  simp only[List.cons_append,List.nil_append,dec,e0]
  rw[if_neg (by omega),if_neg (by omega),if_pos (by omega)]
  simp only[dec2,isCont,e0,e1]
  rw[if_pos (by simp only[decide_eq_true_eq];omega)]
  simp only[List.length_cons,List.length_nil]
  congr 2;omega
 split
 ·have e0:=yN_toNat (n:=224+n / 4096) (by omega)
  have e1:=yN_toNat (n:=128+n / 64%64) (by omega)
  have e2:=yN_toNat (n:=128+n%64) (by omega)
  simp only[List.cons_append,List.nil_append,dec,e0]
  rw[if_neg (by omega),if_neg (by omega),if_neg (by omega),if_pos (by omega)]
  simp only[dec3,isCont,e0,e1,e2,low3,hi3,decide_eq_true_eq]
  rw[if_pos (by refine⟨?_, ?_,by omega⟩<;>split<;>omega)]
  simp only[List.length_cons,List.length_nil]
  congr 2;omega
 ·have e0:=yN_toNat (n:=240+n / 262144) (by omega)
  have e1:=yN_toNat (n:=128+n / 4096%64) (by omega)
  have e2:=yN_toNat (n:=128+n / 64%64) (by omega)
  have e3:=yN_toNat (n:=128+n%64) (by omega)
  simp only[List.cons_append,List.nil_append,dec,e0]
  rw[if_neg (by omega),if_neg (by omega),if_neg (by omega),if_neg (by omega),if_pos (by omega)]
  simp only[dec4,isCont,e0,e1,e2,e3,low4,hi4,decide_eq_true_eq]
  rw[if_pos (by refine⟨?_, ?_,by omega⟩<;>split<;>omega)]
  simp only[List.length_cons,List.length_nil]
  congr 2;omega
theorem enc_len {n:Nat}:1<=(enc n).length/\(enc n).length<=4:=by
 unfold enc;split
 ·simp
 split
 ·simp
 split<;>simp
theorem wrap_small {k:IntKind}{n:Nat}(h:n<2^(k.bits-1)):k.wrap (n:Int)=(n:Int):=by
 have hp:(2:Nat)^(k.bits-1)<=2^k.bits:=Nat.pow_le_pow_right (by decide) (by omega)
 have e1:((2:Int)^(k.bits-1))=((2^(k.bits-1):Nat):Int):=by simp
 have e2:((2:Int)^k.bits)=((2^k.bits:Nat):Int):=by simp
 have e3:((n:Int)%((2^k.bits:Nat):Int))=(n:Int):=Int.emod_eq_of_lt (by omega) (by omega)
 simp only[IntKind.wrap,e1,e2,e3]
 rw[if_neg]
 simp only[Bool.and_eq_true,decide_eq_true_eq]
 omega
theorem wrap_u8 {n:Nat}(h:n<256):IntKind.u8.wrap (n:Int)=(n:Int):=by
 have e1:IntKind.u8.bits=8:=rfl
 have e2:IntKind.u8.signed=false:=rfl
 simp only[IntKind.wrap,e1,e2,Bool.false_and,Bool.false_eq_true,if_false]
 exact Int.emod_eq_of_lt (by omega) (by simp;omega)
theorem ofInt_toNat {m a:Nat}(h:a<2^m):(BitVec.ofInt m (a:Int)).toNat=a:=by
 rw[ofInt_nat,BitVec.toNat_ofNat,Nat.mod_eq_of_lt h]
section
variable {k:IntKind} {a b:Nat}
theorem lt_bits (h:a<2^(k.bits-1)):a<2^k.bits:=Nat.lt_of_lt_of_le h (Nat.pow_le_pow_right (by decide) (by omega))
theorem iAnd_s (ha:a<2^(k.bits-1)) (hb:b<2^(k.bits-1)):iAnd k (a:Int) (b:Int)=((a&&&b:Nat):Int):=by
 unfold iAnd
 rw[BitVec.toNat_and,ofInt_toNat (lt_bits ha),ofInt_toNat (lt_bits hb)]
 exact wrap_small (Nat.lt_of_le_of_lt Nat.and_le_left ha)
theorem iOr_s (ha:a<2^(k.bits-1)) (hb:b<2^(k.bits-1)):iOr k (a:Int) (b:Int)=((a ||| b:Nat):Int):=by
 unfold iOr
 rw[BitVec.toNat_or,ofInt_toNat (lt_bits ha),ofInt_toNat (lt_bits hb)]
 exact wrap_small (Nat.or_lt_two_pow ha hb)
theorem iShl_s {s:Nat}(hs:s<=k.bits) (h:a*2^s<2^(k.bits-1)):iShl k (a:Int) (s:Int)=((a*2^s:Nat):Int):=by
 unfold iShl
 rw[Int.toNat_natCast,Nat.min_eq_left hs]
 rw[show (a:Int)*2^s=((a*2^s:Nat):Int) by simp]
 exact wrap_small h
theorem iShr_s {s:Nat}(hs:s<=k.bits):iShr k (a:Int) (s:Int)=((a / 2^s:Nat):Int):=by
 unfold iShr
 rw[Int.toNat_natCast,Nat.min_eq_left hs,Int.fdiv_eq_ediv_of_nonneg _ (Int.pow_nonneg (by decide))]
 simp
theorem iConv_s (h:a<2^(k.bits-1)):iConv k (a:Int)=(a:Int):=wrap_small h
end
theorem iAnd_8 {a b:Nat}(ha:a<256) (hb:b<256):iAnd .u8 (a:Int) (b:Int)=((a&&&b:Nat):Int):=by
 unfold iAnd
 rw[BitVec.toNat_and,ofInt_toNat (m:=IntKind.u8.bits) ha,ofInt_toNat (m:=IntKind.u8.bits) hb]
 exact wrap_u8 (Nat.lt_of_le_of_lt Nat.and_le_left ha)
theorem iOr_8 {a b:Nat}(ha:a<256) (hb:b<256):iOr .u8 (a:Int) (b:Int)=((a ||| b:Nat):Int):=by
 unfold iOr
 rw[BitVec.toNat_or,ofInt_toNat (m:=IntKind.u8.bits) ha,ofInt_toNat (m:=IntKind.u8.bits) hb]
 exact wrap_u8 (Nat.or_lt_two_pow (n:=8) ha hb)
theorem u8_n (n:Nat):u8 (n:Int)=yN n:=rfl
theorem y2i_n (b:UInt8):y2i b=(b.toNat:Int):=rfl
theorem and_mask {a j m:Nat}(hm:m=2^j-1):a&&&m=a%2^j:=by rw[hm,Nat.and_two_pow_sub_one_eq_mod]
theorem or_plus {a b j:Nat}(hb:b<2^j):a*2^j ||| b=a*2^j+b:=by
 have:=Nat.shiftLeft_add_eq_or_of_lt hb a
 rw[Nat.shiftLeft_eq]at this
 exact this.symm
def koiL:List Nat:=[0x44e,0x430,0x431,0x446,0x434,0x435,0x444,0x433,0x445,0x438,0x439,0x43a,0x43b,0x43c,0x43d,0x43e,0x43f,0x44f,0x440,0x441,0x442,0x443,0x436,0x432,0x44c,0x44b,0x437,0x448,0x44d,0x449,0x447,0x44a]
def winL:List Nat:=[0x20ac,0,0x201a,0x192,0x201e,0x2026,0x2020,0x2021,0x2c6,0x2030,0x160,0x2039,0x152,0,0x17d,0,0,0x2018,0x2019,0x201c,0x201d,0x2022,0x2013,0x2014,0x2dc,0x2122,0x161,0x203a,0x153,0,0x17e,0x178]
def hiSign (cs b:Nat):Nat :=
 if cs=2 then (if b=0xa4 then 0x20ac else if b=0xa6 then 0x160 else if b=0xa8 then 0x161 else if b=0xb4 then 0x17d else if b=0xb8 then 0x17e else if b=0xbc then 0x152 else if b=0xbd then 0x153 else if b=0xbe then 0x178 else b)
 else if cs=3 then (if 0xe0<=b then koiL.getD (b-0xe0) 0-0x20 else if 0xc0<=b then koiL.getD (b-0xc0) 0 else if b=0xa3 then 0x451 else if b=0xb3 then 0x401 else 0)
 else if cs=4 then (if 0xa0<=b then b else winL.getD (b-0x80) 0)
 else b
def byteSign (cs b:Nat):Option Nat :=
 if b<128 then some b else if hiSign cs b=0 then none else some (hiSign cs b)
def signFrom (cs n:Nat):Nat->Nat->Option Nat
 | 0,_=>none
 | k+1,b=>if byteSign cs b=some n then some b else signFrom cs n k (b+1)
def signByte (cs n:Nat):Option Nat:=signFrom cs n 256 0
theorem signFrom_some {cs n:Nat}:∀{k b x:Nat},signFrom cs n k b=some x->byteSign cs x=some n/\b<=x/\x<b+k
 | 0,_,_,h=>by simp [signFrom]at h
 | k+1,b,x,h=>by
  simp only[signFrom]at h
  split at h
  ·rename_i hb
   simp only[Option.some.injEq]at h;subst h
   exact⟨hb,by omega,by omega⟩
  ·obtain⟨h1,h2,h3⟩:=signFrom_some h
   exact⟨h1,by omega,by omega⟩
theorem signFrom_inj {cs n:Nat}:∀{k b x:Nat},b<=x->x<b+k->byteSign cs x=some n->(∀y,b<=y->y<x->byteSign cs y≠some n)->signFrom cs n k b=some x
 | 0,_,_,h1,h2,_,_=>by omega
 | k+1,b,x,h1,h2,h3,h4=>by
  simp only[signFrom]
  by_cases hx:b=x
  ·subst hx;rw[if_pos h3]
  ·rw[if_neg (h4 b (Nat.le_refl _) (by omega))]
   exact signFrom_inj (by omega) (by omega) h3 fun y hy=>h4 y (by omega)
def nodupZ:List Nat->Bool
 | []=>true
 | x::l=>(Nat.beq x 0||!l.any (Nat.beq x))&&nodupZ l
theorem nodupZ_ok:∀{l:List Nat}{i j x:Nat},nodupZ l=true->l[i]? = some x->l[j]? = some x->x≠0->i=j
 | [],i,j,x,_,h,_,_=>by simp at h
 | y::l,i,j,x,h,h1,h2,h0=>by
  simp only[nodupZ,Bool.and_eq_true,Bool.or_eq_true,Bool.not_eq_true']at h
  obtain⟨ha,hb⟩:=h
  have out:y=x->∀k:Nat,l[k]?≠some x:=by
   rintro rfl k hk
   rcases ha with ha|ha
   ·exact h0 (Nat.eq_of_beq_eq_true ha)
   ·have:l.any (Nat.beq y)=true:=List.any_eq_true.2 ⟨y,List.mem_of_getElem? hk,Nat.beq_refl y⟩
    rw[this]at ha;cases ha
  cases i with
  | zero =>
   simp only[List.getElem?_cons_zero,Option.some.injEq]at h1
   cases j with
   | zero=>rfl
   | succ j=>exact (out h1 j (by simpa using h2)).elim
  | succ i =>
   cases j with
   | zero =>
    simp only[List.getElem?_cons_zero,Option.some.injEq]at h2
    exact (out h2 i (by simpa using h1)).elim
   | succ j=>exact congrArg Nat.succ (nodupZ_ok hb (by simpa using h1) (by simpa using h2) h0)
def hiTab (cs:Nat):List Nat:=(List.range 128).map fun i=>hiSign cs (i+128)
theorem hiTab_1:(nodupZ (hiTab 1)&&(hiTab 1).all fun x=>Nat.beq x 0||Nat.ble 128 x&&isSign x)=true:=by decide +kernel
theorem hiTab_2:(nodupZ (hiTab 2)&&(hiTab 2).all fun x=>Nat.beq x 0||Nat.ble 128 x&&isSign x)=true:=by decide +kernel
theorem hiTab_3:(nodupZ (hiTab 3)&&(hiTab 3).all fun x=>Nat.beq x 0||Nat.ble 128 x&&isSign x)=true:=by decide +kernel
theorem hiTab_4:(nodupZ (hiTab 4)&&(hiTab 4).all fun x=>Nat.beq x 0||Nat.ble 128 x&&isSign x)=true:=by decide +kernel
theorem hiTab_ok {cs:Nat}(h1:1<=cs) (h4:cs<=4):nodupZ (hiTab cs)=true/\∀b,128<=b->b<256->(hiTab cs)[b-128]? = some (hiSign cs b)/\(hiSign cs b=0\/(128<=hiSign cs b/\isSign (hiSign cs b)=true)):=by
 have key:(nodupZ (hiTab cs)&&(hiTab cs).all fun x=>Nat.beq x 0||Nat.ble 128 x&&isSign x)=true:=by
  rcases (show cs=1\/cs=2\/cs=3\/cs=4 by omega) with rfl|rfl|rfl|rfl
  ·exact hiTab_1
  ·exact hiTab_2
  ·exact hiTab_3
  ·exact hiTab_4
 simp only[Bool.and_eq_true]at key
 refine⟨key.1,fun b h5 h6=>?_⟩
 have e:(hiTab cs)[b-128]? = some (hiSign cs b):=by
  simp only[hiTab,List.getElem?_map,List.getElem?_range (show b-128<128 by omega),Option.map_some]
  rw[show b-128+128=b by omega]
 refine⟨e, ?_⟩
 have:=List.all_eq_true.1 key.2 _ (List.mem_of_getElem? e)
 simp only[Bool.or_eq_true,Bool.and_eq_true]at this
 rcases this with h|h
 ·exact .inl (Nat.eq_of_beq_eq_true h)
 ·exact .inr ⟨Nat.le_of_ble_eq_true h.1,h.2⟩
theorem byte_inj {cs b c n:Nat}(h1:1<=cs) (h4:cs<=4) (hb:b<256) (hc:c<256) (h:byteSign cs b=some n) (k:byteSign cs c=some n):b=c:=by
 obtain⟨t1,t2⟩:=hiTab_ok h1 h4
 unfold byteSign at h k
 split at h
 ·simp only[Option.some.injEq]at h
  split at k
  ·simp only[Option.some.injEq]at k;omega
  ·split at k
   ·cases k
   ·simp only[Option.some.injEq]at k
    rcases (t2 c (by omega) hc).2 with q|q<;>omega
 ·split at h
  ·cases h
  ·simp only[Option.some.injEq]at h
   split at k
   ·simp only[Option.some.injEq]at k
    rcases (t2 b (by omega) hb).2 with q|q<;>omega
   ·split at k
    ·cases k
    ·simp only[Option.some.injEq]at k
     have e1:=(t2 b (by omega) hb).1
     have e2:=(t2 c (by omega) hc).1
     have hn:n≠0:=by omega
     rw[h]at e1;rw[k]at e2
     have:=nodupZ_ok t1 e1 e2 hn
     omega
theorem signByte_of {cs b n:Nat}(h1:1<=cs) (h4:cs<=4) (hb:b<256) (h:byteSign cs b=some n):signByte cs n=some b :=
 signFrom_inj (Nat.zero_le _) (by omega) h fun y _ hy k=>by have:=byte_inj h1 h4 (by omega) hb k h;omega
theorem of_signByte {cs b n:Nat}(h:signByte cs n=some b):byteSign cs b=some n/\b<256:=by
 obtain⟨a,_,c⟩:=signFrom_some h
 exact⟨a,by omega⟩
theorem byte_isSign {cs b n:Nat}(h1:1<=cs) (h4:cs<=4) (hb:b<256) (h:byteSign cs b=some n):isSign n=true:=by
 unfold byteSign at h
 split at h
 ·simp only[Option.some.injEq]at h
  simp only[isSign,decide_eq_true_eq];omega
 ·split at h
  ·cases h
  ·simp only[Option.some.injEq]at h
   rcases ((hiTab_ok h1 h4).2 b (by omega) hb).2 with q|q
   ·omega
   ·rw[<-h];exact q.2
def eucSign:List UInt8->Option (Nat×Nat)
 | []=>none
 | b0::r=>if b0.toNat<128 then some (b0.toNat,1) else match r with
  | []=>none
  | b1::_=>if b0.toNat=0xa4/\0xa1<=b1.toNat/\b1.toNat<=0xf3 then some (0x3041+(b1.toNat-0xa1),2)
   else if b0.toNat=0xa5/\0xa1<=b1.toNat/\b1.toNat<=0xf6 then some (0x30a1+(b1.toNat-0xa1),2) else none
theorem eucSign_a4 {x y:UInt8}{r:List UInt8}(hx:x.toNat=0xa4) (hy:0xa1<=y.toNat/\y.toNat<=0xf3):eucSign (x::y::r)=some (0x3041+(y.toNat-0xa1),2):=by
 simp only[eucSign]
 rw[if_neg (by omega),if_pos ⟨hx,hy⟩]
theorem eucSign_a5 {x y:UInt8}{r:List UInt8}(hx:x.toNat=0xa5) (hy:0xa1<=y.toNat/\y.toNat<=0xf6):eucSign (x::y::r)=some (0x30a1+(y.toNat-0xa1),2):=by
 simp only[eucSign]
 rw[if_neg (by omega),if_neg (by omega),if_pos ⟨hx,hy⟩]
def eucPut (n:Nat):Option (List UInt8) :=
 if n<128 then some [yN n]
 else if 0x3041<=n/\n<=0x3093 then some [yN 0xa4,yN (n-0x3041+0xa1)]
 else if 0x30a1<=n/\n<=0x30f6 then some [yN 0xa5,yN (n-0x30a1+0xa1)]
 else none
def signIn (cs:Nat) (l:List UInt8):Option (Nat×Nat) :=
 if cs=0 then dec l else if cs=5 then eucSign l else match l with
  | []=>none
  | b::_=>(byteSign cs b.toNat).map fun n=>(n,1)
def putIn (cs n:Nat):Option (List UInt8) :=
 if cs=0 then (if isSign n then some (enc n) else none) else if cs=5 then eucPut n else (signByte cs n).map fun b=>[yN b]
theorem sign_put {cs:Nat}{l:List UInt8}{n k:Nat}(hc:cs<=5) (h:signIn cs l=some (n,k)):isSign n=true/\putIn cs n=some (l.take k)/\1<=k/\k<=l.length:=by
 unfold signIn at h
 unfold putIn
 split at h
 ·rename_i h0
  obtain⟨a,b,c,d⟩:=enc_dec h
  rw[if_pos h0,if_pos a,b]
  exact⟨a,rfl,c,d⟩
 split at h
 ·rename_i h0 h5
  rw[if_neg h0,if_pos h5]
  match l,h with
  | [],h=>simp [eucSign]at h
  | b0::r,h =>
  have hb0:=y_lt b0
  simp only[eucSign]at h
  split at h
  ·rename_i hb
   simp only[Option.some.injEq,Prod.mk.injEq]at h
   obtain⟨rfl,rfl⟩:=h
   refine⟨by simp only[isSign,decide_eq_true_eq];omega, ?_,Nat.le_refl _,by simp⟩
   rw[eucPut,if_pos hb,yN_of rfl];rfl
  ·match r,h with
   | [],h=>simp at h
   | b1::r,h =>
   have hb1:=y_lt b1
   simp only at h
   split at h
   ·rename_i hb
    simp only[Option.some.injEq,Prod.mk.injEq]at h
    obtain⟨rfl,rfl⟩:=h
    refine⟨by simp only[isSign,decide_eq_true_eq];omega, ?_,by omega,by simp⟩
    rw[eucPut,if_neg (by omega),if_pos (by omega),yN_of (b:=b0) (by omega),yN_of (b:=b1) (by omega)];rfl
   ·split at h
    ·rename_i hb
     simp only[Option.some.injEq,Prod.mk.injEq]at h
     obtain⟨rfl,rfl⟩:=h
     refine⟨by simp only[isSign,decide_eq_true_eq];omega, ?_,by omega,by simp⟩
     rw[eucPut,if_neg (by omega),if_neg (by omega),if_pos (by omega),yN_of (b:=b0) (by omega),yN_of (b:=b1) (by omega)];rfl
    ·cases h
 ·rename_i h0 h5
  rw[if_neg h0,if_neg h5]
  match l,h with
  | [],h=>simp at h
  | b::r,h =>
  simp only[Option.map_eq_some_iff,Prod.mk.injEq]at h
  obtain⟨m,hm,rfl,rfl⟩:=h
  refine⟨byte_isSign (by omega) (by omega) (y_lt b) hm, ?_,Nat.le_refl _,by simp⟩
  rw[signByte_of (by omega) (by omega) (y_lt b) hm,Option.map_some,yN_of rfl];rfl
theorem put_sign {cs n:Nat}{b:List UInt8}(hc:cs<=5) (h:putIn cs n=some b) (r:List UInt8):signIn cs (b++r)=some (n,b.length)/\1<=b.length/\b.length<=4:=by
 unfold putIn at h
 unfold signIn
 split at h
 ·rename_i h0
  rw[if_pos h0]
  split at h
  ·rename_i hs
   simp only[Option.some.injEq]at h;subst h
   exact⟨dec_enc hs r,enc_len⟩
  ·cases h
 split at h
 ·rename_i h0 h5
  rw[if_neg h0,if_pos h5]
  unfold eucPut at h
  split at h
  ·rename_i hn
   simp only[Option.some.injEq]at h;subst h
   simp only[List.cons_append,List.nil_append,eucSign,yN_toNat (n:=n) (by omega)]
   rw[if_pos hn];simp
  split at h
  ·rename_i hn
   simp only[Option.some.injEq]at h;subst h
   have e0:=yN_toNat (n:=0xa4) (by omega)
   have e1:=yN_toNat (n:=n-0x3041+0xa1) (by omega)
   rw[List.cons_append,List.cons_append,List.nil_append,eucSign_a4 e0 (by rw[e1];omega),e1,show 0x3041+(n-0x3041+0xa1-0xa1)=n by omega]
   exact⟨rfl,by simp,by simp⟩
  split at h
  ·rename_i hn
   simp only[Option.some.injEq]at h;subst h
   have e0:=yN_toNat (n:=0xa5) (by omega)
   have e1:=yN_toNat (n:=n-0x30a1+0xa1) (by omega)
   rw[List.cons_append,List.cons_append,List.nil_append,eucSign_a5 e0 (by rw[e1];omega),e1,show 0x30a1+(n-0x30a1+0xa1-0xa1)=n by omega]
   exact⟨rfl,by simp,by simp⟩
  ·cases h
 ·rename_i h0 h5
  rw[if_neg h0,if_neg h5]
  simp only[Option.map_eq_some_iff]at h
  obtain⟨x,hx,rfl⟩:=h
  obtain⟨hb,hlt⟩:=of_signByte hx
  simp only[List.cons_append,List.nil_append,yN_toNat hlt,hb,Option.map_some]
  exact⟨rfl,by simp,by simp⟩
def signsF (cs:Nat):Nat->List UInt8->Option (List Nat)
 | _,[]=>some []
 | 0,_::_=>none
 | k+1,l=>match signIn cs l with
  | none=>none
  | some (n,j)=>(signsF cs k (l.drop j)).map (n::·)
def signsL (cs:Nat) (l:List UInt8):Option (List Nat):=signsF cs l.length l
def textOf (ns:List Nat):List UInt8:=ns.flatMap enc
def putAll (cs:Nat):List Nat->Option (List UInt8)
 | []=>some []
 | n::ns=>match putIn cs n,putAll cs ns with
  | some b,some r=>some (b++r)
  | _,_=>none
theorem signsF_more {cs:Nat}(hc:cs<=5):∀(k j:Nat) (l:List UInt8),l.length<=k->l.length<=j->signsF cs k l=signsF cs j l
 | 0,0,_,_,_=>rfl
 | k,j,[],_,_=>by cases k<;>cases j<;>rfl
 | 0,_+1,_::_,h,_=>by simp at h
 | _+1,0,_::_,_,h=>by simp at h
 | k+1,j+1,b::r,h1,h2=>by
  simp only[signsF]
  cases hs:signIn cs (b::r) with
  | none=>rfl
  | some x =>
   obtain⟨n,i⟩:=x
   obtain⟨_,_,hi,_⟩:=sign_put hc hs
   simp only
   rw[signsF_more hc k j _ (by simp only[List.length_drop,List.length_cons]at *;omega) (by simp only[List.length_drop,List.length_cons]at *;omega)]
theorem signsL_nil (cs:Nat):signsL cs []=some []:=rfl
theorem signsL_step {cs:Nat}(hc:cs<=5){l:List UInt8}(hl:l≠[]):signsL cs l=match signIn cs l with
  | none=>none
  | some (n,j)=>(signsL cs (l.drop j)).map (n::·):=by
 match l,hl with
 | b::r,_ =>
 unfold signsL
 simp only[List.length_cons,signsF]
 cases hs:signIn cs (b::r) with
 | none=>rfl
 | some x =>
  obtain⟨n,i⟩:=x
  obtain⟨_,_,hi,_⟩:=sign_put hc hs
  simp only
  rw[signsF_more hc r.length ((b::r).drop i).length _ (by simp only[List.length_drop,List.length_cons];omega) (Nat.le_refl _)]
theorem putAll_of {cs:Nat}(hc:cs<=5):∀(k:Nat){l:List UInt8}{ns:List Nat},l.length<=k->signsL cs l=some ns->putAll cs ns=some l/\∀n∈ns,isSign n=true
 | k,[],ns,_,h=>by
  simp only[signsL_nil,Option.some.injEq]at h;subst h
  exact⟨rfl,by simp⟩
 | 0,b::r,ns,hk,h=>by simp at hk
 | k+1,b::r,ns,hk,h=>by
  rw[signsL_step hc (by simp)]at h
  cases hs:signIn cs (b::r) with
  | none=>rw[hs]at h;simp at h
  | some x =>
   obtain⟨n,j⟩:=x
   obtain⟨h1,h2,h3,h4⟩:=sign_put hc hs
   rw[hs]at h
   simp only[Option.map_eq_some_iff]at h
   obtain⟨ms,hms,rfl⟩:=h
   obtain⟨h5,h6⟩:=putAll_of hc k (by simp only[List.length_drop,List.length_cons]at *;omega) hms
   refine⟨?_, ?_⟩
   ·simp only[putAll,h2,h5,List.take_append_drop]
   ·intro m hm
    rcases List.mem_cons.1 hm with rfl|hm
    ·exact h1
    ·exact h6 m hm
theorem signsL_of {cs:Nat}(hc:cs<=5):∀{ns:List Nat}{l:List UInt8},putAll cs ns=some l->signsL cs l=some ns
 | [],l,h=>by simp only[putAll,Option.some.injEq]at h;subst h;rfl
 | n::ns,l,h=>by
  simp only[putAll]at h
  cases h1:putIn cs n with
  | none=>rw[h1]at h;simp at h
  | some b =>
   cases h2:putAll cs ns with
   | none=>rw[h1,h2]at h;simp at h
   | some r =>
    rw[h1,h2]at h
    simp only[Option.some.injEq]at h;subst h
    obtain⟨h3,h4,h5⟩:=put_sign hc h1 r
    have hne:b++r≠[]:=by cases b with
     | nil=>simp at h4
     | cons x y=>simp
    rw[signsL_step hc hne,h3]
    simp only[List.drop_left]
    rw[signsL_of hc h2];rfl
theorem putAll0:∀{ns:List Nat},(∀n∈ns,isSign n=true)->putAll 0 ns=some (textOf ns)
 | [],_=>rfl
 | n::ns,h=>by
  have h1:putIn 0 n=some (enc n):=by unfold putIn;rw[if_pos rfl,if_pos (h n (by simp))]
  simp only[putAll,h1,putAll0 fun m hm=>h m (List.mem_cons_of_mem _ hm),textOf,List.flatMap_cons]
theorem putAll_len {cs:Nat}(hc:cs<=5):∀{ns:List Nat}{l:List UInt8},putAll cs ns=some l->ns.length<=l.length
 | [],l,h=>by simp
 | n::ns,l,h=>by
  simp only[putAll]at h
  cases h1:putIn cs n with
  | none=>rw[h1]at h;simp at h
  | some b =>
   cases h2:putAll cs ns with
   | none=>rw[h1,h2]at h;simp at h
   | some r =>
    rw[h1,h2]at h
    simp only[Option.some.injEq]at h;subst h
    obtain⟨_,h4,_⟩:=put_sign hc h1 r
    have:=putAll_len hc h2
    simp only[List.length_cons,List.length_append];omega
theorem textOf_len (ns:List Nat):(textOf ns).length<=4*ns.length:=by
 induction ns with
 | nil=>simp [textOf]
 | cons n ns ih =>
  have:=(enc_len (n:=n)).2
  simp only[textOf,List.flatMap_cons,List.length_append,List.length_cons]at *
  omega
def decodeT (cs:Nat) (b:List UInt8):Option (List UInt8):=(signsL cs b).map textOf
def encodeT (cs:Nat) (t:List UInt8):Option (List UInt8):=(signsL 0 t).bind (putAll cs)
theorem decode_of_encode {cs:Nat}(hc:cs<=5){b t:List UInt8}(h:encodeT cs t=some b):decodeT cs b=some t:=by
 simp only[encodeT,Option.bind_eq_some_iff]at h
 obtain⟨ns,h1,h2⟩:=h
 obtain⟨h3,h4⟩:=putAll_of (cs:=0) (by omega) _ (Nat.le_refl _) h1
 rw[putAll0 h4]at h3
 simp only[Option.some.injEq]at h3
 simp only[decodeT,signsL_of hc h2,Option.map_some,h3]
theorem loop_meas {σ ρ:Type}{step:σ->Option (σ ⊕ ρ)}(inv:σ->Prop) (m:σ->Nat) (Q:ρ->Prop) (hs:∀s,inv s->(∃s',step s=some (.inl s')/\inv s'/\m s'<m s)\/∃r,step s=some (.inr r)/\Q r) (s0:σ) (h0:inv s0):∃r,loopX step s0=some r/\Q r:=by
 have key:∀k s,m s<=k->inv s->∃r,loopX step s=some r/\Q r:=by
  intro k
  induction k with
  | zero =>
   intro s hk h
   rcases hs s h with ⟨s',h1,h2,h3⟩|⟨r,h1,h2⟩
   ·omega
   ·exact⟨r,by rw[loopX_eq,h1],h2⟩
  | succ k ih =>
   intro s hk h
   rcases hs s h with ⟨s',h1,h2,h3⟩|⟨r,h1,h2⟩
   ·obtain⟨r,h4,h5⟩:=ih s' (by omega) h2
    exact⟨r,by rw[loopX_eq,h1];exact h4,h5⟩
   ·exact⟨r,by rw[loopX_eq,h1],h2⟩
 exact key (m s0) s0 (Nat.le_refl _) h0
theorem cnd_if {β:Type}{p:Prop} [Decidable p] (x y:Option β):cnd (decide p) x y=if p then x else y:=by
 by_cases h:p<;>simp [h]
theorem cnd_b {β:Type}{b:Bool}(x y:Option β):cnd b x y=if b=true then x else y:=by cases b<;>rfl
theorem s_In (x l h:Int):Zb (x,(l,h))=some (decide (l<=x/\x<=h)):=by
 unfold Zb
 simp only[iGe,iLe,cnd_if]
 split
 ·rename_i h1
  have:l<=x:=h1
  simp [this]
 ·rename_i h1
  have:¬l<=x:=h1
  simp [this]
theorem i_In (x l h:Int):Zg (x,(l,h))=some (decide (l<=x/\x<=h)):=s_In x l h
def sgn (x:Int):Bool:=decide (0<=x)&&isSign x.toNat
theorem s_SignOk (x:Int):Zba x=some (sgn x):=by
 unfold Zba
 simp only[s_In,bnd_s,cnd_if]
 split
 ·simp only[sgn,isSign,bNot]
  congr 1
  rw[Bool.eq_iff_iff]
  simp only[Bool.not_eq_true',decide_eq_false_iff_not,Bool.and_eq_true,decide_eq_true_eq]
  omega
 ·simp only[sgn,isSign]
  congr 1
  rw[Bool.eq_iff_iff]
  simp only[Bool.and_eq_true,decide_eq_true_eq,Bool.false_eq_true,false_iff]
  omega
theorem i_SignOk (x:Int):Zfn x=some (sgn x):=s_SignOk x
theorem conv_u8 (n:Nat):u8 (iConv .u8 (n:Int))=yN n:=by
 have e1:IntKind.u8.bits=8:=rfl
 have e2:IntKind.u8.signed=false:=rfl
 simp only[u8,iConv,IntKind.wrap,e1,e2,Bool.false_and,Bool.false_eq_true,if_false,yN]
 rw[show ((n:Int)%2^8)=((n%256:Nat):Int) by simp,Int.toNat_natCast]
 apply UInt8.toNat_inj.1
 simp [UInt8.toNat_ofNat']
theorem orc {c q j b:Nat}(hc:c=q*2^j) (hb:b<2^j) (h1:c<2^63) (h2:b<2^63):iOr .i64 (c:Int) (b:Int)=((c+b:Nat):Int):=by
 rw[iOr_s (k:=.i64) h1 h2,hc,or_plus hb]
theorem orc8 {c q j b:Nat}(hc:c=q*2^j) (hb:b<2^j) (h1:c<256) (h2:b<256):iOr .u8 (c:Int) (b:Int)=((c+b:Nat):Int):=by
 rw[iOr_8 h1 h2,hc,or_plus hb]
theorem and63 {n:Nat}(h:n<2^63):iAnd .i64 (n:Int) 63=((n%64:Nat):Int):=by
 have:=iAnd_s (k:=.i64) (a:=n) (b:=63) h (by decide)
 rw[and_mask (j:=6) (by decide)]at this
 exact this
theorem shr64 {n s:Nat}(hs:s<=64):iShr .i64 (n:Int) (s:Int)=((n / 2^s:Nat):Int):=iShr_s (k:=.i64) hs
theorem shr32 {n s:Nat}(hs:s<=32):iShr .i32 (n:Int) (s:Int)=((n / 2^s:Nat):Int):=iShr_s (k:=.i32) hs
theorem s_PutSign {b:List UInt8}{x:Int}(hb:b.length+4<=140737488355328):Zp (b,x)=some (b++if sgn x then enc x.toNat else []):=by
 unfold Zp
 simp only[lApp,List.nil_append,s_SignOk,bnd_s]
 rw[room_ok (by omega),chk_t]
 cases hs:sgn x with
 | false=>simp
 | true =>
  simp only[bNot_t,cnd_f]
  simp only[sgn,Bool.and_eq_true,decide_eq_true_eq]at hs
  obtain⟨h0,hs⟩:=hs
  obtain⟨n,rfl⟩:=Int.eq_ofNat_of_zero_le h0
  simp only[Int.toNat_natCast,isSign,decide_eq_true_eq]at hs ⊢
  have e6:iShr .i64 (n:Int) 6=((n / 64:Nat):Int):=shr64 (s:=6) (by omega)
  have e12:iShr .i64 (n:Int) 12=((n / 4096:Nat):Int):=shr64 (s:=12) (by omega)
  have e18:iShr .i64 (n:Int) 18=((n / 262144:Nat):Int):=shr64 (s:=18) (by omega)
  have l1:iOr .i64 128 (iAnd .i64 (n:Int) 63)=((128+n%64:Nat):Int):=by
   rw[and63 (by omega)];exact orc (c:=128) (q:=2) (j:=6) (by decide) (by omega) (by omega) (by omega)
  have l2:iOr .i64 128 (iAnd .i64 ((n / 64:Nat):Int) 63)=((128+n / 64%64:Nat):Int):=by
   rw[and63 (by omega)];exact orc (c:=128) (q:=2) (j:=6) (by decide) (by omega) (by omega) (by omega)
  have l3:iOr .i64 128 (iAnd .i64 ((n / 4096:Nat):Int) 63)=((128+n / 4096%64:Nat):Int):=by
   rw[and63 (by omega)];exact orc (c:=128) (q:=2) (j:=6) (by decide) (by omega) (by omega) (by omega)
  by_cases h1:n<128
  ·rw[iLe_y (by omega),cnd_t,room_ok (by omega),chk_t,conv_u8,enc,if_pos h1];rfl
  rw[iLe_n (by omega),cnd_f]
  by_cases h2:n<2048
  ·rw[iLe_y (by omega),cnd_t,room_ok (by omega),chk_t,enc,if_neg h1,if_pos h2,e6,l1]
   rw[show iOr .i64 192 ((n / 64:Nat):Int)=((192+n / 64:Nat):Int) from orc (c:=192) (q:=6) (j:=5) (by decide) (by omega) (by omega) (by omega),conv_u8,conv_u8];rfl
  rw[iLe_n (by omega),cnd_f]
  by_cases h3:n<65536
  ·rw[iLe_y (by omega),cnd_t,room_ok (by omega),chk_t,enc,if_neg h1,if_neg h2,if_pos h3,e12,e6,l1,l2]
   rw[show iOr .i64 224 ((n / 4096:Nat):Int)=((224+n / 4096:Nat):Int) from orc (c:=224) (q:=14) (j:=4) (by decide) (by omega) (by omega) (by omega),conv_u8,conv_u8,conv_u8];rfl
  ·rw[iLe_n (by omega),cnd_f,room_ok (by omega),chk_t,enc,if_neg h1,if_neg h2,if_neg h3,e18,e12,e6,l1,l2,l3]
   rw[show iOr .i64 240 ((n / 262144:Nat):Int)=((240+n / 262144:Nat):Int) from orc (c:=240) (q:=30) (j:=3) (by decide) (by omega) (by omega) (by omega),conv_u8,conv_u8,conv_u8,conv_u8];rfl
theorem joined1_ok {b:List UInt8}(hb:b.length<=140737488355328):Zci [b]=some b:=by
 unfold Zci
 rw[loop_exact (fun i=>(if i=0 then [] else b,(i:Int))) 1 (.inl b)]
 ·rfl
 ·intro i hi
  obtain rfl:i=0:=by omega
  show Zch [b] ([],0)=some (.inl (b,1))
  unfold Zch
  rw[iLt_y (by simp),cnd_t,show idx [b] (([],0):List UInt8×Int).2=some b from rfl,bnd_s,room_ok (by simp;omega),chk_t]
  rfl
 ·show Zch [b] (b,1)=some (.inr (.inl b))
  unfold Zch
  rw[iLt_n (by simp),cnd_f]
 ·rfl
theorem y2i_u8c (n:Nat) (h:n<256):y2i (u8 (n:Int))=(n:Int):=by rw[u8_n,y2i_n,yN_toNat h]
theorem y2i_conv (n:Nat):y2i (u8 (iConv .u8 (n:Int)))=((n%256:Nat):Int):=by
 rw[conv_u8,y2i_n,yN,UInt8.toNat_ofNat']
theorem i_PutSign {b:List UInt8}{x:Int}(hb:b.length+4<=140737488355328):Zdv (b,x)=some (b++if sgn x then enc x.toNat else []):=by
 unfold Zdv
 simp only[joined1_ok (show b.length<=140737488355328 by omega),bnd_s,i_SignOk]
 cases hs:sgn x with
 | false=>simp
 | true =>
  simp only[bNot_t,cnd_f,if_true]
  simp only[sgn,Bool.and_eq_true,decide_eq_true_eq]at hs
  obtain⟨h0,hs⟩:=hs
  obtain⟨n,rfl⟩:=Int.eq_ofNat_of_zero_le h0
  simp only[Int.toNat_natCast,isSign,decide_eq_true_eq]at hs ⊢
  have ec:iConv .i32 (n:Int)=(n:Int):=iConv_s (k:=.i32) (show n<2^31 by omega)
  have eu:iConv .u32 (n:Int)=(n:Int):=iConv_s (k:=.u32) (show n<2^31 by omega)
  have e6:iShr .i32 (n:Int) 6=((n / 64:Nat):Int):=shr32 (s:=6) (by omega)
  have e12:iShr .i32 (n:Int) 12=((n / 4096:Nat):Int):=shr32 (s:=12) (by omega)
  have e18:iShr .i32 (n:Int) 18=((n / 262144:Nat):Int):=shr32 (s:=18) (by omega)
  have lo:∀m:Nat,u8 (iOr .u8 (y2i (u8 128)) (y2i (u8 (iAnd .u8 (y2i (u8 (iConv .u8 (m:Int)))) (y2i (u8 63))))))=yN (128+m%64):=by
   intro m
   rw[y2i_conv,show y2i (u8 63)=((63:Nat):Int) from y2i_u8c 63 (by omega),show y2i (u8 128)=((128:Nat):Int) from y2i_u8c 128 (by omega)]
   rw[iAnd_8 (by omega) (by omega),and_mask (j:=6) (by decide),y2i_u8c _ (by omega)]
   rw[show m%256%2^6=m%64 by omega,orc8 (q:=2) (j:=6) (by decide) (by omega) (by omega) (by omega),u8_n]
  have hi:∀(c q j m:Nat),c=q*2^j->m<2^j->c<256->m<256->u8 (iOr .u8 (y2i (u8 (c:Int))) (y2i (u8 (iConv .u8 (m:Int)))))=yN (c+m):=by
   intro c q j m h1 h2 h3 h4
   rw[y2i_conv,y2i_u8c c h3,Nat.mod_eq_of_lt h4,orc8 h1 h2 h3 h4,u8_n]
  unfold Zfp
  simp only[ec,eu]
  by_cases h1:n<128
  ·rw[iLe_y (by omega),cnd_t,room_ok (by omega),chk_t,bnd_s,conv_u8,enc,if_pos h1];rfl
  rw[iLe_n (by omega),cnd_f]
  unfold Zfo
  simp only[eu,e6,e12,e18,lo]
  by_cases h2:n<2048
  ·rw[iLe_y (by omega),cnd_t,room_ok (by omega),chk_t,bnd_s,bnd_s,enc,if_neg h1,if_pos h2]
   rw[show u8 (iOr .u8 (y2i (u8 192)) (y2i (u8 (iConv .u8 ((n / 64:Nat):Int)))))=yN (192+n / 64) from hi 192 6 5 _ (by decide) (by omega) (by omega) (by omega)];rfl
  rw[iLe_n (by omega),cnd_f]
  by_cases h3:n<65536
  ·have e3:(cnd (iLt (n:Int) 55296) (some (Sum.inl (β:=List UInt8) true)) (cnd (iLt 57343 (n:Int)) (some (.inl (iLe (n:Int) 65535))) (some (.inl false))))=some (.inl true):=by
    by_cases h4:n<55296
    ·rw[iLt_y (by omega),cnd_t]
    ·rw[iLt_n (by omega),cnd_f,iLt_y (by omega),cnd_t,iLe_y (by omega)]
   rw[e3,joinX_l,cnd_t,room_ok (by omega),chk_t,bnd_s,bnd_s,enc,if_neg h1,if_neg h2,if_pos h3]
   rw[show u8 (iOr .u8 (y2i (u8 224)) (y2i (u8 (iConv .u8 ((n / 4096:Nat):Int)))))=yN (224+n / 4096) from hi 224 14 4 _ (by decide) (by omega) (by omega) (by omega)];rfl
  ·have e3:(cnd (iLt (n:Int) 55296) (some (Sum.inl (β:=List UInt8) true)) (cnd (iLt 57343 (n:Int)) (some (.inl (iLe (n:Int) 65535))) (some (.inl false))))=some (.inl false):=by
    rw[iLt_n (by omega),cnd_f,iLt_y (by omega),cnd_t,iLe_n (by omega)]
   rw[e3,joinX_l,cnd_f,iGt_y (by omega),cnd_t,iLe_y (by omega),cnd_t,room_ok (by omega),chk_t,bnd_s,bnd_s,enc,if_neg h1,if_neg h2,if_neg h3]
   rw[show u8 (iOr .u8 (y2i (u8 240)) (y2i (u8 (iConv .u8 ((n / 262144:Nat):Int)))))=yN (240+n / 262144) from hi 240 30 3 _ (by decide) (by omega) (by omega) (by omega)];rfl
theorem loop_next {σ ρ:Type}{step:σ->Option (σ ⊕ ρ)}{s s':σ}(h:step s=some (.inl s')):loopX step s=loopX step s':=by rw[loopX_eq,h]
theorem loop_stop {σ ρ:Type}{step:σ->Option (σ ⊕ ρ)}{s:σ}{r:ρ}(h:step s=some (.inr r)):loopX step s=some r:=by rw[loopX_eq,h]
def getR (o:Option (Nat×Nat)) (z:Int):Int×Int×Bool:=match o with
 | some (n,k)=>((n:Int),z+(k:Int),true)
 | none=>(0,0,false)
theorem cont_tab:∀b:Fin 256,iNe (y2i (u8 (iAnd .u8 (y2i (UInt8.ofNat b.val)) (y2i (u8 192))))) (y2i (u8 128))=!isCont (UInt8.ofNat b.val):=by decide +kernel
theorem cont_y (b:UInt8):iNe (y2i (u8 (iAnd .u8 (y2i b) (y2i (u8 192))))) (y2i (u8 128))=!isCont b:=by
 have:=cont_tab ⟨b.toNat,y_lt b⟩
 simpa using this
theorem mask_y (b:UInt8){j m:Nat}(hm:m=2^j-1) (h:m<256):y2i (u8 (iAnd .u8 (y2i b) (y2i (u8 (m:Int)))))=((b.toNat%2^j:Nat):Int):=by
 have:=y_lt b
 have hle:b.toNat%2^j<=b.toNat:=Nat.mod_le _ _
 rw[y2i_u8c m h,y2i_n b,iAnd_8 (by omega) h,and_mask hm,y2i_u8c _ (by omega)]
theorem idx_drop {α:Type}(b:List α) (i j:Nat) (h:i+j<9223372036854775808):idx b (iAdd .i64 (i:Int) (j:Int))=(b.drop i)[j]?:=by
 rw[iAdd_n h,idx_n,List.getElem?_drop]
def l2 (b:UInt8):Nat:=if b.toNat<128 then 1 else if b.toNat<194 then 0 else if b.toNat<224 then 2 else if b.toNat<240 then 3 else if b.toNat<245 then 4 else 0
theorem s_l2Len (b:UInt8):Zdc b=some ((l2 b:Nat):Int):=by
 have hb:=y_lt b
 have e0:y2i (u8 128)=128:=y2i_u8c 128 (by omega)
 have e1:iConv .i64 (b.toNat:Int)=(b.toNat:Int):=iConv_s (k:=.i64) (show b.toNat<2^63 by omega)
 unfold Zdc l2
 simp only[e0,y2i_n,e1,s_In,bnd_s,iLt,cnd_if]
 by_cases h1:b.toNat<128
 ·rw[if_pos (by omega),if_pos h1];rfl
 rw[if_neg (by omega),if_neg h1]
 by_cases h2:b.toNat<194
 ·rw[if_neg (by omega),if_neg (by omega),if_neg (by omega),if_pos h2];rfl
 rw[if_neg h2]
 by_cases h3:b.toNat<224
 ·rw[if_pos (by omega),if_pos h3];rfl
 rw[if_neg (by omega),if_neg h3]
 by_cases h4:b.toNat<240
 ·rw[if_pos (by omega),if_pos h4];rfl
 rw[if_neg (by omega),if_neg h4]
 by_cases h5:b.toNat<245
 ·rw[if_pos (by omega),if_pos h5];rfl
 ·rw[if_neg (by omega),if_neg h5];rfl
theorem dec_cand {l:List UInt8}{n k:Nat}(h:∀x,dec l=some x->x=(n,k)):dec l=if isSign n=true/\enc n=l.take k then some (n,k) else none:=by
 cases hd:dec l with
 | some x =>
  have:=h x hd
  subst this
  obtain⟨a,b,_⟩:=enc_dec hd
  rw[if_pos ⟨a,b⟩]
 | none =>
  rw[if_neg]
  rintro ⟨a,b⟩
  have:=dec_enc a (l.drop k)
  rw[b,List.take_append_drop,hd]at this
  cases this
theorem s_fin {b:List UInt8}{i n k:Nat}(hl:b.length<4611686018427387904) (hi:i+k<=b.length) (h:∀x,dec (b.drop i)=some x->x=(n,k)) :
  (bnd (Zba (n:Int)) fun z7=>cnd (bNot z7) (some (0,(0,false))) (bnd (Zp ([],(n:Int))) fun z8=>chk (within (i:Int) (iAdd .i64 (i:Int) (k:Int)) (lLen b)) (cnd (bNot (sEq z8 (lTake ((nOf (iAdd .i64 (i:Int) (k:Int)))-(nOf (i:Int))) (lDrop (nOf (i:Int)) b)))) (some (0,(0,false))) (some ((n:Int),((iAdd .i64 (i:Int) (k:Int)),true))))))
   = some (getR (dec (b.drop i)) i):=by
 rw[dec_cand h]
 have ea:iAdd .i64 (i:Int) (k:Int)=((i+k:Nat):Int):=iAdd_n (by omega)
 have es:sgn (n:Int)=isSign n:=by simp [sgn]
 have et:lTake (nOf ((i+k:Nat):Int)-nOf (i:Int)) (lDrop (nOf (i:Int)) b)=(b.drop i).take k:=by
  rw[nOf_n,nOf_n,lTake,lDrop,Nat.add_sub_cancel_left]
 rw[s_SignOk,bnd_s,es]
 cases hs:isSign n with
 | false=>simp [getR]
 | true =>
  rw[s_PutSign (by simp),bnd_s,es,hs,ea,et]
  have ew:within (i:Int) ((i+k:Nat):Int) (lLen b)=true:=by
   unfold within
   rw[decide_eq_true_eq,lLen_def]
   omega
  simp only[bNot_t,cnd_f,ew,chk_t,if_true,List.nil_append,Int.toNat_natCast,true_and,sEq,bNot]
  by_cases he:enc n=(b.drop i).take k
  ·rw[if_pos he,he,beq_self_eq_true]
   simp [getR]
  ·rw[if_neg he]
   have:(enc n==(b.drop i).take k)=false:=by simpa using he
   rw[this];simp [getR]
theorem shlOr {a c:Nat}(ha:a<1099511627776) (hc:c<64):iOr .i64 (iShl .i64 (a:Int) 6) (c:Int)=((a*64+c:Nat):Int):=by
 have h1:a*64<9223372036854775808:=by omega
 have e:iShl .i64 (a:Int) 6=((a*64:Nat):Int):=iShl_s (k:=.i64) (s:=6) (by decide) h1
 rw[e]
 exact orc (c:=a*64) (q:=a) (j:=6) rfl hc h1 (by omega)
theorem s_step {b:List UInt8}{i j k n:Nat}{y:UInt8}(j':Nat) (hl:b.length<4611686018427387904) (hi:i<=b.length) (hk:k<=4) (hj:j<k) (hj':j'=j+1) (hn:n<1099511627776) (hy:(b.drop i)[j]? = some y) :
  Zq (b,(i:Int)) (k:Int) ((n:Int),(j:Int))=if isCont y then some (.inl (((n*64+y.toNat%64:Nat):Int),(j':Int))) else some (.inr (.inr (0,(0,false)))):=by
 subst hj'
 unfold Zq
 simp only
 rw[iLt_y (by omega),cnd_t,idx_drop b i j (by omega),hy,bnd_s,bnd_s,cont_y]
 cases isCont y with
 | false=>simp
 | true =>
  have e63:y2i (u8 (iAnd .u8 (y2i y) (y2i (u8 63))))=((y.toNat%2^6:Nat):Int):=mask_y y (m:=63) (by decide) (by omega)
  have ec:iConv .i64 ((y.toNat%2^6:Nat):Int)=((y.toNat%2^6:Nat):Int):=iConv_s (k:=.i64) (show y.toNat%2^6<2^63 by omega)
  simp only[Bool.not_true,cnd_f,if_true]
  rw[e63,ec,iAdd_1 (by omega)]
  rw[show (2:Nat)^6=64 by rfl,shlOr hn (by omega)]
theorem s_out {b:List UInt8}{i k n:Nat}:Zq (b,(i:Int)) (k:Int) ((n:Int),(k:Int))=some (.inr (.inl (n:Int))):=by
 unfold Zq
 simp only
 rw[iLt_n (Int.le_refl _),cnd_f]
theorem s_GetSign {b:List UInt8}{i:Nat}(hl:b.length<4611686018427387904) (hi:i<b.length):Zbu (b,(i:Int))=some (getR (dec (b.drop i)) i):=by
 unfold Zbu
 have e0:iSub .i64 (lLen b) 1=(b.length:Int)-1:=iSub_ok (by simp only[lLen_def];omega) (by simp only[lLen_def];omega)
 simp only[s_In,bnd_s]
 rw[e0,show decide ((0:Int)<=(i:Int)/\(i:Int)<=(b.length:Int)-1)=true by simp only[decide_eq_true_eq];omega,bNot_t,cnd_f,idx_at hi,bnd_s,s_l2Len,bnd_s]
 have hd:b.drop i=b[i]::b.drop (i+1):=List.drop_eq_getElem_cons hi
 have hlen:(b.drop i).length=b.length-i:=List.length_drop
 have e1:iSub .i64 (lLen b) (i:Int)=((b.length-i:Nat):Int):=by
  rw[iSub_ok (by simp only[lLen_def];omega) (by simp only[lLen_def];omega),lLen_def];omega
 have hb0:=y_lt b[i]
 have ec0:iConv .i64 (y2i b[i])=((b[i].toNat:Nat):Int):=iConv_s (k:=.i64) (show b[i].toNat<2^63 by omega)
 rw[e1]
 unfold l2
 by_cases h1:b[i].toNat<128
 ·rw[if_pos h1,iEq_n (by decide),cnd_f,iGt_n (by omega),cnd_f,bnd_s,iGt_n (by omega),cnd_f,joinX_l,ec0]
  rw[loop_stop (show Zq (b,(i:Int)) ((1:Nat):Int) (((b[i].toNat:Nat):Int),1)=_ from s_out (k:=1)),joinX_l]
  refine s_fin (k:=1) hl (by omega) fun x hx=>?_
  rw[hd]at hx
  simp only[dec,if_pos h1,Option.some.injEq]at hx
  exact hx.symm
 rw[if_neg h1]
 by_cases h2:b[i].toNat<194
 ·rw[if_pos h2,show iEq ((0:Nat):Int) 0=true from rfl,cnd_t,hd]
  simp only[dec,if_neg h1,if_pos h2,getR]
 rw[if_neg h2]
 by_cases h3:b[i].toNat<224
 ·rw[if_pos h3,iEq_n (by decide),cnd_f]
  by_cases hk:b.length-i<2
  ·rw[iGt_y (by omega),cnd_t,hd]
   have:b.drop (i+1)=[]:=List.drop_eq_nil_of_le (by omega)
   rw[this]
   simp only[dec,if_neg h1,if_neg h2,if_pos h3,dec2,getR]
  rw[iGt_n (by omega),cnd_f,bnd_s,iGt_y (by omega),cnd_t]
  rw[show iLe 0 (iConv .u64 ((2:Nat):Int))=true by decide +kernel,chk_t,joinX_l,ec0]
  have em:iAnd .i64 ((b[i].toNat:Nat):Int) (iShr .i64 127 (iConv .u64 ((2:Nat):Int)))=((b[i].toNat%32:Nat):Int):=by
   rw[show iShr .i64 127 (iConv .u64 ((2:Nat):Int))=((31:Nat):Int) by decide +kernel,iAnd_s (k:=.i64) (show b[i].toNat<2^63 by omega) (by decide),and_mask (j:=5) (by decide)]
  rw[em]
  obtain⟨b1,r,hr⟩:∃b1 r,b.drop (i+1)=b1::r:=by
   cases hq:b.drop (i+1) with
   | nil=>have:=congrArg List.length hq;simp only[List.length_drop,List.length_nil]at this;omega
   | cons x y=>exact⟨x,y,rfl⟩
  have y1:(b.drop i)[1]? = some b1:=by rw[hd,hr];rfl
  have s1:Zq (b,(i:Int)) ((2:Nat):Int) (((b[i].toNat%32:Nat):Int),1)=_:=s_step (j:=1) 2 (k:=2) (n:=b[i].toNat%32) hl (by omega) (by omega) (by omega) rfl (by omega) y1
  by_cases c1:isCont b1=true
  ·rw[if_pos c1]at s1
   rw[loop_next s1,loop_stop (s_out (k:=2)),joinX_l]
   refine s_fin (k:=2) hl (by omega) fun x hx=>?_
   rw[hd,hr]at hx
   simp only[dec,if_neg h1,if_neg h2,if_pos h3,dec2,if_pos c1,Option.some.injEq]at hx
   exact hx.symm
  ·rw[if_neg c1]at s1
   rw[loop_stop s1,joinX_r,hd,hr]
   simp only[dec,if_neg h1,if_neg h2,if_pos h3,dec2,if_neg c1,getR]
 rw[if_neg h3]
 by_cases h4:b[i].toNat<240
 ·rw[if_pos h4,iEq_n (by decide),cnd_f]
  by_cases hk:b.length-i<3
  ·rw[iGt_y (by omega),cnd_t,hd]
   have:dec3 b[i] (b.drop (i+1))=none:=by
    have hl3:(b.drop (i+1)).length<2:=by rw[List.length_drop];omega
    match b.drop (i+1),hl3 with
    | [],_=>rfl
    | [_],_=>rfl
    | _::_::_,h=>simp at h;omega
   simp only[dec,if_neg h1,if_neg h2,if_neg h3,if_pos h4,this,getR]
  rw[iGt_n (by omega),cnd_f,bnd_s,iGt_y (by omega),cnd_t]
  rw[show iLe 0 (iConv .u64 ((3:Nat):Int))=true by decide +kernel,chk_t,joinX_l,ec0]
  have em:iAnd .i64 ((b[i].toNat:Nat):Int) (iShr .i64 127 (iConv .u64 ((3:Nat):Int)))=((b[i].toNat%16:Nat):Int):=by
   rw[show iShr .i64 127 (iConv .u64 ((3:Nat):Int))=((15:Nat):Int) by decide +kernel,iAnd_s (k:=.i64) (show b[i].toNat<2^63 by omega) (by decide),and_mask (j:=4) (by decide)]
  rw[em]
  obtain⟨b1,b2,r,hr⟩:∃b1 b2 r,b.drop (i+1)=b1::b2::r:=by
   have hl3:2<=(b.drop (i+1)).length:=by rw[List.length_drop];omega
   match b.drop (i+1),hl3 with
   | x::y::r,_=>exact⟨x,y,r,rfl⟩
  have y1:(b.drop i)[1]? = some b1:=by rw[hd,hr];rfl
  have y2:(b.drop i)[2]? = some b2:=by rw[hd,hr];rfl
  have q1:=y_lt b1
  have s1:Zq (b,(i:Int)) ((3:Nat):Int) (((b[i].toNat%16:Nat):Int),1)=_:=s_step (j:=1) 2 (k:=3) (n:=b[i].toNat%16) hl (by omega) (by omega) (by omega) rfl (by omega) y1
  have s2:=s_step (j:=2) 3 (k:=3) (n:=b[i].toNat%16*64+b1.toNat%64) hl (by omega) (by omega) (by omega) rfl (by omega) y2
  by_cases c1:isCont b1=true
  ·rw[if_pos c1]at s1
   rw[loop_next s1]
   by_cases c2:isCont b2=true
   ·rw[if_pos c2]at s2
    rw[loop_next s2,loop_stop (s_out (k:=3)),joinX_l]
    refine s_fin (k:=3) hl (by omega) fun x hx=>?_
    rw[hd,hr]at hx
    simp only[dec,if_neg h1,if_neg h2,if_neg h3,if_pos h4,dec3]at hx
    split at hx
    ·simp only[Option.some.injEq]at hx
     rw[<-hx];congr 1;omega
    ·cases hx
   ·rw[if_neg c2]at s2
    rw[loop_stop s2,joinX_r,hd,hr]
    simp only[dec,if_neg h1,if_neg h2,if_neg h3,if_pos h4,dec3]
    rw[if_neg (fun h=>c2 h.2.2)];rfl
  ·rw[if_neg c1]at s1
   rw[loop_stop s1,joinX_r,hd,hr]
   simp only[dec,if_neg h1,if_neg h2,if_neg h3,if_pos h4,dec3]
   rw[if_neg]
   ·rfl
   ·rintro ⟨a,c,_⟩
    refine c1 ?_
    simp only[isCont,decide_eq_true_eq]
    unfold low3 at a;unfold hi3 at c
    split at a<;>split at c<;>omega
 rw[if_neg h4]
 by_cases h5:b[i].toNat<245
 ·rw[if_pos h5,iEq_n (by decide),cnd_f]
  by_cases hk:b.length-i<4
  ·rw[iGt_y (by omega),cnd_t,hd]
   have:dec4 b[i] (b.drop (i+1))=none:=by
    have hl3:(b.drop (i+1)).length<3:=by rw[List.length_drop];omega
    match b.drop (i+1),hl3 with
    | [],_=>rfl
    | [_],_=>rfl
    | [_,_],_=>rfl
    | _::_::_::_,h=>simp at h;omega
   simp only[dec,if_neg h1,if_neg h2,if_neg h3,if_neg h4,if_pos h5,this,getR]
  rw[iGt_n (by omega),cnd_f,bnd_s,iGt_y (by omega),cnd_t]
  rw[show iLe 0 (iConv .u64 ((4:Nat):Int))=true by decide +kernel,chk_t,joinX_l,ec0]
  have em:iAnd .i64 ((b[i].toNat:Nat):Int) (iShr .i64 127 (iConv .u64 ((4:Nat):Int)))=((b[i].toNat%8:Nat):Int):=by
   rw[show iShr .i64 127 (iConv .u64 ((4:Nat):Int))=((7:Nat):Int) by decide +kernel,iAnd_s (k:=.i64) (show b[i].toNat<2^63 by omega) (by decide),and_mask (j:=3) (by decide)]
  rw[em]
  obtain⟨b1,b2,b3,r,hr⟩:∃b1 b2 b3 r,b.drop (i+1)=b1::b2::b3::r:=by
   have hl3:3<=(b.drop (i+1)).length:=by rw[List.length_drop];omega
   match b.drop (i+1),hl3 with
   | x::y::z::r,_=>exact⟨x,y,z,r,rfl⟩
  have y1:(b.drop i)[1]? = some b1:=by rw[hd,hr];rfl
  have y2:(b.drop i)[2]? = some b2:=by rw[hd,hr];rfl
  have y3:(b.drop i)[3]? = some b3:=by rw[hd,hr];rfl
  have q1:=y_lt b1
  have q2:=y_lt b2
  have s1:Zq (b,(i:Int)) ((4:Nat):Int) (((b[i].toNat%8:Nat):Int),1)=_:=s_step (j:=1) 2 (k:=4) (n:=b[i].toNat%8) hl (by omega) (by omega) (by omega) rfl (by omega) y1
  have s2:=s_step (j:=2) 3 (k:=4) (n:=b[i].toNat%8*64+b1.toNat%64) hl (by omega) (by omega) (by omega) rfl (by omega) y2
  have s3:=s_step (j:=3) 4 (k:=4) (n:=(b[i].toNat%8*64+b1.toNat%64)*64+b2.toNat%64) hl (by omega) (by omega) (by omega) rfl (by omega) y3
  by_cases c1:isCont b1=true
  ·rw[if_pos c1]at s1
   rw[loop_next s1]
   by_cases c2:isCont b2=true
   ·rw[if_pos c2]at s2
    rw[loop_next s2]
    by_cases c3:isCont b3=true
    ·rw[if_pos c3]at s3
     rw[loop_next s3,loop_stop (s_out (k:=4)),joinX_l]
     refine s_fin (k:=4) hl (by omega) fun x hx=>?_
     rw[hd,hr]at hx
     simp only[dec,if_neg h1,if_neg h2,if_neg h3,if_neg h4,if_pos h5,dec4]at hx
     split at hx
     ·simp only[Option.some.injEq]at hx
      rw[<-hx];congr 1;omega
     ·cases hx
    ·rw[if_neg c3]at s3
     rw[loop_stop s3,joinX_r,hd,hr]
     simp only[dec,if_neg h1,if_neg h2,if_neg h3,if_neg h4,if_pos h5,dec4]
     rw[if_neg (fun h=>c3 h.2.2.2)];rfl
   ·rw[if_neg c2]at s2
    rw[loop_stop s2,joinX_r,hd,hr]
    simp only[dec,if_neg h1,if_neg h2,if_neg h3,if_neg h4,if_pos h5,dec4]
    rw[if_neg (fun h=>c2 h.2.2.1)];rfl
  ·rw[if_neg c1]at s1
   rw[loop_stop s1,joinX_r,hd,hr]
   simp only[dec,if_neg h1,if_neg h2,if_neg h3,if_neg h4,if_pos h5,dec4]
   rw[if_neg]
   ·rfl
   ·rintro ⟨a,c,_⟩
    refine c1 ?_
    simp only[isCont,decide_eq_true_eq]
    unfold low4 at a;unfold hi4 at c
    split at a<;>split at c<;>omega
 ·rw[if_neg h5,show iEq ((0:Nat):Int) 0=true from rfl,cnd_t,hd]
  simp only[dec,if_neg h1,if_neg h2,if_neg h3,if_neg h4,if_neg h5,getR]
structure XT (x lo hi:UInt8) (k:Nat):Prop where
 a:iGe (y2i x) (y2i (u8 240))=false
 b:iLe 0 (y2i (u8 (iShr .u8 (y2i x) 4)))=true
 c:iLt (y2i (u8 (iShr .u8 (y2i x) 4))) 16=true
 d:idx gAcc (Int.ofNat (0+((nOf (y2i (u8 (iShr .u8 (y2i x) 4))))*2)))=some lo
 e:idx gAcc (Int.ofNat ((0+((nOf (y2i (u8 (iShr .u8 (y2i x) 4))))*2))+1))=some hi
 f:iConv .i64 (y2i (u8 (iAnd .u8 (y2i x) (y2i (u8 7)))))=(k:Int)
theorem xt2:XT 0x02 128 191 2:=⟨by decide +kernel,by decide +kernel,by decide +kernel,by decide +kernel,by decide +kernel,by decide +kernel⟩
theorem xt13:XT 0x13 160 191 3:=⟨by decide +kernel,by decide +kernel,by decide +kernel,by decide +kernel,by decide +kernel,by decide +kernel⟩
theorem xt3:XT 0x03 128 191 3:=⟨by decide +kernel,by decide +kernel,by decide +kernel,by decide +kernel,by decide +kernel,by decide +kernel⟩
theorem xt23:XT 0x23 128 159 3:=⟨by decide +kernel,by decide +kernel,by decide +kernel,by decide +kernel,by decide +kernel,by decide +kernel⟩
theorem xt34:XT 0x34 144 191 4:=⟨by decide +kernel,by decide +kernel,by decide +kernel,by decide +kernel,by decide +kernel,by decide +kernel⟩
theorem xt4:XT 0x04 128 191 4:=⟨by decide +kernel,by decide +kernel,by decide +kernel,by decide +kernel,by decide +kernel,by decide +kernel⟩
theorem xt44:XT 0x44 128 143 4:=⟨by decide +kernel,by decide +kernel,by decide +kernel,by decide +kernel,by decide +kernel,by decide +kernel⟩
theorem first_tab:∀b:Fin 256,128<=b.val->gFirst[b.val]? = some (if b.val<194 then 241 else if b.val<224 then 0x02 else if b.val=224 then 0x13 else if b.val=237 then 0x23 else if b.val<240 then 0x03 else if b.val=240 then 0x34 else if b.val<244 then 0x04 else if b.val=244 then 0x44 else 241):=by decide +kernel
theorem bad_tab:∀b:Fin 256,iOr .i32 (iAndNot .i32 (iConv .i32 (y2i (UInt8.ofNat b.val))) (iShr .i32 (iShl .i32 (iConv .i32 (y2i 241)) 31) 31)) (iAnd .i32 65533 (iShr .i32 (iShl .i32 (iConv .i32 (y2i 241)) 31) 31))=65533:=by decide +kernel
theorem shl32 {a s:Nat}(hs:s<=32) (h:a*2^s<2147483648):iShl .i32 (a:Int) (s:Int)=((a*2^s:Nat):Int):=iShl_s (k:=.i32) hs h
theorem or32 {a j b:Nat}(hb:b<2^j) (h1:a*2^j<2147483648) (h2:b<2147483648):iOr .i32 ((a*2^j:Nat):Int) (b:Int)=((a*2^j+b:Nat):Int):=by
 rw[iOr_s (k:=.i32) h1 h2,or_plus hb]
theorem m32 (b:UInt8){j m:Nat}(hm:m=2^j-1) (h:m<256) (hj:j<=8):iConv .i32 (y2i (u8 (iAnd .u8 (y2i b) (y2i (u8 (m:Int))))))=((b.toNat%2^j:Nat):Int):=by
 have hlt:b.toNat%2^j<2^31:=Nat.lt_of_le_of_lt (Nat.mod_le _ _) (by have:=y_lt b;omega)
 rw[mask_y b hm h]
 exact iConv_s (k:=.i32) hlt
theorem val2 (b0 b1:UInt8):iOr .i32 (iShl .i32 (iConv .i32 (y2i (u8 (iAnd .u8 (y2i b0) (y2i (u8 31)))))) 6) (iConv .i32 (y2i (u8 (iAnd .u8 (y2i b1) (y2i (u8 63))))))=((b0.toNat%32*64+b1.toNat%64:Nat):Int):=by
 have h0:=y_lt b0
 rw[show iConv .i32 (y2i (u8 (iAnd .u8 (y2i b0) (y2i (u8 31)))))=((b0.toNat%32:Nat):Int) from m32 b0 (m:=31) (j:=5) rfl (by omega) (by omega),
  show iConv .i32 (y2i (u8 (iAnd .u8 (y2i b1) (y2i (u8 63)))))=((b1.toNat%64:Nat):Int) from m32 b1 (m:=63) (j:=6) rfl (by omega) (by omega)]
 rw[show iShl .i32 ((b0.toNat%32:Nat):Int) 6=((b0.toNat%32*2^6:Nat):Int) from shl32 (s:=6) (by omega) (by omega)]
 exact or32 (j:=6) (by omega) (by omega) (by omega)
theorem val3 (b0 b1 b2:UInt8):iOr .i32 (iOr .i32 (iShl .i32 (iConv .i32 (y2i (u8 (iAnd .u8 (y2i b0) (y2i (u8 15)))))) 12) (iShl .i32 (iConv .i32 (y2i (u8 (iAnd .u8 (y2i b1) (y2i (u8 63)))))) 6)) (iConv .i32 (y2i (u8 (iAnd .u8 (y2i b2) (y2i (u8 63))))))=((b0.toNat%16*4096+b1.toNat%64*64+b2.toNat%64:Nat):Int):=by
 have h0:=y_lt b0
 have e:∀b:UInt8,iConv .i32 (y2i (u8 (iAnd .u8 (y2i b) (y2i (u8 63)))))=((b.toNat%64:Nat):Int):=fun b=>m32 b (m:=63) (j:=6) rfl (by omega) (by omega)
 rw[show iConv .i32 (y2i (u8 (iAnd .u8 (y2i b0) (y2i (u8 15)))))=((b0.toNat%16:Nat):Int) from m32 b0 (m:=15) (j:=4) rfl (by omega) (by omega),e b1,e b2]
 rw[show iShl .i32 ((b0.toNat%16:Nat):Int) 12=((b0.toNat%16*2^12:Nat):Int) from shl32 (s:=12) (by omega) (by omega),
  show iShl .i32 ((b1.toNat%64:Nat):Int) 6=((b1.toNat%64*2^6:Nat):Int) from shl32 (s:=6) (by omega) (by omega)]
 rw[or32 (j:=12) (by omega) (by omega) (by omega)]
 rw[show b0.toNat%16*2^12+b1.toNat%64*2^6=(b0.toNat%16*64+b1.toNat%64)*2^6 by omega,or32 (j:=6) (by omega) (by omega) (by omega)]
theorem val4 (b0 b1 b2 b3:UInt8):iOr .i32 (iOr .i32 (iOr .i32 (iShl .i32 (iConv .i32 (y2i (u8 (iAnd .u8 (y2i b0) (y2i (u8 7)))))) 18) (iShl .i32 (iConv .i32 (y2i (u8 (iAnd .u8 (y2i b1) (y2i (u8 63)))))) 12)) (iShl .i32 (iConv .i32 (y2i (u8 (iAnd .u8 (y2i b2) (y2i (u8 63)))))) 6)) (iConv .i32 (y2i (u8 (iAnd .u8 (y2i b3) (y2i (u8 63))))))=((b0.toNat%8*262144+b1.toNat%64*4096+b2.toNat%64*64+b3.toNat%64:Nat):Int):=by
 have h0:=y_lt b0
 have e:∀b:UInt8,iConv .i32 (y2i (u8 (iAnd .u8 (y2i b) (y2i (u8 63)))))=((b.toNat%64:Nat):Int):=fun b=>m32 b (m:=63) (j:=6) rfl (by omega) (by omega)
 rw[show iConv .i32 (y2i (u8 (iAnd .u8 (y2i b0) (y2i (u8 7)))))=((b0.toNat%8:Nat):Int) from m32 b0 (m:=7) (j:=3) rfl (by omega) (by omega),e b1,e b2,e b3]
 rw[show iShl .i32 ((b0.toNat%8:Nat):Int) 18=((b0.toNat%8*2^18:Nat):Int) from shl32 (s:=18) (by omega) (by omega),
  show iShl .i32 ((b1.toNat%64:Nat):Int) 12=((b1.toNat%64*2^12:Nat):Int) from shl32 (s:=12) (by omega) (by omega),
  show iShl .i32 ((b2.toNat%64:Nat):Int) 6=((b2.toNat%64*2^6:Nat):Int) from shl32 (s:=6) (by omega) (by omega)]
 rw[or32 (j:=18) (by omega) (by omega) (by omega)]
 rw[show b0.toNat%8*2^18+b1.toNat%64*2^12=(b0.toNat%8*64+b1.toNat%64)*2^12 by omega,or32 (j:=12) (by omega) (by omega) (by omega)]
 rw[show (b0.toNat%8*64+b1.toNat%64)*2^12+b2.toNat%64*2^6=((b0.toNat%8*64+b1.toNat%64)*64+b2.toNat%64)*2^6 by omega,or32 (j:=6) (by omega) (by omega) (by omega)]
def runeR (o:Option (Nat×Nat)):Int×Int:=match o with
 | some (n,k)=>((n:Int),(k:Int))
 | none=>(65533,1)
def slowV (b0 lo hi:UInt8) (k:Nat) (r:List UInt8):Int×Int:=if r.length+1<k then (65533,1) else match r with
   | []=>(65533,1)
   | b1::r=>if b1.toNat<lo.toNat\/hi.toNat<b1.toNat then (65533,1) else if k<=2 then (((b0.toNat%32*64+b1.toNat%64:Nat):Int),2) else match r with
    | []=>(65533,1)
    | b2::r=>if b2.toNat<128\/191<b2.toNat then (65533,1) else if k<=3 then (((b0.toNat%16*4096+b1.toNat%64*64+b2.toNat%64:Nat):Int),3) else match r with
     | []=>(65533,1)
     | b3::_=>if b3.toNat<128\/191<b3.toNat then (65533,1) else (((b0.toNat%8*262144+b1.toNat%64*4096+b2.toNat%64*64+b3.toNat%64:Nat):Int),4)
theorem slow_row {b0:UInt8}{r:List UInt8}{x lo hi:UInt8}{k:Nat}(hf:gFirst[b0.toNat]? = some x) (ht:XT x lo hi k) (hk:2<=k) (hl:r.length<4611686018427387904) :
  Zt (b0::r)=some (slowV b0 lo hi k r):=by
 have h0:=y_lt b0
 have e0:idx (b0::r) 0=some b0:=rfl
 have e1:idx gFirst (Int.ofNat (0+nOf (y2i b0)*1))=some x:=by
  rw[y2i_n,nOf_n,idx_ofNat];simpa using hf
 by_cases hs:r.length+1<k
 ·unfold slowV
  rw[if_pos hs]
  unfold Zt
  rw[iLt_n (by simp only[lLen_def,List.length_cons];omega),cnd_f,e0,bnd_s,iLe_y (by rw[y2i_n];omega),chk_t,iLt_y (by rw[y2i_n];omega),chk_t,e1,bnd_s,ht.a,cnd_f,ht.b,chk_t,ht.c,chk_t,ht.d,bnd_s,ht.e,bnd_s,ht.f,
   iLt_y (by simp only[lLen_def,List.length_cons];omega),cnd_t]
 match r with
 | []=>exact (hs (by simp only[List.length_nil];omega)).elim
 | b1::r =>
  have h1:=y_lt b1
  have i1:idx (b0::b1::r) 1=some b1:=rfl
  have pre:Zt (b0::b1::r)=(cnd (iLt (y2i b1) (y2i lo)) (some (65533,1)) (cnd (iLt (y2i hi) (y2i b1)) (some (65533,1))
   (cnd (iLe (k:Int) 2) (some ((iOr .i32 (iShl .i32 (iConv .i32 (y2i (u8 (iAnd .u8 (y2i b0) (y2i (u8 31)))))) 6) (iConv .i32 (y2i (u8 (iAnd .u8 (y2i b1) (y2i (u8 63))))))),2)) (bnd (idx (b0::b1::r) 2) (fun z6=>(cnd (iLt (y2i z6) (y2i (u8 128))) (some (65533,1)) (cnd (iLt (y2i (u8 191)) (y2i z6)) (some
   (65533,1)) (cnd (iLe (k:Int) 3) (some ((iOr .i32 (iOr .i32 (iShl .i32 (iConv .i32 (y2i (u8 (iAnd .u8 (y2i b0) (y2i (u8 15))))))
   12) (iShl .i32 (iConv .i32 (y2i (u8 (iAnd .u8 (y2i b1) (y2i (u8 63)))))) 6)) (iConv .i32 (y2i (u8 (iAnd .u8 (y2i z6) (y2i (u8 63))))))),3)) (bnd (idx (b0::b1::r) 3) (fun z7 =>
   (cnd (iLt (y2i z7) (y2i (u8 128))) (some (65533,1)) (cnd (iLt (y2i (u8 191)) (y2i z7)) (some (65533,1)) (some ((iOr .i32 (iOr .i32 (iOr .i32 (iShl .i32 (iConv .i32 (y2i (u8
   (iAnd .u8 (y2i b0) (y2i (u8 7)))))) 18) (iShl .i32 (iConv .i32 (y2i (u8 (iAnd .u8 (y2i b1) (y2i (u8 63)))))) 12)) (iShl .i32 (iConv .i32 (y2i (u8 (iAnd .u8 (y2i z6) (y2i (u8
   63)))))) 6)) (iConv .i32 (y2i (u8 (iAnd .u8 (y2i z7) (y2i (u8 63))))))),4)))))))))))))):=by
   unfold Zt
   rw[iLt_n (by simp only[lLen_def,List.length_cons];omega),cnd_f,e0,bnd_s,iLe_y (by rw[y2i_n];omega),chk_t,iLt_y (by rw[y2i_n];omega),chk_t,e1,bnd_s,ht.a,cnd_f,ht.b,chk_t,ht.c,chk_t,ht.d,bnd_s,ht.e,bnd_s,ht.f,
    iLt_n (by simp only[lLen_def,List.length_cons]at hs ⊢;omega),cnd_f,i1,bnd_s]
  have e128:y2i (u8 128)=128:=y2i_u8c 128 (by omega)
  have e191:y2i (u8 191)=191:=y2i_u8c 191 (by omega)
  unfold slowV
  rw[pre,if_neg hs]
  simp only[e128,e191,val2,val3,val4]
  by_cases c1:b1.toNat<lo.toNat
  ·rw[iLt_y (by rw[y2i_n,y2i_n];omega),cnd_t,if_pos (.inl c1)]
  rw[iLt_n (by rw[y2i_n,y2i_n];omega),cnd_f]
  by_cases c2:hi.toNat<b1.toNat
  ·rw[iLt_y (by rw[y2i_n,y2i_n];omega),cnd_t,if_pos (.inr c2)]
  rw[iLt_n (by rw[y2i_n,y2i_n];omega),cnd_f,if_neg (by omega)]
  by_cases k2:k<=2
  ·rw[iLe_y (by omega),cnd_t,if_pos k2]
  rw[iLe_n (by omega),cnd_f,if_neg k2]
  obtain⟨b2,q,rfl⟩:∃b2 q,r=b2::q:=by
   cases r with
   | nil=>exact (hs (by simp only[List.length_nil,List.length_cons];omega)).elim
   | cons x y=>exact⟨x,y,rfl⟩
  have h2:=y_lt b2
  have i2:idx (b0::b1::b2::q) 2=some b2:=rfl
  rw[i2,bnd_s]
  by_cases c3:b2.toNat<128
  ·rw[iLt_y (by rw[y2i_n];omega),cnd_t];simp only;rw[if_pos (.inl c3)]
  rw[iLt_n (by rw[y2i_n];omega),cnd_f]
  by_cases c4:191<b2.toNat
  ·rw[iLt_y (by rw[y2i_n];omega),cnd_t];simp only;rw[if_pos (.inr c4)]
  rw[iLt_n (by rw[y2i_n];omega),cnd_f]
  simp only
  rw[if_neg (by omega)]
  by_cases k3:k<=3
  ·rw[iLe_y (by omega),cnd_t,if_pos k3]
  rw[iLe_n (by omega),cnd_f,if_neg k3]
  obtain⟨b3,p,rfl⟩:∃b3 p,q=b3::p:=by
   cases q with
   | nil=>exact (hs (by simp only[List.length_nil,List.length_cons];omega)).elim
   | cons x y=>exact⟨x,y,rfl⟩
  have h3:=y_lt b3
  have i3:idx (b0::b1::b2::b3::p) 3=some b3:=rfl
  rw[i3,bnd_s]
  by_cases c5:b3.toNat<128
  ·rw[iLt_y (by rw[y2i_n];omega),cnd_t];simp only;rw[if_pos (.inl c5)]
  rw[iLt_n (by rw[y2i_n];omega),cnd_f]
  by_cases c6:191<b3.toNat
  ·rw[iLt_y (by rw[y2i_n];omega),cnd_t];simp only;rw[if_pos (.inr c6)]
  rw[iLt_n (by rw[y2i_n];omega),cnd_f]
  simp only
  rw[if_neg (by omega)]
theorem slowV2 {b0:UInt8}{r:List UInt8}(h1:194<=b0.toNat) (h2:b0.toNat<224):slowV b0 128 191 2 r=runeR (dec (b0::r)):=by
 have e1:(128:UInt8).toNat=128:=rfl
 have e2:(191:UInt8).toNat=191:=rfl
 unfold slowV
 simp only[dec,if_neg (show ¬b0.toNat<128 by omega),if_neg (show ¬b0.toNat<194 by omega),if_pos h2,e1,e2]
 cases r with
 | nil=>rfl
 | cons b1 r =>
  rw[if_neg (by simp)]
  simp only[dec2]
  by_cases hc:isCont b1=true
  ·rw[if_pos hc]
   simp only[isCont,decide_eq_true_eq]at hc
   rw[if_neg (by omega),if_pos (Nat.le_refl _)];rfl
  ·rw[if_neg hc]
   simp only[isCont,decide_eq_true_eq]at hc
   rw[if_pos (by omega)];rfl
theorem slowV3 {b0 lo hi:UInt8}{r:List UInt8}(h1:224<=b0.toNat) (h2:b0.toNat<240) (hl:lo.toNat=low3 b0) (hh:hi.toNat=hi3 b0):slowV b0 lo hi 3 r=runeR (dec (b0::r)):=by
 unfold slowV
 simp only[dec,if_neg (show ¬b0.toNat<128 by omega),if_neg (show ¬b0.toNat<194 by omega),if_neg (show ¬b0.toNat<224 by omega),if_pos h2,hl,hh]
 match r with
 | []=>rfl
 | [_]=>rfl
 | b1::b2::r =>
  rw[if_neg (by simp)]
  simp only[dec3]
  by_cases hc:low3 b0<=b1.toNat/\b1.toNat<=hi3 b0/\isCont b2=true
  ·rw[if_pos hc]
   obtain⟨c1,c2,c3⟩:=hc
   simp only[isCont,decide_eq_true_eq]at c3
   rw[if_neg (by omega),if_neg (by omega),if_neg (by omega),if_pos (Nat.le_refl _)];rfl
  ·rw[if_neg hc]
   by_cases c1:b1.toNat<low3 b0\/hi3 b0<b1.toNat
   ·rw[if_pos c1];rfl
   ·rw[if_neg c1,if_neg (by omega),if_pos]
    ·rfl
    ·have:¬isCont b2=true:=fun h=>hc ⟨by omega,by omega,h⟩
     simp only[isCont,decide_eq_true_eq]at this
     omega
theorem slowV4 {b0 lo hi:UInt8}{r:List UInt8}(h1:240<=b0.toNat) (h2:b0.toNat<245) (hl:lo.toNat=low4 b0) (hh:hi.toNat=hi4 b0):slowV b0 lo hi 4 r=runeR (dec (b0::r)):=by
 unfold slowV
 simp only[dec,if_neg (show ¬b0.toNat<128 by omega),if_neg (show ¬b0.toNat<194 by omega),if_neg (show ¬b0.toNat<224 by omega),if_neg (show ¬b0.toNat<240 by omega),if_pos h2,hl,hh]
 match r with
 | []=>rfl
 | [_]=>rfl
 | [_,_]=>rfl
 | b1::b2::b3::r =>
  rw[if_neg (by simp)]
  simp only[dec4]
  by_cases hc:low4 b0<=b1.toNat/\b1.toNat<=hi4 b0/\isCont b2=true/\isCont b3=true
  ·rw[if_pos hc]
   obtain⟨c1,c2,c3,c4⟩:=hc
   simp only[isCont,decide_eq_true_eq]at c3 c4
   rw[if_neg (by omega),if_neg (by omega),if_neg (by omega),if_neg (by omega),if_neg (by omega)];rfl
  ·rw[if_neg hc]
   by_cases c1:b1.toNat<low4 b0\/hi4 b0<b1.toNat
   ·rw[if_pos c1];rfl
   ·rw[if_neg c1,if_neg (by omega)]
    by_cases c2:b2.toNat<128\/191<b2.toNat
    ·rw[if_pos c2];rfl
    ·rw[if_neg c2,if_neg (by omega),if_pos]
     ·rfl
     ·have:¬isCont b3=true:=fun h=>hc ⟨by omega,by omega,by simp only[isCont,decide_eq_true_eq];omega,h⟩
      simp only[isCont,decide_eq_true_eq]at this
      omega
theorem slow_bad {b0:UInt8}{r:List UInt8}(hf:gFirst[b0.toNat]? = some 241):Zt (b0::r)=some (65533,1):=by
 have h0:=y_lt b0
 have e0:idx (b0::r) 0=some b0:=rfl
 have e1:idx gFirst (Int.ofNat (0+nOf (y2i b0)*1))=some 241:=by
  rw[y2i_n,nOf_n,idx_ofNat];simpa using hf
 have e2:=bad_tab ⟨b0.toNat,h0⟩
 simp only[UInt8.ofNat_toNat]at e2
 unfold Zt
 rw[iLt_n (by simp only[lLen_def,List.length_cons];omega),cnd_f,e0,bnd_s,iLe_y (by rw[y2i_n];omega),chk_t,iLt_y (by rw[y2i_n];omega),chk_t,e1,bnd_s,show iGe (y2i 241) (y2i (u8 240))=true by decide +kernel,cnd_t,bnd_s,e2]
theorem slow_ok {b0:UInt8}{r:List UInt8}(h:128<=b0.toNat) (hl:r.length<4611686018427387904):Zt (b0::r)=some (runeR (dec (b0::r))):=by
 have h0:=y_lt b0
 have ht:=first_tab ⟨b0.toNat,h0⟩ h
 simp only at ht
 by_cases h1:b0.toNat<194
 ·rw[if_pos h1]at ht
  rw[slow_bad ht]
  simp only[dec,if_neg (show ¬b0.toNat<128 by omega),if_pos h1,runeR]
 rw[if_neg h1]at ht
 by_cases h2:b0.toNat<224
 ·rw[if_pos h2]at ht
  rw[slow_row ht xt2 (by omega) hl,slowV2 (by omega) h2]
 rw[if_neg h2]at ht
 by_cases h3:b0.toNat=224
 ·rw[if_pos h3]at ht
  rw[slow_row ht xt13 (by omega) hl,slowV3 (by omega) (by omega) (by rw[low3,if_pos h3];rfl) (by rw[hi3,if_neg (by omega)];rfl)]
 rw[if_neg h3]at ht
 by_cases h4:b0.toNat=237
 ·rw[if_pos h4]at ht
  rw[slow_row ht xt23 (by omega) hl,slowV3 (by omega) (by omega) (by rw[low3,if_neg (by omega)];rfl) (by rw[hi3,if_pos h4];rfl)]
 rw[if_neg h4]at ht
 by_cases h5:b0.toNat<240
 ·rw[if_pos h5]at ht
  rw[slow_row ht xt3 (by omega) hl,slowV3 (by omega) (by omega) (by rw[low3,if_neg (by omega)];rfl) (by rw[hi3,if_neg (by omega)];rfl)]
 rw[if_neg h5]at ht
 by_cases h6:b0.toNat=240
 ·rw[if_pos h6]at ht
  rw[slow_row ht xt34 (by omega) hl,slowV4 (by omega) (by omega) (by rw[low4,if_pos h6];rfl) (by rw[hi4,if_neg (by omega)];rfl)]
 rw[if_neg h6]at ht
 by_cases h7:b0.toNat<244
 ·rw[if_pos h7]at ht
  rw[slow_row ht xt4 (by omega) hl,slowV4 (by omega) (by omega) (by rw[low4,if_neg (by omega)];rfl) (by rw[hi4,if_neg (by omega)];rfl)]
 rw[if_neg h7]at ht
 by_cases h8:b0.toNat=244
 ·rw[if_pos h8]at ht
  rw[slow_row ht xt44 (by omega) hl,slowV4 (by omega) (by omega) (by rw[low4,if_neg (by omega)];rfl) (by rw[hi4,if_pos h8];rfl)]
 ·rw[if_neg h8]at ht
  rw[slow_bad ht]
  simp only[dec,if_neg (show ¬b0.toNat<128 by omega),if_neg h1,if_neg h2,if_neg h5,if_neg (show ¬b0.toNat<245 by omega),runeR]
theorem decodeRune_ok {b0:UInt8}{r:List UInt8}(hl:r.length<4611686018427387904):Zdr (b0::r)=some (runeR (dec (b0::r))):=by
 have h0:=y_lt b0
 have e128:y2i (u8 128)=128:=y2i_u8c 128 (by omega)
 unfold Zdr
 by_cases h:b0.toNat<128
 ·have s1:Zcn (b0::r) 0=some (.inr (.inr ((b0.toNat:Int),1))):=by
   unfold Zcn
   rw[iLt_y (by simp only[lLen_def,List.length_cons];omega),cnd_t,show idx (b0::r) 0=some b0 from rfl,bnd_s,e128,iLt_y (by rw[y2i_n];omega),cnd_t,y2i_n]
   rw[show iConv .i32 (b0.toNat:Int)=(b0.toNat:Int) from iConv_s (k:=.i32) (show b0.toNat<2^31 by omega)]
  rw[loop_stop s1,joinX_r]
  simp only[dec,if_pos h,runeR];rfl
 ·have s1:Zcn (b0::r) 0=some (.inr (.inl ())):=by
   unfold Zcn
   rw[iLt_y (by simp only[lLen_def,List.length_cons];omega),cnd_t,show idx (b0::r) 0=some b0 from rfl,bnd_s,e128,iLt_n (by rw[y2i_n];omega),cnd_f]
  rw[loop_stop s1,joinX_l,slow_ok (by omega) hl,bnd_s]
theorem i_GetSign {b:List UInt8}{i:Nat}(hl:b.length<4611686018427387904) (hi:i<b.length):Zds (b,(i:Int))=some (getR (dec (b.drop i)) i):=by
 unfold Zds
 have hd:b.drop i=b[i]::b.drop (i+1):=List.drop_eq_getElem_cons hi
 have et:lTake (nOf (lLen b)-nOf (i:Int)) (lDrop (nOf (i:Int)) b)=b.drop i:=by
  rw[lLen_def,nOf_n,nOf_n,lTake,lDrop]
  exact List.take_of_length_le (by rw[List.length_drop];omega)
 have ew:within (i:Int) (lLen b) (lLen b)=true:=by
  unfold within;rw[decide_eq_true_eq,lLen_def];omega
 simp only
 rw[iLt_n (by omega),cnd_f,iGe_n (by rw[lLen_def];omega),cnd_f,ew,chk_t,et]
 rw[show posW (nOf (i:Int)) (b.drop i).length=true by simp only[posW,List.length_drop,nOf_n,decide_eq_true_eq];omega,chk_t]
 rw[hd,decodeRune_ok (by rw[List.length_drop];omega),bnd_s]
 cases hx:dec (b[i]::b.drop (i+1)) with
 | none=>rfl
 | some x =>
  obtain⟨n,k⟩:=x
  obtain⟨hs,he,k1,k2⟩:=enc_dec hx
  have hk:k=(enc n).length:=by rw[he,List.length_take];omega
  simp only[isSign,decide_eq_true_eq]at hs
  have en:=(enc_len (n:=n)).2
  have ec:iConv .i64 (n:Int)=(n:Int):=iConv_s (k:=.i64) (show n<2^63 by omega)
  have ea:iAdd .i64 (i:Int) (k:Int)=((i+k:Nat):Int):=iAdd_n (by simp only[List.length_cons,List.length_drop]at k2;omega)
  have er:((n:Int),iAdd .i64 (i:Int) (k:Int),true)=getR (some (n,k)) i:=by
   rw[ea];simp [getR]
  simp only[runeR,ec]
  rw[er]
  by_cases h5:n=65533
  ·subst h5
   have h3:k=3:=by rw[hk];decide +kernel
   rw[show iEq ((65533:Nat):Int) 65533=true from iEq_r _,cnd_t,iLt_n (by omega),cnd_f]
  ·rw[iEq_n (by omega),cnd_f]
theorem idx_d {b:List UInt8}{i:Nat}(hi:i<b.length):b.drop i=b[i]::b.drop (i+1):=List.drop_eq_getElem_cons hi
theorem conv64 (b:UInt8):iConv .i64 (y2i b)=(b.toNat:Int):=iConv_s (k:=.i64) (show b.toNat<2^63 by have:=y_lt b;omega)
theorem s_PairSign (a c:UInt8):Zdf ((a.toNat:Int),(c.toNat:Int))=some (if a.toNat=0xa4/\0xa1<=c.toNat/\c.toNat<=0xf3 then (((0x3041+(c.toNat-0xa1):Nat):Int),true) else if a.toNat=0xa5/\0xa1<=c.toNat/\c.toNat<=0xf6 then (((0x30a1+(c.toNat-0xa1):Nat):Int),true) else (0,false)):=by
 have hc:=y_lt c
 have e1:161<=c.toNat->iSub .i64 (iAdd .i64 12353 (c.toNat:Int)) 161=((0x3041+(c.toNat-0xa1):Nat):Int):=fun h=>by
  rw[iAdd_ok (by omega) (by omega),iSub_ok (by omega) (by omega)];omega
 have e2:161<=c.toNat->iSub .i64 (iAdd .i64 12449 (c.toNat:Int)) 161=((0x30a1+(c.toNat-0xa1):Nat):Int):=fun h=>by
  rw[iAdd_ok (by omega) (by omega),iSub_ok (by omega) (by omega)];omega
 unfold Zdf
 simp only[s_In,bnd_s,cnd_if]
 by_cases h4:a.toNat=0xa4
 ·rw[show iEq (a.toNat:Int) 164=true by rw[h4];rfl,cnd_t]
  by_cases h1:161<=c.toNat/\c.toNat<=243
  ·rw[if_pos (by omega),if_pos ⟨h4,h1⟩,e1 h1.1]
  ·rw[if_neg (by omega),iEq_n (by omega),cnd_f,if_neg (fun h=>h1 h.2),if_neg (by omega)]
 ·rw[iEq_n (by omega),cnd_f]
  by_cases h5:a.toNat=0xa5
  ·rw[show iEq (a.toNat:Int) 165=true by rw[h5];rfl,cnd_t]
   by_cases h1:161<=c.toNat/\c.toNat<=246
   ·rw[if_pos (show (161:Int)<=(c.toNat:Int)/\(c.toNat:Int)<=246 by omega),if_neg (fun h=>h4 h.1),if_pos ⟨h5,h1⟩,e2 h1.1]
   ·rw[if_neg (show ¬((161:Int)<=(c.toNat:Int)/\(c.toNat:Int)<=246) by omega),if_neg (fun h=>h4 h.1),if_neg (fun h=>h1 h.2)]
  ·rw[iEq_n (by omega),cnd_f,if_neg (fun h=>h4 h.1),if_neg (fun h=>h5 h.1)]
theorem i_PairSign (a c:UInt8):Zfm ((a.toNat:Int),(c.toNat:Int))=some (if a.toNat=0xa4/\0xa1<=c.toNat/\c.toNat<=0xf3 then (((0x3041+(c.toNat-0xa1):Nat):Int),true) else if a.toNat=0xa5/\0xa1<=c.toNat/\c.toNat<=0xf6 then (((0x30a1+(c.toNat-0xa1):Nat):Int),true) else (0,false)):=s_PairSign a c
theorem euc_fin (b0 b1:UInt8) (r:List UInt8) (i:Nat) (h:¬b0.toNat<128) (hi:i<4611686018427387904) :
  (bnd (some (if b0.toNat=0xa4/\0xa1<=b1.toNat/\b1.toNat<=0xf3 then (((0x3041+(b1.toNat-0xa1):Nat):Int),true) else if b0.toNat=0xa5/\0xa1<=b1.toNat/\b1.toNat<=0xf6 then (((0x30a1+(b1.toNat-0xa1):Nat):Int),true) else (0,false))) fun z5:Int×Bool=>cnd (bNot z5.2) (some (0,(0,false))) (some (z5.1,((iAdd .i64 (i:Int) 2),true))))=some (getR (eucSign (b0::b1::r)) i):=by
 have ea:iAdd .i64 (i:Int) 2=((i+2:Nat):Int):=iAdd_n (n:=2) (by omega)
 simp only[eucSign,if_neg h,bnd_s]
 split
 ·rw[ea];simp [getR]
 split
 ·rw[ea];simp [getR]
 ·rfl
theorem s_EucSign {b:List UInt8}{i:Nat}(hl:b.length<4611686018427387904) (hi:i<b.length):Zdg (b,(i:Int))=some (getR (eucSign (b.drop i)) i):=by
 unfold Zdg
 have e0:iSub .i64 (lLen b) 1=(b.length:Int)-1:=iSub_ok (by simp only[lLen_def];omega) (by simp only[lLen_def];omega)
 have e128:y2i (u8 128)=128:=y2i_u8c 128 (by omega)
 simp only[s_In,bnd_s]
 rw[e0,show decide ((0:Int)<=(i:Int)/\(i:Int)<=(b.length:Int)-1)=true by simp only[decide_eq_true_eq];omega,bNot_t,cnd_f,idx_at hi,bnd_s,e128]
 have ea:iAdd .i64 (i:Int) 1=((i+1:Nat):Int):=iAdd_1 (by omega)
 by_cases h:b[i].toNat<128
 ·rw[iLt_y (by rw[y2i_n];omega),cnd_t,bnd_s,conv64,ea,idx_d hi]
  simp only[eucSign,if_pos h,getR];simp
 ·rw[iLt_n (by rw[y2i_n];omega),cnd_f,ea]
  by_cases h1:i+1<b.length
  ·rw[iGe_n (by rw[lLen_def];omega),cnd_f,bnd_s,idx_at h1,bnd_s,conv64,conv64,s_PairSign,idx_d hi,idx_d h1]
   exact euc_fin _ _ _ _ h (by omega)
  ·rw[iGe_y (by rw[lLen_def];omega),cnd_t,idx_d hi,List.drop_eq_nil_of_le (show b.length<=i+1 by omega)]
   simp only[eucSign,if_neg h,getR]
theorem i_EucSign {b:List UInt8}{i:Nat}(hl:b.length<4611686018427387904) (hi:i<b.length):Zdt (b,(i:Int))=some (getR (eucSign (b.drop i)) i):=by
 unfold Zdt
 have e127:y2i (u8 127)=127:=y2i_u8c 127 (by omega)
 simp only
 rw[iLt_n (by omega),cnd_f,iGe_n (by rw[lLen_def];omega),cnd_f,idx_at hi,bnd_s,e127]
 have ea:iAdd .i64 (i:Int) 1=((i+1:Nat):Int):=iAdd_1 (by omega)
 by_cases h:b[i].toNat<128
 ·rw[iLe_y (by rw[y2i_n];omega),cnd_t,bnd_s,conv64,ea,idx_d hi]
  simp only[eucSign,if_pos h,getR];simp
 ·rw[iLe_n (by rw[y2i_n];omega),cnd_f,ea]
  by_cases h1:i+1<b.length
  ·rw[iEq_n (by rw[lLen_def];omega),cnd_f,bnd_s,idx_at h1,bnd_s,conv64,conv64,i_PairSign,idx_d hi,idx_d h1]
   exact euc_fin _ _ _ _ h (by omega)
  ·rw[show iEq ((i+1:Nat):Int) (lLen b)=true by rw[lLen_def,show i+1=b.length by omega];exact iEq_r _,cnd_t,idx_d hi,List.drop_eq_nil_of_le (show b.length<=i+1 by omega)]
   simp only[eucSign,if_neg h,getR]
def bsR (o:Option Nat):Int×Bool:=match o with
 | some n=>((n:Int),true)
 | none=>(0,false)
theorem s_byte1:∀b:Fin 256,Zl (1,(b.val:Int))=some (bsR (byteSign 1 b.val)):=by decide +kernel
theorem s_byte2:∀b:Fin 256,Zl (2,(b.val:Int))=some (bsR (byteSign 2 b.val)):=by decide +kernel
theorem s_byte3:∀b:Fin 256,Zl (3,(b.val:Int))=some (bsR (byteSign 3 b.val)):=by decide +kernel
theorem s_byte4:∀b:Fin 256,Zl (4,(b.val:Int))=some (bsR (byteSign 4 b.val)):=by decide +kernel
theorem i_byte1:∀b:Fin 256,Zbh (1,(b.val:Int))=some (bsR (byteSign 1 b.val)):=by decide +kernel
theorem i_byte2:∀b:Fin 256,Zbh (2,(b.val:Int))=some (bsR (byteSign 2 b.val)):=by decide +kernel
theorem i_byte3:∀b:Fin 256,Zbh (3,(b.val:Int))=some (bsR (byteSign 3 b.val)):=by decide +kernel
theorem i_byte4:∀b:Fin 256,Zbh (4,(b.val:Int))=some (bsR (byteSign 4 b.val)):=by decide +kernel
theorem s_ByteSign {cs b:Nat}(h1:1<=cs) (h4:cs<=4) (hb:b<256):Zl ((cs:Int),(b:Int))=some (bsR (byteSign cs b)):=by
 rcases (show cs=1\/cs=2\/cs=3\/cs=4 by omega) with rfl|rfl|rfl|rfl
 ·exact s_byte1 ⟨b,hb⟩
 ·exact s_byte2 ⟨b,hb⟩
 ·exact s_byte3 ⟨b,hb⟩
 ·exact s_byte4 ⟨b,hb⟩
theorem i_ByteSign {cs b:Nat}(h1:1<=cs) (h4:cs<=4) (hb:b<256):Zbh ((cs:Int),(b:Int))=some (bsR (byteSign cs b)):=by
 rcases (show cs=1\/cs=2\/cs=3\/cs=4 by omega) with rfl|rfl|rfl|rfl
 ·exact i_byte1 ⟨b,hb⟩
 ·exact i_byte2 ⟨b,hb⟩
 ·exact i_byte3 ⟨b,hb⟩
 ·exact i_byte4 ⟨b,hb⟩
def Got (o:Option (Int×Int×Bool)) (s:Option (Nat×Nat)) (i:Nat):Prop:=match s with
 | some (n,k)=>o=some ((n:Int),((i+k:Nat):Int),true)
 | none=>∃p q,o=some (p,q,false)
theorem got_of {s:Option (Nat×Nat)}{i:Nat}:Got (some (getR s i)) s i:=by
 cases s with
 | none=>exact⟨_,_,rfl⟩
 | some x=>simp [Got,getR]
theorem s_Get {cs i:Nat}{b:List UInt8}(hc:cs<=5) (hl:b.length<4611686018427387904) (hi:i<b.length):Got (Zdh ((cs:Int),(b,(i:Int)))) (signIn cs (b.drop i)) i:=by
 unfold Zdh signIn
 simp only
 by_cases h0:cs=0
 ·subst h0
  rw[show iEq ((0:Nat):Int) 0=true from rfl,cnd_t,s_GetSign hl hi,bnd_s,if_pos rfl]
  exact got_of
 rw[iEq_n (by omega),cnd_f,if_neg h0]
 by_cases h5:cs=5
 ·subst h5
  rw[show iEq ((5:Nat):Int) 5=true from rfl,cnd_t,s_EucSign hl hi,bnd_s,if_pos rfl]
  exact got_of
 rw[iEq_n (by omega),cnd_f,if_neg h5,idx_at hi,bnd_s,conv64,s_ByteSign (by omega) (by omega) (y_lt _),bnd_s,idx_d hi]
 cases hb:byteSign cs b[i].toNat with
 | none=>simp only[hb,Option.map_none,Got,bsR];exact⟨_,_,rfl⟩
 | some n=>simp only[hb,Option.map_some,Got,bsR];rw[iAdd_1 (by omega)]
theorem i_Get {cs i:Nat}{b:List UInt8}(hc:cs<=5) (hl:b.length<4611686018427387904) (hi:i<b.length):Got (Zdu ((cs:Int),(b,(i:Int)))) (signIn cs (b.drop i)) i:=by
 unfold Zdu signIn
 simp only
 by_cases h0:cs=0
 ·subst h0
  rw[show iEq ((0:Nat):Int) 0=true from rfl,cnd_t,i_GetSign hl hi,bnd_s,if_pos rfl]
  exact got_of
 rw[iEq_n (by omega),cnd_f,if_neg h0]
 by_cases h5:cs=5
 ·subst h5
  rw[show iEq ((5:Nat):Int) 5=true from rfl,cnd_t,i_EucSign hl hi,bnd_s,if_pos rfl]
  exact got_of
 rw[iEq_n (by omega),cnd_f,if_neg h5,idx_at hi,bnd_s,conv64,i_ByteSign (by omega) (by omega) (y_lt _),bnd_s,idx_d hi]
 cases hb:byteSign cs b[i].toNat with
 | none=>simp only[hb,Option.map_none,Got,bsR];exact⟨_,_,rfl⟩
 | some n=>simp only[hb,Option.map_some,Got,bsR];rw[iAdd_1 (by omega)]
def optR (o:Option (List UInt8)):List UInt8×Bool:=match o with
 | some t=>(t,true)
 | none=>([],false)
theorem decode_loop {cs:Nat}{b:List UInt8}(hc:cs<=5) (hl:b.length<=1048576){step:List UInt8×Int->Option ((List UInt8×Int) ⊕ (List UInt8 ⊕ (List UInt8×Bool)))}
  (hs:∀(out:List UInt8) (i:Nat),i<b.length->out.length<=4*i->(∀n k,signIn cs (b.drop i)=some (n,k)->step (out,(i:Int))=some (.inl (out++enc n,((i+k:Nat):Int))))/\(signIn cs (b.drop i)=none->step (out,(i:Int))=some (.inr (.inr ([],false)))))
  (he:∀out,step (out,(b.length:Int))=some (.inr (.inl out))) :
  joinX (loopX step ([],0)) (fun z=>some (z,true))=some (optR (decodeT cs b)):=by
 obtain⟨r,h1,h2⟩:=loop_meas (step:=step)
  (fun s=>∃(i:Nat) (ns:List Nat),s.2=(i:Int)/\i<=b.length/\s.1=textOf ns/\ns.length<=i/\signsL cs b=(signsL cs (b.drop i)).map (ns++·)) (fun s=>b.length-s.2.toNat)
  (fun r=>joinX (some r) (fun z=>some (z,true))=some (optR (decodeT cs b))) (by
   rintro ⟨out,j⟩ ⟨i,ns,rfl,hi,rfl,hn,hp⟩
   simp only at hi hn hp ⊢
   have ht:=textOf_len ns
   by_cases hlt:i<b.length
   ·obtain⟨q1,q2⟩:=hs (textOf ns) i hlt (by omega)
    cases hq:signIn cs (b.drop i) with
    | none =>
     right
     refine⟨_,q2 hq, ?_⟩
     rw[joinX_r]
     have hne:b.drop i≠[]:=by rw[idx_d hlt];exact List.cons_ne_nil _ _
     rw[signsL_step hc hne,hq]at hp
     simp only[Option.map_none]at hp
     simp only[decodeT,hp,Option.map_none,optR]
    | some x =>
     obtain⟨n,k⟩:=x
     left
     obtain⟨_,_,k1,k2⟩:=sign_put hc hq
     rw[List.length_drop]at k2
     refine⟨_,q1 n k hq,⟨i+k,ns++[n],rfl,by omega, ?_, ?_, ?_⟩, ?_⟩
     ·simp [textOf]
     ·simp only[List.length_append,List.length_cons,List.length_nil];omega
     ·have hne:b.drop i≠[]:=by rw[idx_d hlt];exact List.cons_ne_nil _ _
      rw[hp,signsL_step hc hne,hq]
      simp only[List.drop_drop,Option.map_map]
      congr 1
      funext l
      simp
     ·simp only[Int.toNat_natCast];omega
   ·have hie:i=b.length:=by omega
    subst hie
    right
    refine⟨_,he _, ?_⟩
    rw[joinX_l]
    rw[List.drop_length,signsL_nil]at hp
    simp only[Option.map_some,List.append_nil]at hp
    simp only[decodeT,hp,Option.map_some,optR]) ([],0) ⟨0,[],rfl,Nat.zero_le _,rfl,Nat.le_refl _,by
   rw[List.drop_zero];cases signsL cs b<;>simp⟩
 rw[h1];exact h2
theorem s_Decode {cs:Nat}{b:List UInt8}(hc:cs<=5) (hl:b.length<=1048576):Zdi ((cs:Int),b)=some (optR (decodeT cs b)):=by
 unfold Zdi Zbc
 simp only[s_In,bnd_s]
 rw[show decide ((0:Int)<=(cs:Int)/\(cs:Int)<=5)=true by simp only[decide_eq_true_eq];omega,bNot_t,cnd_f]
 refine decode_loop hc hl ?_ ?_
 ·intro out i hi ho
  have hg:=s_Get hc (by omega) hi
  unfold Zfi
  simp only
  rw[iLt_y (by rw[lLen_def];omega),cnd_t]
  refine⟨fun n k hq=>?_,fun hq=>?_⟩
  ·rw[hq]at hg
   simp only[Got]at hg
   obtain⟨hs,_,_,_⟩:=sign_put hc hq
   rw[hg,bnd_s]
   simp only[bNot_t,cnd_f]
   rw[s_PutSign (by omega),bnd_s,show sgn (n:Int)=true by simp [sgn,hs]];simp
  ·rw[hq]at hg
   obtain⟨p,q,hg⟩:=hg
   rw[hg,bnd_s];rfl
 ·intro out
  unfold Zfi
  simp only
  rw[iLt_n (by rw[lLen_def];exact Int.le_refl _),cnd_f]
theorem i_Decode {cs:Nat}{b:List UInt8}(hc:cs<=5) (hl:b.length<=1048576):Zdw ((cs:Int),b)=some (optR (decodeT cs b)):=by
 unfold Zdw Zdq
 simp only[i_In,bnd_s]
 rw[show decide ((0:Int)<=(cs:Int)/\(cs:Int)<=5)=true by simp only[decide_eq_true_eq];omega,bNot_t,cnd_f]
 refine decode_loop hc hl ?_ ?_
 ·intro out i hi ho
  have hg:=i_Get hc (by omega) hi
  unfold Zfq
  simp only
  rw[iLt_y (by rw[lLen_def];omega),cnd_t]
  refine⟨fun n k hq=>?_,fun hq=>?_⟩
  ·rw[hq]at hg
   simp only[Got]at hg
   obtain⟨hs,_,_,_⟩:=sign_put hc hq
   rw[hg,bnd_s]
   simp only[bNot_t,cnd_f]
   rw[i_PutSign (by omega),bnd_s,show sgn (n:Int)=true by simp [sgn,hs]];simp
  ·rw[hq]at hg
   obtain⟨p,q,hg⟩:=hg
   rw[hg,bnd_s];rfl
 ·intro out
  unfold Zfq
  simp only
  rw[iLt_n (by rw[lLen_def];exact Int.le_refl _),cnd_f]
end
end Go.Vs
