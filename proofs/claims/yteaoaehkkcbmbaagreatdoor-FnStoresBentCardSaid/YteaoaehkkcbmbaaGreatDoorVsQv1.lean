import Derived.Test.YteaoaehkkcbmbaaGreatDoorVsPv
set_option linter.all false
namespace Go.Vs
noncomputable section
def CT(n:Nat):Bool:=decide (n<=1114111/\¬(55296<=n/\n<=57343))
def yN(n:Nat):UInt8:=UInt8.ofNat n
def F1{n:Nat}(h:n<256):(yN n).toNat=n:=by simp[yN,UInt8.toNat_ofNat',KH h]
def FG{b:UInt8}{n:Nat}(h:b.toNat=n):yN n=b:=by subst h;simp[yN]
def Cx(b:UInt8):b.toNat<256:=b.toNat_lt
def D2(n:Nat):List UInt8:=
 if n<128 then [yN n]
 else if n<2048 then [yN (192+n / 64),yN (128+n%64)]
 else if n<65536 then [yN (224+n / 4096),yN (128+n / 64%64),yN (128+n%64)]
 else [yN (240+n / 262144),yN (128+n / 4096%64),yN (128+n / 64%64),yN (128+n%64)]
def DP(b:UInt8):Bool:=decide (128<=b.toNat/\b.toNat<192)
def O2(b:UInt8):List UInt8->Option (Nat×Nat)
 |a::_=>if DP a then some (b.toNat%32*64+a.toNat%64,2) else none
 |_=>none
def LV(a:UInt8):Nat:=if a.toNat=224 then 160 else 128
def Kn(a:UInt8):Nat:=if a.toNat=237 then 159 else 191
def LW(a:UInt8):Nat:=if a.toNat=240 then 144 else 128
def LK(a:UInt8):Nat:=if a.toNat=244 then 143 else 191
def LC(a:UInt8):List UInt8->Option (Nat×Nat)
 |b::c::_=>if LV a<=b.toNat/\b.toNat<=Kn a/\DP c=true then some (a.toNat%16*4096+b.toNat%64*64+c.toNat%64,3) else none
 |_=>none
def Ki(a:UInt8):List UInt8->Option (Nat×Nat)
 |b::c::d::_=>if LW a<=b.toNat/\b.toNat<=LK a/\DP c=true/\DP d=true then some (a.toNat%8*262144+b.toNat%64*4096+c.toNat%64*64+d.toNat%64,4) else none
 |_=>none
def CM:List UInt8->Option (Nat×Nat)
 |[]=>none
 |a::r=>
  if a.toNat<128 then some (a.toNat,1)
  else if a.toNat<194 then none
  else if a.toNat<224 then O2 a r
  else if a.toNat<240 then LC a r
  else if a.toNat<245 then Ki a r
  else none
def ZR{l:List UInt8}{n k:Nat}(h:CM l=some (n,k)):CT n=true/\D2 n=l.take k/\1<=k/\k<=l.length:=by
 match l,h with
 |[],h=>simp[CM]at h
 |e::r,h=>
 have s:=Cx e;simp only[CM]at h;split at h
 .simp only[Ac,A5]at h;obtain⟨rfl,rfl⟩:=h;refine⟨by simp[CT];omega, ?_,AE _,by simp⟩;rename_i p;rw[D2,Af p,FG rfl];rfl
 split at h
 .cases h
 split at h
 .match r,h with
  |[],h=>simp[O2]at h
  |a::r,h=>
  have j:=Cx a;simp only[O2]at h;split at h
  .rename_i c;simp only[DP,AA]at c;simp only[Ac,A5]at h;obtain⟨rfl,rfl⟩:=h;refine⟨by simp only[CT,AA];omega, ?_,by omega,by simp⟩;rw[D2,Ae (by omega),Af (by omega),FG (b:=e) (by omega),FG (b:=a) (by omega)];rfl
  cases h
 split at h
 .match r,h with
  |[],h=>simp[LC]at h
  |[_],h=>simp[LC]at h
  |a::d::r,h=>
  have j:=Cx a;have o:=Cx d;simp only[LC]at h;split at h
  .rename_i c;simp only[DP,AA,LV,Kn]at c;obtain⟨f,g,m⟩:=c;simp only[Ac,A5]at h;obtain⟨rfl,rfl⟩:=h;split at f<;>split at g <;>
   .refine⟨by simp only[CT,AA];omega, ?_,by omega,by simp⟩;rw[D2,Ae (by omega),Ae (by omega),Af (by omega),FG (b:=e) (by omega),FG (b:=a) (by omega),FG (b:=d) (by omega)];rfl
  cases h
 split at h
 .match r,h with
  |[],h=>simp[Ki]at h
  |[_],h=>simp[Ki]at h
  |[_,_],h=>simp[Ki]at h
  |a::d::i::r,h=>
  have j:=Cx a;have o:=Cx d;have t:=Cx i;simp only[Ki]at h;split at h
  .rename_i c;simp only[DP,AA,LW,LK]at c;obtain⟨f,g,m,q⟩:=c;simp only[Ac,A5]at h;obtain⟨rfl,rfl⟩:=h;split at f<;>split at g <;>
   .refine⟨by simp only[CT,AA];omega, ?_,by omega,by simp⟩;rw[D2,Ae (by omega),Ae (by omega),Ae (by omega),FG (b:=e) (by omega),FG (b:=a) (by omega),FG (b:=d) (by omega),FG (b:=i) (by omega)];rfl
  cases h
 cases h
def o_{n:Nat}(h:CT n=true)(r:List UInt8):CM (D2 n++r)=some (n,(D2 n).length):=by
 simp only[CT,AA]at h;unfold D2;split
 .have e:=F1 (n:=n) (by omega);simp only[A1,A0,CM,e];rw[Af (by omega)];rfl
 split
 .have a:=F1 (n:=192+n / 64) (by omega);have b:=F1 (n:=128+n%64) (by omega);simp only[A1,A0,CM,a];rw[Ae (by omega),Ae (by omega),Af (by omega)];simp only[O2,DP,a,b];rw[Af (by simp only[AA];omega)];simp only[Aq,Ay];congr 2;omega
 split
 .have a:=F1 (n:=224+n / 4096) (by omega);have b:=F1 (n:=128+n / 64%64) (by omega);have c:=F1 (n:=128+n%64) (by omega);simp only[A1,A0,CM,a];rw[Ae (by omega),Ae (by omega),Ae (by omega),Af (by omega)];simp only[LC,DP,a,b,c,LV,Kn,AA];rw[Af (by refine⟨?_, ?_,by omega⟩<;>split<;>omega)]
  simp only[Aq,Ay];congr 2;omega
 have a:=F1 (n:=240+n / 262144) (by omega);have b:=F1 (n:=128+n / 4096%64) (by omega);have c:=F1 (n:=128+n / 64%64) (by omega);have d:=F1 (n:=128+n%64) (by omega);simp only[A1,A0,CM,a];rw[Ae (by omega),Ae (by omega),Ae (by omega),Ae (by omega),Af (by omega)];simp only[Ki,DP,a,b,c,d,LW,LK,AA];rw[Af (by refine⟨?_, ?_,by omega⟩<;>split<;>omega)]
 simp only[Aq,Ay];congr 2;omega
def g_{n:Nat}:1<=(D2 n).length/\(D2 n).length<=4:=by
 unfold D2;split
 .simp
 split
 .simp
 split<;>simp
def Xl{k:IntKind}{n:Nat}(h:n<2^(k.bits-1)):k.wrap (n:Int)=(n:Int):=by
 have d:(2:Nat)^(k.bits-1)<=2^k.bits:=mq (by decide) (by omega);have a:((2:Int)^(k.bits-1))=((2^(k.bits-1):Nat):Int):=by simp
 have b:((2:Int)^k.bits)=((2^k.bits:Nat):Int):=by simp
 have c:((n:Int)%((2^k.bits:Nat):Int))=(n:Int):=UM (by omega) (by omega);simp only[IntKind.wrap,a,b,c];rw[Ae];simp only[A6,AA];omega
def wrap_u8{n:Nat}(h:n<256):IntKind.u8.wrap (n:Int)=(n:Int):=by
 have a:IntKind.u8.bits=8:=rfl;have b:IntKind.u8.signed=false:=rfl;simp only[IntKind.wrap,a,b,M7,C6,BC];exact UM (by omega) (by simp;omega)
def Me{m a:Nat}(h:a<2^m):(BitVec.ofInt m (a:Int)).toNat=a:=by
 rw[j0,BitVec.toNat_ofNat,KH h]
section
variable {k:IntKind} {a b:Nat}
def SP(h:a<2^(k.bits-1)):a<2^k.bits:=CO h (mq (by decide) (by omega))
def Ni(c:a<2^(k.bits-1))(d:b<2^(k.bits-1)):Bg k (a:Int) (b:Int)=((a&&&b:Nat):Int):=by
 unfold Bg;rw[BitVec.toNat_and,Me (SP c),Me (SP d)];exact Xl (Yy mr c)
def qm(c:a<2^(k.bits-1))(d:b<2^(k.bits-1)):BM k (a:Int) (b:Int)=((a ||| b:Nat):Int):=by
 unfold BM;rw[BitVec.toNat_or,Me (SP c),Me (SP d)];exact Xl (mt c d)
def VB(c:a<2^(k.bits-1))(d:b<2^(k.bits-1)):JD k (a:Int) (b:Int)=((a ^^^ b:Nat):Int):=by
 unfold JD;rw[BitVec.toNat_xor,Me (SP c),Me (SP d)];exact Xl (me c d)
def SD{s:Nat}(c:s<=k.bits)(h:a*2^s<2^(k.bits-1)):C9 k (a:Int) (s:Int)=((a*2^s:Nat):Int):=by
 unfold C9;rw[Gn,PI c];rw[show (a:Int)*2^s=((a*2^s:Nat):Int) by simp];exact Xl h
def qp{s:Nat}(c:s<=k.bits):Cl k (a:Int) (s:Int)=((a / 2^s:Nat):Int):=by
 unfold Cl;rw[Gn,PI c,dm _ (Int.pow_nonneg (by decide))];simp
def Jp(h:a<2^(k.bits-1)):Az k (a:Int)=(a:Int):=Xl h
end
def qj{a b:Nat}(c:a<256)(d:b<256):Bg .u8 (a:Int) (b:Int)=((a&&&b:Nat):Int):=by
 unfold Bg;rw[BitVec.toNat_and,Me (m:=IntKind.u8.bits) c,Me (m:=IntKind.u8.bits) d];exact wrap_u8 (Yy mr c)
def Zhs{a b:Nat}(c:a<256)(d:b<256):BM .u8 (a:Int) (b:Int)=((a ||| b:Nat):Int):=by
 unfold BM;rw[BitVec.toNat_or,Me (m:=IntKind.u8.bits) c,Me (m:=IntKind.u8.bits) d];exact wrap_u8 (mt (n:=8) c d)
def lm(n:Nat):u8 (n:Int)=yN n:=rfl
def Dz(b:UInt8):Aj b=(b.toNat:Int):=rfl
def L8{a j m:Nat}(b:m=2^j-1):a&&&m=a%2^j:=by rw[b,mc]
def j5{a b j:Nat}(c:b<2^j):a*2^j ||| b=a*2^j+b:=by
 have:=Nat.shiftLeft_add_eq_or_of_lt c a;rw[Nat.shiftLeft_eq]at this;exact this.symm
def rS:List Nat:=[0x44e,0x430,0x431,0x446,0x434,0x435,0x444,0x433,0x445,0x438,0x439,0x43a,0x43b,0x43c,0x43d,0x43e,0x43f,0x44f,0x440,0x441,0x442,0x443,0x436,0x432,0x44c,0x44b,0x437,0x448,0x44d,0x449,0x447,0x44a]
def Zp1:List Nat:=[0x20ac,0,0x201a,0x192,0x201e,0x2026,0x2020,0x2021,0x2c6,0x2030,0x160,0x2039,0x152,0,0x17d,0,0,0x2018,0x2019,0x201c,0x201d,0x2022,0x2013,0x2014,0x2dc,0x2122,0x161,0x203a,0x153,0,0x17e,0x178]
def OG(a b:Nat):Nat:=
 if a=2 then (if b=0xa4 then 0x20ac else if b=0xa6 then 0x160 else if b=0xa8 then 0x161 else if b=0xb4 then 0x17d else if b=0xb8 then 0x17e else if b=0xbc then 0x152 else if b=0xbd then 0x153 else if b=0xbe then 0x178 else b)
 else if a=3 then (if 0xe0<=b then rS.getD (b-0xe0) 0-0x20 else if 0xc0<=b then rS.getD (b-0xc0) 0 else if b=0xa3 then 0x451 else if b=0xb3 then 0x401 else 0)
 else if a=4 then (if 0xa0<=b then b else Zp1.getD (b-0x80) 0)
 else b
def DW(a b:Nat):Option Nat:=
 if b<128 then some b else if OG a b=0 then none else some (OG a b)
def NA(a n:Nat):Nat->Nat->Option Nat
 |0,_=>none
 |k+1,b=>if DW a b=some n then some b else NA a n k (b+1)
def Tt(a n:Nat):Option Nat:=NA a n 256 0
def ux{a n:Nat}:∀{k b x:Nat},NA a n k b=some x->DW a x=some n/\b<=x/\x<b+k
 |0,_,_,h=>by simp[NA]at h
 |k+1,b,x,h=>by
  simp only[NA]at h;split at h
  .rename_i d;simp only[Ac]at h;subst h;exact⟨d,by omega,by omega⟩
  obtain⟨c,e,f⟩:=ux h;exact⟨c,by omega,by omega⟩
def uw{a n:Nat}:∀{k b x:Nat},b<=x->x<b+k->DW a x=some n->(∀y,b<=y->y<x->DW a y≠some n)->NA a n k b=some x
 |0,_,_,e,f,_,_=>by omega
 |k+1,b,x,e,f,c,d=>by
  simp only[NA];by_cases g:b=x
  .subst g;rw[Af c]
  rw[Ae (d b (AE _) (by omega))];exact uw (by omega) (by omega) c λy h=>d y (by omega)
def Nx:List Nat->Bool
 |[]=>true
 |x::l=>(Nat.beq x 0||!l.any (Nat.beq x))&&Nx l
def sQ:∀{l:List Nat}{i j x:Nat},Nx l=true->l[i]?= some x->l[j]?= some x->x≠0->i=j
 |[],i,j,x,_,h,_,_=>by simp at h
 |y::l,i,j,x,h,c,d,e=>by
  simp only[Nx,A6,CE,CV]at h;obtain⟨a,f⟩:=h;have b:y=x->∀k:Nat,l[k]?≠some x:=by
   rintro rfl k g;rcases a with a|a
   .exact e (B6 a)
   have:l.any (Nat.beq y)=true:=UD.2 ⟨y,CP g,Nat.beq_refl y⟩;rw[this]at a;cases a
  cases i with
  |zero=>
   simp only[AD,Ac]at c;cases j with
   |zero=>rfl
   |succ j=>exact (b c j (by simpa using d)).elim
  |succ i=>
   cases j with
   |zero=>
    simp only[AD,Ac]at d;exact (b d i (by simpa using c)).elim
   |succ j=>exact DU Nat.succ (sQ f (by simpa using c) (by simpa using d) e)
def Jo(a:Nat):List Nat:=(List.range 128).map λi=>OG a (i+128)
def Zhm:(Nx (Jo 1)&&(Jo 1).all λx=>Nat.beq x 0||Nat.ble 128 x&&CT x)=true:=by decide +kernel
def Zhn:(Nx (Jo 2)&&(Jo 2).all λx=>Nat.beq x 0||Nat.ble 128 x&&CT x)=true:=by decide +kernel
def Zho:(Nx (Jo 3)&&(Jo 3).all λx=>Nat.beq x 0||Nat.ble 128 x&&CT x)=true:=by decide +kernel
def Zhp:(Nx (Jo 4)&&(Jo 4).all λx=>Nat.beq x 0||Nat.ble 128 x&&CT x)=true:=by decide +kernel
def qc{a:Nat}(d:1<=a)(f:a<=4):Nx (Jo a)=true/\∀b,128<=b->b<256->(Jo a)[b-128]?= some (OG a b)/\(OG a b=0\/(128<=OG a b/\CT (OG a b)=true)):=by
 have c:(Nx (Jo a)&&(Jo a).all λx=>Nat.beq x 0||Nat.ble 128 x&&CT x)=true:=by
  rcases (show a=1\/a=2\/a=3\/a=4 by omega) with rfl|rfl|rfl|rfl
  .exact Zhm
  .exact Zhn
  .exact Zho
  exact Zhp
 simp only[A6]at c;refine⟨c.1,λb g i=>?_⟩;have e:(Jo a)[b-128]?= some (OG a b):=by
  simp only[Jo,CQ,PJ (show b-128<128 by omega),Dg];rw[show b-128+128=b by omega]
 refine⟨e, ?_⟩;have:=DE.1 c.2 _ (CP e);simp only[CE,A6]at this;rcases this with h|h
 .exact .inl (B6 h)
 exact .inr ⟨AS h.1,h.2⟩
def xx{a b c n:Nat}(j:1<=a)(l:a<=4)(g:b<256)(i:c<256)(h:DW a b=some n)(k:DW a c=some n):b=c:=by
 obtain⟨o,d⟩:=qc j l;unfold DW at h k;split at h
 .simp only[Ac]at h;split at k
  .simp only[Ac]at k;omega
  split at k
  .cases k
  simp only[Ac]at k;rcases (d c (by omega) i).2 with q|q<;>omega
 split at h
 .cases h
 simp only[Ac]at h;split at k
 .simp only[Ac]at k;rcases (d b (by omega) g).2 with q|q<;>omega
 split at k
 .cases k
 simp only[Ac]at k;have e:=(d b (by omega) g).1;have f:=(d c (by omega) i).1;have m:n≠0:=by omega
 rw[h]at e;rw[k]at f;have:=sQ o e f m;omega
def uv{a b n:Nat}(c:1<=a)(d:a<=4)(e:b<256)(h:DW a b=some n):Tt a n=some b:=
 uw (Cq _) (by omega) h λy _ f k=>by have:=xx c d (by omega) e k h;omega
def Zkp{d b n:Nat}(h:Tt d n=some b):DW d b=some n/\b<256:=by
 obtain⟨a,_,c⟩:=ux h;exact⟨a,by omega⟩
def nh{a b n:Nat}(c:1<=a)(d:a<=4)(e:b<256)(h:DW a b=some n):CT n=true:=by
 unfold DW at h;split at h
 .simp only[Ac]at h;simp only[CT,AA];omega
 split at h
 .cases h
 simp only[Ac]at h;rcases ((qc c d).2 b (by omega) e).2 with q|q
 .omega
 rw[<-h];exact q.2
def Ic:List UInt8->Option (Nat×Nat)
 |[]=>none
 |b::r=>if b.toNat<128 then some (b.toNat,1) else match r with
  |[]=>none
  |a::_=>if b.toNat=0xa4/\0xa1<=a.toNat/\a.toNat<=0xf3 then some (0x3041+(a.toNat-0xa1),2)
   else if b.toNat=0xa5/\0xa1<=a.toNat/\a.toNat<=0xf6 then some (0x30a1+(a.toNat-0xa1),2) else none
def Zbe{x y:UInt8}{r:List UInt8}(a:x.toNat=0xa4)(b:0xa1<=y.toNat/\y.toNat<=0xf3):Ic (x::y::r)=some (0x3041+(y.toNat-0xa1),2):=by
 simp only[Ic];rw[Ae (by omega),Af ⟨a,b⟩]
def Zbf{x y:UInt8}{r:List UInt8}(a:x.toNat=0xa5)(b:0xa1<=y.toNat/\y.toNat<=0xf6):Ic (x::y::r)=some (0x30a1+(y.toNat-0xa1),2):=by
 simp only[Ic];rw[Ae (by omega),Ae (by omega),Af ⟨a,b⟩]
def Nc(n:Nat):Option (List UInt8):=
 if n<128 then some [yN n]
 else if 0x3041<=n/\n<=0x3093 then some [yN 0xa4,yN (n-0x3041+0xa1)]
 else if 0x30a1<=n/\n<=0x30f6 then some [yN 0xa5,yN (n-0x30a1+0xa1)]
 else none
def HL(a:Nat)(l:List UInt8):Option (Nat×Nat):=
 if a=0 then CM l else if a=5 then Ic l else match l with
  |[]=>none
  |b::_=>(DW a b.toNat).map λn=>(n,1)
def FZ(a n:Nat):Option (List UInt8):=
 if a=0 then (if CT n then some (D2 n) else none) else if a=5 then Nc n else (Tt a n).map λb=>[yN b]
def Tu{i:Nat}{l:List UInt8}{n k:Nat}(t:i<=5)(h:HL i l=some (n,k)):CT n=true/\FZ i n=some (l.take k)/\1<=k/\k<=l.length:=by
 unfold HL at h;unfold FZ;split at h
 .rename_i e;obtain⟨a,b,c,d⟩:=ZR h;rw[Af e,Af a,b];exact⟨a,rfl,c,d⟩
 split at h
 .rename_i e j;rw[Ae e,Af j]
  match l,h with
  |[],h=>simp[Ic]at h
  |f::r,h=>
  have q:=Cx f;simp only[Ic]at h;split at h
  .rename_i o;simp only[Ac,A5]at h;obtain⟨rfl,rfl⟩:=h;refine⟨by simp only[CT,AA];omega, ?_,AE _,by simp⟩;rw[Nc,Af o,FG rfl];rfl
  match r,h with
  |[],h=>simp at h
  |g::r,h=>
  have s:=Cx g;simp only at h;split at h
  .rename_i o;simp only[Ac,A5]at h;obtain⟨rfl,rfl⟩:=h;refine⟨by simp only[CT,AA];omega, ?_,by omega,by simp⟩;rw[Nc,Ae (by omega),Af (by omega),FG (b:=f) (by omega),FG (b:=g) (by omega)];rfl
  split at h
  .rename_i o;simp only[Ac,A5]at h;obtain⟨rfl,rfl⟩:=h;refine⟨by simp only[CT,AA];omega, ?_,by omega,by simp⟩;rw[Nc,Ae (by omega),Ae (by omega),Af (by omega),FG (b:=f) (by omega),FG (b:=g) (by omega)];rfl
  cases h
 rename_i e j;rw[Ae e,Ae j]
 match l,h with
 |[],h=>simp at h
 |b::r,h=>
 simp only[BP,A5]at h;obtain⟨m,p,rfl,rfl⟩:=h;refine⟨nh (by omega) (by omega) (Cx b) p, ?_,AE _,by simp⟩;rw[uv (by omega) (by omega) (Cx b) p,Dg,FG rfl];rfl
def jm{d n:Nat}{b:List UInt8}(m:d<=5)(h:FZ d n=some b)(r:List UInt8):HL d (b++r)=some (n,b.length)/\1<=b.length/\b.length<=4:=by
 unfold FZ at h;unfold HL;split at h
 .rename_i c;rw[Af c];split at h
  .rename_i k;simp only[Ac]at h;subst h;exact⟨o_ k r,g_⟩
  cases h
 split at h
 .rename_i c f;rw[Ae c,Af f];unfold Nc at h;split at h
  .rename_i i;simp only[Ac]at h;subst h;simp only[A1,A0,Ic,F1 (n:=n) (by omega)];rw[Af i];simp
  split at h
  .rename_i i;simp only[Ac]at h;subst h;have e:=F1 (n:=0xa4) (by omega);have a:=F1 (n:=n-0x3041+0xa1) (by omega);rw[A1,A1,A0,Zbe e (by rw[a];omega),a,show 0x3041+(n-0x3041+0xa1-0xa1)=n by omega];exact⟨rfl,by simp,by simp⟩
  split at h
  .rename_i i;simp only[Ac]at h;subst h;have e:=F1 (n:=0xa5) (by omega);have a:=F1 (n:=n-0x30a1+0xa1) (by omega);rw[A1,A1,A0,Zbf e (by rw[a];omega),a,show 0x30a1+(n-0x30a1+0xa1-0xa1)=n by omega];exact⟨rfl,by simp,by simp⟩
  cases h
 rename_i c f;rw[Ae c,Ae f];simp only[BP]at h;obtain⟨x,l,rfl⟩:=h;obtain⟨j,g⟩:=Zkp l;simp only[A1,A0,F1 g,j,Dg];exact⟨rfl,by simp,by simp⟩
def Tv(a:Nat):Nat->List UInt8->Option (List Nat)
 |_,[]=>some []
 |0,_::_=>none
 |k+1,l=>match HL a l with
  |none=>none
  |some (n,j)=>(Tv a k (l.drop j)).map (n::·)
def HM(a:Nat)(l:List UInt8):Option (List Nat):=Tv a l.length l
def F0(a:List Nat):List UInt8:=a.flatMap D2
def F9(a:Nat):List Nat->Option (List UInt8)
 |[]=>some []
 |n::c=>match FZ a n,F9 a c with
  |some b,some r=>some (b++r)
  |_,_=>none
def uz{a:Nat}(c:a<=5):∀(k j:Nat) (l:List UInt8),l.length<=k->l.length<=j->Tv a k l=Tv a j l
 |0,0,_,_,_=>rfl
 |k,j,[],_,_=>by cases k<;>cases j<;>rfl
 |0,_+1,_::_,h,_=>by simp at h
 |_+1,0,_::_,_,h=>by simp at h
 |k+1,j+1,b::r,e,f=>by
  simp only[Tv];cases d:HL a (b::r) with
  |none=>rfl
  |some x=>
   obtain⟨n,i⟩:=x;obtain⟨_,_,g,_⟩:=Tu c d;simp only;rw[uz c k j _ (by simp only[Di,Aq]at *;omega) (by simp only[Di,Aq]at *;omega)]
def kn(a:Nat):HM a []=some []:=rfl
def WL{a:Nat}(c:a<=5){l:List UInt8}(d:l≠[]):HM a l=match HL a l with
  |none=>none
  |some (n,j)=>(HM a (l.drop j)).map (n::·):=by
 match l,d with
 |b::r,_=>
 unfold HM;simp only[Aq,Tv];cases e:HL a (b::r) with
 |none=>rfl
 |some x=>
  obtain⟨n,i⟩:=x;obtain⟨_,_,f,_⟩:=Tu c e;simp only;rw[uz c r.length ((b::r).drop i).length _ (by simp only[Di,Aq];omega) (AE _)]
def bW{cs:Nat}(c:cs<=5):∀(k:Nat){l:List UInt8}{a:List Nat},l.length<=k->HM cs l=some a->F9 cs a=some l/\∀n∈a,CT n=true
 |k,[],a,_,h=>by
  simp only[kn,Ac]at h;subst h;exact⟨rfl,by simp⟩
 |0,b::r,a,g,h=>by simp at g
 |k+1,b::r,a,g,h=>by
  rw[WL c (by simp)]at h;cases f:HL cs (b::r) with
  |none=>rw[f]at h;simp at h
  |some x=>
   obtain⟨n,j⟩:=x;obtain⟨i,o,s,t⟩:=Tu c f;rw[f]at h;simp only[BP]at h;obtain⟨u,e,rfl⟩:=h;obtain⟨p,q⟩:=bW c k (by simp only[Di,Aq]at *;omega) e;refine⟨?_, ?_⟩
   .simp only[F9,o,p,Jg]
   intro m d;rcases AX.1 d with rfl|d
   .exact i
   exact q m d
def ko{cs:Nat}(e:cs<=5):∀{c:List Nat}{l:List UInt8},F9 cs c=some l->HM cs l=some c
 |[],l,h=>by simp only[F9,Ac]at h;subst h;rfl
 |n::c,l,h=>by
  simp only[F9]at h;cases a:FZ cs n with
  |none=>rw[a]at h;simp at h
  |some b=>
   cases d:F9 cs c with
   |none=>rw[a,d]at h;simp at h
   |some r=>
    rw[a,d]at h;simp only[Ac]at h;subst h;obtain⟨g,i,j⟩:=jm e a r;have f:b++r≠[]:=by cases b with
     |nil=>simp at i
     |cons x y=>simp
    rw[WL e f,g];simp only[U5];rw[ko e d];rfl
def ji:∀{a:List Nat},(∀n∈a,CT n=true)->F9 0 a=some (F0 a)
 |[],_=>rfl
 |n::a,h=>by
  have b:FZ 0 n=some (D2 n):=by unfold FZ;rw[Af rfl,Af (h n (by simp))]
  simp only[F9,b,ji λm c=>h m (Bx _ c),F0,DM]
def jk{a:Nat}(f:a<=5):∀{d:List Nat}{l:List UInt8},F9 a d=some l->d.length<=l.length
 |[],l,h=>by simp
 |n::d,l,h=>by
  simp only[F9]at h;cases c:FZ a n with
  |none=>rw[c]at h;simp at h
  |some b=>
   cases e:F9 a d with
   |none=>rw[c,e]at h;simp at h
   |some r=>
    rw[c,e]at h;simp only[Ac]at h;subst h;obtain⟨_,g,_⟩:=jm f c r;have:=jk f e;simp only[Aq,Cb];omega
def Re(a:List Nat):(F0 a).length<=4*a.length:=by
 induction a with
 |nil=>simp[F0]
 |cons n a b=>
  have:=(g_ (n:=n)).2;simp only[F0,DM,Cb,Aq]at *
  omega
def Kj(a:Nat)(b:List UInt8):Option (List UInt8):=(HM a b).map F0
def Qk(a:Nat)(t:List UInt8):Option (List UInt8):=(HM 0 t).bind (F9 a)
def y4{a:Nat}(g:a<=5){b t:List UInt8}(h:Qk a t=some b):Kj a b=some t:=by
 simp only[Qk,AO]at h;obtain⟨i,d,e⟩:=h;obtain⟨c,f⟩:=bW (cs:=0) (by omega) _ (AE _) d;rw[ji f]at c;simp only[Ac]at c;simp only[Kj,ko g e,Dg,c]
def rl{σ ρ:Type}{step:σ->Option (σ ⊕ ρ)}(a:σ->Prop)(m:σ->Nat)(Q:ρ->Prop)(g:∀s,a s->(∃d,step s=some (.inl d)/\a d/\m d<m s)\/∃r,step s=some (.inr r)/\Q r)(e:σ)(i:a e):∃r,Bd step e=some r/\Q r:=by
 have f:∀k s,m s<=k->a s->∃r,Bd step s=some r/\Q r:=by
  intro k
  induction k with
  |zero=>
   intro s o h;rcases g s h with ⟨d,b,c,j⟩|⟨r,b,c⟩
   .omega
   exact⟨r,by rw[LU,b],c⟩
  |succ k p=>
   intro s o h;rcases g s h with ⟨d,b,c,j⟩|⟨r,b,c⟩
   .obtain⟨r,l,n⟩:=p d (by omega) c;exact⟨r,by rw[LU,b];exact l,n⟩
   exact⟨r,by rw[LU,b],c⟩
 exact f (m e) e (AE _) i
def Vj{β:Type}{p:Prop}[Decidable p](x y:Option β):Ab (decide p) x y=if p then x else y:=by
 by_cases h:p<;>simp[h]
def oO{β:Type}{b:Bool}(x y:Option β):Ab b x y=if b=true then x else y:=by cases b<;>rfl
def Ef(x l h:Int):BU (x,(l,h))=some (decide (l<=x/\x<=h)):=by
 unfold BU;simp only[Dk,Ck,Vj];split
 .rename_i a;have:l<=x:=a;simp[this]
 rename_i a;have:¬l<=x:=a;simp[this]
def HD(x l h:Int):D0 (x,(l,h))=some (decide (l<=x/\x<=h)):=Ef x l h
def GG(x:Int):Bool:=decide (0<=x)&&CT x.toNat
def cB(x:Int):PB x=some (GG x):=by
 unfold PB;simp only[Ef,Ad,Vj];split
 .simp only[GG,CT,Ap];congr 1;rw[J7];simp only[CV,D8,A6,AA];omega
 simp only[GG,CT];congr 1;rw[J7];simp only[A6,AA,C6,false_iff];omega
def Zif(x:Int):dO x=some (GG x):=cB x
def G7(n:Nat):u8 (Az .u8 (n:Int))=yN n:=by
 have a:IntKind.u8.bits=8:=rfl;have b:IntKind.u8.signed=false:=rfl;simp only[u8,Az,IntKind.wrap,a,b,M7,C6,BC,yN];rw[show ((n:Int)%2^8)=((n%256:Nat):Int) by simp,Gn];apply UInt8.toNat_inj.1;simp[UInt8.toNat_ofNat']
def N3{c q j b:Nat}(f:c=q*2^j)(e:b<2^j)(a:c<2^63)(d:b<2^63):BM .i64 (c:Int) (b:Int)=((c+b:Nat):Int):=by
 rw[qm (k:=.i64) a d,f,j5 e]
def sd{c q j b:Nat}(f:c=q*2^j)(e:b<2^j)(a:c<256)(d:b<256):BM .u8 (c:Int) (b:Int)=((c+b:Nat):Int):=by
 rw[Zhs a d,f,j5 e]
def ei{n:Nat}(h:n<2^63):Bg .i64 (n:Int) 63=((n%64:Nat):Int):=by
 have:=Ni (k:=.i64) (a:=n) (b:=63) h (by decide);rw[L8 (j:=6) (by decide)]at this;exact this
def WK{n s:Nat}(a:s<=64):Cl .i64 (n:Int) (s:Int)=((n / 2^s:Nat):Int):=qp (k:=.i64) a
def km{n s:Nat}(a:s<=32):Cl .i32 (n:Int) (s:Int)=((n / 2^s:Nat):Int):=qp (k:=.i32) a
def bz{b:List UInt8}{x:Int}(o:b.length+4<=140737488355328):M2 (b,x)=some (b++if GG x then D2 x.toNat else []):=by
 unfold M2;simp only[Ax,A0,cB,Ad];rw[B8 (by omega),AY];cases e:GG x with
 |false=>simp
 |true=>
  simp only[Bf,Ag];simp only[GG,A6,AA]at e;obtain⟨l,e⟩:=e;obtain⟨n,rfl⟩:=Gb l;simp only[Gn,CT,AA]at e ⊢;have g:Cl .i64 (n:Int) 6=((n / 64:Nat):Int):=WK (s:=6) (by omega);have a:Cl .i64 (n:Int) 12=((n / 4096:Nat):Int):=WK (s:=12) (by omega);have f:Cl .i64 (n:Int) 18=((n / 262144:Nat):Int):=WK (s:=18) (by omega);have i:BM .i64 128 (Bg .i64 (n:Int) 63)=((128+n%64:Nat):Int):=by
   rw[ei (by omega)];exact N3 (c:=128) (q:=2) (j:=6) (by decide) (by omega) (by omega) (by omega)
  have l2:BM .i64 128 (Bg .i64 ((n / 64:Nat):Int) 63)=((128+n / 64%64:Nat):Int):=by
   rw[ei (by omega)];exact N3 (c:=128) (q:=2) (j:=6) (by decide) (by omega) (by omega) (by omega)
  have m:BM .i64 128 (Bg .i64 ((n / 4096:Nat):Int) 63)=((128+n / 4096%64:Nat):Int):=by
   rw[ei (by omega)];exact N3 (c:=128) (q:=2) (j:=6) (by decide) (by omega) (by omega) (by omega)
  by_cases d:n<128
  .rw[HC (by omega),Ah,B8 (by omega),AY,G7,D2,Af d];rfl
  rw[JC (by omega),Ag];by_cases h:n<2048
  .rw[HC (by omega),Ah,B8 (by omega),AY,D2,Ae d,Af h,g,i];rw[show BM .i64 192 ((n / 64:Nat):Int)=((192+n / 64:Nat):Int) from N3 (c:=192) (q:=6) (j:=5) (by decide) (by omega) (by omega) (by omega),G7,G7];rfl
  rw[JC (by omega),Ag];by_cases k:n<65536
  .rw[HC (by omega),Ah,B8 (by omega),AY,D2,Ae d,Ae h,Af k,a,g,i,l2];rw[show BM .i64 224 ((n / 4096:Nat):Int)=((224+n / 4096:Nat):Int) from N3 (c:=224) (q:=14) (j:=4) (by decide) (by omega) (by omega) (by omega),G7,G7,G7];rfl
  rw[JC (by omega),Ag,B8 (by omega),AY,D2,Ae d,Ae h,Ae k,f,a,g,i,l2,m];rw[show BM .i64 240 ((n / 262144:Nat):Int)=((240+n / 262144:Nat):Int) from N3 (c:=240) (q:=30) (j:=3) (by decide) (by omega) (by omega) (by omega),G7,G7,G7,G7];rfl
def LQ{b:List UInt8}(a:b.length<=140737488355328):Hg [b]=some b:=by
 unfold Hg;rw[HI (λi=>(if i=0 then [] else b,(i:Int))) 1 (.inl b)]
 .rfl
 .intro i c;obtain rfl:i=0:=by omega
  show PS [b] ([],0)=some (.inl (b,1));unfold PS;rw[Bw (by simp),Ah,show idx [b] (([],0):List UInt8×Int).2=some b from rfl,Ad,B8 (by simp;omega),AY];rfl
 .show PS [b] (b,1)=some (.inr (.inl b));unfold PS;rw[B1 (by simp),Ag]
 rfl
def K6(n:Nat)(h:n<256):Aj (u8 (n:Int))=(n:Int):=by rw[lm,Dz,F1 h]
def xB(n:Nat):Aj (u8 (Az .u8 (n:Int)))=((n%256:Nat):Int):=by
 rw[G7,Dz,yN,UInt8.toNat_ofNat']
def Zid{b:List UInt8}{x:Int}(w:b.length+4<=140737488355328):Xz (b,x)=some (b++if GG x then D2 x.toNat else []):=by
 unfold Xz;simp only[LQ (show b.length<=140737488355328 by omega),Ad,Zif];cases f:GG x with
 |false=>simp
 |true=>
  simp only[Bf,Ag,BF];simp only[GG,A6,AA]at f;obtain⟨u,f⟩:=f;obtain⟨n,rfl⟩:=Gb u;simp only[Gn,CT,AA]at f ⊢;have t:Az .i32 (n:Int)=(n:Int):=Jp (k:=.i32) (show n<2^31 by omega);have p:Az .u32 (n:Int)=(n:Int):=Jp (k:=.u32) (show n<2^31 by omega);have r:Cl .i32 (n:Int) 6=((n / 64:Nat):Int):=km (s:=6) (by omega);have g:Cl .i32 (n:Int) 12=((n / 4096:Nat):Int):=km (s:=12) (by omega);have h:Cl .i32 (n:Int) 18=((n / 262144:Nat):Int):=km (s:=18) (by omega);have v:∀m:Nat,u8 (BM .u8 (Aj (u8 128)) (Aj (u8 (Bg .u8 (Aj (u8 (Az .u8 (m:Int)))) (Aj (u8 63))))))=yN (128+m%64):=by
   intro m;rw[xB,show Aj (u8 63)=((63:Nat):Int) from K6 63 (by omega),show Aj (u8 128)=((128:Nat):Int) from K6 128 (by omega)];rw[qj (by omega) (by omega),L8 (j:=6) (by decide),K6 _ (by omega)];rw[show m%256%2^6=m%64 by omega,sd (q:=2) (j:=6) (by decide) (by omega) (by omega) (by omega),lm]
  have o:∀(c q j m:Nat),c=q*2^j->m<2^j->c<256->m<256->u8 (BM .u8 (Aj (u8 (c:Int))) (Aj (u8 (Az .u8 (m:Int)))))=yN (c+m):=by
   intro c q j m a d e l;rw[xB,K6 c e,KH l,sd a d e l,lm]
  unfold dU;simp only[t,p];by_cases a:n<128
  .rw[HC (by omega),Ah,B8 (by omega),AY,Ad,G7,D2,Af a];rfl
  rw[JC (by omega),Ag];unfold dV;simp only[p,r,g,h,v];by_cases d:n<2048
  .rw[HC (by omega),Ah,B8 (by omega),AY,Ad,Ad,D2,Ae a,Af d];rw[show u8 (BM .u8 (Aj (u8 192)) (Aj (u8 (Az .u8 ((n / 64:Nat):Int)))))=yN (192+n / 64) from o 192 6 5 _ (by decide) (by omega) (by omega) (by omega)];rfl
  rw[JC (by omega),Ag];by_cases e:n<65536
  .have i:(Ab (Bb (n:Int) 55296) (some (Sum.inl (β:=List UInt8) true)) (Ab (Bb 57343 (n:Int)) (some (.inl (Ck (n:Int) 65535))) (some (.inl false))))=some (.inl true):=by
    by_cases l:n<55296
    .rw[Bw (by omega),Ah]
    rw[B1 (by omega),Ag,Bw (by omega),Ah,HC (by omega)]
   rw[i,A4,Ah,B8 (by omega),AY,Ad,Ad,D2,Ae a,Ae d,Af e];rw[show u8 (BM .u8 (Aj (u8 224)) (Aj (u8 (Az .u8 ((n / 4096:Nat):Int)))))=yN (224+n / 4096) from o 224 14 4 _ (by decide) (by omega) (by omega) (by omega)];rfl
  have i:(Ab (Bb (n:Int) 55296) (some (Sum.inl (β:=List UInt8) true)) (Ab (Bb 57343 (n:Int)) (some (.inl (Ck (n:Int) 65535))) (some (.inl false))))=some (.inl false):=by
   rw[B1 (by omega),Ag,Bw (by omega),Ah,JC (by omega)]
  rw[i,A4,Ag,D4 (by omega),Ah,HC (by omega),Ah,B8 (by omega),AY,Ad,Ad,D2,Ae a,Ae d,Ae e];rw[show u8 (BM .u8 (Aj (u8 240)) (Aj (u8 (Az .u8 ((n / 262144:Nat):Int)))))=yN (240+n / 262144) from o 240 30 3 _ (by decide) (by omega) (by omega) (by omega)];rfl
def OO{σ ρ:Type}{step:σ->Option (σ ⊕ ρ)}{s a:σ}(h:step s=some (.inl a)):Bd step s=Bd step a:=by rw[LU,h]
def Io{σ ρ:Type}{step:σ->Option (σ ⊕ ρ)}{s:σ}{r:ρ}(h:step s=some (.inr r)):Bd step s=some r:=by rw[LU,h]
def Fk(o:Option (Nat×Nat))(z:Int):Int×Int×Bool:=match o with
 |some (n,k)=>((n:Int),z+(k:Int),true)
 |none=>(0,0,false)
def yL:∀b:Fin 256,AI (Aj (u8 (Bg .u8 (Aj (UInt8.ofNat b.val)) (Aj (u8 192))))) (Aj (u8 128))=!DP (UInt8.ofNat b.val):=by decide +kernel
def yM(b:UInt8):AI (Aj (u8 (Bg .u8 (Aj b) (Aj (u8 192))))) (Aj (u8 128))=!DP b:=by
 have:=yL ⟨b.toNat,Cx b⟩;simpa using this
def rz(b:UInt8){j m:Nat}(c:m=2^j-1)(h:m<256):Aj (u8 (Bg .u8 (Aj b) (Aj (u8 (m:Int)))))=((b.toNat%2^j:Nat):Int):=by
 have:=Cx b;have a:b.toNat%2^j<=b.toNat:=Nat.mod_le _ _;rw[K6 m h,Dz b,qj (by omega) h,L8 c,K6 _ (by omega)]
def Ziv{α:Type}(b:List α)(i j:Nat)(h:i+j<9223372036854775808):idx b (Au .i64 (i:Int) (j:Int))=(b.drop i)[j]?:=by
 rw[Qy h,Q0,F2]
def l2(b:UInt8):Nat:=if b.toNat<128 then 1 else if b.toNat<194 then 0 else if b.toNat<224 then 2 else if b.toNat<240 then 3 else if b.toNat<245 then 4 else 0
def Zm2(b:UInt8):XW b=some ((l2 b:Nat):Int):=by
 have i:=Cx b;have g:Aj (u8 128)=128:=K6 128 (by omega);have h:Az .i64 (b.toNat:Int)=(b.toNat:Int):=Jp (k:=.i64) (show b.toNat<2^63 by omega);unfold XW l2;simp only[g,Dz,h,Ef,Ad,Bb,Vj];by_cases a:b.toNat<128
 .rw[Af (by omega),Af a];rfl
 rw[Ae (by omega),Ae a];by_cases c:b.toNat<194
 .rw[Ae (by omega),Ae (by omega),Ae (by omega),Af c];rfl
 rw[Ae c];by_cases d:b.toNat<224
 .rw[Af (by omega),Af d];rfl
 rw[Ae (by omega),Ae d];by_cases e:b.toNat<240
 .rw[Af (by omega),Af e];rfl
 rw[Ae (by omega),Ae e];by_cases f:b.toNat<245
 .rw[Af (by omega),Af f];rfl
 rw[Ae (by omega),Ae f];rfl
def yY{l:List UInt8}{n k:Nat}(h:∀x,CM l=some x->x=(n,k)):CM l=if CT n=true/\D2 n=l.take k then some (n,k) else none:=by
 cases hd:CM l with
 |some x=>
  have:=h x hd;subst this;obtain⟨a,b,_⟩:=ZR hd;rw[Af ⟨a,b⟩]
 |none=>
  rw[Ae];rintro ⟨a,b⟩;have:=o_ a (l.drop k);rw[b,Jg,hd]at this;cases this
def cF{b:List UInt8}{i n k:Nat}(o:b.length<4611686018427387904)(m:i+k<=b.length)(h:∀x,CM (b.drop i)=some x->x=(n,k)):
  (Aa (PB (n:Int)) λj=>Ab (Ap j) (some (0,(0,false))) (Aa (M2 ([],(n:Int))) λl=>A3 (De (i:Int) (Au .i64 (i:Int) (k:Int)) (Am b)) (Ab (Ap (Dc l (BA ((A9 (Au .i64 (i:Int) (k:Int)))-(A9 (i:Int))) (E9 (A9 (i:Int)) b)))) (some (0,(0,false))) (some ((n:Int),((Au .i64 (i:Int) (k:Int)),true))))))
   = some (Fk (CM (b.drop i)) i):=by
 rw[yY h];have d:Au .i64 (i:Int) (k:Int)=((i+k:Nat):Int):=Qy (by omega);have c:GG (n:Int)=CT n:=by simp[GG]
 have e:BA (A9 ((i+k:Nat):Int)-A9 (i:Int)) (E9 (A9 (i:Int)) b)=(b.drop i).take k:=by
  rw[Gv,Gv,BA,E9,dl]
 rw[cB,Ad,c];cases g:CT n with
 |false=>simp[Fk]
 |true=>
  rw[bz (by simp),Ad,c,g,d,e];have f:De (i:Int) ((i+k:Nat):Int) (Am b)=true:=by
   unfold De;rw[AA,Av];omega
  simp only[Bf,Ag,f,AY,BF,A0,Gn,H3,Dc,Ap];by_cases a:D2 n=(b.drop i).take k
  .rw[Af a,a,beq_self_eq_true];simp[Fk]
  rw[Ae a];have:(D2 n==(b.drop i).take k)=false:=by simpa using a
  rw[this];simp[Fk]
def Znn{a c:Nat}(f:a<1099511627776)(d:c<64):BM .i64 (C9 .i64 (a:Int) 6) (c:Int)=((a*64+c:Nat):Int):=by
 have b:a*64<9223372036854775808:=by omega
 have e:C9 .i64 (a:Int) 6=((a*64:Nat):Int):=SD (k:=.i64) (s:=6) (by decide) b;rw[e];exact N3 (c:=a*64) (q:=a) (j:=6) rfl d b (by omega)
def Tm{b:List UInt8}{i j k n:Nat}{y:UInt8}(d:Nat)(p:b.length<4611686018427387904)(h:i<=b.length)(o:k<=4)(l:j<k)(c:d=j+1)(f:n<1099511627776)(g:(b.drop i)[j]?= some y):
  MN (b,(i:Int)) (k:Int) ((n:Int),(j:Int))=if DP y then some (.inl (((n*64+y.toNat%64:Nat):Int),(d:Int))) else some (.inr (.inr (0,(0,false)))):=by
 subst c;unfold MN;simp only;rw[Bw (by omega),Ah,Ziv b i j (by omega),g,Ad,Ad,yM];cases DP y with
 |false=>simp
 |true=>
  have a:Aj (u8 (Bg .u8 (Aj y) (Aj (u8 63))))=((y.toNat%2^6:Nat):Int):=rz y (m:=63) (by decide) (by omega);have e:Az .i64 ((y.toNat%2^6:Nat):Int)=((y.toNat%2^6:Nat):Int):=Jp (k:=.i64) (show y.toNat%2^6<2^63 by omega);simp only[Od,Ag,BF];rw[a,e,CX (by omega)];rw[show (2:Nat)^6=64 by rfl,Znn f (by omega)]
def cH{b:List UInt8}{i k n:Nat}:MN (b,(i:Int)) (k:Int) ((n:Int),(k:Int))=some (.inr (.inl (n:Int))):=by
 unfold MN;simp only;rw[B1 (RI _),Ag]
def uZ{b:List UInt8}{i:Nat}(u:b.length<4611686018427387904)(I:i<b.length):Ug (b,(i:Int))=some (Fk (CM (b.drop i)) i):=by
 unfold Ug;have L:Br .i64 (Am b) 1=(b.length:Int)-1:=E8 (by simp only[Av];omega) (by simp only[Av];omega);simp only[Ef,Ad];rw[L,show decide ((0:Int)<=(i:Int)/\(i:Int)<=(b.length:Int)-1)=true by simp only[AA];omega,Bf,Ag,BK I,Ad,Zm2,Ad];have hd:b.drop i=b[i]::b.drop (i+1):=H1 I;have K:(b.drop i).length=b.length-i:=Di;have M:Br .i64 (Am b) (i:Int)=((b.length-i:Nat):Int):=by
  rw[E8 (by simp only[Av];omega) (by simp only[Av];omega),Av];omega
 have N:=Cx b[i];have v:Az .i64 (Aj b[i])=((b[i].toNat:Nat):Int):=Jp (k:=.i64) (show b[i].toNat<2^63 by omega);rw[M];unfold l2;by_cases f:b[i].toNat<128
 .rw[Af f,E7 (by decide),Ag,Ee (by omega),Ag,Ad,Ee (by omega),Ag,A4,v];rw[Io (show MN (b,(i:Int)) ((1:Nat):Int) (((b[i].toNat:Nat):Int),1)=_ from cH (k:=1)),A4];refine cF (k:=1) u (by omega) λx d=>?_;rw[hd]at d;simp only[CM,Af f,Ac]at d;exact d.symm
 rw[Ae f];by_cases l:b[i].toNat<194
 .rw[Af l,show Ak ((0:Nat):Int) 0=true from rfl,Ah,hd];simp only[CM,Ae f,Af l,Fk]
 rw[Ae l];by_cases m:b[i].toNat<224
 .rw[Af m,E7 (by decide),Ag];by_cases J:b.length-i<2
  .rw[D4 (by omega),Ah,hd];have:b.drop (i+1)=[]:=RG (by omega);rw[this];simp only[CM,Ae f,Ae l,Af m,O2,Fk]
  rw[Ee (by omega),Ag,Ad,D4 (by omega),Ah];rw[show Ck 0 (Az .u64 ((2:Nat):Int))=true by decide +kernel,AY,A4,v];have C:Bg .i64 ((b[i].toNat:Nat):Int) (Cl .i64 127 (Az .u64 ((2:Nat):Int)))=((b[i].toNat%32:Nat):Int):=by
   rw[show Cl .i64 127 (Az .u64 ((2:Nat):Int))=((31:Nat):Int) by decide +kernel,Ni (k:=.i64) (show b[i].toNat<2^63 by omega) (by decide),L8 (j:=5) (by decide)]
  rw[C];obtain⟨e,r,g⟩:∃e r,b.drop (i+1)=e::r:=by
   cases O:b.drop (i+1) with
   |nil=>have:=DU List.length O;simp only[Di,Ay]at this;omega
   |cons x y=>exact⟨x,y,rfl⟩
  have D:(b.drop i)[1]?= some e:=by rw[hd,g];rfl
  have p:MN (b,(i:Int)) ((2:Nat):Int) (((b[i].toNat%32:Nat):Int),1)=_:=Tm (j:=1) 2 (k:=2) (n:=b[i].toNat%32) u (by omega) (by omega) (by omega) rfl (by omega) D;by_cases q:DP e=true
  .rw[Af q]at p;rw[OO p,Io (cH (k:=2)),A4];refine cF (k:=2) u (by omega) λx d=>?_;rw[hd,g]at d;simp only[CM,Ae f,Ae l,Af m,O2,Af q,Ac]at d;exact d.symm
  rw[Ae q]at p;rw[Io p,Lb,hd,g];simp only[CM,Ae f,Ae l,Af m,O2,Ae q,Fk]
 rw[Ae m];by_cases s:b[i].toNat<240
 .rw[Af s,E7 (by decide),Ag];by_cases J:b.length-i<3
  .rw[D4 (by omega),Ah,hd];have:LC b[i] (b.drop (i+1))=none:=by
    have o:(b.drop (i+1)).length<2:=by rw[Di];omega
    match b.drop (i+1),o with
    |[],_=>rfl
    |[_],_=>rfl
    |_::_::_,h=>simp at h;omega
   simp only[CM,Ae f,Ae l,Ae m,Af s,this,Fk]
  rw[Ee (by omega),Ag,Ad,D4 (by omega),Ah];rw[show Ck 0 (Az .u64 ((3:Nat):Int))=true by decide +kernel,AY,A4,v];have C:Bg .i64 ((b[i].toNat:Nat):Int) (Cl .i64 127 (Az .u64 ((3:Nat):Int)))=((b[i].toNat%16:Nat):Int):=by
   rw[show Cl .i64 127 (Az .u64 ((3:Nat):Int))=((15:Nat):Int) by decide +kernel,Ni (k:=.i64) (show b[i].toNat<2^63 by omega) (by decide),L8 (j:=4) (by decide)]
  rw[C];obtain⟨e,t,r,g⟩:∃e t r,b.drop (i+1)=e::t::r:=by
   have o:2<=(b.drop (i+1)).length:=by rw[Di];omega
   match b.drop (i+1),o with
   |x::y::r,_=>exact⟨x,y,r,rfl⟩
  have D:(b.drop i)[1]?= some e:=by rw[hd,g];rfl
  have H:(b.drop i)[2]?= some t:=by rw[hd,g];rfl
  have P:=Cx e;have p:MN (b,(i:Int)) ((3:Nat):Int) (((b[i].toNat%16:Nat):Int),1)=_:=Tm (j:=1) 2 (k:=3) (n:=b[i].toNat%16) u (by omega) (by omega) (by omega) rfl (by omega) D;have w:=Tm (j:=2) 3 (k:=3) (n:=b[i].toNat%16*64+e.toNat%64) u (by omega) (by omega) (by omega) rfl (by omega) H;by_cases q:DP e=true
  .rw[Af q]at p;rw[OO p];by_cases B:DP t=true
   .rw[Af B]at w;rw[OO w,Io (cH (k:=3)),A4];refine cF (k:=3) u (by omega) λx d=>?_;rw[hd,g]at d;simp only[CM,Ae f,Ae l,Ae m,Af s,LC]at d;split at d
    .simp only[Ac]at d;rw[<-d];congr 1;omega
    cases d
   rw[Ae B]at w;rw[Io w,Lb,hd,g];simp only[CM,Ae f,Ae l,Ae m,Af s,LC];rw[Ae (λh=>B h.2.2)];rfl
  rw[Ae q]at p;rw[Io p,Lb,hd,g];simp only[CM,Ae f,Ae l,Ae m,Af s,LC];rw[Ae]
  .rfl
  rintro ⟨a,c,_⟩;refine q ?_;simp only[DP,AA];unfold LV at a;unfold Kn at c;split at a<;>split at c<;>omega
 rw[Ae s];by_cases A:b[i].toNat<245
 .rw[Af A,E7 (by decide),Ag];by_cases J:b.length-i<4
  .rw[D4 (by omega),Ah,hd];have:Ki b[i] (b.drop (i+1))=none:=by
    have o:(b.drop (i+1)).length<3:=by rw[Di];omega
    match b.drop (i+1),o with
    |[],_=>rfl
    |[_],_=>rfl
    |[_,_],_=>rfl
    |_::_::_::_,h=>simp at h;omega
   simp only[CM,Ae f,Ae l,Ae m,Ae s,Af A,this,Fk]
  rw[Ee (by omega),Ag,Ad,D4 (by omega),Ah];rw[show Ck 0 (Az .u64 ((4:Nat):Int))=true by decide +kernel,AY,A4,v];have C:Bg .i64 ((b[i].toNat:Nat):Int) (Cl .i64 127 (Az .u64 ((4:Nat):Int)))=((b[i].toNat%8:Nat):Int):=by
   rw[show Cl .i64 127 (Az .u64 ((4:Nat):Int))=((7:Nat):Int) by decide +kernel,Ni (k:=.i64) (show b[i].toNat<2^63 by omega) (by decide),L8 (j:=3) (by decide)]
  rw[C];obtain⟨e,t,E,r,g⟩:∃e t E r,b.drop (i+1)=e::t::E::r:=by
   have o:3<=(b.drop (i+1)).length:=by rw[Di];omega
   match b.drop (i+1),o with
   |x::y::z::r,_=>exact⟨x,y,z,r,rfl⟩
  have D:(b.drop i)[1]?= some e:=by rw[hd,g];rfl
  have H:(b.drop i)[2]?= some t:=by rw[hd,g];rfl
  have Q:(b.drop i)[3]?= some E:=by rw[hd,g];rfl
  have P:=Cx e;have R:=Cx t;have p:MN (b,(i:Int)) ((4:Nat):Int) (((b[i].toNat%8:Nat):Int),1)=_:=Tm (j:=1) 2 (k:=4) (n:=b[i].toNat%8) u (by omega) (by omega) (by omega) rfl (by omega) D;have w:=Tm (j:=2) 3 (k:=4) (n:=b[i].toNat%8*64+e.toNat%64) u (by omega) (by omega) (by omega) rfl (by omega) H;have F:=Tm (j:=3) 4 (k:=4) (n:=(b[i].toNat%8*64+e.toNat%64)*64+t.toNat%64) u (by omega) (by omega) (by omega) rfl (by omega) Q;by_cases q:DP e=true
  .rw[Af q]at p;rw[OO p];by_cases B:DP t=true
   .rw[Af B]at w;rw[OO w];by_cases G:DP E=true
    .rw[Af G]at F;rw[OO F,Io (cH (k:=4)),A4];refine cF (k:=4) u (by omega) λx d=>?_;rw[hd,g]at d;simp only[CM,Ae f,Ae l,Ae m,Ae s,Af A,Ki]at d;split at d
     .simp only[Ac]at d;rw[<-d];congr 1;omega
     cases d
    rw[Ae G]at F;rw[Io F,Lb,hd,g];simp only[CM,Ae f,Ae l,Ae m,Ae s,Af A,Ki];rw[Ae (λh=>G h.2.2.2)];rfl
   rw[Ae B]at w;rw[Io w,Lb,hd,g];simp only[CM,Ae f,Ae l,Ae m,Ae s,Af A,Ki];rw[Ae (λh=>B h.2.2.1)];rfl
  rw[Ae q]at p;rw[Io p,Lb,hd,g];simp only[CM,Ae f,Ae l,Ae m,Ae s,Af A,Ki];rw[Ae]
  .rfl
  rintro ⟨a,c,_⟩;refine q ?_;simp only[DP,AA];unfold LW at a;unfold LK at c;split at a<;>split at c<;>omega
 rw[Ae A,show Ak ((0:Nat):Int) 0=true from rfl,Ah,hd];simp only[CM,Ae f,Ae l,Ae m,Ae s,Ae A,Fk]
structure XT (x lo hi:UInt8) (k:Nat):Prop where
 a:Dk (Aj x) (Aj (u8 240))=false
 b:Ck 0 (Aj (u8 (Cl .u8 (Aj x) 4)))=true
 c:Bb (Aj (u8 (Cl .u8 (Aj x) 4))) 16=true
 d:idx S5 (Int.ofNat (0+((A9 (Aj (u8 (Cl .u8 (Aj x) 4))))*2)))=some lo
 e:idx S5 (Int.ofNat ((0+((A9 (Aj (u8 (Cl .u8 (Aj x) 4))))*2))+1))=some hi
 f:Az .i64 (Aj (u8 (Bg .u8 (Aj x) (Aj (u8 7)))))=(k:Int)
def xt2:XT 0x02 128 191 2:=⟨by decide +kernel,by decide +kernel,by decide +kernel,by decide +kernel,by decide +kernel,by decide +kernel⟩
def Zqg:XT 0x13 160 191 3:=⟨by decide +kernel,by decide +kernel,by decide +kernel,by decide +kernel,by decide +kernel,by decide +kernel⟩
def xt3:XT 0x03 128 191 3:=⟨by decide +kernel,by decide +kernel,by decide +kernel,by decide +kernel,by decide +kernel,by decide +kernel⟩
def Zqi:XT 0x23 128 159 3:=⟨by decide +kernel,by decide +kernel,by decide +kernel,by decide +kernel,by decide +kernel,by decide +kernel⟩
def Zqk:XT 0x34 144 191 4:=⟨by decide +kernel,by decide +kernel,by decide +kernel,by decide +kernel,by decide +kernel,by decide +kernel⟩
def xt4:XT 0x04 128 191 4:=⟨by decide +kernel,by decide +kernel,by decide +kernel,by decide +kernel,by decide +kernel,by decide +kernel⟩
def Zqm:XT 0x44 128 143 4:=⟨by decide +kernel,by decide +kernel,by decide +kernel,by decide +kernel,by decide +kernel,by decide +kernel⟩
def Zbp:∀b:Fin 256,128<=b.val->OB[b.val]?= some (if b.val<194 then 241 else if b.val<224 then 0x02 else if b.val=224 then 0x13 else if b.val=237 then 0x23 else if b.val<240 then 0x03 else if b.val=240 then 0x34 else if b.val<244 then 0x04 else if b.val=244 then 0x44 else 241):=by decide +kernel
def xi:∀b:Fin 256,BM .i32 (iH .i32 (Az .i32 (Aj (UInt8.ofNat b.val))) (Cl .i32 (C9 .i32 (Az .i32 (Aj 241)) 31) 31)) (Bg .i32 65533 (Cl .i32 (C9 .i32 (Az .i32 (Aj 241)) 31) 31))=65533:=by decide +kernel
def Ts{a s:Nat}(b:s<=32)(h:a*2^s<2147483648):C9 .i32 (a:Int) (s:Int)=((a*2^s:Nat):Int):=SD (k:=.i32) b h
def SY{a j b:Nat}(e:b<2^j)(c:a*2^j<2147483648)(d:b<2147483648):BM .i32 ((a*2^j:Nat):Int) (b:Int)=((a*2^j+b:Nat):Int):=by
 rw[qm (k:=.i32) c d,j5 e]
def SQ(b:UInt8){j m:Nat}(c:m=2^j-1)(h:m<256)(d:j<=8):Az .i32 (Aj (u8 (Bg .u8 (Aj b) (Aj (u8 (m:Int))))))=((b.toNat%2^j:Nat):Int):=by
 have a:b.toNat%2^j<2^31:=Yy (Nat.mod_le _ _) (by have:=Cx b;omega);rw[rz b c h];exact Jp (k:=.i32) a
def Zpf(a b:UInt8):BM .i32 (C9 .i32 (Az .i32 (Aj (u8 (Bg .u8 (Aj a) (Aj (u8 31)))))) 6) (Az .i32 (Aj (u8 (Bg .u8 (Aj b) (Aj (u8 63))))))=((a.toNat%32*64+b.toNat%64:Nat):Int):=by
 have c:=Cx a;rw[show Az .i32 (Aj (u8 (Bg .u8 (Aj a) (Aj (u8 31)))))=((a.toNat%32:Nat):Int) from SQ a (m:=31) (j:=5) rfl (by omega) (by omega),
  show Az .i32 (Aj (u8 (Bg .u8 (Aj b) (Aj (u8 63)))))=((b.toNat%64:Nat):Int) from SQ b (m:=63) (j:=6) rfl (by omega) (by omega)]
 rw[show C9 .i32 ((a.toNat%32:Nat):Int) 6=((a.toNat%32*2^6:Nat):Int) from Ts (s:=6) (by omega) (by omega)];exact SY (j:=6) (by omega) (by omega) (by omega)
def Zpg(a c d:UInt8):BM .i32 (BM .i32 (C9 .i32 (Az .i32 (Aj (u8 (Bg .u8 (Aj a) (Aj (u8 15)))))) 12) (C9 .i32 (Az .i32 (Aj (u8 (Bg .u8 (Aj c) (Aj (u8 63)))))) 6)) (Az .i32 (Aj (u8 (Bg .u8 (Aj d) (Aj (u8 63))))))=((a.toNat%16*4096+c.toNat%64*64+d.toNat%64:Nat):Int):=by
 have f:=Cx a;have e:∀b:UInt8,Az .i32 (Aj (u8 (Bg .u8 (Aj b) (Aj (u8 63)))))=((b.toNat%64:Nat):Int):=λb=>SQ b (m:=63) (j:=6) rfl (by omega) (by omega);rw[show Az .i32 (Aj (u8 (Bg .u8 (Aj a) (Aj (u8 15)))))=((a.toNat%16:Nat):Int) from SQ a (m:=15) (j:=4) rfl (by omega) (by omega),e c,e d];rw[show C9 .i32 ((a.toNat%16:Nat):Int) 12=((a.toNat%16*2^12:Nat):Int) from Ts (s:=12) (by omega) (by omega),
  show C9 .i32 ((c.toNat%64:Nat):Int) 6=((c.toNat%64*2^6:Nat):Int) from Ts (s:=6) (by omega) (by omega)]
 rw[SY (j:=12) (by omega) (by omega) (by omega)];rw[show a.toNat%16*2^12+c.toNat%64*2^6=(a.toNat%16*64+c.toNat%64)*2^6 by omega,SY (j:=6) (by omega) (by omega) (by omega)]
def Zph(a c d f:UInt8):BM .i32 (BM .i32 (BM .i32 (C9 .i32 (Az .i32 (Aj (u8 (Bg .u8 (Aj a) (Aj (u8 7)))))) 18) (C9 .i32 (Az .i32 (Aj (u8 (Bg .u8 (Aj c) (Aj (u8 63)))))) 12)) (C9 .i32 (Az .i32 (Aj (u8 (Bg .u8 (Aj d) (Aj (u8 63)))))) 6)) (Az .i32 (Aj (u8 (Bg .u8 (Aj f) (Aj (u8 63))))))=((a.toNat%8*262144+c.toNat%64*4096+d.toNat%64*64+f.toNat%64:Nat):Int):=by
 have g:=Cx a;have e:∀b:UInt8,Az .i32 (Aj (u8 (Bg .u8 (Aj b) (Aj (u8 63)))))=((b.toNat%64:Nat):Int):=λb=>SQ b (m:=63) (j:=6) rfl (by omega) (by omega);rw[show Az .i32 (Aj (u8 (Bg .u8 (Aj a) (Aj (u8 7)))))=((a.toNat%8:Nat):Int) from SQ a (m:=7) (j:=3) rfl (by omega) (by omega),e c,e d,e f];rw[show C9 .i32 ((a.toNat%8:Nat):Int) 18=((a.toNat%8*2^18:Nat):Int) from Ts (s:=18) (by omega) (by omega),
  show C9 .i32 ((c.toNat%64:Nat):Int) 12=((c.toNat%64*2^12:Nat):Int) from Ts (s:=12) (by omega) (by omega),
  show C9 .i32 ((d.toNat%64:Nat):Int) 6=((d.toNat%64*2^6:Nat):Int) from Ts (s:=6) (by omega) (by omega)]
 rw[SY (j:=18) (by omega) (by omega) (by omega)];rw[show a.toNat%8*2^18+c.toNat%64*2^12=(a.toNat%8*64+c.toNat%64)*2^12 by omega,SY (j:=12) (by omega) (by omega) (by omega)];rw[show (a.toNat%8*64+c.toNat%64)*2^12+d.toNat%64*2^6=((a.toNat%8*64+c.toNat%64)*64+d.toNat%64)*2^6 by omega,SY (j:=6) (by omega) (by omega) (by omega)]
def N7(o:Option (Nat×Nat)):Int×Int:=match o with
 |some (n,k)=>((n:Int),(k:Int))
 |none=>(65533,1)
def NC(c f e:UInt8)(k:Nat)(r:List UInt8):Int×Int:=if r.length+1<k then (65533,1) else match r with
   |[]=>(65533,1)
   |a::r=>if a.toNat<f.toNat\/e.toNat<a.toNat then (65533,1) else if k<=2 then (((c.toNat%32*64+a.toNat%64:Nat):Int),2) else match r with
    |[]=>(65533,1)
    |b::r=>if b.toNat<128\/191<b.toNat then (65533,1) else if k<=3 then (((c.toNat%16*4096+a.toNat%64*64+b.toNat%64:Nat):Int),3) else match r with
     |[]=>(65533,1)
     |d::_=>if d.toNat<128\/191<d.toNat then (65533,1) else (((c.toNat%8*262144+a.toNat%64*4096+b.toNat%64*64+d.toNat%64:Nat):Int),4)
def QX{g:UInt8}{r:List UInt8}{x t s:UInt8}{k:Nat}(J:OB[g.toNat]?= some x)(i:XT x t s k)(R:2<=k)(S:r.length<4611686018427387904):
  M6 (g::r)=some (NC g t s k r):=by
 have N:=Cx g;have z:idx (g::r) 0=some g:=rfl;have A:idx OB (Int.ofNat (0+A9 (Aj g)*1))=some x:=by
  rw[Dz,Gv,VH];simpa using J
 by_cases m:r.length+1<k
 .unfold NC;rw[Af m];unfold M6;rw[B1 (by simp only[Av,Aq];omega),Ag,z,Ad,HC (by rw[Dz];omega),AY,Bw (by rw[Dz];omega),AY,A,Ad,i.a,Ag,i.b,AY,i.c,AY,i.d,Ad,i.e,Ad,i.f,
   Bw (by simp only[Av,Aq];omega),Ah]
 match r with
 |[]=>exact (m (by simp only[Ay];omega)).elim
 |h::r=>
  have O:=Cx h;have K:idx (g::h::r) 1=some h:=rfl;have v:M6 (g::h::r)=(Ab (Bb (Aj h) (Aj t)) (some (65533,1)) (Ab (Bb (Aj s) (Aj h)) (some (65533,1))
   (Ab (Ck (k:Int) 2) (some ((BM .i32 (C9 .i32 (Az .i32 (Aj (u8 (Bg .u8 (Aj g) (Aj (u8 31)))))) 6) (Az .i32 (Aj (u8 (Bg .u8 (Aj h) (Aj (u8 63))))))),2)) (Aa (idx (g::h::r) 2) (λu=>(Ab (Bb (Aj u) (Aj (u8 128))) (some (65533,1)) (Ab (Bb (Aj (u8 191)) (Aj u)) (some
   (65533,1)) (Ab (Ck (k:Int) 3) (some ((BM .i32 (BM .i32 (C9 .i32 (Az .i32 (Aj (u8 (Bg .u8 (Aj g) (Aj (u8 15))))))
   12) (C9 .i32 (Az .i32 (Aj (u8 (Bg .u8 (Aj h) (Aj (u8 63)))))) 6)) (Az .i32 (Aj (u8 (Bg .u8 (Aj u) (Aj (u8 63))))))),3)) (Aa (idx (g::h::r) 3) (λw=>
   (Ab (Bb (Aj w) (Aj (u8 128))) (some (65533,1)) (Ab (Bb (Aj (u8 191)) (Aj w)) (some (65533,1)) (some ((BM .i32 (BM .i32 (BM .i32 (C9 .i32 (Az .i32 (Aj (u8
   (Bg .u8 (Aj g) (Aj (u8 7)))))) 18) (C9 .i32 (Az .i32 (Aj (u8 (Bg .u8 (Aj h) (Aj (u8 63)))))) 12)) (C9 .i32 (Az .i32 (Aj (u8 (Bg .u8 (Aj u) (Aj (u8
   63)))))) 6)) (Az .i32 (Aj (u8 (Bg .u8 (Aj w) (Aj (u8 63))))))),4)))))))))))))):=by
   unfold M6;rw[B1 (by simp only[Av,Aq];omega),Ag,z,Ad,HC (by rw[Dz];omega),AY,Bw (by rw[Dz];omega),AY,A,Ad,i.a,Ag,i.b,AY,i.c,AY,i.d,Ad,i.e,Ad,i.f,
    B1 (by simp only[Av,Aq]at m ⊢;omega),Ag,K,Ad]
  have n:Aj (u8 128)=128:=K6 128 (by omega);have o:Aj (u8 191)=191:=K6 191 (by omega);unfold NC;rw[v,Ae m];simp only[n,o,Zpf,Zpg,Zph];by_cases D:h.toNat<t.toNat
  .rw[Bw (by rw[Dz,Dz];omega),Ah,Af (.inl D)]
  rw[B1 (by rw[Dz,Dz];omega),Ag];by_cases E:s.toNat<h.toNat
  .rw[Bw (by rw[Dz,Dz];omega),Ah,Af (.inr E)]
  rw[B1 (by rw[Dz,Dz];omega),Ag,Ae (by omega)];by_cases B:k<=2
  .rw[HC (by omega),Ah,Af B]
  rw[JC (by omega),Ag,Ae B];obtain⟨j,q,rfl⟩:∃j q,r=j::q:=by
   cases r with
   |nil=>exact (m (by simp only[Ay,Aq];omega)).elim
   |cons x y=>exact⟨x,y,rfl⟩
  have P:=Cx j;have L:idx (g::h::j::q) 2=some j:=rfl;rw[L,Ad];by_cases F:j.toNat<128
  .rw[Bw (by rw[Dz];omega),Ah];simp only;rw[Af (.inl F)]
  rw[B1 (by rw[Dz];omega),Ag];by_cases G:191<j.toNat
  .rw[Bw (by rw[Dz];omega),Ah];simp only;rw[Af (.inr G)]
  rw[B1 (by rw[Dz];omega),Ag];simp only;rw[Ae (by omega)];by_cases C:k<=3
  .rw[HC (by omega),Ah,Af C]
  rw[JC (by omega),Ag,Ae C];obtain⟨l,p,rfl⟩:∃l p,q=l::p:=by
   cases q with
   |nil=>exact (m (by simp only[Ay,Aq];omega)).elim
   |cons x y=>exact⟨x,y,rfl⟩
  have Q:=Cx l;have M:idx (g::h::j::l::p) 3=some l:=rfl;rw[M,Ad];by_cases H:l.toNat<128
  .rw[Bw (by rw[Dz];omega),Ah];simp only;rw[Af (.inl H)]
  rw[B1 (by rw[Dz];omega),Ag];by_cases I:191<l.toNat
  .rw[Bw (by rw[Dz];omega),Ah];simp only;rw[Af (.inr I)]
  rw[B1 (by rw[Dz];omega),Ag];simp only;rw[Ae (by omega)]
def Znr{a:UInt8}{r:List UInt8}(g:194<=a.toNat)(f:a.toNat<224):NC a 128 191 2 r=N7 (CM (a::r)):=by
 have d:(128:UInt8).toNat=128:=rfl;have e:(191:UInt8).toNat=191:=rfl;unfold NC;simp only[CM,Ae (show ¬a.toNat<128 by omega),Ae (show ¬a.toNat<194 by omega),Af f,d,e];cases r with
 |nil=>rfl
 |cons c r=>
  rw[Ae (by simp)];simp only[O2];by_cases b:DP c=true
  .rw[Af b];simp only[DP,AA]at b;rw[Ae (by omega),Af (AE _)];rfl
  rw[Ae b];simp only[DP,AA]at b;rw[Af (by omega)];rfl
def kr{a g f:UInt8}{r:List UInt8}(n:224<=a.toNat)(j:a.toNat<240)(l:g.toNat=LV a)(k:f.toNat=Kn a):NC a g f 3 r=N7 (CM (a::r)):=by
 unfold NC;simp only[CM,Ae (show ¬a.toNat<128 by omega),Ae (show ¬a.toNat<194 by omega),Ae (show ¬a.toNat<224 by omega),Af j,l,k]
 match r with
 |[]=>rfl
 |[_]=>rfl
 |b::e::r=>
  rw[Ae (by simp)];simp only[LC];by_cases c:LV a<=b.toNat/\b.toNat<=Kn a/\DP e=true
  .rw[Af c];obtain⟨d,m,i⟩:=c;simp only[DP,AA]at i;rw[Ae (by omega),Ae (by omega),Ae (by omega),Af (AE _)];rfl
  rw[Ae c];by_cases d:b.toNat<LV a\/Kn a<b.toNat
  .rw[Af d];rfl
  rw[Ae d,Ae (by omega),Af]
  .rfl
  have:¬DP e=true:=λh=>c ⟨by omega,by omega,h⟩;simp only[DP,AA]at this;omega
def ku{a j i:UInt8}{r:List UInt8}(p:240<=a.toNat)(m:a.toNat<245)(o:j.toNat=LW a)(n:i.toNat=LK a):NC a j i 4 r=N7 (CM (a::r)):=by
 unfold NC;simp only[CM,Ae (show ¬a.toNat<128 by omega),Ae (show ¬a.toNat<194 by omega),Ae (show ¬a.toNat<224 by omega),Ae (show ¬a.toNat<240 by omega),Af m,o,n]
 match r with
 |[]=>rfl
 |[_]=>rfl
 |[_,_]=>rfl
 |b::d::g::r=>
  rw[Ae (by simp)];simp only[Ki];by_cases c:LW a<=b.toNat/\b.toNat<=LK a/\DP d=true/\DP g=true
  .rw[Af c];obtain⟨e,f,k,l⟩:=c;simp only[DP,AA]at k l;rw[Ae (by omega),Ae (by omega),Ae (by omega),Ae (by omega),Ae (by omega)];rfl
  rw[Ae c];by_cases e:b.toNat<LW a\/LK a<b.toNat
  .rw[Af e];rfl
  rw[Ae e,Ae (by omega)];by_cases f:d.toNat<128\/191<d.toNat
  .rw[Af f];rfl
  rw[Ae f,Ae (by omega),Af]
  .rfl
  have:¬DP g=true:=λh=>c ⟨by omega,by omega,by simp only[DP,AA];omega,h⟩;simp only[DP,AA]at this;omega
def vD{a:UInt8}{r:List UInt8}(f:OB[a.toNat]?= some 241):M6 (a::r)=some (65533,1):=by
 have e:=Cx a;have c:idx (a::r) 0=some a:=rfl;have d:idx OB (Int.ofNat (0+A9 (Aj a)*1))=some 241:=by
  rw[Dz,Gv,VH];simpa using f
 have b:=xi ⟨a.toNat,e⟩;simp only[UInt8.ofNat_toNat]at b;unfold M6;rw[B1 (by simp only[Av,Aq];omega),Ag,c,Ad,HC (by rw[Dz];omega),AY,Bw (by rw[Dz];omega),AY,d,Ad,show Dk (Aj 241) (Aj (u8 240))=true by decide +kernel,Ah,Ad,b]
def Zns{b:UInt8}{r:List UInt8}(h:128<=b.toNat)(c:r.length<4611686018427387904):M6 (b::r)=some (N7 (CM (b::r))):=by
 have m:=Cx b;have a:=Zbp ⟨b.toNat,m⟩ h;simp only at a;by_cases d:b.toNat<194
 .rw[Af d]at a;rw[vD a];simp only[CM,Ae (show ¬b.toNat<128 by omega),Af d,N7]
 rw[Ae d]at a;by_cases e:b.toNat<224
 .rw[Af e]at a;rw[QX a xt2 (by omega) c,Znr (by omega) e]
 rw[Ae e]at a;by_cases f:b.toNat=224
 .rw[Af f]at a;rw[QX a Zqg (by omega) c,kr (by omega) (by omega) (by rw[LV,Af f];rfl) (by rw[Kn,Ae (by omega)];rfl)]
 rw[Ae f]at a;by_cases g:b.toNat=237
 .rw[Af g]at a;rw[QX a Zqi (by omega) c,kr (by omega) (by omega) (by rw[LV,Ae (by omega)];rfl) (by rw[Kn,Af g];rfl)]
 rw[Ae g]at a;by_cases i:b.toNat<240
 .rw[Af i]at a;rw[QX a xt3 (by omega) c,kr (by omega) (by omega) (by rw[LV,Ae (by omega)];rfl) (by rw[Kn,Ae (by omega)];rfl)]
 rw[Ae i]at a;by_cases j:b.toNat=240
 .rw[Af j]at a;rw[QX a Zqk (by omega) c,ku (by omega) (by omega) (by rw[LW,Af j];rfl) (by rw[LK,Ae (by omega)];rfl)]
 rw[Ae j]at a;by_cases l:b.toNat<244
 .rw[Af l]at a;rw[QX a xt4 (by omega) c,ku (by omega) (by omega) (by rw[LW,Ae (by omega)];rfl) (by rw[LK,Ae (by omega)];rfl)]
 rw[Ae l]at a;by_cases k:b.toNat=244
 .rw[Af k]at a;rw[QX a Zqm (by omega) c,ku (by omega) (by omega) (by rw[LW,Ae (by omega)];rfl) (by rw[LK,Af k];rfl)]
 rw[Ae k]at a;rw[vD a];simp only[CM,Ae (show ¬b.toNat<128 by omega),Ae d,Ae e,Ae i,Ae (show ¬b.toNat<245 by omega),N7]
def yZ{a:UInt8}{r:List UInt8}(d:r.length<4611686018427387904):Yf (a::r)=some (N7 (CM (a::r))):=by
 have e:=Cx a;have b:Aj (u8 128)=128:=K6 128 (by omega);unfold Yf;by_cases h:a.toNat<128
 .have c:UT (a::r) 0=some (.inr (.inr ((a.toNat:Int),1))):=by
   unfold UT;rw[Bw (by simp only[Av,Aq];omega),Ah,show idx (a::r) 0=some a from rfl,Ad,b,Bw (by rw[Dz];omega),Ah,Dz];rw[show Az .i32 (a.toNat:Int)=(a.toNat:Int) from Jp (k:=.i32) (show a.toNat<2^31 by omega)]
  rw[Io c,Lb];simp only[CM,Af h,N7];rfl
 have c:UT (a::r) 0=some (.inr (.inl ())):=by
  unfold UT;rw[Bw (by simp only[Av,Aq];omega),Ah,show idx (a::r) 0=some a from rfl,Ad,b,B1 (by rw[Dz];omega),Ag]
 rw[Io c,A4,Zns (by omega) d,Ad]
def Zh6{b:List UInt8}{i:Nat}(s:b.length<4611686018427387904)(j:i<b.length):Xx (b,(i:Int))=some (Fk (CM (b.drop i)) i):=by
 unfold Xx;have hd:b.drop i=b[i]::b.drop (i+1):=H1 j;have e:BA (A9 (Am b)-A9 (i:Int)) (E9 (A9 (i:Int)) b)=b.drop i:=by
  rw[Av,Gv,Gv,BA,E9];exact F3 (by rw[Di];omega)
 have f:De (i:Int) (Am b) (Am b)=true:=by
  unfold De;rw[AA,Av];omega
 simp only;rw[B1 (by omega),Ag,Nj (by rw[Av];omega),Ag,f,AY,e];rw[show QI (A9 (i:Int)) (b.drop i).length=true by simp only[QI,Di,Gv,AA];omega,AY];rw[hd,yZ (by rw[Di];omega),Ad];cases o:CM (b[i]::b.drop (i+1)) with
 |none=>rfl
 |some x=>
  obtain⟨n,k⟩:=x;obtain⟨m,h,t,p⟩:=ZR o;have l:k=(D2 n).length:=by rw[h,EF];omega
  simp only[CT,AA]at m;have q:=(g_ (n:=n)).2;have c:Az .i64 (n:Int)=(n:Int):=Jp (k:=.i64) (show n<2^63 by omega);have a:Au .i64 (i:Int) (k:Int)=((i+k:Nat):Int):=Qy (by simp only[Aq,Di]at p;omega);have d:((n:Int),Au .i64 (i:Int) (k:Int),true)=Fk (some (n,k)) i:=by
   rw[a];simp[Fk]
  simp only[N7,c];rw[d];by_cases g:n=65533
  .subst g;have r:k=3:=by rw[l];decide +kernel
   rw[show Ak ((65533:Nat):Int) 65533=true from LM _,Ah,B1 (by omega),Ag]
  rw[E7 (by omega),Ag]
def JE{b:List UInt8}{i:Nat}(a:i<b.length):b.drop i=b[i]::b.drop (i+1):=H1 a
def MX(b:UInt8):Az .i64 (Aj b)=(b.toNat:Int):=Jp (k:=.i64) (show b.toNat<2^63 by have:=Cx b;omega)
def u4(a c:UInt8):XK ((a.toNat:Int),(c.toNat:Int))=some (if a.toNat=0xa4/\0xa1<=c.toNat/\c.toNat<=0xf3 then (((0x3041+(c.toNat-0xa1):Nat):Int),true) else if a.toNat=0xa5/\0xa1<=c.toNat/\c.toNat<=0xf6 then (((0x30a1+(c.toNat-0xa1):Nat):Int),true) else (0,false)):=by
 have i:=Cx c;have f:161<=c.toNat->Br .i64 (Au .i64 12353 (c.toNat:Int)) 161=((0x3041+(c.toNat-0xa1):Nat):Int):=λh=>by
  rw[CS (by omega) (by omega),E8 (by omega) (by omega)];omega
 have g:161<=c.toNat->Br .i64 (Au .i64 12449 (c.toNat:Int)) 161=((0x30a1+(c.toNat-0xa1):Nat):Int):=λh=>by
  rw[CS (by omega) (by omega),E8 (by omega) (by omega)];omega
 unfold XK;simp only[Ef,Ad,Vj];by_cases d:a.toNat=0xa4
 .rw[show Ak (a.toNat:Int) 164=true by rw[d];rfl,Ah];by_cases b:161<=c.toNat/\c.toNat<=243
  .rw[Af (by omega),Af ⟨d,b⟩,f b.1]
  rw[Ae (by omega),E7 (by omega),Ag,Ae (λh=>b h.2),Ae (by omega)]
 rw[E7 (by omega),Ag];by_cases e:a.toNat=0xa5
 .rw[show Ak (a.toNat:Int) 165=true by rw[e];rfl,Ah];by_cases b:161<=c.toNat/\c.toNat<=246
  .rw[Af (show (161:Int)<=(c.toNat:Int)/\(c.toNat:Int)<=246 by omega),Ae (λh=>d h.1),Af ⟨e,b⟩,g b.1]
  rw[Ae (show ¬((161:Int)<=(c.toNat:Int)/\(c.toNat:Int)<=246) by omega),Ae (λh=>d h.1),Ae (λh=>b h.2)]
 rw[E7 (by omega),Ag,Ae (λh=>d h.1),Ae (λh=>e h.1)]
def Zib(a c:UInt8):dM ((a.toNat:Int),(c.toNat:Int))=some (if a.toNat=0xa4/\0xa1<=c.toNat/\c.toNat<=0xf3 then (((0x3041+(c.toNat-0xa1):Nat):Int),true) else if a.toNat=0xa5/\0xa1<=c.toNat/\c.toNat<=0xf6 then (((0x30a1+(c.toNat-0xa1):Nat):Int),true) else (0,false)):=u4 a c
def pm(b a:UInt8)(r:List UInt8)(i:Nat)(h:¬b.toNat<128)(e:i<4611686018427387904):
  (Aa (some (if b.toNat=0xa4/\0xa1<=a.toNat/\a.toNat<=0xf3 then (((0x3041+(a.toNat-0xa1):Nat):Int),true) else if b.toNat=0xa5/\0xa1<=a.toNat/\a.toNat<=0xf6 then (((0x30a1+(a.toNat-0xa1):Nat):Int),true) else (0,false))) λd:Int×Bool=>Ab (Ap d.2) (some (0,(0,false))) (some (d.1,((Au .i64 (i:Int) 2),true))))=some (Fk (Ic (b::a::r)) i):=by
 have c:Au .i64 (i:Int) 2=((i+2:Nat):Int):=Qy (n:=2) (by omega);simp only[Ic,Ae h,Ad];split
 .rw[c];simp[Fk]
 split
 .rw[c];simp[Fk]
 rfl
def Zma{b:List UInt8}{i:Nat}(g:b.length<4611686018427387904)(c:i<b.length):XH (b,(i:Int))=some (Fk (Ic (b.drop i)) i):=by
 unfold XH;have f:Br .i64 (Am b) 1=(b.length:Int)-1:=E8 (by simp only[Av];omega) (by simp only[Av];omega);have a:Aj (u8 128)=128:=K6 128 (by omega);simp only[Ef,Ad];rw[f,show decide ((0:Int)<=(i:Int)/\(i:Int)<=(b.length:Int)-1)=true by simp only[AA];omega,Bf,Ag,BK c,Ad,a];have d:Au .i64 (i:Int) 1=((i+1:Nat):Int):=CX (by omega);by_cases h:b[i].toNat<128
 .rw[Bw (by rw[Dz];omega),Ah,Ad,MX,d,JE c];simp only[Ic,Af h,Fk];simp
 rw[B1 (by rw[Dz];omega),Ag,d];by_cases e:i+1<b.length
 .rw[Nj (by rw[Av];omega),Ag,Ad,BK e,Ad,MX,MX,u4,JE c,JE e];exact pm _ _ _ _ h (by omega)
 rw[OJ (by rw[Av];omega),Ah,JE c,RG (show b.length<=i+1 by omega)];simp only[Ic,Ae h,Fk]
def Zhz{b:List UInt8}{i:Nat}(f:b.length<4611686018427387904)(c:i<b.length):Xv (b,(i:Int))=some (Fk (Ic (b.drop i)) i):=by
 unfold Xv;have a:Aj (u8 127)=127:=K6 127 (by omega);simp only;rw[B1 (by omega),Ag,Nj (by rw[Av];omega),Ag,BK c,Ad,a];have d:Au .i64 (i:Int) 1=((i+1:Nat):Int):=CX (by omega);by_cases h:b[i].toNat<128
 .rw[HC (by rw[Dz];omega),Ah,Ad,MX,d,JE c];simp only[Ic,Af h,Fk];simp
 rw[JC (by rw[Dz];omega),Ag,d];by_cases e:i+1<b.length
 .rw[E7 (by rw[Av];omega),Ag,Ad,BK e,Ad,MX,MX,Zib,JE c,JE e];exact pm _ _ _ _ h (by omega)
 rw[show Ak ((i+1:Nat):Int) (Am b)=true by rw[Av,show i+1=b.length by omega];exact LM _,Ah,JE c,RG (show b.length<=i+1 by omega)];simp only[Ic,Ae h,Fk]
def Gs(o:Option Nat):Int×Bool:=match o with
 |some n=>((n:Int),true)
 |none=>(0,false)
def Zmu:∀b:Fin 256,KD (1,(b.val:Int))=some (Gs (DW 1 b.val)):=by decide +kernel
def Zmv:∀b:Fin 256,KD (2,(b.val:Int))=some (Gs (DW 2 b.val)):=by decide +kernel
def Zmw:∀b:Fin 256,KD (3,(b.val:Int))=some (Gs (DW 3 b.val)):=by decide +kernel
def Zmx:∀b:Fin 256,KD (4,(b.val:Int))=some (Gs (DW 4 b.val)):=by decide +kernel
def Zij:∀b:Fin 256,P0 (1,(b.val:Int))=some (Gs (DW 1 b.val)):=by decide +kernel
def Zik:∀b:Fin 256,P0 (2,(b.val:Int))=some (Gs (DW 2 b.val)):=by decide +kernel
def Zil:∀b:Fin 256,P0 (3,(b.val:Int))=some (Gs (DW 3 b.val)):=by decide +kernel
def Zim:∀b:Fin 256,P0 (4,(b.val:Int))=some (Gs (DW 4 b.val)):=by decide +kernel
def kU{a b:Nat}(d:1<=a)(e:a<=4)(c:b<256):KD ((a:Int),(b:Int))=some (Gs (DW a b)):=by
 rcases (show a=1\/a=2\/a=3\/a=4 by omega) with rfl|rfl|rfl|rfl
 .exact Zmu ⟨b,c⟩
 .exact Zmv ⟨b,c⟩
 .exact Zmw ⟨b,c⟩
 exact Zmx ⟨b,c⟩
def Zhv{a b:Nat}(d:1<=a)(e:a<=4)(c:b<256):P0 ((a:Int),(b:Int))=some (Gs (DW a b)):=by
 rcases (show a=1\/a=2\/a=3\/a=4 by omega) with rfl|rfl|rfl|rfl
 .exact Zij ⟨b,c⟩
 .exact Zik ⟨b,c⟩
 .exact Zil ⟨b,c⟩
 exact Zim ⟨b,c⟩
def L4(o:Option (Int×Int×Bool))(s:Option (Nat×Nat))(i:Nat):Prop:=match s with
 |some (n,k)=>o=some ((n:Int),((i+k:Nat):Int),true)
 |none=>∃p q,o=some (p,q,false)
def aQ{s:Option (Nat×Nat)}{i:Nat}:L4 (some (Fk s i)) s i:=by
 cases s with
 |none=>exact⟨_,_,rfl⟩
 |some x=>simp[L4,Fk]
def Zmd{a i:Nat}{b:List UInt8}(h:a<=5)(g:b.length<4611686018427387904)(c:i<b.length):L4 (Yb ((a:Int),(b,(i:Int)))) (HL a (b.drop i)) i:=by
 unfold Yb HL;simp only;by_cases d:a=0
 .subst d;rw[show Ak ((0:Nat):Int) 0=true from rfl,Ah,uZ g c,Ad,Af rfl];exact aQ
 rw[E7 (by omega),Ag,Ae d];by_cases e:a=5
 .subst e;rw[show Ak ((5:Nat):Int) 5=true from rfl,Ah,Zma g c,Ad,Af rfl];exact aQ
 rw[E7 (by omega),Ag,Ae e,BK c,Ad,MX,kU (by omega) (by omega) (Cx _),Ad,JE c];cases f:DW a b[i].toNat with
 |none=>simp only[f,H2,L4,Gs];exact⟨_,_,rfl⟩
 |some n=>simp only[f,Dg,L4,Gs];rw[CX (by omega)]
def Zh2{a i:Nat}{b:List UInt8}(h:a<=5)(g:b.length<4611686018427387904)(c:i<b.length):L4 (X5 ((a:Int),(b,(i:Int)))) (HL a (b.drop i)) i:=by
 unfold X5 HL;simp only;by_cases d:a=0
 .subst d;rw[show Ak ((0:Nat):Int) 0=true from rfl,Ah,Zh6 g c,Ad,Af rfl];exact aQ
 rw[E7 (by omega),Ag,Ae d];by_cases e:a=5
 .subst e;rw[show Ak ((5:Nat):Int) 5=true from rfl,Ah,Zhz g c,Ad,Af rfl];exact aQ
 rw[E7 (by omega),Ag,Ae e,BK c,Ad,MX,Zhv (by omega) (by omega) (Cx _),Ad,JE c];cases f:DW a b[i].toNat with
 |none=>simp only[f,H2,L4,Gs];exact⟨_,_,rfl⟩
 |some n=>simp only[f,Dg,L4,Gs];rw[CX (by omega)]
def F8(o:Option (List UInt8)):List UInt8×Bool:=match o with
 |some t=>(t,true)
 |none=>([],false)
def oa{c:Nat}{b:List UInt8}(m:c<=5)(C:b.length<=1048576){step:List UInt8×Int->Option ((List UInt8×Int) ⊕ (List UInt8 ⊕ (List UInt8×Bool)))}
  (w:∀(a:List UInt8) (i:Nat),i<b.length->a.length<=4*i->(∀n k,HL c (b.drop i)=some (n,k)->step (a,(i:Int))=some (.inl (a++D2 n,((i+k:Nat):Int))))/\(HL c (b.drop i)=none->step (a,(i:Int))=some (.inr (.inr ([],false)))))
  (t:∀a,step (a,(b.length:Int))=some (.inr (.inl a))):
  AC (Bd step ([],0)) (λz=>some (z,true))=some (F8 (Kj c b)):=by
 obtain⟨r,p,q⟩:=rl (step:=step)
  (λs=>∃(i:Nat) (g:List Nat),s.2=(i:Int)/\i<=b.length/\s.1=F0 g/\g.length<=i/\HM c b=(HM c (b.drop i)).map (g++·)) (λs=>b.length-s.2.toNat)
  (λr=>AC (some r) (λz=>some (z,true))=some (F8 (Kj c b))) (by
   rintro ⟨a,j⟩ ⟨i,g,rfl,u,rfl,v,d⟩;simp only at u v d ⊢;have D:=Re g;by_cases e:i<b.length
   .obtain⟨A,B⟩:=w (F0 g) i e (by omega);cases h:HL c (b.drop i) with
    |none=>
     right;refine⟨_,B h, ?_⟩;rw[Lb];have f:b.drop i≠[]:=by rw[JE e];exact Yi _ _
     rw[WL m f,h]at d;simp only[H2]at d;simp only[Kj,d,H2,F8]
    |some x=>
     obtain⟨n,k⟩:=x;left;obtain⟨_,_,E,y⟩:=Tu m h;rw[Di]at y;refine⟨_,A n k h,⟨i+k,g++[n],rfl,by omega, ?_, ?_, ?_⟩, ?_⟩
     .simp[F0]
     .simp only[Cb,Aq,Ay];omega
     .have f:b.drop i≠[]:=by rw[JE e];exact Yi _ _
      rw[d,WL m f,h];simp only[MC,mu];congr 1;funext l;simp
     simp only[Gn];omega
   .have o:i=b.length:=by omega
    subst o;right;refine⟨_,t _, ?_⟩;rw[A4];rw[eA,kn]at d;simp only[Dg,AB]at d;simp only[Kj,d,Dg,F8]) ([],0) ⟨0,[],rfl,Cq _,rfl,AE _,by
   rw[AJ];cases HM c b<;>simp⟩
 rw[p];exact q
def Zl9{c:Nat}{b:List UInt8}(e:c<=5)(h:b.length<=1048576):X8 ((c:Int),b)=some (F8 (Kj c b)):=by
 unfold X8 PG;simp only[Ef,Ad];rw[show decide ((0:Int)<=(c:Int)/\(c:Int)<=5)=true by simp only[AA];omega,Bf,Ag];refine oa e h ?_ ?_
 .intro f i g l;have a:=Zmd e (by omega) g;unfold eP;simp only;rw[Bw (by rw[Av];omega),Ah];refine⟨λn k d=>?_,λd=>?_⟩
  .rw[d]at a;simp only[L4]at a;obtain⟨j,_,_,_⟩:=Tu e d;rw[a,Ad];simp only[Bf,Ag];rw[bz (by omega),Ad,show GG (n:Int)=true by simp[GG,j]];simp
  rw[d]at a;obtain⟨p,q,a⟩:=a;rw[a,Ad];rfl
 intro f;unfold eP;simp only;rw[B1 (by rw[Av];exact RI _),Ag]
def Zhw{c:Nat}{b:List UInt8}(e:c<=5)(h:b.length<=1048576):Xt ((c:Int),b)=some (F8 (Kj c b)):=by
 unfold Xt X1;simp only[HD,Ad];rw[show decide ((0:Int)<=(c:Int)/\(c:Int)<=5)=true by simp only[AA];omega,Bf,Ag];refine oa e h ?_ ?_
 .intro f i g l;have a:=Zh2 e (by omega) g;unfold eF;simp only;rw[Bw (by rw[Av];omega),Ah];refine⟨λn k d=>?_,λd=>?_⟩
  .rw[d]at a;simp only[L4]at a;obtain⟨j,_,_,_⟩:=Tu e d;rw[a,Ad];simp only[Bf,Ag];rw[Zid (by omega),Ad,show GG (n:Int)=true by simp[GG,j]];simp
  rw[d]at a;obtain⟨p,q,a⟩:=a;rw[a,Ad];rfl
 intro f;unfold eF;simp only;rw[B1 (by rw[Av];exact RI _),Ag]
end
end Go.Vs
