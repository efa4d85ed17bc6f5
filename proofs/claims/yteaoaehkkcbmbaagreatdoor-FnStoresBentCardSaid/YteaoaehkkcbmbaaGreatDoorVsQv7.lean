import Derived.Test.YteaoaehkkcbmbaaGreatDoorVsQv6
set_option linter.all false
namespace Go.Vs
noncomputable section
def Zhr{n:Nat}(h:n<65536):u8 (Az .u8 (Cl .i64 (n:Int) 8))=yN (n / 256)/\u8 (Az .u8 (n:Int))=yN (n%256):=by
 have e:Cl .i64 (n:Int) (8:Nat)=_:=WK (n:=n) (s:=8) (by omega);refine⟨?_, ?_⟩
 .rw[show Cl .i64 (n:Int) 8=((n / 2^8:Nat):Int) from e,G7]
 rw[G7];exact UInt8.toNat_inj.1 (by simp[yN])
def QQ{l:List UInt8}{n:Int}(e:l.length<=1099511627776)(c:0<=n)(d:n<65536):JZ (l,n)=some (l++Ci n):=by
 obtain⟨k,rfl⟩:=Gb c;obtain⟨a,b⟩:=Zhr (n:=k) (by omega);unfold JZ;simp only[a,b];rw[B8 (by omega),AY,B8 (by simp only[Ax,A0];omega),AY];rfl
def Qz{l:List UInt8}{n:Int}(f:l.length<=1099511627776)(c:0<=n)(d:n<65536):JX (l,n)=some (l++Ci n):=by
 obtain⟨k,rfl⟩:=Gb c;have e:Cl .i64 (k:Int) 8=((k / 2^8:Nat):Int):=WK (n:=k) (s:=8) (by omega);have a:Bg .i64 ((k / 2^8:Nat):Int) 255=((k / 2^8%256:Nat):Int):=by
  rw[show (255:Int)=((255:Nat):Int) from rfl,Ni (k:=.i64) (by show _<2^63;omega) (by show _<2^63;omega),L8 (j:=8) rfl]
 have b:Bg .i64 (k:Int) 255=((k%256:Nat):Int):=by
  rw[show (255:Int)=((255:Nat):Int) from rfl,Ni (k:=.i64) (by show _<2^63;omega) (by show _<2^63;omega),L8 (j:=8) rfl]
 unfold JX;simp only[e,a,b,G7];rw[rG (by simp only[Aq,Ay];omega),Ad];rw[show k / 2^8%256=k / 256 by omega];rfl
def Rb(s:List UInt8):(I2 s).length<=62:=by
 unfold I2;split<;>simp[Ci]<;>omega
def r3{s:List UInt8}(h:¬s.length<=60):Cr (Am s) 60=true:=D4 (by simp only[Av];omega)
def kX{l s:List UInt8}(a:l.length<=1048576000)(b:s.length<=1048576000):P9 (l,s)=some (l++I2 s):=by
 unfold P9 I2;simp only;by_cases h:s.length<=60
 .rw[Ee (by simp only[Av];omega),Ag,Af h,Av,QQ (by omega) (by omega) (by omega),Ad];rw[B8 (by simp only[Cb,Ci,Aq,Ay];omega),AY];simp only[Ax,EG]
 rw[r3 h,Ah,Ae h,B8 (by omega),AY,AB];rfl
def iM{l s:List UInt8}(a:l.length<=1048576000)(b:s.length<=1048576000):Mv (l,s)=some (l++I2 s):=by
 unfold Mv I2;simp only;by_cases h:s.length<=60
 .rw[Ee (by simp only[Av];omega),Ag,Af h,Av,Qz (by omega) (by omega) (by omega),Ad];rw[rG (by simp only[Cb,Ci,Aq,Ay];omega),Ad,EG]
 rw[r3 h,Ah,Ae h,LQ (by omega),Ad,AB]
def Zt(c:BI):(Gt c).length<=63:=by
 have:=Rb c.2;unfold Gt;simp only[Aq];omega
def MY{t:Int}(a:0<=t):u8 (Az .u8 t)=yN t.toNat:=by
 obtain⟨k,rfl⟩:=Gb a;rw[G7];rfl
def Th(l:List UInt8)(r:A8):List UInt8:=if Co r=true then l++Ky r else l
def kD(r:A8):(Ky r).length<=190:=by
 have a:=Rb r.1;have b:=Zt r.2.1;have c:=Zt r.2.2.1;unfold Ky;simp only[Cb,Aq];split<;>split<;>first|omega|(simp only[Ay];omega)
def Zmy{l:List UInt8}{c:BI}(d:l.length<=104857600)(b:c.2.length<=1048576000)(a:0<=c.1):RA (l,(c.1,c.2))=some (l++Gt c):=by
 unfold RA;simp only[MY a];rw[B8 (by omega),AY,kX (by simp only[Ax,Cb,Aq,Ay];omega) b,Ad];simp only[Ax,EG,Gt,A1,A0]
def Zbt(b:Bool):dS b=some (yN (O8 b)):=by cases b<;>rfl
def Zbs(b:Bool):dP b=some (yN (O8 b)):=by cases b<;>rfl
def td{r:A8}(h:Co r=true)(e:r.2.2.2.1≠2):0<=r.2.1.1:=by
 obtain⟨_,a,b,c,d⟩:=JL h;have:=Ti c e;omega
def tc{r:A8}(h:Co r=true)(a:r.2.2.2.1≠1):0<=r.2.2.1.1:=by
 have d:=(JL h).2.2.2.2;have:=bZ d.1 a;omega
def Zmm{l:List UInt8}{r:A8}(A:l.length<=1048576)(w:Fz 1048576 r):Uj (l,r)=some (Th l r):=by
 obtain⟨d,⟨ot,e⟩,⟨g,f⟩,a,b⟩:=r;obtain⟨x,j,m⟩:=w;simp only at x j m;have s:J6 (d,((ot,e),((g,f),(a,b))))=some (Co (d,((ot,e),((g,f),(a,b))))):=WF (by simp only;omega);unfold Uj Th;simp only[s,Ad,Zbt];rw[B8 (by omega),AY];cases i:Co (d,((ot,e),((g,f),(a,b)))) with
 |false=>rw[B2,Ah];rfl
 |true=>
 have p:=JL i;have u:Ea (d,((ot,e),((g,f),(a,b))))=some (decide (a≠2)):=ua _ i;have t:Df (d,((ot,e),((g,f),(a,b))))=some (decide (a≠1)):=ka _ i;have C:=Rb d;have D:=Zt (ot,e);have o:=td i;have n:=tc i;simp only at p o n;rw[Bf,Ag,show Ax [] l=l from rfl,kX (by omega) (by omega),Ad,B8 (by simp only[Cb];omega),AY];simp only[u,t,Ad,MY (show 0<=a by omega),BF,Ky,Ax];have step:∀(q:List UInt8) (c:BI) (k:Int),q.length<=2097152->c.2.length<=1048576->(a≠k->0<=c.1)->Ab (decide (a≠k)) (Aa (RA (q,(c.1,c.2))) (λy=>(some (.inl y)))) (some (.inl q))=some (.inl (q++if a=k then [] else Gt c):List UInt8 ⊕ List UInt8):=by
  intro q c k B z v;by_cases h:a=k
  .rw[Af h,AG (by simpa using h),Ag,AB]
  rw[Ae h,AF h,Ah,Zmy (by omega) (by omega) (v h)];rfl
 rw[step _ (ot,e) 2 (by simp only[Cb,Aq,Ay];omega) j o,A4];have E:(if a=2 then [] else Gt (ot,e)).length<=63:=by split<;>first|omega|(simp only[Ay];omega)
 rw[step _ (g,f) 1 (by simp only[Cb,Aq,Ay];omega) m n,A4];simp only[EG,A1,A0]
def Zic{l:List UInt8}{r:A8}(y:l.length<=1048576)(u:Fz 1048576 r):TR (l,r)=some (Th l r):=by
 obtain⟨d,⟨ot,e⟩,⟨g,f⟩,a,b⟩:=r;obtain⟨v,j,m⟩:=u;simp only at v j m;have s:KB (d,((ot,e),((g,f),(a,b))))=some (Co (d,((ot,e),((g,f),(a,b))))):=aW (by simp only;omega);unfold TR Th;simp only[LQ (show l.length<=140737488355328 by omega),s,Ad,Zbs];cases i:Co (d,((ot,e),((g,f),(a,b)))) with
 |false=>rw[B2,Ah];rfl
 |true=>
 have p:=JL i;have A:=Rb d;have B:=Zt (ot,e);have o:=td i;have n:=tc i;simp only at p o n;rw[Bf,Ag,iM (by omega) (by omega),Ad,B8 (by simp only[Cb];omega),AY];simp only[Ad,MY (show 0<=a by omega),BF,Ky,Ax];have step:∀(q:List UInt8) (c:BI) (k:Int),q.length<=2097152->c.2.length<=1048576->(a≠k->0<=c.1)->Ab (AI a k) (A3 (Bk (q.length+1) 1) (Aa (Mv (q++[u8 (Az .u8 c.1)],c.2)) (λw=>(some (.inl w))))) (some (.inl q))=some (.inl (q++if a=k then [] else Gt c):List UInt8 ⊕ List UInt8):=by
  intro q c k z x t;by_cases h:a=k
  .rw[Af h,h,Jr,Ag,AB]
  rw[Ae h,Hl h,Ah,B8 (by omega),AY,iM (by simp only[Cb,Aq,Ay];omega) (by omega),MY (t h)];simp only[Ad,Gt,EG,A1,A0]
 rw[step _ (ot,e) 2 (by simp only[Cb,Aq,Ay];omega) j o,A4];have C:(if a=2 then [] else Gt (ot,e)).length<=63:=by split<;>first|omega|(simp only[Ay];omega)
 rw[step _ (g,f) 1 (by simp only[Cb,Aq,Ay];omega) m n,A4];simp only[EG,A1,A0]
abbrev Bo:=Int×A8×List UInt8×Int×Int×Int×Int
def Gh(r:A8):Bool:=r.1.isEmpty&&FV r.2.1&&FV r.2.2.1&&decide (r.2.2.2.1=0)&&!r.2.2.2.2
def bG{r:A8}(h:Gh r=true):r=([],(0,[]),(0,[]),0,false):=by
 obtain⟨k,o,n,z,a⟩:=r;simp only[Gh,A6,AA,Oj,CV]at h;obtain⟨⟨⟨⟨b,c⟩,d⟩,e⟩,f⟩:=h;rw[b,OV c,OV d,e,f]
def Hj(k:Int)(R:A8)(a:List UInt8)(n:Int):Bool:=
 if k=1 then Co R&&a.isEmpty&&decide (n=0)
 else if k=2 then Gh R&&F7 a&&decide (n=0)
 else if k=3 then Gh R&&a.isEmpty&&decide (0<=n/\n<=7)
 else if k=4 then Gh R&&a.isEmpty&&decide (n=0)
 else false
def Ms(k b seq a:Int):Bool:=if b=0 then decide (seq=0/\a=0/\k≠4) else decide (1<=b/\b<=9/\0<=seq/\seq<=65535/\0<=a/\a<=6)
def Dn(r:Bo):Bool:=Hj r.1 r.2.1 r.2.2.1 r.2.2.2.1&&Ms r.1 r.2.2.2.2.1 r.2.2.2.2.2.1 r.2.2.2.2.2.2
def J8(k:Int)(R:A8)(a:List UInt8)(n:Int):List UInt8:=if k=1 then Ky R else if k=2 then I2 a else if k=3 then [yN n.toNat] else []
def Jw(gen a:Int)(r:Bo):List UInt8:=Ci gen++(Ci a++(yN r.1.toNat::(J8 r.1 r.2.1 r.2.2.1 r.2.2.2.1++(yN r.2.2.2.2.1.toNat::yN r.2.2.2.2.2.2.toNat::Ci r.2.2.2.2.2.1))))
def WN(b:List UInt8):List UInt8:=b++Ci (EP b)
def FK(gen a:Int)(r:Bo):List UInt8:=if Dn r=true/\0<=gen/\gen<=65535/\0<=a/\a<=65535 then WN (Jw gen a r) else []
def Wl(k:Int)(l:List UInt8):Option ((A8×List UInt8×Int)×List UInt8):=
 if k=1 then (match GD l with
  |none=>none
  |some (r,l)=>some ((r,[],0),l))
 else if k=2 then (match Fl l with
  |none=>none
  |some (s,l)=>some ((([],(0,[]),(0,[]),0,false),s,0),l))
 else if k=3 then (match Cw l with
  |none=>none
  |some (n,l)=>some ((([],(0,[]),(0,[]),0,false),[],n),l))
 else some ((([],(0,[]),(0,[]),0,false),[],0),l)
def JH(l:List UInt8):Option ((Int×Int×Bo)×List UInt8):=match Cy l with
 |none=>none
 |some (gen,l)=>match Cy l with
  |none=>none
  |some (a,l)=>match Cw l with
   |none=>none
   |some (k,l)=>match Wl k l with
    |none=>none
    |some ((R,c,n),l)=>match Cw l with
     |none=>none
     |some (d,l)=>match Cw l with
      |none=>none
      |some (b,l)=>match Cy l with
       |none=>none
       |some (seq,l)=>some ((gen,a,(k,R,c,n,d,seq,b)),l)
def HB(b:List UInt8):Option (Int×Int×Bo):=match JH b with
 |none=>none
 |some (x,l)=>if l=Ci (EP (b.take (b.length-2)))/\l.length=2/\Dn x.2.2=true then some x else none
def Rp(n:Int):(Ci n).length=2:=rfl
def bR{k:Int}{R:A8}{d:List UInt8}{n:Int}(h:Hj k R d n=true)(l:List UInt8):Wl k (J8 k R d n++l)=some ((R,d,n),l)/\1<=k/\k<=4:=by
 unfold Hj at h;unfold Wl J8;split at h
 .rename_i b;simp only[A6,AA,Oj]at h;obtain⟨⟨a,rfl⟩,rfl⟩:=h;rw[Af b,Af b,Zkz a];exact⟨rfl,by omega,by omega⟩
 split at h
 .rename_i a b;simp only[A6,AA]at h;obtain⟨⟨c,e⟩,rfl⟩:=h;rw[Ae a,Af b,Ae a,Af b,j_ (by have:=Q8 e;omega),bG c];exact⟨rfl,by omega,by omega⟩
 split at h
 .rename_i a c b;simp only[A6,AA,Oj]at h;obtain⟨⟨e,rfl⟩,f⟩:=h;rw[Ae a,Ae c,Af b,Ae a,Ae c,Af b,bG e];simp only[A1,A0,Cw,F1 (n:=n.toNat) (by omega),PM f.1];exact⟨trivial,by omega,by omega⟩
 split at h
 .rename_i a c e b;simp only[A6,AA,Oj]at h;obtain⟨⟨f,rfl⟩,rfl⟩:=h;rw[Ae a,Ae c,Ae e,Ae a,Ae c,Ae e,bG f];exact⟨rfl,by omega,by omega⟩
 cases h
def xq{k:Int}{x:A8×List UInt8×Int}{l q:List UInt8}(h:Wl k l=some (x,q)):l=J8 k x.1 x.2.1 x.2.2++q:=by
 unfold Wl at h;unfold J8;split at h
 .rename_i c;rw[Af c];split at h
  .cases h
  rename_i r l2 a;simp only[Ac,A5]at h;obtain⟨rfl,rfl⟩:=h;exact (ta a).1
 split at h
 .rename_i b c;rw[Ae b,Af c];split at h
  .cases h
  rename_i r l2 a;simp only[Ac,A5]at h;obtain⟨rfl,rfl⟩:=h;exact (Rc a).1
 split at h
 .rename_i b a c;rw[Ae b,Ae a,Af c]
  match l,h with
  |[],h=>simp[Cw]at h
  |y::l,h=>
   simp only[Cw,Ac,A5]at h;obtain⟨rfl,rfl⟩:=h;simp only[Gn,FG rfl,A1,A0]
 rename_i b a d;rw[Ae b,Ae a,Ae d];simp only[Ac,A5]at h;exact h.2
def dH{k b seq a:Int}(h:Ms k b seq a=true):0<=b/\b<=9/\0<=seq/\seq<=65535/\0<=a/\a<=6:=by
 unfold Ms at h;split at h
 .simp only[AA]at h;omega
 simp only[AA]at h;omega
def sm{gen a:Int}{r:Bo}(h:Dn r=true)(e:0<=gen)(o:gen<=65535)(m:0<=a)(q:a<=65535)(l:List UInt8):JH (Jw gen a r++l)=some ((gen,a,r),l):=by
 obtain⟨k,R,j,n,c,seq,b⟩:=r;simp only[Dn,A6]at h;obtain⟨d,f⟩:=h;have p:=dH f;obtain⟨_,g,i⟩:=bR d [];unfold Jw JH;simp only[EG,A1];rw[QF e (by omega)];simp only;rw[QF m (by omega)];simp only[Cw,F1 (n:=k.toNat) (by omega),PM (show 0<=k by omega)];rw[(bR d _).1];simp only[F1 (n:=c.toNat) (by omega),PM (show 0<=c by omega),F1 (n:=b.toNat) (by omega),PM (show 0<=b by omega)];rw[QF (by omega) (by omega)]
def ju{l q:List UInt8}{x:Int×Int×Bo}(h:JH l=some (x,q)):l=Jw x.1 x.2.1 x.2.2++q/\0<=x.1/\x.1<=65535/\0<=x.2.1/\x.2.1<=65535:=by
 unfold JH at h;split at h
 .cases h
 rename_i gen r g;obtain⟨rfl,f,p⟩:=NM g;split at h
 .cases h
 rename_i d l2 i;obtain⟨rfl,o,t⟩:=NM i
 match l2,h with
 |[],h=>simp[Cw]at h
 |kb::l2,h=>
 simp only[Cw]at h;split at h
 .cases h
 rename_i R m n e j;have a:=xq j
 match e,h,a with
 |[],h,_=>simp at h
 |[_],h,_=>simp at h
 |w::c::e,h,a=>
 simp only at h;split at h
 .cases h
 rename_i seq s k;obtain⟨rfl,u,v⟩:=NM k;simp only[Ac,A5]at h;obtain⟨rfl,rfl⟩:=h;refine⟨?_,f,by simp only;omega,o,by simp only;omega⟩;simp only at a;unfold Jw;simp only[EG,A1,Gn];rw[FG (b:=kb) rfl,FG (b:=w) rfl,FG (b:=c) rfl,<-a]
def Zk7{b:List UInt8}{x:Int×Int×Bo}(h:HB b=some x):FK x.1 x.2.1 x.2.2=b/\Dn x.2.2=true/\0<=x.1/\x.1<=65535/\0<=x.2.1/\x.2.1<=65535:=by
 unfold HB at h;split at h
 .cases h
 rename_i y l k;split at h
 case isFalse=>cases h
 rename_i n;simp only[Ac]at h;subst h;obtain⟨g,m,i⟩:=n;obtain⟨j,a,f,c,d⟩:=ju k;refine⟨?_,i,a,f,c,d⟩;unfold FK WN;rw[Af ⟨i,a,f,c,d⟩];have e:b.take (b.length-2)=Jw y.1 y.2.1 y.2.2:=by
  rw[j,Cb,m,Nat.add_sub_cancel,db]
 rw[e]at g;rw[<-g,<-j]
def Oz(a b:Bool):Ab a (some b) (some false)=some (a&&b):=by cases a<;>rfl
def yH{ρ:Type}(a b:Bool):Ab a (some (.inl b)) (some (.inl false))=(some (.inl (a&&b)):Option (Bool ⊕ ρ)):=by cases a<;>rfl
def bp(l:List UInt8):Dc l []=l.isEmpty:=by cases l<;>rfl
def Zm3(r:A8):XP r=some (Gh r):=by
 obtain⟨e,⟨ot,h⟩,⟨g,f⟩,d,a⟩:=r;unfold XP Gh;have b:=cG (ot,h);have c:=cG (g,f);simp only[b,c,Ad,Oz,bp,Jq];congr 1;cases a<;>simp[Ap,UF]
def Zin(r:A8):X3 ((r.1,((r.2.1.1,r.2.1.2),((r.2.2.1.1,r.2.2.1.2),(r.2.2.2.1,r.2.2.2.2)))),([],((0,[]),((0,[]),(0,false)))))=some (Gh r):=by
 obtain⟨h,⟨ot,d⟩,⟨c,b⟩,g,a⟩:=r;unfold X3 Gh;have e:KC ((ot,d),(0,[]))=_:=aZ (ot,d);have f:KC ((c,b),(0,[]))=_:=aZ (c,b);simp only[e,f,Ad,Oz,bp,Jq];congr 1;cases a<;>simp[MT,UF]
def Zp0(k w sq cd:Int):Ab (decide (w=0)) (some (decide (sq=0)&&(decide (cd=0)&&AI k 4))) (some (decide (1<=w/\w<=9)&&(decide (0<=sq/\sq<=65535)&&decide (0<=cd/\cd<=6))))=some (Ms k w sq cd):=by
 unfold Ms;by_cases h:w=0
 .rw[AF h,Ah,Af h];simp only[AI];congr 1;rw[J7];simp
 rw[AG h,Ag,Ae h];congr 1;rw[J7];simp only[A6,AA];omega
def xt(k n:Int)(R:A8)(d:List UInt8)(f:Bool):(AC (Ab (decide (k=1)) (some (.inl (Co R,(d.isEmpty,decide (n=0))))) (Ab (decide (k=2)) (some (.inl (Gh R,(F7 d,decide (n=0))))) (Ab (decide (k=3)) (some (.inl (Gh R,(d.isEmpty,decide (0<=n/\n<=7))))) (some (.inl (Gh R,(d.isEmpty,decide (n=0))))))):Option ((Bool×Bool×Bool) ⊕ Bool)) λz=>some (decide (1<=k/\k<=4)&&(z.1&&(z.2.1&&(z.2.2&&f)))))=some (Hj k R d n&&f):=by
 unfold Hj;rcases (show k=1\/k=2\/k=3\/k=4\/¬(1<=k/\k<=4) by omega) with rfl|rfl|rfl|rfl|h
 .generalize Co R=a;generalize d.isEmpty=b;generalize decide (n=0)=c;cases a<;>cases b<;>cases c<;>cases f<;>rfl
 .generalize Gh R=a;generalize F7 d=b;generalize decide (n=0)=c;cases a<;>cases b<;>cases c<;>cases f<;>rfl
 .generalize Gh R=a;generalize d.isEmpty=b;generalize decide (0<=n/\n<=7)=c;cases a<;>cases b<;>cases c<;>cases f<;>rfl
 .generalize Gh R=a;generalize d.isEmpty=b;generalize decide (n=0)=c;cases a<;>cases b<;>cases c<;>cases f<;>rfl
 rw[AG h,AG (show ¬k=1 by omega),AG (show ¬k=2 by omega),AG (show ¬k=3 by omega),Ae (by omega),Ae (by omega),Ae (by omega),Ae (by omega)];rfl
def kY{r:Bo}(q:r.2.1.1.length<9223372036854775807)(d:r.2.2.1.length<9223372036854775807):NV r=some (Dn r):=by
 obtain⟨k,⟨c,⟨ot,i⟩,⟨g,f⟩,b,a⟩,e,n,w,sq,cd⟩:=r;simp only at q d;have j:=Zm3 (c,((ot,i),((g,f),(b,a))));have m:J6 (c,((ot,i),((g,f),(b,a))))=_:=WF (by simp only;omega);have o:=bw d;have p:∀x l h:Int,BU (x,(l,h))=some (decide (l<=x/\x<=h)):=Ef;unfold NV Dn dT M4;simp only[j,m,o,p,Ad,Oz,bp,Jq,Zp0,xt]
def xr(k n w:Int)(R:A8)(e:List UInt8):Ab (decide (k=1)) (some (.inl (Co R&&(e.isEmpty&&decide (n=0))))) (Ab (decide (k=2)) (some (.inl (Gh R&&(F7 e&&decide (n=0))))) (Ab (decide (k=3)) (some (.inl (Gh R&&(e.isEmpty&&decide (0<=n/\n<=7))))) (some (.inl (decide (k=4)&&(Gh R&&(e.isEmpty&&(decide (n=0)&&AI w 0))))))))=(some (.inl (Hj k R e n&&!(decide (k=4/\w=0)))):Option (Bool ⊕ Bool)):=by
 unfold Hj;rcases (show k=1\/k=2\/k=3\/k=4\/¬(1<=k/\k<=4) by omega) with rfl|rfl|rfl|rfl|h
 .generalize Co R=a;generalize e.isEmpty=b;generalize decide (n=0)=c;rw[AG (show ¬((1:Int)=4/\w=0) by omega)];cases a<;>cases b<;>cases c<;>rfl
 .generalize Gh R=a;generalize F7 e=b;generalize decide (n=0)=c;rw[AG (show ¬((2:Int)=4/\w=0) by omega)];cases a<;>cases b<;>cases c<;>rfl
 .generalize Gh R=a;generalize e.isEmpty=b;generalize decide (0<=n/\n<=7)=c;rw[AG (show ¬((3:Int)=4/\w=0) by omega)];cases a<;>cases b<;>cases c<;>rfl
 .generalize Gh R=a;generalize e.isEmpty=b;generalize decide (n=0)=c;rw[show decide ((4:Int)=4/\w=0)=!AI w 0 by rw[J7];simp[AI]];generalize AI w 0=d;cases a<;>cases b<;>cases c<;>cases d<;>rfl
 rw[AG (show ¬k=1 by omega),AG (show ¬k=2 by omega),AG (show ¬k=3 by omega),AG (show ¬k=4 by omega),Ae (by omega),Ae (by omega),Ae (by omega),Ae (by omega)];rfl
def Zpz(k w sq cd:Int)(b:Bool):Ab (decide (w=0)) (some ((b&&!(decide (k=4/\w=0)))&&(decide (sq=0)&&decide (cd=0)))) (some ((b&&!(decide (k=4/\w=0)))&&(decide (1<=w/\w<=9)&&(decide (0<=sq/\sq<=65535)&&decide (0<=cd/\cd<=6)))))=some (b&&Ms k w sq cd):=by
 unfold Ms;by_cases h:w=0
 .rw[AF h,Ah,Af h];congr 1;rw[UF];congr 1;rw[J7];simp only[A6,AA,CV,D8];omega
 rw[AG h,Ag,Ae h];congr 1;rw[UF];congr 1;rw[J7];simp only[A6,AA,CV,D8];omega
def iN{r:Bo}(q:r.2.1.1.length<9223372036854775807)(e:r.2.2.1.length<9223372036854775807):NT r=some (Dn r):=by
 obtain⟨k,⟨c,⟨ot,j⟩,⟨i,g⟩,b,a⟩,f,n,w,sq,cd⟩:=r;simp only at q e;have d:=Zin (c,((ot,j),((i,g),(b,a))));have m:KB (c,((ot,j),((i,g),(b,a))))=_:=aW (by simp only;omega);have o:=qt e;have p:∀x l h:Int,D0 (x,(l,h))=some (decide (l<=x/\x<=h)):=HD;simp only at d;unfold NT Dn My;simp only[d,m,o,p,Ad,Oz,yH,bp,Jq,xr,A4,Zpz]
def FM(B:Nat)(r:Bo):Prop:=Fz B r.2.1/\r.2.2.1.length<=B
def FM.mono{A B:Nat}{r:Bo}(h:FM A r)(a:A<=B):FM B r:=⟨h.1.mono a,CW h.2 a⟩
def Zn4{n:Nat}(h:n<65536):(AC (Ab (Cr ((2*n:Nat):Int) 65535) (some (.inl (JD .i64 ((2*n:Nat):Int) 69665))) (some (.inl ((2*n:Nat):Int)))) λz=>some z:Option Int)=some ((MZ n:Nat):Int):=by
 unfold MZ;by_cases a:2*n > 65535
 .rw[D4 (by omega),Ah,Af a,show (69665:Int)=((69665:Nat):Int) from rfl,VB (k:=.i64) (by show _<2^63;omega) (by show _<2^63;omega)];rfl
 rw[Ee (by omega),Ag,Ae a];rfl
def vO{ρ:Type}{step:Int×Int->Option ((Int×Int) ⊕ (Int ⊕ ρ))}{x:Nat}(d:x<65536)
  (c:∀n i:Nat,n<65536->i<8->step ((n:Int),(i:Int))=some (.inl (((MZ n:Nat):Int),((i+1:Nat):Int))))
  (a:∀n:Nat,step ((n:Int),8)=some (.inr (.inl (n:Int)))):Bd step ((x:Int),0)=some (.inl ((KP 8 x:Nat):Int)):=by
 rw[HI (λi=>(((KP i x:Nat):Int),(i:Int))) 8 (.inl ((KP 8 x:Nat):Int))]
 .intro i b;rw[c _ _ (oV d) b,<-yT]
 .exact a _
 rfl
def Zm6{x:Nat}(c:x<65536):Bd eW ((x:Int),0)=some (.inl ((KP 8 x:Nat):Int)):=by
 refine vO c (λn i b d=>?_) λn=>rfl;have e:C9 .i64 (n:Int) 1=((2*n:Nat):Int):=by
  rw[show C9 .i64 (n:Int) 1=((n*2^1:Nat):Int) from SD (k:=.i64) (s:=1) (by decide) (by show _<2^63;omega)];congr 1;omega
 have k:=Zn4 b;unfold eW;simp only[e];rw[Bw (by omega),Ah];unfold MZ;by_cases a:2*n > 65535
 .rw[D4 (by omega),Ah,Af a,show (69665:Int)=((69665:Nat):Int) from rfl,VB (k:=.i64) (by show _<2^63;omega) (by show _<2^63;omega),A4,CS (by omega) (by omega)];rfl
 rw[Ee (by omega),Ag,Ae a,A4,CS (by omega) (by omega)];rfl
def Ziq{x:Nat}(b:x<65536):Bd eK ((x:Int),0)=some (.inl ((KP 8 x:Nat):Int)):=by
 refine vO b (λn i d c=>?_) λn=>rfl;have e:Fu .i64 (n:Int) 2=((2*n:Nat):Int):=by
  show IntKind.wrap _ _=_;rw[Rs (by omega) (by omega)];omega
 unfold eK;simp only[e];rw[Bw (by omega),Ah];unfold MZ;by_cases a:2*n > 65535
 .rw[D4 (by omega),Ah,Af a,show (69665:Int)=((69665:Nat):Int) from rfl,VB (k:=.i64) (by show _<2^63;omega) (by show _<2^63;omega),A4,CS (by omega) (by omega)];rfl
 rw[Ee (by omega),Ag,Ae a,A4,CS (by omega) (by omega)];rfl
def vP{l:List UInt8}{step:Int×Int->Option ((Int×Int) ⊕ (Int ⊕ Int))}(c:∀(x i:Nat) (h:i<l.length),x<65536->step ((x:Int),(i:Int))=some (.inl (((Vn x l[i]:Nat):Int),((i+1:Nat):Int))))(b:∀x:Int,step (x,(l.length:Int))=some (.inr (.inl x))):(AC (Bd step (65535,0)) λz=>some (Bg .i64 z 65535))=some ((EP l:Nat):Int):=by
 rw[HI (λi=>(((EP (l.take i):Nat):Int),(i:Int))) l.length (.inl ((EP l:Nat):Int)) (λi a=>by rw[c _ _ a (Na _),yU a]) (by rw[b,Jd]) _ (by rw[AP];rfl)];rw[A4,show (65535:Int)=((65535:Nat):Int) from rfl,Ni (k:=.i64) (by have:=Na l;show _<2^63;omega) (by show _<2^63;omega),L8 (j:=16) rfl,KH (Na l)]
def cE{l:List UInt8}(d:l.length<=1048576000):NX l=some ((EP l:Nat):Int):=by
 refine vP (λx i h b=>?_) λx=>?_
 .have c:=Cx l[i];have a:=fh b l[i];unfold eX;simp only;rw[Bw (by simp only[Av];omega),Ah,BK h,Ad,Dz,Jp (k:=.i64) (by show _<2^63;omega)];rw[show C9 .i64 (l[i].toNat:Int) 8=((l[i].toNat*2^8:Nat):Int) from SD (k:=.i64) (s:=8) (by decide) (by show _<2^63;omega),VB (k:=.i64) (by show _<2^63;omega) (by show _<2^63;omega),show l[i].toNat*2^8=256*l[i].toNat by omega,Zm6 a,A4,CS (by omega) (by omega)];rfl
 unfold eX;simp only;rw[B1 (by simp only[Av];omega),Ag]
def VF{l:List UInt8}(d:l.length<=1048576000):Rx l=some ((EP l:Nat):Int):=by
 refine vP (λx i h b=>?_) λx=>?_
 .have c:=Cx l[i];have a:=fh b l[i];have e:Fu .i64 256 (l[i].toNat:Int)=((256*l[i].toNat:Nat):Int):=by
   show IntKind.wrap _ _=_;rw[Rs (by omega) (by omega)];omega
  unfold eL;simp only;rw[Bw (by simp only[Av];omega),Ah,BK h,Ad,Dz,Jp (k:=.i64) (by show _<2^63;omega)];rw[e,VB (k:=.i64) (by show _<2^63;omega) (by show _<2^63;omega),Ziq a,A4,CS (by omega) (by omega)];rfl
 unfold eL;simp only;rw[B1 (by simp only[Av];omega),Ag]
def jt(g p:Int)(r:Bo):(Jw g p r).length<=220:=by
 have a:=kD r.2.1;have b:=Rb r.2.2.1;have c:(J8 r.1 r.2.1 r.2.2.1 r.2.2.2.1).length<=200:=by
  unfold J8;split
  .omega
  split
  .omega
  split
  .simp
  simp
 unfold Jw;simp only[Cb,Aq,Rp];omega
def nf{A:Type}{k n:Int}{R:A8}{b z:List UInt8}{PR:List UInt8×A8->Option (List UInt8)}{PT:List UInt8×List UInt8->Option (List UInt8)}(a:Hj k R b n=true)(h:z.length<=1048576)(g:Co R=true->PR (z,R)=some (z++Ky R))(hT:F7 b=true->PT (z,b)=some (z++I2 b))(K:List UInt8->Option A):
  AC (Ab (Ak k 1) (Aa (PR (z,(R.1,((R.2.1.1,R.2.1.2),((R.2.2.1.1,R.2.2.1.2),(R.2.2.2.1,R.2.2.2.2)))))) (λf=>(some (.inl f)))) (Ab (Ak k 2) (Aa (PT (z,b)) (λf=>(some (.inl f)))) (Ab (Ak k 3) (A3 (Bk (z.length+1) 1) (some (.inl (Ax z [(u8 (Az .u8 n))])))) (some (.inl z))))) K=K (z++J8 k R b n):=by
 unfold Hj at a;unfold J8;simp only[Jq];by_cases c:k=1
 .rw[Af c]at a ⊢;simp only[A6]at a;rw[AF c,Ah,show PR (z,(R.1,((R.2.1.1,R.2.1.2),((R.2.2.1.1,R.2.2.1.2),(R.2.2.2.1,R.2.2.2.2)))))=_ from g a.1.1,Ad,A4]
 rw[Ae c]at a ⊢;rw[AG c,Ag];by_cases d:k=2
 .rw[Af d]at a ⊢;simp only[A6]at a;rw[AF d,Ah,hT a.1.2,Ad,A4]
 rw[Ae d]at a ⊢;rw[AG d,Ag];by_cases e:k=3
 .rw[Af e]at a ⊢;simp only[A6,AA]at a;rw[AF e,Ah,B8 (by omega),AY,A4,MY a.2.1];rfl
 rw[Ae e,AG e,Ag,A4,AB]
def tL{q:List UInt8}{b a seq:Int}{PW:List UInt8×Int->Option (List UInt8)}{SM:List UInt8->Option Int}(m:q.length<=1048576)(e:0<=b)(f:0<=a)(g:0<=seq/\seq<=65535)(c:∀{l:List UInt8}{n:Int},l.length<=1099511627776->0<=n->n<65536->PW (l,n)=some (l++Ci n))(h:∀{l:List UInt8},l.length<=1048576000->SM l=some ((EP l:Nat):Int)):
  A3 (Bk (q.length+2) 1) (Aa (PW ((Ax q [(u8 (Az .u8 b)),(u8 (Az .u8 a))]),seq)) (λd=>(Aa (SM d) (λi=>(Aa (PW (d,i)) (λj=>(some j)))))))=some (WN (q++(yN b.toNat::yN a.toNat::Ci seq))):=by
 rw[B8 (by omega),AY,MY e,MY f,c (by simp only[Ax,Cb,Aq,Ay];omega) g.1 (by omega),Ad];have k:(Ax q [yN b.toNat,yN a.toNat]++Ci seq).length<=1048600:=by simp only[Ax,Cb,Aq,Ay,Rp];omega
 rw[h (by omega),Ad,c (by omega) (by omega) (by have:=Na (Ax q [yN b.toNat,yN a.toNat]++Ci seq);omega),Ad];simp only[Ax,WN,EG,A1,A0]
def Zjb(x:Int):M4 x=some (decide (0<=x/\x<=65535)):=by unfold M4;rw[Ef,Ad]
def Ziz(x:Int):My x=some (decide (0<=x/\x<=65535)):=by unfold My;rw[HD,Ad]
def u5{g p:Int}{r:Bo}(h:FM 1048576 r):R5 (g,(p,r))=some (FK g p r):=by
 obtain⟨k,R,b,n,c,seq,a⟩:=r;have j:=h.1;have s:=h.2;simp only at j s;have m:NV (k,((R.1,((R.2.1.1,R.2.1.2),((R.2.2.1.1,R.2.2.1.2),(R.2.2.2.1,R.2.2.2.2)))),(b,(n,(c,(seq,a))))))=some (Dn (k,R,b,n,c,seq,a)):=kY (r:=(k,R,b,n,c,seq,a)) (by have:=j.1;simp only;omega) (by simp only;omega);unfold R5 FK;simp only[MQ,m,Zjb,Ad];cases i:Dn (k,R,b,n,c,seq,a) with
 |false=>rw[Ae (λq=>by cases q.1)];rfl
 |true=>
 rw[Bf,Ag];by_cases e:0<=g/\g<=65535
 case neg=>rw[AG e,Ae (λq=>e ⟨q.2.1,q.2.2.1⟩)];rfl
 rw[AF e,Bf,Ag];by_cases f:0<=p/\p<=65535
 case neg=>rw[AG f,Ae (λq=>f ⟨q.2.2.2.1,q.2.2.2.2⟩)];rfl
 rw[AF f,Bf,Ag,Af ⟨rfl,e.1,e.2,f.1,f.2⟩];simp only[Dn,A6]at i;obtain⟨l,w⟩:=i;have d:=dH w;obtain⟨_,t,u⟩:=bR l [];rw[QQ (by simp) e.1 (by omega),Ad,QQ (by simp[Ci]) f.1 (by omega),Ad,B8 (by simp[Ci]),AY,MY (show 0<=k by omega)];have v:(Ax ([]++Ci g++Ci p) [yN k.toNat]).length=5:=by simp[Ax,Ci]
 have o:(J8 k R b n).length<=200:=by
  have:=jt g p (k,R,b,n,c,seq,a);simp only[Jw,Cb,Aq,Rp]at this;have x:=kD R;have y:=Rb b;unfold J8;split
  .omega
  split
  .omega
  split
  .simp
  simp
 rw[nf (PR:=Uj) (PT:=P9) l (by omega) (λq=>by rw[Zmm (by omega) j,Th,Af q]) (λq=>kX (by omega) (by omega))];rw[tL (PW:=JZ) (SM:=NX) (by rw[Cb,v];omega) d.1 d.2.2.2.2.1 ⟨d.2.2.1,d.2.2.2.1⟩ QQ cE];simp only[Jw,Ax,EG,A1,A0]
def iL{g p:Int}{r:Bo}(h:FM 1048576 r):P2 (g,(p,r))=some (FK g p r):=by
 obtain⟨k,R,b,n,c,seq,a⟩:=r;have j:=h.1;have s:=h.2;simp only at j s;have m:NT (k,((R.1,((R.2.1.1,R.2.1.2),((R.2.2.1.1,R.2.2.1.2),(R.2.2.2.1,R.2.2.2.2)))),(b,(n,(c,(seq,a))))))=some (Dn (k,R,b,n,c,seq,a)):=iN (r:=(k,R,b,n,c,seq,a)) (by have:=j.1;simp only;omega) (by simp only;omega);unfold P2 FK;simp only[MQ,m,Ziz,Ad];cases i:Dn (k,R,b,n,c,seq,a) with
 |false=>rw[Ae (λq=>by cases q.1)];rfl
 |true=>
 rw[Bf,Ag];by_cases e:0<=g/\g<=65535
 case neg=>rw[AG e,Ae (λq=>e ⟨q.2.1,q.2.2.1⟩)];rfl
 rw[AF e,Bf,Ag];by_cases f:0<=p/\p<=65535
 case neg=>rw[AG f,Ae (λq=>f ⟨q.2.2.2.1,q.2.2.2.2⟩)];rfl
 rw[AF f,Bf,Ag,Af ⟨rfl,e.1,e.2,f.1,f.2⟩];simp only[Dn,A6]at i;obtain⟨l,w⟩:=i;have d:=dH w;obtain⟨_,t,u⟩:=bR l [];rw[Qz (by simp) e.1 (by omega),Ad,Qz (by simp[Ci]) f.1 (by omega),Ad,B8 (by simp[Ci]),AY,MY (show 0<=k by omega)];have v:(Ax ([]++Ci g++Ci p) [yN k.toNat]).length=5:=by simp[Ax,Ci]
 have o:(J8 k R b n).length<=200:=by
  have:=jt g p (k,R,b,n,c,seq,a);simp only[Jw,Cb,Aq,Rp]at this;have x:=kD R;have y:=Rb b;unfold J8;split
  .omega
  split
  .omega
  split
  .simp
  simp
 rw[nf (PR:=TR) (PT:=Mv) l (by omega) (λq=>by rw[Zic (by omega) j,Th,Af q]) (λq=>iM (by omega) (by omega))];rw[tL (PW:=JX) (SM:=Rx) (by rw[Cb,v];omega) d.1 d.2.2.2.2.1 ⟨d.2.2.1,d.2.2.2.1⟩ Qz VF];simp only[Jw,Ax,EG,A1,A0]
abbrev CF:=Int×Int×Int
abbrev B9:=List A8×Int×List CF
def EU(B:Nat)(t:B9):Prop:=t.1.length<=B/\(∀r∈t.1,Fz B r)/\t.2.2.length<=B
def EU.mono{A B:Nat}{t:B9}(h:EU A t)(a:A<=B):EU B t:=⟨CW h.1 a,λr b=>(h.2.1 r b).mono a,CW h.2.2 a⟩
def Ox{α:Type}(a:α->Bool)(lt:α->α->Bool)(l:List α)(i:Nat):Bool:=match l[i]? with
 |none=>true
 |some y=>a y&&(match i with
  |0=>true
  |j+1=>match l[j]? with
   |some x=>lt x y
   |none=>true)
def IF{α:Type}(a:α->Bool)(lt:α->α->Bool)(l:List α):Bool:=(List.range l.length).all (Ox a lt l)
def Z3{α:Type}{b:α->Bool}{lt:α->α->Bool}{l:List α}{step:Int->Option (Int ⊕ (Unit ⊕ Bool))}
  (m:∀i,i<l.length->step (i:Int)=some (if Ox b lt l i=true then .inl ((i:Int)+1) else .inr (.inr false)))
  (g:step (l.length:Int)=some (.inr (.inl ()))):Bd step 0=some (if IF b lt l=true then .inl () else .inr false):=by
 obtain⟨r,f,rfl⟩:=IO (step:=step) (λi s=>s=(i:Int)/\∀j,j<i->Ox b lt l j=true) l.length (λr=>r=if IF b lt l=true then .inl () else .inr false) (by
  rintro i s e ⟨rfl,h⟩;rw[m i e];by_cases c:Ox b lt l i=true
  .left;refine⟨_,by rw[Af c],by omega,λj d=>?_⟩;rcases Nat.lt_succ_iff_lt_or_eq.1 d with a|rfl
   .exact h j a
   exact c
  .right;refine⟨_,by rw[Ae c], ?_⟩;rw[Ae];intro k;exact c (DE.1 k i (Hz.2 e))) (by
  rintro s ⟨rfl,h⟩;refine⟨_,g, ?_⟩;rw[Af];exact DE.2 λj d=>h j (Hz.1 d)) 0 ⟨rfl,λj d=>by omega⟩
 exact f
def Mi(x y:A8):Bool:=FB x.1 y.1
def IP(m:CF):Bool:=decide (1<=m.1/\m.1<=9)&&(decide (0<=m.2.1/\m.2.1<=65535)&&decide (0<=m.2.2/\m.2.2<=6))
def OQ(x y:CF):Bool:=decide (x.1<y.1)
def Dw(t:B9):Bool:=IF Co Mi t.1&&(IF IP OQ t.2.2&&(decide (t.1.length<=8)&&decide (0<=t.2.1/\t.2.1<=7)))
def Vi{α:Type}{a:α->Bool}{lt:α->α->Bool}{l:List α}(h:0<l.length):Ox a lt l 0=a l[0]:=by
 unfold Ox;rw[BW h];simp
def Sl{α:Type}{a:α->Bool}{lt:α->α->Bool}{l:List α}{j:Nat}(h:j+1<l.length):Ox a lt l (j+1)=(a l[j+1]&&lt l[j] l[j+1]):=by
 unfold Ox;rw[BW h];simp only[BW (show j<l.length by omega)]
def Zmr{t:B9}(h:EU 1048576 t):Bd (YM t) 0=some (if IF Co Mi t.1=true then .inl () else .inr false):=by
 refine Z3 (λi a=>?_) ?_
 .have b:=h.1;have e:J6 ((t.1[i]).1,(((t.1[i]).2.1.1,(t.1[i]).2.1.2),(((t.1[i]).2.2.1.1,(t.1[i]).2.2.1.2),((t.1[i]).2.2.2.1,(t.1[i]).2.2.2.2))))=some (Co t.1[i]):=WF (r:=t.1[i]) (by have:=(h.2.1 _ (EN a)).1;omega);unfold YM;rw[Bw (by simp only[Av];omega),Ah,BK a,Ad,e,Ad];cases i with
  |zero=>
   rw[Vi a];cases c:Co t.1[0] with
   |false=>rfl
   |true=>rfl
  |succ j=>
   rw[Sl a];cases c:Co t.1[j+1] with
   |false=>rfl
   |true=>
    rw[Bf,Ag,D4 (by omega),Ah,show Br .i64 ((j+1:Nat):Int) 1=(j:Int) from by rw[E8 (by omega) (by omega)];omega,BK (show j<t.1.length by omega),Ad,Ad];unfold Mi;cases FB t.1[j].1 t.1[j+1].1 with
    |false=>rfl
    |true=>rw[Bf,Ag,CS (by omega) (by omega)];rfl
 have b:=h.1;unfold YM;rw[B1 (by simp only[Av];omega),Ag]
def Zig{t:B9}(h:EU 1048576 t):Bd (YA t) 0=some (if IF Co Mi t.1=true then .inl () else .inr false):=by
 refine Z3 (λi a=>?_) ?_
 .have b:=h.1;have e:KB ((t.1[i]).1,(((t.1[i]).2.1.1,(t.1[i]).2.1.2),(((t.1[i]).2.2.1.1,(t.1[i]).2.2.1.2),((t.1[i]).2.2.2.1,(t.1[i]).2.2.2.2))))=some (Co t.1[i]):=aW (r:=t.1[i]) (by have:=(h.2.1 _ (EN a)).1;omega);unfold YA;rw[Bw (by simp only[Av];omega),Ah,BK a,Ad,e,Ad];cases i with
  |zero=>
   rw[Vi a];cases c:Co t.1[0] with
   |false=>rfl
   |true=>rfl
  |succ j=>
   rw[Sl a];cases c:Co t.1[j+1] with
   |false=>rfl
   |true=>
    rw[Bf,Ag,D4 (by omega),Ah,show Br .i64 ((j+1:Nat):Int) 1=(j:Int) from by rw[E8 (by omega) (by omega)];omega,BK (show j<t.1.length by omega),Ad];unfold Mi;cases FB t.1[j].1 t.1[j+1].1 with
    |false=>rfl
    |true=>rw[Bf,Ag,CS (by omega) (by omega)];rfl
 have b:=h.1;unfold YA;rw[B1 (by simp only[Av];omega),Ag]
def Zmz(m:CF):Un m=some (IP m):=by
 unfold Un IP M4;simp only[Ef,Ad,Oz]
def Zms{t:B9}(h:EU 1048576 t):Bd (YN t) 0=some (if IF IP OQ t.2.2=true then .inl () else .inr false):=by
 refine Z3 (λi b=>?_) ?_
 .have c:=h.2.2;have e:Un (t.2.2[i].1,(t.2.2[i].2.1,t.2.2[i].2.2))=some (IP t.2.2[i]):=Zmz _;unfold YN;rw[Bw (by simp only[Av];omega),Ah,BK b,Ad,e,Ad];cases i with
  |zero=>
   rw[Vi b];cases d:IP t.2.2[0] with
   |false=>rfl
   |true=>rfl
  |succ j=>
   rw[Sl b];cases d:IP t.2.2[j+1] with
   |false=>rfl
   |true=>
    rw[Bf,Ag,D4 (by omega),Ah,show Br .i64 ((j+1:Nat):Int) 1=(j:Int) from by rw[E8 (by omega) (by omega)];omega,BK (show j<t.2.2.length by omega),Ad,Ad];unfold OQ;by_cases a:t.2.2[j].1<t.2.2[j+1].1
    .rw[Nj (by omega),Ag,CS (by omega) (by omega),AF a];rfl
    rw[OJ (by omega),Ah,AG a];rfl
 have c:=h.2.2;unfold YN;rw[B1 (by simp only[Av];omega),Ag]
def Zih{t:B9}(h:EU 1048576 t):Bd (YB t) 0=some (if IF IP OQ t.2.2=true then .inl () else .inr false):=by
 refine Z3 (λi f=>?_) ?_
 .have k:=h.2.2;unfold YB My;rw[Bw (by simp only[Av];omega),Ah,BK f,Ad];simp only[HD,Ad];have g:∀a b c:Bool,∀d:Option (Int ⊕ (Unit ⊕ Bool)),Ab (Ap a) (some (.inr (.inr false))) (Ab (Ap b) (some (.inr (.inr false))) (Ab (Ap c) (some (.inr (.inr false))) d))=if (a&&(b&&c))=true then d else some (.inr (.inr false)):=by
   intro a b c d;cases a<;>cases b<;>cases c<;>rfl
  rw[g];have mk:∀m:CF,(decide (1<=m.1/\m.1<=9)&&(decide (0<=m.2.1/\m.2.1<=65535)&&decide (0<=m.2.2/\m.2.2<=6)))=IP m:=λm=>rfl;cases i with
  |zero=>
   rw[Vi f,mk];cases l:IP t.2.2[0] with
   |false=>rfl
   |true=>rfl
  |succ j=>
   rw[Sl f,mk];cases l:IP t.2.2[j+1] with
   |false=>rfl
   |true=>
    rw[Af rfl,D4 (by omega),Ah,show Br .i64 ((j+1:Nat):Int) 1=(j:Int) from by rw[E8 (by omega) (by omega)];omega,BK (show j<t.2.2.length by omega),Ad];unfold OQ;by_cases e:t.2.2[j].1<t.2.2[j+1].1
    .rw[Nj (by omega),Ag,CS (by omega) (by omega),AF e];rfl
    rw[OJ (by omega),Ah,AG e];rfl
 have k:=h.2.2;unfold YB;rw[B1 (by simp only[Av];omega),Ag]
def vS(a b:Bool)(n:Nat)(c:Int):(AC (some (if a=true then .inl () else .inr false):Option (Unit ⊕ Bool)) λ_=>AC (some (if b=true then .inl () else .inr false):Option (Unit ⊕ Bool)) λ_=>Ab (Ck (n:Int) 8) (some (decide (0<=c/\c<=7))) (some false))=some (a&&(b&&(decide (n<=8)&&decide (0<=c/\c<=7)))):=by
 rw[Oz,show Ck (n:Int) 8=decide (n<=8) by simp only[Ck];rw[J7];simp;omega];cases a<;>cases b<;>rfl
def k7{t:B9}(h:EU 1048576 t):M3 t=some (Dw t):=by
 unfold M3 Dw;rw[Zmr h,Zms h];simp only[Ef,Ad,Av,vS]
def iO{t:B9}(h:EU 1048576 t):Mx t=some (Dw t):=by
 unfold Mx Dw;rw[Zig h,Zih h];simp only[HD,Ad,Av,vS]
end
end Go.Vs
