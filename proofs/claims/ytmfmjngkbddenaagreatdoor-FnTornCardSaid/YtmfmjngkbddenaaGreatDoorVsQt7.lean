import Derived.Test.YtmfmjngkbddenaaGreatDoorVsQt6
set_option linter.all false
namespace Go.Vs
noncomputable section
theorem Yo3 {n:Nat}(h:n<65536):u8 (Ai .u8 (Bi .i64 (n:Int) 8))=yN (n / 256)/\u8 (Ai .u8 (n:Int))=yN (n%256):=by
 have e:Bi .i64 (n:Int) (8:Nat)=_:=Zbr (n:=n) (s:=8) (by omega);refine⟨?_, ?_⟩
 ·rw[show Bi .i64 (n:Int) 8=((n / 2^8:Nat):Int) from e,Fm]
 rw[Fm];exact UInt8.toNat_inj.1 (by simp [yN])
theorem T5 {l:List UInt8}{n:Int}(hl:l.length<=1099511627776) (h0:0<=n) (h1:n<65536):J4 (l,n)=some (l++Bh n):=by
 obtain⟨k,rfl⟩:=Kob h0;obtain⟨e1,e2⟩:=Yo3 (n:=k) (by omega);unfold J4;simp only[e1,e2];rw[Bj (by omega),Az,Bj (by simp only[Al,Km];omega),Az];rfl
theorem Tb {l:List UInt8}{n:Int}(hl:l.length<=1099511627776) (h0:0<=n) (h1:n<65536):J1 (l,n)=some (l++Bh n):=by
 obtain⟨k,rfl⟩:=Kob h0;have e:Bi .i64 (k:Int) 8=((k / 2^8:Nat):Int):=Zbr (n:=k) (s:=8) (by omega);have a1:Aq .i64 ((k / 2^8:Nat):Int) 255=((k / 2^8%256:Nat):Int):=by
  rw[show (255:Int)=((255:Nat):Int) from rfl,Om (k:=.i64) (by show _<2^63;omega) (by show _<2^63;omega),Mr (j:=8) rfl]
 have a2:Aq .i64 (k:Int) 255=((k%256:Nat):Int):=by
  rw[show (255:Int)=((255:Nat):Int) from rfl,Om (k:=.i64) (by show _<2^63;omega) (by show _<2^63;omega),Mr (j:=8) rfl]
 unfold J1;simp only[e,a1,a2,Fm];rw[Zw9 (by simp only[Kf,Ki];omega),Aa];rw[show k / 2^8%256=k / 256 by omega];rfl
theorem Ug (s:List UInt8):(Gl s).length<=62:=by
 unfold Gl;split<;>simp [Bh]<;>omega
theorem Zxl {s:List UInt8}(h:¬s.length<=60):iGt (Ah s) 60=true:=Dq (by simp only[Ak];omega)
theorem Zpz {l s:List UInt8}(hl:l.length<=1048576000) (hs:s.length<=1048576000):R5 (l,s)=some (l++Gl s):=by
 unfold R5 Gl;simp only;by_cases h:s.length<=60
 ·rw[Eb (by simp only[Ak];omega),Ac,if_pos h,Ak,T5 (by omega) (by omega) (by omega),Aa];rw[Bj (by simp only[Kt,Bh,Kf,Ki];omega),Az];simp only[Al,Kva]
 rw[Zxl h,Ad,if_neg h,Bj (by omega),Az,Kw];rfl
theorem Zm2 {l s:List UInt8}(hl:l.length<=1048576000) (hs:s.length<=1048576000):Nt (l,s)=some (l++Gl s):=by
 unfold Nt Gl;simp only;by_cases h:s.length<=60
 ·rw[Eb (by simp only[Ak];omega),Ac,if_pos h,Ak,Tb (by omega) (by omega) (by omega),Aa];rw[Zw9 (by simp only[Kt,Bh,Kf,Ki];omega),Aa,Kva]
 rw[Zxl h,Ad,if_neg h,L5 (by omega),Aa,Kw]
theorem Zes (c:Bb):(Eg c).length<=63:=by
 have:=Ug c.2;unfold Eg;simp only[Kf];omega
theorem Oa {t:Int}(h0:0<=t):u8 (Ai .u8 t)=yN t.toNat:=by
 obtain⟨k,rfl⟩:=Kob h0;rw[Fm];rfl
def Wz (l:List UInt8) (r:Row):List UInt8:=if Bo r=true then l++I8 r else l
theorem Zpp (r:Row):(I8 r).length<=190:=by
 have h1:=Ug r.1;have h2:=Zes r.2.1;have h3:=Zes r.2.2.1;unfold I8;simp only[Kt,Kf];split<;>split<;>first|omega|(simp only[Ki];omega)
theorem Yul {l:List UInt8}{c:Bb}(hl:l.length<=104857600) (hs:c.2.length<=1048576000) (h0:0<=c.1):U4 (l,(c.1,c.2))=some (l++Eg c):=by
 unfold U4;simp only[Oa h0];rw[Bj (by omega),Az,Zpz (by simp only[Al,Kt,Kf,Ki];omega) hs,Aa];simp only[Al,Kva,Eg,Kn,Km]
theorem Yj2 (b:Bool):Zjb b=some (yN (Qo b)):=by cases b<;>rfl
theorem Yj1 (b:Bool):Zi8 b=some (yN (Qo b)):=by cases b<;>rfl
theorem Yac {r:Row}(h:Bo r=true) (h2:r.2.2.2.1≠2):0<=r.2.1.1:=by
 obtain⟨_,a,b,c,d⟩:=I9 h;have:=Tw c h2;omega
theorem Yab {r:Row}(h:Bo r=true) (h2:r.2.2.2.1≠1):0<=r.2.2.1.1:=by
 have d:=(I9 h).2.2.2.2;have:=Za5 d.1 h2;omega
theorem Yt7 {l:List UInt8}{r:Row}(hl:l.length<=1048576) (hr:smR 1048576 r):Yl (l,r)=some (Wz l r):=by
 obtain⟨key,⟨ot,ob⟩,⟨nt,nb⟩,has,aside⟩:=r;obtain⟨k1,k2,k3⟩:=hr;simp only at k1 k2 k3;have e0:Jj (key,((ot,ob),((nt,nb),(has,aside))))=some (Bo (key,((ot,ob),((nt,nb),(has,aside))))):=Zbl (by simp only;omega);unfold Yl Wz;simp only[e0,Aa,Yj2];rw[Bj (by omega),Az];cases hk:Bo (key,((ot,ob),((nt,nb),(has,aside)))) with
 | false=>rw[A5,Ad];rfl
 | true =>
 have b1:=I9 hk;have eo:Dl (key,((ot,ob),((nt,nb),(has,aside))))=some (decide (has≠2)):=Ya6 _ hk;have en:Cr (key,((ot,ob),((nt,nb),(has,aside))))=some (decide (has≠1)):=Zp1 _ hk;have t1:=Ug key;have t2:=Zes (ot,ob);have o0:=Yac hk;have n0:=Yab hk;simp only at b1 o0 n0;rw[Av,Ac,show Al [] l=l from rfl,Zpz (by omega) (by omega),Aa,Bj (by simp only[Kt];omega),Az];simp only[eo,en,Aa,Oa (show 0<=has by omega),if_true,I8,Al];have step:∀(q:List UInt8) (c:Bb) (k:Int),q.length<=2097152->c.2.length<=1048576->(has≠k->0<=c.1)->cnd (decide (has≠k)) (bnd (U4 (q,(c.1,c.2))) (fun z5=>(some (.inl z5)))) (some (.inl q))=some (.inl (q++if has=k then [] else Eg c):List UInt8 ⊕ List UInt8):=by
  intro q c k hq hc h0;by_cases h:has=k
  ·rw[if_pos h,decide_eq_false (by simpa using h),Ac,Kw]
  rw[if_neg h,decide_eq_true h,Ad,Yul (by omega) (by omega) (h0 h)];rfl
 rw[step _ (ot,ob) 2 (by simp only[Kt,Kf,Ki];omega) k2 o0,Ar];have t3:(if has=2 then [] else Eg (ot,ob)).length<=63:=by split<;>first|omega|(simp only[Ki];omega)
 rw[step _ (nt,nb) 1 (by simp only[Kt,Kf,Ki];omega) k3 n0,Ar];simp only[Kva,Kn,Km]
theorem Ypl {l:List UInt8}{r:Row}(hl:l.length<=1048576) (hr:smR 1048576 r):Ya (l,r)=some (Wz l r):=by
 obtain⟨key,⟨ot,ob⟩,⟨nt,nb⟩,has,aside⟩:=r;obtain⟨k1,k2,k3⟩:=hr;simp only at k1 k2 k3;have e0:Ln (key,((ot,ob),((nt,nb),(has,aside))))=some (Bo (key,((ot,ob),((nt,nb),(has,aside))))):=Zf8 (by simp only;omega);unfold Ya Wz;simp only[L5 (show l.length<=140737488355328 by omega),e0,Aa,Yj1];cases hk:Bo (key,((ot,ob),((nt,nb),(has,aside)))) with
 | false=>rw[A5,Ad];rfl
 | true =>
 have b1:=I9 hk;have t1:=Ug key;have t2:=Zes (ot,ob);have o0:=Yac hk;have n0:=Yab hk;simp only at b1 o0 n0;rw[Av,Ac,Zm2 (by omega) (by omega),Aa,Bj (by simp only[Kt];omega),Az];simp only[Aa,Oa (show 0<=has by omega),if_true,I8,Al];have step:∀(q:List UInt8) (c:Bb) (k:Int),q.length<=2097152->c.2.length<=1048576->(has≠k->0<=c.1)->cnd (iNe has k) (chk (A0 (q.length+1) 1) (bnd (Nt (q++[u8 (Ai .u8 c.1)],c.2)) (fun z5=>(some (.inl z5))))) (some (.inl q))=some (.inl (q++if has=k then [] else Eg c):List UInt8 ⊕ List UInt8):=by
  intro q c k hq hc h0;by_cases h:has=k
  ·rw[if_pos h,h,Oq,Ac,Kw]
  rw[if_neg h,Iz h,Ad,Bj (by omega),Az,Zm2 (by simp only[Kt,Kf,Ki];omega) (by omega),Oa (h0 h)];simp only[Aa,Eg,Kva,Kn,Km]
 rw[step _ (ot,ob) 2 (by simp only[Kt,Kf,Ki];omega) k2 o0,Ar];have t3:(if has=2 then [] else Eg (ot,ob)).length<=63:=by split<;>first|omega|(simp only[Ki];omega)
 rw[step _ (nt,nb) 1 (by simp only[Kt,Kf,Ki];omega) k3 n0,Ar];simp only[Kva,Kn,Km]
abbrev Rec:=Int×Row×List UInt8×Int×Int×Int×Int
def E9 (r:Row):Bool:=r.1.isEmpty&&Ex r.2.1&&Ex r.2.2.1&&decide (r.2.2.2.1=0)&&!r.2.2.2.2
theorem Zgz {r:Row}(h:E9 r=true):r=([],(0,[]),(0,[]),0,false):=by
 obtain⟨k,o,n,z,a⟩:=r;simp only[E9,Kd,decide_eq_true_eq,Kkd,Kzb]at h;obtain⟨⟨⟨⟨h1,h2⟩,h3⟩,h4⟩,h5⟩:=h;rw[h1,Q9 h2,Q9 h3,h4,h5]
def Fl (k:Int) (R:Row) (key:List UInt8) (n:Int):Bool :=
 if k=1 then Bo R&&key.isEmpty&&decide (n=0)
 else if k=2 then E9 R&&Ek key&&decide (n=0)
 else if k=3 then E9 R&&key.isEmpty&&decide (0<=n/\n<=7)
 else if k=4 then E9 R&&key.isEmpty&&decide (n=0)
 else false
def Ml (k who seq code:Int):Bool:=if who=0 then decide (seq=0/\code=0/\k≠4) else decide (1<=who/\who<=9/\0<=seq/\seq<=65535/\0<=code/\code<=6)
def Cf (r:Rec):Bool:=Fl r.1 r.2.1 r.2.2.1 r.2.2.2.1&&Ml r.1 r.2.2.2.2.1 r.2.2.2.2.2.1 r.2.2.2.2.2.2
def H2 (k:Int) (R:Row) (key:List UInt8) (n:Int):List UInt8:=if k=1 then I8 R else if k=2 then Gl key else if k=3 then [yN n.toNat] else []
def I5 (gen place:Int) (r:Rec):List UInt8:=Bh gen++(Bh place++(yN r.1.toNat::(H2 r.1 r.2.1 r.2.2.1 r.2.2.2.1++(yN r.2.2.2.2.1.toNat::yN r.2.2.2.2.2.2.toNat::Bh r.2.2.2.2.2.1))))
def Rk (b:List UInt8):List UInt8:=b++Bh (crc b)
def Ck (gen place:Int) (r:Rec):List UInt8:=if Cf r=true/\0<=gen/\gen<=65535/\0<=place/\place<=65535 then Rk (I5 gen place r) else []
def Zaw (k:Int) (l:List UInt8):Option ((Row×List UInt8×Int)×List UInt8) :=
 if k=1 then (match Md l with
  | none=>none
  | some (r,l)=>some ((r,[],0),l))
 else if k=2 then (match Ez l with
  | none=>none
  | some (s,l)=>some ((([],(0,[]),(0,[]),0,false),s,0),l))
 else if k=3 then (match Ci l with
  | none=>none
  | some (n,l)=>some ((([],(0,[]),(0,[]),0,false),[],n),l))
 else some ((([],(0,[]),(0,[]),0,false),[],0),l)
def O8 (l:List UInt8):Option ((Int×Int×Rec)×List UInt8):=match Cu l with
 | none=>none
 | some (gen,l)=>match Cu l with
  | none=>none
  | some (place,l)=>match Ci l with
   | none=>none
   | some (k,l)=>match Zaw k l with
    | none=>none
    | some ((R,key,n),l)=>match Ci l with
     | none=>none
     | some (who,l)=>match Ci l with
      | none=>none
      | some (code,l)=>match Cu l with
       | none=>none
       | some (seq,l)=>some ((gen,place,(k,R,key,n,who,seq,code)),l)
def Gz (b:List UInt8):Option (Int×Int×Rec):=match O8 b with
 | none=>none
 | some (x,l)=>if l=Bh (crc (b.take (b.length-2)))/\l.length=2/\Cf x.2.2=true then some x else none
theorem Ns (n:Int):(Bh n).length=2:=rfl
theorem Zha {k:Int}{R:Row}{key:List UInt8}{n:Int}(h:Fl k R key n=true) (l:List UInt8):Zaw k (H2 k R key n++l)=some ((R,key,n),l)/\1<=k/\k<=4:=by
 unfold Fl at h;unfold Zaw H2;split at h
 ·rename_i hk;simp only[Kd,decide_eq_true_eq,Kkd]at h;obtain⟨⟨h1,rfl⟩,rfl⟩:=h;rw[if_pos hk,if_pos hk,Ysh h1];exact⟨rfl,by omega,by omega⟩
 split at h
 ·rename_i h1 hk;simp only[Kd,decide_eq_true_eq]at h;obtain⟨⟨h2,h3⟩,rfl⟩:=h;rw[if_neg h1,if_pos hk,if_neg h1,if_pos hk,Zo1 (by have:=O3 h3;omega),Zgz h2];exact⟨rfl,by omega,by omega⟩
 split at h
 ·rename_i h1 h2 hk;simp only[Kd,decide_eq_true_eq,Kkd]at h;obtain⟨⟨h3,rfl⟩,h4⟩:=h;rw[if_neg h1,if_neg h2,if_pos hk,if_neg h1,if_neg h2,if_pos hk,Zgz h3];simp only[Kn,Km,Ci,D3 (n:=n.toNat) (by omega),Krd h4.1];exact⟨trivial,by omega,by omega⟩
 split at h
 ·rename_i h1 h2 h3 hk;simp only[Kd,decide_eq_true_eq,Kkd]at h;obtain⟨⟨h4,rfl⟩,rfl⟩:=h;rw[if_neg h1,if_neg h2,if_neg h3,if_neg h1,if_neg h2,if_neg h3,Zgz h4];exact⟨rfl,by omega,by omega⟩
 cases h
theorem Ye8 {k:Int}{x:Row×List UInt8×Int}{l q:List UInt8}(h:Zaw k l=some (x,q)):l=H2 k x.1 x.2.1 x.2.2++q:=by
 unfold Zaw at h;unfold H2;split at h
 ·rename_i hk;rw[if_pos hk];split at h
  ·cases h
  rename_i r l2 h2;simp only[Ka,Kb]at h;obtain⟨rfl,rfl⟩:=h;exact (Zz9 h2).1
 split at h
 ·rename_i h1 hk;rw[if_neg h1,if_pos hk];split at h
  ·cases h
  rename_i r l2 h2;simp only[Ka,Kb]at h;obtain⟨rfl,rfl⟩:=h;exact (Xk h2).1
 split at h
 ·rename_i h1 h2 hk;rw[if_neg h1,if_neg h2,if_pos hk]
  match l,h with
  | [],h=>simp [Ci]at h
  | y::l,h =>
   simp only[Ci,Ka,Kb]at h;obtain⟨rfl,rfl⟩:=h;simp only[Knb,Em rfl,Kn,Km]
 rename_i h1 h2 h3;rw[if_neg h1,if_neg h2,if_neg h3];simp only[Ka,Kb]at h;exact h.2
theorem Zi0 {k who seq code:Int}(h:Ml k who seq code=true):0<=who/\who<=9/\0<=seq/\seq<=65535/\0<=code/\code<=6:=by
 unfold Ml at h;split at h
 ·simp only[decide_eq_true_eq]at h;omega
 simp only[decide_eq_true_eq]at h;omega
theorem Ysf {gen place:Int}{r:Rec}(h:Cf r=true) (g0:0<=gen) (g1:gen<=65535) (p0:0<=place) (p1:place<=65535) (l:List UInt8):O8 (I5 gen place r++l)=some ((gen,place,r),l):=by
 obtain⟨k,R,key,n,who,seq,code⟩:=r;simp only[Cf,Kd]at h;obtain⟨h1,h2⟩:=h;have hw:=Zi0 h2;obtain⟨_,hk1,hk2⟩:=Zha h1 [];unfold I5 O8;simp only[Kva,Kn];rw[Tr g0 (by omega)];simp only;rw[Tr p0 (by omega)];simp only[Ci,D3 (n:=k.toNat) (by omega),Krd (show 0<=k by omega)];rw[(Zha h1 _).1];simp only[D3 (n:=who.toNat) (by omega),Krd (show 0<=who by omega),D3 (n:=code.toNat) (by omega),Krd (show 0<=code by omega)];rw[Tr (by omega) (by omega)]
theorem Ys2 {l q:List UInt8}{x:Int×Int×Rec}(h:O8 l=some (x,q)):l=I5 x.1 x.2.1 x.2.2++q/\0<=x.1/\x.1<=65535/\0<=x.2.1/\x.2.1<=65535:=by
 unfold O8 at h;split at h
 ·cases h
 rename_i gen l1 h1;obtain⟨rfl,g0,g1⟩:=Rq h1;split at h
 ·cases h
 rename_i place l2 h2;obtain⟨rfl,p0,p1⟩:=Rq h2
 match l2,h with
 | [],h=>simp [Ci]at h
 | kb::l2,h =>
 simp only[Ci]at h;split at h
 ·cases h
 rename_i R key n l3 h3;have e3:=Ye8 h3
 match l3,h,e3 with
 | [],h,_=>simp at h
 | [_],h,_=>simp at h
 | w::c::l3,h,e3 =>
 simp only at h;split at h
 ·cases h
 rename_i seq l4 h4;obtain⟨rfl,s0,s1⟩:=Rq h4;simp only[Ka,Kb]at h;obtain⟨rfl,rfl⟩:=h;refine⟨?_,g0,by simp only;omega,p0,by simp only;omega⟩;simp only at e3;unfold I5;simp only[Kva,Kn,Knb];rw[Em (b:=kb) rfl,Em (b:=w) rfl,Em (b:=c) rfl,<-e3]
theorem Zmj {gen place:Int}{r:Rec}(h:Cf r=true) (g0:0<=gen) (g1:gen<=65535) (p0:0<=place) (p1:place<=65535):Gz (Ck gen place r)=some (gen,place,r):=by
 unfold Ck Gz Rk;rw[if_pos ⟨h,g0,g1,p0,p1⟩,Ysf h g0 g1 p0 p1];simp only[Kt,Ns,Nat.add_sub_cancel,List.take_left];rw[if_pos ⟨trivial,trivial,h⟩]
theorem Ysq {b:List UInt8}{x:Int×Int×Rec}(h:Gz b=some x):Ck x.1 x.2.1 x.2.2=b/\Cf x.2.2=true/\0<=x.1/\x.1<=65535/\0<=x.2.1/\x.2.1<=65535:=by
 unfold Gz at h;split at h
 ·cases h
 rename_i y l h1;split at h
 case isFalse=>cases h
 rename_i hc;simp only[Ka]at h;subst h;obtain⟨h2,h3,h4⟩:=hc;obtain⟨h5,a,b',c,d⟩:=Ys2 h1;refine⟨?_,h4,a,b',c,d⟩;unfold Ck Rk;rw[if_pos ⟨h4,a,b',c,d⟩];have e:b.take (b.length-2)=I5 y.1 y.2.1 y.2.2:=by
  rw[h5,Kt,h3,Nat.add_sub_cancel,List.take_left]
 rw[e]at h2;rw[<-h2,<-h5]
theorem Sm (a b:Bool):cnd a (some b) (some false)=some (a&&b):=by cases a<;>rfl
theorem Yfp {ρ:Type}(a b:Bool):cnd a (some (.inl b)) (some (.inl false))=(some (.inl (a&&b)):Option (Bool ⊕ ρ)):=by cases a<;>rfl
theorem Zhu (l:List UInt8):sEq l []=l.isEmpty:=by cases l<;>rfl
theorem Yur (r:Row):Zdb r=some (E9 r):=by
 obtain⟨key,⟨ot,ob⟩,⟨nt,nb⟩,has,aside⟩:=r;unfold Zdb E9;have e1:=Zh2 (ot,ob);have e2:=Zh2 (nt,nb);simp only[e1,e2,Aa,Sm,Zhu,K4];congr 1;cases aside<;>simp [Ag,Kre]
theorem Ypy (r:Row):Zcx ((r.1,((r.2.1.1,r.2.1.2),((r.2.2.1.1,r.2.2.1.2),(r.2.2.2.1,r.2.2.2.2)))),([],((0,[]),((0,[]),(0,false)))))=some (E9 r):=by
 obtain⟨key,⟨ot,ob⟩,⟨nt,nb⟩,has,aside⟩:=r;unfold Zcx E9;have e1:Lo ((ot,ob),(0,[]))=_:=Zgb (ot,ob);have e2:Lo ((nt,nb),(0,[]))=_:=Zgb (nt,nb);simp only[e1,e2,Aa,Sm,Zhu,K4];congr 1;cases aside<;>simp [bEq,Kre]
theorem Yxs (k w sq cd:Int):cnd (decide (w=0)) (some (decide (sq=0)&&(decide (cd=0)&&iNe k 4))) (some (decide (1<=w/\w<=9)&&(decide (0<=sq/\sq<=65535)&&decide (0<=cd/\cd<=6))))=some (Ml k w sq cd):=by
 unfold Ml;by_cases h:w=0
 ·rw[decide_eq_true h,Ad,if_pos h];simp only[iNe];congr 1;rw[Kdc];simp
 rw[decide_eq_false h,Ac,if_neg h];congr 1;rw[Kdc];simp only[Kd,decide_eq_true_eq];omega
theorem Yfa (k n:Int) (R:Row) (key:List UInt8) (f:Bool):(Ao (cnd (decide (k=1)) (some (.inl (Bo R,(key.isEmpty,decide (n=0))))) (cnd (decide (k=2)) (some (.inl (E9 R,(Ek key,decide (n=0))))) (cnd (decide (k=3)) (some (.inl (E9 R,(key.isEmpty,decide (0<=n/\n<=7))))) (some (.inl (E9 R,(key.isEmpty,decide (n=0))))))):Option ((Bool×Bool×Bool) ⊕ Bool)) fun z=>some (decide (1<=k/\k<=4)&&(z.1&&(z.2.1&&(z.2.2&&f)))))=some (Fl k R key n&&f):=by
 unfold Fl;rcases (show k=1\/k=2\/k=3\/k=4\/¬(1<=k/\k<=4) by omega) with rfl|rfl|rfl|rfl|h
 ·generalize Bo R=a;generalize key.isEmpty=b;generalize decide (n=0)=c;cases a<;>cases b<;>cases c<;>cases f<;>rfl
 ·generalize E9 R=a;generalize Ek key=b;generalize decide (n=0)=c;cases a<;>cases b<;>cases c<;>cases f<;>rfl
 ·generalize E9 R=a;generalize key.isEmpty=b;generalize decide (0<=n/\n<=7)=c;cases a<;>cases b<;>cases c<;>cases f<;>rfl
 ·generalize E9 R=a;generalize key.isEmpty=b;generalize decide (n=0)=c;cases a<;>cases b<;>cases c<;>cases f<;>rfl
 rw[decide_eq_false h,decide_eq_false (show ¬k=1 by omega),decide_eq_false (show ¬k=2 by omega),decide_eq_false (show ¬k=3 by omega),if_neg (by omega),if_neg (by omega),if_neg (by omega),if_neg (by omega)];rfl
theorem Ya2 {r:Rec}(h1:r.2.1.1.length<9223372036854775807) (h2:r.2.2.1.length<9223372036854775807):U0 r=some (Cf r):=by
 obtain⟨k,⟨key,⟨ot,ob⟩,⟨nt,nb⟩,has,aside⟩,name,n,w,sq,cd⟩:=r;simp only at h1 h2;have e1:=Yur (key,((ot,ob),((nt,nb),(has,aside))));have e2:Jj (key,((ot,ob),((nt,nb),(has,aside))))=_:=Zbl (by simp only;omega);have e3:=Zhy h2;have e4:∀x l h:Int,B8 (x,(l,h))=some (decide (l<=x/\x<=h)):=E4;unfold U0 Cf Zjc Nz;simp only[e1,e2,e3,e4,Aa,Sm,Zhu,K4,Yxs,Yfa]
theorem Ye9 (k n w:Int) (R:Row) (key:List UInt8):cnd (decide (k=1)) (some (.inl (Bo R&&(key.isEmpty&&decide (n=0))))) (cnd (decide (k=2)) (some (.inl (E9 R&&(Ek key&&decide (n=0))))) (cnd (decide (k=3)) (some (.inl (E9 R&&(key.isEmpty&&decide (0<=n/\n<=7))))) (some (.inl (decide (k=4)&&(E9 R&&(key.isEmpty&&(decide (n=0)&&iNe w 0))))))))=(some (.inl (Fl k R key n&&!(decide (k=4/\w=0)))):Option (Bool ⊕ Bool)):=by
 unfold Fl;rcases (show k=1\/k=2\/k=3\/k=4\/¬(1<=k/\k<=4) by omega) with rfl|rfl|rfl|rfl|h
 ·generalize Bo R=a;generalize key.isEmpty=b;generalize decide (n=0)=c;rw[decide_eq_false (show ¬((1:Int)=4/\w=0) by omega)];cases a<;>cases b<;>cases c<;>rfl
 ·generalize E9 R=a;generalize Ek key=b;generalize decide (n=0)=c;rw[decide_eq_false (show ¬((2:Int)=4/\w=0) by omega)];cases a<;>cases b<;>cases c<;>rfl
 ·generalize E9 R=a;generalize key.isEmpty=b;generalize decide (0<=n/\n<=7)=c;rw[decide_eq_false (show ¬((3:Int)=4/\w=0) by omega)];cases a<;>cases b<;>cases c<;>rfl
 ·generalize E9 R=a;generalize key.isEmpty=b;generalize decide (n=0)=c;rw[show decide ((4:Int)=4/\w=0)=!iNe w 0 by rw[Kdc];simp [iNe]];generalize iNe w 0=d;cases a<;>cases b<;>cases c<;>cases d<;>rfl
 rw[decide_eq_false (show ¬k=1 by omega),decide_eq_false (show ¬k=2 by omega),decide_eq_false (show ¬k=3 by omega),decide_eq_false (show ¬k=4 by omega),if_neg (by omega),if_neg (by omega),if_neg (by omega),if_neg (by omega)];rfl
theorem Yxr (k w sq cd:Int) (b:Bool):cnd (decide (w=0)) (some ((b&&!(decide (k=4/\w=0)))&&(decide (sq=0)&&decide (cd=0)))) (some ((b&&!(decide (k=4/\w=0)))&&(decide (1<=w/\w<=9)&&(decide (0<=sq/\sq<=65535)&&decide (0<=cd/\cd<=6)))))=some (b&&Ml k w sq cd):=by
 unfold Ml;by_cases h:w=0
 ·rw[decide_eq_true h,Ad,if_pos h];congr 1;rw[Kre];congr 1;rw[Kdc];simp only[Kd,decide_eq_true_eq,Kzb,decide_eq_false_iff_not];omega
 rw[decide_eq_false h,Ac,if_neg h];congr 1;rw[Kre];congr 1;rw[Kdc];simp only[Kd,decide_eq_true_eq,Kzb,decide_eq_false_iff_not];omega
theorem Zm3 {r:Rec}(h1:r.2.1.1.length<9223372036854775807) (h2:r.2.2.1.length<9223372036854775807):P0 r=some (Cf r):=by
 obtain⟨k,⟨key,⟨ot,ob⟩,⟨nt,nb⟩,has,aside⟩,name,n,w,sq,cd⟩:=r;simp only at h1 h2;have e1:=Ypy (key,((ot,ob),((nt,nb),(has,aside))));have e2:Ln (key,((ot,ob),((nt,nb),(has,aside))))=_:=Zf8 (by simp only;omega);have e3:=Zww h2;have e4:∀x l h:Int,Cq (x,(l,h))=some (decide (l<=x/\x<=h)):=G1;simp only at e1;unfold P0 Cf Nv;simp only[e1,e2,e3,e4,Aa,Sm,Yfp,Zhu,K4,Ye9,Ar,Yxr]
def smC (B:Nat) (r:Rec):Prop:=smR B r.2.1/\r.2.2.1.length<=B
theorem smC.mono {A B:Nat}{r:Rec}(h:smC A r) (hab:A<=B):smC B r:=⟨h.1.mono hab,Kla h.2 hab⟩
theorem Yvt {n:Nat}(h:n<65536):(Ao (cnd (iGt ((2*n:Nat):Int) 65535) (some (.inl (K6 .i64 ((2*n:Nat):Int) 69665))) (some (.inl ((2*n:Nat):Int)))) fun z=>some z:Option Int)=some ((Ob n:Nat):Int):=by
 unfold Ob;by_cases h1:2*n > 65535
 ·rw[Dq (by omega),Ad,if_pos h1,show (69665:Int)=((69665:Nat):Int) from rfl,Z8 (k:=.i64) (by show _<2^63;omega) (by show _<2^63;omega)];rfl
 rw[Eb (by omega),Ac,if_neg h1];rfl
theorem Yb5 {ρ:Type}{step:Int×Int->Option ((Int×Int) ⊕ (Int ⊕ ρ))}{x:Nat}(hx:x<65536)
  (hs:∀n i:Nat,n<65536->i<8->step ((n:Int),(i:Int))=some (.inl (((Ob n:Nat):Int),((i+1:Nat):Int))))
  (he:∀n:Nat,step ((n:Int),8)=some (.inr (.inl (n:Int)))):Aw step ((x:Int),0)=some (.inl ((Ly 8 x:Nat):Int)):=by
 rw[I3 (fun i=>(((Ly i x:Nat):Int),(i:Int))) 8 (.inl ((Ly 8 x:Nat):Int))]
 ·intro i hi;rw[hs _ _ (Ztj hx) hi,<-Yf0]
 ·exact he _
 rfl
theorem Yut {x:Nat}(hx:x<65536):Aw Zjw ((x:Int),0)=some (.inl ((Ly 8 x:Nat):Int)):=by
 refine Yb5 hx (fun n i hn hi=>?_) fun n=>rfl;have e:B9 .i64 (n:Int) 1=((2*n:Nat):Int):=by
  rw[show B9 .i64 (n:Int) 1=((n*2^1:Nat):Int) from Z7 (k:=.i64) (s:=1) (by decide) (by show _<2^63;omega)];congr 1;omega
 have k:=Yvt hn;unfold Zjw;simp only[e];rw[A3 (by omega),Ad];unfold Ob;by_cases h1:2*n > 65535
 ·rw[Dq (by omega),Ad,if_pos h1,show (69665:Int)=((69665:Nat):Int) from rfl,Z8 (k:=.i64) (by show _<2^63;omega) (by show _<2^63;omega),Ar,Cz (by omega) (by omega)];rfl
 rw[Eb (by omega),Ac,if_neg h1,Ar,Cz (by omega) (by omega)];rfl
theorem Yp1 {x:Nat}(hx:x<65536):Aw Zjm ((x:Int),0)=some (.inl ((Ly 8 x:Nat):Int)):=by
 refine Yb5 hx (fun n i hn hi=>?_) fun n=>rfl;have e:Dd .i64 (n:Int) 2=((2*n:Nat):Int):=by
  show IntKind.wrap _ _=_;rw[Mn (by omega) (by omega)];omega
 unfold Zjm;simp only[e];rw[A3 (by omega),Ad];unfold Ob;by_cases h1:2*n > 65535
 ·rw[Dq (by omega),Ad,if_pos h1,show (69665:Int)=((69665:Nat):Int) from rfl,Z8 (k:=.i64) (by show _<2^63;omega) (by show _<2^63;omega),Ar,Cz (by omega) (by omega)];rfl
 rw[Eb (by omega),Ac,if_neg h1,Ar,Cz (by omega) (by omega)];rfl
theorem Yb6 {l:List UInt8}{step:Int×Int->Option ((Int×Int) ⊕ (Int ⊕ Int))}(hs:∀(x i:Nat) (h:i<l.length),x<65536->step ((x:Int),(i:Int))=some (.inl (((Zn x l[i]:Nat):Int),((i+1:Nat):Int)))) (he:∀x:Int,step (x,(l.length:Int))=some (.inr (.inl x))):(Ao (Aw step (65535,0)) fun z=>some (Aq .i64 z 65535))=some ((crc l:Nat):Int):=by
 rw[I3 (fun i=>(((crc (l.take i):Nat):Int),(i:Int))) l.length (.inl ((crc l:Nat):Int)) (fun i hi=>by rw[hs _ _ hi (Oc _),Yf1 hi]) (by rw[he,Kkc]) _ (by rw[Kza];rfl)];rw[Ar,show (65535:Int)=((65535:Nat):Int) from rfl,Om (k:=.i64) (by have:=Oc l;show _<2^63;omega) (by show _<2^63;omega),Mr (j:=16) rfl,Kpc (Oc l)]
theorem Ya3 {l:List UInt8}(hl:l.length<=1048576000):Yo l=some ((crc l:Nat):Int):=by
 refine Yb6 (fun x i h hx=>?_) fun x=>?_
 ·have hb:=B1 l[i];have hx2:=Zk8 hx l[i];unfold Zjx;simp only;rw[A3 (by simp only[Ak];omega),Ad,Bp h,Aa,Cp,Iy (k:=.i64) (by show _<2^63;omega)];rw[show B9 .i64 (l[i].toNat:Int) 8=((l[i].toNat*2^8:Nat):Int) from Z7 (k:=.i64) (s:=8) (by decide) (by show _<2^63;omega),Z8 (k:=.i64) (by show _<2^63;omega) (by show _<2^63;omega),show l[i].toNat*2^8=256*l[i].toNat by omega,Yut hx2,Ar,Cz (by omega) (by omega)];rfl
 unfold Zjx;simp only;rw[A6 (by simp only[Ak];omega),Ac]
theorem Zab {l:List UInt8}(hl:l.length<=1048576000):Us l=some ((crc l:Nat):Int):=by
 refine Yb6 (fun x i h hx=>?_) fun x=>?_
 ·have hb:=B1 l[i];have hx2:=Zk8 hx l[i];have e:Dd .i64 256 (l[i].toNat:Int)=((256*l[i].toNat:Nat):Int):=by
   show IntKind.wrap _ _=_;rw[Mn (by omega) (by omega)];omega
  unfold Zjn;simp only;rw[A3 (by simp only[Ak];omega),Ad,Bp h,Aa,Cp,Iy (k:=.i64) (by show _<2^63;omega)];rw[e,Z8 (k:=.i64) (by show _<2^63;omega) (by show _<2^63;omega),Yp1 hx2,Ar,Cz (by omega) (by omega)];rfl
 unfold Zjn;simp only;rw[A6 (by simp only[Ak];omega),Ac]
theorem Zph (g p:Int) (r:Rec):(I5 g p r).length<=220:=by
 have h1:=Zpp r.2.1;have h2:=Ug r.2.2.1;have h3:(H2 r.1 r.2.1 r.2.2.1 r.2.2.2.1).length<=200:=by
  unfold H2;split
  ·omega
  split
  ·omega
  split
  ·simp
  simp
 unfold I5;simp only[Kt,Kf,Ns];omega
theorem Zsm {A:Type}{k n:Int}{R:Row}{key z:List UInt8}{PR:List UInt8×Row->Option (List UInt8)}{PT:List UInt8×List UInt8->Option (List UInt8)}(hok:Fl k R key n=true) (hz:z.length<=1048576) (hR:Bo R=true->PR (z,R)=some (z++I8 R)) (hT:Ek key=true->PT (z,key)=some (z++Gl key)) (K:List UInt8->Option A) :
  Ao (cnd (iEq k 1) (bnd (PR (z,(R.1,((R.2.1.1,R.2.1.2),((R.2.2.1.1,R.2.2.1.2),(R.2.2.2.1,R.2.2.2.2)))))) (fun z6=>(some (.inl z6)))) (cnd (iEq k 2) (bnd (PT (z,key)) (fun z6=>(some (.inl z6)))) (cnd (iEq k 3) (chk (A0 (z.length+1) 1) (some (.inl (Al z [(u8 (Ai .u8 n))])))) (some (.inl z))))) K=K (z++H2 k R key n):=by
 unfold Fl at hok;unfold H2;simp only[K4];by_cases h1:k=1
 ·rw[if_pos h1]at hok ⊢;simp only[Kd]at hok;rw[decide_eq_true h1,Ad,show PR (z,(R.1,((R.2.1.1,R.2.1.2),((R.2.2.1.1,R.2.2.1.2),(R.2.2.2.1,R.2.2.2.2)))))=_ from hR hok.1.1,Aa,Ar]
 rw[if_neg h1]at hok ⊢;rw[decide_eq_false h1,Ac];by_cases h2:k=2
 ·rw[if_pos h2]at hok ⊢;simp only[Kd]at hok;rw[decide_eq_true h2,Ad,hT hok.1.2,Aa,Ar]
 rw[if_neg h2]at hok ⊢;rw[decide_eq_false h2,Ac];by_cases h3:k=3
 ·rw[if_pos h3]at hok ⊢;simp only[Kd,decide_eq_true_eq]at hok;rw[decide_eq_true h3,Ad,Bj (by omega),Az,Ar,Oa hok.2.1];rfl
 rw[if_neg h3,decide_eq_false h3,Ac,Ar,Kw]
theorem Zzs {q:List UInt8}{who code seq:Int}{PW:List UInt8×Int->Option (List UInt8)}{SM:List UInt8->Option Int}(hq:q.length<=1048576) (h1:0<=who) (h2:0<=code) (h3:0<=seq/\seq<=65535) (hW:∀{l:List UInt8}{n:Int},l.length<=1099511627776->0<=n->n<65536->PW (l,n)=some (l++Bh n)) (hS:∀{l:List UInt8},l.length<=1048576000->SM l=some ((crc l:Nat):Int)) :
  chk (A0 (q.length+2) 1) (bnd (PW ((Al q [(u8 (Ai .u8 who)),(u8 (Ai .u8 code))]),seq)) (fun z7=>(bnd (SM z7) (fun z8=>(bnd (PW (z7,z8)) (fun z9=>(some z9)))))))=some (Rk (q++(yN who.toNat::yN code.toNat::Bh seq))):=by
 rw[Bj (by omega),Az,Oa h1,Oa h2,hW (by simp only[Al,Kt,Kf,Ki];omega) h3.1 (by omega),Aa];have hl:(Al q [yN who.toNat,yN code.toNat]++Bh seq).length<=1048600:=by simp only[Al,Kt,Kf,Ki,Ns];omega
 rw[hS (by omega),Aa,hW (by omega) (by omega) (by have:=Oc (Al q [yN who.toNat,yN code.toNat]++Bh seq);omega),Aa];simp only[Al,Rk,Kva,Kn,Km]
theorem Yqm (x:Int):Nz x=some (decide (0<=x/\x<=65535)):=by unfold Nz;rw[E4,Aa]
theorem Yqa (x:Int):Nv x=some (decide (0<=x/\x<=65535)):=by unfold Nv;rw[G1,Aa]
theorem Ya1 {g p:Int}{r:Rec}(h:smC 1048576 r):Uz (g,(p,r))=some (Ck g p r):=by
 obtain⟨k,R,key,n,who,seq,code⟩:=r;have hR:=h.1;have hk:=h.2;simp only at hR hk;have e0:U0 (k,((R.1,((R.2.1.1,R.2.1.2),((R.2.2.1.1,R.2.2.1.2),(R.2.2.2.1,R.2.2.2.2)))),(key,(n,(who,(seq,code))))))=some (Cf (k,R,key,n,who,seq,code)):=Ya2 (r:=(k,R,key,n,who,seq,code)) (by have:=hR.1;simp only;omega) (by simp only;omega);unfold Uz Ck;simp only[P7,e0,Yqm,Aa];cases hok:Cf (k,R,key,n,who,seq,code) with
 | false=>rw[if_neg (fun q=>by cases q.1)];rfl
 | true =>
 rw[Av,Ac];by_cases hg:0<=g/\g<=65535
 case neg=>rw[decide_eq_false hg,if_neg (fun q=>hg ⟨q.2.1,q.2.2.1⟩)];rfl
 rw[decide_eq_true hg,Av,Ac];by_cases hp:0<=p/\p<=65535
 case neg=>rw[decide_eq_false hp,if_neg (fun q=>hp ⟨q.2.2.2.1,q.2.2.2.2⟩)];rfl
 rw[decide_eq_true hp,Av,Ac,if_pos ⟨rfl,hg.1,hg.2,hp.1,hp.2⟩];simp only[Cf,Kd]at hok;obtain⟨hb,hw⟩:=hok;have hw':=Zi0 hw;obtain⟨_,hk1,hk2⟩:=Zha hb [];rw[T5 (by simp) hg.1 (by omega),Aa,T5 (by simp [Bh]) hp.1 (by omega),Aa,Bj (by simp [Bh]),Az,Oa (show 0<=k by omega)];have hl:(Al ([]++Bh g++Bh p) [yN k.toNat]).length=5:=by simp [Al,Bh]
 have hbl:(H2 k R key n).length<=200:=by
  have:=Zph g p (k,R,key,n,who,seq,code);simp only[I5,Kt,Kf,Ns]at this;have h1:=Zpp R;have h2:=Ug key;unfold H2;split
  ·omega
  split
  ·omega
  split
  ·simp
  simp
 rw[Zsm (PR:=Yl) (PT:=R5) hb (by omega) (fun q=>by rw[Yt7 (by omega) hR,Wz,if_pos q]) (fun q=>Zpz (by omega) (by omega))];rw[Zzs (PW:=J4) (SM:=Yo) (by rw[Kt,hl];omega) hw'.1 hw'.2.2.2.2.1 ⟨hw'.2.2.1,hw'.2.2.2.1⟩ T5 Ya3];simp only[I5,Al,Kva,Kn,Km]
theorem Zm1 {g p:Int}{r:Rec}(h:smC 1048576 r):Ry (g,(p,r))=some (Ck g p r):=by
 obtain⟨k,R,key,n,who,seq,code⟩:=r;have hR:=h.1;have hk:=h.2;simp only at hR hk;have e0:P0 (k,((R.1,((R.2.1.1,R.2.1.2),((R.2.2.1.1,R.2.2.1.2),(R.2.2.2.1,R.2.2.2.2)))),(key,(n,(who,(seq,code))))))=some (Cf (k,R,key,n,who,seq,code)):=Zm3 (r:=(k,R,key,n,who,seq,code)) (by have:=hR.1;simp only;omega) (by simp only;omega);unfold Ry Ck;simp only[P7,e0,Yqa,Aa];cases hok:Cf (k,R,key,n,who,seq,code) with
 | false=>rw[if_neg (fun q=>by cases q.1)];rfl
 | true =>
 rw[Av,Ac];by_cases hg:0<=g/\g<=65535
 case neg=>rw[decide_eq_false hg,if_neg (fun q=>hg ⟨q.2.1,q.2.2.1⟩)];rfl
 rw[decide_eq_true hg,Av,Ac];by_cases hp:0<=p/\p<=65535
 case neg=>rw[decide_eq_false hp,if_neg (fun q=>hp ⟨q.2.2.2.1,q.2.2.2.2⟩)];rfl
 rw[decide_eq_true hp,Av,Ac,if_pos ⟨rfl,hg.1,hg.2,hp.1,hp.2⟩];simp only[Cf,Kd]at hok;obtain⟨hb,hw⟩:=hok;have hw':=Zi0 hw;obtain⟨_,hk1,hk2⟩:=Zha hb [];rw[Tb (by simp) hg.1 (by omega),Aa,Tb (by simp [Bh]) hp.1 (by omega),Aa,Bj (by simp [Bh]),Az,Oa (show 0<=k by omega)];have hl:(Al ([]++Bh g++Bh p) [yN k.toNat]).length=5:=by simp [Al,Bh]
 have hbl:(H2 k R key n).length<=200:=by
  have:=Zph g p (k,R,key,n,who,seq,code);simp only[I5,Kt,Kf,Ns]at this;have h1:=Zpp R;have h2:=Ug key;unfold H2;split
  ·omega
  split
  ·omega
  split
  ·simp
  simp
 rw[Zsm (PR:=Ya) (PT:=Nt) hb (by omega) (fun q=>by rw[Ypl (by omega) hR,Wz,if_pos q]) (fun q=>Zm2 (by omega) (by omega))];rw[Zzs (PW:=J1) (SM:=Us) (by rw[Kt,hl];omega) hw'.1 hw'.2.2.2.2.1 ⟨hw'.2.2.1,hw'.2.2.2.1⟩ Tb Zab];simp only[I5,Al,Kva,Kn,Km]
abbrev Bv:=Int×Int×Int
abbrev Tab:=List Row×Int×List Bv
def smT (B:Nat) (t:Tab):Prop:=t.1.length<=B/\(∀r∈t.1,smR B r)/\t.2.2.length<=B
theorem smT.mono {A B:Nat}{t:Tab}(h:smT A t) (hab:A<=B):smT B t:=⟨Kla h.1 hab,fun r hr=>(h.2.1 r hr).mono hab,Kla h.2.2 hab⟩
def Qd {α:Type}(ok:α->Bool) (lt:α->α->Bool) (l:List α) (i:Nat):Bool:=match l[i]? with
 | none=>true
 | some y=>ok y&&(match i with
  | 0=>true
  | j+1=>match l[j]? with
   | some x=>lt x y
   | none=>true)
def Gu {α:Type}(ok:α->Bool) (lt:α->α->Bool) (l:List α):Bool:=(List.range l.length).all (Qd ok lt l)
theorem Ze2 {α:Type}{ok:α->Bool}{lt:α->α->Bool}{l:List α}{step:Int->Option (Int ⊕ (Unit ⊕ Bool))}
  (hs:∀i,i<l.length->step (i:Int)=some (if Qd ok lt l i=true then .inl ((i:Int)+1) else .inr (.inr false)))
  (he:step (l.length:Int)=some (.inr (.inl ()))):Aw step 0=some (if Gu ok lt l=true then .inl () else .inr false):=by
 obtain⟨r,h1,rfl⟩:=M7 (step:=step) (fun i s=>s=(i:Int)/\∀j,j<i->Qd ok lt l j=true) l.length (fun r=>r=if Gu ok lt l=true then .inl () else .inr false) (by
  rintro i s hi ⟨rfl,h⟩;rw[hs i hi];by_cases hc:Qd ok lt l i=true
  ·left;refine⟨_,by rw[if_pos hc],by omega,fun j hj=>?_⟩;rcases Nat.lt_succ_iff_lt_or_eq.1 hj with a|rfl
   ·exact h j a
   exact hc
  ·right;refine⟨_,by rw[if_neg hc], ?_⟩;rw[if_neg];intro k;exact hc (Kna.1 k i (Kvb.2 hi))) (by
  rintro s ⟨rfl,h⟩;refine⟨_,he, ?_⟩;rw[if_pos];exact Kna.2 fun j hj=>h j (Kvb.1 hj)) 0 ⟨rfl,fun j hj=>by omega⟩
 exact h1
def Gk (x y:Row):Bool:=sLt x.1 y.1
def F2 (m:Bv):Bool:=decide (1<=m.1/\m.1<=9)&&(decide (0<=m.2.1/\m.2.1<=65535)&&decide (0<=m.2.2/\m.2.2<=6))
def Gg (x y:Bv):Bool:=decide (x.1<y.1)
def B7 (t:Tab):Bool:=Gu Bo Gk t.1&&(Gu F2 Gg t.2.2&&(decide (t.1.length<=8)&&decide (0<=t.2.1/\t.2.1<=7)))
theorem Vj {α:Type}{ok:α->Bool}{lt:α->α->Bool}{l:List α}(h:0<l.length):Qd ok lt l 0=ok l[0]:=by
 unfold Qd;rw[Ku h];simp
theorem Sj {α:Type}{ok:α->Bool}{lt:α->α->Bool}{l:List α}{j:Nat}(h:j+1<l.length):Qd ok lt l (j+1)=(ok l[j+1]&&lt l[j] l[j+1]):=by
 unfold Qd;rw[Ku h];simp only[Ku (show j<l.length by omega)]
theorem Yuc {t:Tab}(h:smT 1048576 t):Aw (Zd3 t) 0=some (if Gu Bo Gk t.1=true then .inl () else .inr false):=by
 refine Ze2 (fun i hi=>?_) ?_
 ·have hl:=h.1;have e:Jj ((t.1[i]).1,(((t.1[i]).2.1.1,(t.1[i]).2.1.2),(((t.1[i]).2.2.1.1,(t.1[i]).2.2.1.2),((t.1[i]).2.2.2.1,(t.1[i]).2.2.2.2))))=some (Bo t.1[i]):=Zbl (r:=t.1[i]) (by have:=(h.2.1 _ (Kcb hi)).1;omega);unfold Zd3;rw[A3 (by simp only[Ak];omega),Ad,Bp hi,Aa,e,Aa];cases i with
  | zero =>
   rw[Vj hi];cases hr:Bo t.1[0] with
   | false=>rfl
   | true=>rfl
  | succ j =>
   rw[Sj hi];cases hr:Bo t.1[j+1] with
   | false=>rfl
   | true =>
    rw[Av,Ac,Dq (by omega),Ad,show Ba .i64 ((j+1:Nat):Int) 1=(j:Int) from by rw[Ei (by omega) (by omega)];omega,Bp (show j<t.1.length by omega),Aa,Aa];unfold Gk;cases sLt t.1[j].1 t.1[j+1].1 with
    | false=>rfl
    | true=>rw[Av,Ac,Cz (by omega) (by omega)];rfl
 have hl:=h.1;unfold Zd3;rw[A6 (by simp only[Ak];omega),Ac]
theorem Ypq {t:Tab}(h:smT 1048576 t):Aw (Zdv t) 0=some (if Gu Bo Gk t.1=true then .inl () else .inr false):=by
 refine Ze2 (fun i hi=>?_) ?_
 ·have hl:=h.1;have e:Ln ((t.1[i]).1,(((t.1[i]).2.1.1,(t.1[i]).2.1.2),(((t.1[i]).2.2.1.1,(t.1[i]).2.2.1.2),((t.1[i]).2.2.2.1,(t.1[i]).2.2.2.2))))=some (Bo t.1[i]):=Zf8 (r:=t.1[i]) (by have:=(h.2.1 _ (Kcb hi)).1;omega);unfold Zdv;rw[A3 (by simp only[Ak];omega),Ad,Bp hi,Aa,e,Aa];cases i with
  | zero =>
   rw[Vj hi];cases hr:Bo t.1[0] with
   | false=>rfl
   | true=>rfl
  | succ j =>
   rw[Sj hi];cases hr:Bo t.1[j+1] with
   | false=>rfl
   | true =>
    rw[Av,Ac,Dq (by omega),Ad,show Ba .i64 ((j+1:Nat):Int) 1=(j:Int) from by rw[Ei (by omega) (by omega)];omega,Bp (show j<t.1.length by omega),Aa];unfold Gk;cases sLt t.1[j].1 t.1[j+1].1 with
    | false=>rfl
    | true=>rw[Av,Ac,Cz (by omega) (by omega)];rfl
 have hl:=h.1;unfold Zdv;rw[A6 (by simp only[Ak];omega),Ac]
theorem Yum (m:Bv):Yr m=some (F2 m):=by
 unfold Yr F2 Nz;simp only[E4,Aa,Sm]
theorem Yud {t:Tab}(h:smT 1048576 t):Aw (Zd4 t) 0=some (if Gu F2 Gg t.2.2=true then .inl () else .inr false):=by
 refine Ze2 (fun i hi=>?_) ?_
 ·have hl:=h.2.2;have e:Yr (t.2.2[i].1,(t.2.2[i].2.1,t.2.2[i].2.2))=some (F2 t.2.2[i]):=Yum _;unfold Zd4;rw[A3 (by simp only[Ak];omega),Ad,Bp hi,Aa,e,Aa];cases i with
  | zero =>
   rw[Vj hi];cases hr:F2 t.2.2[0] with
   | false=>rfl
   | true=>rfl
  | succ j =>
   rw[Sj hi];cases hr:F2 t.2.2[j+1] with
   | false=>rfl
   | true =>
    rw[Av,Ac,Dq (by omega),Ad,show Ba .i64 ((j+1:Nat):Int) 1=(j:Int) from by rw[Ei (by omega) (by omega)];omega,Bp (show j<t.2.2.length by omega),Aa,Aa];unfold Gg;by_cases hlt:t.2.2[j].1<t.2.2[j+1].1
    ·rw[Oo (by omega),Ac,Cz (by omega) (by omega),decide_eq_true hlt];rfl
    rw[Qz (by omega),Ad,decide_eq_false hlt];rfl
 have hl:=h.2.2;unfold Zd4;rw[A6 (by simp only[Ak];omega),Ac]
theorem Ypr {t:Tab}(h:smT 1048576 t):Aw (Zdw t) 0=some (if Gu F2 Gg t.2.2=true then .inl () else .inr false):=by
 refine Ze2 (fun i hi=>?_) ?_
 ·have hl:=h.2.2;unfold Zdw Nv;rw[A3 (by simp only[Ak];omega),Ad,Bp hi,Aa];simp only[G1,Aa];have key:∀a b c:Bool,∀rest:Option (Int ⊕ (Unit ⊕ Bool)),cnd (Ag a) (some (.inr (.inr false))) (cnd (Ag b) (some (.inr (.inr false))) (cnd (Ag c) (some (.inr (.inr false))) rest))=if (a&&(b&&c))=true then rest else some (.inr (.inr false)):=by
   intro a b c rest;cases a<;>cases b<;>cases c<;>rfl
  rw[key];have mk:∀m:Bv,(decide (1<=m.1/\m.1<=9)&&(decide (0<=m.2.1/\m.2.1<=65535)&&decide (0<=m.2.2/\m.2.2<=6)))=F2 m:=fun m=>rfl;cases i with
  | zero =>
   rw[Vj hi,mk];cases hr:F2 t.2.2[0] with
   | false=>rfl
   | true=>rfl
  | succ j =>
   rw[Sj hi,mk];cases hr:F2 t.2.2[j+1] with
   | false=>rfl
   | true =>
    rw[if_pos rfl,Dq (by omega),Ad,show Ba .i64 ((j+1:Nat):Int) 1=(j:Int) from by rw[Ei (by omega) (by omega)];omega,Bp (show j<t.2.2.length by omega),Aa];unfold Gg;by_cases hlt:t.2.2[j].1<t.2.2[j+1].1
    ·rw[Oo (by omega),Ac,Cz (by omega) (by omega),decide_eq_true hlt];rfl
    rw[Qz (by omega),Ad,decide_eq_false hlt];rfl
 have hl:=h.2.2;unfold Zdw;rw[A6 (by simp only[Ak];omega),Ac]
theorem Ycc (a b:Bool) (n:Nat) (c:Int):(Ao (some (if a=true then .inl () else .inr false):Option (Unit ⊕ Bool)) fun _=>Ao (some (if b=true then .inl () else .inr false):Option (Unit ⊕ Bool)) fun _=>cnd (iLe (n:Int) 8) (some (decide (0<=c/\c<=7))) (some false))=some (a&&(b&&(decide (n<=8)&&decide (0<=c/\c<=7)))):=by
 rw[Sm,show iLe (n:Int) 8=decide (n<=8) by simp only[iLe];rw[Kdc];simp;omega];cases a<;>cases b<;>rfl
theorem Ya4 {t:Tab}(h:smT 1048576 t):U2 t=some (B7 t):=by
 unfold U2 B7;rw[Yuc h,Yud h];simp only[E4,Aa,Ak,Ycc]
theorem Zm5 {t:Tab}(h:smT 1048576 t):Nu t=some (B7 t):=by
 unfold Nu B7;rw[Ypq h,Ypr h];simp only[G1,Aa,Ak,Ycc]
end
end Go.Vs
