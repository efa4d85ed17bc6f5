import Derived.Test.YtmfmjngkbddenaaGreatDoorVsW5
import Derived.Test.YtmfmjngkbddenaaGreatDoorVsQt6
set_option linter.all false
namespace Go.Vs
noncomputable section
theorem Yom {n:Nat}(h:n<65536):u8 (Ai .u8 (Bh .i64 (n:Int) 8))=yN (n / 256)/\u8 (Ai .u8 (n:Int))=yN (n%256):=by
 have e:Bh .i64 (n:Int) (8:Nat)=_:=Zbi (n:=n) (s:=8) (by omega);refine⟨?_, ?_⟩
 ·rw[show Bh .i64 (n:Int) 8=((n / 2^8:Nat):Int) from e,Fm]
 ·rw[Fm];exact UInt8.toNat_inj.1 (by simp [yN])
theorem Ts {l:List UInt8}{n:Int}(hl:l.length<=1099511627776) (h0:0<=n) (h1:n<65536):J2 (l,n)=some (l++Bg n):=by
 obtain⟨k,rfl⟩:=Kpb h0;obtain⟨e1,e2⟩:=Yom (n:=k) (by omega);unfold J2;simp only[e1,e2];rw[Bi (by omega),Az,Bi (by simp only[Al,Kl];omega),Az];rfl
theorem Sx {l:List UInt8}{n:Int}(hl:l.length<=1099511627776) (h0:0<=n) (h1:n<65536):Jz (l,n)=some (l++Bg n):=by
 obtain⟨k,rfl⟩:=Kpb h0;have e:Bh .i64 (k:Int) 8=((k / 2^8:Nat):Int):=Zbi (n:=k) (s:=8) (by omega);have a1:Aq .i64 ((k / 2^8:Nat):Int) 255=((k / 2^8%256:Nat):Int):=by
  rw[show (255:Int)=((255:Nat):Int) from rfl,Oj (k:=.i64) (by show _<2^63;omega) (by show _<2^63;omega),Mo (j:=8) rfl]
 have a2:Aq .i64 (k:Int) 255=((k%256:Nat):Int):=by
  rw[show (255:Int)=((255:Nat):Int) from rfl,Oj (k:=.i64) (by show _<2^63;omega) (by show _<2^63;omega),Mo (j:=8) rfl]
 unfold Jz;simp only[e,a1,a2,Fm];rw[Zwx (by simp only[Kf,Ki];omega),Aa];rw[show k / 2^8%256=k / 256 by omega];rfl
theorem T5 (s:List UInt8):(Gk s).length<=62:=by
 unfold Gk;split<;>simp [Bg]<;>omega
theorem Zw9 {s:List UInt8}(h:¬s.length<=60):iGt (Ah s) 60=true:=Dl (by simp only[Ak];omega)
theorem Zpi {l s:List UInt8}(hl:l.length<=1048576000) (hs:s.length<=1048576000):Ru (l,s)=some (l++Gk s):=by
 unfold Ru Gk;simp only;by_cases h:s.length<=60
 ·rw[D7 (by simp only[Ak];omega),Ac,if_pos h,Ak,Ts (by omega) (by omega) (by omega),Aa];rw[Bi (by simp only[Kt,Bg,Kf,Ki];omega),Az];simp only[Al,Kva]
 ·rw[Zw9 h,Ad,if_neg h,Bi (by omega),Az,Kw];rfl
theorem Zmn {l s:List UInt8}(hl:l.length<=1048576000) (hs:s.length<=1048576000):Nr (l,s)=some (l++Gk s):=by
 unfold Nr Gk;simp only;by_cases h:s.length<=60
 ·rw[D7 (by simp only[Ak];omega),Ac,if_pos h,Ak,Sx (by omega) (by omega) (by omega),Aa];rw[Zwx (by simp only[Kt,Bg,Kf,Ki];omega),Aa,Kva]
 ·rw[Zw9 h,Ad,if_neg h,L4 (by omega),Aa,Kw]
theorem Zei (c:Ba):(Ee c).length<=63:=by
 have:=T5 c.2;unfold Ee;simp only[Kf];omega
theorem N9 {t:Int}(h0:0<=t):u8 (Ai .u8 t)=yN t.toNat:=by
 obtain⟨k,rfl⟩:=Kpb h0;rw[Fm];rfl
def Wn (l:List UInt8) (r:Row):List UInt8:=if Bn r=true then l++I6 r else l
theorem Zo8 (r:Row):(I6 r).length<=190:=by
 have h1:=T5 r.1;have h2:=Zei r.2.1;have h3:=Zei r.2.2.1;unfold I6;simp only[Kt,Kf];split<;>split<;>first|omega|(simp only[Ki];omega)
theorem Yt4 {l:List UInt8}{c:Ba}(hl:l.length<=104857600) (hs:c.2.length<=1048576000) (h0:0<=c.1):Uu (l,(c.1,c.2))=some (l++Ee c):=by
 unfold Uu;simp only[N9 h0];rw[Bi (by omega),Az,Zpi (by simp only[Al,Kt,Kf,Ki];omega) hs,Aa];simp only[Al,Kva,Ee,Kn,Kl]
theorem Yjl (b:Bool):Zi0 b=some (yN (Qk b)):=by cases b<;>rfl
theorem Yjk (b:Bool):Zix b=some (yN (Qk b)):=by cases b<;>rfl
theorem Zzy {r:Row}(h:Bn r=true) (h2:r.2.2.2.1≠2):0<=r.2.1.1:=by
 obtain⟨_,a,b,c,d⟩:=I7 h;have:=Ti c h2;omega
theorem Zzx {r:Row}(h:Bn r=true) (h2:r.2.2.2.1≠1):0<=r.2.2.1.1:=by
 have d:=(I7 h).2.2.2.2;have:=Zav d.1 h2;omega
theorem Ytq {l:List UInt8}{r:Row}(hl:l.length<=1048576) (hr:smR 1048576 r):X9 (l,r)=some (Wn l r):=by
 obtain⟨key,⟨ot,ob⟩,⟨nt,nb⟩,has,aside⟩:=r;obtain⟨k1,k2,k3⟩:=hr;simp only at k1 k2 k3;have e0:Ji (key,((ot,ob),((nt,nb),(has,aside))))=some (Bn (key,((ot,ob),((nt,nb),(has,aside))))):=Zbc (by simp only;omega);unfold X9 Wn;simp only[e0,Aa,Yjl];rw[Bi (by omega),Az];cases hk:Bn (key,((ot,ob),((nt,nb),(has,aside)))) with
 | false=>rw[A3,Ad];rfl
 | true =>
 have b1:=I7 hk;have eo:Dh (key,((ot,ob),((nt,nb),(has,aside))))=some (decide (has≠2)):=Yas _ hk;have en:Cn (key,((ot,ob),((nt,nb),(has,aside))))=some (decide (has≠1)):=Zpk _ hk;have t1:=T5 key;have t2:=Zei (ot,ob);have o0:=Zzy hk;have n0:=Zzx hk;simp only at b1 o0 n0;rw[Au,Ac,show Al [] l=l from rfl,Zpi (by omega) (by omega),Aa,Bi (by simp only[Kt];omega),Az];simp only[eo,en,Aa,N9 (show 0<=has by omega),if_true,I6,Al];have step:∀(q:List UInt8) (c:Ba) (k:Int),q.length<=2097152->c.2.length<=1048576->(has≠k->0<=c.1)->cnd (decide (has≠k)) (bnd (Uu (q,(c.1,c.2))) (fun z5=>(some (.inl z5)))) (some (.inl q))=some (.inl (q++if has=k then [] else Ee c):List UInt8 ⊕ List UInt8):=by
  intro q c k hq hc h0;by_cases h:has=k
  ·rw[if_pos h,decide_eq_false (by simpa using h),Ac,Kw]
  ·rw[if_neg h,decide_eq_true h,Ad,Yt4 (by omega) (by omega) (h0 h)];rfl
 rw[step _ (ot,ob) 2 (by simp only[Kt,Kf,Ki];omega) k2 o0,Ar];have t3:(if has=2 then [] else Ee (ot,ob)).length<=63:=by split<;>first|omega|(simp only[Ki];omega)
 rw[step _ (nt,nb) 1 (by simp only[Kt,Kf,Ki];omega) k3 n0,Ar];simp only[Kva,Kn,Kl]
theorem Yo4 {l:List UInt8}{r:Row}(hl:l.length<=1048576) (hr:smR 1048576 r):Xv (l,r)=some (Wn l r):=by
 obtain⟨key,⟨ot,ob⟩,⟨nt,nb⟩,has,aside⟩:=r;obtain⟨k1,k2,k3⟩:=hr;simp only at k1 k2 k3;have e0:Ln (key,((ot,ob),((nt,nb),(has,aside))))=some (Bn (key,((ot,ob),((nt,nb),(has,aside))))):=Zfy (by simp only;omega);unfold Xv Wn;simp only[L4 (show l.length<=140737488355328 by omega),e0,Aa,Yjk];cases hk:Bn (key,((ot,ob),((nt,nb),(has,aside)))) with
 | false=>rw[A3,Ad];rfl
 | true =>
 have b1:=I7 hk;have t1:=T5 key;have t2:=Zei (ot,ob);have o0:=Zzy hk;have n0:=Zzx hk;simp only at b1 o0 n0;rw[Au,Ac,Zmn (by omega) (by omega),Aa,Bi (by simp only[Kt];omega),Az];simp only[Aa,N9 (show 0<=has by omega),if_true,I6,Al];have step:∀(q:List UInt8) (c:Ba) (k:Int),q.length<=2097152->c.2.length<=1048576->(has≠k->0<=c.1)->cnd (iNe has k) (chk (A0 (q.length+1) 1) (bnd (Nr (q++[u8 (Ai .u8 c.1)],c.2)) (fun z5=>(some (.inl z5))))) (some (.inl q))=some (.inl (q++if has=k then [] else Ee c):List UInt8 ⊕ List UInt8):=by
  intro q c k hq hc h0;by_cases h:has=k
  ·rw[if_pos h,h,Om,Ac,Kw]
  ·rw[if_neg h,Iw h,Ad,Bi (by omega),Az,Zmn (by simp only[Kt,Kf,Ki];omega) (by omega),N9 (h0 h)];simp only[Aa,Ee,Kva,Kn,Kl]
 rw[step _ (ot,ob) 2 (by simp only[Kt,Kf,Ki];omega) k2 o0,Ar];have t3:(if has=2 then [] else Ee (ot,ob)).length<=63:=by split<;>first|omega|(simp only[Ki];omega)
 rw[step _ (nt,nb) 1 (by simp only[Kt,Kf,Ki];omega) k3 n0,Ar];simp only[Kva,Kn,Kl]
abbrev Rec:=Int×Row×List UInt8×Int×Int×Int×Int
def Fa (r:Row):Bool:=r.1.isEmpty&&Ey r.2.1&&Ey r.2.2.1&&decide (r.2.2.2.1=0)&&!r.2.2.2.2
theorem Zgq {r:Row}(h:Fa r=true):r=([],(0,[]),(0,[]),0,false):=by
 obtain⟨k,o,n,z,a⟩:=r;simp only[Fa,Kd,decide_eq_true_eq,Kjd,Kzb]at h;obtain⟨⟨⟨⟨h1,h2⟩,h3⟩,h4⟩,h5⟩:=h;rw[h1,Q4 h2,Q4 h3,h4,h5]
def Fl (k:Int) (R:Row) (key:List UInt8) (n:Int):Bool :=
 if k=1 then Bn R&&key.isEmpty&&decide (n=0)
 else if k=2 then Fa R&&Ej key&&decide (n=0)
 else if k=3 then Fa R&&key.isEmpty&&decide (0<=n/\n<=7)
 else if k=4 then Fa R&&key.isEmpty&&decide (n=0)
 else false
def Mj (k who seq code:Int):Bool:=if who=0 then decide (seq=0/\code=0/\k≠4) else decide (1<=who/\who<=9/\0<=seq/\seq<=65535/\0<=code/\code<=6)
def Cd (r:Rec):Bool:=Fl r.1 r.2.1 r.2.2.1 r.2.2.2.1&&Mj r.1 r.2.2.2.2.1 r.2.2.2.2.2.1 r.2.2.2.2.2.2
def Hz (k:Int) (R:Row) (key:List UInt8) (n:Int):List UInt8:=if k=1 then I6 R else if k=2 then Gk key else if k=3 then [yN n.toNat] else []
def I2 (gen place:Int) (r:Rec):List UInt8:=Bg gen++(Bg place++(yN r.1.toNat::(Hz r.1 r.2.1 r.2.2.1 r.2.2.2.1++(yN r.2.2.2.2.1.toNat::yN r.2.2.2.2.2.2.toNat::Bg r.2.2.2.2.2.1))))
def Re (b:List UInt8):List UInt8:=b++Bg (crc b)
def C7 (gen place:Int) (r:Rec):List UInt8:=if Cd r=true/\0<=gen/\gen<=65535/\0<=place/\place<=65535 then Re (I2 gen place r) else []
def Zam (k:Int) (l:List UInt8):Option ((Row×List UInt8×Int)×List UInt8) :=
 if k=1 then (match Mb l with
  | none=>none
  | some (r,l)=>some ((r,[],0),l))
 else if k=2 then (match E1 l with
  | none=>none
  | some (s,l)=>some ((([],(0,[]),(0,[]),0,false),s,0),l))
 else if k=3 then (match Cf l with
  | none=>none
  | some (n,l)=>some ((([],(0,[]),(0,[]),0,false),[],n),l))
 else some ((([],(0,[]),(0,[]),0,false),[],0),l)
def O5 (l:List UInt8):Option ((Int×Int×Rec)×List UInt8):=match Cp l with
 | none=>none
 | some (gen,l)=>match Cp l with
  | none=>none
  | some (place,l)=>match Cf l with
   | none=>none
   | some (k,l)=>match Zam k l with
    | none=>none
    | some ((R,key,n),l)=>match Cf l with
     | none=>none
     | some (who,l)=>match Cf l with
      | none=>none
      | some (code,l)=>match Cp l with
       | none=>none
       | some (seq,l)=>some ((gen,place,(k,R,key,n,who,seq,code)),l)
def Gx (b:List UInt8):Option (Int×Int×Rec):=match O5 b with
 | none=>none
 | some (x,l)=>if l=Bg (crc (b.take (b.length-2)))/\l.length=2/\Cd x.2.2=true then some x else none
theorem Nq (n:Int):(Bg n).length=2:=rfl
theorem Zg1 {k:Int}{R:Row}{key:List UInt8}{n:Int}(h:Fl k R key n=true) (l:List UInt8):Zam k (Hz k R key n++l)=some ((R,key,n),l)/\1<=k/\k<=4:=by
 unfold Fl at h;unfold Zam Hz;split at h
 ·rename_i hk;simp only[Kd,decide_eq_true_eq,Kjd]at h;obtain⟨⟨h1,rfl⟩,rfl⟩:=h;rw[if_pos hk,if_pos hk,Yrx h1];exact⟨rfl,by omega,by omega⟩
 split at h
 ·rename_i h1 hk;simp only[Kd,decide_eq_true_eq]at h;obtain⟨⟨h2,h3⟩,rfl⟩:=h;rw[if_neg h1,if_pos hk,if_neg h1,if_pos hk,Zoj (by have:=O0 h3;omega),Zgq h2];exact⟨rfl,by omega,by omega⟩
 split at h
 ·rename_i h1 h2 hk;simp only[Kd,decide_eq_true_eq,Kjd]at h;obtain⟨⟨h3,rfl⟩,h4⟩:=h;rw[if_neg h1,if_neg h2,if_pos hk,if_neg h1,if_neg h2,if_pos hk,Zgq h3];simp only[Kn,Kl,Cf,D0 (n:=n.toNat) (by omega),Kpd h4.1];exact⟨trivial,by omega,by omega⟩
 split at h
 ·rename_i h1 h2 h3 hk;simp only[Kd,decide_eq_true_eq,Kjd]at h;obtain⟨⟨h4,rfl⟩,rfl⟩:=h;rw[if_neg h1,if_neg h2,if_neg h3,if_neg h1,if_neg h2,if_neg h3,Zgq h4];exact⟨rfl,by omega,by omega⟩
 ·cases h
theorem Yet {k:Int}{x:Row×List UInt8×Int}{l q:List UInt8}(h:Zam k l=some (x,q)):l=Hz k x.1 x.2.1 x.2.2++q:=by
 unfold Zam at h;unfold Hz;split at h
 ·rename_i hk;rw[if_pos hk];split at h
  ·cases h
  ·rename_i r l2 h2;simp only[Ka,Kb]at h;obtain⟨rfl,rfl⟩:=h;exact (Zzv h2).1
 split at h
 ·rename_i h1 hk;rw[if_neg h1,if_pos hk];split at h
  ·cases h
  ·rename_i r l2 h2;simp only[Ka,Kb]at h;obtain⟨rfl,rfl⟩:=h;exact (W9 h2).1
 split at h
 ·rename_i h1 h2 hk;rw[if_neg h1,if_neg h2,if_pos hk]
  match l,h with
  | [],h=>simp [Cf]at h
  | y::l,h =>
   simp only[Cf,Ka,Kb]at h;obtain⟨rfl,rfl⟩:=h;simp only[Knb,El rfl,Kn,Kl]
 ·rename_i h1 h2 h3;rw[if_neg h1,if_neg h2,if_neg h3];simp only[Ka,Kb]at h;exact h.2
theorem Zip {k who seq code:Int}(h:Mj k who seq code=true):0<=who/\who<=9/\0<=seq/\seq<=65535/\0<=code/\code<=6:=by
 unfold Mj at h;split at h
 ·simp only[decide_eq_true_eq]at h;omega
 ·simp only[decide_eq_true_eq]at h;omega
theorem Yrv {gen place:Int}{r:Rec}(h:Cd r=true) (g0:0<=gen) (g1:gen<=65535) (p0:0<=place) (p1:place<=65535) (l:List UInt8):O5 (I2 gen place r++l)=some ((gen,place,r),l):=by
 obtain⟨k,R,key,n,who,seq,code⟩:=r;simp only[Cd,Kd]at h;obtain⟨h1,h2⟩:=h;have hw:=Zip h2;obtain⟨_,hk1,hk2⟩:=Zg1 h1 [];unfold I2 O5;simp only[Kva,Kn];rw[Td g0 (by omega)];simp only;rw[Td p0 (by omega)];simp only[Cf,D0 (n:=k.toNat) (by omega),Kpd (show 0<=k by omega)];rw[(Zg1 h1 _).1];simp only[D0 (n:=who.toNat) (by omega),Kpd (show 0<=who by omega),D0 (n:=code.toNat) (by omega),Kpd (show 0<=code by omega)];rw[Td (by omega) (by omega)]
theorem Ysl {l q:List UInt8}{x:Int×Int×Rec}(h:O5 l=some (x,q)):l=I2 x.1 x.2.1 x.2.2++q/\0<=x.1/\x.1<=65535/\0<=x.2.1/\x.2.1<=65535:=by
 unfold O5 at h;split at h
 ·cases h
 rename_i gen l1 h1;obtain⟨rfl,g0,g1⟩:=Rk h1;split at h
 ·cases h
 rename_i place l2 h2;obtain⟨rfl,p0,p1⟩:=Rk h2
 match l2,h with
 | [],h=>simp [Cf]at h
 | kb::l2,h =>
 simp only[Cf]at h;split at h
 ·cases h
 rename_i R key n l3 h3;have e3:=Yet h3
 match l3,h,e3 with
 | [],h,_=>simp at h
 | [_],h,_=>simp at h
 | w::c::l3,h,e3 =>
 simp only at h;split at h
 ·cases h
 rename_i seq l4 h4;obtain⟨rfl,s0,s1⟩:=Rk h4;simp only[Ka,Kb]at h;obtain⟨rfl,rfl⟩:=h;refine⟨?_,g0,by simp only;omega,p0,by simp only;omega⟩;simp only at e3;unfold I2;simp only[Kva,Kn,Knb];rw[El (b:=kb) rfl,El (b:=w) rfl,El (b:=c) rfl,<-e3]
theorem Zvj {gen place:Int}{r:Rec}(h:Cd r=true) (g0:0<=gen) (g1:gen<=65535) (p0:0<=place) (p1:place<=65535):Gx (C7 gen place r)=some (gen,place,r):=by
 unfold C7 Gx Re;rw[if_pos ⟨h,g0,g1,p0,p1⟩,Yrv h g0 g1 p0 p1];simp only[Kt,Nq,Nat.add_sub_cancel,List.take_left];rw[if_pos ⟨trivial,trivial,h⟩]
theorem Yr8 {b:List UInt8}{x:Int×Int×Rec}(h:Gx b=some x):C7 x.1 x.2.1 x.2.2=b/\Cd x.2.2=true/\0<=x.1/\x.1<=65535/\0<=x.2.1/\x.2.1<=65535:=by
 unfold Gx at h;split at h
 ·cases h
 rename_i y l h1;split at h
 case isFalse=>cases h
 rename_i hc;simp only[Ka]at h;subst h;obtain⟨h2,h3,h4⟩:=hc;obtain⟨h5,a,b',c,d⟩:=Ysl h1;refine⟨?_,h4,a,b',c,d⟩;unfold C7 Re;rw[if_pos ⟨h4,a,b',c,d⟩];have e:b.take (b.length-2)=I2 y.1 y.2.1 y.2.2:=by
  rw[h5,Kt,h3,Nat.add_sub_cancel,List.take_left]
 rw[e]at h2;rw[<-h2,<-h5]
theorem Sc (a b:Bool):cnd a (some b) (some false)=some (a&&b):=by cases a<;>rfl
theorem Yfa {ρ:Type}(a b:Bool):cnd a (some (.inl b)) (some (.inl false))=(some (.inl (a&&b)):Option (Bool ⊕ ρ)):=by cases a<;>rfl
theorem Zhi (l:List UInt8):sEq l []=l.isEmpty:=by cases l<;>rfl
theorem Yua (r:Row):Zc2 r=some (Fa r):=by
 obtain⟨key,⟨ot,ob⟩,⟨nt,nb⟩,has,aside⟩:=r;unfold Zc2 Fa;have e1:=Zhq (ot,ob);have e2:=Zhq (nt,nb);simp only[e1,e2,Aa,Sc,Zhi,K3];congr 1;cases aside<;>simp [Ag,Kqe]
theorem Ypg (r:Row):Zco ((r.1,((r.2.1.1,r.2.1.2),((r.2.2.1.1,r.2.2.1.2),(r.2.2.2.1,r.2.2.2.2)))),([],((0,[]),((0,[]),(0,false)))))=some (Fa r):=by
 obtain⟨key,⟨ot,ob⟩,⟨nt,nb⟩,has,aside⟩:=r;unfold Zco Fa;have e1:Lo ((ot,ob),(0,[]))=_:=Zf1 (ot,ob);have e2:Lo ((nt,nb),(0,[]))=_:=Zf1 (nt,nb);simp only[e1,e2,Aa,Sc,Zhi,K3];congr 1;cases aside<;>simp [bEq,Kqe]
theorem Yxb (k w sq cd:Int):cnd (decide (w=0)) (some (decide (sq=0)&&(decide (cd=0)&&iNe k 4))) (some (decide (1<=w/\w<=9)&&(decide (0<=sq/\sq<=65535)&&decide (0<=cd/\cd<=6))))=some (Mj k w sq cd):=by
 unfold Mj;by_cases h:w=0
 ·rw[decide_eq_true h,Ad,if_pos h];simp only[iNe];congr 1;rw[Kdc];simp
 ·rw[decide_eq_false h,Ac,if_neg h];congr 1;rw[Kdc];simp only[Kd,decide_eq_true_eq];omega
theorem Yev (k n:Int) (R:Row) (key:List UInt8) (f:Bool):(Ao (cnd (decide (k=1)) (some (.inl (Bn R,(key.isEmpty,decide (n=0))))) (cnd (decide (k=2)) (some (.inl (Fa R,(Ej key,decide (n=0))))) (cnd (decide (k=3)) (some (.inl (Fa R,(key.isEmpty,decide (0<=n/\n<=7))))) (some (.inl (Fa R,(key.isEmpty,decide (n=0))))))):Option ((Bool×Bool×Bool) ⊕ Bool)) fun z=>some (decide (1<=k/\k<=4)&&(z.1&&(z.2.1&&(z.2.2&&f)))))=some (Fl k R key n&&f):=by
 unfold Fl;rcases (show k=1\/k=2\/k=3\/k=4\/¬(1<=k/\k<=4) by omega) with rfl|rfl|rfl|rfl|h
 ·generalize Bn R=a;generalize key.isEmpty=b;generalize decide (n=0)=c;cases a<;>cases b<;>cases c<;>cases f<;>rfl
 ·generalize Fa R=a;generalize Ej key=b;generalize decide (n=0)=c;cases a<;>cases b<;>cases c<;>cases f<;>rfl
 ·generalize Fa R=a;generalize key.isEmpty=b;generalize decide (0<=n/\n<=7)=c;cases a<;>cases b<;>cases c<;>cases f<;>rfl
 ·generalize Fa R=a;generalize key.isEmpty=b;generalize decide (n=0)=c;cases a<;>cases b<;>cases c<;>cases f<;>rfl
 ·rw[decide_eq_false h,decide_eq_false (show ¬k=1 by omega),decide_eq_false (show ¬k=2 by omega),decide_eq_false (show ¬k=3 by omega),if_neg (by omega),if_neg (by omega),if_neg (by omega),if_neg (by omega)];rfl
theorem Yao {r:Rec}(h1:r.2.1.1.length<9223372036854775807) (h2:r.2.2.1.length<9223372036854775807):Uq r=some (Cd r):=by
 obtain⟨k,⟨key,⟨ot,ob⟩,⟨nt,nb⟩,has,aside⟩,name,n,w,sq,cd⟩:=r;simp only at h1 h2;have e1:=Yua (key,((ot,ob),((nt,nb),(has,aside))));have e2:Ji (key,((ot,ob),((nt,nb),(has,aside))))=_:=Zbc (by simp only;omega);have e3:=Zhm h2;have e4:∀x l h:Int,B6 (x,(l,h))=some (decide (l<=x/\x<=h)):=E5;unfold Uq Cd Zi1 Nx;simp only[e1,e2,e3,e4,Aa,Sc,Zhi,K3,Yxb,Yev]
theorem Yeu (k n w:Int) (R:Row) (key:List UInt8):cnd (decide (k=1)) (some (.inl (Bn R&&(key.isEmpty&&decide (n=0))))) (cnd (decide (k=2)) (some (.inl (Fa R&&(Ej key&&decide (n=0))))) (cnd (decide (k=3)) (some (.inl (Fa R&&(key.isEmpty&&decide (0<=n/\n<=7))))) (some (.inl (decide (k=4)&&(Fa R&&(key.isEmpty&&(decide (n=0)&&iNe w 0))))))))=(some (.inl (Fl k R key n&&!(decide (k=4/\w=0)))):Option (Bool ⊕ Bool)):=by
 unfold Fl;rcases (show k=1\/k=2\/k=3\/k=4\/¬(1<=k/\k<=4) by omega) with rfl|rfl|rfl|rfl|h
 ·generalize Bn R=a;generalize key.isEmpty=b;generalize decide (n=0)=c;rw[decide_eq_false (show ¬((1:Int)=4/\w=0) by omega)];cases a<;>cases b<;>cases c<;>rfl
 ·generalize Fa R=a;generalize Ej key=b;generalize decide (n=0)=c;rw[decide_eq_false (show ¬((2:Int)=4/\w=0) by omega)];cases a<;>cases b<;>cases c<;>rfl
 ·generalize Fa R=a;generalize key.isEmpty=b;generalize decide (0<=n/\n<=7)=c;rw[decide_eq_false (show ¬((3:Int)=4/\w=0) by omega)];cases a<;>cases b<;>cases c<;>rfl
 ·generalize Fa R=a;generalize key.isEmpty=b;generalize decide (n=0)=c;rw[show decide ((4:Int)=4/\w=0)=!iNe w 0 by rw[Kdc];simp [iNe]];generalize iNe w 0=d;cases a<;>cases b<;>cases c<;>cases d<;>rfl
 ·rw[decide_eq_false (show ¬k=1 by omega),decide_eq_false (show ¬k=2 by omega),decide_eq_false (show ¬k=3 by omega),decide_eq_false (show ¬k=4 by omega),if_neg (by omega),if_neg (by omega),if_neg (by omega),if_neg (by omega)];rfl
theorem Yxa (k w sq cd:Int) (b:Bool):cnd (decide (w=0)) (some ((b&&!(decide (k=4/\w=0)))&&(decide (sq=0)&&decide (cd=0)))) (some ((b&&!(decide (k=4/\w=0)))&&(decide (1<=w/\w<=9)&&(decide (0<=sq/\sq<=65535)&&decide (0<=cd/\cd<=6)))))=some (b&&Mj k w sq cd):=by
 unfold Mj;by_cases h:w=0
 ·rw[decide_eq_true h,Ad,if_pos h];congr 1;rw[Kqe];congr 1;rw[Kdc];simp only[Kd,decide_eq_true_eq,Kzb,decide_eq_false_iff_not];omega
 ·rw[decide_eq_false h,Ac,if_neg h];congr 1;rw[Kqe];congr 1;rw[Kdc];simp only[Kd,decide_eq_true_eq,Kzb,decide_eq_false_iff_not];omega
theorem Zmo {r:Rec}(h1:r.2.1.1.length<9223372036854775807) (h2:r.2.2.1.length<9223372036854775807):Py r=some (Cd r):=by
 obtain⟨k,⟨key,⟨ot,ob⟩,⟨nt,nb⟩,has,aside⟩,name,n,w,sq,cd⟩:=r;simp only at h1 h2;have e1:=Ypg (key,((ot,ob),((nt,nb),(has,aside))));have e2:Ln (key,((ot,ob),((nt,nb),(has,aside))))=_:=Zfy (by simp only;omega);have e3:=Zwj h2;have e4:∀x l h:Int,Cm (x,(l,h))=some (decide (l<=x/\x<=h)):=Gz;simp only at e1;unfold Py Cd Nt;simp only[e1,e2,e3,e4,Aa,Sc,Yfa,Zhi,K3,Yeu,Ar,Yxa]
def smC (B:Nat) (r:Rec):Prop:=smR B r.2.1/\r.2.2.1.length<=B
theorem smC.mono {A B:Nat}{r:Rec}(h:smC A r) (hab:A<=B):smC B r:=⟨h.1.mono hab,Kka h.2 hab⟩
theorem Yvd {n:Nat}(h:n<65536):(Ao (cnd (iGt ((2*n:Nat):Int) 65535) (some (.inl (K5 .i64 ((2*n:Nat):Int) 69665))) (some (.inl ((2*n:Nat):Int)))) fun z=>some z:Option Int)=some ((Oa n:Nat):Int):=by
 unfold Oa;by_cases h1:2*n > 65535
 ·rw[Dl (by omega),Ad,if_pos h1,show (69665:Int)=((69665:Nat):Int) from rfl,Zx (k:=.i64) (by show _<2^63;omega) (by show _<2^63;omega)];rfl
 ·rw[D7 (by omega),Ac,if_neg h1];rfl
theorem Ybs {ρ:Type}{step:Int×Int->Option ((Int×Int) ⊕ (Int ⊕ ρ))}{x:Nat}(hx:x<65536)
  (hs:∀n i:Nat,n<65536->i<8->step ((n:Int),(i:Int))=some (.inl (((Oa n:Nat):Int),((i+1:Nat):Int))))
  (he:∀n:Nat,step ((n:Int),8)=some (.inr (.inl (n:Int)))):Aw step ((x:Int),0)=some (.inl ((Lx 8 x:Nat):Int)):=by
 rw[I0 (fun i=>(((Lx i x:Nat):Int),(i:Int))) 8 (.inl ((Lx 8 x:Nat):Int))]
 ·intro i hi;rw[hs _ _ (Zs1 hx) hi,<-Yfl]
 ·exact he _
 ·rfl
theorem Yuc {x:Nat}(hx:x<65536):Aw Zjl ((x:Int),0)=some (.inl ((Lx 8 x:Nat):Int)):=by
 refine Ybs hx (fun n i hn hi=>?_) fun n=>rfl;have e:B7 .i64 (n:Int) 1=((2*n:Nat):Int):=by
  rw[show B7 .i64 (n:Int) 1=((n*2^1:Nat):Int) from Zw (k:=.i64) (s:=1) (by decide) (by show _<2^63;omega)];congr 1;omega
 have k:=Yvd hn;unfold Zjl;simp only[e];rw[A5 (by omega),Ad];unfold Oa;by_cases h1:2*n > 65535
 ·rw[Dl (by omega),Ad,if_pos h1,show (69665:Int)=((69665:Nat):Int) from rfl,Zx (k:=.i64) (by show _<2^63;omega) (by show _<2^63;omega),Ar,C0 (by omega) (by omega)];rfl
 ·rw[D7 (by omega),Ac,if_neg h1,Ar,C0 (by omega) (by omega)];rfl
theorem Ypj {x:Nat}(hx:x<65536):Aw Zjb ((x:Int),0)=some (.inl ((Lx 8 x:Nat):Int)):=by
 refine Ybs hx (fun n i hn hi=>?_) fun n=>rfl;have e:D8 .i64 (n:Int) 2=((2*n:Nat):Int):=by
  show IntKind.wrap _ _=_;rw[Ue (by omega) (by omega)];omega
 unfold Zjb;simp only[e];rw[A5 (by omega),Ad];unfold Oa;by_cases h1:2*n > 65535
 ·rw[Dl (by omega),Ad,if_pos h1,show (69665:Int)=((69665:Nat):Int) from rfl,Zx (k:=.i64) (by show _<2^63;omega) (by show _<2^63;omega),Ar,C0 (by omega) (by omega)];rfl
 ·rw[D7 (by omega),Ac,if_neg h1,Ar,C0 (by omega) (by omega)];rfl
theorem Ybt {l:List UInt8}{step:Int×Int->Option ((Int×Int) ⊕ (Int ⊕ Int))}(hs:∀(x i:Nat) (h:i<l.length),x<65536->step ((x:Int),(i:Int))=some (.inl (((Zb x l[i]:Nat):Int),((i+1:Nat):Int)))) (he:∀x:Int,step (x,(l.length:Int))=some (.inr (.inl x))):(Ao (Aw step (65535,0)) fun z=>some (Aq .i64 z 65535))=some ((crc l:Nat):Int):=by
 rw[I0 (fun i=>(((crc (l.take i):Nat):Int),(i:Int))) l.length (.inl ((crc l:Nat):Int)) (fun i hi=>by rw[hs _ _ hi (Ob _),Yfm hi]) (by rw[he,Kjc]) _ (by rw[Kza];rfl)];rw[Ar,show (65535:Int)=((65535:Nat):Int) from rfl,Oj (k:=.i64) (by have:=Ob l;show _<2^63;omega) (by show _<2^63;omega),Mo (j:=16) rfl,Knc (Ob l)]
theorem Yap {l:List UInt8}(hl:l.length<=1048576000):Yc l=some ((crc l:Nat):Int):=by
 refine Ybt (fun x i h hx=>?_) fun x=>?_
 ·have hb:=B0 l[i];have hx2:=Zkx hx l[i];unfold Zjm;simp only;rw[A5 (by simp only[Ak];omega),Ad,Br h,Aa,Cl,Iv (k:=.i64) (by show _<2^63;omega)];rw[show B7 .i64 (l[i].toNat:Int) 8=((l[i].toNat*2^8:Nat):Int) from Zw (k:=.i64) (s:=8) (by decide) (by show _<2^63;omega),Zx (k:=.i64) (by show _<2^63;omega) (by show _<2^63;omega),show l[i].toNat*2^8=256*l[i].toNat by omega,Yuc hx2,Ar,C0 (by omega) (by omega)];rfl
 ·unfold Zjm;simp only;rw[A6 (by simp only[Ak];omega),Ac]
theorem Z0 {l:List UInt8}(hl:l.length<=1048576000):Uj l=some ((crc l:Nat):Int):=by
 refine Ybt (fun x i h hx=>?_) fun x=>?_
 ·have hb:=B0 l[i];have hx2:=Zkx hx l[i];have e:D8 .i64 256 (l[i].toNat:Int)=((256*l[i].toNat:Nat):Int):=by
   show IntKind.wrap _ _=_;rw[Ue (by omega) (by omega)];omega
  unfold Zjc;simp only;rw[A5 (by simp only[Ak];omega),Ad,Br h,Aa,Cl,Iv (k:=.i64) (by show _<2^63;omega)];rw[e,Zx (k:=.i64) (by show _<2^63;omega) (by show _<2^63;omega),Ypj hx2,Ar,C0 (by omega) (by omega)];rfl
 ·unfold Zjc;simp only;rw[A6 (by simp only[Ak];omega),Ac]
theorem Zoz (g p:Int) (r:Rec):(I2 g p r).length<=220:=by
 have h1:=Zo8 r.2.1;have h2:=T5 r.2.2.1;have h3:(Hz r.1 r.2.1 r.2.2.1 r.2.2.2.1).length<=200:=by
  unfold Hz;split
  ·omega
  split
  ·omega
  split
  ·simp
  ·simp
 unfold I2;simp only[Kt,Kf,Nq];omega
theorem Zr4 {A:Type}{k n:Int}{R:Row}{key z:List UInt8}{PR:List UInt8×Row->Option (List UInt8)}{PT:List UInt8×List UInt8->Option (List UInt8)}(hok:Fl k R key n=true) (hz:z.length<=1048576) (hR:Bn R=true->PR (z,R)=some (z++I6 R)) (hT:Ej key=true->PT (z,key)=some (z++Gk key)) (K:List UInt8->Option A) :
  Ao (cnd (iEq k 1) (bnd (PR (z,(R.1,((R.2.1.1,R.2.1.2),((R.2.2.1.1,R.2.2.1.2),(R.2.2.2.1,R.2.2.2.2)))))) (fun z6=>(some (.inl z6)))) (cnd (iEq k 2) (bnd (PT (z,key)) (fun z6=>(some (.inl z6)))) (cnd (iEq k 3) (chk (A0 (z.length+1) 1) (some (.inl (Al z [(u8 (Ai .u8 n))])))) (some (.inl z))))) K=K (z++Hz k R key n):=by
 unfold Fl at hok;unfold Hz;simp only[K3];by_cases h1:k=1
 ·rw[if_pos h1]at hok ⊢;simp only[Kd]at hok;rw[decide_eq_true h1,Ad,show PR (z,(R.1,((R.2.1.1,R.2.1.2),((R.2.2.1.1,R.2.2.1.2),(R.2.2.2.1,R.2.2.2.2)))))=_ from hR hok.1.1,Aa,Ar]
 rw[if_neg h1]at hok ⊢;rw[decide_eq_false h1,Ac];by_cases h2:k=2
 ·rw[if_pos h2]at hok ⊢;simp only[Kd]at hok;rw[decide_eq_true h2,Ad,hT hok.1.2,Aa,Ar]
 rw[if_neg h2]at hok ⊢;rw[decide_eq_false h2,Ac];by_cases h3:k=3
 ·rw[if_pos h3]at hok ⊢;simp only[Kd,decide_eq_true_eq]at hok;rw[decide_eq_true h3,Ad,Bi (by omega),Az,Ar,N9 hok.2.1];rfl
 rw[if_neg h3,decide_eq_false h3,Ac,Ar,Kw]
theorem Zzd {q:List UInt8}{who code seq:Int}{PW:List UInt8×Int->Option (List UInt8)}{SM:List UInt8->Option Int}(hq:q.length<=1048576) (h1:0<=who) (h2:0<=code) (h3:0<=seq/\seq<=65535) (hW:∀{l:List UInt8}{n:Int},l.length<=1099511627776->0<=n->n<65536->PW (l,n)=some (l++Bg n)) (hS:∀{l:List UInt8},l.length<=1048576000->SM l=some ((crc l:Nat):Int)) :
  chk (A0 (q.length+2) 1) (bnd (PW ((Al q [(u8 (Ai .u8 who)),(u8 (Ai .u8 code))]),seq)) (fun z7=>(bnd (SM z7) (fun z8=>(bnd (PW (z7,z8)) (fun z9=>(some z9)))))))=some (Re (q++(yN who.toNat::yN code.toNat::Bg seq))):=by
 rw[Bi (by omega),Az,N9 h1,N9 h2,hW (by simp only[Al,Kt,Kf,Ki];omega) h3.1 (by omega),Aa];have hl:(Al q [yN who.toNat,yN code.toNat]++Bg seq).length<=1048600:=by simp only[Al,Kt,Kf,Ki,Nq];omega
 rw[hS (by omega),Aa,hW (by omega) (by omega) (by have:=Ob (Al q [yN who.toNat,yN code.toNat]++Bg seq);omega),Aa];simp only[Al,Re,Kva,Kn,Kl]
theorem Yp4 (x:Int):Nx x=some (decide (0<=x/\x<=65535)):=by unfold Nx;rw[E5,Aa]
theorem Yps (x:Int):Nt x=some (decide (0<=x/\x<=65535)):=by unfold Nt;rw[Gz,Aa]
theorem Yan {g p:Int}{r:Rec}(h:smC 1048576 r):Up (g,(p,r))=some (C7 g p r):=by
 obtain⟨k,R,key,n,who,seq,code⟩:=r;have hR:=h.1;have hk:=h.2;simp only at hR hk;have e0:Uq (k,((R.1,((R.2.1.1,R.2.1.2),((R.2.2.1.1,R.2.2.1.2),(R.2.2.2.1,R.2.2.2.2)))),(key,(n,(who,(seq,code))))))=some (Cd (k,R,key,n,who,seq,code)):=Yao (r:=(k,R,key,n,who,seq,code)) (by have:=hR.1;simp only;omega) (by simp only;omega);unfold Up C7;simp only[U0,e0,Yp4,Aa];cases hok:Cd (k,R,key,n,who,seq,code) with
 | false=>rw[if_neg (fun q=>by cases q.1)];rfl
 | true =>
 rw[Au,Ac];by_cases hg:0<=g/\g<=65535
 case neg=>rw[decide_eq_false hg,if_neg (fun q=>hg ⟨q.2.1,q.2.2.1⟩)];rfl
 rw[decide_eq_true hg,Au,Ac];by_cases hp:0<=p/\p<=65535
 case neg=>rw[decide_eq_false hp,if_neg (fun q=>hp ⟨q.2.2.2.1,q.2.2.2.2⟩)];rfl
 rw[decide_eq_true hp,Au,Ac,if_pos ⟨rfl,hg.1,hg.2,hp.1,hp.2⟩];simp only[Cd,Kd]at hok;obtain⟨hb,hw⟩:=hok;have hw':=Zip hw;obtain⟨_,hk1,hk2⟩:=Zg1 hb [];rw[Ts (by simp) hg.1 (by omega),Aa,Ts (by simp [Bg]) hp.1 (by omega),Aa,Bi (by simp [Bg]),Az,N9 (show 0<=k by omega)];have hl:(Al ([]++Bg g++Bg p) [yN k.toNat]).length=5:=by simp [Al,Bg]
 have hbl:(Hz k R key n).length<=200:=by
  have:=Zoz g p (k,R,key,n,who,seq,code);simp only[I2,Kt,Kf,Nq]at this;have h1:=Zo8 R;have h2:=T5 key;unfold Hz;split
  ·omega
  split
  ·omega
  split
  ·simp
  ·simp
 rw[Zr4 (PR:=X9) (PT:=Ru) hb (by omega) (fun q=>by rw[Ytq (by omega) hR,Wn,if_pos q]) (fun q=>Zpi (by omega) (by omega))];rw[Zzd (PW:=J2) (SM:=Yc) (by rw[Kt,hl];omega) hw'.1 hw'.2.2.2.2.1 ⟨hw'.2.2.1,hw'.2.2.2.1⟩ Ts Yap];simp only[I2,Al,Kva,Kn,Kl]
theorem Zmm {g p:Int}{r:Rec}(h:smC 1048576 r):Rr (g,(p,r))=some (C7 g p r):=by
 obtain⟨k,R,key,n,who,seq,code⟩:=r;have hR:=h.1;have hk:=h.2;simp only at hR hk;have e0:Py (k,((R.1,((R.2.1.1,R.2.1.2),((R.2.2.1.1,R.2.2.1.2),(R.2.2.2.1,R.2.2.2.2)))),(key,(n,(who,(seq,code))))))=some (Cd (k,R,key,n,who,seq,code)):=Zmo (r:=(k,R,key,n,who,seq,code)) (by have:=hR.1;simp only;omega) (by simp only;omega);unfold Rr C7;simp only[U0,e0,Yps,Aa];cases hok:Cd (k,R,key,n,who,seq,code) with
 | false=>rw[if_neg (fun q=>by cases q.1)];rfl
 | true =>
 rw[Au,Ac];by_cases hg:0<=g/\g<=65535
 case neg=>rw[decide_eq_false hg,if_neg (fun q=>hg ⟨q.2.1,q.2.2.1⟩)];rfl
 rw[decide_eq_true hg,Au,Ac];by_cases hp:0<=p/\p<=65535
 case neg=>rw[decide_eq_false hp,if_neg (fun q=>hp ⟨q.2.2.2.1,q.2.2.2.2⟩)];rfl
 rw[decide_eq_true hp,Au,Ac,if_pos ⟨rfl,hg.1,hg.2,hp.1,hp.2⟩];simp only[Cd,Kd]at hok;obtain⟨hb,hw⟩:=hok;have hw':=Zip hw;obtain⟨_,hk1,hk2⟩:=Zg1 hb [];rw[Sx (by simp) hg.1 (by omega),Aa,Sx (by simp [Bg]) hp.1 (by omega),Aa,Bi (by simp [Bg]),Az,N9 (show 0<=k by omega)];have hl:(Al ([]++Bg g++Bg p) [yN k.toNat]).length=5:=by simp [Al,Bg]
 have hbl:(Hz k R key n).length<=200:=by
  have:=Zoz g p (k,R,key,n,who,seq,code);simp only[I2,Kt,Kf,Nq]at this;have h1:=Zo8 R;have h2:=T5 key;unfold Hz;split
  ·omega
  split
  ·omega
  split
  ·simp
  ·simp
 rw[Zr4 (PR:=Xv) (PT:=Nr) hb (by omega) (fun q=>by rw[Yo4 (by omega) hR,Wn,if_pos q]) (fun q=>Zmn (by omega) (by omega))];rw[Zzd (PW:=Jz) (SM:=Uj) (by rw[Kt,hl];omega) hw'.1 hw'.2.2.2.2.1 ⟨hw'.2.2.1,hw'.2.2.2.1⟩ Sx Z0];simp only[I2,Al,Kva,Kn,Kl]
abbrev Bu:=Int×Int×Int
abbrev Tab:=List Row×Int×List Bu
def smT (B:Nat) (t:Tab):Prop:=t.1.length<=B/\(∀r∈t.1,smR B r)/\t.2.2.length<=B
theorem smT.mono {A B:Nat}{t:Tab}(h:smT A t) (hab:A<=B):smT B t:=⟨Kka h.1 hab,fun r hr=>(h.2.1 r hr).mono hab,Kka h.2.2 hab⟩
def Qa {α:Type}(ok:α->Bool) (lt:α->α->Bool) (l:List α) (i:Nat):Bool:=match l[i]? with
 | none=>true
 | some y=>ok y&&(match i with
  | 0=>true
  | j+1=>match l[j]? with
   | some x=>lt x y
   | none=>true)
def Gs {α:Type}(ok:α->Bool) (lt:α->α->Bool) (l:List α):Bool:=(List.range l.length).all (Qa ok lt l)
theorem Zes {α:Type}{ok:α->Bool}{lt:α->α->Bool}{l:List α}{step:Int->Option (Int ⊕ (Unit ⊕ Bool))}
  (hs:∀i,i<l.length->step (i:Int)=some (if Qa ok lt l i=true then .inl ((i:Int)+1) else .inr (.inr false)))
  (he:step (l.length:Int)=some (.inr (.inl ()))):Aw step 0=some (if Gs ok lt l=true then .inl () else .inr false):=by
 obtain⟨r,h1,rfl⟩:=M5 (step:=step) (fun i s=>s=(i:Int)/\∀j,j<i->Qa ok lt l j=true) l.length (fun r=>r=if Gs ok lt l=true then .inl () else .inr false) (by
  rintro i s hi ⟨rfl,h⟩;rw[hs i hi];by_cases hc:Qa ok lt l i=true
  ·left;refine⟨_,by rw[if_pos hc],by omega,fun j hj=>?_⟩;rcases Nat.lt_succ_iff_lt_or_eq.1 hj with a|rfl
   ·exact h j a
   ·exact hc
  ·right;refine⟨_,by rw[if_neg hc], ?_⟩;rw[if_neg];intro k;exact hc (Kna.1 k i (Kvb.2 hi))) (by
  rintro s ⟨rfl,h⟩;refine⟨_,he, ?_⟩;rw[if_pos];exact Kna.2 fun j hj=>h j (Kvb.1 hj)) 0 ⟨rfl,fun j hj=>by omega⟩
 exact h1
def Gj (x y:Row):Bool:=sLt x.1 y.1
def F2 (m:Bu):Bool:=decide (1<=m.1/\m.1<=9)&&(decide (0<=m.2.1/\m.2.1<=65535)&&decide (0<=m.2.2/\m.2.2<=6))
def Gf (x y:Bu):Bool:=decide (x.1<y.1)
def Ca (t:Tab):Bool:=Gs Bn Gj t.1&&(Gs F2 Gf t.2.2&&(decide (t.1.length<=8)&&decide (0<=t.2.1/\t.2.1<=7)))
theorem Va {α:Type}{ok:α->Bool}{lt:α->α->Bool}{l:List α}(h:0<l.length):Qa ok lt l 0=ok l[0]:=by
 unfold Qa;rw[Ku h];simp
theorem R9 {α:Type}{ok:α->Bool}{lt:α->α->Bool}{l:List α}{j:Nat}(h:j+1<l.length):Qa ok lt l (j+1)=(ok l[j+1]&&lt l[j] l[j+1]):=by
 unfold Qa;rw[Ku h];simp only[Ku (show j<l.length by omega)]
theorem Ytv {t:Tab}(h:smT 1048576 t):Aw (Zdu t) 0=some (if Gs Bn Gj t.1=true then .inl () else .inr false):=by
 refine Zes (fun i hi=>?_) ?_
 ·have hl:=h.1;have e:Ji ((t.1[i]).1,(((t.1[i]).2.1.1,(t.1[i]).2.1.2),(((t.1[i]).2.2.1.1,(t.1[i]).2.2.1.2),((t.1[i]).2.2.2.1,(t.1[i]).2.2.2.2))))=some (Bn t.1[i]):=Zbc (r:=t.1[i]) (by have:=(h.2.1 _ (Kcb hi)).1;omega);unfold Zdu;rw[A5 (by simp only[Ak];omega),Ad,Br hi,Aa,e,Aa];cases i with
  | zero =>
   rw[Va hi];cases hr:Bn t.1[0] with
   | false=>rfl
   | true=>rfl
  | succ j =>
   rw[R9 hi];cases hr:Bn t.1[j+1] with
   | false=>rfl
   | true =>
    rw[Au,Ac,Dl (by omega),Ad,show A9 .i64 ((j+1:Nat):Int) 1=(j:Int) from by rw[Eh (by omega) (by omega)];omega,Br (show j<t.1.length by omega),Aa,Aa];unfold Gj;cases sLt t.1[j].1 t.1[j+1].1 with
    | false=>rfl
    | true=>rw[Au,Ac,C0 (by omega) (by omega)];rfl
 ·have hl:=h.1;unfold Zdu;rw[A6 (by simp only[Ak];omega),Ac]
theorem Yo8 {t:Tab}(h:smT 1048576 t):Aw (Zdm t) 0=some (if Gs Bn Gj t.1=true then .inl () else .inr false):=by
 refine Zes (fun i hi=>?_) ?_
 ·have hl:=h.1;have e:Ln ((t.1[i]).1,(((t.1[i]).2.1.1,(t.1[i]).2.1.2),(((t.1[i]).2.2.1.1,(t.1[i]).2.2.1.2),((t.1[i]).2.2.2.1,(t.1[i]).2.2.2.2))))=some (Bn t.1[i]):=Zfy (r:=t.1[i]) (by have:=(h.2.1 _ (Kcb hi)).1;omega);unfold Zdm;rw[A5 (by simp only[Ak];omega),Ad,Br hi,Aa,e,Aa];cases i with
  | zero =>
   rw[Va hi];cases hr:Bn t.1[0] with
   | false=>rfl
   | true=>rfl
  | succ j =>
   rw[R9 hi];cases hr:Bn t.1[j+1] with
   | false=>rfl
   | true =>
    rw[Au,Ac,Dl (by omega),Ad,show A9 .i64 ((j+1:Nat):Int) 1=(j:Int) from by rw[Eh (by omega) (by omega)];omega,Br (show j<t.1.length by omega),Aa];unfold Gj;cases sLt t.1[j].1 t.1[j+1].1 with
    | false=>rfl
    | true=>rw[Au,Ac,C0 (by omega) (by omega)];rfl
 ·have hl:=h.1;unfold Zdm;rw[A6 (by simp only[Ak];omega),Ac]
theorem Yt5 (m:Bu):Yf m=some (F2 m):=by
 unfold Yf F2 Nx;simp only[E5,Aa,Sc]
theorem Ytw {t:Tab}(h:smT 1048576 t):Aw (Zdv t) 0=some (if Gs F2 Gf t.2.2=true then .inl () else .inr false):=by
 refine Zes (fun i hi=>?_) ?_
 ·have hl:=h.2.2;have e:Yf (t.2.2[i].1,(t.2.2[i].2.1,t.2.2[i].2.2))=some (F2 t.2.2[i]):=Yt5 _;unfold Zdv;rw[A5 (by simp only[Ak];omega),Ad,Br hi,Aa,e,Aa];cases i with
  | zero =>
   rw[Va hi];cases hr:F2 t.2.2[0] with
   | false=>rfl
   | true=>rfl
  | succ j =>
   rw[R9 hi];cases hr:F2 t.2.2[j+1] with
   | false=>rfl
   | true =>
    rw[Au,Ac,Dl (by omega),Ad,show A9 .i64 ((j+1:Nat):Int) 1=(j:Int) from by rw[Eh (by omega) (by omega)];omega,Br (show j<t.2.2.length by omega),Aa,Aa];unfold Gf;by_cases hlt:t.2.2[j].1<t.2.2[j+1].1
    ·rw[Ol (by omega),Ac,C0 (by omega) (by omega),decide_eq_true hlt];rfl
    ·rw[Qu (by omega),Ad,decide_eq_false hlt];rfl
 ·have hl:=h.2.2;unfold Zdv;rw[A6 (by simp only[Ak];omega),Ac]
theorem Yo9 {t:Tab}(h:smT 1048576 t):Aw (Zdn t) 0=some (if Gs F2 Gf t.2.2=true then .inl () else .inr false):=by
 refine Zes (fun i hi=>?_) ?_
 ·have hl:=h.2.2;unfold Zdn Nt;rw[A5 (by simp only[Ak];omega),Ad,Br hi,Aa];simp only[Gz,Aa];have key:∀a b c:Bool,∀rest:Option (Int ⊕ (Unit ⊕ Bool)),cnd (Ag a) (some (.inr (.inr false))) (cnd (Ag b) (some (.inr (.inr false))) (cnd (Ag c) (some (.inr (.inr false))) rest))=if (a&&(b&&c))=true then rest else some (.inr (.inr false)):=by
   intro a b c rest;cases a<;>cases b<;>cases c<;>rfl
  rw[key];have mk:∀m:Bu,(decide (1<=m.1/\m.1<=9)&&(decide (0<=m.2.1/\m.2.1<=65535)&&decide (0<=m.2.2/\m.2.2<=6)))=F2 m:=fun m=>rfl;cases i with
  | zero =>
   rw[Va hi,mk];cases hr:F2 t.2.2[0] with
   | false=>rfl
   | true=>rfl
  | succ j =>
   rw[R9 hi,mk];cases hr:F2 t.2.2[j+1] with
   | false=>rfl
   | true =>
    rw[if_pos rfl,Dl (by omega),Ad,show A9 .i64 ((j+1:Nat):Int) 1=(j:Int) from by rw[Eh (by omega) (by omega)];omega,Br (show j<t.2.2.length by omega),Aa];unfold Gf;by_cases hlt:t.2.2[j].1<t.2.2[j+1].1
    ·rw[Ol (by omega),Ac,C0 (by omega) (by omega),decide_eq_true hlt];rfl
    ·rw[Qu (by omega),Ad,decide_eq_false hlt];rfl
 ·have hl:=h.2.2;unfold Zdn;rw[A6 (by simp only[Ak];omega),Ac]
theorem Ybz (a b:Bool) (n:Nat) (c:Int):(Ao (some (if a=true then .inl () else .inr false):Option (Unit ⊕ Bool)) fun _=>Ao (some (if b=true then .inl () else .inr false):Option (Unit ⊕ Bool)) fun _=>cnd (iLe (n:Int) 8) (some (decide (0<=c/\c<=7))) (some false))=some (a&&(b&&(decide (n<=8)&&decide (0<=c/\c<=7)))):=by
 rw[Sc,show iLe (n:Int) 8=decide (n<=8) by simp only[iLe];rw[Kdc];simp;omega];cases a<;>cases b<;>rfl
theorem Yaq {t:Tab}(h:smT 1048576 t):Us t=some (Ca t):=by
 unfold Us Ca;rw[Ytv h,Ytw h];simp only[E5,Aa,Ak,Ybz]
theorem Zmp {t:Tab}(h:smT 1048576 t):Ns t=some (Ca t):=by
 unfold Ns Ca;rw[Yo8 h,Yo9 h];simp only[Gz,Aa,Ak,Ybz]
end
end Go.Vs
