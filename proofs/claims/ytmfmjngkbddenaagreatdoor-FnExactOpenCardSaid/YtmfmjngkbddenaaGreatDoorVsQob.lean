import Derived.Test.YtmfmjngkbddenaaGreatDoorVsW5
import Derived.Test.YtmfmjngkbddenaaGreatDoorVsQoa
set_option linter.all false
namespace Go.Vs
noncomputable section
def suf (l:List UInt8) (a:Int):List UInt8:=if a<0 then [] else l.drop a.toNat
theorem Ow (l:List UInt8) (k:Nat):suf l (k:Int)=l.drop k:=by
 unfold suf;rw[if_neg (by omega)];rfl
theorem Zpq {l:List UInt8}{a:Int}(h:a<0):suf l a=[]:=if_pos h
theorem Znx {t:List UInt8}(h:t.length<2):Bw t=none:=by
 match t,h with
 | [],_=>rfl
 | [_],_=>rfl
theorem Yck (x y:UInt8):iOr .i64 (B1 .i64 (Ak .i64 (y2i x)) 8) (Ak .i64 (y2i y))=((x.toNat*256+y.toNat:Nat):Int):=by
 have h0:=Bv x;have h1:=Bv y;simp only[Cq];rw[Ik (k:=.i64) (by show _<2^63;omega),Ik (k:=.i64) (by show _<2^63;omega)];rw[show B1 .i64 (x.toNat:Int) 8=((x.toNat*2^8:Nat):Int) from Vi (k:=.i64) (s:=8) (by decide) (by show _<2^63;omega)];rw[orc (c:=x.toNat*2^8) (q:=x.toNat) (j:=8) rfl (by omega) (by omega) (by omega)]
theorem Zss {l:List UInt8}{k:Nat}(h:k+2<=l.length):l.drop k=l[k]'(by omega)::l[k+1]'(by omega)::l.drop (k+2):=by
 rw[Kcc (by omega),Kcc (by omega)]
theorem Zao {l:List UInt8}{a:Int}(hl:l.length<=1048576000):Nd (l,a)=some (match Bw (suf l a) with|none=>(0,(0,false))|some (n,_)=>(n,(a+2,true))):=by
 unfold Nd;have e:A1 .i64 (Ae l) 2=(l.length:Int)-2:=D3 (by simp only[Ai];omega) (by simp only[Ai];omega);simp only[e,D0,Aa];by_cases h:0<=a/\a<=(l.length:Int)-2
 ·obtain⟨k,rfl⟩:=Kpc h.1;rw[decide_eq_true h,Az,Ac,Bp (show k<l.length by omega),Aa,C3 (by omega) (by omega),show (k:Int)+1=((k+1:Nat):Int) by omega,Bp (show k+1<l.length by omega),Aa,Yck,C3 (by omega) (by omega)];rw[Ow,Zss (by omega)];rfl
 ·rw[decide_eq_false h,Bd,Ad];by_cases h0:a<0
  ·rw[Zpq h0];rfl
  ·obtain⟨k,rfl⟩:=Kpc (show 0<=a by omega);rw[Ow,Znx (by rw[Kpa];omega)]
theorem Ze {l:List UInt8}{a:Int}(hl:l.length<=1048576000):W6 (l,a)=some (match Bw (suf l a) with|none=>(0,(0,false))|some (n,_)=>(n,(a+2,true))):=by
 unfold W6;have e:A1 .i64 (Ae l) 2=(l.length:Int)-2:=D3 (by simp only[Ai];omega) (by simp only[Ai];omega);simp only[e];by_cases h0:a<0
 ·rw[A5 h0,Ad,Zpq h0];rfl
 rw[A3 (by omega),Ac];obtain⟨k,rfl⟩:=Kpc (show 0<=a by omega);by_cases h:(k:Int)<=(l.length:Int)-2
 ·rw[Dx (by omega),Ac,Bp (show k<l.length by omega),Aa,C3 (by omega) (by omega),show (k:Int)+1=((k+1:Nat):Int) by omega,Bp (show k+1<l.length by omega),Aa,Yck,C3 (by omega) (by omega)];rw[Ow,Zss (by omega)];rfl
 ·rw[Df (by omega),Ad,Ow,Znx (by rw[Kpa];omega)]
theorem Ya2 {F:List UInt8×Int->Option (Int×Int×Bool)}{l:List UInt8}{a:Int}(hl:l.length<=1048576000) (hF:F (l,a)=some (match Bw (suf l a) with|none=>(0,(0,false))|some (n,_)=>(n,(a+2,true)))):(bnd (F (l,a)) (fun z1=>(cnd (Ah
 z1.2.2) (some ([],(0,false))) (cnd (iGt z1.1 60) (some ([],(0,false))) (cnd (iGt z1.1 (A1 .i64 (Ae l) z1.2.1)) (some ([],(0,false))) (chk (Cp z1.2.1 (Aj .i64
 z1.2.1 z1.1) (Ae l)) (some ((A9 ((nOf (Aj .i64 z1.2.1 z1.1))-(nOf z1.2.1)) (Dk (nOf z1.2.1) l)),((Aj .i64 z1.2.1 z1.1),true)))))))):Option (List UInt8×Int×Bool))=some (match D5 (suf l a) with|none=>([],(0,false))|some (s,_)=>(s,(a+2+s.length,true))):=by
 rw[hF];cases hp:Bw (suf l a) with
 | none=>unfold D5;rw[hp];rfl
 | some v =>
  obtain⟨n,q⟩:=v;have h0:¬a<0:=fun h=>by rw[Zpq h]at hp;cases hp
  obtain⟨k,rfl⟩:=Kpc (show 0<=a by omega);obtain⟨e,n0,n1⟩:=O6 hp;rw[Ow]at e;have hk:k+2+q.length=l.length:=by
   have:=congrArg List.length e;simp only[Kpa,Kz,Bn,Ke,Ki]at this;omega
  have hq:q=l.drop (k+2):=by
   have:=congrArg (List.drop 2) e;rw[Ked]at this;rw[this];rfl
  unfold D5;simp only[hp,Aa,Az,Ac];by_cases h6:n<=60
  ·rw[Dx (by omega),Ac,D3 (by simp only[Ai];omega) (by simp only[Ai];omega)];by_cases hn:n<=q.length
   ·rw[Dx (by simp only[Ai];omega),Ac,if_pos ⟨h6,hn⟩,C3 (by omega) (by omega),show Cp ((k:Int)+2) ((k:Int)+2+n) (Ae l)=true from decide_eq_true (by simp only[Ai];omega),Av];have e1:nOf ((k:Int)+2+n)-nOf ((k:Int)+2)=n.toNat:=by unfold nOf;omega
    have e2:nOf ((k:Int)+2)=k+2:=by unfold nOf;omega
    have e3:((q.take n.toNat).length:Int)=n:=by rw[Kab];omega
    rw[e1,e2];simp only[A9,Dk,<-hq,e3]
   ·rw[Df (by simp only[Ai];omega),Ad,if_neg (by omega)]
  ·rw[Df (by omega),Ad,if_neg (by omega)]
theorem Zzl {l:List UInt8}{a:Int}(hl:l.length<=1048576000):Zcn (l,a)=some (match D5 (suf l a) with|none=>([],(0,false))|some (s,_)=>(s,(a+2+s.length,true))):=Ya2 hl (Zao hl)
theorem Zvf {l:List UInt8}{a:Int}(hl:l.length<=1048576000):Zbp (l,a)=some (match D5 (suf l a) with|none=>([],(0,false))|some (s,_)=>(s,(a+2+s.length,true))):=Ya2 hl (Ze hl)
def Rd (l:List UInt8) (a:Int) (t:List UInt8):Prop:=0<=a/\a<=l.length/\suf l a=t
theorem Rd.nat {l t:List UInt8}{a:Int}(h:Rd l a t):∃k:Nat,a=k/\k<=l.length/\t=l.drop k:=by
 obtain⟨h0,h1,h2⟩:=h;obtain⟨k,rfl⟩:=Kpc h0;exact⟨k,rfl,by omega,by rw[<-h2,Ow]⟩
theorem Rd.mk {l:List UInt8}{k:Nat}(h:k<=l.length):Rd l k (l.drop k):=⟨by omega,by omega,Ow l k⟩
theorem Rd.len {l t:List UInt8}{a:Int}(h:Rd l a t):a+t.length=l.length:=by
 obtain⟨k,rfl,h1,rfl⟩:=h.nat;rw[Kpa];omega
theorem Rd.app {l u t:List UInt8}{a:Int}(h:Rd l a (u++t)):Rd l (a+u.length) t:=by
 have hl:=h.len;obtain⟨k,rfl,h1,h2⟩:=h.nat;have:t=l.drop (k+u.length):=by
  rw[<-Ked,<-h2,Kef]
 rw[this,show (k:Int)+(u.length:Int)=((k+u.length:Nat):Int) by omega];refine Rd.mk ?_;rw[Kz]at hl;omega
def RdR {α:Type}(l:List UInt8) (z:α) (o:Option (α×Int×Bool)) (p:Option (α×List UInt8)) (a:Int):Prop:=match p with
 | none=>o=some (z,(a,true))
 | some (v,q)=>∃b,o=some (v,(b,false))/\Rd l b q
theorem Yug {s:List UInt8}(h:s.length<=60):((Hi s).length:Int)=2+s.length:=by
 unfold Hi;rw[if_pos h];simp [Bn];omega
theorem Ya3 {F:List UInt8×Int->Option (List UInt8×Int×Bool)}{l t:List UInt8}{a:Int}(hF:F (l,a)=some (match D5 (suf l a) with|none=>([],(0,false))|some (s,_)=>(s,(a+2+s.length,true)))) (h:Rd l a t) :
  RdR l [] (bnd (F (l,a)) (fun z1=>(cnd false (some ([],(a,true))) (cnd (Ah z1.2.2) (some ([],(a,true))) (some (z1.1,(z1.2.1,false))))))) (D5 t) a:=by
 rw[hF,h.2.2];cases hp:D5 t with
 | none=>rfl
 | some v =>
  obtain⟨s,q⟩:=v;obtain⟨e,hs⟩:=Tl hp;subst e;refine⟨_,rfl, ?_⟩;have:=h.app;rw[Yug hs]at this;show Rd l (a+2+(s.length:Int)) q;rw[show a+2+(s.length:Int)=a+(2+s.length) by omega];exact this
theorem Zo0 {l t:List UInt8}{a:Int}(hl:l.length<=1048576000) (h:Rd l a t):RdR l [] (L2 (l,(a,false))) (D5 t) a:=Ya3 (F:=Zcn) (Zzl hl) h
theorem Zmb {l t:List UInt8}{a:Int}(hl:l.length<=1048576000) (h:Rd l a t):RdR l [] (L1 (l,(a,false))) (D5 t) a:=Ya3 (F:=Zbp) (Zvf hl) h
theorem Zo1 {l:List UInt8}{a:Int}(hl:l.length<=1048576000):L2 (l,(a,true))=some ([],(a,true)):=by
 unfold L2;simp only[Zzl hl,Aa];rfl
theorem Zfp {l:List UInt8}{a:Int}(hl:l.length<=1048576000):L1 (l,(a,true))=some ([],(a,true)):=by
 unfold L1;simp only[Zvf hl,Aa];rfl
theorem Tb {l t:List UInt8}{a:Int}(hl:l.length<=1048576000) (h:Rd l a t):RdR l 0 (E7 (l,(a,false))) (Bu t) a:=by
 have hn:=h.len;unfold E7;cases t with
 | nil =>
  show _=_;simp only[Ac];simp only[Ki]at hn;rw[Qd (by simp only[Ai];omega)];rfl
 | cons x q =>
  simp only[Ke]at hn;have hr:Rd l (a+1) q:=(show Rd l a ([x]++q) from h).app;refine⟨a+1, ?_,hr⟩;obtain⟨k,rfl,h1,h2⟩:=h.nat;have hk:k<l.length:=by omega
  rw[Kcc hk]at h2;have hx:x=l[k]:=(List.cons.inj h2).1;simp only[Ac];rw[N5 (by simp only[Ai];omega),Ac,C3 (by omega) (by omega),D3 (by omega) (by omega),show (k:Int)+1-1=k by omega,Bp hk,Aa,<-hx,Cq,Ik (k:=.i64) (by have:=Bv x;show _<2^63;omega)]
theorem Wb {l:List UInt8}{a:Int}:E7 (l,(a,true))=some (0,(a,true)):=rfl
theorem Zfn {l t:List UInt8}{a:Int}(hl:l.length<=1048576000) (h:Rd l a t):RdR l 0 (Gu (l,(a,false))) (Bu t) a:=by
 have e:Gu (l,(a,false))=E7 (l,(a,false)):=by
  unfold Gu E7;simp only[Ac];rw[A3 h.1,Ac]
 rw[e];exact Tb hl h
theorem Zg {l:List UInt8}{a:Int}:Gu (l,(a,true))=some (0,(a,true)):=rfl
def RdW {α:Type}(l:List UInt8) (o:Option (α×Int×Bool)) (p:Option (α×List UInt8)):Prop:=match p with
 | none=>∃v b,o=some (v,(b,true))
 | some (v,q)=>∃b,o=some (v,(b,false))/\Rd l b q
theorem Zr6 {F:List UInt8×Int×Bool->Option (Int×Int×Bool)}{G:List UInt8×Int×Bool->Option (List UInt8×Int×Bool)}{l t:List UInt8}{a:Int}(hF:∀{a:Int}{t:List UInt8},Rd l a t->RdR l 0 (F (l,(a,false))) (Bu t) a) (hG:∀{a:Int}{t:List UInt8},Rd l a t->RdR l [] (G (l,(a,false))) (D5 t) a) (hB:∀{a:Int},G (l,(a,true))=some ([],(a,true))) (h:Rd l a t) :
  RdW l (bnd (F (l,(a,false))) (fun z1=>(bnd (G (l,(z1.2.1,z1.2.2))) (fun z2=>(some ((z1.1,z2.1),(z2.2.1,z2.2.2))))))) (E3 t):=by
 have h1:=hF h;unfold E3;cases hp:Bu t with
 | none =>
  rw[hp]at h1;rw[show F (l,(a,false))=some (0,(a,true)) from h1];exact⟨(0,[]),a,by simp only[Aa,hB]⟩
 | some v =>
  obtain⟨n,q⟩:=v;rw[hp]at h1;obtain⟨b,h2,h3⟩:=h1;have h4:=hG h3;rw[h2];simp only[Aa];cases hq:D5 q with
  | none =>
   rw[hq]at h4;rw[show G (l,(b,false))=some ([],(b,true)) from h4];exact⟨(n,[]),b,rfl⟩
  | some w =>
   obtain⟨u,r⟩:=w;rw[hq]at h4;obtain⟨c,h5,h6⟩:=h4;rw[h5];exact⟨c,rfl,h6⟩
theorem Zzq {l t:List UInt8}{a:Int}(hl:l.length<=1048576000) (h:Rd l a t):RdW l (Ug (l,(a,false))) (E3 t):=Zr6 (F:=E7) (G:=L2) (Tb hl) (Zo0 hl) (Zo1 hl) h
theorem Zfm {l t:List UInt8}{a:Int}(hl:l.length<=1048576000) (h:Rd l a t):RdW l (Jh (l,(a,false))) (E3 t):=Zr6 (F:=Gu) (G:=L1) (Zfn hl) (Zmb hl) (Zfp hl) h
theorem Zvl {l:List UInt8}{a:Int}(hl:l.length<=1048576000):Jh (l,(a,true))=some ((0,[]),(a,true)):=by
 unfold Jh;simp only[Zg,Aa,Zfp hl]
def Gy (C:List UInt8×Int×Bool->Option (Ce×Int×Bool)) (l:List UInt8) (b:Int) (bad bit:Bool):Option ((Int×Bool×Int×List UInt8) ⊕ (Row×Int×Bool)):=cnd bit (bnd (C (l,(b,bad))) fun z5=>some (.inl (z5.2.1,(z5.2.2,(z5.1.1,z5.1.2))))) (some (.inl (b,(bad,(0,[])))))
theorem Yd5 {C:List UInt8×Int×Bool->Option (Ce×Int×Bool)}{l t:List UInt8}{b:Int}(hC:RdW l (C (l,(b,false))) (E3 t)) (hr:Rd l b t) (bit:Bool):match (if bit=true then E3 t else some ((0,[]),t)) with
  | none=>∃v p,Gy C l b false bit=some (.inl (p,(true,v)))
  | some (v,q)=>∃p,Gy C l b false bit=some (.inl (p,(false,v)))/\Rd l p q:=by
 unfold Gy;cases bit with
 | false=>exact⟨b,rfl,hr⟩
 | true =>
  rw[if_pos rfl];simp only[Ad];cases hp:E3 t with
  | none =>
   rw[hp]at hC;obtain⟨v,p,h⟩:=hC;exact⟨v,p,by rw[h];rfl⟩
  | some w =>
   obtain⟨v,q⟩:=w;rw[hp]at hC;obtain⟨p,h1,h2⟩:=hC;exact⟨p,by rw[h1];rfl,h2⟩
theorem Zr2 {C:List UInt8×Int×Bool->Option (Ce×Int×Bool)}{l:List UInt8}{b:Int}(hC:C (l,(b,true))=some ((0,[]),(b,true))) (bit:Bool):Gy C l b true bit=some (.inl (b,(true,(0,[])))):=by
 unfold Gy;cases bit with
 | false=>rfl
 | true=>rw[hC];rfl
theorem Ydv (n:Nat) (h:n<256):Aw .i64 (n:Int) 1=((n%2:Nat):Int):=by
 rw[show (1:Int)=((1:Nat):Int) from rfl,N4 (k:=.i64) (by show _<2^63;omega) (by show _<2^63;omega),L3 (j:=1) rfl]
theorem Ydw (n:Nat) (h:n<256):Aw .i64 (n:Int) 2=((n / 2%2*2:Nat):Int):=by
 rw[show (2:Int)=((2:Nat):Int) from rfl,N4 (k:=.i64) (by show _<2^63;omega) (by show _<2^63;omega)];congr 1;have:∀m:Fin 256,m.val&&&2=m.val / 2%2*2:=by decide +kernel
 exact this ⟨n,h⟩
theorem Zri {n:Nat}(h:n<256):iEq (Aw .i64 (n:Int) 1) 1=decide ((n:Int).toNat%2=1)/\iNe (Aw .i64 (n:Int) 1) 0=decide ((n:Int).toNat%2=1)/\iEq (Aw .i64 (n:Int) 2) 2=decide ((n:Int).toNat / 2%2=1)/\iNe (Aw .i64 (n:Int) 2) 0=decide ((n:Int).toNat / 2%2=1):=by
 rw[Ydv n h,Ydw n h];simp only[iEq,iNe,Kxb];refine⟨?_, ?_, ?_, ?_⟩<;>rw[Ktc]<;>simp<;>omega
theorem Zgl {t q:List UInt8}{n:Int}(h:Bu t=some (n,q)):∃m:Nat,n=m/\m<256:=by
 cases t with
 | nil=>cases h
 | cons x l =>
  simp only[Bu,Ka,Kb]at h;exact⟨x.toNat,h.1.symm,Bv x⟩
theorem Yp {C:List UInt8×Int×Bool->Option (Ce×Int×Bool)}{l t:List UInt8}{b:Int}{P:Prop} [Decidable P] (hC:RdW l (C (l,(b,false))) (E3 t)) (hr:Rd l b t):((if P then E3 t else some ((0,[]),t))=none->∃v p,Gy C l b false (decide P)=some (.inl (p,(true,v))))/\(∀v q,(if P then E3 t else some ((0,[]),t))=some (v,q)->∃p,Gy C l b false (decide P)=some (.inl (p,(false,v)))/\Rd l p q):=by
 have:=Yd5 hC hr (decide P);simp only[decide_eq_true_eq]at this;refine⟨fun h=>?_,fun v q h=>?_⟩<;>rw[h]at this<;>exact this
theorem Yta {l t:List UInt8}{a:Int}(hl:l.length<=1048576000) (h:Rd l a t):RdW l (Rk (l,(a,false))) (Eu t):=by
 unfold Rk Eu;have h1:=Zo0 hl h;cases hp:D5 t with
 | none =>
  rw[hp]at h1;have e1:L2 (l,(a,false))=some ([],(a,true)):=h1;exact⟨_,_,by simp only[e1,Aa,Wb,Ad];rfl⟩
 | some v =>
  obtain⟨key,q1⟩:=v;rw[hp]at h1;obtain⟨b1,e1,r1⟩:=h1;simp only[e1,Aa];have h2:=Tb hl r1;cases hp2:Bu q1 with
  | none =>
   rw[hp2]at h2;have e2:E7 (l,(b1,false))=some (0,(b1,true)):=h2;exact⟨_,_,by simp only[e2,Aa,Wb,Ad];rfl⟩
  | some w =>
   obtain⟨has,q2⟩:=w;rw[hp2]at h2;obtain⟨b2,e2,r2⟩:=h2;simp only[e2,Aa];have h3:=Tb hl r2;cases hp3:Bu q2 with
   | none =>
    rw[hp3]at h3;have e3:E7 (l,(b2,false))=some (0,(b2,true)):=h3;exact⟨_,_,by simp only[e3,Aa,Ad];rfl⟩
   | some u =>
    obtain⟨aside,q3⟩:=u;rw[hp3]at h3;obtain⟨b3,e3,r3⟩:=h3;simp only[e3,Aa,Ac];obtain⟨m,rfl,hm⟩:=Zgl hp2;obtain⟨t1,t2,t3,t4⟩:=Zri hm;have ea:iEq aside 1=decide (aside=1):=I4 _ _;by_cases ha:1<aside
    ·rw[if_pos ha];exact⟨_,_,by simp only[Df ha,Az,Ac,Ax];rfl⟩
    ·rw[if_neg ha];have hO:=Yp (C:=Ug) (P:=(m:Int).toNat%2=1) (Zzq hl r3) r3;unfold Gy at hO;simp only[Dx (show aside<=1 by omega),Bd,Ad,Dh,C0,Aa,t1,t3,ea];unfold V5;cases ho:(if (m:Int).toNat%2=1 then E3 q3 else some ((0,[]),q3)) with
     | none =>
      obtain⟨v4,p4,e4⟩:=hO.1 ho;exact⟨_,_,by simp only[e4,Ax,Az,Ac];rfl⟩
     | some w4 =>
      obtain⟨old,q4⟩:=w4;obtain⟨b4,e4,r4⟩:=hO.2 _ _ ho;have hN:=Yp (C:=Ug) (P:=(m:Int).toNat / 2%2=1) (Zzq hl r4) r4;unfold Gy at hN;simp only[e4,Ax,Bd,Ad];unfold V4;cases hn:(if (m:Int).toNat / 2%2=1 then E3 q4 else some ((0,[]),q4)) with
      | none =>
       obtain⟨v5,p5,e5⟩:=hN.1 hn;exact⟨_,_,by simp only[e5,Ax];rfl⟩
      | some w5 =>
       obtain⟨new,q5⟩:=w5;obtain⟨b5,e5,r5⟩:=hN.2 _ _ hn;exact⟨b5,by simp only[e5,Ax],r5⟩
theorem Ytb {l:List UInt8}{a:Int}(hl:l.length<=1048576000):Rk (l,(a,true))=some (([],((0,[]),((0,[]),(0,false)))),(a,true)):=by
 unfold Rk;simp only[Zo1 hl,Wb,Aa,Ad];rfl
theorem Zju:iNe (Aw .i64 0 1) 0=false/\iNe (Aw .i64 0 2) 0=false:=by decide +kernel
theorem Zr1 {C:List UInt8×Int×Bool->Option (Ce×Int×Bool)}{l t:List UInt8}{b:Int}{P:Prop} [Decidable P] (hC:RdW l (C (l,(b,false))) (E3 t)) (hr:Rd l b t):∃p f v,Gy C l b false (decide P)=some (.inl (p,(f,v)))/\(f=false->∃q,Rd l p q):=by
 have h:=Yp (P:=P) hC hr;cases hp:(if P then E3 t else some ((0,[]),t)) with
 | none =>
  obtain⟨v,p,e⟩:=h.1 hp;exact⟨p,true,v,e,fun h=>by cases h⟩
 | some w =>
  obtain⟨p,e,r⟩:=h.2 w.1 w.2 hp;exact⟨p,false,w.1,e,fun _=>⟨_,r⟩⟩
theorem Yo5 {l t:List UInt8}{a:Int}(hl:l.length<=1048576000) (h:Rd l a t):RdW l (Rb (l,(a,false))) (Fk t):=by
 unfold Rb Fk Eu;have h1:=Zmb hl h;cases hp:D5 t with
 | none =>
  rw[hp]at h1;have e1:L1 (l,(a,false))=some ([],(a,true)):=h1;exact⟨_,_,by simp only[e1,Aa,Zg,Zju,Ac,Ax,Ad];rfl⟩
 | some v =>
  obtain⟨key,q1⟩:=v;rw[hp]at h1;obtain⟨b1,e1,r1⟩:=h1;simp only[e1,Aa];have h2:=Zfn hl r1;cases hp2:Bu q1 with
  | none =>
   rw[hp2]at h2;have e2:Gu (l,(b1,false))=some (0,(b1,true)):=h2;exact⟨_,_,by simp only[e2,Aa,Zg,Zju,Ac,Ax,Ad];rfl⟩
  | some w =>
   obtain⟨has,q2⟩:=w;rw[hp2]at h2;obtain⟨b2,e2,r2⟩:=h2;simp only[e2,Aa];obtain⟨m,rfl,hm⟩:=Zgl hp2;obtain⟨t1,t2,t3,t4⟩:=Zri hm;have bad:∀b,_:=fun b=>Zr2 (C:=Jh) (l:=l) (b:=b) (Zvl hl);unfold Gy at bad;have h3:=Zfn hl r2;cases hp3:Bu q2 with
   | none =>
    rw[hp3]at h3;have e3:Gu (l,(b2,false))=some (0,(b2,true)):=h3;exact⟨_,_,by simp only[e3,Aa,t2,t4,bad,Ax,Ad];rfl⟩
   | some u =>
    obtain⟨aside,q3⟩:=u;rw[hp3]at h3;obtain⟨b3,e3,r3⟩:=h3;simp only[e3,Aa,t2,t4];by_cases ha:1<aside
    ·rw[if_pos ha];obtain⟨p4,f4,v4,e4,k4⟩:=Zr1 (C:=Jh) (P:=(m:Int).toNat%2=1) (Zfm hl r3) r3;unfold Gy at e4;simp only[e4,Ax];cases f4 with
     | true=>exact⟨_,_,by simp only[bad,Ax,Ad];rfl⟩
     | false =>
      obtain⟨q4,r4⟩:=k4 rfl;obtain⟨p5,f5,v5,e5,k5⟩:=Zr1 (C:=Jh) (P:=(m:Int).toNat / 2%2=1) (Zfm hl r4) r4;unfold Gy at e5;simp only[e5,Ax,Df ha,Ad];cases f5 with
      | true=>exact⟨_,_,rfl⟩
      | false=>exact⟨_,_,rfl⟩
    ·rw[if_neg ha];have hO:=Yp (C:=Jh) (P:=(m:Int).toNat%2=1) (Zfm hl r3) r3;unfold Gy at hO;unfold V5;cases ho:(if (m:Int).toNat%2=1 then E3 q3 else some ((0,[]),q3)) with
     | none =>
      obtain⟨v4,p4,e4⟩:=hO.1 ho;exact⟨_,_,by simp only[e4,Ax,bad,Ad];rfl⟩
     | some w4 =>
      obtain⟨old,q4⟩:=w4;obtain⟨b4,e4,r4⟩:=hO.2 _ _ ho;have hN:=Yp (C:=Jh) (P:=(m:Int).toNat / 2%2=1) (Zfm hl r4) r4;unfold Gy at hN;simp only[e4,Ax];unfold V4;cases hn:(if (m:Int).toNat / 2%2=1 then E3 q4 else some ((0,[]),q4)) with
      | none =>
       obtain⟨v5,p5,e5⟩:=hN.1 hn;exact⟨_,_,by simp only[e5,Ax,Ad];rfl⟩
      | some w5 =>
       obtain⟨new,q5⟩:=w5;obtain⟨b5,e5,r5⟩:=hN.2 _ _ hn;have hk:key.length<9223372036854775807:=by have:=(Tl hp).2;omega
       have e6:K3 (key,((old.1,old.2),((new.1,new.2),((m:Int),decide (aside=1)))))=some (Ci (key,old,new,(m:Int),decide (aside=1))):=Zfl (r:=(key,old,new,(m:Int),decide (aside=1))) hk;simp only[e5,Ax,Ac,Dx (show aside<=1 by omega),I4,e6,Aa];cases hr:Ci (key,old,new,(m:Int),decide (aside=1)) with
       | false=>exact⟨_,_,rfl⟩
       | true=>exact⟨b5,rfl,r5⟩
end
end Go.Vs
