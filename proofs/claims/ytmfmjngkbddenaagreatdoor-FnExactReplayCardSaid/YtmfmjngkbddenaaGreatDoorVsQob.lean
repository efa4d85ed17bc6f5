import Derived.Test.YtmfmjngkbddenaaGreatDoorVsW5
import Derived.Test.YtmfmjngkbddenaaGreatDoorVsQoa
set_option linter.all false
namespace Go.Vs
noncomputable section
def suf (l:List UInt8) (a:Int):List UInt8:=if a<0 then [] else l.drop a.toNat
theorem O6 (l:List UInt8) (k:Nat):suf l (k:Int)=l.drop k:=by
 unfold suf;rw[if_neg (by omega)];rfl
theorem Zld {l:List UInt8}{a:Int}(h:a<0):suf l a=[]:=if_pos h
theorem Zjn {t:List UInt8}(h:t.length<2):Cd t=none:=by
 match t,h with
 | [],_=>rfl
 | [_],_=>rfl
theorem Zwx (x y:UInt8):iOr .i64 (Br .i64 (Ak .i64 (y2i x)) 8) (Ak .i64 (y2i y))=((x.toNat*256+y.toNat:Nat):Int):=by
 have h0:=B2 x;have h1:=B2 y;simp only[Ce];rw[He (k:=.i64) (by show _<2^63;omega),He (k:=.i64) (by show _<2^63;omega)];rw[show Br .i64 (x.toNat:Int) 8=((x.toNat*2^8:Nat):Int) from Tc (k:=.i64) (s:=8) (by decide) (by show _<2^63;omega)];rw[orc (c:=x.toNat*2^8) (q:=x.toNat) (j:=8) rfl (by omega) (by omega) (by omega)]
theorem Zob {l:List UInt8}{k:Nat}(h:k+2<=l.length):l.drop k=l[k]'(by omega)::l[k+1]'(by omega)::l.drop (k+2):=by
 rw[Kzb (by omega),Kzb (by omega)]
theorem Zt3 {l:List UInt8}{a:Int}(hl:l.length<=1048576000):Rt (l,a)=some (match Cd (suf l a) with|none=>(0,(0,false))|some (n,_)=>(n,(a+2,true))):=by
 unfold Rt;have e:Ax .i64 (Af l) 2=(l.length:Int)-2:=D7 (by simp only[Aj];omega) (by simp only[Aj];omega);simp only[e,Ee,Ab];by_cases h:0<=a/\a<=(l.length:Int)-2
 ·obtain⟨k,rfl⟩:=Kdd h.1;rw[decide_eq_true h,Bd,Ae,B9 (show k<l.length by omega),Ab,C9 (by omega) (by omega),show (k:Int)+1=((k+1:Nat):Int) by omega,B9 (show k+1<l.length by omega),Ab,Zwx,C9 (by omega) (by omega)];rw[O6,Zob (by omega)];rfl
 ·rw[decide_eq_false h,Cp,Ag];by_cases h0:a<0
  ·rw[Zld h0];rfl
  ·obtain⟨k,rfl⟩:=Kdd (show 0<=a by omega);rw[O6,Zjn (by rw[Kia];omega)]
theorem Zh2 {l:List UInt8}{a:Int}(hl:l.length<=1048576000):Uy (l,a)=some (match Cd (suf l a) with|none=>(0,(0,false))|some (n,_)=>(n,(a+2,true))):=by
 unfold Uy;have e:Ax .i64 (Af l) 2=(l.length:Int)-2:=D7 (by simp only[Aj];omega) (by simp only[Aj];omega);simp only[e];by_cases h0:a<0
 ·rw[A6 h0,Ag,Zld h0];rfl
 rw[A3 (by omega),Ae];obtain⟨k,rfl⟩:=Kdd (show 0<=a by omega);by_cases h:(k:Int)<=(l.length:Int)-2
 ·rw[Er (by omega),Ae,B9 (show k<l.length by omega),Ab,C9 (by omega) (by omega),show (k:Int)+1=((k+1:Nat):Int) by omega,B9 (show k+1<l.length by omega),Ab,Zwx,C9 (by omega) (by omega)];rw[O6,Zob (by omega)];rfl
 ·rw[Dp (by omega),Ag,O6,Zjn (by rw[Kia];omega)]
theorem Zvk {F:List UInt8×Int->Option (Int×Int×Bool)}{l:List UInt8}{a:Int}(hl:l.length<=1048576000) (hF:F (l,a)=some (match Cd (suf l a) with|none=>(0,(0,false))|some (n,_)=>(n,(a+2,true)))):(bnd (F (l,a)) (fun z1=>(cnd (Ah
 z1.2.2) (some ([],(0,false))) (cnd (iGt z1.1 60) (some ([],(0,false))) (cnd (iGt z1.1 (Ax .i64 (Af l) z1.2.1)) (some ([],(0,false))) (chk (Co z1.2.1 (Ai .i64
 z1.2.1 z1.1) (Af l)) (some ((A9 ((nOf (Ai .i64 z1.2.1 z1.1))-(nOf z1.2.1)) (C0 (nOf z1.2.1) l)),((Ai .i64 z1.2.1 z1.1),true)))))))):Option (List UInt8×Int×Bool))=some (match Dl (suf l a) with|none=>([],(0,false))|some (s,_)=>(s,(a+2+s.length,true))):=by
 rw[hF];cases hp:Cd (suf l a) with
 | none=>unfold Dl;rw[hp];rfl
 | some v =>
  obtain⟨n,q⟩:=v;have h0:¬a<0:=fun h=>by rw[Zld h]at hp;cases hp
  obtain⟨k,rfl⟩:=Kdd (show 0<=a by omega);obtain⟨e,n0,n1⟩:=Pd hp;rw[O6]at e;have hk:k+2+q.length=l.length:=by
   have:=congrArg List.length e;simp only[Kia,Kab,Em,Kh,Ko]at this;omega
  have hq:q=l.drop (k+2):=by
   have:=congrArg (List.drop 2) e;rw[Kvc]at this;rw[this];rfl
  unfold Dl;simp only[hp,Ab,Bd,Ae];by_cases h6:n<=60
  ·rw[Er (by omega),Ae,D7 (by simp only[Aj];omega) (by simp only[Aj];omega)];by_cases hn:n<=q.length
   ·rw[Er (by simp only[Aj];omega),Ae,if_pos ⟨h6,hn⟩,C9 (by omega) (by omega),show Co ((k:Int)+2) ((k:Int)+2+n) (Af l)=true from decide_eq_true (by simp only[Aj];omega),A4];have e1:nOf ((k:Int)+2+n)-nOf ((k:Int)+2)=n.toNat:=by unfold nOf;omega
    have e2:nOf ((k:Int)+2)=k+2:=by unfold nOf;omega
    have e3:((q.take n.toNat).length:Int)=n:=by rw[Kta];omega
    rw[e1,e2];simp only[A9,C0,<-hq,e3]
   ·rw[Dp (by simp only[Aj];omega),Ag,if_neg (by omega)]
  ·rw[Dp (by omega),Ag,if_neg (by omega)]
theorem Zt2 {l:List UInt8}{a:Int}(hl:l.length<=1048576000):Z2 (l,a)=some (match Dl (suf l a) with|none=>([],(0,false))|some (s,_)=>(s,(a+2+s.length,true))):=Zvk hl (Zt3 hl)
theorem Zqm {l:List UInt8}{a:Int}(hl:l.length<=1048576000):Y6 (l,a)=some (match Dl (suf l a) with|none=>([],(0,false))|some (s,_)=>(s,(a+2+s.length,true))):=Zvk hl (Zh2 hl)
def Rd (l:List UInt8) (a:Int) (t:List UInt8):Prop:=0<=a/\a<=l.length/\suf l a=t
theorem Rd.nat {l t:List UInt8}{a:Int}(h:Rd l a t):∃k:Nat,a=k/\k<=l.length/\t=l.drop k:=by
 obtain⟨h0,h1,h2⟩:=h;obtain⟨k,rfl⟩:=Kdd h0;exact⟨k,rfl,by omega,by rw[<-h2,O6]⟩
theorem Rd.mk {l:List UInt8}{k:Nat}(h:k<=l.length):Rd l k (l.drop k):=⟨by omega,by omega,O6 l k⟩
theorem Rd.len {l t:List UInt8}{a:Int}(h:Rd l a t):a+t.length=l.length:=by
 obtain⟨k,rfl,h1,rfl⟩:=h.nat;rw[Kia];omega
theorem Rd.app {l u t:List UInt8}{a:Int}(h:Rd l a (u++t)):Rd l (a+u.length) t:=by
 have hl:=h.len;obtain⟨k,rfl,h1,h2⟩:=h.nat;have:t=l.drop (k+u.length):=by
  rw[<-Kvc,<-h2,Kze]
 rw[this,show (k:Int)+(u.length:Int)=((k+u.length:Nat):Int) by omega];refine Rd.mk ?_;rw[Kab]at hl;omega
def RdR {α:Type}(l:List UInt8) (z:α) (o:Option (α×Int×Bool)) (p:Option (α×List UInt8)) (a:Int):Prop:=match p with
 | none=>o=some (z,(a,true))
 | some (v,q)=>∃b,o=some (v,(b,false))/\Rd l b q
theorem Ymg {s:List UInt8}(h:s.length<=60):((M4 s).length:Int)=2+s.length:=by
 unfold M4;rw[if_pos h];simp [Em];omega
theorem Zvl {F:List UInt8×Int->Option (List UInt8×Int×Bool)}{l t:List UInt8}{a:Int}(hF:F (l,a)=some (match Dl (suf l a) with|none=>([],(0,false))|some (s,_)=>(s,(a+2+s.length,true)))) (h:Rd l a t) :
  RdR l [] (bnd (F (l,a)) (fun z1=>(cnd false (some ([],(a,true))) (cnd (Ah z1.2.2) (some ([],(a,true))) (some (z1.1,(z1.2.1,false))))))) (Dl t) a:=by
 rw[hF,h.2.2];cases hp:Dl t with
 | none=>rfl
 | some v =>
  obtain⟨s,q⟩:=v;obtain⟨e,hs⟩:=Re hp;subst e;refine⟨_,rfl, ?_⟩;have:=h.app;rw[Ymg hs]at this;show Rd l (a+2+(s.length:Int)) q;rw[show a+2+(s.length:Int)=a+(2+s.length) by omega];exact this
theorem Zkn {l t:List UInt8}{a:Int}(hl:l.length<=1048576000) (h:Rd l a t):RdR l [] (J4 (l,(a,false))) (Dl t) a:=Zvl (F:=Z2) (Zt2 hl) h
theorem Zh4 {l t:List UInt8}{a:Int}(hl:l.length<=1048576000) (h:Rd l a t):RdR l [] (J3 (l,(a,false))) (Dl t) a:=Zvl (F:=Y6) (Zqm hl) h
theorem Zko {l:List UInt8}{a:Int}(hl:l.length<=1048576000):J4 (l,(a,true))=some ([],(a,true)):=by
 unfold J4;simp only[Zt2 hl,Ab];rfl
theorem Zcj {l:List UInt8}{a:Int}(hl:l.length<=1048576000):J3 (l,(a,true))=some ([],(a,true)):=by
 unfold J3;simp only[Zqm hl,Ab];rfl
theorem Q7 {l t:List UInt8}{a:Int}(hl:l.length<=1048576000) (h:Rd l a t):RdR l 0 (En (l,(a,false))) (Bn t) a:=by
 have hn:=h.len;unfold En;cases t with
 | nil =>
  show _=_;simp only[Ae];simp only[Ko]at hn;rw[Tb (by simp only[Aj];omega)];rfl
 | cons x q =>
  simp only[Kh]at hn;have hr:Rd l (a+1) q:=(show Rd l a ([x]++q) from h).app;refine⟨a+1, ?_,hr⟩;obtain⟨k,rfl,h1,h2⟩:=h.nat;have hk:k<l.length:=by omega
  rw[Kzb hk]at h2;have hx:x=l[k]:=(List.cons.inj h2).1;simp only[Ae];rw[Qn (by simp only[Aj];omega),Ae,C9 (by omega) (by omega),D7 (by omega) (by omega),show (k:Int)+1-1=k by omega,B9 hk,Ab,<-hx,Ce,He (k:=.i64) (by have:=B2 x;show _<2^63;omega)]
theorem T8 {l:List UInt8}{a:Int}:En (l,(a,true))=some (0,(a,true)):=rfl
theorem Zch {l t:List UInt8}{a:Int}(hl:l.length<=1048576000) (h:Rd l a t):RdR l 0 (F3 (l,(a,false))) (Bn t) a:=by
 have e:F3 (l,(a,false))=En (l,(a,false)):=by
  unfold F3 En;simp only[Ae];rw[A3 h.1,Ae]
 rw[e];exact Q7 hl h
theorem Wy {l:List UInt8}{a:Int}:F3 (l,(a,true))=some (0,(a,true)):=rfl
def RdW {α:Type}(l:List UInt8) (o:Option (α×Int×Bool)) (p:Option (α×List UInt8)):Prop:=match p with
 | none=>∃v b,o=some (v,(b,true))
 | some (v,q)=>∃b,o=some (v,(b,false))/\Rd l b q
theorem Znq {F:List UInt8×Int×Bool->Option (Int×Int×Bool)}{G:List UInt8×Int×Bool->Option (List UInt8×Int×Bool)}{l t:List UInt8}{a:Int}(hF:∀{a:Int}{t:List UInt8},Rd l a t->RdR l 0 (F (l,(a,false))) (Bn t) a) (hG:∀{a:Int}{t:List UInt8},Rd l a t->RdR l [] (G (l,(a,false))) (Dl t) a) (hB:∀{a:Int},G (l,(a,true))=some ([],(a,true))) (h:Rd l a t) :
  RdW l (bnd (F (l,(a,false))) (fun z1=>(bnd (G (l,(z1.2.1,z1.2.2))) (fun z2=>(some ((z1.1,z2.1),(z2.2.1,z2.2.2))))))) (Ej t):=by
 have h1:=hF h;unfold Ej;cases hp:Bn t with
 | none =>
  rw[hp]at h1;rw[show F (l,(a,false))=some (0,(a,true)) from h1];exact⟨(0,[]),a,by simp only[Ab,hB]⟩
 | some v =>
  obtain⟨n,q⟩:=v;rw[hp]at h1;obtain⟨b,h2,h3⟩:=h1;have h4:=hG h3;rw[h2];simp only[Ab];cases hq:Dl q with
  | none =>
   rw[hq]at h4;rw[show G (l,(b,false))=some ([],(b,true)) from h4];exact⟨(n,[]),b,rfl⟩
  | some w =>
   obtain⟨u,r⟩:=w;rw[hq]at h4;obtain⟨c,h5,h6⟩:=h4;rw[h5];exact⟨c,rfl,h6⟩
theorem Zt9 {l t:List UInt8}{a:Int}(hl:l.length<=1048576000) (h:Rd l a t):RdW l (Rz (l,(a,false))) (Ej t):=Znq (F:=En) (G:=J4) (Q7 hl) (Zkn hl) (Zko hl) h
theorem Zcg {l t:List UInt8}{a:Int}(hl:l.length<=1048576000) (h:Rd l a t):RdW l (H7 (l,(a,false))) (Ej t):=Znq (F:=F3) (G:=J3) (Zch hl) (Zh4 hl) (Zcj hl) h
theorem Zqq {l:List UInt8}{a:Int}(hl:l.length<=1048576000):H7 (l,(a,true))=some ((0,[]),(a,true)):=by
 unfold H7;simp only[Wy,Ab,Zcj hl]
def F6 (C:List UInt8×Int×Bool->Option (Cc×Int×Bool)) (l:List UInt8) (b:Int) (bad bit:Bool):Option ((Int×Bool×Int×List UInt8) ⊕ (Row×Int×Bool)):=cnd bit (bnd (C (l,(b,bad))) fun z5=>some (.inl (z5.2.1,(z5.2.2,(z5.1.1,z5.1.2))))) (some (.inl (b,(bad,(0,[])))))
theorem Zyf {C:List UInt8×Int×Bool->Option (Cc×Int×Bool)}{l t:List UInt8}{b:Int}(hC:RdW l (C (l,(b,false))) (Ej t)) (hr:Rd l b t) (bit:Bool):match (if bit=true then Ej t else some ((0,[]),t)) with
  | none=>∃v p,F6 C l b false bit=some (.inl (p,(true,v)))
  | some (v,q)=>∃p,F6 C l b false bit=some (.inl (p,(false,v)))/\Rd l p q:=by
 unfold F6;cases bit with
 | false=>exact⟨b,rfl,hr⟩
 | true =>
  rw[if_pos rfl];simp only[Ag];cases hp:Ej t with
  | none =>
   rw[hp]at hC;obtain⟨v,p,h⟩:=hC;exact⟨v,p,by rw[h];rfl⟩
  | some w =>
   obtain⟨v,q⟩:=w;rw[hp]at hC;obtain⟨p,h1,h2⟩:=hC;exact⟨p,by rw[h1];rfl,h2⟩
theorem Znm {C:List UInt8×Int×Bool->Option (Cc×Int×Bool)}{l:List UInt8}{b:Int}(hC:C (l,(b,true))=some ((0,[]),(b,true))) (bit:Bool):F6 C l b true bit=some (.inl (b,(true,(0,[])))):=by
 unfold F6;cases bit with
 | false=>rfl
 | true=>rw[hC];rfl
theorem Zx5 (n:Nat) (h:n<256):Av .i64 (n:Int) 1=((n%2:Nat):Int):=by
 rw[show (1:Int)=((1:Nat):Int) from rfl,Qm (k:=.i64) (by show _<2^63;omega) (by show _<2^63;omega),Nl (j:=1) rfl]
theorem Zx6 (n:Nat) (h:n<256):Av .i64 (n:Int) 2=((n / 2%2*2:Nat):Int):=by
 rw[show (2:Int)=((2:Nat):Int) from rfl,Qm (k:=.i64) (by show _<2^63;omega) (by show _<2^63;omega)];congr 1;have:∀m:Fin 256,m.val&&&2=m.val / 2%2*2:=by decide +kernel
 exact this ⟨n,h⟩
theorem Zm3 {n:Nat}(h:n<256):iEq (Av .i64 (n:Int) 1) 1=decide ((n:Int).toNat%2=1)/\iNe (Av .i64 (n:Int) 1) 0=decide ((n:Int).toNat%2=1)/\iEq (Av .i64 (n:Int) 2) 2=decide ((n:Int).toNat / 2%2=1)/\iNe (Av .i64 (n:Int) 2) 0=decide ((n:Int).toNat / 2%2=1):=by
 rw[Zx5 n h,Zx6 n h];simp only[iEq,iNe,Kxb];refine⟨?_, ?_, ?_, ?_⟩<;>rw[Klc]<;>simp<;>omega
theorem Zdc {t q:List UInt8}{n:Int}(h:Bn t=some (n,q)):∃m:Nat,n=m/\m<256:=by
 cases t with
 | nil=>cases h
 | cons x l =>
  simp only[Bn,Ka,Kb]at h;exact⟨x.toNat,h.1.symm,B2 x⟩
theorem Wa {C:List UInt8×Int×Bool->Option (Cc×Int×Bool)}{l t:List UInt8}{b:Int}{P:Prop} [Decidable P] (hC:RdW l (C (l,(b,false))) (Ej t)) (hr:Rd l b t):((if P then Ej t else some ((0,[]),t))=none->∃v p,F6 C l b false (decide P)=some (.inl (p,(true,v))))/\(∀v q,(if P then Ej t else some ((0,[]),t))=some (v,q)->∃p,F6 C l b false (decide P)=some (.inl (p,(false,v)))/\Rd l p q):=by
 have:=Zyf hC hr (decide P);simp only[decide_eq_true_eq]at this;refine⟨fun h=>?_,fun v q h=>?_⟩<;>rw[h]at this<;>exact this
theorem Yk9 {l t:List UInt8}{a:Int}(hl:l.length<=1048576000) (h:Rd l a t):RdW l (Ps (l,(a,false))) (Eb t):=by
 unfold Ps Eb;have h1:=Zkn hl h;cases hp:Dl t with
 | none =>
  rw[hp]at h1;have e1:J4 (l,(a,false))=some ([],(a,true)):=h1;exact⟨_,_,by simp only[e1,Ab,T8,Ag];rfl⟩
 | some v =>
  obtain⟨key,q1⟩:=v;rw[hp]at h1;obtain⟨b1,e1,r1⟩:=h1;simp only[e1,Ab];have h2:=Q7 hl r1;cases hp2:Bn q1 with
  | none =>
   rw[hp2]at h2;have e2:En (l,(b1,false))=some (0,(b1,true)):=h2;exact⟨_,_,by simp only[e2,Ab,T8,Ag];rfl⟩
  | some w =>
   obtain⟨has,q2⟩:=w;rw[hp2]at h2;obtain⟨b2,e2,r2⟩:=h2;simp only[e2,Ab];have h3:=Q7 hl r2;cases hp3:Bn q2 with
   | none =>
    rw[hp3]at h3;have e3:En (l,(b2,false))=some (0,(b2,true)):=h3;exact⟨_,_,by simp only[e3,Ab,Ag];rfl⟩
   | some u =>
    obtain⟨aside,q3⟩:=u;rw[hp3]at h3;obtain⟨b3,e3,r3⟩:=h3;simp only[e3,Ab,Ae];obtain⟨m,rfl,hm⟩:=Zdc hp2;obtain⟨t1,t2,t3,t4⟩:=Zm3 hm;have ea:iEq aside 1=decide (aside=1):=K4 _ _;by_cases ha:1<aside
    ·rw[if_pos ha];exact⟨_,_,by simp only[Dp ha,Bd,Ae,A2];rfl⟩
    ·rw[if_neg ha];have hO:=Wa (C:=Rz) (P:=(m:Int).toNat%2=1) (Zt9 hl r3) r3;unfold F6 at hO;simp only[Er (show aside<=1 by omega),Cp,Ag,Di,Cx,Ab,t1,t3,ea];unfold T2;cases ho:(if (m:Int).toNat%2=1 then Ej q3 else some ((0,[]),q3)) with
     | none =>
      obtain⟨v4,p4,e4⟩:=hO.1 ho;exact⟨_,_,by simp only[e4,A2,Bd,Ae];rfl⟩
     | some w4 =>
      obtain⟨old,q4⟩:=w4;obtain⟨b4,e4,r4⟩:=hO.2 _ _ ho;have hN:=Wa (C:=Rz) (P:=(m:Int).toNat / 2%2=1) (Zt9 hl r4) r4;unfold F6 at hN;simp only[e4,A2,Cp,Ag];unfold T1;cases hn:(if (m:Int).toNat / 2%2=1 then Ej q4 else some ((0,[]),q4)) with
      | none =>
       obtain⟨v5,p5,e5⟩:=hN.1 hn;exact⟨_,_,by simp only[e5,A2];rfl⟩
      | some w5 =>
       obtain⟨new,q5⟩:=w5;obtain⟨b5,e5,r5⟩:=hN.2 _ _ hn;exact⟨b5,by simp only[e5,A2],r5⟩
theorem Yla {l:List UInt8}{a:Int}(hl:l.length<=1048576000):Ps (l,(a,true))=some (([],((0,[]),((0,[]),(0,false)))),(a,true)):=by
 unfold Ps;simp only[Zko hl,T8,Ab,Ag];rfl
theorem Zf5:iNe (Av .i64 0 1) 0=false/\iNe (Av .i64 0 2) 0=false:=by decide +kernel
theorem Znl {C:List UInt8×Int×Bool->Option (Cc×Int×Bool)}{l t:List UInt8}{b:Int}{P:Prop} [Decidable P] (hC:RdW l (C (l,(b,false))) (Ej t)) (hr:Rd l b t):∃p f v,F6 C l b false (decide P)=some (.inl (p,(f,v)))/\(f=false->∃q,Rd l p q):=by
 have h:=Wa (P:=P) hC hr;cases hp:(if P then Ej t else some ((0,[]),t)) with
 | none =>
  obtain⟨v,p,e⟩:=h.1 hp;exact⟨p,true,v,e,fun h=>by cases h⟩
 | some w =>
  obtain⟨p,e,r⟩:=h.2 w.1 w.2 hp;exact⟨p,false,w.1,e,fun _=>⟨_,r⟩⟩
theorem Yhl {l t:List UInt8}{a:Int}(hl:l.length<=1048576000) (h:Rd l a t):RdW l (Pn (l,(a,false))) (Ex t):=by
 unfold Pn Ex Eb;have h1:=Zh4 hl h;cases hp:Dl t with
 | none =>
  rw[hp]at h1;have e1:J3 (l,(a,false))=some ([],(a,true)):=h1;exact⟨_,_,by simp only[e1,Ab,Wy,Zf5,Ae,A2,Ag];rfl⟩
 | some v =>
  obtain⟨key,q1⟩:=v;rw[hp]at h1;obtain⟨b1,e1,r1⟩:=h1;simp only[e1,Ab];have h2:=Zch hl r1;cases hp2:Bn q1 with
  | none =>
   rw[hp2]at h2;have e2:F3 (l,(b1,false))=some (0,(b1,true)):=h2;exact⟨_,_,by simp only[e2,Ab,Wy,Zf5,Ae,A2,Ag];rfl⟩
  | some w =>
   obtain⟨has,q2⟩:=w;rw[hp2]at h2;obtain⟨b2,e2,r2⟩:=h2;simp only[e2,Ab];obtain⟨m,rfl,hm⟩:=Zdc hp2;obtain⟨t1,t2,t3,t4⟩:=Zm3 hm;have bad:∀b,_:=fun b=>Znm (C:=H7) (l:=l) (b:=b) (Zqq hl);unfold F6 at bad;have h3:=Zch hl r2;cases hp3:Bn q2 with
   | none =>
    rw[hp3]at h3;have e3:F3 (l,(b2,false))=some (0,(b2,true)):=h3;exact⟨_,_,by simp only[e3,Ab,t2,t4,bad,A2,Ag];rfl⟩
   | some u =>
    obtain⟨aside,q3⟩:=u;rw[hp3]at h3;obtain⟨b3,e3,r3⟩:=h3;simp only[e3,Ab,t2,t4];by_cases ha:1<aside
    ·rw[if_pos ha];obtain⟨p4,f4,v4,e4,k4⟩:=Znl (C:=H7) (P:=(m:Int).toNat%2=1) (Zcg hl r3) r3;unfold F6 at e4;simp only[e4,A2];cases f4 with
     | true=>exact⟨_,_,by simp only[bad,A2,Ag];rfl⟩
     | false =>
      obtain⟨q4,r4⟩:=k4 rfl;obtain⟨p5,f5,v5,e5,k5⟩:=Znl (C:=H7) (P:=(m:Int).toNat / 2%2=1) (Zcg hl r4) r4;unfold F6 at e5;simp only[e5,A2,Dp ha,Ag];cases f5 with
      | true=>exact⟨_,_,rfl⟩
      | false=>exact⟨_,_,rfl⟩
    ·rw[if_neg ha];have hO:=Wa (C:=H7) (P:=(m:Int).toNat%2=1) (Zcg hl r3) r3;unfold F6 at hO;unfold T2;cases ho:(if (m:Int).toNat%2=1 then Ej q3 else some ((0,[]),q3)) with
     | none =>
      obtain⟨v4,p4,e4⟩:=hO.1 ho;exact⟨_,_,by simp only[e4,A2,bad,Ag];rfl⟩
     | some w4 =>
      obtain⟨old,q4⟩:=w4;obtain⟨b4,e4,r4⟩:=hO.2 _ _ ho;have hN:=Wa (C:=H7) (P:=(m:Int).toNat / 2%2=1) (Zcg hl r4) r4;unfold F6 at hN;simp only[e4,A2];unfold T1;cases hn:(if (m:Int).toNat / 2%2=1 then Ej q4 else some ((0,[]),q4)) with
      | none =>
       obtain⟨v5,p5,e5⟩:=hN.1 hn;exact⟨_,_,by simp only[e5,A2,Ag];rfl⟩
      | some w5 =>
       obtain⟨new,q5⟩:=w5;obtain⟨b5,e5,r5⟩:=hN.2 _ _ hn;have hk:key.length<9223372036854775807:=by have:=(Re hp).2;omega
       have e6:L0 (key,((old.1,old.2),((new.1,new.2),((m:Int),decide (aside=1)))))=some (C3 (key,old,new,(m:Int),decide (aside=1))):=Zh3 (r:=(key,old,new,(m:Int),decide (aside=1))) hk;simp only[e5,A2,Ae,Er (show aside<=1 by omega),K4,e6,Ab];cases hr:C3 (key,old,new,(m:Int),decide (aside=1)) with
       | false=>exact⟨_,_,rfl⟩
       | true=>exact⟨b5,rfl,r5⟩
end
end Go.Vs
