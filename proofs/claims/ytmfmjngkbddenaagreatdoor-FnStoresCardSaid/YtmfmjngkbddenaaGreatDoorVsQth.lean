import Derived.Test.YtmfmjngkbddenaaGreatDoorVsW5
import Derived.Test.YtmfmjngkbddenaaGreatDoorVsQtg
set_option linter.all false
namespace Go.Vs
noncomputable section
def suf (l:List UInt8) (a:Int):List UInt8:=if a<0 then [] else l.drop a.toNat
theorem W5 (l:List UInt8) (k:Nat):suf l (k:Int)=l.drop k:=by
 unfold suf;rw[if_neg (by omega)];rfl
theorem Ybr {l:List UInt8}{a:Int}(h:a<0):suf l a=[]:=if_pos h
theorem Yry {t:List UInt8}(h:t.length<2):Cp t=none:=by
 match t,h with
 | [],_=>rfl
 | [_],_=>rfl
theorem Yxg (x y:UInt8):iOr .i64 (B7 .i64 (Ai .i64 (y2i x)) 8) (Ai .i64 (y2i y))=((x.toNat*256+y.toNat:Nat):Int):=by
 have h0:=B0 x;have h1:=B0 y;simp only[Cl];rw[Iv (k:=.i64) (by show _<2^63;omega),Iv (k:=.i64) (by show _<2^63;omega)];rw[show B7 .i64 (x.toNat:Int) 8=((x.toNat*2^8:Nat):Int) from Zw (k:=.i64) (s:=8) (by decide) (by show _<2^63;omega)];rw[orc (c:=x.toNat*2^8) (q:=x.toNat) (j:=8) rfl (by omega) (by omega) (by omega)]
theorem Ygc {l:List UInt8}{k:Nat}(h:k+2<=l.length):l.drop k=l[k]'(by omega)::l[k+1]'(by omega)::l.drop (k+2):=by
 rw[Kwb (by omega),Kwb (by omega)]
theorem Zz {l:List UInt8}{a:Int}(hl:l.length<=1048576000):Xr (l,a)=some (match Cp (suf l a) with|none=>(0,(0,false))|some (n,_)=>(n,(a+2,true))):=by
 unfold Xr;have e:A9 .i64 (Ah l) 2=(l.length:Int)-2:=Eh (by simp only[Ak];omega) (by simp only[Ak];omega);simp only[e];by_cases h0:a<0
 ·rw[A5 h0,Ad,Ybr h0];rfl
 rw[A6 (by omega),Ac];obtain⟨k,rfl⟩:=Kpb (show 0<=a by omega);by_cases h:(k:Int)<=(l.length:Int)-2
 ·rw[D7 (by omega),Ac,Br (show k<l.length by omega),Aa,C0 (by omega) (by omega),show (k:Int)+1=((k+1:Nat):Int) by omega,Br (show k+1<l.length by omega),Aa,Yxg,C0 (by omega) (by omega)];rw[W5,Ygc (by omega)];rfl
 ·rw[Dl (by omega),Ad,W5,Yry (by rw[Kma];omega)]
theorem Yvs {F:List UInt8×Int->Option (Int×Int×Bool)}{l:List UInt8}{a:Int}(hl:l.length<=1048576000) (hF:F (l,a)=some (match Cp (suf l a) with|none=>(0,(0,false))|some (n,_)=>(n,(a+2,true)))):(bnd (F (l,a)) (fun z1=>(cnd (Ag
 z1.2.2) (some ([],(0,false))) (cnd (iGt z1.1 60) (some ([],(0,false))) (cnd (iGt z1.1 (A9 .i64 (Ah l) z1.2.1)) (some ([],(0,false))) (chk (De z1.2.1 (Aj .i64
 z1.2.1 z1.1) (Ah l)) (some ((Bp ((nOf (Aj .i64 z1.2.1 z1.1))-(nOf z1.2.1)) (Dr (nOf z1.2.1) l)),((Aj .i64 z1.2.1 z1.1),true)))))))):Option (List UInt8×Int×Bool))=some (match E1 (suf l a) with|none=>([],(0,false))|some (s,_)=>(s,(a+2+s.length,true))):=by
 rw[hF];cases hp:Cp (suf l a) with
 | none=>unfold E1;rw[hp];rfl
 | some v =>
  obtain⟨n,q⟩:=v;have h0:¬a<0:=fun h=>by rw[Ybr h]at hp;cases hp
  obtain⟨k,rfl⟩:=Kpb (show 0<=a by omega);obtain⟨e,n0,n1⟩:=Rk hp;rw[W5]at e;have hk:k+2+q.length=l.length:=by
   have:=congrArg List.length e;simp only[Kma,Kt,Bg,Kf,Ki]at this;omega
  have hq:q=l.drop (k+2):=by
   have:=congrArg (List.drop 2) e;rw[Kad]at this;rw[this];rfl
  unfold E1;simp only[hp,Aa,Au,Ac];by_cases h6:n<=60
  ·rw[D7 (by omega),Ac,Eh (by simp only[Ak];omega) (by simp only[Ak];omega)];by_cases hn:n<=q.length
   ·rw[D7 (by simp only[Ak];omega),Ac,if_pos ⟨h6,hn⟩,C0 (by omega) (by omega),show De ((k:Int)+2) ((k:Int)+2+n) (Ah l)=true from decide_eq_true (by simp only[Ak];omega),Az];have e1:nOf ((k:Int)+2+n)-nOf ((k:Int)+2)=n.toNat:=by unfold nOf;omega
    have e2:nOf ((k:Int)+2)=k+2:=by unfold nOf;omega
    have e3:((q.take n.toNat).length:Int)=n:=by rw[Kua];omega
    rw[e1,e2];simp only[Bp,Dr,<-hq,e3]
   ·rw[Dl (by simp only[Ak];omega),Ad,if_neg (by omega)]
  ·rw[Dl (by omega),Ad,if_neg (by omega)]
theorem Zwi {l:List UInt8}{a:Int}(hl:l.length<=1048576000):Zcj (l,a)=some (match E1 (suf l a) with|none=>([],(0,false))|some (s,_)=>(s,(a+2+s.length,true))):=Yvs hl (Zz hl)
def Rd (l:List UInt8) (a:Int) (t:List UInt8):Prop:=0<=a/\a<=l.length/\suf l a=t
theorem Rd.nat {l t:List UInt8}{a:Int}(h:Rd l a t):∃k:Nat,a=k/\k<=l.length/\t=l.drop k:=by
 obtain⟨h0,h1,h2⟩:=h;obtain⟨k,rfl⟩:=Kpb h0;exact⟨k,rfl,by omega,by rw[<-h2,W5]⟩
theorem Rd.mk {l:List UInt8}{k:Nat}(h:k<=l.length):Rd l k (l.drop k):=⟨by omega,by omega,W5 l k⟩
theorem Rd.len {l t:List UInt8}{a:Int}(h:Rd l a t):a+t.length=l.length:=by
 obtain⟨k,rfl,h1,rfl⟩:=h.nat;rw[Kma];omega
theorem Rd.app {l u t:List UInt8}{a:Int}(h:Rd l a (u++t)):Rd l (a+u.length) t:=by
 have hl:=h.len;obtain⟨k,rfl,h1,h2⟩:=h.nat;have:t=l.drop (k+u.length):=by
  rw[<-Kad,<-h2,Kfe]
 rw[this,show (k:Int)+(u.length:Int)=((k+u.length:Nat):Int) by omega];refine Rd.mk ?_;rw[Kt]at hl;omega
def RdR {α:Type}(l:List UInt8) (z:α) (o:Option (α×Int×Bool)) (p:Option (α×List UInt8)) (a:Int):Prop:=match p with
 | none=>o=some (z,(a,true))
 | some (v,q)=>∃b,o=some (v,(b,false))/\Rd l b q
theorem Yvq {s:List UInt8}(h:s.length<=60):((Gk s).length:Int)=2+s.length:=by
 unfold Gk;rw[if_pos h];simp [Bg];omega
theorem Yvt {F:List UInt8×Int->Option (List UInt8×Int×Bool)}{l t:List UInt8}{a:Int}(hF:F (l,a)=some (match E1 (suf l a) with|none=>([],(0,false))|some (s,_)=>(s,(a+2+s.length,true)))) (h:Rd l a t) :
  RdR l [] (bnd (F (l,a)) (fun z1=>(cnd false (some ([],(a,true))) (cnd (Ag z1.2.2) (some ([],(a,true))) (some (z1.1,(z1.2.1,false))))))) (E1 t) a:=by
 rw[hF,h.2.2];cases hp:E1 t with
 | none=>rfl
 | some v =>
  obtain⟨s,q⟩:=v;obtain⟨e,hs⟩:=W9 hp;subst e;refine⟨_,rfl, ?_⟩;have:=h.app;rw[Yvq hs]at this;show Rd l (a+2+(s.length:Int)) q;rw[show a+2+(s.length:Int)=a+(2+s.length) by omega];exact this
theorem Zmr {l t:List UInt8}{a:Int}(hl:l.length<=1048576000) (h:Rd l a t):RdR l [] (Ml (l,(a,false))) (E1 t) a:=Yvt (F:=Zcj) (Zwi hl) h
theorem Zf2 {l:List UInt8}{a:Int}(hl:l.length<=1048576000):Ml (l,(a,true))=some ([],(a,true)):=by
 unfold Ml;simp only[Zwi hl,Aa];rfl
theorem Yub {l t:List UInt8}{a:Int}(hl:l.length<=1048576000) (h:Rd l a t):RdR l 0 (Zc1 (l,(a,false))) (Cf t) a:=by
 have hn:=h.len;unfold Zc1;cases t with
 | nil =>
  show _=_;simp only[Ac];simp only[Ki]at hn;rw[Qu (by simp only[Ak];omega)];rfl
 | cons x q =>
  simp only[Kf]at hn;have hr:Rd l (a+1) q:=(show Rd l a ([x]++q) from h).app;refine⟨a+1, ?_,hr⟩;obtain⟨k,rfl,h1,h2⟩:=h.nat;have hk:k<l.length:=by omega
  rw[Kwb hk]at h2;have hx:x=l[k]:=(List.cons.inj h2).1;simp only[Ac];rw[Ol (by simp only[Ak];omega),Ac,C0 (by omega) (by omega),Eh (by omega) (by omega),show (k:Int)+1-1=k by omega,Br hk,Aa,<-hx,Cl,Iv (k:=.i64) (by have:=B0 x;show _<2^63;omega)]
theorem Zf0 {l t:List UInt8}{a:Int}(hl:l.length<=1048576000) (h:Rd l a t):RdR l 0 (G9 (l,(a,false))) (Cf t) a:=by
 have e:G9 (l,(a,false))=Zc1 (l,(a,false)):=by
  unfold G9 Zc1;simp only[Ac];rw[A6 h.1,Ac]
 rw[e];exact Yub hl h
theorem Z1 {l:List UInt8}{a:Int}:G9 (l,(a,true))=some (0,(a,true)):=rfl
def RdW {α:Type}(l:List UInt8) (o:Option (α×Int×Bool)) (p:Option (α×List UInt8)):Prop:=match p with
 | none=>∃v b,o=some (v,(b,true))
 | some (v,q)=>∃b,o=some (v,(b,false))/\Rd l b q
theorem Ye3 {F:List UInt8×Int×Bool->Option (Int×Int×Bool)}{G:List UInt8×Int×Bool->Option (List UInt8×Int×Bool)}{l t:List UInt8}{a:Int}(hF:∀{a:Int}{t:List UInt8},Rd l a t->RdR l 0 (F (l,(a,false))) (Cf t) a) (hG:∀{a:Int}{t:List UInt8},Rd l a t->RdR l [] (G (l,(a,false))) (E1 t) a) (hB:∀{a:Int},G (l,(a,true))=some ([],(a,true))) (h:Rd l a t) :
  RdW l (bnd (F (l,(a,false))) (fun z1=>(bnd (G (l,(z1.2.1,z1.2.2))) (fun z2=>(some ((z1.1,z2.1),(z2.2.1,z2.2.2))))))) (F3 t):=by
 have h1:=hF h;unfold F3;cases hp:Cf t with
 | none =>
  rw[hp]at h1;rw[show F (l,(a,false))=some (0,(a,true)) from h1];exact⟨(0,[]),a,by simp only[Aa,hB]⟩
 | some v =>
  obtain⟨n,q⟩:=v;rw[hp]at h1;obtain⟨b,h2,h3⟩:=h1;have h4:=hG h3;rw[h2];simp only[Aa];cases hq:E1 q with
  | none =>
   rw[hq]at h4;rw[show G (l,(b,false))=some ([],(b,true)) from h4];exact⟨(n,[]),b,rfl⟩
  | some w =>
   obtain⟨u,r⟩:=w;rw[hq]at h4;obtain⟨c,h5,h6⟩:=h4;rw[h5];exact⟨c,rfl,h6⟩
theorem Zfz {l t:List UInt8}{a:Int}(hl:l.length<=1048576000) (h:Rd l a t):RdW l (J1 (l,(a,false))) (F3 t):=Ye3 (F:=G9) (G:=Ml) (Zf0 hl) (Zmr hl) (Zf2 hl) h
theorem Zwo {l:List UInt8}{a:Int}(hl:l.length<=1048576000):J1 (l,(a,true))=some ((0,[]),(a,true)):=by
 unfold J1;simp only[Z1,Aa,Zf2 hl]
def Ip (C:List UInt8×Int×Bool->Option (Ba×Int×Bool)) (l:List UInt8) (b:Int) (bad bit:Bool):Option ((Int×Bool×Int×List UInt8) ⊕ (Row×Int×Bool)):=cnd bit (bnd (C (l,(b,bad))) fun z5=>some (.inl (z5.2.1,(z5.2.2,(z5.1.1,z5.1.2))))) (some (.inl (b,(bad,(0,[])))))
theorem Ye0 {C:List UInt8×Int×Bool->Option (Ba×Int×Bool)}{l t:List UInt8}{b:Int}(hC:RdW l (C (l,(b,false))) (F3 t)) (hr:Rd l b t) (bit:Bool):match (if bit=true then F3 t else some ((0,[]),t)) with
  | none=>∃v p,Ip C l b false bit=some (.inl (p,(true,v)))
  | some (v,q)=>∃p,Ip C l b false bit=some (.inl (p,(false,v)))/\Rd l p q:=by
 unfold Ip;cases bit with
 | false=>exact⟨b,rfl,hr⟩
 | true =>
  rw[if_pos rfl];simp only[Ad];cases hp:F3 t with
  | none =>
   rw[hp]at hC;obtain⟨v,p,h⟩:=hC;exact⟨v,p,by rw[h];rfl⟩
  | some w =>
   obtain⟨v,q⟩:=w;rw[hp]at hC;obtain⟨p,h1,h2⟩:=hC;exact⟨p,by rw[h1];rfl,h2⟩
theorem Zso {C:List UInt8×Int×Bool->Option (Ba×Int×Bool)}{l:List UInt8}{b:Int}(hC:C (l,(b,true))=some ((0,[]),(b,true))) (bit:Bool):Ip C l b true bit=some (.inl (b,(true,(0,[])))):=by
 unfold Ip;cases bit with
 | false=>rfl
 | true=>rw[hC];rfl
theorem Yep (n:Nat) (h:n<256):Aq .i64 (n:Int) 1=((n%2:Nat):Int):=by
 rw[show (1:Int)=((1:Nat):Int) from rfl,Oj (k:=.i64) (by show _<2^63;omega) (by show _<2^63;omega),Mo (j:=1) rfl]
theorem Yeq (n:Nat) (h:n<256):Aq .i64 (n:Int) 2=((n / 2%2*2:Nat):Int):=by
 rw[show (2:Int)=((2:Nat):Int) from rfl,Oj (k:=.i64) (by show _<2^63;omega) (by show _<2^63;omega)];congr 1;have:∀m:Fin 256,m.val&&&2=m.val / 2%2*2:=by decide +kernel
 exact this ⟨n,h⟩
theorem Yes {n:Nat}(h:n<256):iEq (Aq .i64 (n:Int) 1) 1=decide ((n:Int).toNat%2=1)/\iNe (Aq .i64 (n:Int) 1) 0=decide ((n:Int).toNat%2=1)/\iEq (Aq .i64 (n:Int) 2) 2=decide ((n:Int).toNat / 2%2=1)/\iNe (Aq .i64 (n:Int) 2) 0=decide ((n:Int).toNat / 2%2=1):=by
 rw[Yep n h,Yeq n h];simp only[iEq,iNe,Knb];refine⟨?_, ?_, ?_, ?_⟩<;>rw[Kdc]<;>simp<;>omega
theorem Yrt {t q:List UInt8}{n:Int}(h:Cf t=some (n,q)):∃m:Nat,n=m/\m<256:=by
 cases t with
 | nil=>cases h
 | cons x l =>
  simp only[Cf,Ka,Kb]at h;exact⟨x.toNat,h.1.symm,B0 x⟩
theorem Zkh {C:List UInt8×Int×Bool->Option (Ba×Int×Bool)}{l t:List UInt8}{b:Int}{P:Prop} [Decidable P] (hC:RdW l (C (l,(b,false))) (F3 t)) (hr:Rd l b t):((if P then F3 t else some ((0,[]),t))=none->∃v p,Ip C l b false (decide P)=some (.inl (p,(true,v))))/\(∀v q,(if P then F3 t else some ((0,[]),t))=some (v,q)->∃p,Ip C l b false (decide P)=some (.inl (p,(false,v)))/\Rd l p q):=by
 have:=Ye0 hC hr (decide P);simp only[decide_eq_true_eq]at this;refine⟨fun h=>?_,fun v q h=>?_⟩<;>rw[h]at this<;>exact this
theorem Zj8:iNe (Aq .i64 0 1) 0=false/\iNe (Aq .i64 0 2) 0=false:=by decide +kernel
theorem Zsn {C:List UInt8×Int×Bool->Option (Ba×Int×Bool)}{l t:List UInt8}{b:Int}{P:Prop} [Decidable P] (hC:RdW l (C (l,(b,false))) (F3 t)) (hr:Rd l b t):∃p f v,Ip C l b false (decide P)=some (.inl (p,(f,v)))/\(f=false->∃q,Rd l p q):=by
 have h:=Zkh (P:=P) hC hr;cases hp:(if P then F3 t else some ((0,[]),t)) with
 | none =>
  obtain⟨v,p,e⟩:=h.1 hp;exact⟨p,true,v,e,fun h=>by cases h⟩
 | some w =>
  obtain⟨p,e,r⟩:=h.2 w.1 w.2 hp;exact⟨p,false,w.1,e,fun _=>⟨_,r⟩⟩
theorem Yph {l t:List UInt8}{a:Int}(hl:l.length<=1048576000) (h:Rd l a t):RdW l (Rs (l,(a,false))) (Mb t):=by
 unfold Rs Mb Zap;have h1:=Zmr hl h;cases hp:E1 t with
 | none =>
  rw[hp]at h1;have e1:Ml (l,(a,false))=some ([],(a,true)):=h1;exact⟨_,_,by simp only[e1,Aa,Z1,Zj8,Ac,Ar,Ad];rfl⟩
 | some v =>
  obtain⟨key,q1⟩:=v;rw[hp]at h1;obtain⟨b1,e1,r1⟩:=h1;simp only[e1,Aa];have h2:=Zf0 hl r1;cases hp2:Cf q1 with
  | none =>
   rw[hp2]at h2;have e2:G9 (l,(b1,false))=some (0,(b1,true)):=h2;exact⟨_,_,by simp only[e2,Aa,Z1,Zj8,Ac,Ar,Ad];rfl⟩
  | some w =>
   obtain⟨has,q2⟩:=w;rw[hp2]at h2;obtain⟨b2,e2,r2⟩:=h2;simp only[e2,Aa];obtain⟨m,rfl,hm⟩:=Yrt hp2;obtain⟨t1,t2,t3,t4⟩:=Yes hm;have bad:∀b,_:=fun b=>Zso (C:=J1) (l:=l) (b:=b) (Zwo hl);unfold Ip at bad;have h3:=Zf0 hl r2;cases hp3:Cf q2 with
   | none =>
    rw[hp3]at h3;have e3:G9 (l,(b2,false))=some (0,(b2,true)):=h3;exact⟨_,_,by simp only[e3,Aa,t2,t4,bad,Ar,Ad];rfl⟩
   | some u =>
    obtain⟨aside,q3⟩:=u;rw[hp3]at h3;obtain⟨b3,e3,r3⟩:=h3;simp only[e3,Aa,t2,t4];by_cases ha:1<aside
    ·rw[if_pos ha];obtain⟨p4,f4,v4,e4,k4⟩:=Zsn (C:=J1) (P:=(m:Int).toNat%2=1) (Zfz hl r3) r3;unfold Ip at e4;simp only[e4,Ar];cases f4 with
     | true=>exact⟨_,_,by simp only[bad,Ar,Ad];rfl⟩
     | false =>
      obtain⟨q4,r4⟩:=k4 rfl;obtain⟨p5,f5,v5,e5,k5⟩:=Zsn (C:=J1) (P:=(m:Int).toNat / 2%2=1) (Zfz hl r4) r4;unfold Ip at e5;simp only[e5,Ar,Dl ha,Ad];cases f5 with
      | true=>exact⟨_,_,rfl⟩
      | false=>exact⟨_,_,rfl⟩
    ·rw[if_neg ha];have hO:=Zkh (C:=J1) (P:=(m:Int).toNat%2=1) (Zfz hl r3) r3;unfold Ip at hO;unfold Zao;cases ho:(if (m:Int).toNat%2=1 then F3 q3 else some ((0,[]),q3)) with
     | none =>
      obtain⟨v4,p4,e4⟩:=hO.1 ho;exact⟨_,_,by simp only[e4,Ar,bad,Ad];rfl⟩
     | some w4 =>
      obtain⟨old,q4⟩:=w4;obtain⟨b4,e4,r4⟩:=hO.2 _ _ ho;have hN:=Zkh (C:=J1) (P:=(m:Int).toNat / 2%2=1) (Zfz hl r4) r4;unfold Ip at hN;simp only[e4,Ar];unfold Zan;cases hn:(if (m:Int).toNat / 2%2=1 then F3 q4 else some ((0,[]),q4)) with
      | none =>
       obtain⟨v5,p5,e5⟩:=hN.1 hn;exact⟨_,_,by simp only[e5,Ar,Ad];rfl⟩
      | some w5 =>
       obtain⟨new,q5⟩:=w5;obtain⟨b5,e5,r5⟩:=hN.2 _ _ hn;have hk:key.length<9223372036854775807:=by have:=(W9 hp).2;omega
       have e6:Ln (key,((old.1,old.2),((new.1,new.2),((m:Int),decide (aside=1)))))=some (Bn (key,old,new,(m:Int),decide (aside=1))):=Zfy (r:=(key,old,new,(m:Int),decide (aside=1))) hk;simp only[e5,Ar,Ac,D7 (show aside<=1 by omega),K3,e6,Aa];cases hr:Bn (key,old,new,(m:Int),decide (aside=1)) with
       | false=>exact⟨_,_,rfl⟩
       | true=>exact⟨b5,rfl,r5⟩
end
end Go.Vs
