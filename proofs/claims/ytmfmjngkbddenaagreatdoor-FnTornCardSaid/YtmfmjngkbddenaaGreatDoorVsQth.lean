import Derived.Test.YtmfmjngkbddenaaGreatDoorVsQtg
set_option linter.all false
namespace Go.Vs
noncomputable section
def suf (l:List UInt8) (a:Int):List UInt8:=if a<0 then [] else l.drop a.toNat
theorem Xf (l:List UInt8) (k:Nat):suf l (k:Int)=l.drop k:=by
 unfold suf;rw[if_neg (by omega)];rfl
theorem Yb4 {l:List UInt8}{a:Int}(h:a<0):suf l a=[]:=if_pos h
theorem Ysi {t:List UInt8}(h:t.length<2):Cu t=none:=by
 match t,h with
 | [],_=>rfl
 | [_],_=>rfl
theorem Yxx (x y:UInt8):iOr .i64 (B9 .i64 (Ai .i64 (y2i x)) 8) (Ai .i64 (y2i y))=((x.toNat*256+y.toNat:Nat):Int):=by
 have h0:=B1 x;have h1:=B1 y;simp only[Cp];rw[Iy (k:=.i64) (by show _<2^63;omega),Iy (k:=.i64) (by show _<2^63;omega)];rw[show B9 .i64 (x.toNat:Int) 8=((x.toNat*2^8:Nat):Int) from Z7 (k:=.i64) (s:=8) (by decide) (by show _<2^63;omega)];rw[orc (c:=x.toNat*2^8) (q:=x.toNat) (j:=8) rfl (by omega) (by omega) (by omega)]
theorem Ygr {l:List UInt8}{k:Nat}(h:k+2<=l.length):l.drop k=l[k]'(by omega)::l[k+1]'(by omega)::l.drop (k+2):=by
 rw[Kwb (by omega),Kwb (by omega)]
theorem Zaa {l:List UInt8}{a:Int}(hl:l.length<=1048576000):X6 (l,a)=some (match Cu (suf l a) with|none=>(0,(0,false))|some (n,_)=>(n,(a+2,true))):=by
 unfold X6;have e:Ba .i64 (Ah l) 2=(l.length:Int)-2:=Ei (by simp only[Ak];omega) (by simp only[Ak];omega);simp only[e];by_cases h0:a<0
 ·rw[A3 h0,Ad,Yb4 h0];rfl
 rw[A6 (by omega),Ac];obtain⟨k,rfl⟩:=Kob (show 0<=a by omega);by_cases h:(k:Int)<=(l.length:Int)-2
 ·rw[Eb (by omega),Ac,Bp (show k<l.length by omega),Aa,Cz (by omega) (by omega),show (k:Int)+1=((k+1:Nat):Int) by omega,Bp (show k+1<l.length by omega),Aa,Yxx,Cz (by omega) (by omega)];rw[Xf,Ygr (by omega)];rfl
 rw[Dq (by omega),Ad,Xf,Ysi (by rw[Kma];omega)]
theorem Yv8 {F:List UInt8×Int->Option (Int×Int×Bool)}{l:List UInt8}{a:Int}(hl:l.length<=1048576000) (hF:F (l,a)=some (match Cu (suf l a) with|none=>(0,(0,false))|some (n,_)=>(n,(a+2,true)))):(bnd (F (l,a)) (fun z1=>(cnd (Ag
 z1.2.2) (some ([],(0,false))) (cnd (iGt z1.1 60) (some ([],(0,false))) (cnd (iGt z1.1 (Ba .i64 (Ah l) z1.2.1)) (some ([],(0,false))) (chk (Di z1.2.1 (Aj .i64
 z1.2.1 z1.1) (Ah l)) (some ((Br ((nOf (Aj .i64 z1.2.1 z1.1))-(nOf z1.2.1)) (Dw (nOf z1.2.1) l)),((Aj .i64 z1.2.1 z1.1),true)))))))):Option (List UInt8×Int×Bool))=some (match Ez (suf l a) with|none=>([],(0,false))|some (s,_)=>(s,(a+2+s.length,true))):=by
 rw[hF];cases hp:Cu (suf l a) with
 | none=>unfold Ez;rw[hp];rfl
 | some v =>
  obtain⟨n,q⟩:=v;have h0:¬a<0:=fun h=>by rw[Yb4 h]at hp;cases hp
  obtain⟨k,rfl⟩:=Kob (show 0<=a by omega);obtain⟨e,n0,n1⟩:=Rq hp;rw[Xf]at e;have hk:k+2+q.length=l.length:=by
   have:=congrArg List.length e;simp only[Kma,Kt,Bh,Kf,Ki]at this;omega
  have hq:q=l.drop (k+2):=by
   have:=congrArg (List.drop 2) e;rw[Kbd]at this;rw[this];rfl
  unfold Ez;simp only[hp,Aa,Av,Ac];by_cases h6:n<=60
  ·rw[Eb (by omega),Ac,Ei (by simp only[Ak];omega) (by simp only[Ak];omega)];by_cases hn:n<=q.length
   ·rw[Eb (by simp only[Ak];omega),Ac,if_pos ⟨h6,hn⟩,Cz (by omega) (by omega),show Di ((k:Int)+2) ((k:Int)+2+n) (Ah l)=true from decide_eq_true (by simp only[Ak];omega),Az];have e1:nOf ((k:Int)+2+n)-nOf ((k:Int)+2)=n.toNat:=by unfold nOf;omega
    have e2:nOf ((k:Int)+2)=k+2:=by unfold nOf;omega
    have e3:((q.take n.toNat).length:Int)=n:=by rw[Kua];omega
    rw[e1,e2];simp only[Br,Dw,<-hq,e3]
   rw[Dq (by simp only[Ak];omega),Ad,if_neg (by omega)]
  rw[Dq (by omega),Ad,if_neg (by omega)]
theorem Zwu {l:List UInt8}{a:Int}(hl:l.length<=1048576000):Zcs (l,a)=some (match Ez (suf l a) with|none=>([],(0,false))|some (s,_)=>(s,(a+2+s.length,true))):=Yv8 hl (Zaa hl)
def Rd (l:List UInt8) (a:Int) (t:List UInt8):Prop:=0<=a/\a<=l.length/\suf l a=t
theorem Rd.nat {l t:List UInt8}{a:Int}(h:Rd l a t):∃k:Nat,a=k/\k<=l.length/\t=l.drop k:=by
 obtain⟨h0,h1,h2⟩:=h;obtain⟨k,rfl⟩:=Kob h0;exact⟨k,rfl,by omega,by rw[<-h2,Xf]⟩
theorem Rd.mk {l:List UInt8}{k:Nat}(h:k<=l.length):Rd l k (l.drop k):=⟨by omega,by omega,Xf l k⟩
theorem Rd.len {l t:List UInt8}{a:Int}(h:Rd l a t):a+t.length=l.length:=by
 obtain⟨k,rfl,h1,rfl⟩:=h.nat;rw[Kma];omega
theorem Rd.app {l u t:List UInt8}{a:Int}(h:Rd l a (u++t)):Rd l (a+u.length) t:=by
 have hl:=h.len;obtain⟨k,rfl,h1,h2⟩:=h.nat;have:t=l.drop (k+u.length):=by
  rw[<-Kbd,<-h2,Kge]
 rw[this,show (k:Int)+(u.length:Int)=((k+u.length:Nat):Int) by omega];refine Rd.mk ?_;rw[Kt]at hl;omega
def RdR {α:Type}(l:List UInt8) (z:α) (o:Option (α×Int×Bool)) (p:Option (α×List UInt8)) (a:Int):Prop:=match p with
 | none=>o=some (z,(a,true))
 | some (v,q)=>∃b,o=some (v,(b,false))/\Rd l b q
theorem Yv6 {s:List UInt8}(h:s.length<=60):((Gl s).length:Int)=2+s.length:=by
 unfold Gl;rw[if_pos h];simp [Bh];omega
theorem Yv9 {F:List UInt8×Int->Option (List UInt8×Int×Bool)}{l t:List UInt8}{a:Int}(hF:F (l,a)=some (match Ez (suf l a) with|none=>([],(0,false))|some (s,_)=>(s,(a+2+s.length,true)))) (h:Rd l a t) :
  RdR l [] (bnd (F (l,a)) (fun z1=>(cnd false (some ([],(a,true))) (cnd (Ag z1.2.2) (some ([],(a,true))) (some (z1.1,(z1.2.1,false))))))) (Ez t) a:=by
 rw[hF,h.2.2];cases hp:Ez t with
 | none=>rfl
 | some v =>
  obtain⟨s,q⟩:=v;obtain⟨e,hs⟩:=Xk hp;subst e;refine⟨_,rfl, ?_⟩;have:=h.app;rw[Yv6 hs]at this;show Rd l (a+2+(s.length:Int)) q;rw[show a+2+(s.length:Int)=a+(2+s.length) by omega];exact this
theorem Zm7 {l t:List UInt8}{a:Int}(hl:l.length<=1048576000) (h:Rd l a t):RdR l [] (Mo (l,(a,false))) (Ez t) a:=Yv9 (F:=Zcs) (Zwu hl) h
theorem Zgc {l:List UInt8}{a:Int}(hl:l.length<=1048576000):Mo (l,(a,true))=some ([],(a,true)):=by
 unfold Mo;simp only[Zwu hl,Aa];rfl
theorem Yus {l t:List UInt8}{a:Int}(hl:l.length<=1048576000) (h:Rd l a t):RdR l 0 (Zda (l,(a,false))) (Ci t) a:=by
 have hn:=h.len;unfold Zda;cases t with
 | nil =>
  show _=_;simp only[Ac];simp only[Ki]at hn;rw[Qz (by simp only[Ak];omega)];rfl
 | cons x q =>
  simp only[Kf]at hn;have hr:Rd l (a+1) q:=(show Rd l a ([x]++q) from h).app;refine⟨a+1, ?_,hr⟩;obtain⟨k,rfl,h1,h2⟩:=h.nat;have hk:k<l.length:=by omega
  rw[Kwb hk]at h2;have hx:x=l[k]:=(List.cons.inj h2).1;simp only[Ac];rw[Oo (by simp only[Ak];omega),Ac,Cz (by omega) (by omega),Ei (by omega) (by omega),show (k:Int)+1-1=k by omega,Bp hk,Aa,<-hx,Cp,Iy (k:=.i64) (by have:=B1 x;show _<2^63;omega)]
theorem Zga {l t:List UInt8}{a:Int}(hl:l.length<=1048576000) (h:Rd l a t):RdR l 0 (Hc (l,(a,false))) (Ci t) a:=by
 have e:Hc (l,(a,false))=Zda (l,(a,false)):=by
  unfold Hc Zda;simp only[Ac];rw[A6 h.1,Ac]
 rw[e];exact Yus hl h
theorem Zac {l:List UInt8}{a:Int}:Hc (l,(a,true))=some (0,(a,true)):=rfl
def RdW {α:Type}(l:List UInt8) (o:Option (α×Int×Bool)) (p:Option (α×List UInt8)):Prop:=match p with
 | none=>∃v b,o=some (v,(b,true))
 | some (v,q)=>∃b,o=some (v,(b,false))/\Rd l b q
theorem Yfi {F:List UInt8×Int×Bool->Option (Int×Int×Bool)}{G:List UInt8×Int×Bool->Option (List UInt8×Int×Bool)}{l t:List UInt8}{a:Int}(hF:∀{a:Int}{t:List UInt8},Rd l a t->RdR l 0 (F (l,(a,false))) (Ci t) a) (hG:∀{a:Int}{t:List UInt8},Rd l a t->RdR l [] (G (l,(a,false))) (Ez t) a) (hB:∀{a:Int},G (l,(a,true))=some ([],(a,true))) (h:Rd l a t) :
  RdW l (bnd (F (l,(a,false))) (fun z1=>(bnd (G (l,(z1.2.1,z1.2.2))) (fun z2=>(some ((z1.1,z2.1),(z2.2.1,z2.2.2))))))) (F3 t):=by
 have h1:=hF h;unfold F3;cases hp:Ci t with
 | none =>
  rw[hp]at h1;rw[show F (l,(a,false))=some (0,(a,true)) from h1];exact⟨(0,[]),a,by simp only[Aa,hB]⟩
 | some v =>
  obtain⟨n,q⟩:=v;rw[hp]at h1;obtain⟨b,h2,h3⟩:=h1;have h4:=hG h3;rw[h2];simp only[Aa];cases hq:Ez q with
  | none =>
   rw[hq]at h4;rw[show G (l,(b,false))=some ([],(b,true)) from h4];exact⟨(n,[]),b,rfl⟩
  | some w =>
   obtain⟨u,r⟩:=w;rw[hq]at h4;obtain⟨c,h5,h6⟩:=h4;rw[h5];exact⟨c,rfl,h6⟩
theorem Zf9 {l t:List UInt8}{a:Int}(hl:l.length<=1048576000) (h:Rd l a t):RdW l (J3 (l,(a,false))) (F3 t):=Yfi (F:=Hc) (G:=Mo) (Zga hl) (Zm7 hl) (Zgc hl) h
theorem Zw0 {l:List UInt8}{a:Int}(hl:l.length<=1048576000):J3 (l,(a,true))=some ((0,[]),(a,true)):=by
 unfold J3;simp only[Zac,Aa,Zgc hl]
def Iu (C:List UInt8×Int×Bool->Option (Bb×Int×Bool)) (l:List UInt8) (b:Int) (bad bit:Bool):Option ((Int×Bool×Int×List UInt8) ⊕ (Row×Int×Bool)):=cnd bit (bnd (C (l,(b,bad))) fun z5=>some (.inl (z5.2.1,(z5.2.2,(z5.1.1,z5.1.2))))) (some (.inl (b,(bad,(0,[])))))
theorem Yff {C:List UInt8×Int×Bool->Option (Bb×Int×Bool)}{l t:List UInt8}{b:Int}(hC:RdW l (C (l,(b,false))) (F3 t)) (hr:Rd l b t) (bit:Bool):match (if bit=true then F3 t else some ((0,[]),t)) with
  | none=>∃v p,Iu C l b false bit=some (.inl (p,(true,v)))
  | some (v,q)=>∃p,Iu C l b false bit=some (.inl (p,(false,v)))/\Rd l p q:=by
 unfold Iu;cases bit with
 | false=>exact⟨b,rfl,hr⟩
 | true =>
  rw[if_pos rfl];simp only[Ad];cases hp:F3 t with
  | none =>
   rw[hp]at hC;obtain⟨v,p,h⟩:=hC;exact⟨v,p,by rw[h];rfl⟩
  | some w =>
   obtain⟨v,q⟩:=w;rw[hp]at hC;obtain⟨p,h1,h2⟩:=hC;exact⟨p,by rw[h1];rfl,h2⟩
theorem Zs6 {C:List UInt8×Int×Bool->Option (Bb×Int×Bool)}{l:List UInt8}{b:Int}(hC:C (l,(b,true))=some ((0,[]),(b,true))) (bit:Bool):Iu C l b true bit=some (.inl (b,(true,(0,[])))):=by
 unfold Iu;cases bit with
 | false=>rfl
 | true=>rw[hC];rfl
theorem Ye4 (n:Nat) (h:n<256):Aq .i64 (n:Int) 1=((n%2:Nat):Int):=by
 rw[show (1:Int)=((1:Nat):Int) from rfl,Om (k:=.i64) (by show _<2^63;omega) (by show _<2^63;omega),Mr (j:=1) rfl]
theorem Ye5 (n:Nat) (h:n<256):Aq .i64 (n:Int) 2=((n / 2%2*2:Nat):Int):=by
 rw[show (2:Int)=((2:Nat):Int) from rfl,Om (k:=.i64) (by show _<2^63;omega) (by show _<2^63;omega)];congr 1;have:∀m:Fin 256,m.val&&&2=m.val / 2%2*2:=by decide +kernel
 exact this ⟨n,h⟩
theorem Ye7 {n:Nat}(h:n<256):iEq (Aq .i64 (n:Int) 1) 1=decide ((n:Int).toNat%2=1)/\iNe (Aq .i64 (n:Int) 1) 0=decide ((n:Int).toNat%2=1)/\iEq (Aq .i64 (n:Int) 2) 2=decide ((n:Int).toNat / 2%2=1)/\iNe (Aq .i64 (n:Int) 2) 0=decide ((n:Int).toNat / 2%2=1):=by
 rw[Ye4 n h,Ye5 n h];simp only[iEq,iNe,Knb];refine⟨?_, ?_, ?_, ?_⟩<;>rw[Kdc]<;>simp<;>omega
theorem Ysd {t q:List UInt8}{n:Int}(h:Ci t=some (n,q)):∃m:Nat,n=m/\m<256:=by
 cases t with
 | nil=>cases h
 | cons x l =>
  simp only[Ci,Ka,Kb]at h;exact⟨x.toNat,h.1.symm,B1 x⟩
theorem Zks {C:List UInt8×Int×Bool->Option (Bb×Int×Bool)}{l t:List UInt8}{b:Int}{P:Prop} [Decidable P] (hC:RdW l (C (l,(b,false))) (F3 t)) (hr:Rd l b t):((if P then F3 t else some ((0,[]),t))=none->∃v p,Iu C l b false (decide P)=some (.inl (p,(true,v))))/\(∀v q,(if P then F3 t else some ((0,[]),t))=some (v,q)->∃p,Iu C l b false (decide P)=some (.inl (p,(false,v)))/\Rd l p q):=by
 have:=Yff hC hr (decide P);simp only[decide_eq_true_eq]at this;refine⟨fun h=>?_,fun v q h=>?_⟩<;>rw[h]at this<;>exact this
theorem Zkj:iNe (Aq .i64 0 1) 0=false/\iNe (Aq .i64 0 2) 0=false:=by decide +kernel
theorem Zs5 {C:List UInt8×Int×Bool->Option (Bb×Int×Bool)}{l t:List UInt8}{b:Int}{P:Prop} [Decidable P] (hC:RdW l (C (l,(b,false))) (F3 t)) (hr:Rd l b t):∃p f v,Iu C l b false (decide P)=some (.inl (p,(f,v)))/\(f=false->∃q,Rd l p q):=by
 have h:=Zks (P:=P) hC hr;cases hp:(if P then F3 t else some ((0,[]),t)) with
 | none =>
  obtain⟨v,p,e⟩:=h.1 hp;exact⟨p,true,v,e,fun h=>by cases h⟩
 | some w =>
  obtain⟨p,e,r⟩:=h.2 w.1 w.2 hp;exact⟨p,false,w.1,e,fun _=>⟨_,r⟩⟩
theorem Ypz {l t:List UInt8}{a:Int}(hl:l.length<=1048576000) (h:Rd l a t):RdW l (R1 (l,(a,false))) (Md t):=by
 unfold R1 Md Zaz;have h1:=Zm7 hl h;cases hp:Ez t with
 | none =>
  rw[hp]at h1;have e1:Mo (l,(a,false))=some ([],(a,true)):=h1;exact⟨_,_,by simp only[e1,Aa,Zac,Zkj,Ac,Ar,Ad];rfl⟩
 | some v =>
  obtain⟨key,q1⟩:=v;rw[hp]at h1;obtain⟨b1,e1,r1⟩:=h1;simp only[e1,Aa];have h2:=Zga hl r1;cases hp2:Ci q1 with
  | none =>
   rw[hp2]at h2;have e2:Hc (l,(b1,false))=some (0,(b1,true)):=h2;exact⟨_,_,by simp only[e2,Aa,Zac,Zkj,Ac,Ar,Ad];rfl⟩
  | some w =>
   obtain⟨has,q2⟩:=w;rw[hp2]at h2;obtain⟨b2,e2,r2⟩:=h2;simp only[e2,Aa];obtain⟨m,rfl,hm⟩:=Ysd hp2;obtain⟨t1,t2,t3,t4⟩:=Ye7 hm;have bad:∀b,_:=fun b=>Zs6 (C:=J3) (l:=l) (b:=b) (Zw0 hl);unfold Iu at bad;have h3:=Zga hl r2;cases hp3:Ci q2 with
   | none =>
    rw[hp3]at h3;have e3:Hc (l,(b2,false))=some (0,(b2,true)):=h3;exact⟨_,_,by simp only[e3,Aa,t2,t4,bad,Ar,Ad];rfl⟩
   | some u =>
    obtain⟨aside,q3⟩:=u;rw[hp3]at h3;obtain⟨b3,e3,r3⟩:=h3;simp only[e3,Aa,t2,t4];by_cases ha:1<aside
    ·rw[if_pos ha];obtain⟨p4,f4,v4,e4,k4⟩:=Zs5 (C:=J3) (P:=(m:Int).toNat%2=1) (Zf9 hl r3) r3;unfold Iu at e4;simp only[e4,Ar];cases f4 with
     | true=>exact⟨_,_,by simp only[bad,Ar,Ad];rfl⟩
     | false =>
      obtain⟨q4,r4⟩:=k4 rfl;obtain⟨p5,f5,v5,e5,k5⟩:=Zs5 (C:=J3) (P:=(m:Int).toNat / 2%2=1) (Zf9 hl r4) r4;unfold Iu at e5;simp only[e5,Ar,Dq ha,Ad];cases f5 with
      | true=>exact⟨_,_,rfl⟩
      | false=>exact⟨_,_,rfl⟩
    rw[if_neg ha];have hO:=Zks (C:=J3) (P:=(m:Int).toNat%2=1) (Zf9 hl r3) r3;unfold Iu at hO;unfold Zay;cases ho:(if (m:Int).toNat%2=1 then F3 q3 else some ((0,[]),q3)) with
    | none =>
     obtain⟨v4,p4,e4⟩:=hO.1 ho;exact⟨_,_,by simp only[e4,Ar,bad,Ad];rfl⟩
    | some w4 =>
     obtain⟨old,q4⟩:=w4;obtain⟨b4,e4,r4⟩:=hO.2 _ _ ho;have hN:=Zks (C:=J3) (P:=(m:Int).toNat / 2%2=1) (Zf9 hl r4) r4;unfold Iu at hN;simp only[e4,Ar];unfold Zax;cases hn:(if (m:Int).toNat / 2%2=1 then F3 q4 else some ((0,[]),q4)) with
     | none =>
      obtain⟨v5,p5,e5⟩:=hN.1 hn;exact⟨_,_,by simp only[e5,Ar,Ad];rfl⟩
     | some w5 =>
      obtain⟨new,q5⟩:=w5;obtain⟨b5,e5,r5⟩:=hN.2 _ _ hn;have hk:key.length<9223372036854775807:=by have:=(Xk hp).2;omega
      have e6:Ln (key,((old.1,old.2),((new.1,new.2),((m:Int),decide (aside=1)))))=some (Bo (key,old,new,(m:Int),decide (aside=1))):=Zf8 (r:=(key,old,new,(m:Int),decide (aside=1))) hk;simp only[e5,Ar,Ac,Eb (show aside<=1 by omega),K4,e6,Aa];cases hr:Bo (key,old,new,(m:Int),decide (aside=1)) with
      | false=>exact⟨_,_,rfl⟩
      | true=>exact⟨b5,rfl,r5⟩
end
end Go.Vs
