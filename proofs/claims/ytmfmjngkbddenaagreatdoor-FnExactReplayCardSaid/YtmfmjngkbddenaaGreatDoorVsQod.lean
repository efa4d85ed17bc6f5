import Derived.Test.YtmfmjngkbddenaaGreatDoorVsW5
import Derived.Test.YtmfmjngkbddenaaGreatDoorVsQoc
set_option linter.all false
namespace Go.Vs
noncomputable section
structure Reader {α:Type} (l:List UInt8) (F:List UInt8×Int×Bool->Option (α×Int×Bool)) (p:List UInt8->Option (α×List UInt8)):Prop where
 good:∀{a:Int} {t:List UInt8},Rd l a t->RdW l (F (l,(a,false))) (p t)
 bad:∀a:Int,∃v b,F (l,(a,true))=some (v,(b,true))
theorem RdR.w {α:Type}{l:List UInt8}{z:α}{o:Option (α×Int×Bool)}{p:Option (α×List UInt8)}{a:Int}(h:RdR l z o p a):RdW l o p:=by
 cases p with
 | none=>exact⟨z,a,h⟩
 | some v=>exact h
def Ans {β:Type}(l:List UInt8) (z:β) (P:Prop) (K:Int×Bool->Option β) (f:List UInt8->β):Prop:=(∀b,K (b,true)=some z)/\(P->∀b t,Rd l b t->K (b,false)=some (f t))
def pb {α β:Type}(z:β) (p:List UInt8->Option (α×List UInt8)) (f:α->List UInt8->β) (t:List UInt8):β:=match p t with
 | none=>z
 | some (v,q)=>f v q
theorem Ans.bind {α β:Type}{l:List UInt8}{z:β}{P:Prop}{F:List UInt8×Int×Bool->Option (α×Int×Bool)}{p:List UInt8->Option (α×List UInt8)}{K:α×Int×Bool->Option β}{f:α->List UInt8->β}(hF:Reader l F p) (Q:α->Prop) (hQ:∀t v q,p t=some (v,q)->Q v) (hK:∀v,Ans l z (P/\Q v) (fun s=>K (v,s)) (f v)):Ans l z P (fun s=>bnd (F (l,(s.1,s.2))) K) (pb z p f):=by
 refine⟨fun b=>?_,fun hP b t h=>?_⟩
 ·obtain⟨v,c,e⟩:=hF.bad b;simp only[e,Ab];exact (hK v).1 c
 ·have:=hF.good h;unfold pb;simp only;cases hp:p t with
  | none =>
   rw[hp]at this;obtain⟨v,c,e⟩:=this;rw[e];exact (hK v).1 c
  | some w =>
   obtain⟨v,q⟩:=w;rw[hp]at this;obtain⟨c,e,r⟩:=this;rw[e];exact (hK v).2 ⟨hP,hQ _ _ _ hp⟩ c q r
theorem Ans.bind0 {α β:Type}{l:List UInt8}{z:β}{P:Prop}{F:List UInt8×Int×Bool->Option (α×Int×Bool)}{p:List UInt8->Option (α×List UInt8)}{K:α×Int×Bool->Option β}{f:α->List UInt8->β}(hF:Reader l F p) (hK:∀v,Ans l z P (fun s=>K (v,s)) (f v)):Ans l z P (fun s=>bnd (F (l,(s.1,s.2))) K) (pb z p f) :=
 Ans.bind hF (fun _=>True) (fun _ _ _ _=>trivial) fun v=>⟨(hK v).1,fun h=>(hK v).2 h.1⟩
theorem Zdp {l:List UInt8}(hl:l.length<=1048576000):Reader l En Bn:=⟨fun h=>(Q7 hl h).w,fun a=>⟨0,a,T8⟩⟩
theorem Zdm {l:List UInt8}(hl:l.length<=1048576000):Reader l F3 Bn:=⟨fun h=>(Zch hl h).w,fun a=>⟨0,a,Wy⟩⟩
theorem Yj8 {l:List UInt8}(hl:l.length<=1048576000):Reader l J4 Dl:=⟨fun h=>(Zkn hl h).w,fun a=>⟨[],a,Zko hl⟩⟩
theorem Yj1 {l:List UInt8}(hl:l.length<=1048576000):Reader l J3 Dl:=⟨fun h=>(Zh4 hl h).w,fun a=>⟨[],a,Zcj hl⟩⟩
theorem Yj7 {l:List UInt8}(hl:l.length<=1048576000):Reader l Ps Eb:=⟨fun h=>Yk9 hl h,fun a=>⟨_,a,Yla hl⟩⟩
theorem Yhm {l:List UInt8}{a:Int}(hl:l.length<=1048576000):Pn (l,(a,true))=some (J2,(a,true)):=by
 have bad:∀b,_:=fun b=>Znm (C:=H7) (l:=l) (b:=b) (Zqq hl);unfold F6 at bad;unfold Pn;simp only[Zcj hl,Wy,Ab,Zf5,Ae,A2,Ag];rfl
theorem Yj0 {l:List UInt8}(hl:l.length<=1048576000):Reader l Pn Ex:=⟨fun h=>Yhl hl h,fun a=>⟨_,a,Yhm hl⟩⟩
theorem Yjk (t:List UInt8):Cd t=match Bn t with|none=>none|some (x,t)=>match Bn t with|none=>none|some (y,t)=>some (x*256+y,t):=by
 match t with
 | []=>rfl
 | [_]=>rfl
 | x::y::l=>simp only[Cd,Bn];congr 2
theorem Zka {l:List UInt8}(hl:l.length<=1048576000):Reader l Pt Cd:=by
 refine⟨fun {a t} h=>?_,fun a=>⟨_,a,by unfold Pt;simp only[T8,Ab];rfl⟩⟩;rw[Yjk];unfold Pt;have h1:=Q7 hl h;cases hp:Bn t with
 | none =>
  rw[hp]at h1;have e1:En (l,(a,false))=some (0,(a,true)):=h1;simp only[e1,Ab,T8];exact⟨_,_,rfl⟩
 | some v =>
  obtain⟨x,q⟩:=v;rw[hp]at h1;obtain⟨b,e1,r1⟩:=h1;simp only[e1,Ab];have h2:=Q7 hl r1;cases hq:Bn q with
  | none =>
   rw[hq]at h2;have e2:En (l,(b,false))=some (0,(b,true)):=h2;simp only[e2,Ab];exact⟨_,_,rfl⟩
  | some w =>
   obtain⟨y,u⟩:=w;rw[hq]at h2;obtain⟨c,e2,r2⟩:=h2;obtain⟨m,rfl,hm⟩:=Zdc hp;obtain⟨n,rfl,hn⟩:=Zdc hq;simp only[e2,Ab];refine⟨c, ?_,r2⟩;rw[show Br .i64 (m:Int) 8=((m*2^8:Nat):Int) from Tc (k:=.i64) (s:=8) (by decide) (by show _<2^63;omega),orc (c:=m*2^8) (q:=m) (j:=8) rfl (by omega) (by omega) (by omega)];rw[show ((m*2^8+n:Nat):Int)=(m:Int)*256+n by omega]
theorem X5 {l:List UInt8}(hl:l.length<=1048576000):Reader l Nf Cd:=by
 refine⟨fun {a t} h=>?_,fun a=>⟨_,a,by unfold Nf;simp only[Zh2 hl,Ab,Ag];rfl⟩⟩;unfold Nf;simp only[Zh2 hl,Ab,Ae,h.2.2];cases hp:Cd t with
 | none=>exact⟨_,_,rfl⟩
 | some w =>
  obtain⟨n,q⟩:=w;refine⟨a+2,rfl, ?_⟩;obtain⟨rfl,_⟩:=Pd hp;exact h.app (u:=Em n)
def V1 {β:Type}(z:β) (pr:List UInt8->Option (Row×List UInt8)) (k:Int) (g:Row->List UInt8->Int->List UInt8->β):List UInt8->β:=if k=1 then pb z pr (fun R=>g R [] 0) else if k=2 then pb z Dl (fun s=>g J2 s 0) else if k=3 then pb z Bn (fun n=>g J2 [] n) else g J2 [] 0
def R8 {β:Type}(z:β) (pr:List UInt8->Option (Row×List UInt8)) (fin:Int×Int×Rec->List UInt8->β):List UInt8->β:=pb z Cd fun gen=>pb z Cd fun place=>pb z Bn fun k=>V1 z pr k fun R key n=>pb z Bn fun who=>pb z Bn fun code=>pb z Cd fun seq q=>fin (gen,place,(k,R,key,n,who,seq,code)) q
abbrev Tup:=List UInt8×Int×List UInt8×Int×List UInt8×Int×Bool×List UInt8×Int×Int×Bool
theorem Zii {α σ ρ:Type}(o:Option α) (f:α->σ) (K:σ->Option ρ):Aq (bnd o fun z=>some (.inl (f z))) K=bnd o fun z=>K (f z):=by cases o<;>rfl
theorem Ans.body {β:Type}{l:List UInt8}{z:β}{P:Prop}{FR:List UInt8×Int×Bool->Option (Row×Int×Bool)}{FT:List UInt8×Int×Bool->Option (List UInt8×Int×Bool)}{FO:List UInt8×Int×Bool->Option (Int×Int×Bool)}{pr:List UInt8->Option (Row×List UInt8)}{k:Int}{K:Tup->Option β}{g:Row->List UInt8->Int->List UInt8->β}
  (hR:Reader l FR pr) (hT:Reader l FT Dl) (hO:Reader l FO Bn) (hQ:∀t v q,pr t=some (v,q)->v.1.length<=60) (hK:∀R key n,Ans l z (P/\R.1.length<=60/\key.length<=60) (fun s=>K (R.1,(R.2.1.1,(R.2.1.2,(R.2.2.1.1,(R.2.2.1.2,(R.2.2.2.1,(R.2.2.2.2,(key,(n,(s.1,s.2))))))))))) (g R key n)) :
  Ans l z P (fun s=>Aq (cnd (iEq k 1) (bnd (FR (l,(s.1,s.2))) (fun z4=>(some (.inl (z4.1.1,(z4.1.2.1.1,(z4.1.2.1.2,(z4.1.2.2.1.1,
 (z4.1.2.2.1.2,(z4.1.2.2.2.1,(z4.1.2.2.2.2,([],(0,(z4.2.1,z4.2.2)))))))))))))) (cnd (iEq k 2) (bnd (FT (l,(s.1,s.2))) (fun z4=>(some (.inl ([],(0,([],(0,([],(0,(false,(z4.1,(0,(z4.2.1,z4.2.2)))))))))))))) (cnd (iEq k 3) (bnd (FO (l,(s.1,s.2))) (fun z4=>(some (.inl ([],(0,([],(0,([],(0,(false,([],(z4.1,(z4.2.1,
 z4.2.2)))))))))))))) (some (.inl ([],(0,([],(0,([],(0,(false,([],(0,(s.1,s.2))))))))))))))) K) (V1 z pr k g):=by
 unfold V1;simp only[K4];by_cases h1:k=1
 ·simp only[decide_eq_true h1,Ag,if_pos h1,Zii];exact Ans.bind (K:=fun z4=>K (z4.1.1,(z4.1.2.1.1,(z4.1.2.1.2,(z4.1.2.2.1.1,(z4.1.2.2.1.2,(z4.1.2.2.2.1,(z4.1.2.2.2.2,([],(0,(z4.2.1,z4.2.2))))))))))) hR (fun R=>R.1.length<=60) hQ fun R=>⟨(hK R [] 0).1,fun h=>(hK R [] 0).2 ⟨h.1,h.2,Kbb _⟩⟩
 by_cases h2:k=2
 ·simp only[decide_eq_false h1,decide_eq_true h2,Ag,Ae,if_neg h1,if_pos h2,Zii];exact Ans.bind (K:=fun z4=>K ([],(0,([],(0,([],(0,(false,(z4.1,(0,(z4.2.1,z4.2.2))))))))))) hT (fun s=>s.length<=60) (fun t v q h=>(Re h).2) fun R=>⟨(hK J2 R 0).1,fun h=>(hK J2 R 0).2 ⟨h.1,Kbb _,h.2⟩⟩
 by_cases h3:k=3
 ·simp only[decide_eq_false h1,decide_eq_false h2,decide_eq_true h3,Ag,Ae,if_neg h1,if_neg h2,if_pos h3,Zii];exact Ans.bind0 (K:=fun z4=>K ([],(0,([],(0,([],(0,(false,([],(z4.1,(z4.2.1,z4.2.2))))))))))) hO fun R=>⟨(hK J2 [] R).1,fun h=>(hK J2 [] R).2 ⟨h,Kbb _,Kbb _⟩⟩
 ·simp only[decide_eq_false h1,decide_eq_false h2,decide_eq_false h3,Ae,if_neg h1,if_neg h2,if_neg h3,A2];exact⟨(hK J2 [] 0).1,fun h=>(hK J2 [] 0).2 ⟨h,Kbb _,Kbb _⟩⟩
def Zw1:Rec:=(0,(J2,([],(0,(0,(0,0))))))
def Oz (o:Option (Int×Int×Rec)):Int×Int×Rec×Bool:=match o with
 | none=>(0,(0,(Zw1,false)))
 | some (g,p,r)=>(g,(p,(r,true)))
def zV:Int×Int×Rec×Bool:=(0,(0,(Zw1,false)))
def Qd (l:List UInt8) (x:Int×Int×Rec) (q:List UInt8):Int×Int×Rec×Bool:=match Cd q with
 | none=>zV
 | some (w,q')=>if w=(crc (l.take (l.length-q.length)):Nat)/\q'=[]/\Dc x.2.2=true then Oz (some x) else zV
theorem Ans.start {α β:Type}{l:List UInt8}{z:β}{F:List UInt8×Int×Bool->Option (α×Int×Bool)}{p:List UInt8->Option (α×List UInt8)}{K:α×Int×Bool->Option β}{f:α->List UInt8->β}(hF:Reader l F p) (hK:∀v,Ans l z True (fun s=>K (v,s)) (f v)):bnd (F (l,(0,false))) K=some (pb z p f l):=(Ans.bind0 hF hK).2 trivial 0 l (Rd.mk (l:=l) (k:=0) (by omega))
theorem Yjh (t:List UInt8) (v:Row) (q:List UInt8) (h:Ex t=some (v,q)):v.1.length<=60:=(Ztg (Ztf h).2).1
theorem Rd.take {l t:List UInt8}{b:Int}(h:Rd l b t):b.toNat=l.length-t.length/\A9 (nOf b-0) l=l.take (l.length-t.length):=by
 have:=h.len;have h0:=h.1;have e:b.toNat=l.length-t.length:=by omega
 exact⟨e,by unfold A9 nOf;rw[e];rfl⟩
theorem Zpr {l q q':List UInt8}{w:Int}{x:Int×Int×Rec}(h:Cd q=some (w,q')):Qd l x q=if w=(crc (l.take (l.length-q.length)):Nat)/\q'=[]/\Dc x.2.2=true then Oz (some x) else zV:=by
 unfold Qd;rw[h]
theorem Zpq {l q:List UInt8}{x:Int×Int×Rec}(h:Cd q=none):Qd l x q=zV:=by
 unfold Qd;rw[h]
theorem Yg3 {l:List UInt8}(hl:l.length<=1048576000):Ux l=some (R8 zV Ex (Qd l) l):=by
 unfold Ux R8;refine Ans.start (X5 hl) fun gen=>?_
 dsimp only
 refine Ans.bind0 (X5 hl) fun place=>?_
 dsimp only
 refine Ans.bind0 (Zdm hl) fun k=>?_
 dsimp only
 refine Ans.body (Yj0 hl) (Yj1 hl) (Zdm hl) Yjh fun R key n=>?_
 dsimp only
 refine Ans.bind0 (Zdm hl) fun who=>?_
 dsimp only
 refine Ans.bind0 (Zdm hl) fun code=>?_
 dsimp only
 refine Ans.bind0 (X5 hl) fun seq=>?_
 dsimp only
 refine⟨fun b=>?_,fun hP b q h=>?_⟩
 ·obtain⟨v,c,e⟩:=(X5 hl).bad b;unfold Zb;simp only[e,Ab,Bd,Ae,Cp,Ag];rfl
 ·have hb:=h.len;have h0:=h.1;have e6:Rn (k,((R.1,((R.2.1.1,R.2.1.2),((R.2.2.1.1,R.2.2.1.2),(R.2.2.2.1,R.2.2.2.2)))),(key,(n,(who,(seq,code))))))=some (Dc (k,R,key,n,who,seq,code)):=Zqo (r:=(k,R,key,n,who,seq,code)) (by have:=hP.2.1;simp only;omega) (by have:=hP.2.2;simp only;omega);have hw:=(X5 hl).good h;show _=some (Qd l (gen,place,k,R,key,n,who,seq,code) q);unfold Zb;cases hp:Cd q with
  | none =>
   rw[hp]at hw;obtain⟨v,c,e⟩:=hw;simp only[e,Ab,Bd,Ae,Cp,Ag,Zpq hp];rfl
  | some u =>
   obtain⟨w,q'⟩:=u;rw[hp]at hw;obtain⟨c,e,r⟩:=hw;have hc:=r.len;rw[Zpr hp];simp only[e,Ab,Cp,Ag];rw[show Co 0 b (Af l)=true from decide_eq_true (by simp only[Aj];omega),A4,(h.take).2,Yhc (by rw[Kta];omega),Ab];by_cases hs:w=((crc (l.take (l.length-q.length)):Nat):Int)
   ·rw[K4,decide_eq_true hs,Ag];simp only[Ab,K4,e6];by_cases hq:q'=[]
    ·rw[show decide (c=Af l)=true from decide_eq_true (by simp only[Aj];rw[hq]at hc;simp only[Ko]at hc;omega),Bd,Ae];cases hk:Dc (k,R,key,n,who,seq,code) with
     | true=>rw[if_pos ⟨hs,hq,rfl⟩];rfl
     | false=>rw[if_neg (fun h=>by cases h.2.2)];rfl
    ·rw[show decide (c=Af l)=false from decide_eq_false (by
      simp only[Aj];have:q'.length≠0:=fun h=>hq (Kyd h);omega),Cp,Ag,if_neg (fun h=>hq h.2.1)];rfl
   ·rw[K4,decide_eq_false hs,Ae];simp only[Ab,Cp,Ag];rw[if_neg (fun h=>hs h.1)];rfl
def Qe (l t:List UInt8) (x:Int×Int×Rec) (q:List UInt8):Int×Int×Rec×Bool:=if q=[]/\l.drop (l.length-2)=Em (crc t:Nat)/\Dc x.2.2=true then Oz (some x) else zV
theorem Zwv {m n:Int}(h0:0<=m) (h1:m<65536) (k0:0<=n) (k1:n<65536) (h:Em m=Em n):m=n:=by
 have a:=Qz h0 h1 [];have b:=Qz k0 k1 [];rw[h,b]at a;simp only[Ka,Kb,and_true]at a;exact a.symm
theorem Ykq {l:List UInt8}(hl:l.length<=1048576000) (h2:2<=l.length):Rs l=some (R8 zV Eb (Qe l (l.take (l.length-2))) (l.take (l.length-2))):=by
 have e2:Ax .i64 (Af l) 2=((l.length-2:Nat):Int):=by
  rw[D7 (by simp only[Aj];omega) (by simp only[Aj];omega)];simp only[Aj];omega
 have et:A9 (nOf ((l.length-2:Nat):Int)-0) l=l.take (l.length-2):=rfl;have ht:(l.take (l.length-2)).length=l.length-2:=by rw[Kta];omega
 have ht2:(l.take (l.length-2)).length<=1048576000:=by omega
 have hd:(l.drop (l.length-2)).length=2:=by rw[Kia];omega
 obtain⟨w,q0,hw⟩:∃w q0,Cd (l.drop (l.length-2))=some (w,q0):=by
  match l.drop (l.length-2),hd with
  | [x,y],_=>exact⟨_,_,rfl⟩
 obtain⟨ew,w0,w1⟩:=Pd hw;have eq0:q0=[]:=by
  have:=congrArg List.length ew;rw[hd,Kab,Zww]at this;exact Kyd (by omega)
 rw[eq0,Kv]at ew;have eg:Rt (l,((l.length-2:Nat):Int))=some (w,(((l.length-2:Nat):Int)+2,true)):=by
  rw[Zt3 hl,O6,hw]
 have es:Z5 (l.take (l.length-2))=some ((crc (l.take (l.length-2)):Nat):Int):=Ykw ht2;unfold Rs R8;simp only[e2,et,eg,es];rw[A3 (by omega),Ae,show Co 0 ((l.length-2:Nat):Int) (Af l)=true from decide_eq_true (by simp only[Aj];omega),A4];generalize hT:l.take (l.length-2)=t at ht ht2;refine Ans.start (Zka ht2) fun gen=>?_
 dsimp only
 refine Ans.bind0 (Zka ht2) fun place=>?_
 dsimp only
 refine Ans.bind0 (Zdp ht2) fun k=>?_
 dsimp only
 refine Ans.body (Yj7 ht2) (Yj8 ht2) (Zdp ht2) (fun _ _ _ h=>Yjg h) fun R key n=>?_
 dsimp only
 refine Ans.bind0 (Zdp ht2) fun who=>?_
 dsimp only
 refine Ans.bind0 (Zdp ht2) fun code=>?_
 dsimp only
 refine Ans.bind0 (Zka ht2) fun seq=>?_
 dsimp only
 refine⟨fun b=>?_,fun hP b q h=>?_⟩
 ·simp only[Ab,Ag];rfl
 ·have hb:=h.len;have e6:Rw (k,((R.1,((R.2.1.1,R.2.1.2),((R.2.2.1.1,R.2.2.1.2),(R.2.2.2.1,R.2.2.2.2)))),(key,(n,(who,(seq,code))))))=some (Dc (k,R,key,n,who,seq,code)):=Zt6 (r:=(k,R,key,n,who,seq,code)) (by have:=hP.2.1;simp only;omega) (by have:=hP.2.2;simp only;omega);show _=some (Qe l t (gen,place,k,R,key,n,who,seq,code) q);simp only[Ab,Ae,A4];by_cases hq:q=[]
  ·have:b=((l.length-2:Nat):Int):=by rw[hq]at hb;simp only[Ko]at hb;omega
   rw[this,E6,Ae];have hc:=Sj t;by_cases hs:w=((crc t:Nat):Int)
   ·rw[hs,E6,Ae,e6,Ab];unfold Qe;cases hk:Dc (k,R,key,n,who,seq,code) with
    | true=>rw[if_pos ⟨hq,by rw[ew,hs],rfl⟩];rfl
    | false=>rw[if_neg (fun h=>by cases h.2.2)];rfl
   ·rw[Oa hs,Ag];unfold Qe;rw[if_neg (fun h=>hs (Zwv w0 w1 (by omega) (by omega) (by rw[<-ew];exact h.2.1)))];rfl
  ·have:b≠((l.length-2:Nat):Int):=fun hh=>hq (Kyd (by omega));rw[Oa this,Ag];unfold Qe;rw[if_neg (fun h=>hq h.1)];rfl
def Iq (pr:List UInt8->Option (Row×List UInt8)) (k:Int) (l:List UInt8):Option ((Row×List UInt8×Int)×List UInt8) :=
 if k=1 then (match pr l with
  | none=>none
  | some (r,l)=>some ((r,[],0),l))
 else if k=2 then (match Dl l with
  | none=>none
  | some (s,l)=>some ((([],(0,[]),(0,[]),0,false),s,0),l))
 else if k=3 then (match Bn l with
  | none=>none
  | some (n,l)=>some ((([],(0,[]),(0,[]),0,false),[],n),l))
 else some ((([],(0,[]),(0,[]),0,false),[],0),l)
def Ir (pr:List UInt8->Option (Row×List UInt8)) (l:List UInt8):Option ((Int×Int×Rec)×List UInt8):=match Cd l with
 | none=>none
 | some (gen,l)=>match Cd l with
  | none=>none
  | some (place,l)=>match Bn l with
   | none=>none
   | some (k,l)=>match Iq pr k l with
    | none=>none
    | some ((R,key,n),l)=>match Bn l with
     | none=>none
     | some (who,l)=>match Bn l with
      | none=>none
      | some (code,l)=>match Cd l with
       | none=>none
       | some (seq,l)=>some ((gen,place,(k,R,key,n,who,seq,code)),l)
theorem Zsh:Ir Ex=Hx:=rfl
theorem Zxq {β:Type}(z:β) (pr:List UInt8->Option (Row×List UInt8)) (k:Int) (g:Row->List UInt8->Int->List UInt8->β) (t:List UInt8):V1 z pr k g t=match Iq pr k t with
  | none=>z
  | some ((R,key,n),q)=>g R key n q:=by
 unfold V1 Iq;by_cases h1:k=1
 ·simp only[if_pos h1,pb];cases pr t<;>rfl
 by_cases h2:k=2
 ·simp only[if_neg h1,if_pos h2,pb];cases Dl t<;>rfl
 by_cases h3:k=3
 ·simp only[if_neg h1,if_neg h2,if_pos h3,pb];cases Bn t<;>rfl
 ·simp only[if_neg h1,if_neg h2,if_neg h3];rfl
theorem T3 {α β:Type}{z:β}{p:List UInt8->Option (α×List UInt8)}{f:α->List UInt8->β}{t:List UInt8}(h:p t=none):pb z p f t=z:=by unfold pb;rw[h]
theorem T4 {α β:Type}{z:β}{p:List UInt8->Option (α×List UInt8)}{f:α->List UInt8->β}{t q:List UInt8}{v:α}(h:p t=some (v,q)):pb z p f t=f v q:=by unfold pb;rw[h]
theorem Zms {β:Type}(z:β) (pr:List UInt8->Option (Row×List UInt8)) (fin:Int×Int×Rec->List UInt8->β) (t:List UInt8):R8 z pr fin t=match Ir pr t with
  | none=>z
  | some (x,q)=>fin x q:=by
 unfold R8 Ir;cases h1:Cd t with
 | none=>rw[T3 h1]
 | some v =>
  obtain⟨gen,t1⟩:=v;rw[T4 h1];simp only;cases h2:Cd t1 with
  | none=>rw[T3 h2]
  | some v =>
   obtain⟨place,t2⟩:=v;rw[T4 h2];simp only;cases h3:Bn t2 with
   | none=>rw[T3 h3]
   | some v =>
    obtain⟨k,t3⟩:=v;rw[T4 h3];simp only[Zxq];cases Iq pr k t3 with
    | none=>rfl
    | some v =>
     obtain⟨⟨R,key,n⟩,t4⟩:=v;simp only;cases h4:Bn t4 with
     | none=>rw[T3 h4]
     | some v =>
      obtain⟨who,t5⟩:=v;rw[T4 h4];simp only;cases h5:Bn t5 with
      | none=>rw[T3 h5]
      | some v =>
       obtain⟨code,t6⟩:=v;rw[T4 h5];simp only;cases h6:Cd t6 with
       | none=>rw[T3 h6]
       | some v=>rw[T4 h6]
theorem Ynp {w:Int}{c:Nat}(w0:0<=w) (w1:w<65536) (hc:c<65536):Em w=Em (c:Int) ↔ w=c:=⟨Zwv w0 w1 (by omega) (by omega),fun h=>by rw[h]⟩
theorem Zb7 {l q:List UInt8}{x:Int×Int×Rec}(h:Hx l=some (x,q)):Fv l=if q=Em (crc (l.take (l.length-2)))/\q.length=2/\Dc x.2.2=true then some x else none:=by
 unfold Fv;rw[h]
theorem Zhn {l:List UInt8}(h:Hx l=none):Fv l=none:=by
 unfold Fv;rw[h]
theorem Yg2 {l:List UInt8}(hl:l.length<=1048576000):Ux l=some (Oz (Fv l)):=by
 rw[Yg3 hl,Zms,Zsh];cases hp:Hx l with
 | none=>rw[Zhn hp];rfl
 | some v =>
  obtain⟨x,q⟩:=v;rw[Zb7 hp];show some (Qd l x q)=_;congr 1;cases hq:Cd q with
  | none =>
   rw[Zpq hq,if_neg]
   ·rfl
   ·rintro ⟨h1,h2,_⟩;have:=Qz (n:=(crc (l.take (l.length-2)):Nat)) (by omega) (by have:=Sj (l.take (l.length-2));omega) [];rw[Kv,<-h1,hq]at this;cases this
  | some u =>
   obtain⟨w,q'⟩:=u;rw[Zpr hq];obtain⟨e,w0,w1⟩:=Pd hq;have hc:=Sj (l.take (l.length-2));by_cases hq':q'=[]
   ·have e2:q=Em w:=by rw[e,hq',Kv]
    have e3:q.length=2:=by rw[e2];rfl
    have hi:=Ynp (c:=crc (l.take (l.length-2))) w0 w1 hc;rw[e3];by_cases h:w=((crc (l.take (l.length-2)):Nat):Int)/\Dc x.2.2=true
    ·rw[if_pos ⟨h.1,hq',h.2⟩,if_pos ⟨by rw[e2];exact hi.2 h.1,rfl,h.2⟩]
    ·rw[if_neg (fun k=>h ⟨k.1,k.2.2⟩),if_neg (fun k=>h ⟨hi.1 (by rw[<-e2];exact k.1),k.2.2⟩)];rfl
   ·have e3:q.length≠2:=by
     have:q'.length≠0:=fun h=>hq' (Kyd h);rw[e,Kab,Zww];omega
    rw[if_neg (fun k=>hq' k.2.1),if_neg (fun k=>e3 k.2.1)];rfl
theorem Yjd {k n:Int}{t q:List UInt8}{R:Row}{key:List UInt8}(h:Iq Eb k t=some ((R,key,n),q)) (hk:I8 k R key n=true):Iq Ex k t=some ((R,key,n),q):=by
 unfold Iq at h ⊢;by_cases h1:k=1
 ·rw[if_pos h1]at h ⊢;cases hr:Eb t with
  | none=>rw[hr]at h;cases h
  | some v =>
   obtain⟨r,q1⟩:=v;rw[hr]at h;simp only[Ka,Kb]at h;obtain⟨⟨rfl,rfl,rfl⟩,rfl⟩:=h;unfold I8 at hk;rw[if_pos h1]at hk;simp only[Ke]at hk;rw[Zsj hr,if_pos hk.1.1]
 ·rw[if_neg h1]at h ⊢;exact h
theorem Yjc {k:Int}{t q:List UInt8}{v:Row×List UInt8×Int}(h:Iq Ex k t=some (v,q)):Iq Eb k t=some (v,q):=by
 unfold Iq at h ⊢;by_cases h1:k=1
 ·rw[if_pos h1]at h ⊢;cases hr:Eb t with
  | none=>rw[Yji hr]at h;cases h
  | some w =>
   obtain⟨r,q1⟩:=w;rw[Zsj hr]at h;by_cases hh:C3 r=true
   ·rw[if_pos hh]at h;exact h
   ·rw[if_neg hh]at h;cases h
 ·rw[if_neg h1]at h ⊢;exact h
theorem Yjf {t q:List UInt8}{x:Int×Int×Rec}(h:Ir Eb t=some (x,q)) (hk:Dc x.2.2=true):Ir Ex t=some (x,q):=by
 unfold Ir at h ⊢;cases h1:Cd t with
 | none=>rw[h1]at h;cases h
 | some v =>
  obtain⟨gen,t1⟩:=v;rw[h1]at h;simp only at h ⊢;cases h2:Cd t1 with
  | none=>rw[h2]at h;cases h
  | some v =>
   obtain⟨place,t2⟩:=v;rw[h2]at h;simp only at h ⊢;cases h3:Bn t2 with
   | none=>rw[h3]at h;cases h
   | some v =>
    obtain⟨k,t3⟩:=v;rw[h3]at h;simp only at h ⊢;cases h4:Iq Eb k t3 with
    | none=>rw[h4]at h;cases h
    | some v =>
     obtain⟨⟨R,key,n⟩,t4⟩:=v;rw[h4]at h;simp only at h;have hb:I8 k R key n=true:=by
      split at h
      ·cases h
      split at h
      ·cases h
      split at h
      ·cases h
      simp only[Ka,Kb]at h;obtain⟨rfl,_⟩:=h;simp only[Dc,Ke]at hk;exact hk.1
     rw[Yjd h4 hb];exact h
theorem Yje {t q:List UInt8}{x:Int×Int×Rec}(h:Ir Ex t=some (x,q)):Ir Eb t=some (x,q):=by
 unfold Ir at h ⊢;cases h1:Cd t with
 | none=>rw[h1]at h;cases h
 | some v =>
  obtain⟨gen,t1⟩:=v;rw[h1]at h;simp only at h ⊢;cases h2:Cd t1 with
  | none=>rw[h2]at h;cases h
  | some v =>
   obtain⟨place,t2⟩:=v;rw[h2]at h;simp only at h ⊢;cases h3:Bn t2 with
   | none=>rw[h3]at h;cases h
   | some v =>
    obtain⟨k,t3⟩:=v;rw[h3]at h;simp only at h ⊢;cases h4:Iq Ex k t3 with
    | none=>rw[h4]at h;cases h
    | some v =>
     rw[h4]at h;rw[Yjc h4];exact h
theorem Ykp {l:List UInt8}(hl:l.length<=1048576000):Rs l=some (Oz (Fv l)):=by
 by_cases h2:2<=l.length
 ·rw[Ykq hl h2,Zms];congr 1;have hd:(l.drop (l.length-2)).length=2:=by rw[Kia];omega
  have hsp:l.take (l.length-2)++l.drop (l.length-2)=l:=Kkc _ _;have up:∀x,Ir Eb (l.take (l.length-2))=some (x,[])->Dc x.2.2=true->Hx l=some (x,l.drop (l.length-2)):=fun x hp hk=>by
   have h1:=Yjf hp hk;rw[Zsh]at h1;obtain⟨e,a,b,c,d⟩:=Zj2 h1;rw[Kv]at e;have:=Zsi hk a b c d (l.drop (l.length-2));rw[<-e,hsp]at this;exact this
  have dn:∀x q,Hx l=some (x,q)->q.length=2->Dc x.2.2=true->Ir Eb (l.take (l.length-2))=some (x,[]):=fun x q hp hq hk=>by
   obtain⟨e,a,b,c,d⟩:=Zj2 hp;have e1:l.take (l.length-2)=Oy x.1 x.2.1 x.2.2:=by
    have:l.length-2=(Oy x.1 x.2.1 x.2.2).length:=by
     have:=congrArg List.length e;rw[Kab,hq]at this;omega
    rw[this]
    conv=>lhs;arg 2;rw[e]
    rw[List.take_left]
   have:=Zsi hk a b c d [];rw[Kv,<-e1]at this;exact Yje this
  by_cases hg:∃x,Fv l=some x
  ·obtain⟨x,hx⟩:=hg;cases hp:Hx l with
   | none=>rw[Zhn hp]at hx;cases hx
   | some v =>
    obtain⟨y,q⟩:=v;rw[Zb7 hp]at hx;by_cases hc:q=Em (crc (l.take (l.length-2)):Nat)/\q.length=2/\Dc y.2.2=true
    ·rw[Zb7 hp,if_pos hc];rw[dn y q hp hc.2.1 hc.2.2];have e2:=up y (dn y q hp hc.2.1 hc.2.2) hc.2.2;rw[hp]at e2;simp only[Ka,Kb,true_and]at e2;simp only[Qe];rw[if_pos ⟨trivial,by rw[<-e2];exact hc.1,hc.2.2⟩]
    ·rw[if_neg hc]at hx;cases hx
  ·have hn:Fv l=none:=by
    cases h:Fv l with
    | none=>rfl
    | some x=>exact (hg ⟨x,h⟩).elim
   rw[hn];cases hp:Ir Eb (l.take (l.length-2)) with
   | none=>rfl
   | some v =>
    obtain⟨x,q⟩:=v;simp only[Qe];rw[if_neg]
    ·rfl
    ·rintro ⟨rfl,hw,hk⟩;have h1:=Zb7 (up x hp hk);rw[if_pos ⟨hw,hd,hk⟩,hn]at h1;cases h1
 ·have e2:Ax .i64 (Af l) 2=(l.length:Int)-2:=D7 (by simp only[Aj];omega) (by simp only[Aj];omega);unfold Rs;simp only[e2];rw[A6 (by omega),Ag];have:Fv l=none:=Zhn (by unfold Hx;rw[Zjn (by omega)]);rw[this];rfl
theorem Ycu (l:List UInt8):smC 60 (Oz (Fv l)).2.2.1:=by
 cases h:Fv l with
 | none=>exact⟨⟨by decide,by decide,by decide⟩,by decide⟩
 | some x =>
  have hk:=(Yjr h).2.1;obtain⟨g,p,k,R,key,n,w,sq,cd⟩:=x;simp only[Dc,Ke]at hk;have hb:=hk.1;show smR 60 R/\key.length<=60;unfold I8 at hb;have z:Ei R=true->smR 60 R:=fun h=>by rw[Zc6 h];exact⟨by decide,by decide,by decide⟩
  have e:key.isEmpty=true->key.length<=60:=fun h=>by rw[Kpd.1 h];exact Kbb _
  split at hb
  ·simp only[Ke]at hb;exact⟨Ztg hb.1.1,e hb.1.2⟩
  split at hb
  ·simp only[Ke]at hb;exact⟨z hb.1.1,by have:=(Xf hb.1.2).2;omega⟩
  split at hb
  ·simp only[Ke]at hb;exact⟨z hb.1.1,e hb.1.2⟩
  split at hb
  ·simp only[Ke]at hb;exact⟨z hb.1.1,e hb.1.2⟩
  ·cases hb
end
end Go.Vs
