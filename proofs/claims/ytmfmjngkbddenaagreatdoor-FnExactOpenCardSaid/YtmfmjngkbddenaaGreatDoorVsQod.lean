import Derived.Test.YtmfmjngkbddenaaGreatDoorVsW5
import Derived.Test.YtmfmjngkbddenaaGreatDoorVsQoc
set_option linter.all false
namespace Go.Vs
noncomputable section
structure Reader {α:Type} (l:List UInt8) (F:List UInt8×Int×Bool->Option (α×Int×Bool)) (p:List UInt8->Option (α×List UInt8)):Prop where
 good:∀{a:Int} {t:List UInt8},Rd l a t->RdW l (F (l,(a,false))) (p t)
 bad:∀a:Int,∃v b,F (l,(a,true))=some (v,(b,true))
theorem RdR.w {α:Type}{l:List UInt8}{z:α}{o:Option (α×Int×Bool)}{p:Option (α×List UInt8)}{a:Int}(h:RdR l z o p a):RdW l o p:=by
 cases p with
 | none=>exact⟨z,a,h⟩
 | some v=>exact h
def Ans {β:Type}(l:List UInt8) (z:β) (P:Prop) (K:Int×Bool->Option β) (f:List UInt8->β):Prop:=(∀b,K (b,true)=some z)/\(P->∀b t,Rd l b t->K (b,false)=some (f t))
def pb {α β:Type}(z:β) (p:List UInt8->Option (α×List UInt8)) (f:α->List UInt8->β) (t:List UInt8):β:=match p t with
 | none=>z
 | some (v,q)=>f v q
theorem Ans.bind {α β:Type}{l:List UInt8}{z:β}{P:Prop}{F:List UInt8×Int×Bool->Option (α×Int×Bool)}{p:List UInt8->Option (α×List UInt8)}{K:α×Int×Bool->Option β}{f:α->List UInt8->β}(hF:Reader l F p) (Q:α->Prop) (hQ:∀t v q,p t=some (v,q)->Q v) (hK:∀v,Ans l z (P/\Q v) (fun s=>K (v,s)) (f v)):Ans l z P (fun s=>bnd (F (l,(s.1,s.2))) K) (pb z p f):=by
 refine⟨fun b=>?_,fun hP b t h=>?_⟩
 ·obtain⟨v,c,e⟩:=hF.bad b;simp only[e,Aa];exact (hK v).1 c
 ·have:=hF.good h;unfold pb;simp only;cases hp:p t with
  | none =>
   rw[hp]at this;obtain⟨v,c,e⟩:=this;rw[e];exact (hK v).1 c
  | some w =>
   obtain⟨v,q⟩:=w;rw[hp]at this;obtain⟨c,e,r⟩:=this;rw[e];exact (hK v).2 ⟨hP,hQ _ _ _ hp⟩ c q r
theorem Ans.bind0 {α β:Type}{l:List UInt8}{z:β}{P:Prop}{F:List UInt8×Int×Bool->Option (α×Int×Bool)}{p:List UInt8->Option (α×List UInt8)}{K:α×Int×Bool->Option β}{f:α->List UInt8->β}(hF:Reader l F p) (hK:∀v,Ans l z P (fun s=>K (v,s)) (f v)):Ans l z P (fun s=>bnd (F (l,(s.1,s.2))) K) (pb z p f) :=
 Ans.bind hF (fun _=>True) (fun _ _ _ _=>trivial) fun v=>⟨(hK v).1,fun h=>(hK v).2 h.1⟩
theorem Zgz {l:List UInt8}(hl:l.length<=1048576000):Reader l E7 Bu:=⟨fun h=>(Tb hl h).w,fun a=>⟨0,a,Wb⟩⟩
theorem Zgx {l:List UInt8}(hl:l.length<=1048576000):Reader l Gu Bu:=⟨fun h=>(Zfn hl h).w,fun a=>⟨0,a,Zg⟩⟩
theorem Yry {l:List UInt8}(hl:l.length<=1048576000):Reader l L2 D5:=⟨fun h=>(Zo0 hl h).w,fun a=>⟨[],a,Zo1 hl⟩⟩
theorem Yrr {l:List UInt8}(hl:l.length<=1048576000):Reader l L1 D5:=⟨fun h=>(Zmb hl h).w,fun a=>⟨[],a,Zfp hl⟩⟩
theorem Yrx {l:List UInt8}(hl:l.length<=1048576000):Reader l Rk Eu:=⟨fun h=>Yta hl h,fun a=>⟨_,a,Ytb hl⟩⟩
theorem Yo6 {l:List UInt8}{a:Int}(hl:l.length<=1048576000):Rb (l,(a,true))=some (Lz,(a,true)):=by
 have bad:∀b,_:=fun b=>Zr2 (C:=Jh) (l:=l) (b:=b) (Zvl hl);unfold Gy at bad;unfold Rb;simp only[Zfp hl,Zg,Aa,Zju,Ac,Ax,Ad];rfl
theorem Yrq {l:List UInt8}(hl:l.length<=1048576000):Reader l Rb Fk:=⟨fun h=>Yo5 hl h,fun a=>⟨_,a,Yo6 hl⟩⟩
theorem Yq7 (t:List UInt8):Bw t=match Bu t with|none=>none|some (x,t)=>match Bu t with|none=>none|some (y,t)=>some (x*256+y,t):=by
 match t with
 | []=>rfl
 | [_]=>rfl
 | x::y::l=>simp only[Bw,Bu];congr 2
theorem Zok {l:List UInt8}(hl:l.length<=1048576000):Reader l Rl Bw:=by
 refine⟨fun {a t} h=>?_,fun a=>⟨_,a,by unfold Rl;simp only[Wb,Aa];rfl⟩⟩;rw[Yq7];unfold Rl;have h1:=Tb hl h;cases hp:Bu t with
 | none =>
  rw[hp]at h1;have e1:E7 (l,(a,false))=some (0,(a,true)):=h1;simp only[e1,Aa,Wb];exact⟨_,_,rfl⟩
 | some v =>
  obtain⟨x,q⟩:=v;rw[hp]at h1;obtain⟨b,e1,r1⟩:=h1;simp only[e1,Aa];have h2:=Tb hl r1;cases hq:Bu q with
  | none =>
   rw[hq]at h2;have e2:E7 (l,(b,false))=some (0,(b,true)):=h2;simp only[e2,Aa];exact⟨_,_,rfl⟩
  | some w =>
   obtain⟨y,u⟩:=w;rw[hq]at h2;obtain⟨c,e2,r2⟩:=h2;obtain⟨m,rfl,hm⟩:=Zgl hp;obtain⟨n,rfl,hn⟩:=Zgl hq;simp only[e2,Aa];refine⟨c, ?_,r2⟩;rw[show B1 .i64 (m:Int) 8=((m*2^8:Nat):Int) from Vi (k:=.i64) (s:=8) (by decide) (by show _<2^63;omega),orc (c:=m*2^8) (q:=m) (j:=8) rfl (by omega) (by omega) (by omega)];rw[show ((m*2^8+n:Nat):Int)=(m:Int)*256+n by omega]
theorem Zai {l:List UInt8}(hl:l.length<=1048576000):Reader l Ic Bw:=by
 refine⟨fun {a t} h=>?_,fun a=>⟨_,a,by unfold Ic;simp only[Ze hl,Aa,Ad];rfl⟩⟩;unfold Ic;simp only[Ze hl,Aa,Ac,h.2.2];cases hp:Bw t with
 | none=>exact⟨_,_,rfl⟩
 | some w =>
  obtain⟨n,q⟩:=w;refine⟨a+2,rfl, ?_⟩;obtain⟨rfl,_⟩:=O6 hp;exact h.app (u:=Bn n)
def Yi {β:Type}(z:β) (pr:List UInt8->Option (Row×List UInt8)) (k:Int) (g:Row->List UInt8->Int->List UInt8->β):List UInt8->β:=if k=1 then pb z pr (fun R=>g R [] 0) else if k=2 then pb z D5 (fun s=>g Lz s 0) else if k=3 then pb z Bu (fun n=>g Lz [] n) else g Lz [] 0
def Uo {β:Type}(z:β) (pr:List UInt8->Option (Row×List UInt8)) (fin:Int×Int×Rec->List UInt8->β):List UInt8->β:=pb z Bw fun gen=>pb z Bw fun place=>pb z Bu fun k=>Yi z pr k fun R key n=>pb z Bu fun who=>pb z Bu fun code=>pb z Bw fun seq q=>fin (gen,place,(k,R,key,n,who,seq,code)) q
abbrev Tup:=List UInt8×Int×List UInt8×Int×List UInt8×Int×Bool×List UInt8×Int×Int×Bool
theorem Zmp {α σ ρ:Type}(o:Option α) (f:α->σ) (K:σ->Option ρ):Ao (bnd o fun z=>some (.inl (f z))) K=bnd o fun z=>K (f z):=by cases o<;>rfl
theorem Ans.body {β:Type}{l:List UInt8}{z:β}{P:Prop}{FR:List UInt8×Int×Bool->Option (Row×Int×Bool)}{FT:List UInt8×Int×Bool->Option (List UInt8×Int×Bool)}{FO:List UInt8×Int×Bool->Option (Int×Int×Bool)}{pr:List UInt8->Option (Row×List UInt8)}{k:Int}{K:Tup->Option β}{g:Row->List UInt8->Int->List UInt8->β}
  (hR:Reader l FR pr) (hT:Reader l FT D5) (hO:Reader l FO Bu) (hQ:∀t v q,pr t=some (v,q)->v.1.length<=60) (hK:∀R key n,Ans l z (P/\R.1.length<=60/\key.length<=60) (fun s=>K (R.1,(R.2.1.1,(R.2.1.2,(R.2.2.1.1,(R.2.2.1.2,(R.2.2.2.1,(R.2.2.2.2,(key,(n,(s.1,s.2))))))))))) (g R key n)) :
  Ans l z P (fun s=>Ao (cnd (iEq k 1) (bnd (FR (l,(s.1,s.2))) (fun z4=>(some (.inl (z4.1.1,(z4.1.2.1.1,(z4.1.2.1.2,(z4.1.2.2.1.1,
 (z4.1.2.2.1.2,(z4.1.2.2.2.1,(z4.1.2.2.2.2,([],(0,(z4.2.1,z4.2.2)))))))))))))) (cnd (iEq k 2) (bnd (FT (l,(s.1,s.2))) (fun z4=>(some (.inl ([],(0,([],(0,([],(0,(false,(z4.1,(0,(z4.2.1,z4.2.2)))))))))))))) (cnd (iEq k 3) (bnd (FO (l,(s.1,s.2))) (fun z4=>(some (.inl ([],(0,([],(0,([],(0,(false,([],(z4.1,(z4.2.1,
 z4.2.2)))))))))))))) (some (.inl ([],(0,([],(0,([],(0,(false,([],(0,(s.1,s.2))))))))))))))) K) (Yi z pr k g):=by
 unfold Yi;simp only[I4];by_cases h1:k=1
 ·simp only[decide_eq_true h1,Ad,if_pos h1,Zmp];exact Ans.bind (K:=fun z4=>K (z4.1.1,(z4.1.2.1.1,(z4.1.2.1.2,(z4.1.2.2.1.1,(z4.1.2.2.1.2,(z4.1.2.2.2.1,(z4.1.2.2.2.2,([],(0,(z4.2.1,z4.2.2))))))))))) hR (fun R=>R.1.length<=60) hQ fun R=>⟨(hK R [] 0).1,fun h=>(hK R [] 0).2 ⟨h.1,h.2,Koa _⟩⟩
 by_cases h2:k=2
 ·simp only[decide_eq_false h1,decide_eq_true h2,Ad,Ac,if_neg h1,if_pos h2,Zmp];exact Ans.bind (K:=fun z4=>K ([],(0,([],(0,([],(0,(false,(z4.1,(0,(z4.2.1,z4.2.2))))))))))) hT (fun s=>s.length<=60) (fun t v q h=>(Tl h).2) fun R=>⟨(hK Lz R 0).1,fun h=>(hK Lz R 0).2 ⟨h.1,Koa _,h.2⟩⟩
 by_cases h3:k=3
 ·simp only[decide_eq_false h1,decide_eq_false h2,decide_eq_true h3,Ad,Ac,if_neg h1,if_neg h2,if_pos h3,Zmp];exact Ans.bind0 (K:=fun z4=>K ([],(0,([],(0,([],(0,(false,([],(z4.1,(z4.2.1,z4.2.2))))))))))) hO fun R=>⟨(hK Lz [] R).1,fun h=>(hK Lz [] R).2 ⟨h,Koa _,Koa _⟩⟩
 ·simp only[decide_eq_false h1,decide_eq_false h2,decide_eq_false h3,Ac,if_neg h1,if_neg h2,if_neg h3,Ax];exact⟨(hK Lz [] 0).1,fun h=>(hK Lz [] 0).2 ⟨h,Koa _,Koa _⟩⟩
def Ycq:Rec:=(0,(Lz,([],(0,(0,(0,0))))))
def Qv (o:Option (Int×Int×Rec)):Int×Int×Rec×Bool:=match o with
 | none=>(0,(0,(Ycq,false)))
 | some (g,p,r)=>(g,(p,(r,true)))
def zV:Int×Int×Rec×Bool:=(0,(0,(Ycq,false)))
def R6 (l:List UInt8) (x:Int×Int×Rec) (q:List UInt8):Int×Int×Rec×Bool:=match Bw q with
 | none=>zV
 | some (w,q')=>if w=(crc (l.take (l.length-q.length)):Nat)/\q'=[]/\C6 x.2.2=true then Qv (some x) else zV
theorem Ans.start {α β:Type}{l:List UInt8}{z:β}{F:List UInt8×Int×Bool->Option (α×Int×Bool)}{p:List UInt8->Option (α×List UInt8)}{K:α×Int×Bool->Option β}{f:α->List UInt8->β}(hF:Reader l F p) (hK:∀v,Ans l z True (fun s=>K (v,s)) (f v)):bnd (F (l,(0,false))) K=some (pb z p f l):=(Ans.bind0 hF hK).2 trivial 0 l (Rd.mk (l:=l) (k:=0) (by omega))
theorem Yq4 (t:List UInt8) (v:Row) (q:List UInt8) (h:Fk t=some (v,q)):v.1.length<=60:=(Zyr (Zyo h).2).1
theorem Rd.take {l t:List UInt8}{b:Int}(h:Rd l b t):b.toNat=l.length-t.length/\A9 (nOf b-0) l=l.take (l.length-t.length):=by
 have:=h.len;have h0:=h.1;have e:b.toNat=l.length-t.length:=by omega
 exact⟨e,by unfold A9 nOf;rw[e];rfl⟩
theorem Zud {l q q':List UInt8}{w:Int}{x:Int×Int×Rec}(h:Bw q=some (w,q')):R6 l x q=if w=(crc (l.take (l.length-q.length)):Nat)/\q'=[]/\C6 x.2.2=true then Qv (some x) else zV:=by
 unfold R6;rw[h]
theorem Zuc {l q:List UInt8}{x:Int×Int×Rec}(h:Bw q=none):R6 l x q=zV:=by
 unfold R6;rw[h]
theorem Yok {l:List UInt8}(hl:l.length<=1048576000):W5 l=some (Uo zV Fk (R6 l) l):=by
 unfold W5 Uo;refine Ans.start (Zai hl) fun gen=>?_
 dsimp only
 refine Ans.bind0 (Zai hl) fun place=>?_
 dsimp only
 refine Ans.bind0 (Zgx hl) fun k=>?_
 dsimp only
 refine Ans.body (Yrq hl) (Yrr hl) (Zgx hl) Yq4 fun R key n=>?_
 dsimp only
 refine Ans.bind0 (Zgx hl) fun who=>?_
 dsimp only
 refine Ans.bind0 (Zgx hl) fun code=>?_
 dsimp only
 refine Ans.bind0 (Zai hl) fun seq=>?_
 dsimp only
 refine⟨fun b=>?_,fun hP b q h=>?_⟩
 ·obtain⟨v,c,e⟩:=(Zai hl).bad b;unfold Na;simp only[e,Aa,Az,Ac,Bd,Ad];rfl
 ·have hb:=h.len;have h0:=h.1;have e6:Pc (k,((R.1,((R.2.1.1,R.2.1.2),((R.2.2.1.1,R.2.2.1.2),(R.2.2.2.1,R.2.2.2.2)))),(key,(n,(who,(seq,code))))))=some (C6 (k,R,key,n,who,seq,code)):=Zl9 (r:=(k,R,key,n,who,seq,code)) (by have:=hP.2.1;simp only;omega) (by have:=hP.2.2;simp only;omega);have hw:=(Zai hl).good h;show _=some (R6 l (gen,place,k,R,key,n,who,seq,code) q);unfold Na;cases hp:Bw q with
  | none =>
   rw[hp]at hw;obtain⟨v,c,e⟩:=hw;simp only[e,Aa,Az,Ac,Bd,Ad,Zuc hp];rfl
  | some u =>
   obtain⟨w,q'⟩:=u;rw[hp]at hw;obtain⟨c,e,r⟩:=hw;have hc:=r.len;rw[Zud hp];simp only[e,Aa,Bd,Ad];rw[show Cp 0 b (Ae l)=true from decide_eq_true (by simp only[Ai];omega),Av,(h.take).2,Zf (by rw[Kab];omega),Aa];by_cases hs:w=((crc (l.take (l.length-q.length)):Nat):Int)
   ·rw[I4,decide_eq_true hs,Ad];simp only[Aa,I4,e6];by_cases hq:q'=[]
    ·rw[show decide (c=Ae l)=true from decide_eq_true (by simp only[Ai];rw[hq]at hc;simp only[Ki]at hc;omega),Az,Ac];cases hk:C6 (k,R,key,n,who,seq,code) with
     | true=>rw[if_pos ⟨hs,hq,rfl⟩];rfl
     | false=>rw[if_neg (fun h=>by cases h.2.2)];rfl
    ·rw[show decide (c=Ae l)=false from decide_eq_false (by
      simp only[Ai];have:q'.length≠0:=fun h=>hq (Kae h);omega),Bd,Ad,if_neg (fun h=>hq h.2.1)];rfl
   ·rw[I4,decide_eq_false hs,Ac];simp only[Aa,Bd,Ad];rw[if_neg (fun h=>hs h.1)];rfl
def R7 (l t:List UInt8) (x:Int×Int×Rec) (q:List UInt8):Int×Int×Rec×Bool:=if q=[]/\l.drop (l.length-2)=Bn (crc t:Nat)/\C6 x.2.2=true then Qv (some x) else zV
theorem Ycj {m n:Int}(h0:0<=m) (h1:m<65536) (k0:0<=n) (k1:n<65536) (h:Bn m=Bn n):m=n:=by
 have a:=Sz h0 h1 [];have b:=Sz k0 k1 [];rw[h,b]at a;simp only[Ka,Kb,and_true]at a;exact a.symm
theorem Ysk {l:List UInt8}(hl:l.length<=1048576000) (h2:2<=l.length):T8 l=some (Uo zV Eu (R7 l (l.take (l.length-2))) (l.take (l.length-2))):=by
 have e2:A1 .i64 (Ae l) 2=((l.length-2:Nat):Int):=by
  rw[D3 (by simp only[Ai];omega) (by simp only[Ai];omega)];simp only[Ai];omega
 have et:A9 (nOf ((l.length-2:Nat):Int)-0) l=l.take (l.length-2):=rfl;have ht:(l.take (l.length-2)).length=l.length-2:=by rw[Kab];omega
 have ht2:(l.take (l.length-2)).length<=1048576000:=by omega
 have hd:(l.drop (l.length-2)).length=2:=by rw[Kpa];omega
 obtain⟨w,q0,hw⟩:∃w q0,Bw (l.drop (l.length-2))=some (w,q0):=by
  match l.drop (l.length-2),hd with
  | [x,y],_=>exact⟨_,_,rfl⟩
 obtain⟨ew,w0,w1⟩:=O6 hw;have eq0:q0=[]:=by
  have:=congrArg List.length ew;rw[hd,Kz,Tv]at this;exact Kae (by omega)
 rw[eq0,Kq]at ew;have eg:Nd (l,((l.length-2:Nat):Int))=some (w,(((l.length-2:Nat):Int)+2,true)):=by
  rw[Zao hl,Ow,hw]
 have es:Pg (l.take (l.length-2))=some ((crc (l.take (l.length-2)):Nat):Int):=Zg5 ht2;unfold T8 Uo;simp only[e2,et,eg,es];rw[A3 (by omega),Ac,show Cp 0 ((l.length-2:Nat):Int) (Ae l)=true from decide_eq_true (by simp only[Ai];omega),Av];generalize hT:l.take (l.length-2)=t at ht ht2;refine Ans.start (Zok ht2) fun gen=>?_
 dsimp only
 refine Ans.bind0 (Zok ht2) fun place=>?_
 dsimp only
 refine Ans.bind0 (Zgz ht2) fun k=>?_
 dsimp only
 refine Ans.body (Yrx ht2) (Yry ht2) (Zgz ht2) (fun _ _ _ h=>Yq3 h) fun R key n=>?_
 dsimp only
 refine Ans.bind0 (Zgz ht2) fun who=>?_
 dsimp only
 refine Ans.bind0 (Zgz ht2) fun code=>?_
 dsimp only
 refine Ans.bind0 (Zok ht2) fun seq=>?_
 dsimp only
 refine⟨fun b=>?_,fun hP b q h=>?_⟩
 ·simp only[Aa,Ad];rfl
 ·have hb:=h.len;have e6:Pf (k,((R.1,((R.2.1.1,R.2.1.2),((R.2.2.1.1,R.2.2.1.2),(R.2.2.2.1,R.2.2.2.2)))),(key,(n,(who,(seq,code))))))=some (C6 (k,R,key,n,who,seq,code)):=Zow (r:=(k,R,key,n,who,seq,code)) (by have:=hP.2.1;simp only;omega) (by have:=hP.2.2;simp only;omega);show _=some (R7 l t (gen,place,k,R,key,n,who,seq,code) q);simp only[Aa,Ac,Av];by_cases hq:q=[]
  ·have:b=((l.length-2:Nat):Int):=by rw[hq]at hb;simp only[Ki]at hb;omega
   rw[this,Eo,Ac];have hc:=Nw t;by_cases hs:w=((crc t:Nat):Int)
   ·rw[hs,Eo,Ac,e6,Aa];unfold R7;cases hk:C6 (k,R,key,n,who,seq,code) with
    | true=>rw[if_pos ⟨hq,by rw[ew,hs],rfl⟩];rfl
    | false=>rw[if_neg (fun h=>by cases h.2.2)];rfl
   ·rw[Jq hs,Ad];unfold R7;rw[if_neg (fun h=>hs (Ycj w0 w1 (by omega) (by omega) (by rw[<-ew];exact h.2.1)))];rfl
  ·have:b≠((l.length-2:Nat):Int):=fun hh=>hq (Kae (by omega));rw[Jq this,Ad];unfold R7;rw[if_neg (fun h=>hq h.1)];rfl
def Jx (pr:List UInt8->Option (Row×List UInt8)) (k:Int) (l:List UInt8):Option ((Row×List UInt8×Int)×List UInt8) :=
 if k=1 then (match pr l with
  | none=>none
  | some (r,l)=>some ((r,[],0),l))
 else if k=2 then (match D5 l with
  | none=>none
  | some (s,l)=>some ((([],(0,[]),(0,[]),0,false),s,0),l))
 else if k=3 then (match Bu l with
  | none=>none
  | some (n,l)=>some ((([],(0,[]),(0,[]),0,false),[],n),l))
 else some ((([],(0,[]),(0,[]),0,false),[],0),l)
def Jy (pr:List UInt8->Option (Row×List UInt8)) (l:List UInt8):Option ((Int×Int×Rec)×List UInt8):=match Bw l with
 | none=>none
 | some (gen,l)=>match Bw l with
  | none=>none
  | some (place,l)=>match Bu l with
   | none=>none
   | some (k,l)=>match Jx pr k l with
    | none=>none
    | some ((R,key,n),l)=>match Bu l with
     | none=>none
     | some (who,l)=>match Bu l with
      | none=>none
      | some (code,l)=>match Bw l with
       | none=>none
       | some (seq,l)=>some ((gen,place,(k,R,key,n,who,seq,code)),l)
theorem Zxk:Jy Fk=I6:=rfl
theorem Ydh {β:Type}(z:β) (pr:List UInt8->Option (Row×List UInt8)) (k:Int) (g:Row->List UInt8->Int->List UInt8->β) (t:List UInt8):Yi z pr k g t=match Jx pr k t with
  | none=>z
  | some ((R,key,n),q)=>g R key n q:=by
 unfold Yi Jx;by_cases h1:k=1
 ·simp only[if_pos h1,pb];cases pr t<;>rfl
 by_cases h2:k=2
 ·simp only[if_neg h1,if_pos h2,pb];cases D5 t<;>rfl
 by_cases h3:k=3
 ·simp only[if_neg h1,if_neg h2,if_pos h3,pb];cases Bu t<;>rfl
 ·simp only[if_neg h1,if_neg h2,if_neg h3];rfl
theorem V6 {α β:Type}{z:β}{p:List UInt8->Option (α×List UInt8)}{f:α->List UInt8->β}{t:List UInt8}(h:p t=none):pb z p f t=z:=by unfold pb;rw[h]
theorem V7 {α β:Type}{z:β}{p:List UInt8->Option (α×List UInt8)}{f:α->List UInt8->β}{t q:List UInt8}{v:α}(h:p t=some (v,q)):pb z p f t=f v q:=by unfold pb;rw[h]
theorem Zq7 {β:Type}(z:β) (pr:List UInt8->Option (Row×List UInt8)) (fin:Int×Int×Rec->List UInt8->β) (t:List UInt8):Uo z pr fin t=match Jy pr t with
  | none=>z
  | some (x,q)=>fin x q:=by
 unfold Uo Jy;cases h1:Bw t with
 | none=>rw[V6 h1]
 | some v =>
  obtain⟨gen,t1⟩:=v;rw[V7 h1];simp only;cases h2:Bw t1 with
  | none=>rw[V6 h2]
  | some v =>
   obtain⟨place,t2⟩:=v;rw[V7 h2];simp only;cases h3:Bu t2 with
   | none=>rw[V6 h3]
   | some v =>
    obtain⟨k,t3⟩:=v;rw[V7 h3];simp only[Ydh];cases Jx pr k t3 with
    | none=>rfl
    | some v =>
     obtain⟨⟨R,key,n⟩,t4⟩:=v;simp only;cases h4:Bu t4 with
     | none=>rw[V6 h4]
     | some v =>
      obtain⟨who,t5⟩:=v;rw[V7 h4];simp only;cases h5:Bu t5 with
      | none=>rw[V6 h5]
      | some v =>
       obtain⟨code,t6⟩:=v;rw[V7 h5];simp only;cases h6:Bw t6 with
       | none=>rw[V6 h6]
       | some v=>rw[V7 h6]
theorem Yvo {w:Int}{c:Nat}(w0:0<=w) (w1:w<65536) (hc:c<65536):Bn w=Bn (c:Int) ↔ w=c:=⟨Ycj w0 w1 (by omega) (by omega),fun h=>by rw[h]⟩
theorem Zfa {l q:List UInt8}{x:Int×Int×Rec}(h:I6 l=some (x,q)):Gj l=if q=Bn (crc (l.take (l.length-2)))/\q.length=2/\C6 x.2.2=true then some x else none:=by
 unfold Gj;rw[h]
theorem Zls {l:List UInt8}(h:I6 l=none):Gj l=none:=by
 unfold Gj;rw[h]
theorem Yoj {l:List UInt8}(hl:l.length<=1048576000):W5 l=some (Qv (Gj l)):=by
 rw[Yok hl,Zq7,Zxk];cases hp:I6 l with
 | none=>rw[Zls hp];rfl
 | some v =>
  obtain⟨x,q⟩:=v;rw[Zfa hp];show some (R6 l x q)=_;congr 1;cases hq:Bw q with
  | none =>
   rw[Zuc hq,if_neg]
   ·rfl
   ·rintro ⟨h1,h2,_⟩;have:=Sz (n:=(crc (l.take (l.length-2)):Nat)) (by omega) (by have:=Nw (l.take (l.length-2));omega) [];rw[Kq,<-h1,hq]at this;cases this
  | some u =>
   obtain⟨w,q'⟩:=u;rw[Zud hq];obtain⟨e,w0,w1⟩:=O6 hq;have hc:=Nw (l.take (l.length-2));by_cases hq':q'=[]
   ·have e2:q=Bn w:=by rw[e,hq',Kq]
    have e3:q.length=2:=by rw[e2];rfl
    have hi:=Yvo (c:=crc (l.take (l.length-2))) w0 w1 hc;rw[e3];by_cases h:w=((crc (l.take (l.length-2)):Nat):Int)/\C6 x.2.2=true
    ·rw[if_pos ⟨h.1,hq',h.2⟩,if_pos ⟨by rw[e2];exact hi.2 h.1,rfl,h.2⟩]
    ·rw[if_neg (fun k=>h ⟨k.1,k.2.2⟩),if_neg (fun k=>h ⟨hi.1 (by rw[<-e2];exact k.1),k.2.2⟩)];rfl
   ·have e3:q.length≠2:=by
     have:q'.length≠0:=fun h=>hq' (Kae h);rw[e,Kz,Tv];omega
    rw[if_neg (fun k=>hq' k.2.1),if_neg (fun k=>e3 k.2.1)];rfl
theorem Yq0 {k n:Int}{t q:List UInt8}{R:Row}{key:List UInt8}(h:Jx Eu k t=some ((R,key,n),q)) (hk:I1 k R key n=true):Jx Fk k t=some ((R,key,n),q):=by
 unfold Jx at h ⊢;by_cases h1:k=1
 ·rw[if_pos h1]at h ⊢;cases hr:Eu t with
  | none=>rw[hr]at h;cases h
  | some v =>
   obtain⟨r,q1⟩:=v;rw[hr]at h;simp only[Ka,Kb]at h;obtain⟨⟨rfl,rfl,rfl⟩,rfl⟩:=h;unfold I1 at hk;rw[if_pos h1]at hk;simp only[Kd]at hk;rw[Zxm hr,if_pos hk.1.1]
 ·rw[if_neg h1]at h ⊢;exact h
theorem Yqz {k:Int}{t q:List UInt8}{v:Row×List UInt8×Int}(h:Jx Fk k t=some (v,q)):Jx Eu k t=some (v,q):=by
 unfold Jx at h ⊢;by_cases h1:k=1
 ·rw[if_pos h1]at h ⊢;cases hr:Eu t with
  | none=>rw[Yq5 hr]at h;cases h
  | some w =>
   obtain⟨r,q1⟩:=w;rw[Zxm hr]at h;by_cases hh:Ci r=true
   ·rw[if_pos hh]at h;exact h
   ·rw[if_neg hh]at h;cases h
 ·rw[if_neg h1]at h ⊢;exact h
theorem Yq2 {t q:List UInt8}{x:Int×Int×Rec}(h:Jy Eu t=some (x,q)) (hk:C6 x.2.2=true):Jy Fk t=some (x,q):=by
 unfold Jy at h ⊢;cases h1:Bw t with
 | none=>rw[h1]at h;cases h
 | some v =>
  obtain⟨gen,t1⟩:=v;rw[h1]at h;simp only at h ⊢;cases h2:Bw t1 with
  | none=>rw[h2]at h;cases h
  | some v =>
   obtain⟨place,t2⟩:=v;rw[h2]at h;simp only at h ⊢;cases h3:Bu t2 with
   | none=>rw[h3]at h;cases h
   | some v =>
    obtain⟨k,t3⟩:=v;rw[h3]at h;simp only at h ⊢;cases h4:Jx Eu k t3 with
    | none=>rw[h4]at h;cases h
    | some v =>
     obtain⟨⟨R,key,n⟩,t4⟩:=v;rw[h4]at h;simp only at h;have hb:I1 k R key n=true:=by
      split at h
      ·cases h
      split at h
      ·cases h
      split at h
      ·cases h
      simp only[Ka,Kb]at h;obtain⟨rfl,_⟩:=h;simp only[C6,Kd]at hk;exact hk.1
     rw[Yq0 h4 hb];exact h
theorem Yq1 {t q:List UInt8}{x:Int×Int×Rec}(h:Jy Fk t=some (x,q)):Jy Eu t=some (x,q):=by
 unfold Jy at h ⊢;cases h1:Bw t with
 | none=>rw[h1]at h;cases h
 | some v =>
  obtain⟨gen,t1⟩:=v;rw[h1]at h;simp only at h ⊢;cases h2:Bw t1 with
  | none=>rw[h2]at h;cases h
  | some v =>
   obtain⟨place,t2⟩:=v;rw[h2]at h;simp only at h ⊢;cases h3:Bu t2 with
   | none=>rw[h3]at h;cases h
   | some v =>
    obtain⟨k,t3⟩:=v;rw[h3]at h;simp only at h ⊢;cases h4:Jx Fk k t3 with
    | none=>rw[h4]at h;cases h
    | some v =>
     rw[h4]at h;rw[Yqz h4];exact h
theorem Ysj {l:List UInt8}(hl:l.length<=1048576000):T8 l=some (Qv (Gj l)):=by
 by_cases h2:2<=l.length
 ·rw[Ysk hl h2,Zq7];congr 1;have hd:(l.drop (l.length-2)).length=2:=by rw[Kpa];omega
  have hsp:l.take (l.length-2)++l.drop (l.length-2)=l:=Ksc _ _;have up:∀x,Jy Eu (l.take (l.length-2))=some (x,[])->C6 x.2.2=true->I6 l=some (x,l.drop (l.length-2)):=fun x hp hk=>by
   have h1:=Yq2 hp hk;rw[Zxk]at h1;obtain⟨e,a,b,c,d⟩:=Zoa h1;rw[Kq]at e;have:=Zxl hk a b c d (l.drop (l.length-2));rw[<-e,hsp]at this;exact this
  have dn:∀x q,I6 l=some (x,q)->q.length=2->C6 x.2.2=true->Jy Eu (l.take (l.length-2))=some (x,[]):=fun x q hp hq hk=>by
   obtain⟨e,a,b,c,d⟩:=Zoa hp;have e1:l.take (l.length-2)=Io x.1 x.2.1 x.2.2:=by
    have:l.length-2=(Io x.1 x.2.1 x.2.2).length:=by
     have:=congrArg List.length e;rw[Kz,hq]at this;omega
    rw[this]
    conv=>lhs;arg 2;rw[e]
    rw[List.take_left]
   have:=Zxl hk a b c d [];rw[Kq,<-e1]at this;exact Yq1 this
  by_cases hg:∃x,Gj l=some x
  ·obtain⟨x,hx⟩:=hg;cases hp:I6 l with
   | none=>rw[Zls hp]at hx;cases hx
   | some v =>
    obtain⟨y,q⟩:=v;rw[Zfa hp]at hx;by_cases hc:q=Bn (crc (l.take (l.length-2)):Nat)/\q.length=2/\C6 y.2.2=true
    ·rw[Zfa hp,if_pos hc];rw[dn y q hp hc.2.1 hc.2.2];have e2:=up y (dn y q hp hc.2.1 hc.2.2) hc.2.2;rw[hp]at e2;simp only[Ka,Kb,true_and]at e2;simp only[R7];rw[if_pos ⟨trivial,by rw[<-e2];exact hc.1,hc.2.2⟩]
    ·rw[if_neg hc]at hx;cases hx
  ·have hn:Gj l=none:=by
    cases h:Gj l with
    | none=>rfl
    | some x=>exact (hg ⟨x,h⟩).elim
   rw[hn];cases hp:Jy Eu (l.take (l.length-2)) with
   | none=>rfl
   | some v =>
    obtain⟨x,q⟩:=v;simp only[R7];rw[if_neg]
    ·rfl
    ·rintro ⟨rfl,hw,hk⟩;have h1:=Zfa (up x hp hk);rw[if_pos ⟨hw,hd,hk⟩,hn]at h1;cases h1
 ·have e2:A1 .i64 (Ae l) 2=(l.length:Int)-2:=D3 (by simp only[Ai];omega) (by simp only[Ai];omega);unfold T8;simp only[e2];rw[A5 (by omega),Ad];have:Gj l=none:=Zls (by unfold I6;rw[Znx (by omega)]);rw[this];rfl
theorem Yi2 (l:List UInt8):smC 60 (Qv (Gj l)).2.2.1:=by
 cases h:Gj l with
 | none=>exact⟨⟨by decide,by decide,by decide⟩,by decide⟩
 | some x =>
  have hk:=(Yre h).2.1;obtain⟨g,p,k,R,key,n,w,sq,cd⟩:=x;simp only[C6,Kd]at hk;have hb:=hk.1;show smR 60 R/\key.length<=60;unfold I1 at hb;have z:E2 R=true->smR 60 R:=fun h=>by rw[Zgc h];exact⟨by decide,by decide,by decide⟩
  have e:key.isEmpty=true->key.length<=60:=fun h=>by rw[Ksd.1 h];exact Koa _
  split at hb
  ·simp only[Kd]at hb;exact⟨Zyr hb.1.1,e hb.1.2⟩
  split at hb
  ·simp only[Kd]at hb;exact⟨z hb.1.1,by have:=(Zw hb.1.2).2;omega⟩
  split at hb
  ·simp only[Kd]at hb;exact⟨z hb.1.1,e hb.1.2⟩
  split at hb
  ·simp only[Kd]at hb;exact⟨z hb.1.1,e hb.1.2⟩
  ·cases hb
end
end Go.Vs
