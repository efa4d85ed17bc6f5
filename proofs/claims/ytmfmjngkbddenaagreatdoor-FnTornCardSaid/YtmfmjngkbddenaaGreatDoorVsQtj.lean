import Derived.Test.YtmfmjngkbddenaaGreatDoorVsQti
set_option linter.all false
namespace Go.Vs
noncomputable section
structure Reader {α:Type} (l:List UInt8) (F:List UInt8×Int×Bool->Option (α×Int×Bool)) (p:List UInt8->Option (α×List UInt8)):Prop where
 good:∀{a:Int} {t:List UInt8},Rd l a t->RdW l (F (l,(a,false))) (p t)
 bad:∀a:Int,∃v b,F (l,(a,true))=some (v,(b,true))
theorem RdR.w {α:Type}{l:List UInt8}{z:α}{o:Option (α×Int×Bool)}{p:Option (α×List UInt8)}{a:Int}(h:RdR l z o p a):RdW l o p:=by
 cases p with
 | none=>exact⟨z,a,h⟩
 | some v=>exact h
def Ans {β:Type}(l:List UInt8) (z:β) (P:Prop) (K:Int×Bool->Option β) (f:List UInt8->β):Prop:=(∀b,K (b,true)=some z)/\(P->∀b t,Rd l b t->K (b,false)=some (f t))
def pb {α β:Type}(z:β) (p:List UInt8->Option (α×List UInt8)) (f:α->List UInt8->β) (t:List UInt8):β:=match p t with
 | none=>z
 | some (v,q)=>f v q
theorem Ans.bind {α β:Type}{l:List UInt8}{z:β}{P:Prop}{F:List UInt8×Int×Bool->Option (α×Int×Bool)}{p:List UInt8->Option (α×List UInt8)}{K:α×Int×Bool->Option β}{f:α->List UInt8->β}(hF:Reader l F p) (Q:α->Prop) (hQ:∀t v q,p t=some (v,q)->Q v) (hK:∀v,Ans l z (P/\Q v) (fun s=>K (v,s)) (f v)):Ans l z P (fun s=>bnd (F (l,(s.1,s.2))) K) (pb z p f):=by
 refine⟨fun b=>?_,fun hP b t h=>?_⟩
 ·obtain⟨v,c,e⟩:=hF.bad b;simp only[e,Aa];exact (hK v).1 c
 have:=hF.good h;unfold pb;simp only;cases hp:p t with
 | none =>
  rw[hp]at this;obtain⟨v,c,e⟩:=this;rw[e];exact (hK v).1 c
 | some w =>
  obtain⟨v,q⟩:=w;rw[hp]at this;obtain⟨c,e,r⟩:=this;rw[e];exact (hK v).2 ⟨hP,hQ _ _ _ hp⟩ c q r
theorem Ans.bind0 {α β:Type}{l:List UInt8}{z:β}{P:Prop}{F:List UInt8×Int×Bool->Option (α×Int×Bool)}{p:List UInt8->Option (α×List UInt8)}{K:α×Int×Bool->Option β}{f:α->List UInt8->β}(hF:Reader l F p) (hK:∀v,Ans l z P (fun s=>K (v,s)) (f v)):Ans l z P (fun s=>bnd (F (l,(s.1,s.2))) K) (pb z p f) :=
 Ans.bind hF (fun _=>True) (fun _ _ _ _=>trivial) fun v=>⟨(hK v).1,fun h=>(hK v).2 h.1⟩
theorem Zho {l:List UInt8}(hl:l.length<=1048576000):Reader l Hc Ci:=⟨fun h=>(Zga hl h).w,fun a=>⟨0,a,Zac⟩⟩
theorem Ytc {l:List UInt8}(hl:l.length<=1048576000):Reader l Mo Ez:=⟨fun h=>(Zm7 hl h).w,fun a=>⟨[],a,Zgc hl⟩⟩
theorem Yp0 {l:List UInt8}{a:Int}(hl:l.length<=1048576000):R1 (l,(a,true))=some (Gm,(a,true)):=by
 have bad:∀b,_:=fun b=>Zs6 (C:=J3) (l:=l) (b:=b) (Zw0 hl);unfold Iu at bad;unfold R1;simp only[Zgc hl,Zac,Aa,Zkj,Ac,Ar,Ad];rfl
theorem Ytb {l:List UInt8}(hl:l.length<=1048576000):Reader l R1 Md:=⟨fun h=>Ypz hl h,fun a=>⟨_,a,Yp0 hl⟩⟩
theorem Zbf {l:List UInt8}(hl:l.length<=1048576000):Reader l Io Cu:=by
 refine⟨fun {a t} h=>?_,fun a=>⟨_,a,by unfold Io;simp only[Zaa hl,Aa,Ad];rfl⟩⟩;unfold Io;simp only[Zaa hl,Aa,Ac,h.2.2];cases hp:Cu t with
 | none=>exact⟨_,_,rfl⟩
 | some w =>
  obtain⟨n,q⟩:=w;refine⟨a+2,rfl, ?_⟩;obtain⟨rfl,_⟩:=Rq hp;exact h.app (u:=Bh n)
def Za {β:Type}(z:β) (pr:List UInt8->Option (Row×List UInt8)) (k:Int) (g:Row->List UInt8->Int->List UInt8->β):List UInt8->β:=if k=1 then pb z pr (fun R=>g R [] 0) else if k=2 then pb z Ez (fun s=>g Gm s 0) else if k=3 then pb z Ci (fun n=>g Gm [] n) else g Gm [] 0
def Zed {β:Type}(z:β) (pr:List UInt8->Option (Row×List UInt8)) (fin:Int×Int×Rec->List UInt8->β):List UInt8->β:=pb z Cu fun gen=>pb z Cu fun place=>pb z Ci fun k=>Za z pr k fun R key n=>pb z Ci fun who=>pb z Ci fun code=>pb z Cu fun seq q=>fin (gen,place,(k,R,key,n,who,seq,code)) q
abbrev Tup:=List UInt8×Int×List UInt8×Int×List UInt8×Int×Bool×List UInt8×Int×Int×Bool
theorem Znm {α σ ρ:Type}(o:Option α) (f:α->σ) (K:σ->Option ρ):Ao (bnd o fun z=>some (.inl (f z))) K=bnd o fun z=>K (f z):=by cases o<;>rfl
theorem Ans.body {β:Type}{l:List UInt8}{z:β}{P:Prop}{FR:List UInt8×Int×Bool->Option (Row×Int×Bool)}{FT:List UInt8×Int×Bool->Option (List UInt8×Int×Bool)}{FO:List UInt8×Int×Bool->Option (Int×Int×Bool)}{pr:List UInt8->Option (Row×List UInt8)}{k:Int}{K:Tup->Option β}{g:Row->List UInt8->Int->List UInt8->β}
  (hR:Reader l FR pr) (hT:Reader l FT Ez) (hO:Reader l FO Ci) (hQ:∀t v q,pr t=some (v,q)->v.1.length<=60) (hK:∀R key n,Ans l z (P/\R.1.length<=60/\key.length<=60) (fun s=>K (R.1,(R.2.1.1,(R.2.1.2,(R.2.2.1.1,(R.2.2.1.2,(R.2.2.2.1,(R.2.2.2.2,(key,(n,(s.1,s.2))))))))))) (g R key n)) :
  Ans l z P (fun s=>Ao (cnd (iEq k 1) (bnd (FR (l,(s.1,s.2))) (fun z4=>(some (.inl (z4.1.1,(z4.1.2.1.1,(z4.1.2.1.2,(z4.1.2.2.1.1,
 (z4.1.2.2.1.2,(z4.1.2.2.2.1,(z4.1.2.2.2.2,([],(0,(z4.2.1,z4.2.2)))))))))))))) (cnd (iEq k 2) (bnd (FT (l,(s.1,s.2))) (fun z4=>(some (.inl ([],(0,([],(0,([],(0,(false,(z4.1,(0,(z4.2.1,z4.2.2)))))))))))))) (cnd (iEq k 3) (bnd (FO (l,(s.1,s.2))) (fun z4=>(some (.inl ([],(0,([],(0,([],(0,(false,([],(z4.1,(z4.2.1,
 z4.2.2)))))))))))))) (some (.inl ([],(0,([],(0,([],(0,(false,([],(0,(s.1,s.2))))))))))))))) K) (Za z pr k g):=by
 unfold Za;simp only[K4];by_cases h1:k=1
 ·simp only[decide_eq_true h1,Ad,if_pos h1,Znm];exact Ans.bind (K:=fun z4=>K (z4.1.1,(z4.1.2.1.1,(z4.1.2.1.2,(z4.1.2.2.1.1,(z4.1.2.2.1.2,(z4.1.2.2.2.1,(z4.1.2.2.2.2,([],(0,(z4.2.1,z4.2.2))))))))))) hR (fun R=>R.1.length<=60) hQ fun R=>⟨(hK R [] 0).1,fun h=>(hK R [] 0).2 ⟨h.1,h.2,Kda _⟩⟩
 by_cases h2:k=2
 ·simp only[decide_eq_false h1,decide_eq_true h2,Ad,Ac,if_neg h1,if_pos h2,Znm];exact Ans.bind (K:=fun z4=>K ([],(0,([],(0,([],(0,(false,(z4.1,(0,(z4.2.1,z4.2.2))))))))))) hT (fun s=>s.length<=60) (fun t v q h=>(Xk h).2) fun R=>⟨(hK Gm R 0).1,fun h=>(hK Gm R 0).2 ⟨h.1,Kda _,h.2⟩⟩
 by_cases h3:k=3
 ·simp only[decide_eq_false h1,decide_eq_false h2,decide_eq_true h3,Ad,Ac,if_neg h1,if_neg h2,if_pos h3,Znm];exact Ans.bind0 (K:=fun z4=>K ([],(0,([],(0,([],(0,(false,([],(z4.1,(z4.2.1,z4.2.2))))))))))) hO fun R=>⟨(hK Gm [] R).1,fun h=>(hK Gm [] R).2 ⟨h,Kda _,Kda _⟩⟩
 simp only[decide_eq_false h1,decide_eq_false h2,decide_eq_false h3,Ac,if_neg h1,if_neg h2,if_neg h3,Ar];exact⟨(hK Gm [] 0).1,fun h=>(hK Gm [] 0).2 ⟨h,Kda _,Kda _⟩⟩
def Ydy:Rec:=(0,(Gm,([],(0,(0,(0,0))))))
def W1 (o:Option (Int×Int×Rec)):Int×Int×Rec×Bool:=match o with
 | none=>(0,(0,(Ydy,false)))
 | some (g,p,r)=>(g,(p,(r,true)))
def zV:Int×Int×Rec×Bool:=(0,(0,(Ydy,false)))
def Sv (l:List UInt8) (x:Int×Int×Rec) (q:List UInt8):Int×Int×Rec×Bool:=match Cu q with
 | none=>zV
 | some (w,q')=>if w=(crc (l.take (l.length-q.length)):Nat)/\q'=[]/\Cf x.2.2=true then W1 (some x) else zV
theorem Ans.start {α β:Type}{l:List UInt8}{z:β}{F:List UInt8×Int×Bool->Option (α×Int×Bool)}{p:List UInt8->Option (α×List UInt8)}{K:α×Int×Bool->Option β}{f:α->List UInt8->β}(hF:Reader l F p) (hK:∀v,Ans l z True (fun s=>K (v,s)) (f v)):bnd (F (l,(0,false))) K=some (pb z p f l):=(Ans.bind0 hF hK).2 trivial 0 l (Rd.mk (l:=l) (k:=0) (by omega))
theorem Ysg (t:List UInt8) (v:Row) (q:List UInt8) (h:Md t=some (v,q)):v.1.length<=60:=(Yad (Zz9 h).2).1
theorem Rd.take {l t:List UInt8}{b:Int}(h:Rd l b t):b.toNat=l.length-t.length/\Br (nOf b-0) l=l.take (l.length-t.length):=by
 have:=h.len;have h0:=h.1;have e:b.toNat=l.length-t.length:=by omega
 exact⟨e,by unfold Br nOf;rw[e];rfl⟩
theorem Zvk {l q q':List UInt8}{w:Int}{x:Int×Int×Rec}(h:Cu q=some (w,q')):Sv l x q=if w=(crc (l.take (l.length-q.length)):Nat)/\q'=[]/\Cf x.2.2=true then W1 (some x) else zV:=by
 unfold Sv;rw[h]
theorem Zvj {l q:List UInt8}{x:Int×Int×Rec}(h:Cu q=none):Sv l x q=zV:=by
 unfold Sv;rw[h]
theorem Ypg {l:List UInt8}(hl:l.length<=1048576000):X5 l=some (Zed zV Md (Sv l) l):=by
 unfold X5 Zed;refine Ans.start (Zbf hl) fun gen=>?_
 dsimp only
 refine Ans.bind0 (Zbf hl) fun place=>?_
 dsimp only
 refine Ans.bind0 (Zho hl) fun k=>?_
 dsimp only
 refine Ans.body (Ytb hl) (Ytc hl) (Zho hl) Ysg fun R key n=>?_
 dsimp only
 refine Ans.bind0 (Zho hl) fun who=>?_
 dsimp only
 refine Ans.bind0 (Zho hl) fun code=>?_
 dsimp only
 refine Ans.bind0 (Zbf hl) fun seq=>?_
 dsimp only
 refine⟨fun b=>?_,fun hP b q h=>?_⟩
 ·obtain⟨v,c,e⟩:=(Zbf hl).bad b;unfold Nw;simp only[e,Aa,Av,Ac,A5,Ad];rfl
 have hb:=h.len;have h0:=h.1;have e6:P0 (k,((R.1,((R.2.1.1,R.2.1.2),((R.2.2.1.1,R.2.2.1.2),(R.2.2.2.1,R.2.2.2.2)))),(key,(n,(who,(seq,code))))))=some (Cf (k,R,key,n,who,seq,code)):=Zm3 (r:=(k,R,key,n,who,seq,code)) (by have:=hP.2.1;simp only;omega) (by have:=hP.2.2;simp only;omega);have hw:=(Zbf hl).good h;show _=some (Sv l (gen,place,k,R,key,n,who,seq,code) q);unfold Nw;cases hp:Cu q with
 | none =>
  rw[hp]at hw;obtain⟨v,c,e⟩:=hw;simp only[e,Aa,Av,Ac,A5,Ad,Zvj hp];rfl
 | some u =>
  obtain⟨w,q'⟩:=u;rw[hp]at hw;obtain⟨c,e,r⟩:=hw;have hc:=r.len;rw[Zvk hp];simp only[e,Aa,A5,Ad];rw[show Di 0 b (Ah l)=true from decide_eq_true (by simp only[Ak];omega),Az,(h.take).2,Zab (by rw[Kua];omega),Aa];by_cases hs:w=((crc (l.take (l.length-q.length)):Nat):Int)
  ·rw[K4,decide_eq_true hs,Ad];simp only[Aa,K4,e6];by_cases hq:q'=[]
   ·rw[show decide (c=Ah l)=true from decide_eq_true (by simp only[Ak];rw[hq]at hc;simp only[Ki]at hc;omega),Av,Ac];cases hk:Cf (k,R,key,n,who,seq,code) with
    | true=>rw[if_pos ⟨hs,hq,rfl⟩];rfl
    | false=>rw[if_neg (fun h=>by cases h.2.2)];rfl
   rw[show decide (c=Ah l)=false from decide_eq_false (by
    simp only[Ak];have:q'.length≠0:=fun h=>hq (Knf h);omega),A5,Ad,if_neg (fun h=>hq h.2.1)];rfl
  rw[K4,decide_eq_false hs,Ac];simp only[Aa,A5,Ad];rw[if_neg (fun h=>hs h.1)];rfl
theorem Yxw {m n:Int}(h0:0<=m) (h1:m<65536) (k0:0<=n) (k1:n<65536) (h:Bh m=Bh n):m=n:=by
 have a:=Tr h0 h1 [];have b:=Tr k0 k1 [];rw[h,b]at a;simp only[Ka,Kb,and_true]at a;exact a.symm
def Zg9 (pr:List UInt8->Option (Row×List UInt8)) (k:Int) (l:List UInt8):Option ((Row×List UInt8×Int)×List UInt8) :=
 if k=1 then (match pr l with
  | none=>none
  | some (r,l)=>some ((r,[],0),l))
 else if k=2 then (match Ez l with
  | none=>none
  | some (s,l)=>some ((([],(0,[]),(0,[]),0,false),s,0),l))
 else if k=3 then (match Ci l with
  | none=>none
  | some (n,l)=>some ((([],(0,[]),(0,[]),0,false),[],n),l))
 else some ((([],(0,[]),(0,[]),0,false),[],0),l)
def Zo0 (pr:List UInt8->Option (Row×List UInt8)) (l:List UInt8):Option ((Int×Int×Rec)×List UInt8):=match Cu l with
 | none=>none
 | some (gen,l)=>match Cu l with
  | none=>none
  | some (place,l)=>match Ci l with
   | none=>none
   | some (k,l)=>match Zg9 pr k l with
    | none=>none
    | some ((R,key,n),l)=>match Ci l with
     | none=>none
     | some (who,l)=>match Ci l with
      | none=>none
      | some (code,l)=>match Cu l with
       | none=>none
       | some (seq,l)=>some ((gen,place,(k,R,key,n,who,seq,code)),l)
theorem Yse:Zo0 Md=O8:=rfl
theorem Yem {β:Type}(z:β) (pr:List UInt8->Option (Row×List UInt8)) (k:Int) (g:Row->List UInt8->Int->List UInt8->β) (t:List UInt8):Za z pr k g t=match Zg9 pr k t with
  | none=>z
  | some ((R,key,n),q)=>g R key n q:=by
 unfold Za Zg9;by_cases h1:k=1
 ·simp only[if_pos h1,pb];cases pr t<;>rfl
 by_cases h2:k=2
 ·simp only[if_neg h1,if_pos h2,pb];cases Ez t<;>rfl
 by_cases h3:k=3
 ·simp only[if_neg h1,if_neg h2,if_pos h3,pb];cases Ci t<;>rfl
 simp only[if_neg h1,if_neg h2,if_neg h3];rfl
theorem Ww {α β:Type}{z:β}{p:List UInt8->Option (α×List UInt8)}{f:α->List UInt8->β}{t:List UInt8}(h:p t=none):pb z p f t=z:=by unfold pb;rw[h]
theorem Wx {α β:Type}{z:β}{p:List UInt8->Option (α×List UInt8)}{f:α->List UInt8->β}{t q:List UInt8}{v:α}(h:p t=some (v,q)):pb z p f t=f v q:=by unfold pb;rw[h]
theorem Yen {β:Type}(z:β) (pr:List UInt8->Option (Row×List UInt8)) (fin:Int×Int×Rec->List UInt8->β) (t:List UInt8):Zed z pr fin t=match Zo0 pr t with
  | none=>z
  | some (x,q)=>fin x q:=by
 unfold Zed Zo0;cases h1:Cu t with
 | none=>rw[Ww h1]
 | some v =>
  obtain⟨gen,t1⟩:=v;rw[Wx h1];simp only;cases h2:Cu t1 with
  | none=>rw[Ww h2]
  | some v =>
   obtain⟨place,t2⟩:=v;rw[Wx h2];simp only;cases h3:Ci t2 with
   | none=>rw[Ww h3]
   | some v =>
    obtain⟨k,t3⟩:=v;rw[Wx h3];simp only[Yem];cases Zg9 pr k t3 with
    | none=>rfl
    | some v =>
     obtain⟨⟨R,key,n⟩,t4⟩:=v;simp only;cases h4:Ci t4 with
     | none=>rw[Ww h4]
     | some v =>
      obtain⟨who,t5⟩:=v;rw[Wx h4];simp only;cases h5:Ci t5 with
      | none=>rw[Ww h5]
      | some v =>
       obtain⟨code,t6⟩:=v;rw[Wx h5];simp only;cases h6:Cu t6 with
       | none=>rw[Ww h6]
       | some v=>rw[Wx h6]
theorem Yxv {w:Int}{c:Nat}(w0:0<=w) (w1:w<65536) (hc:c<65536):Bh w=Bh (c:Int) ↔ w=c:=⟨Yxw w0 w1 (by omega) (by omega),fun h=>by rw[h]⟩
theorem Ykb {l q:List UInt8}{x:Int×Int×Rec}(h:O8 l=some (x,q)):Gz l=if q=Bh (crc (l.take (l.length-2)))/\q.length=2/\Cf x.2.2=true then some x else none:=by
 unfold Gz;rw[h]
theorem Yka {l:List UInt8}(h:O8 l=none):Gz l=none:=by
 unfold Gz;rw[h]
theorem Ypf {l:List UInt8}(hl:l.length<=1048576000):X5 l=some (W1 (Gz l)):=by
 rw[Ypg hl,Yen,Yse];cases hp:O8 l with
 | none=>rw[Yka hp];rfl
 | some v =>
  obtain⟨x,q⟩:=v;rw[Ykb hp];show some (Sv l x q)=_;congr 1;cases hq:Cu q with
  | none =>
   rw[Zvj hq,if_neg]
   ·rfl
   rintro ⟨h1,h2,_⟩;have:=Tr (n:=(crc (l.take (l.length-2)):Nat)) (by omega) (by have:=Oc (l.take (l.length-2));omega) [];rw[Kw,<-h1,hq]at this;cases this
  | some u =>
   obtain⟨w,q'⟩:=u;rw[Zvk hq];obtain⟨e,w0,w1⟩:=Rq hq;have hc:=Oc (l.take (l.length-2));by_cases hq':q'=[]
   ·have e2:q=Bh w:=by rw[e,hq',Kw]
    have e3:q.length=2:=by rw[e2];rfl
    have hi:=Yxv (c:=crc (l.take (l.length-2))) w0 w1 hc;rw[e3];by_cases h:w=((crc (l.take (l.length-2)):Nat):Int)/\Cf x.2.2=true
    ·rw[if_pos ⟨h.1,hq',h.2⟩,if_pos ⟨by rw[e2];exact hi.2 h.1,rfl,h.2⟩]
    rw[if_neg (fun k=>h ⟨k.1,k.2.2⟩),if_neg (fun k=>h ⟨hi.1 (by rw[<-e2];exact k.1),k.2.2⟩)];rfl
   have e3:q.length≠2:=by
    have:q'.length≠0:=fun h=>hq' (Knf h);rw[e,Kt,Ns];omega
   rw[if_neg (fun k=>hq' k.2.1),if_neg (fun k=>e3 k.2.1)];rfl
theorem Ykc (l:List UInt8):smC 60 (W1 (Gz l)).2.2.1:=by
 cases h:Gz l with
 | none=>exact⟨⟨by decide,by decide,by decide⟩,by decide⟩
 | some x =>
  have hk:=(Ysq h).2.1;obtain⟨g,p,k,R,key,n,w,sq,cd⟩:=x;simp only[Cf,Kd]at hk;have hb:=hk.1;show smR 60 R/\key.length<=60;unfold Fl at hb;have z:E9 R=true->smR 60 R:=fun h=>by rw[Zgz h];exact⟨by decide,by decide,by decide⟩
  have e:key.isEmpty=true->key.length<=60:=fun h=>by rw[Kkd.1 h];exact Kda _
  split at hb
  ·simp only[Kd]at hb;exact⟨Yad hb.1.1,e hb.1.2⟩
  split at hb
  ·simp only[Kd]at hb;exact⟨z hb.1.1,by have:=(O3 hb.1.2).2;omega⟩
  split at hb
  ·simp only[Kd]at hb;exact⟨z hb.1.1,e hb.1.2⟩
  split at hb
  ·simp only[Kd]at hb;exact⟨z hb.1.1,e hb.1.2⟩
  cases hb
end
end Go.Vs
