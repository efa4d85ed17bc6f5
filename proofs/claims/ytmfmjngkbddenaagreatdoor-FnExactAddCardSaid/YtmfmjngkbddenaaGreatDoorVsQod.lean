import Derived.Test.YtmfmjngkbddenaaGreatDoorVsW5
import Derived.Test.YtmfmjngkbddenaaGreatDoorVsQoc
set_option linter.all false
namespace Go.Vs
noncomputable section
structure Reader {α:Type} (l:List UInt8) (F:List UInt8×Int×Bool->Option (α×Int×Bool)) (p:List UInt8->Option (α×List UInt8)):Prop where
 good:∀{a:Int} {t:List UInt8},Rd l a t->RdW l (F (l,(a,false))) (p t)
 bad:∀a:Int,∃v b,F (l,(a,true))=some (v,(b,true))
theorem RdR.w {α:Type}{l:List UInt8}{z:α}{o:Option (α×Int×Bool)}{p:Option (α×List UInt8)}{a:Int}(h:RdR l z o p a):RdW l o p:=by
 cases p with
 | none=>exact⟨z,a,h⟩
 | some v=>exact h
def Ans {β:Type}(l:List UInt8) (z:β) (P:Prop) (K:Int×Bool->Option β) (f:List UInt8->β):Prop:=(∀b,K (b,true)=some z)/\(P->∀b t,Rd l b t->K (b,false)=some (f t))
def pb {α β:Type}(z:β) (p:List UInt8->Option (α×List UInt8)) (f:α->List UInt8->β) (t:List UInt8):β:=match p t with
 | none=>z
 | some (v,q)=>f v q
theorem Ans.bind {α β:Type}{l:List UInt8}{z:β}{P:Prop}{F:List UInt8×Int×Bool->Option (α×Int×Bool)}{p:List UInt8->Option (α×List UInt8)}{K:α×Int×Bool->Option β}{f:α->List UInt8->β}(hF:Reader l F p) (Q:α->Prop) (hQ:∀t v q,p t=some (v,q)->Q v) (hK:∀v,Ans l z (P/\Q v) (fun s=>K (v,s)) (f v)):Ans l z P (fun s=>bnd (F (l,(s.1,s.2))) K) (pb z p f):=by
 refine⟨fun b=>?_,fun hP b t h=>?_⟩
 ·obtain⟨v,c,e⟩:=hF.bad b;simp only[e,Ab];exact (hK v).1 c
 ·have:=hF.good h;unfold pb;simp only;cases hp:p t with
  | none =>
   rw[hp]at this;obtain⟨v,c,e⟩:=this;rw[e];exact (hK v).1 c
  | some w =>
   obtain⟨v,q⟩:=w;rw[hp]at this;obtain⟨c,e,r⟩:=this;rw[e];exact (hK v).2 ⟨hP,hQ _ _ _ hp⟩ c q r
theorem Ans.bind0 {α β:Type}{l:List UInt8}{z:β}{P:Prop}{F:List UInt8×Int×Bool->Option (α×Int×Bool)}{p:List UInt8->Option (α×List UInt8)}{K:α×Int×Bool->Option β}{f:α->List UInt8->β}(hF:Reader l F p) (hK:∀v,Ans l z P (fun s=>K (v,s)) (f v)):Ans l z P (fun s=>bnd (F (l,(s.1,s.2))) K) (pb z p f) :=
 Ans.bind hF (fun _=>True) (fun _ _ _ _=>trivial) fun v=>⟨(hK v).1,fun h=>(hK v).2 h.1⟩
def Zor {β:Type}(z:β) (pr:List UInt8->Option (Row×List UInt8)) (k:Int) (g:Row->List UInt8->Int->List UInt8->β):List UInt8->β:=if k=1 then pb z pr (fun R=>g R [] 0) else if k=2 then pb z Ng (fun s=>g N0 s 0) else if k=3 then pb z I4 (fun n=>g N0 [] n) else g N0 [] 0
abbrev Tup:=List UInt8×Int×List UInt8×Int×List UInt8×Int×Bool×List UInt8×Int×Int×Bool
theorem Zj1 {α σ ρ:Type}(o:Option α) (f:α->σ) (K:σ->Option ρ):Ao (bnd o fun z=>some (.inl (f z))) K=bnd o fun z=>K (f z):=by cases o<;>rfl
theorem Ans.body {β:Type}{l:List UInt8}{z:β}{P:Prop}{FR:List UInt8×Int×Bool->Option (Row×Int×Bool)}{FT:List UInt8×Int×Bool->Option (List UInt8×Int×Bool)}{FO:List UInt8×Int×Bool->Option (Int×Int×Bool)}{pr:List UInt8->Option (Row×List UInt8)}{k:Int}{K:Tup->Option β}{g:Row->List UInt8->Int->List UInt8->β}
  (hR:Reader l FR pr) (hT:Reader l FT Ng) (hO:Reader l FO I4) (hQ:∀t v q,pr t=some (v,q)->v.1.length<=60) (hK:∀R key n,Ans l z (P/\R.1.length<=60/\key.length<=60) (fun s=>K (R.1,(R.2.1.1,(R.2.1.2,(R.2.2.1.1,(R.2.2.1.2,(R.2.2.2.1,(R.2.2.2.2,(key,(n,(s.1,s.2))))))))))) (g R key n)) :
  Ans l z P (fun s=>Ao (cnd (iEq k 1) (bnd (FR (l,(s.1,s.2))) (fun z4=>(some (.inl (z4.1.1,(z4.1.2.1.1,(z4.1.2.1.2,(z4.1.2.2.1.1,
 (z4.1.2.2.1.2,(z4.1.2.2.2.1,(z4.1.2.2.2.2,([],(0,(z4.2.1,z4.2.2)))))))))))))) (cnd (iEq k 2) (bnd (FT (l,(s.1,s.2))) (fun z4=>(some (.inl ([],(0,([],(0,([],(0,(false,(z4.1,(0,(z4.2.1,z4.2.2)))))))))))))) (cnd (iEq k 3) (bnd (FO (l,(s.1,s.2))) (fun z4=>(some (.inl ([],(0,([],(0,([],(0,(false,([],(z4.1,(z4.2.1,
 z4.2.2)))))))))))))) (some (.inl ([],(0,([],(0,([],(0,(false,([],(0,(s.1,s.2))))))))))))))) K) (Zor z pr k g):=by
 unfold Zor;simp only[O5];by_cases h1:k=1
 ·simp only[decide_eq_true h1,Ag,if_pos h1,Zj1];exact Ans.bind (K:=fun z4=>K (z4.1.1,(z4.1.2.1.1,(z4.1.2.1.2,(z4.1.2.2.1.1,(z4.1.2.2.1.2,(z4.1.2.2.2.1,(z4.1.2.2.2.2,([],(0,(z4.2.1,z4.2.2))))))))))) hR (fun R=>R.1.length<=60) hQ fun R=>⟨(hK R [] 0).1,fun h=>(hK R [] 0).2 ⟨h.1,h.2,Kpa _⟩⟩
 by_cases h2:k=2
 ·simp only[decide_eq_false h1,decide_eq_true h2,Ag,Ac,if_neg h1,if_pos h2,Zj1];exact Ans.bind (K:=fun z4=>K ([],(0,([],(0,([],(0,(false,(z4.1,(0,(z4.2.1,z4.2.2))))))))))) hT (fun s=>s.length<=60) (fun t v q h=>(Yqo h).2) fun R=>⟨(hK N0 R 0).1,fun h=>(hK N0 R 0).2 ⟨h.1,Kpa _,h.2⟩⟩
 by_cases h3:k=3
 ·simp only[decide_eq_false h1,decide_eq_false h2,decide_eq_true h3,Ag,Ac,if_neg h1,if_neg h2,if_pos h3,Zj1];exact Ans.bind0 (K:=fun z4=>K ([],(0,([],(0,([],(0,(false,([],(z4.1,(z4.2.1,z4.2.2))))))))))) hO fun R=>⟨(hK N0 [] R).1,fun h=>(hK N0 [] R).2 ⟨h,Kpa _,Kpa _⟩⟩
 ·simp only[decide_eq_false h1,decide_eq_false h2,decide_eq_false h3,Ac,if_neg h1,if_neg h2,if_neg h3,A3];exact⟨(hK N0 [] 0).1,fun h=>(hK N0 [] 0).2 ⟨h,Kpa _,Kpa _⟩⟩
theorem Rd.take {l t:List UInt8}{b:Int}(h:Rd l b t):b.toNat=l.length-t.length/\Bq (nOf b-0) l=l.take (l.length-t.length):=by
 have:=h.len;have h0:=h.1;have e:b.toNat=l.length-t.length:=by omega
 exact⟨e,by unfold Bq nOf;rw[e];rfl⟩
end
end Go.Vs
