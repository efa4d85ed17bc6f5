import Derived.Test.YtmfmjngkbddenaaGreatDoorVsQt8
set_option linter.all false
namespace Go.Vs
noncomputable section
def mkF (m:Bv) (s:List Bv×Bool) (x:Bv):List Bv×Bool :=
 let s1:=if (!s.2&&iGe x.1 m.1)=true then (s.1++[m],true) else s
 if iNe x.1 m.1=true then (s1.1++[x],s1.2) else s1
def mkS (l:List Bv) (m:Bv) (i:Nat):List Bv×Bool:=(l.take i).foldl (mkF m) ([],false)
def mkR (l:List Bv) (m:Bv):List Bv:=if (mkS l m l.length).2=true then (mkS l m l.length).1 else (mkS l m l.length).1++[m]
theorem Zyc {l:List Bv}{m:Bv}{i:Nat}(h:i<l.length):mkS l m (i+1)=mkF m (mkS l m i) l[i]:=by
 unfold mkS;rw[Kbc h,Kae];rfl
theorem Zgq (l:List Bv) (m:Bv):∀i,i<=l.length->(mkS l m i).1.length+(if (mkS l m i).2=true then 0 else 1)<=i+1
 | 0,_=>by simp [mkS]
 | i+1,h=>by
  have ih:=Zgq l m i (by omega);rw[Zyc (by omega)];generalize mkS l m i=s at ih;obtain⟨o,p⟩:=s;unfold mkF;cases p<;>cases iGe l[i].1 m.1<;>cases iNe l[i].1 m.1<;>simp at ih ⊢<;>omega
theorem Yrq (l:List Bv) (m:Bv):(mkR l m).length<=l.length+1:=by
 have:=Zgq l m l.length (Kc _);unfold mkR;split
 ·omega
 rename_i h;rw[if_neg h]at this;simp;omega
theorem Zyd {l:List Bv}{m:Bv}(hl:l.length<=1048576){step:List Bv×Bool×Int->Option ((List Bv×Bool×Int) ⊕ ((List Bv×Bool) ⊕ List Bv))}
  (hs:∀(o:List Bv) (p:Bool) (i:Nat) (hi:i<l.length),o.length<=i+1->(p=false->o.length<=i)->step (o,(p,(i:Int)))=some (.inl ((mkF m (o,p) l[i]).1,((mkF m (o,p) l[i]).2,((i+1:Nat):Int))))) (he:∀o p,step (o,(p,(l.length:Int)))=some (.inr (.inl (o,p)))) :
  (Ao (Aw step ([],(false,0))) (fun (z1:(List Bv×Bool))=>(Ao (cnd (Ag z1.2) (chk (A0 (z1.1.length+1) 24) (some (.inl (Al z1.1 [m])))) (some (.inl z1.1))) (fun (z2:List Bv)=>(some z2)))))=some (mkR l m):=by
 have lp:Aw step ([],(false,0))=some (.inl (mkS l m l.length)):=by
  refine I3 (fun i=>((mkS l m i).1,((mkS l m i).2,(i:Int)))) l.length _ (fun i hi=>?_) (he _ _) _ (by simp [mkS]);have hw:=Zgq l m i (by omega);rw[hs _ _ i hi (by split at hw<;>omega) (fun hp=>by rw[hp]at hw;simp at hw;exact hw),Zyc hi]
 rw[lp,Ar];have hw:=Zgq l m l.length (Kc _);unfold mkR;cases hp:(mkS l m l.length).2 with
 | true=>rw[Av,Ac,Ar,if_pos rfl]
 | false =>
  rw[hp]at hw;rw[A5,Ad,Bj (by simp at hw;omega),Az,Ar,if_neg (by simp)];rfl
theorem Yp2 {l:List Bv}{m:Bv}(hl:l.length<=1048576):Uv (l,m)=some (mkR l m):=by
 rw[Uv];refine Zyd hl (fun o p i hi h1 h2=>?_) fun o p=>?_
 ·rw[Zjp];simp only[mkF];rw[A3 (by rw[Ak];omega),Ad,Bp hi,Aa];have r1:A0 (o.length+1) 24=true:=Bj (by omega);have r2:A0 ((Al o [m]).length+1) 24=true:=Bj (by simp [Al];omega);cases p<;>cases iGe l[i].1 m.1<;>cases iNe l[i].1 m.1<;>simp only[Av,A5,Ad,Ac,r1,r2,Az,Ar,Ksc,Kud,Kyd,Kxe,if_true,Kka,if_false,C4 (show i<9223372036854775807 by omega)]<;>rfl
 rw[Zjp];simp only;rw[A6 (by rw[Ak];omega),Ac]
theorem Yun {l:List Bv}{m:Bv}(hl:l.length<=1048576):Ys (l,m)=some (mkR l m):=by
 rw[Ys];refine Zyd hl (fun o p i hi h1 h2=>?_) fun o p=>?_
 ·rw[Zjy];simp only[mkF];rw[A3 (by rw[Ak];omega),Ad];simp only[Bp hi,Aa];have r1:A0 (o.length+1) 24=true:=Bj (by omega);have r2:A0 ((Al o [m]).length+1) 24=true:=Bj (by simp [Al];omega);cases p<;>cases iGe l[i].1 m.1<;>cases iNe l[i].1 m.1<;>simp only[Av,A5,Ad,Ac,r1,r2,Az,Ar,Ksc,Kud,Kyd,Kxe,if_true,Kka,if_false,C4 (show i<9223372036854775807 by omega)]<;>rfl
 rw[Zjy];simp only;rw[A6 (by rw[Ak];omega),Ac]
theorem Ze1 {α:Type}{ok:α->Bool}{lt:α->α->Bool}{l:List α}(h:Gu ok lt l=true){i:Nat}(hi:i<l.length):ok l[i]=true:=by
 have:=Kna.1 h i (Kvb.2 hi);cases i with
 | zero=>rwa [Vj hi]at this
 | succ j=>rw[Sj hi,Kd]at this;exact this.1
theorem Zky {α:Type}{ok:α->Bool}{lt:α->α->Bool}{l:List α}(h:Gu ok lt l=true){i:Nat}(hi:i+1<l.length):lt l[i] l[i+1]=true:=by
 have:=Kna.1 h (i+1) (Kvb.2 hi);rw[Sj hi,Kd]at this;exact this.2
theorem Zkz {α:Type}{ok:α->Bool}{lt:α->α->Bool}(tr:∀a b c,lt a b=true->lt b c=true->lt a c=true){l:List α}(h:Gu ok lt l=true):∀(j i:Nat) (hi:i<j) (hj:j<l.length),lt (l[i]'(by omega)) l[j]=true
 | 0,i,hi,_=>absurd hi (Kle _)
 | j+1,i,hi,hj=>by
  by_cases e:i=j
  ·subst e;exact Zky h hj
  exact tr _ _ _ (Zkz tr h j i (by omega) (by omega)) (Zky h hj)
theorem Yrl {l:List Bv}(h:Gu F2 Gg l=true):l.length<=9:=by
 have key:∀i (hi:i<l.length),((i:Int)+1)<=l[i].1:=by
  intro i
  induction i with
  | zero =>
   intro hi;have:=Ze1 h hi;simp only[F2,Kd,decide_eq_true_eq]at this;omega
  | succ i ih =>
   intro hi;have h1:=ih (by omega);have h2:=Zky h hi;simp only[Gg,decide_eq_true_eq]at h2;omega
 by_cases hl:l.length<=9
 ·exact hl
 have h1:=key 9 (by omega);have h2:=Ze1 h (show 9<l.length by omega);simp only[F2,Kd,decide_eq_true_eq]at h2;omega
theorem Yth {l:List Row}(h:Gu Bo Gk l=true){key:List UInt8}{k:Nat}(hk:k<l.length) (he:(l[k].1==key)=true):Hf l key=l.take k++l.drop (k+1):=by
 have he:l[k].1=key:=by simpa using he
 have mono:=Zkz (lt:=Gk) (fun a b c h1 h2=>Zpv h1 h2) h;have e0:l=l.take k++(l[k]::l.drop (k+1)):=by rw[<-Kwb hk,Knc]
 have e1:(l.take k).filter (G3 key)=l.take k:=Kmd.2 fun x hx=>by
  obtain⟨j,hj,rfl⟩:=Krc hx;rw[Kua]at hj;rw[Kxf];have:=mono k j (by omega) hk;simp only[Gk]at this;simp only[G3];by_cases e:l[j].1=key
  ·rw[e,he,T4]at this;cases this
  simpa using e
 have e2:(l.drop (k+1)).filter (G3 key)=l.drop (k+1):=Kmd.2 fun x hx=>by
  obtain⟨j,hj,rfl⟩:=Krc hx;rw[Kma]at hj;rw[List.getElem_drop];have:=mono (k+1+j) k (by omega) (by omega);simp only[Gk]at this;simp only[G3];by_cases e:l[k+1+j].1=key
  ·rw[e,he,T4]at this;cases this
  simpa using e
 have e3:G3 key l[k]=false:=by simp [G3,he]
 unfold Hf
 conv=>lhs;rw[e0]
 rw[Kce,Kuc,e3,e1,e2];rfl
theorem Yti {l:List Row}{key:List UInt8}(h:l.findIdx? (fun x=>x.1==key)=none):Hf l key=l:=by
 rw[Kag]at h;exact Kmd.2 fun x hx=>by simp [G3,h x hx]
def En (t:Tab) (r:Rec):List Row×Int:=if r.1=1 then (wrR t.1 r.2.1,t.2.1) else if r.1=2 then (Hf t.1 r.2.2.1,t.2.1) else if r.1=3 then (t.1,r.2.2.2.1) else (t.1,t.2.1)
def Hq (t:Tab) (r:Rec):List Bv:=if r.2.2.2.2.1=0 then t.2.2 else mkR t.2.2 r.2.2.2.2
def G6 (t:Tab) (r:Rec):Tab:=((En t r).1,((En t r).2,Hq t r))
def Cj (t:Tab) (r:Rec):Tab×Bool:=if (B7 t&&(Cf r&&B7 (G6 t r)))=true then (G6 t r,true) else (t,false)
theorem Zbw {t:Tab}(h:B7 t=true):Gu Bo Gk t.1=true/\Gu F2 Gg t.2.2=true/\t.1.length<=8/\0<=t.2.1/\t.2.1<=7/\t.2.2.length<=9:=by
 simp only[B7,Kd,decide_eq_true_eq]at h;exact⟨h.1,h.2.1,h.2.2.1,h.2.2.2.1,h.2.2.2.2,Yrl h.2.1⟩
theorem Zol {t:Tab}{r:Rec}(ht:smT 1048576 t) (hr:smC 1048576 r) (ho:B7 t=true):smT 1048576 (G6 t r):=by
 obtain⟨o1,o2,o3,o4,o5,o6⟩:=Zbw ho;obtain⟨t1,t2,t3⟩:=ht;have hm:(Hq t r).length<=1048576:=by
  unfold Hq;split
  ·exact t3
  have:=Yrq t.2.2 r.2.2.2.2;omega
 refine⟨?_, ?_,hm⟩
 ·simp only[G6,En];split
  ·have:=Yx1 t.1 r.2.1;simp only;omega
  split
  ·simp only;exact Kla (Kqf _ _) t1
  split<;>exact t1
 intro x hx;simp only[G6,En]at hx;split at hx
 ·rcases Yx2 hx with rfl|h
  ·exact hr.1
  exact t2 x h
 split at hx
 ·exact t2 x (Kjd.1 hx).1
 split at hx<;>exact t2 x hx
theorem Yer {t:Tab}{r:Rec}(ht:smT 1048576 t) (hr:smC 1048576 r):smT 1048576 (Cj t r).1:=by
 unfold Cj;split
 ·rename_i h;simp only[Kd]at h;exact Zol ht hr h.1
 exact ht
theorem Zzr {r:Rec}(h:Cf r=true):0<=r.2.2.2.2.1:=by
 simp only[Cf,Kd]at h;exact (Zi0 h.2).1
theorem Sd {α β ρ:Type}{step:List β×Int->Option ((List β×Int) ⊕ (List β ⊕ ρ))}{x:List α}{f:α->β}{l0:List β}(hs:∀(l:List β) (i:Nat) (h:i<x.length),l.length=l0.length+i->step (l,(i:Int))=some (.inl (l++[f x[i]],(i:Int)+1))) (he:∀l,step (l,(x.length:Int))=some (.inr (.inl l))):Aw step (l0,0)=some (.inl (l0++x.map f)):=by
 refine I3 (fun i=>(l0++(x.take i).map f,(i:Int))) x.length _ ?_ ?_ _ (by simp)
 ·intro i hi;rw[hs _ i hi (by simp;omega)];have e:(x.take (i+1)).map f=(x.take i).map f++[f x[i]]:=by
   rw[Kbc hi,Kx];rfl
  rw[e,<-Kva];rfl
 rw[he];simp
theorem Yfv {F:Row->Option Row}(hF:∀r,smR 1048576 r->F r=some r){x:List Row}(hl:x.length<=1048576) (hr:∀r∈x,smR 1048576 r){step:List Row×Int->Option ((List Row×Int) ⊕ (List Row ⊕ Tab))}
  (hs:∀(l:List Row) (i:Nat),i<x.length->step (l,(i:Int))=bnd (idx x (i:Int)) fun z2=>bnd (F z2) fun z3=>chk (A0 (l.length+1) 96) (some (.inl (Al l [z3],Aj .i64 (i:Int) 1)))) (he:∀l,step (l,(x.length:Int))=some (.inr (.inl l))):Aw step ([],0)=some (.inl x):=by
 have:=Sd (step:=step) (x:=x) (f:=fun r=>r) (l0:=[]) (fun l i hi hll=>by
  simp only[Ki,Kr]at hll;rw[hs l i hi,Bp hi,Aa,hF _ (hr _ (Kcb hi)),Aa,Bj (by omega),Az,C4 (by omega)];rfl) he
 rw[this];simp
theorem Ztg {F:Row->Option Row}(hF:∀r,smR 1048576 r->F r=some r){t:Tab}(h:smT 1048576 t){step:List Row×Int->Option ((List Row×Int) ⊕ (List Row ⊕ Tab))}
  (hs:∀(l:List Row) (i:Int),step (l,i)=cnd (iLt i (Ah t.1)) (bnd (idx t.1 i) fun z2=>bnd (F z2) fun z3=>chk (A0 (l.length+1) 96) (some (.inl (Al l [z3],Aj .i64 i 1)))) (some (.inr (.inl l)))) :
  (chk (A0 (0+t.2.2.length) 24) (Ao (Aw step ([],0)) (fun (z1:(List Row))=>(some (z1,(t.2.1,(Al [] t.2.2)))))))=some t:=by
 have h2:=h.2.2;rw[Bj (by omega),Az,Yfv hF h.1 h.2.1 (fun l i hi=>by rw[hs,A3 (by rw[Ak];omega),Ad]) (fun l=>by rw[hs,A6 (by rw[Ak];omega),Ac]),Ar];rfl
theorem Zm6 {t:Tab}(h:smT 1048576 t):Uu t=some t:=by
 rw[Uu];rw[P7];exact (Ztg (F:=P1) (fun r h=>Zmy h) h fun l i=>rfl)
theorem Yuk {t:Tab}(h:smT 1048576 t):Yq t=some t:=by
 rw[Yq];rw[P7];exact (Ztg (F:=J5) (fun r h=>Zbj h) h fun l i=>rfl)
theorem Zmz {t:Tab}{r:Rec}(ht:smT 1048576 t) (hr:smC 1048576 r):Uq (t,r)=some (Cj t r):=by
 rw[Uq];simp only;have hc:=Zm6 ht;have ho:=Zm3 (r:=r) (by have:=hr.1.1;omega) (by have:=hr.2;omega);rw[hc,Aa,ho,Aa];unfold Cj;cases h1:Cf r with
 | false=>rw[A5,Ad];cases B7 t<;>simp
 | true =>
  rw[Av,Ac,Zm5 ht,Aa];cases h2:B7 t with
  | false=>rw[A5,Ad];simp
  | true =>
   rw[Av,Ac];have hn:=Zol ht hr h2;have hw:=Zzr h1;have t3:=ht.2.2
   -- what is done to the rows
   have hb:((cnd (iEq r.1 1) (bnd (cvL tyR Nq t.1) (fun z4=>(bnd (Ye (z4,r.2.1)) (fun z5=>(some (.inl (r.1,(r.2.1.1,(r.2.1.2.1.1,(r.2.1.2.2.1.1,(r.2.1.2.2.2.1,(r.2.1.2.2.2.2,(r.2.2.1,(r.2.2.2.1,(r.2.2.2.2.1,(r.2.2.2.2.2.1,(r.2.2.2.2.2.2,(z5,t.2.1)))))))))))))))))) (cnd (iEq r.1 2) (bnd (cvL tyR Nq t.1) (fun z4=>(bnd (Yz (z4,r)) (fun z5=>(some (.inl (z5.2.1,(z5.2.2.1,(z5.2.2.2.1,(z5.2.2.2.2.1,(z5.2.2.2.2.2.1,(z5.2.2.2.2.2.2.1,(z5.2.2.2.2.2.2.2.1,(z5.2.2.2.2.2.2.2.2.1,(z5.2.2.2.2.2.2.2.2.2.1,(z5.2.2.2.2.2.2.2.2.2.2.1,(z5.2.2.2.2.2.2.2.2.2.2.2,(z5.1,t.2.1)))))))))))))))))) (cnd (iEq r.1 3) (some (.inl (r.1,(r.2.1.1,(r.2.1.2.1.1,(r.2.1.2.2.1.1,(r.2.1.2.2.2.1,(r.2.1.2.2.2.2,(r.2.2.1,(r.2.2.2.1,(r.2.2.2.2.1,(r.2.2.2.2.2.1,(r.2.2.2.2.2.2,(t.1,r.2.2.2.1)))))))))))))) (some (.inl (r.1,(r.2.1.1,(r.2.1.2.1.1,(r.2.1.2.2.1.1,(r.2.1.2.2.2.1,(r.2.1.2.2.2.2,(r.2.2.1,(r.2.2.2.1,(r.2.2.2.2.1,(r.2.2.2.2.2.1,(r.2.2.2.2.2.2,(t.1,t.2.1))))))))))))))))):Option ((Int×List UInt8×Int×Int×Int×Bool×List UInt8×Int×Int×Int×Int×List Row×Int) ⊕ (Tab×Bool)))=some (.inl (r.1,(r.2.1.1,(r.2.1.2.1.1,(r.2.1.2.2.1.1,(r.2.1.2.2.2.1,(r.2.1.2.2.2.2,(r.2.2.1,(r.2.2.2.1,(r.2.2.2.2.1,(r.2.2.2.2.2.1,(r.2.2.2.2.2.2,((En t r).1,(En t r).2))))))))))))):=by
    unfold En;by_cases k1:r.1=1
    ·have e1:iEq r.1 1=true:=by rw[k1];rfl
     rw[e1,Ad,Zfa,Aa,Yp3 ht.1 hr.1,Aa,if_pos k1]
    rw[Dp k1,Ac,if_neg k1];by_cases k2:r.1=2
    ·have e2:iEq r.1 2=true:=by rw[k2];rfl
     rw[e2,Ad,Zfa,Aa,Ypa ht.1,Aa,if_pos k2];rfl
    rw[Dp k2,Ac,if_neg k2];by_cases k3:r.1=3
    ·have e3:iEq r.1 3=true:=by rw[k3];rfl
     rw[e3,Ad,if_pos k3]
    rw[Dp k3,Ac,if_neg k3]
   rw[hb,Ar];simp only;have hm:(cnd (iGt r.2.2.2.2.1 0) (bnd (Uv (t.2.2,(r.2.2.2.2.1,(r.2.2.2.2.2.1,r.2.2.2.2.2.2)))) fun z5=>some (.inl z5)) (some (.inl t.2.2)):Option (List Bv ⊕ (Tab×Bool)))=some (.inl (Hq t r)):=by
    unfold Hq;by_cases k:r.2.2.2.2.1=0
    ·rw[Eb (by omega),Ac,if_pos k]
    rw[Dq (by omega),Ad,show Uv (t.2.2,(r.2.2.2.2.1,(r.2.2.2.2.2.1,r.2.2.2.2.2.2)))=some (mkR t.2.2 r.2.2.2.2) from Yp2 t3,Aa,if_neg k]
   rw[hm,Ar];have h3:Nu ((En t r).1,((En t r).2,Hq t r))=some (B7 (G6 t r)):=Zm5 hn;rw[h3,Aa];cases h4:B7 (G6 t r) with
   | false=>rw[A5,Ad,Aa];simp
   | true=>rw[Av,Ac];simp [G6]
theorem Ytt {t:Tab}{r:Rec}(ht:smT 1048576 t) (hr:smC 1048576 r):Zcz (t,r)=some (Cj t r):=by
 rw[Zcz];simp only;have hc:=Yuk ht;have ho:=Ya2 (r:=r) (by have:=hr.1.1;omega) (by have:=hr.2;omega);rw[hc,Aa,Ya4 ht,Aa];unfold Cj;cases h2:B7 t with
 | false=>rw[A5,Ad];simp
 | true =>
  rw[Av,Ac,ho,Aa];cases h1:Cf r with
  | false=>rw[A5,Ad];simp
  | true =>
   rw[Av,Ac];have hn:=Zol ht hr h2;have hw:=Zzr h1;have t1:=ht.1;have t3:=ht.2.2;have hch:=(Zbw h2).1;have hb:∀(k:(List Row×Int)->Option (Tab×Bool)) (e:Option ((List Row×Int) ⊕ (Tab×Bool))),e=some (.inl (Hf t.1 r.2.2.1,t.2.1))->Ao (cnd (iEq r.1 1) (bnd (cvL tyR Nq t.1) fun z4=>bnd (Yt (z4,r.2.1)) fun z5=>some (.inl (z5,t.2.1))) (cnd (iEq r.1 2) e (cnd (iEq r.1 3) (some (.inl (t.1,r.2.2.2.1))) (some (.inl (t.1,t.2.1)))))) k=k ((En t r).1,(En t r).2):=by
    intro k e he;unfold En;by_cases k1:r.1=1
    ·simp only[k1,V9,Ad,Zfa,Aa,Yuo ht.1 hr.1,Ar,if_true]
    rw[Dp k1,Ac,if_neg k1];by_cases k2:r.1=2
    ·have e2:iEq r.1 2=true:=by rw[k2];rfl
     rw[e2,Ad,he,Ar,if_pos k2]
    rw[Dp k2,Ac,if_neg k2];by_cases k3:r.1=3
    ·have e3:iEq r.1 3=true:=by rw[k3];rfl
     rw[e3,Ad,Ar,if_pos k3]
    rw[Dp k3,Ac,Ar,if_neg k3]
   rw[hb]
   rotate_left
   ·rw[show Yn (t,r.2.2.1)=some (Zhq t.1 r.2.2.1) from Yt8 (by omega),Aa];unfold Zhq;cases hf:t.1.findIdx? (fun x=>x.1==r.2.2.1) with
    | none=>rw[show iGe (-1) 0=false from rfl,Ac,Yti hf]
    | some k =>
     rw[Kzf]at hf;obtain⟨hk,hk1,hk2⟩:=hf;simp only;rw[Qz (by omega),Ad,Yth hch hk hk1];simp only[G5,Kxc,Ak,Yrv t.1 k (by omega),C4 (show k<9223372036854775807 by omega)];rw[show Di 0 (k:Int) (t.1.length:Int)=true by simp [Di];omega,Az,show Jn 0 k t.1.length=true by simp [Jn];omega,Az,Bj (by simp [Br];omega),Az,show Di ((k+1:Nat):Int) (t.1.length:Int) (t.1.length:Int)=true by simp [Di];omega,Az,show Jn (k+1) (t.1.length-(k+1)) t.1.length=true by simp [Jn];omega,Az];refine (congrArg (fun o=>bnd o _) (Yrt t.1 k (t.1.length-(k+1)))).trans ?_;simp only[Aa];rw[Bj (by simp [Al,Br];omega),Az,Kib (by simp)];simp [Al,Br]
   simp only;have hm:(cnd (iNe r.2.2.2.2.1 0) (bnd (Ys (t.2.2,r.2.2.2.2)) fun z5=>some (.inl z5)) (some (.inl t.2.2)):Option (List Bv ⊕ (Tab×Bool)))=some (.inl (Hq t r)):=by
    unfold Hq;by_cases k:r.2.2.2.2.1=0
    ·rw[k,Oq,Ac,if_pos rfl]
    rw[Iz k,Ad,Yun t3,Aa,if_neg k]
   rw[hm,Ar];have h3:U2 ((En t r).1,((En t r).2,Hq t r))=some (B7 (G6 t r)):=Ya4 hn;rw[h3,Aa];cases h4:B7 (G6 t r) with
   | false=>rw[A5,Ad,Aa];simp
   | true=>rw[Av,Ac];simp [G6]
end
end Go.Vs
