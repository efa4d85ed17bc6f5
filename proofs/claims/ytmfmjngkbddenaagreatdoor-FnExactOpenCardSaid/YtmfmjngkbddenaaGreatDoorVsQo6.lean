import Derived.Test.YtmfmjngkbddenaaGreatDoorVsW5
import Derived.Test.YtmfmjngkbddenaaGreatDoorVsQo5
set_option linter.all false
namespace Go.Vs
noncomputable section
theorem Nq {α β ρ:Type}{step:List β×Int->Option ((List β×Int) ⊕ (List β ⊕ ρ))}{x:List α}{f:α->β}{l0:List β}(hs:∀(l:List β) (i:Nat) (h:i<x.length),l.length=l0.length+i->step (l,(i:Int))=some (.inl (l++[f x[i]],(i:Int)+1))) (he:∀l,step (l,(x.length:Int))=some (.inr (.inl l))):Ar step (l0,0)=some (.inl (l0++x.map f)):=by
 refine Gn (fun i=>(l0++(x.take i).map f,(i:Int))) x.length _ ?_ ?_ _ (by simp)
 ·intro i hi;rw[hs _ i hi (by simp;omega)];have e:(x.take (i+1)).map f=(x.take i).map f++[f x[i]]:=by
   rw[Kzb hi,Kaa];rfl
  rw[e,<-Kxa];rfl
 ·rw[he];simp
def mkF (m:Cc) (s:List Cc×Bool) (x:Cc):List Cc×Bool :=
 let s1:=if (!s.2&&iGe x.1 m.1)=true then (s.1++[m],true) else s
 if iNe x.1 m.1=true then (s1.1++[x],s1.2) else s1
def mkS (l:List Cc) (m:Cc) (i:Nat):List Cc×Bool:=(l.take i).foldl (mkF m) ([],false)
def mkR (l:List Cc) (m:Cc):List Cc:=if (mkS l m l.length).2=true then (mkS l m l.length).1 else (mkS l m l.length).1++[m]
theorem Zwq {l:List Cc}{m:Cc}{i:Nat}(h:i<l.length):mkS l m (i+1)=mkF m (mkS l m i) l[i]:=by
 unfold mkS;rw[Kzb h,Kfe];rfl
theorem Zf4 (l:List Cc) (m:Cc):∀i,i<=l.length->(mkS l m i).1.length+(if (mkS l m i).2=true then 0 else 1)<=i+1
 | 0,_=>by simp [mkS]
 | i+1,h=>by
  have ih:=Zf4 l m i (by omega);rw[Zwq (by omega)];generalize mkS l m i=s at ih;obtain⟨o,p⟩:=s;unfold mkF;cases p<;>cases iGe l[i].1 m.1<;>cases iNe l[i].1 m.1<;>simp at ih ⊢<;>omega
theorem Yqj (l:List Cc) (m:Cc):(mkR l m).length<=l.length+1:=by
 have:=Zf4 l m l.length (Kf _);unfold mkR;split
 ·omega
 ·rename_i h;rw[if_neg h]at this;simp;omega
theorem Zwr {l:List Cc}{m:Cc}(hl:l.length<=1048576){step:List Cc×Bool×Int->Option ((List Cc×Bool×Int) ⊕ ((List Cc×Bool) ⊕ List Cc))}
  (hs:∀(o:List Cc) (p:Bool) (i:Nat) (hi:i<l.length),o.length<=i+1->(p=false->o.length<=i)->step (o,(p,(i:Int)))=some (.inl ((mkF m (o,p) l[i]).1,((mkF m (o,p) l[i]).2,((i+1:Nat):Int))))) (he:∀o p,step (o,(p,(l.length:Int)))=some (.inr (.inl (o,p)))) :
  (Ao (Ar step ([],(false,0))) (fun (z1:(List Cc×Bool))=>(Ao (cnd (Ah z1.2) (chk (A6 (z1.1.length+1) 24) (some (.inl (Al z1.1 [m])))) (some (.inl z1.1))) (fun (z2:List Cc)=>(some z2)))))=some (mkR l m):=by
 have lp:Ar step ([],(false,0))=some (.inl (mkS l m l.length)):=by
  refine Gn (fun i=>((mkS l m i).1,((mkS l m i).2,(i:Int)))) l.length _ (fun i hi=>?_) (he _ _) _ (by simp [mkS]);have hw:=Zf4 l m i (by omega);rw[hs _ _ i hi (by split at hw<;>omega) (fun hp=>by rw[hp]at hw;simp at hw;exact hw),Zwq hi]
 rw[lp,Ax];have hw:=Zf4 l m l.length (Kf _);unfold mkR;cases hp:(mkS l m l.length).2 with
 | true=>rw[Az,Ac,Ax,if_pos rfl]
 | false =>
  rw[hp]at hw;rw[Bd,Ad,Bq (by simp at hw;omega),Av,Ax,if_neg (by simp)];rfl
theorem Yo8 {l:List Cc}{m:Cc}(hl:l.length<=1048576):T3 (l,m)=some (mkR l m):=by
 rw[T3];refine Zwr hl (fun o p i hi h1 h2=>?_) fun o p=>?_
 ·rw[Zi0];simp only[mkF];rw[A5 (by rw[Ai];omega),Ad,Bp hi,Aa];have r1:A6 (o.length+1) 24=true:=Bq (by omega);have r2:A6 ((Al o [m]).length+1) 24=true:=Bq (by simp [Al];omega);cases p<;>cases iGe l[i].1 m.1<;>cases iNe l[i].1 m.1<;>simp only[Az,Bd,Ad,Ac,r1,r2,Av,Ax,Kld,Kwd,Kde,Kbf,if_true,Kma,if_false,Cw (show i<9223372036854775807 by omega)]<;>rfl
 ·rw[Zi0];simp only;rw[A3 (by rw[Ai];omega),Ac]
theorem Ys3 {l:List Cc}{m:Cc}(hl:l.length<=1048576):Xu (l,m)=some (mkR l m):=by
 rw[Xu];refine Zwr hl (fun o p i hi h1 h2=>?_) fun o p=>?_
 ·rw[Zja];simp only[mkF];rw[A5 (by rw[Ai];omega),Ad];simp only[Bp hi,Aa];have r1:A6 (o.length+1) 24=true:=Bq (by omega);have r2:A6 ((Al o [m]).length+1) 24=true:=Bq (by simp [Al];omega);cases p<;>cases iGe l[i].1 m.1<;>cases iNe l[i].1 m.1<;>simp only[Az,Bd,Ad,Ac,r1,r2,Av,Ax,Kld,Kwd,Kde,Kbf,if_true,Kma,if_false,Cw (show i<9223372036854775807 by omega)]<;>rfl
 ·rw[Zja];simp only;rw[A3 (by rw[Ai];omega),Ac]
theorem Zj6 {α:Type}{ok:α->Bool}{lt:α->α->Bool}{l:List α}(h:Hs ok lt l=true){i:Nat}(hi:i<l.length):ok l[i]=true:=by
 have:=Kua.1 h i (Kvb.2 hi);cases i with
 | zero=>rwa [Yr hi]at this
 | succ j=>rw[Uw hi,Kd]at this;exact this.1
theorem Zj7 {α:Type}{ok:α->Bool}{lt:α->α->Bool}{l:List α}(h:Hs ok lt l=true){i:Nat}(hi:i+1<l.length):lt l[i] l[i+1]=true:=by
 have:=Kua.1 h (i+1) (Kvb.2 hi);rw[Uw hi,Kd]at this;exact this.2
theorem Zr7 {α:Type}{ok:α->Bool}{lt:α->α->Bool}(tr:∀a b c,lt a b=true->lt b c=true->lt a c=true){l:List α}(h:Hs ok lt l=true):∀(j i:Nat) (hi:i<j) (hj:j<l.length),lt (l[i]'(by omega)) l[j]=true
 | 0,i,hi,_=>absurd hi (Kre _)
 | j+1,i,hi,hj=>by
  by_cases e:i=j
  ·subst e;exact Zj7 h hj
  ·exact tr _ _ _ (Zr7 tr h j i (by omega) (by omega)) (Zj7 h hj)
theorem Yqh {l:List Cc}(h:Hs H0 Ql l=true):l.length<=9:=by
 have key:∀i (hi:i<l.length),((i:Int)+1)<=l[i].1:=by
  intro i
  induction i with
  | zero =>
   intro hi;have:=Zj6 h hi;simp only[H0,Kd,decide_eq_true_eq]at this;omega
  | succ i ih =>
   intro hi;have h1:=ih (by omega);have h2:=Zj7 h hi;simp only[Ql,decide_eq_true_eq]at h2;omega
 by_cases hl:l.length<=9
 ·exact hl
 ·have h1:=key 9 (by omega);have h2:=Zj6 h (show 9<l.length by omega);simp only[H0,Kd,decide_eq_true_eq]at h2;omega
theorem Yrv {l:List Row}(h:Hs Ci Mv l=true){key:List UInt8}{k:Nat}(hk:k<l.length) (he:(l[k].1==key)=true):G0 l key=l.take k++l.drop (k+1):=by
 have he:l[k].1=key:=by simpa using he
 have mono:=Zr7 (lt:=Mv) (fun a b c h1 h2=>Ysa h1 h2) h;have e0:l=l.take k++(l[k]::l.drop (k+1)):=by rw[<-Kcc hk,Ksc]
 have e1:(l.take k).filter (Gl key)=l.take k:=Kcf.2 fun x hx=>by
  obtain⟨j,hj,rfl⟩:=Kjd hx;rw[Kab]at hj;rw[Khg];have:=mono k j (by omega) hk;simp only[Mv]at this;simp only[Gl];by_cases e:l[j].1=key
  ·rw[e,he,Zor]at this;cases this
  ·simpa using e
 have e2:(l.drop (k+1)).filter (Gl key)=l.drop (k+1):=Kcf.2 fun x hx=>by
  obtain⟨j,hj,rfl⟩:=Kjd hx;rw[Kpa]at hj;rw[List.getElem_drop];have:=mono (k+1+j) k (by omega) (by omega);simp only[Mv]at this;simp only[Gl];by_cases e:l[k+1+j].1=key
  ·rw[e,he,Zor]at this;cases this
  ·simpa using e
 have e3:Gl key l[k]=false:=by simp [Gl,he]
 unfold G0
 conv=>lhs;rw[e0]
 rw[Kje,Kid,e3,e1,e2];rfl
theorem Yrw {l:List Row}{key:List UInt8}(h:l.findIdx? (fun x=>x.1==key)=none):G0 l key=l:=by
 rw[Kuf]at h;exact Kcf.2 fun x hx=>by simp [Gl,h x hx]
def Ih (t:Tab) (r:Rec):List Row×Int:=if r.1=1 then (wrR t.1 r.2.1,t.2.1) else if r.1=2 then (G0 t.1 r.2.2.1,t.2.1) else if r.1=3 then (t.1,r.2.2.2.1) else (t.1,t.2.1)
def Oh (t:Tab) (r:Rec):List Cc:=if r.2.2.2.2.1=0 then t.2.2 else mkR t.2.2 r.2.2.2.2
def Lo (t:Tab) (r:Rec):Tab:=((Ih t r).1,((Ih t r).2,Oh t r))
def L4 (t:Tab) (r:Rec):Tab×Bool:=if (Dc t&&(C6 r&&Dc (Lo t r)))=true then (Lo t r,true) else (t,false)
theorem Zps {t:Tab}(h:Dc t=true):Hs Ci Mv t.1=true/\Hs H0 Ql t.2.2=true/\t.1.length<=8/\0<=t.2.1/\t.2.1<=7/\t.2.2.length<=9:=by
 simp only[Dc,Kd,decide_eq_true_eq]at h;exact⟨h.1,h.2.1,h.2.2.1,h.2.2.2.1,h.2.2.2.2,Yqh h.2.1⟩
theorem Zwx {t:Tab}{r:Rec}(ht:smT 1048576 t) (hr:smC 1048576 r) (ho:Dc t=true):smT 1048576 (Lo t r):=by
 obtain⟨o1,o2,o3,o4,o5,o6⟩:=Zps ho;obtain⟨t1,t2,t3⟩:=ht;have hm:(Oh t r).length<=1048576:=by
  unfold Oh;split
  ·exact t3
  ·have:=Yqj t.2.2 r.2.2.2.2;omega
 refine⟨?_, ?_,hm⟩
 ·simp only[Lo,Ih];split
  ·have:=Yvq t.1 r.2.1;simp only;omega
  ·split
   ·simp only;exact Kqa (Knf _ _) t1
   ·split<;>exact t1
 ·intro x hx;simp only[Lo,Ih]at hx;split at hx
  ·rcases Yvr hx with rfl|h
   ·exact hr.1
   ·exact t2 x h
  ·split at hx
   ·exact t2 x (Krd.1 hx).1
   ·split at hx<;>exact t2 x hx
theorem Zx2 {r:Rec}(h:C6 r=true):0<=r.2.2.2.2.1:=by
 simp only[C6,Kd]at h;exact (Zh6 h.2).1
theorem Yeh {F:Row->Option Row}(hF:∀r,smR 1048576 r->F r=some r){x:List Row}(hl:x.length<=1048576) (hr:∀r∈x,smR 1048576 r){step:List Row×Int->Option ((List Row×Int) ⊕ (List Row ⊕ Tab))}
  (hs:∀(l:List Row) (i:Nat),i<x.length->step (l,(i:Int))=bnd (idx x (i:Int)) fun z2=>bnd (F z2) fun z3=>chk (A6 (l.length+1) 96) (some (.inl (Al l [z3],Aj .i64 (i:Int) 1)))) (he:∀l,step (l,(x.length:Int))=some (.inr (.inl l))):Ar step ([],0)=some (.inl x):=by
 have:=Nq (step:=step) (x:=x) (f:=fun r=>r) (l0:=[]) (fun l i hi hll=>by
  simp only[Ki,Km]at hll;rw[hs l i hi,Bp hi,Aa,hF _ (hr _ (Kcb hi)),Aa,Bq (by omega),Av,Cw (by omega)];rfl) he
 rw[this];simp
theorem Zsc {F:Row->Option Row}(hF:∀r,smR 1048576 r->F r=some r){t:Tab}(h:smT 1048576 t){step:List Row×Int->Option ((List Row×Int) ⊕ (List Row ⊕ Tab))}
  (hs:∀(l:List Row) (i:Int),step (l,i)=cnd (iLt i (Ae t.1)) (bnd (idx t.1 i) fun z2=>bnd (F z2) fun z3=>chk (A6 (l.length+1) 96) (some (.inl (Al l [z3],Aj .i64 i 1)))) (some (.inr (.inl l)))) :
  (chk (A6 (0+t.2.2.length) 24) (Ao (Ar step ([],0)) (fun (z1:(List Row))=>(some (z1,(t.2.1,(Al [] t.2.2)))))))=some t:=by
 have h2:=h.2.2;rw[Bq (by omega),Av,Yeh hF h.1 h.2.1 (fun l i hi=>by rw[hs,A5 (by rw[Ai];omega),Ad]) (fun l=>by rw[hs,A3 (by rw[Ai];omega),Ac]),Ax];rfl
theorem Zvm {t:Tab}(h:smT 1048576 t):T2 t=some t:=by
 rw[T2];rw[Rp];exact (Zsc (F:=Pd) (fun r h=>Zl5 h) h fun l i=>rfl)
theorem Zzr {t:Tab}(h:smT 1048576 t):Uh t=some t:=by
 rw[Uh];rw[Rp];exact (Zsc (F:=Pj) (fun r h=>Zop h) h fun l i=>rfl)
theorem Yob {t:Tab}{r:Rec}(ht:smT 1048576 t) (hr:smC 1048576 r):Zbl (t,r)=some (L4 t r):=by
 rw[Zbl];simp only;have hc:=Zvm ht;have ho:=Zl9 (r:=r) (by have:=hr.1.1;omega) (by have:=hr.2;omega);rw[hc,Aa,ho,Aa];unfold L4;cases h1:C6 r with
 | false=>rw[Bd,Ad];cases Dc t<;>simp
 | true =>
  rw[Az,Ac,Zma ht,Aa];cases h2:Dc t with
  | false=>rw[Bd,Ad];simp
  | true =>
   rw[Az,Ac];have hn:=Zwx ht hr h2;have hw:=Zx2 h1;have t3:=ht.2.2
   -- what is done to the rows
   have hb:((cnd (iEq r.1 1) (bnd (cvL tyR M4 t.1) (fun z4=>(bnd (Xg (z4,r.2.1)) (fun z5=>(some (.inl (r.1,(r.2.1.1,(r.2.1.2.1.1,(r.2.1.2.2.1.1,(r.2.1.2.2.2.1,(r.2.1.2.2.2.2,(r.2.2.1,(r.2.2.2.1,(r.2.2.2.2.1,(r.2.2.2.2.2.1,(r.2.2.2.2.2.2,(z5,t.2.1)))))))))))))))))) (cnd (iEq r.1 2) (bnd (cvL tyR M4 t.1) (fun z4=>(bnd (X3 (z4,r)) (fun z5=>(some (.inl (z5.2.1,(z5.2.2.1,(z5.2.2.2.1,(z5.2.2.2.2.1,(z5.2.2.2.2.2.1,(z5.2.2.2.2.2.2.1,(z5.2.2.2.2.2.2.2.1,(z5.2.2.2.2.2.2.2.2.1,(z5.2.2.2.2.2.2.2.2.2.1,(z5.2.2.2.2.2.2.2.2.2.2.1,(z5.2.2.2.2.2.2.2.2.2.2.2,(z5.1,t.2.1)))))))))))))))))) (cnd (iEq r.1 3) (some (.inl (r.1,(r.2.1.1,(r.2.1.2.1.1,(r.2.1.2.2.1.1,(r.2.1.2.2.2.1,(r.2.1.2.2.2.2,(r.2.2.1,(r.2.2.2.1,(r.2.2.2.2.1,(r.2.2.2.2.2.1,(r.2.2.2.2.2.2,(t.1,r.2.2.2.1)))))))))))))) (some (.inl (r.1,(r.2.1.1,(r.2.1.2.1.1,(r.2.1.2.2.1.1,(r.2.1.2.2.2.1,(r.2.1.2.2.2.2,(r.2.2.1,(r.2.2.2.1,(r.2.2.2.2.1,(r.2.2.2.2.2.1,(r.2.2.2.2.2.2,(t.1,t.2.1))))))))))))))))):Option ((Int×List UInt8×Int×Int×Int×Bool×List UInt8×Int×Int×Int×Int×List Row×Int) ⊕ (Tab×Bool)))=some (.inl (r.1,(r.2.1.1,(r.2.1.2.1.1,(r.2.1.2.2.1.1,(r.2.1.2.2.2.1,(r.2.1.2.2.2.2,(r.2.2.1,(r.2.2.2.1,(r.2.2.2.2.1,(r.2.2.2.2.2.1,(r.2.2.2.2.2.2,((Ih t r).1,(Ih t r).2))))))))))))):=by
    unfold Ih;by_cases k1:r.1=1
    ·have e1:iEq r.1 1=true:=by rw[k1];rfl
     rw[e1,Ad,Zek,Aa,Yo9 ht.1 hr.1,Aa,if_pos k1]
    ·rw[Eg k1,Ac,if_neg k1];by_cases k2:r.1=2
     ·have e2:iEq r.1 2=true:=by rw[k2];rfl
      rw[e2,Ad,Zek,Aa,Yoe ht.1,Aa,if_pos k2];rfl
     ·rw[Eg k2,Ac,if_neg k2];by_cases k3:r.1=3
      ·have e3:iEq r.1 3=true:=by rw[k3];rfl
       rw[e3,Ad,if_pos k3]
      ·rw[Eg k3,Ac,if_neg k3]
   rw[hb,Ax];simp only;have hm:(cnd (iGt r.2.2.2.2.1 0) (bnd (T3 (t.2.2,(r.2.2.2.2.1,(r.2.2.2.2.2.1,r.2.2.2.2.2.2)))) fun z5=>some (.inl z5)) (some (.inl t.2.2)):Option (List Cc ⊕ (Tab×Bool)))=some (.inl (Oh t r)):=by
    unfold Oh;by_cases k:r.2.2.2.2.1=0
    ·rw[Dx (by omega),Ac,if_pos k]
    ·rw[Df (by omega),Ad,show T3 (t.2.2,(r.2.2.2.2.1,(r.2.2.2.2.2.1,r.2.2.2.2.2.2)))=some (mkR t.2.2 r.2.2.2.2) from Yo8 t3,Aa,if_neg k]
   rw[hm,Ax];have h3:M8 ((Ih t r).1,((Ih t r).2,Oh t r))=some (Dc (Lo t r)):=Zma hn;rw[h3,Aa];cases h4:Dc (Lo t r) with
   | false=>rw[Bd,Ad,Aa];simp
   | true=>rw[Az,Ac];simp [Lo]
theorem Ysc {t:Tab}{r:Rec}(ht:smT 1048576 t) (hr:smC 1048576 r):Zcj (t,r)=some (L4 t r):=by
 rw[Zcj];simp only;have hc:=Zzr ht;have ho:=Zow (r:=r) (by have:=hr.1.1;omega) (by have:=hr.2;omega);rw[hc,Aa,Zoz ht,Aa];unfold L4;cases h2:Dc t with
 | false=>rw[Bd,Ad];simp
 | true =>
  rw[Az,Ac,ho,Aa];cases h1:C6 r with
  | false=>rw[Bd,Ad];simp
  | true =>
   rw[Az,Ac];have hn:=Zwx ht hr h2;have hw:=Zx2 h1;have t1:=ht.1;have t3:=ht.2.2;have hch:=(Zps h2).1;have hb:∀(k:(List Row×Int)->Option (Tab×Bool)) (e:Option ((List Row×Int) ⊕ (Tab×Bool))),e=some (.inl (G0 t.1 r.2.2.1,t.2.1))->Ao (cnd (iEq r.1 1) (bnd (cvL tyR M4 t.1) fun z4=>bnd (Xv (z4,r.2.1)) fun z5=>some (.inl (z5,t.2.1))) (cnd (iEq r.1 2) e (cnd (iEq r.1 3) (some (.inl (t.1,r.2.2.2.1))) (some (.inl (t.1,t.2.1)))))) k=k ((Ih t r).1,(Ih t r).2):=by
    intro k e he;unfold Ih;by_cases k1:r.1=1
    ·simp only[k1,Vh,Ad,Zek,Aa,Ys4 ht.1 hr.1,Ax,if_true]
    ·rw[Eg k1,Ac,if_neg k1];by_cases k2:r.1=2
     ·have e2:iEq r.1 2=true:=by rw[k2];rfl
      rw[e2,Ad,he,Ax,if_pos k2]
     ·rw[Eg k2,Ac,if_neg k2];by_cases k3:r.1=3
      ·have e3:iEq r.1 3=true:=by rw[k3];rfl
       rw[e3,Ad,Ax,if_pos k3]
      ·rw[Eg k3,Ac,Ax,if_neg k3]
   rw[hb]
   rotate_left
   ·rw[show Xs (t,r.2.2.1)=some (Zgy t.1 r.2.2.1) from Yss (by omega),Aa];unfold Zgy;cases hf:t.1.findIdx? (fun x=>x.1==r.2.2.1) with
    | none=>rw[show iGe (-1) 0=false from rfl,Ac,Yrw hf]
    | some k =>
     rw[Ktf]at hf;obtain⟨hk,hk1,hk2⟩:=hf;simp only;rw[Qd (by omega),Ad,Yrv hch hk hk1];simp only[Es,Kxc,Ai,Yqo t.1 k (by omega),Cw (show k<9223372036854775807 by omega)];rw[show Cp 0 (k:Int) (t.1.length:Int)=true by simp [Cp];omega,Av,show I2 0 k t.1.length=true by simp [I2];omega,Av,Bq (by simp [A9];omega),Av,show Cp ((k+1:Nat):Int) (t.1.length:Int) (t.1.length:Int)=true by simp [Cp];omega,Av,show I2 (k+1) (t.1.length-(k+1)) t.1.length=true by simp [I2];omega,Av];refine (congrArg (fun o=>bnd o _) (Yqm t.1 k (t.1.length-(k+1)))).trans ?_;simp only[Aa];rw[Bq (by simp [Al,A9];omega),Av,Kob (by simp)];simp [Al,A9]
   simp only;have hm:(cnd (iNe r.2.2.2.2.1 0) (bnd (Xu (t.2.2,r.2.2.2.2)) fun z5=>some (.inl z5)) (some (.inl t.2.2)):Option (List Cc ⊕ (Tab×Bool)))=some (.inl (Oh t r)):=by
    unfold Oh;by_cases k:r.2.2.2.2.1=0
    ·rw[k,Eo,Ac,if_pos rfl]
    ·rw[Jq k,Ad,Ys3 t3,Aa,if_neg k]
   rw[hm,Ax];have h3:Ng ((Ih t r).1,((Ih t r).2,Oh t r))=some (Dc (Lo t r)):=Zoz hn;rw[h3,Aa];cases h4:Dc (Lo t r) with
   | false=>rw[Bd,Ad,Aa];simp
   | true=>rw[Az,Ac];simp [Lo]
end
end Go.Vs
