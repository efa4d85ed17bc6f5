import Derived.Test.YtmfmjngkbddenaaGreatDoorVsW5
import Derived.Test.YtmfmjngkbddenaaGreatDoorVsQo5
set_option linter.all false
namespace Go.Vs
noncomputable section
theorem Mm {α β ρ:Type}{step:List β×Int->Option ((List β×Int) ⊕ (List β ⊕ ρ))}{x:List α}{f:α->β}{l0:List β}(hs:∀(l:List β) (i:Nat) (h:i<x.length),l.length=l0.length+i->step (l,(i:Int))=some (.inl (l++[f x[i]],(i:Int)+1))) (he:∀l,step (l,(x.length:Int))=some (.inr (.inl l))):Ar step (l0,0)=some (.inl (l0++x.map f)):=by
 refine Hv (fun i=>(l0++(x.take i).map f,(i:Int))) x.length _ ?_ ?_ _ (by simp)
 ·intro i hi;rw[hs _ i hi (by simp;omega)];have e:(x.take (i+1)).map f=(x.take i).map f++[f x[i]]:=by
   rw[Kec hi,Kv];rfl
  rw[e,<-Kwa];rfl
 ·rw[he];simp
def mkF (m:Cb) (s:List Cb×Bool) (x:Cb):List Cb×Bool :=
 let s1:=if (!s.2&&iGe x.1 m.1)=true then (s.1++[m],true) else s
 if iNe x.1 m.1=true then (s1.1++[x],s1.2) else s1
def mkS (l:List Cb) (m:Cb) (i:Nat):List Cb×Bool:=(l.take i).foldl (mkF m) ([],false)
def mkR (l:List Cb) (m:Cb):List Cb:=if (mkS l m l.length).2=true then (mkS l m l.length).1 else (mkS l m l.length).1++[m]
theorem Zt7 {l:List Cb}{m:Cb}{i:Nat}(h:i<l.length):mkS l m (i+1)=mkF m (mkS l m i) l[i]:=by
 unfold mkS;rw[Kec h,Klf];rfl
theorem Zd3 (l:List Cb) (m:Cb):∀i,i<=l.length->(mkS l m i).1.length+(if (mkS l m i).2=true then 0 else 1)<=i+1
 | 0,_=>by simp [mkS]
 | i+1,h=>by
  have ih:=Zd3 l m i (by omega);rw[Zt7 (by omega)];generalize mkS l m i=s at ih;obtain⟨o,p⟩:=s;unfold mkF;cases p<;>cases iGe l[i].1 m.1<;>cases iNe l[i].1 m.1<;>simp at ih ⊢<;>omega
theorem Ym1 (l:List Cb) (m:Cb):(mkR l m).length<=l.length+1:=by
 have:=Zd3 l m l.length (Kd _);unfold mkR;split
 ·omega
 ·rename_i h;rw[if_neg h]at this;simp;omega
theorem Zt8 {l:List Cb}{m:Cb}(hl:l.length<=1048576){step:List Cb×Bool×Int->Option ((List Cb×Bool×Int) ⊕ ((List Cb×Bool) ⊕ List Cb))}
  (hs:∀(o:List Cb) (p:Bool) (i:Nat) (hi:i<l.length),o.length<=i+1->(p=false->o.length<=i)->step (o,(p,(i:Int)))=some (.inl ((mkF m (o,p) l[i]).1,((mkF m (o,p) l[i]).2,((i+1:Nat):Int))))) (he:∀o p,step (o,(p,(l.length:Int)))=some (.inr (.inl (o,p)))) :
  (Ao (Ar step ([],(false,0))) (fun (z1:(List Cb×Bool))=>(Ao (cnd (Ah z1.2) (chk (A1 (z1.1.length+1) 24) (some (.inl (Al z1.1 [m])))) (some (.inl z1.1))) (fun (z2:List Cb)=>(some z2)))))=some (mkR l m):=by
 have lp:Ar step ([],(false,0))=some (.inl (mkS l m l.length)):=by
  refine Hv (fun i=>((mkS l m i).1,((mkS l m i).2,(i:Int)))) l.length _ (fun i hi=>?_) (he _ _) _ (by simp [mkS]);have hw:=Zd3 l m i (by omega);rw[hs _ _ i hi (by split at hw<;>omega) (fun hp=>by rw[hp]at hw;simp at hw;exact hw),Zt7 hi]
 rw[lp,A3];have hw:=Zd3 l m l.length (Kd _);unfold mkR;cases hp:(mkS l m l.length).2 with
 | true=>rw[A5,Ac,A3,if_pos rfl]
 | false =>
  rw[hp]at hw;rw[B6,Ag,Bk (by simp at hw;omega),Av,A3,if_neg (by simp)];rfl
theorem Ylp {l:List Cb}{m:Cb}(hl:l.length<=1048576):Sf (l,m)=some (mkR l m):=by
 rw[Sf];refine Zt8 hl (fun o p i hi h1 h2=>?_) fun o p=>?_
 ·rw[Zgl];simp only[mkF];rw[A4 (by rw[Aj];omega),Ag,Bt hi,Ab];have r1:A1 (o.length+1) 24=true:=Bk (by omega);have r2:A1 ((Al o [m]).length+1) 24=true:=Bk (by simp [Al];omega);cases p<;>cases iGe l[i].1 m.1<;>cases iNe l[i].1 m.1<;>simp only[A5,B6,Ag,Ac,r1,r2,Av,A3,Kbd,Knd,Ktd,Kre,if_true,Kja,if_false,Cs (show i<9223372036854775807 by omega)]<;>rfl
 ·rw[Zgl];simp only;rw[A0 (by rw[Aj];omega),Ac]
theorem Yo7 {l:List Cb}{m:Cb}(hl:l.length<=1048576):V9 (l,m)=some (mkR l m):=by
 rw[V9];refine Zt8 hl (fun o p i hi h1 h2=>?_) fun o p=>?_
 ·rw[Zgv];simp only[mkF];rw[A4 (by rw[Aj];omega),Ag];simp only[Bt hi,Ab];have r1:A1 (o.length+1) 24=true:=Bk (by omega);have r2:A1 ((Al o [m]).length+1) 24=true:=Bk (by simp [Al];omega);cases p<;>cases iGe l[i].1 m.1<;>cases iNe l[i].1 m.1<;>simp only[A5,B6,Ag,Ac,r1,r2,Av,A3,Kbd,Knd,Ktd,Kre,if_true,Kja,if_false,Cs (show i<9223372036854775807 by omega)]<;>rfl
 ·rw[Zgv];simp only;rw[A0 (by rw[Aj];omega),Ac]
theorem Zpl {α:Type}{ok:α->Bool}{lt:α->α->Bool}{l:List α}(h:G6 ok lt l=true){i:Nat}(hi:i<l.length):ok l[i]=true:=by
 have:=Koa.1 h i (Kvb.2 hi);cases i with
 | zero=>rwa [W0 hi]at this
 | succ j=>rw[Tb hi,Ke]at this;exact this.1
theorem Zhr {α:Type}{ok:α->Bool}{lt:α->α->Bool}{l:List α}(h:G6 ok lt l=true){i:Nat}(hi:i+1<l.length):lt l[i] l[i+1]=true:=by
 have:=Koa.1 h (i+1) (Kvb.2 hi);rw[Tb hi,Ke]at this;exact this.2
theorem Zpm {α:Type}{ok:α->Bool}{lt:α->α->Bool}(tr:∀a b c,lt a b=true->lt b c=true->lt a c=true){l:List α}(h:G6 ok lt l=true):∀(j i:Nat) (hi:i<j) (hj:j<l.length),lt (l[i]'(by omega)) l[j]=true
 | 0,i,hi,_=>absurd hi (Kge _)
 | j+1,i,hi,hj=>by
  by_cases e:i=j
  ·subst e;exact Zhr h hj
  ·exact tr _ _ _ (Zpm tr h j i (by omega) (by omega)) (Zhr h hj)
theorem Ymz {l:List Cb}(h:G6 Hc Pf l=true):l.length<=9:=by
 have key:∀i (hi:i<l.length),((i:Int)+1)<=l[i].1:=by
  intro i
  induction i with
  | zero =>
   intro hi;have:=Zpl h hi;simp only[Hc,Ke,decide_eq_true_eq]at this;omega
  | succ i ih =>
   intro hi;have h1:=ih (by omega);have h2:=Zhr h hi;simp only[Pf,decide_eq_true_eq]at h2;omega
 by_cases hl:l.length<=9
 ·exact hl
 ·have h1:=key 9 (by omega);have h2:=Zpl h (show 9<l.length by omega);simp only[Hc,Ke,decide_eq_true_eq]at h2;omega
theorem Yn4 {l:List Row}(h:G6 Cu Lv l=true){key:List UInt8}{k:Nat}(hk:k<l.length) (he:(l[k].1==key)=true):Gk l key=l.take k++l.drop (k+1):=by
 have he:l[k].1=key:=by simpa using he
 have mono:=Zpm (lt:=Lv) (fun a b c h1 h2=>Yog h1 h2) h;have e0:l=l.take k++(l[k]::l.drop (k+1)):=by rw[<-Kfc hk,Kkc]
 have e1:(l.take k).filter (F8 key)=l.take k:=Kse.2 fun x hx=>by
  obtain⟨j,hj,rfl⟩:=Khd hx;rw[Kbb]at hj;rw[Kfg];have:=mono k j (by omega) hk;simp only[Lv]at this;simp only[F8];by_cases e:l[j].1=key
  ·rw[e,he,Zl9]at this;cases this
  ·simpa using e
 have e2:(l.drop (k+1)).filter (F8 key)=l.drop (k+1):=Kse.2 fun x hx=>by
  obtain⟨j,hj,rfl⟩:=Khd hx;rw[Kra]at hj;rw[List.getElem_drop];have:=mono (k+1+j) k (by omega) (by omega);simp only[Lv]at this;simp only[F8];by_cases e:l[k+1+j].1=key
  ·rw[e,he,Zl9]at this;cases this
  ·simpa using e
 have e3:F8 key l[k]=false:=by simp [F8,he]
 unfold Gk
 conv=>lhs;rw[e0]
 rw[Kxd,Kyc,e3,e1,e2];rfl
theorem Yn5 {l:List Row}{key:List UInt8}(h:l.findIdx? (fun x=>x.1==key)=none):Gk l key=l:=by
 rw[Ksf]at h;exact Kse.2 fun x hx=>by simp [F8,h x hx]
def Hr (t:Tab) (r:Rec):List Row×Int:=if r.1=1 then (wrR t.1 r.2.1,t.2.1) else if r.1=2 then (Gk t.1 r.2.2.1,t.2.1) else if r.1=3 then (t.1,r.2.2.2.1) else (t.1,t.2.1)
def Na (t:Tab) (r:Rec):List Cb:=if r.2.2.2.2.1=0 then t.2.2 else mkR t.2.2 r.2.2.2.2
def Jz (t:Tab) (r:Rec):Tab:=((Hr t r).1,((Hr t r).2,Na t r))
def Jj (t:Tab) (r:Rec):Tab×Bool:=if (Ez t&&(Gb r&&Ez (Jz t r)))=true then (Jz t r,true) else (t,false)
theorem Zxp {t:Tab}(h:Ez t=true):G6 Cu Lv t.1=true/\G6 Hc Pf t.2.2=true/\t.1.length<=8/\0<=t.2.1/\t.2.1<=7/\t.2.2.length<=9:=by
 simp only[Ez,Ke,decide_eq_true_eq]at h;exact⟨h.1,h.2.1,h.2.2.1,h.2.2.2.1,h.2.2.2.2,Ymz h.2.1⟩
theorem Zkz {t:Tab}{r:Rec}(ht:smT 1048576 t) (hr:smC 1048576 r) (ho:Ez t=true):smT 1048576 (Jz t r):=by
 obtain⟨o1,o2,o3,o4,o5,o6⟩:=Zxp ho;obtain⟨t1,t2,t3⟩:=ht;have hm:(Na t r).length<=1048576:=by
  unfold Na;split
  ·exact t3
  ·have:=Ym1 t.2.2 r.2.2.2.2;omega
 refine⟨?_, ?_,hm⟩
 ·simp only[Jz,Hr];split
  ·have:=Yr2 t.1 r.2.1;simp only;omega
  ·split
   ·simp only;exact Kka (Kkf _ _) t1
   ·split<;>exact t1
 ·intro x hx;simp only[Jz,Hr]at hx;split at hx
  ·rcases Yr3 hx with rfl|h
   ·exact hr.1
   ·exact t2 x h
  ·split at hx
   ·exact t2 x (Kgd.1 hx).1
   ·split at hx<;>exact t2 x hx
theorem Zz9 {t:Tab}{r:Rec}(ht:smT 1048576 t) (hr:smC 1048576 r):smT 1048576 (Jj t r).1:=by
 unfold Jj;split
 ·rename_i h;simp only[Ke]at h;exact Zkz ht hr h.1
 ·exact ht
theorem Zvc {r:Rec}(h:Gb r=true):0<=r.2.2.2.2.1:=by
 simp only[Gb,Ke]at h;exact (Zn1 h.2).1
theorem Ya2 {F:Row->Option Row}(hF:∀r,smR 1048576 r->F r=some r){x:List Row}(hl:x.length<=1048576) (hr:∀r∈x,smR 1048576 r){step:List Row×Int->Option ((List Row×Int) ⊕ (List Row ⊕ Tab))}
  (hs:∀(l:List Row) (i:Nat),i<x.length->step (l,(i:Int))=bnd (idx x (i:Int)) fun z2=>bnd (F z2) fun z3=>chk (A1 (l.length+1) 96) (some (.inl (Al l [z3],Ai .i64 (i:Int) 1)))) (he:∀l,step (l,(x.length:Int))=some (.inr (.inl l))):Ar step ([],0)=some (.inl x):=by
 have:=Mm (step:=step) (x:=x) (f:=fun r=>r) (l0:=[]) (fun l i hi hll=>by
  simp only[Ki,Kr]at hll;rw[hs l i hi,Bt hi,Ab,hF _ (hr _ (Khb hi)),Ab,Bk (by omega),Av,Cs (by omega)];rfl) he
 rw[this];simp
theorem Zpr {F:Row->Option Row}(hF:∀r,smR 1048576 r->F r=some r){t:Tab}(h:smT 1048576 t){step:List Row×Int->Option ((List Row×Int) ⊕ (List Row ⊕ Tab))}
  (hs:∀(l:List Row) (i:Int),step (l,i)=cnd (iLt i (Ae t.1)) (bnd (idx t.1 i) fun z2=>bnd (F z2) fun z3=>chk (A1 (l.length+1) 96) (some (.inl (Al l [z3],Ai .i64 i 1)))) (some (.inr (.inl l)))) :
  (chk (A1 (0+t.2.2.length) 24) (Ao (Ar step ([],0)) (fun (z1:(List Row))=>(some (z1,(t.2.1,(Al [] t.2.2)))))))=some t:=by
 have h2:=h.2.2;rw[Bk (by omega),Av,Ya2 hF h.1 h.2.1 (fun l i hi=>by rw[hs,A4 (by rw[Aj];omega),Ag]) (fun l=>by rw[hs,A0 (by rw[Aj];omega),Ac]),A3];rfl
theorem Zjn {t:Tab}(h:smT 1048576 t):Se t=some t:=by
 rw[Se];rw[Sy];exact (Zpr (F:=N3) (fun r h=>Zjf h) h fun l i=>rfl)
theorem Zwk {t:Tab}(h:smT 1048576 t):Sq t=some t:=by
 rw[Sq];rw[Sy];exact (Zpr (F:=N5) (fun r h=>Zl6 h) h fun l i=>rfl)
theorem Ykz {t:Tab}{r:Rec}(ht:smT 1048576 t) (hr:smC 1048576 r):Zo (t,r)=some (Jj t r):=by
 rw[Zo];simp only;have hc:=Zjn ht;have ho:=Zs0 (r:=r) (by have:=hr.1.1;omega) (by have:=hr.2;omega);rw[hc,Ab,ho,Ab];unfold Jj;cases h1:Gb r with
 | false=>rw[B6,Ag];cases Ez t<;>simp
 | true =>
  rw[A5,Ac,Zjm ht,Ab];cases h2:Ez t with
  | false=>rw[B6,Ag];simp
  | true =>
   rw[A5,Ac];have hn:=Zkz ht hr h2;have hw:=Zvc h1;have t3:=ht.2.2
   -- what is done to the rows
   have hb:((cnd (iEq r.1 1) (bnd (cvL tyR L1 t.1) (fun z4=>(bnd (Vq (z4,r.2.1)) (fun z5=>(some (.inl (r.1,(r.2.1.1,(r.2.1.2.1.1,(r.2.1.2.2.1.1,(r.2.1.2.2.2.1,(r.2.1.2.2.2.2,(r.2.2.1,(r.2.2.2.1,(r.2.2.2.2.1,(r.2.2.2.2.2.1,(r.2.2.2.2.2.2,(z5,t.2.1)))))))))))))))))) (cnd (iEq r.1 2) (bnd (cvL tyR L1 t.1) (fun z4=>(bnd (We (z4,r)) (fun z5=>(some (.inl (z5.2.1,(z5.2.2.1,(z5.2.2.2.1,(z5.2.2.2.2.1,(z5.2.2.2.2.2.1,(z5.2.2.2.2.2.2.1,(z5.2.2.2.2.2.2.2.1,(z5.2.2.2.2.2.2.2.2.1,(z5.2.2.2.2.2.2.2.2.2.1,(z5.2.2.2.2.2.2.2.2.2.2.1,(z5.2.2.2.2.2.2.2.2.2.2.2,(z5.1,t.2.1)))))))))))))))))) (cnd (iEq r.1 3) (some (.inl (r.1,(r.2.1.1,(r.2.1.2.1.1,(r.2.1.2.2.1.1,(r.2.1.2.2.2.1,(r.2.1.2.2.2.2,(r.2.2.1,(r.2.2.2.1,(r.2.2.2.2.1,(r.2.2.2.2.2.1,(r.2.2.2.2.2.2,(t.1,r.2.2.2.1)))))))))))))) (some (.inl (r.1,(r.2.1.1,(r.2.1.2.1.1,(r.2.1.2.2.1.1,(r.2.1.2.2.2.1,(r.2.1.2.2.2.2,(r.2.2.1,(r.2.2.2.1,(r.2.2.2.2.1,(r.2.2.2.2.2.1,(r.2.2.2.2.2.2,(t.1,t.2.1))))))))))))))))):Option ((Int×List UInt8×Int×Int×Int×Bool×List UInt8×Int×Int×Int×Int×List Row×Int) ⊕ (Tab×Bool)))=some (.inl (r.1,(r.2.1.1,(r.2.1.2.1.1,(r.2.1.2.2.1.1,(r.2.1.2.2.2.1,(r.2.1.2.2.2.2,(r.2.2.1,(r.2.2.2.1,(r.2.2.2.2.1,(r.2.2.2.2.2.1,(r.2.2.2.2.2.2,((Hr t r).1,(Hr t r).2))))))))))))):=by
    unfold Hr;by_cases k1:r.1=1
    ·have e1:iEq r.1 1=true:=by rw[k1];rfl
     rw[e1,Ag,Zcr,Ab,Ylq ht.1 hr.1,Ab,if_pos k1]
    ·rw[Dp k1,Ac,if_neg k1];by_cases k2:r.1=2
     ·have e2:iEq r.1 2=true:=by rw[k2];rfl
      rw[e2,Ag,Zcr,Ab,Yk2 ht.1,Ab,if_pos k2];rfl
     ·rw[Dp k2,Ac,if_neg k2];by_cases k3:r.1=3
      ·have e3:iEq r.1 3=true:=by rw[k3];rfl
       rw[e3,Ag,if_pos k3]
      ·rw[Dp k3,Ac,if_neg k3]
   rw[hb,A3];simp only;have hm:(cnd (iGt r.2.2.2.2.1 0) (bnd (Sf (t.2.2,(r.2.2.2.2.1,(r.2.2.2.2.2.1,r.2.2.2.2.2.2)))) fun z5=>some (.inl z5)) (some (.inl t.2.2)):Option (List Cb ⊕ (Tab×Bool)))=some (.inl (Na t r)):=by
    unfold Na;by_cases k:r.2.2.2.2.1=0
    ·rw[Ej (by omega),Ac,if_pos k]
    ·rw[Dq (by omega),Ag,show Sf (t.2.2,(r.2.2.2.2.1,(r.2.2.2.2.2.1,r.2.2.2.2.2.2)))=some (mkR t.2.2 r.2.2.2.2) from Ylp t3,Ab,if_neg k]
   rw[hm,A3];have h3:L6 ((Hr t r).1,((Hr t r).2,Na t r))=some (Ez (Jz t r)):=Zjm hn;rw[h3,Ab];cases h4:Ez (Jz t r) with
   | false=>rw[B6,Ag,Ab];simp
   | true=>rw[A5,Ac];simp [Jz]
theorem Yoj {t:Tab}{r:Rec}(ht:smT 1048576 t) (hr:smC 1048576 r):Zav (t,r)=some (Jj t r):=by
 rw[Zav];simp only;have hc:=Zwk ht;have ho:=Zwi (r:=r) (by have:=hr.1.1;omega) (by have:=hr.2;omega);rw[hc,Ab,Zmg ht,Ab];unfold Jj;cases h2:Ez t with
 | false=>rw[B6,Ag];simp
 | true =>
  rw[A5,Ac,ho,Ab];cases h1:Gb r with
  | false=>rw[B6,Ag];simp
  | true =>
   rw[A5,Ac];have hn:=Zkz ht hr h2;have hw:=Zvc h1;have t1:=ht.1;have t3:=ht.2.2;have hch:=(Zxp h2).1;have hb:∀(k:(List Row×Int)->Option (Tab×Bool)) (e:Option ((List Row×Int) ⊕ (Tab×Bool))),e=some (.inl (Gk t.1 r.2.2.1,t.2.1))->Ao (cnd (iEq r.1 1) (bnd (cvL tyR L1 t.1) fun z4=>bnd (Wa (z4,r.2.1)) fun z5=>some (.inl (z5,t.2.1))) (cnd (iEq r.1 2) e (cnd (iEq r.1 3) (some (.inl (t.1,r.2.2.2.1))) (some (.inl (t.1,t.2.1)))))) k=k ((Hr t r).1,(Hr t r).2):=by
    intro k e he;unfold Hr;by_cases k1:r.1=1
    ·simp only[k1,T2,Ag,Zcr,Ab,Yo8 ht.1 hr.1,A3,if_true]
    ·rw[Dp k1,Ac,if_neg k1];by_cases k2:r.1=2
     ·have e2:iEq r.1 2=true:=by rw[k2];rfl
      rw[e2,Ag,he,A3,if_pos k2]
     ·rw[Dp k2,Ac,if_neg k2];by_cases k3:r.1=3
      ·have e3:iEq r.1 3=true:=by rw[k3];rfl
       rw[e3,Ag,A3,if_pos k3]
      ·rw[Dp k3,Ac,A3,if_neg k3]
   rw[hb]
   rotate_left
   ·rw[show V6 (t,r.2.2.1)=some (Zet t.1 r.2.2.1) from Yov (by omega),Ab];unfold Zet;cases hf:t.1.findIdx? (fun x=>x.1==r.2.2.1) with
    | none=>rw[show iGe (-1) 0=false from rfl,Ac,Yn5 hf]
    | some k =>
     rw[Krf]at hf;obtain⟨hk,hk1,hk2⟩:=hf;simp only;rw[Xj (by omega),Ag,Yn4 hch hk hk1];simp only[D9,Koc,Aj,Ym6 t.1 k (by omega),Cs (show k<9223372036854775807 by omega)];rw[show Dx 0 (k:Int) (t.1.length:Int)=true by simp [Dx];omega,Av,show Ib 0 k t.1.length=true by simp [Ib];omega,Av,Bk (by simp [Bq];omega),Av,show Dx ((k+1:Nat):Int) (t.1.length:Int) (t.1.length:Int)=true by simp [Dx];omega,Av,show Ib (k+1) (t.1.length-(k+1)) t.1.length=true by simp [Ib];omega,Av];refine (congrArg (fun o=>bnd o _) (Ym4 t.1 k (t.1.length-(k+1)))).trans ?_;simp only[Ab];rw[Bk (by simp [Al,Bq];omega),Av,Kob (by simp)];simp [Al,Bq]
   simp only;have hm:(cnd (iNe r.2.2.2.2.1 0) (bnd (V9 (t.2.2,r.2.2.2.2)) fun z5=>some (.inl z5)) (some (.inl t.2.2)):Option (List Cb ⊕ (Tab×Bool)))=some (.inl (Na t r)):=by
    unfold Na;by_cases k:r.2.2.2.2.1=0
    ·rw[k,Fo,Ac,if_pos rfl]
    ·rw[Xk k,Ag,Yo7 t3,Ab,if_neg k]
   rw[hm,A3];have h3:Mc ((Hr t r).1,((Hr t r).2,Na t r))=some (Ez (Jz t r)):=Zmg hn;rw[h3,Ab];cases h4:Ez (Jz t r) with
   | false=>rw[B6,Ag,Ab];simp
   | true=>rw[A5,Ac];simp [Jz]
end
end Go.Vs
