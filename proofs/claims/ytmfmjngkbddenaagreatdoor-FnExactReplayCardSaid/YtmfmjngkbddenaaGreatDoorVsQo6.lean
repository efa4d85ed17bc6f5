import Derived.Test.YtmfmjngkbddenaaGreatDoorVsW5
import Derived.Test.YtmfmjngkbddenaaGreatDoorVsQo5
set_option linter.all false
namespace Go.Vs
noncomputable section
theorem Zxt {α β ρ:Type}{step:List β×Int->Option ((List β×Int) ⊕ (List β ⊕ ρ))}{x:List α}{f:α->β}{l0:List β}(hs:∀(l:List β) (i:Nat) (h:i<x.length),l.length=l0.length+i->step (l,(i:Int))=some (.inl (l++[f x[i]],(i:Int)+1))) (he:∀l,step (l,(x.length:Int))=some (.inr (.inl l))):Ar step (l0,0)=some (.inl (l0++x.map f)):=by
 refine Jp (fun i=>(l0++(x.take i).map f,(i:Int))) x.length _ ?_ ?_ _ (by simp)
 ·intro i hi;rw[hs _ i hi (by simp;omega)];have e:(x.take (i+1)).map f=(x.take i).map f++[f x[i]]:=by
   rw[Kfc hi,Kw];rfl
  rw[e,<-Klb];rfl
 ·rw[he];simp
def mkF (m:B7) (s:List B7×Bool) (x:B7):List B7×Bool :=
 let s1:=if (!s.2&&iGe x.1 m.1)=true then (s.1++[m],true) else s
 if iNe x.1 m.1=true then (s1.1++[x],s1.2) else s1
def mkS (l:List B7) (m:B7) (i:Nat):List B7×Bool:=(l.take i).foldl (mkF m) ([],false)
def mkR (l:List B7) (m:B7):List B7:=if (mkS l m l.length).2=true then (mkS l m l.length).1 else (mkS l m l.length).1++[m]
theorem Zrp {l:List B7}{m:B7}{i:Nat}(h:i<l.length):mkS l m (i+1)=mkF m (mkS l m i) l[i]:=by
 unfold mkS;rw[Kfc h,Kse];rfl
theorem Zcy (l:List B7) (m:B7):∀i,i<=l.length->(mkS l m i).1.length+(if (mkS l m i).2=true then 0 else 1)<=i+1
 | 0,_=>by simp [mkS]
 | i+1,h=>by
  have ih:=Zcy l m i (by omega);rw[Zrp (by omega)];generalize mkS l m i=s at ih;obtain⟨o,p⟩:=s;unfold mkF;cases p<;>cases iGe l[i].1 m.1<;>cases iNe l[i].1 m.1<;>simp at ih ⊢<;>omega
theorem Yiw (l:List B7) (m:B7):(mkR l m).length<=l.length+1:=by
 have:=Zcy l m l.length (Kd _);unfold mkR;split
 ·omega
 ·rename_i h;rw[if_neg h]at this;simp;omega
theorem Zrq {l:List B7}{m:B7}(hl:l.length<=1048576){step:List B7×Bool×Int->Option ((List B7×Bool×Int) ⊕ ((List B7×Bool) ⊕ List B7))}
  (hs:∀(o:List B7) (p:Bool) (i:Nat) (hi:i<l.length),o.length<=i+1->(p=false->o.length<=i)->step (o,(p,(i:Int)))=some (.inl ((mkF m (o,p) l[i]).1,((mkF m (o,p) l[i]).2,((i+1:Nat):Int))))) (he:∀o p,step (o,(p,(l.length:Int)))=some (.inr (.inl (o,p)))) :
  (Aq (Ar step ([],(false,0))) (fun (z1:(List B7×Bool))=>(Aq (cnd (Ah z1.2) (chk (Bp (z1.1.length+1) 24) (some (.inl (A0 z1.1 [m])))) (some (.inl z1.1))) (fun (z2:List B7)=>(some z2)))))=some (mkR l m):=by
 have lp:Ar step ([],(false,0))=some (.inl (mkS l m l.length)):=by
  refine Jp (fun i=>((mkS l m i).1,((mkS l m i).2,(i:Int)))) l.length _ (fun i hi=>?_) (he _ _) _ (by simp [mkS]);have hw:=Zcy l m i (by omega);rw[hs _ _ i hi (by split at hw<;>omega) (fun hp=>by rw[hp]at hw;simp at hw;exact hw),Zrp hi]
 rw[lp,A2];have hw:=Zcy l m l.length (Kd _);unfold mkR;cases hp:(mkS l m l.length).2 with
 | true=>rw[Bd,Ae,A2,if_pos rfl]
 | false =>
  rw[hp]at hw;rw[Cp,Ag,Dt (by simp at hw;omega),A4,A2,if_neg (by simp)];rfl
theorem Yho {l:List B7}{m:B7}(hl:l.length<=1048576):Rp (l,m)=some (mkR l m):=by
 rw[Rp];refine Zrq hl (fun o p i hi h1 h2=>?_) fun o p=>?_
 ·rw[Zfd];simp only[mkF];rw[A6 (by rw[Aj];omega),Ag,B9 hi,Ab];have r1:Bp (o.length+1) 24=true:=Dt (by omega);have r2:Bp ((A0 o [m]).length+1) 24=true:=Dt (by simp [A0];omega);cases p<;>cases iGe l[i].1 m.1<;>cases iNe l[i].1 m.1<;>simp only[Bd,Cp,Ag,Ae,r1,r2,A4,A2,Kkd,Ktd,Kbe,Kof,if_true,Kka,if_false,Dg (show i<9223372036854775807 by omega)]<;>rfl
 ·rw[Zfd];simp only;rw[A3 (by rw[Aj];omega),Ae]
theorem Yk5 {l:List B7}{m:B7}(hl:l.length<=1048576):Ve (l,m)=some (mkR l m):=by
 rw[Ve];refine Zrq hl (fun o p i hi h1 h2=>?_) fun o p=>?_
 ·rw[Zfl];simp only[mkF];rw[A6 (by rw[Aj];omega),Ag];simp only[B9 hi,Ab];have r1:Bp (o.length+1) 24=true:=Dt (by omega);have r2:Bp ((A0 o [m]).length+1) 24=true:=Dt (by simp [A0];omega);cases p<;>cases iGe l[i].1 m.1<;>cases iNe l[i].1 m.1<;>simp only[Bd,Cp,Ag,Ae,r1,r2,A4,A2,Kkd,Ktd,Kbe,Kof,if_true,Kka,if_false,Dg (show i<9223372036854775807 by omega)]<;>rfl
 ·rw[Zfl];simp only;rw[A3 (by rw[Aj];omega),Ae]
theorem Zgh {α:Type}{ok:α->Bool}{lt:α->α->Bool}{l:List α}(h:Gt ok lt l=true){i:Nat}(hi:i<l.length):ok l[i]=true:=by
 have:=Kma.1 h i (Kub.2 hi);cases i with
 | zero=>rwa [Wc hi]at this
 | succ j=>rw[Sf hi,Ke]at this;exact this.1
theorem Zgi {α:Type}{ok:α->Bool}{lt:α->α->Bool}{l:List α}(h:Gt ok lt l=true){i:Nat}(hi:i+1<l.length):lt l[i] l[i+1]=true:=by
 have:=Kma.1 h (i+1) (Kub.2 hi);rw[Sf hi,Ke]at this;exact this.2
theorem Znr {α:Type}{ok:α->Bool}{lt:α->α->Bool}(tr:∀a b c,lt a b=true->lt b c=true->lt a c=true){l:List α}(h:Gt ok lt l=true):∀(j i:Nat) (hi:i<j) (hj:j<l.length),lt (l[i]'(by omega)) l[j]=true
 | 0,i,hi,_=>absurd hi (Kme _)
 | j+1,i,hi,hj=>by
  by_cases e:i=j
  ·subst e;exact Zgi h hj
  ·exact tr _ _ _ (Znr tr h j i (by omega) (by omega)) (Zgi h hj)
theorem Yiu {l:List B7}(h:Gt Gy Ok l=true):l.length<=9:=by
 have key:∀i (hi:i<l.length),((i:Int)+1)<=l[i].1:=by
  intro i
  induction i with
  | zero =>
   intro hi;have:=Zgh h hi;simp only[Gy,Ke,decide_eq_true_eq]at this;omega
  | succ i ih =>
   intro hi;have h1:=ih (by omega);have h2:=Zgi h hi;simp only[Ok,decide_eq_true_eq]at h2;omega
 by_cases hl:l.length<=9
 ·exact hl
 ·have h1:=key 9 (by omega);have h2:=Zgh h (show 9<l.length by omega);simp only[Gy,Ke,decide_eq_true_eq]at h2;omega
theorem Yj5 {l:List Row}(h:Gt C3 Lo l=true){key:List UInt8}{k:Nat}(hk:k<l.length) (he:(l[k].1==key)=true):F7 l key=l.take k++l.drop (k+1):=by
 have he:l[k].1=key:=by simpa using he
 have mono:=Znr (lt:=Lo) (fun a b c h1 h2=>Yki h1 h2) h;have e0:l=l.take k++(l[k]::l.drop (k+1)):=by rw[<-Kzb hk,Kkc]
 have e1:(l.take k).filter (Fy key)=l.take k:=Kxe.2 fun x hx=>by
  obtain⟨j,hj,rfl⟩:=Kad hx;rw[Kta]at hj;rw[Keg];have:=mono k j (by omega) hk;simp only[Lo]at this;simp only[Fy];by_cases e:l[j].1=key
  ·rw[e,he,Zki]at this;cases this
  ·simpa using e
 have e2:(l.drop (k+1)).filter (Fy key)=l.drop (k+1):=Kxe.2 fun x hx=>by
  obtain⟨j,hj,rfl⟩:=Kad hx;rw[Kia]at hj;rw[List.getElem_drop];have:=mono (k+1+j) k (by omega) (by omega);simp only[Lo]at this;simp only[Fy];by_cases e:l[k+1+j].1=key
  ·rw[e,he,Zki]at this;cases this
  ·simpa using e
 have e3:Fy key l[k]=false:=by simp [Fy,he]
 unfold F7
 conv=>lhs;rw[e0]
 rw[Kee,Kzc,e3,e1,e2];rfl
theorem Yj6 {l:List Row}{key:List UInt8}(h:l.findIdx? (fun x=>x.1==key)=none):F7 l key=l:=by
 rw[Kqf]at h;exact Kxe.2 fun x hx=>by simp [Fy,h x hx]
def Ha (t:Tab) (r:Rec):List Row×Int:=if r.1=1 then (wrR t.1 r.2.1,t.2.1) else if r.1=2 then (F7 t.1 r.2.2.1,t.2.1) else if r.1=3 then (t.1,r.2.2.2.1) else (t.1,t.2.1)
def Mq (t:Tab) (r:Rec):List B7:=if r.2.2.2.2.1=0 then t.2.2 else mkR t.2.2 r.2.2.2.2
def Jr (t:Tab) (r:Rec):Tab:=((Ha t r).1,((Ha t r).2,Mq t r))
def J5 (t:Tab) (r:Rec):Tab×Bool:=if (Dh t&&(Dc r&&Dh (Jr t r)))=true then (Jr t r,true) else (t,false)
theorem Zlg {t:Tab}(h:Dh t=true):Gt C3 Lo t.1=true/\Gt Gy Ok t.2.2=true/\t.1.length<=8/\0<=t.2.1/\t.2.1<=7/\t.2.2.length<=9:=by
 simp only[Dh,Ke,decide_eq_true_eq]at h;exact⟨h.1,h.2.1,h.2.2.1,h.2.2.2.1,h.2.2.2.2,Yiu h.2.1⟩
theorem Zrw {t:Tab}{r:Rec}(ht:smT 1048576 t) (hr:smC 1048576 r) (ho:Dh t=true):smT 1048576 (Jr t r):=by
 obtain⟨o1,o2,o3,o4,o5,o6⟩:=Zlg ho;obtain⟨t1,t2,t3⟩:=ht;have hm:(Mq t r).length<=1048576:=by
  unfold Mq;split
  ·exact t3
  ·have:=Yiw t.2.2 r.2.2.2.2;omega
 refine⟨?_, ?_,hm⟩
 ·simp only[Jr,Ha];split
  ·have:=Ynq t.1 r.2.1;simp only;omega
  ·split
   ·simp only;exact Kja (Kif _ _) t1
   ·split<;>exact t1
 ·intro x hx;simp only[Jr,Ha]at hx;split at hx
  ·rcases Ynr hx with rfl|h
   ·exact hr.1
   ·exact t2 x h
  ·split at hx
   ·exact t2 x (Kod.1 hx).1
   ·split at hx<;>exact t2 x hx
theorem Zsw {r:Rec}(h:Dc r=true):0<=r.2.2.2.2.1:=by
 simp only[Dc,Ke]at h;exact (Zwr h.2).1
theorem Zyr {F:Row->Option Row}(hF:∀r,smR 1048576 r->F r=some r){x:List Row}(hl:x.length<=1048576) (hr:∀r∈x,smR 1048576 r){step:List Row×Int->Option ((List Row×Int) ⊕ (List Row ⊕ Tab))}
  (hs:∀(l:List Row) (i:Nat),i<x.length->step (l,(i:Int))=bnd (idx x (i:Int)) fun z2=>bnd (F z2) fun z3=>chk (Bp (l.length+1) 96) (some (.inl (A0 l [z3],Ai .i64 (i:Int) 1)))) (he:∀l,step (l,(x.length:Int))=some (.inr (.inl l))):Ar step ([],0)=some (.inl x):=by
 have:=Zxt (step:=step) (x:=x) (f:=fun r=>r) (l0:=[]) (fun l i hi hll=>by
  simp only[Ko,Kp]at hll;rw[hs l i hi,B9 hi,Ab,hF _ (hr _ (Ktb hi)),Ab,Dt (by omega),A4,Dg (by omega)];rfl) he
 rw[this];simp
theorem Znw {F:Row->Option Row}(hF:∀r,smR 1048576 r->F r=some r){t:Tab}(h:smT 1048576 t){step:List Row×Int->Option ((List Row×Int) ⊕ (List Row ⊕ Tab))}
  (hs:∀(l:List Row) (i:Int),step (l,i)=cnd (iLt i (Af t.1)) (bnd (idx t.1 i) fun z2=>bnd (F z2) fun z3=>chk (Bp (l.length+1) 96) (some (.inl (A0 l [z3],Ai .i64 i 1)))) (some (.inr (.inl l)))) :
  (chk (Bp (0+t.2.2.length) 24) (Aq (Ar step ([],0)) (fun (z1:(List Row))=>(some (z1,(t.2.1,(A0 [] t.2.2)))))))=some t:=by
 have h2:=h.2.2;rw[Dt (by omega),A4,Zyr hF h.1 h.2.1 (fun l i hi=>by rw[hs,A6 (by rw[Aj];omega),Ag]) (fun l=>by rw[hs,A3 (by rw[Aj];omega),Ae]),A2];rfl
theorem Yhj {t:Tab}(h:smT 1048576 t):U2 t=some t:=by
 rw[U2];rw[Vx];exact (Znw (F:=Pk) (fun r h=>Zqh h) h fun l i=>rfl)
theorem Yk3 {t:Tab}(h:smT 1048576 t):Vc t=some t:=by
 rw[Vc];rw[Vx];exact (Znw (F:=Pu) (fun r h=>Ztz h) h fun l i=>rfl)
theorem Ygv {t:Tab}{r:Rec}(ht:smT 1048576 t) (hr:smC 1048576 r):Y2 (t,r)=some (J5 t r):=by
 rw[Y2];simp only;have hc:=Yhj ht;have ho:=Zqo (r:=r) (by have:=hr.1.1;omega) (by have:=hr.2;omega);rw[hc,Ab,ho,Ab];unfold J5;cases h1:Dc r with
 | false=>rw[Cp,Ag];cases Dh t<;>simp
 | true =>
  rw[Bd,Ae,Zqp ht,Ab];cases h2:Dh t with
  | false=>rw[Cp,Ag];simp
  | true =>
   rw[Bd,Ae];have hn:=Zrw ht hr h2;have hw:=Zsw h1;have t3:=ht.2.2
   -- what is done to the rows
   have hb:((cnd (iEq r.1 1) (bnd (cvL tyR Ly t.1) (fun z4=>(bnd (U4 (z4,r.2.1)) (fun z5=>(some (.inl (r.1,(r.2.1.1,(r.2.1.2.1.1,(r.2.1.2.2.1.1,(r.2.1.2.2.2.1,(r.2.1.2.2.2.2,(r.2.2.1,(r.2.2.2.1,(r.2.2.2.2.1,(r.2.2.2.2.2.1,(r.2.2.2.2.2.2,(z5,t.2.1)))))))))))))))))) (cnd (iEq r.1 2) (bnd (cvL tyR Ly t.1) (fun z4=>(bnd (Vj (z4,r)) (fun z5=>(some (.inl (z5.2.1,(z5.2.2.1,(z5.2.2.2.1,(z5.2.2.2.2.1,(z5.2.2.2.2.2.1,(z5.2.2.2.2.2.2.1,(z5.2.2.2.2.2.2.2.1,(z5.2.2.2.2.2.2.2.2.1,(z5.2.2.2.2.2.2.2.2.2.1,(z5.2.2.2.2.2.2.2.2.2.2.1,(z5.2.2.2.2.2.2.2.2.2.2.2,(z5.1,t.2.1)))))))))))))))))) (cnd (iEq r.1 3) (some (.inl (r.1,(r.2.1.1,(r.2.1.2.1.1,(r.2.1.2.2.1.1,(r.2.1.2.2.2.1,(r.2.1.2.2.2.2,(r.2.2.1,(r.2.2.2.1,(r.2.2.2.2.1,(r.2.2.2.2.2.1,(r.2.2.2.2.2.2,(t.1,r.2.2.2.1)))))))))))))) (some (.inl (r.1,(r.2.1.1,(r.2.1.2.1.1,(r.2.1.2.2.1.1,(r.2.1.2.2.2.1,(r.2.1.2.2.2.2,(r.2.2.1,(r.2.2.2.1,(r.2.2.2.2.1,(r.2.2.2.2.2.1,(r.2.2.2.2.2.2,(t.1,t.2.1))))))))))))))))):Option ((Int×List UInt8×Int×Int×Int×Bool×List UInt8×Int×Int×Int×Int×List Row×Int) ⊕ (Tab×Bool)))=some (.inl (r.1,(r.2.1.1,(r.2.1.2.1.1,(r.2.1.2.2.1.1,(r.2.1.2.2.2.1,(r.2.1.2.2.2.2,(r.2.2.1,(r.2.2.2.1,(r.2.2.2.2.1,(r.2.2.2.2.2.1,(r.2.2.2.2.2.2,((Ha t r).1,(Ha t r).2))))))))))))):=by
    unfold Ha;by_cases k1:r.1=1
    ·have e1:iEq r.1 1=true:=by rw[k1];rfl
     rw[e1,Ag,Zbp,Ab,Yhp ht.1 hr.1,Ab,if_pos k1]
    ·rw[Ep k1,Ae,if_neg k1];by_cases k2:r.1=2
     ·have e2:iEq r.1 2=true:=by rw[k2];rfl
      rw[e2,Ag,Zbp,Ab,Ygy ht.1,Ab,if_pos k2];rfl
     ·rw[Ep k2,Ae,if_neg k2];by_cases k3:r.1=3
      ·have e3:iEq r.1 3=true:=by rw[k3];rfl
       rw[e3,Ag,if_pos k3]
      ·rw[Ep k3,Ae,if_neg k3]
   rw[hb,A2];simp only;have hm:(cnd (iGt r.2.2.2.2.1 0) (bnd (Rp (t.2.2,(r.2.2.2.2.1,(r.2.2.2.2.2.1,r.2.2.2.2.2.2)))) fun z5=>some (.inl z5)) (some (.inl t.2.2)):Option (List B7 ⊕ (Tab×Bool)))=some (.inl (Mq t r)):=by
    unfold Mq;by_cases k:r.2.2.2.2.1=0
    ·rw[Er (by omega),Ae,if_pos k]
    ·rw[Dp (by omega),Ag,show Rp (t.2.2,(r.2.2.2.2.1,(r.2.2.2.2.2.1,r.2.2.2.2.2.2)))=some (mkR t.2.2 r.2.2.2.2) from Yho t3,Ab,if_neg k]
   rw[hm,A2];have h3:Ro ((Ha t r).1,((Ha t r).2,Mq t r))=some (Dh (Jr t r)):=Zqp hn;rw[h3,Ab];cases h4:Dh (Jr t r) with
   | false=>rw[Cp,Ag,Ab];simp
   | true=>rw[Bd,Ae];simp [Jr]
theorem Ykj {t:Tab}{r:Rec}(ht:smT 1048576 t) (hr:smC 1048576 r):Zx (t,r)=some (J5 t r):=by
 rw[Zx];simp only;have hc:=Yk3 ht;have ho:=Zt6 (r:=r) (by have:=hr.1.1;omega) (by have:=hr.2;omega);rw[hc,Ab,Zt8 ht,Ab];unfold J5;cases h2:Dh t with
 | false=>rw[Cp,Ag];simp
 | true =>
  rw[Bd,Ae,ho,Ab];cases h1:Dc r with
  | false=>rw[Cp,Ag];simp
  | true =>
   rw[Bd,Ae];have hn:=Zrw ht hr h2;have hw:=Zsw h1;have t1:=ht.1;have t3:=ht.2.2;have hch:=(Zlg h2).1;have hb:∀(k:(List Row×Int)->Option (Tab×Bool)) (e:Option ((List Row×Int) ⊕ (Tab×Bool))),e=some (.inl (F7 t.1 r.2.2.1,t.2.1))->Aq (cnd (iEq r.1 1) (bnd (cvL tyR Ly t.1) fun z4=>bnd (Vf (z4,r.2.1)) fun z5=>some (.inl (z5,t.2.1))) (cnd (iEq r.1 2) e (cnd (iEq r.1 3) (some (.inl (t.1,r.2.2.2.1))) (some (.inl (t.1,t.2.1)))))) k=k ((Ha t r).1,(Ha t r).2):=by
    intro k e he;unfold Ha;by_cases k1:r.1=1
    ·simp only[k1,Ww,Ag,Zbp,Ab,Yk6 ht.1 hr.1,A2,if_true]
    ·rw[Ep k1,Ae,if_neg k1];by_cases k2:r.1=2
     ·have e2:iEq r.1 2=true:=by rw[k2];rfl
      rw[e2,Ag,he,A2,if_pos k2]
     ·rw[Ep k2,Ae,if_neg k2];by_cases k3:r.1=3
      ·have e3:iEq r.1 3=true:=by rw[k3];rfl
       rw[e3,Ag,A2,if_pos k3]
      ·rw[Ep k3,Ae,A2,if_neg k3]
   rw[hb]
   rotate_left
   ·rw[show Vb (t,r.2.2.1)=some (Zdn t.1 r.2.2.1) from Yku (by omega),Ab];unfold Zdn;cases hf:t.1.findIdx? (fun x=>x.1==r.2.2.1) with
    | none=>rw[show iGe (-1) 0=false from rfl,Ae,Yj6 hf]
    | some k =>
     rw[Kpf]at hf;obtain⟨hk,hk1,hk2⟩:=hf;simp only;rw[Tb (by omega),Ag,Yj5 hch hk hk1];simp only[D9,Koc,Aj,Yi1 t.1 k (by omega),Dg (show k<9223372036854775807 by omega)];rw[show Co 0 (k:Int) (t.1.length:Int)=true by simp [Co];omega,A4,show Ht 0 k t.1.length=true by simp [Ht];omega,A4,Dt (by simp [A9];omega),A4,show Co ((k+1:Nat):Int) (t.1.length:Int) (t.1.length:Int)=true by simp [Co];omega,A4,show Ht (k+1) (t.1.length-(k+1)) t.1.length=true by simp [Ht];omega,A4];refine (congrArg (fun o=>bnd o _) (Yiz t.1 k (t.1.length-(k+1)))).trans ?_;simp only[Ab];rw[Dt (by simp [A0,A9];omega),A4,Kob (by simp)];simp [A0,A9]
   simp only;have hm:(cnd (iNe r.2.2.2.2.1 0) (bnd (Ve (t.2.2,r.2.2.2.2)) fun z5=>some (.inl z5)) (some (.inl t.2.2)):Option (List B7 ⊕ (Tab×Bool)))=some (.inl (Mq t r)):=by
    unfold Mq;by_cases k:r.2.2.2.2.1=0
    ·rw[k,E6,Ae,if_pos rfl]
    ·rw[Oa k,Ag,Yk5 t3,Ab,if_neg k]
   rw[hm,A2];have h3:Ry ((Ha t r).1,((Ha t r).2,Mq t r))=some (Dh (Jr t r)):=Zt8 hn;rw[h3,Ab];cases h4:Dh (Jr t r) with
   | false=>rw[Cp,Ag,Ab];simp
   | true=>rw[Bd,Ae];simp [Jr]
end
end Go.Vs
