import Derived.Test.YtmfmjngkbddenaaGreatDoorVsW5
import Derived.Test.YtmfmjngkbddenaaGreatDoorVsQt8
set_option linter.all false
namespace Go.Vs
noncomputable section
def mkF (m:Bu) (s:List Bu×Bool) (x:Bu):List Bu×Bool :=
 let s1:=if (!s.2&&iGe x.1 m.1)=true then (s.1++[m],true) else s
 if iNe x.1 m.1=true then (s1.1++[x],s1.2) else s1
def mkS (l:List Bu) (m:Bu) (i:Nat):List Bu×Bool:=(l.take i).foldl (mkF m) ([],false)
def mkR (l:List Bu) (m:Bu):List Bu:=if (mkS l m l.length).2=true then (mkS l m l.length).1 else (mkS l m l.length).1++[m]
theorem Zxx {l:List Bu}{m:Bu}{i:Nat}(h:i<l.length):mkS l m (i+1)=mkF m (mkS l m i) l[i]:=by
 unfold mkS;rw[Kbc h,Kzd];rfl
theorem Zgh (l:List Bu) (m:Bu):∀i,i<=l.length->(mkS l m i).1.length+(if (mkS l m i).2=true then 0 else 1)<=i+1
 | 0,_=>by simp [mkS]
 | i+1,h=>by
  have ih:=Zgh l m i (by omega);rw[Zxx (by omega)];generalize mkS l m i=s at ih;obtain⟨o,p⟩:=s;unfold mkF;cases p<;>cases iGe l[i].1 m.1<;>cases iNe l[i].1 m.1<;>simp at ih ⊢<;>omega
theorem Yq6 (l:List Bu) (m:Bu):(mkR l m).length<=l.length+1:=by
 have:=Zgh l m l.length (Kc _);unfold mkR;split
 ·omega
 ·rename_i h;rw[if_neg h]at this;simp;omega
theorem Zxy {l:List Bu}{m:Bu}(hl:l.length<=1048576){step:List Bu×Bool×Int->Option ((List Bu×Bool×Int) ⊕ ((List Bu×Bool) ⊕ List Bu))}
  (hs:∀(o:List Bu) (p:Bool) (i:Nat) (hi:i<l.length),o.length<=i+1->(p=false->o.length<=i)->step (o,(p,(i:Int)))=some (.inl ((mkF m (o,p) l[i]).1,((mkF m (o,p) l[i]).2,((i+1:Nat):Int))))) (he:∀o p,step (o,(p,(l.length:Int)))=some (.inr (.inl (o,p)))) :
  (Ao (Aw step ([],(false,0))) (fun (z1:(List Bu×Bool))=>(Ao (cnd (Ag z1.2) (chk (A0 (z1.1.length+1) 24) (some (.inl (Al z1.1 [m])))) (some (.inl z1.1))) (fun (z2:List Bu)=>(some z2)))))=some (mkR l m):=by
 have lp:Aw step ([],(false,0))=some (.inl (mkS l m l.length)):=by
  refine I0 (fun i=>((mkS l m i).1,((mkS l m i).2,(i:Int)))) l.length _ (fun i hi=>?_) (he _ _) _ (by simp [mkS]);have hw:=Zgh l m i (by omega);rw[hs _ _ i hi (by split at hw<;>omega) (fun hp=>by rw[hp]at hw;simp at hw;exact hw),Zxx hi]
 rw[lp,Ar];have hw:=Zgh l m l.length (Kc _);unfold mkR;cases hp:(mkS l m l.length).2 with
 | true=>rw[Au,Ac,Ar,if_pos rfl]
 | false =>
  rw[hp]at hw;rw[A3,Ad,Bi (by simp at hw;omega),Az,Ar,if_neg (by simp)];rfl
theorem Ypk {l:List Bu}{m:Bu}(hl:l.length<=1048576):Um (l,m)=some (mkR l m):=by
 rw[Um];refine Zxy hl (fun o p i hi h1 h2=>?_) fun o p=>?_
 ·rw[Zje];simp only[mkF];rw[A5 (by rw[Ak];omega),Ad,Br hi,Aa];have r1:A0 (o.length+1) 24=true:=Bi (by omega);have r2:A0 ((Al o [m]).length+1) 24=true:=Bi (by simp [Al];omega);cases p<;>cases iGe l[i].1 m.1<;>cases iNe l[i].1 m.1<;>simp only[Au,A3,Ad,Ac,r1,r2,Az,Ar,Kqc,Ksd,Kxd,Kxe,if_true,Kla,if_false,Cz (show i<9223372036854775807 by omega)]<;>rfl
 ·rw[Zje];simp only;rw[A6 (by rw[Ak];omega),Ac]
theorem Yt6 {l:List Bu}{m:Bu}(hl:l.length<=1048576):Yg (l,m)=some (mkR l m):=by
 rw[Yg];refine Zxy hl (fun o p i hi h1 h2=>?_) fun o p=>?_
 ·rw[Zjn];simp only[mkF];rw[A5 (by rw[Ak];omega),Ad];simp only[Br hi,Aa];have r1:A0 (o.length+1) 24=true:=Bi (by omega);have r2:A0 ((Al o [m]).length+1) 24=true:=Bi (by simp [Al];omega);cases p<;>cases iGe l[i].1 m.1<;>cases iNe l[i].1 m.1<;>simp only[Au,A3,Ad,Ac,r1,r2,Az,Ar,Kqc,Ksd,Kxd,Kxe,if_true,Kla,if_false,Cz (show i<9223372036854775807 by omega)]<;>rfl
 ·rw[Zjn];simp only;rw[A6 (by rw[Ak];omega),Ac]
theorem Zer {α:Type}{ok:α->Bool}{lt:α->α->Bool}{l:List α}(h:Gs ok lt l=true){i:Nat}(hi:i<l.length):ok l[i]=true:=by
 have:=Kna.1 h i (Kvb.2 hi);cases i with
 | zero=>rwa [Va hi]at this
 | succ j=>rw[R9 hi,Kd]at this;exact this.1
theorem Zkn {α:Type}{ok:α->Bool}{lt:α->α->Bool}{l:List α}(h:Gs ok lt l=true){i:Nat}(hi:i+1<l.length):lt l[i] l[i+1]=true:=by
 have:=Kna.1 h (i+1) (Kvb.2 hi);rw[R9 hi,Kd]at this;exact this.2
theorem Zko {α:Type}{ok:α->Bool}{lt:α->α->Bool}(tr:∀a b c,lt a b=true->lt b c=true->lt a c=true){l:List α}(h:Gs ok lt l=true):∀(j i:Nat) (hi:i<j) (hj:j<l.length),lt (l[i]'(by omega)) l[j]=true
 | 0,i,hi,_=>absurd hi (Kke _)
 | j+1,i,hi,hj=>by
  by_cases e:i=j
  ·subst e;exact Zkn h hj
  ·exact tr _ _ _ (Zko tr h j i (by omega) (by omega)) (Zkn h hj)
theorem Yq3 {l:List Bu}(h:Gs F2 Gf l=true):l.length<=9:=by
 have key:∀i (hi:i<l.length),((i:Int)+1)<=l[i].1:=by
  intro i
  induction i with
  | zero =>
   intro hi;have:=Zer h hi;simp only[F2,Kd,decide_eq_true_eq]at this;omega
  | succ i ih =>
   intro hi;have h1:=ih (by omega);have h2:=Zkn h hi;simp only[Gf,decide_eq_true_eq]at h2;omega
 by_cases hl:l.length<=9
 ·exact hl
 ·have h1:=key 9 (by omega);have h2:=Zer h (show 9<l.length by omega);simp only[F2,Kd,decide_eq_true_eq]at h2;omega
theorem Ys0 {l:List Row}(h:Gs Bn Gj l=true){key:List UInt8}{k:Nat}(hk:k<l.length) (he:(l[k].1==key)=true):Hc l key=l.take k++l.drop (k+1):=by
 have he:l[k].1=key:=by simpa using he
 have mono:=Zko (lt:=Gj) (fun a b c h1 h2=>Zpe h1 h2) h;have e0:l=l.take k++(l[k]::l.drop (k+1)):=by rw[<-Kwb hk,Klc]
 have e1:(l.take k).filter (G1 key)=l.take k:=Kkd.2 fun x hx=>by
  obtain⟨j,hj,rfl⟩:=Kpc hx;rw[Kua]at hj;rw[Kxf];have:=mono k j (by omega) hk;simp only[Gj]at this;simp only[G1];by_cases e:l[j].1=key
  ·rw[e,he,Tr]at this;cases this
  ·simpa using e
 have e2:(l.drop (k+1)).filter (G1 key)=l.drop (k+1):=Kkd.2 fun x hx=>by
  obtain⟨j,hj,rfl⟩:=Kpc hx;rw[Kma]at hj;rw[List.getElem_drop];have:=mono (k+1+j) k (by omega) (by omega);simp only[Gj]at this;simp only[G1];by_cases e:l[k+1+j].1=key
  ·rw[e,he,Tr]at this;cases this
  ·simpa using e
 have e3:G1 key l[k]=false:=by simp [G1,he]
 unfold Hc
 conv=>lhs;rw[e0]
 rw[Kbe,Ktc,e3,e1,e2];rfl
theorem Ys1 {l:List Row}{key:List UInt8}(h:l.findIdx? (fun x=>x.1==key)=none):Hc l key=l:=by
 rw[Kag]at h;exact Kkd.2 fun x hx=>by simp [G1,h x hx]
def Em (t:Tab) (r:Rec):List Row×Int:=if r.1=1 then (wrR t.1 r.2.1,t.2.1) else if r.1=2 then (Hc t.1 r.2.2.1,t.2.1) else if r.1=3 then (t.1,r.2.2.2.1) else (t.1,t.2.1)
def Hl (t:Tab) (r:Rec):List Bu:=if r.2.2.2.2.1=0 then t.2.2 else mkR t.2.2 r.2.2.2.2
def G4 (t:Tab) (r:Rec):Tab:=((Em t r).1,((Em t r).2,Hl t r))
def Da (t:Tab) (r:Rec):Tab×Bool:=if (Ca t&&(Cd r&&Ca (G4 t r)))=true then (G4 t r,true) else (t,false)
theorem Zbm {t:Tab}(h:Ca t=true):Gs Bn Gj t.1=true/\Gs F2 Gf t.2.2=true/\t.1.length<=8/\0<=t.2.1/\t.2.1<=7/\t.2.2.length<=9:=by
 simp only[Ca,Kd,decide_eq_true_eq]at h;exact⟨h.1,h.2.1,h.2.2.1,h.2.2.2.1,h.2.2.2.2,Yq3 h.2.1⟩
theorem Zx5 {t:Tab}{r:Rec}(ht:smT 1048576 t) (hr:smC 1048576 r) (ho:Ca t=true):smT 1048576 (G4 t r):=by
 obtain⟨o1,o2,o3,o4,o5,o6⟩:=Zbm ho;obtain⟨t1,t2,t3⟩:=ht;have hm:(Hl t r).length<=1048576:=by
  unfold Hl;split
  ·exact t3
  ·have:=Yq6 t.2.2 r.2.2.2.2;omega
 refine⟨?_, ?_,hm⟩
 ·simp only[G4,Em];split
  ·have:=Yxk t.1 r.2.1;simp only;omega
  ·split
   ·simp only;exact Kka (Kqf _ _) t1
   ·split<;>exact t1
 ·intro x hx;simp only[G4,Em]at hx;split at hx
  ·rcases Yxl hx with rfl|h
   ·exact hr.1
   ·exact t2 x h
  ·split at hx
   ·exact t2 x (Kid.1 hx).1
   ·split at hx<;>exact t2 x hx
theorem Zzc {r:Rec}(h:Cd r=true):0<=r.2.2.2.2.1:=by
 simp only[Cd,Kd]at h;exact (Zip h.2).1
theorem R4 {α β ρ:Type}{step:List β×Int->Option ((List β×Int) ⊕ (List β ⊕ ρ))}{x:List α}{f:α->β}{l0:List β}(hs:∀(l:List β) (i:Nat) (h:i<x.length),l.length=l0.length+i->step (l,(i:Int))=some (.inl (l++[f x[i]],(i:Int)+1))) (he:∀l,step (l,(x.length:Int))=some (.inr (.inl l))):Aw step (l0,0)=some (.inl (l0++x.map f)):=by
 refine I0 (fun i=>(l0++(x.take i).map f,(i:Int))) x.length _ ?_ ?_ _ (by simp)
 ·intro i hi;rw[hs _ i hi (by simp;omega)];have e:(x.take (i+1)).map f=(x.take i).map f++[f x[i]]:=by
   rw[Kbc hi,Kx];rfl
  rw[e,<-Kva];rfl
 ·rw[he];simp
theorem Yfg {F:Row->Option Row}(hF:∀r,smR 1048576 r->F r=some r){x:List Row}(hl:x.length<=1048576) (hr:∀r∈x,smR 1048576 r){step:List Row×Int->Option ((List Row×Int) ⊕ (List Row ⊕ Tab))}
  (hs:∀(l:List Row) (i:Nat),i<x.length->step (l,(i:Int))=bnd (idx x (i:Int)) fun z2=>bnd (F z2) fun z3=>chk (A0 (l.length+1) 96) (some (.inl (Al l [z3],Aj .i64 (i:Int) 1)))) (he:∀l,step (l,(x.length:Int))=some (.inr (.inl l))):Aw step ([],0)=some (.inl x):=by
 have:=R4 (step:=step) (x:=x) (f:=fun r=>r) (l0:=[]) (fun l i hi hll=>by
  simp only[Ki,Kr]at hll;rw[hs l i hi,Br hi,Aa,hF _ (hr _ (Kcb hi)),Aa,Bi (by omega),Az,Cz (by omega)];rfl) he
 rw[this];simp
theorem Zsy {F:Row->Option Row}(hF:∀r,smR 1048576 r->F r=some r){t:Tab}(h:smT 1048576 t){step:List Row×Int->Option ((List Row×Int) ⊕ (List Row ⊕ Tab))}
  (hs:∀(l:List Row) (i:Int),step (l,i)=cnd (iLt i (Ah t.1)) (bnd (idx t.1 i) fun z2=>bnd (F z2) fun z3=>chk (A0 (l.length+1) 96) (some (.inl (Al l [z3],Aj .i64 i 1)))) (some (.inr (.inl l)))) :
  (chk (A0 (0+t.2.2.length) 24) (Ao (Aw step ([],0)) (fun (z1:(List Row))=>(some (z1,(t.2.1,(Al [] t.2.2)))))))=some t:=by
 have h2:=h.2.2;rw[Bi (by omega),Az,Yfg hF h.1 h.2.1 (fun l i hi=>by rw[hs,A5 (by rw[Ak];omega),Ad]) (fun l=>by rw[hs,A6 (by rw[Ak];omega),Ac]),Ar];rfl
theorem Zmq {t:Tab}(h:smT 1048576 t):Ul t=some t:=by
 rw[Ul];rw[U0];exact (Zsy (F:=Pz) (fun r h=>Zmi h) h fun l i=>rfl)
theorem Yt3 {t:Tab}(h:smT 1048576 t):Ye t=some t:=by
 rw[Ye];rw[U0];exact (Zsy (F:=J3) (fun r h=>Zba h) h fun l i=>rfl)
theorem Zmj {t:Tab}{r:Rec}(ht:smT 1048576 t) (hr:smC 1048576 r):Ug (t,r)=some (Da t r):=by
 rw[Ug];simp only;have hc:=Zmq ht;have ho:=Zmo (r:=r) (by have:=hr.1.1;omega) (by have:=hr.2;omega);rw[hc,Aa,ho,Aa];unfold Da;cases h1:Cd r with
 | false=>rw[A3,Ad];cases Ca t<;>simp
 | true =>
  rw[Au,Ac,Zmp ht,Aa];cases h2:Ca t with
  | false=>rw[A3,Ad];simp
  | true =>
   rw[Au,Ac];have hn:=Zx5 ht hr h2;have hw:=Zzc h1;have t3:=ht.2.2
   -- what is done to the rows
   have hb:((cnd (iEq r.1 1) (bnd (cvL tyR Nn t.1) (fun z4=>(bnd (Xy (z4,r.2.1)) (fun z5=>(some (.inl (r.1,(r.2.1.1,(r.2.1.2.1.1,(r.2.1.2.2.1.1,(r.2.1.2.2.2.1,(r.2.1.2.2.2.2,(r.2.2.1,(r.2.2.2.1,(r.2.2.2.2.1,(r.2.2.2.2.2.1,(r.2.2.2.2.2.2,(z5,t.2.1)))))))))))))))))) (cnd (iEq r.1 2) (bnd (cvL tyR Nn t.1) (fun z4=>(bnd (Yn (z4,r)) (fun z5=>(some (.inl (z5.2.1,(z5.2.2.1,(z5.2.2.2.1,(z5.2.2.2.2.1,(z5.2.2.2.2.2.1,(z5.2.2.2.2.2.2.1,(z5.2.2.2.2.2.2.2.1,(z5.2.2.2.2.2.2.2.2.1,(z5.2.2.2.2.2.2.2.2.2.1,(z5.2.2.2.2.2.2.2.2.2.2.1,(z5.2.2.2.2.2.2.2.2.2.2.2,(z5.1,t.2.1)))))))))))))))))) (cnd (iEq r.1 3) (some (.inl (r.1,(r.2.1.1,(r.2.1.2.1.1,(r.2.1.2.2.1.1,(r.2.1.2.2.2.1,(r.2.1.2.2.2.2,(r.2.2.1,(r.2.2.2.1,(r.2.2.2.2.1,(r.2.2.2.2.2.1,(r.2.2.2.2.2.2,(t.1,r.2.2.2.1)))))))))))))) (some (.inl (r.1,(r.2.1.1,(r.2.1.2.1.1,(r.2.1.2.2.1.1,(r.2.1.2.2.2.1,(r.2.1.2.2.2.2,(r.2.2.1,(r.2.2.2.1,(r.2.2.2.2.1,(r.2.2.2.2.2.1,(r.2.2.2.2.2.2,(t.1,t.2.1))))))))))))))))):Option ((Int×List UInt8×Int×Int×Int×Bool×List UInt8×Int×Int×Int×Int×List Row×Int) ⊕ (Tab×Bool)))=some (.inl (r.1,(r.2.1.1,(r.2.1.2.1.1,(r.2.1.2.2.1.1,(r.2.1.2.2.2.1,(r.2.1.2.2.2.2,(r.2.2.1,(r.2.2.2.1,(r.2.2.2.2.1,(r.2.2.2.2.2.1,(r.2.2.2.2.2.2,((Em t r).1,(Em t r).2))))))))))))):=by
    unfold Em;by_cases k1:r.1=1
    ·have e1:iEq r.1 1=true:=by rw[k1];rfl
     rw[e1,Ad,Ze0,Aa,Ypl ht.1 hr.1,Aa,if_pos k1]
    ·rw[Dk k1,Ac,if_neg k1];by_cases k2:r.1=2
     ·have e2:iEq r.1 2=true:=by rw[k2];rfl
      rw[e2,Ad,Ze0,Aa,Yot ht.1,Aa,if_pos k2];rfl
     ·rw[Dk k2,Ac,if_neg k2];by_cases k3:r.1=3
      ·have e3:iEq r.1 3=true:=by rw[k3];rfl
       rw[e3,Ad,if_pos k3]
      ·rw[Dk k3,Ac,if_neg k3]
   rw[hb,Ar];simp only;have hm:(cnd (iGt r.2.2.2.2.1 0) (bnd (Um (t.2.2,(r.2.2.2.2.1,(r.2.2.2.2.2.1,r.2.2.2.2.2.2)))) fun z5=>some (.inl z5)) (some (.inl t.2.2)):Option (List Bu ⊕ (Tab×Bool)))=some (.inl (Hl t r)):=by
    unfold Hl;by_cases k:r.2.2.2.2.1=0
    ·rw[D7 (by omega),Ac,if_pos k]
    ·rw[Dl (by omega),Ad,show Um (t.2.2,(r.2.2.2.2.1,(r.2.2.2.2.2.1,r.2.2.2.2.2.2)))=some (mkR t.2.2 r.2.2.2.2) from Ypk t3,Aa,if_neg k]
   rw[hm,Ar];have h3:Ns ((Em t r).1,((Em t r).2,Hl t r))=some (Ca (G4 t r)):=Zmp hn;rw[h3,Aa];cases h4:Ca (G4 t r) with
   | false=>rw[A3,Ad,Aa];simp
   | true=>rw[Au,Ac];simp [G4]
theorem Ytc {t:Tab}{r:Rec}(ht:smT 1048576 t) (hr:smC 1048576 r):Zcq (t,r)=some (Da t r):=by
 rw[Zcq];simp only;have hc:=Yt3 ht;have ho:=Yao (r:=r) (by have:=hr.1.1;omega) (by have:=hr.2;omega);rw[hc,Aa,Yaq ht,Aa];unfold Da;cases h2:Ca t with
 | false=>rw[A3,Ad];simp
 | true =>
  rw[Au,Ac,ho,Aa];cases h1:Cd r with
  | false=>rw[A3,Ad];simp
  | true =>
   rw[Au,Ac];have hn:=Zx5 ht hr h2;have hw:=Zzc h1;have t1:=ht.1;have t3:=ht.2.2;have hch:=(Zbm h2).1;have hb:∀(k:(List Row×Int)->Option (Tab×Bool)) (e:Option ((List Row×Int) ⊕ (Tab×Bool))),e=some (.inl (Hc t.1 r.2.2.1,t.2.1))->Ao (cnd (iEq r.1 1) (bnd (cvL tyR Nn t.1) fun z4=>bnd (Yh (z4,r.2.1)) fun z5=>some (.inl (z5,t.2.1))) (cnd (iEq r.1 2) e (cnd (iEq r.1 3) (some (.inl (t.1,r.2.2.2.1))) (some (.inl (t.1,t.2.1)))))) k=k ((Em t r).1,(Em t r).2):=by
    intro k e he;unfold Em;by_cases k1:r.1=1
    ·simp only[k1,Ok,Ad,Ze0,Aa,Yt7 ht.1 hr.1,Ar,if_true]
    ·rw[Dk k1,Ac,if_neg k1];by_cases k2:r.1=2
     ·have e2:iEq r.1 2=true:=by rw[k2];rfl
      rw[e2,Ad,he,Ar,if_pos k2]
     ·rw[Dk k2,Ac,if_neg k2];by_cases k3:r.1=3
      ·have e3:iEq r.1 3=true:=by rw[k3];rfl
       rw[e3,Ad,Ar,if_pos k3]
      ·rw[Dk k3,Ac,Ar,if_neg k3]
   rw[hb]
   rotate_left
   ·rw[show Yb (t,r.2.2.1)=some (Zhe t.1 r.2.2.1) from Ytr (by omega),Aa];unfold Zhe;cases hf:t.1.findIdx? (fun x=>x.1==r.2.2.1) with
    | none=>rw[show iGe (-1) 0=false from rfl,Ac,Ys1 hf]
    | some k =>
     rw[Kzf]at hf;obtain⟨hk,hk1,hk2⟩:=hf;simp only;rw[Qu (by omega),Ad,Ys0 hch hk hk1];simp only[G3,Kwc,Ak,Yrb t.1 k (by omega),Cz (show k<9223372036854775807 by omega)];rw[show De 0 (k:Int) (t.1.length:Int)=true by simp [De];omega,Az,show Jm 0 k t.1.length=true by simp [Jm];omega,Az,Bi (by simp [Bp];omega),Az,show De ((k+1:Nat):Int) (t.1.length:Int) (t.1.length:Int)=true by simp [De];omega,Az,show Jm (k+1) (t.1.length-(k+1)) t.1.length=true by simp [Jm];omega,Az];refine (congrArg (fun o=>bnd o _) (Yq9 t.1 k (t.1.length-(k+1)))).trans ?_;simp only[Aa];rw[Bi (by simp [Al,Bp];omega),Az,Kib (by simp)];simp [Al,Bp]
   simp only;have hm:(cnd (iNe r.2.2.2.2.1 0) (bnd (Yg (t.2.2,r.2.2.2.2)) fun z5=>some (.inl z5)) (some (.inl t.2.2)):Option (List Bu ⊕ (Tab×Bool)))=some (.inl (Hl t r)):=by
    unfold Hl;by_cases k:r.2.2.2.2.1=0
    ·rw[k,Om,Ac,if_pos rfl]
    ·rw[Iw k,Ad,Yt6 t3,Aa,if_neg k]
   rw[hm,Ar];have h3:Us ((Em t r).1,((Em t r).2,Hl t r))=some (Ca (G4 t r)):=Yaq hn;rw[h3,Aa];cases h4:Ca (G4 t r) with
   | false=>rw[A3,Ad,Aa];simp
   | true=>rw[Au,Ac];simp [G4]
end
end Go.Vs
