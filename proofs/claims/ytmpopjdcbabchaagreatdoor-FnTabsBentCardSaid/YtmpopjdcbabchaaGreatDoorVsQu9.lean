import Derived.Test.YtmpopjdcbabchaaGreatDoorVsW5
import Derived.Test.YtmpopjdcbabchaaGreatDoorVsQu8
set_option linter.all false
namespace Go.Vs
noncomputable section
def mkF (m:Mark) (s:List Mark×Bool) (x:Mark):List Mark×Bool :=
 let s1:=if (!s.2&&iGe x.1 m.1)=true then (s.1++[m],true) else s
 if iNe x.1 m.1=true then (s1.1++[x],s1.2) else s1
def mkS (l:List Mark) (m:Mark) (i:Nat):List Mark×Bool:=(l.take i).foldl (mkF m) ([],false)
def mkR (l:List Mark) (m:Mark):List Mark:=if (mkS l m l.length).2=true then (mkS l m l.length).1 else (mkS l m l.length).1++[m]
theorem mkS_s {l:List Mark}{m:Mark}{i:Nat}(h:i<l.length):mkS l m (i+1)=mkF m (mkS l m i) l[i]:=by
 unfold mkS
 rw[List.take_succ_eq_append_getElem h,List.foldl_append];rfl
theorem mkS_len (l:List Mark) (m:Mark):∀i,i<=l.length->(mkS l m i).1.length+(if (mkS l m i).2=true then 0 else 1)<=i+1
 | 0,_=>by simp [mkS]
 | i+1,h=>by
  have ih:=mkS_len l m i (by omega)
  rw[mkS_s (by omega)]
  generalize mkS l m i=s at ih
  obtain⟨o,p⟩:=s
  unfold mkF
  cases p<;>cases iGe l[i].1 m.1<;>cases iNe l[i].1 m.1<;>simp at ih ⊢<;>omega
theorem mkR_len (l:List Mark) (m:Mark):(mkR l m).length<=l.length+1:=by
 have:=mkS_len l m l.length (Nat.le_refl _)
 unfold mkR
 split
 ·omega
 ·rename_i h;rw[if_neg h]at this;simp;omega
theorem mk_f {l:List Mark}{m:Mark}(hl:l.length<=1048576){step:List Mark×Bool×Int->Option ((List Mark×Bool×Int) ⊕ ((List Mark×Bool) ⊕ List Mark))}
  (hs:∀(o:List Mark) (p:Bool) (i:Nat) (hi:i<l.length),o.length<=i+1->(p=false->o.length<=i)->step (o,(p,(i:Int)))=some (.inl ((mkF m (o,p) l[i]).1,((mkF m (o,p) l[i]).2,((i+1:Nat):Int))))) (he:∀o p,step (o,(p,(l.length:Int)))=some (.inr (.inl (o,p)))) :
  (joinX (loopX step ([],(false,0))) (fun (z1:(List Mark×Bool))=>(joinX (cnd (bNot z1.2) (chk (room (z1.1.length+1) 24) (some (.inl (lApp z1.1 [m])))) (some (.inl z1.1))) (fun (z2:List Mark)=>(some z2)))))=some (mkR l m):=by
 have lp:loopX step ([],(false,0))=some (.inl (mkS l m l.length)):=by
  refine loop_exact (fun i=>((mkS l m i).1,((mkS l m i).2,(i:Int)))) l.length _ (fun i hi=>?_) (he _ _) _ (by simp [mkS])
  have hw:=mkS_len l m i (by omega)
  rw[hs _ _ i hi (by split at hw<;>omega) (fun hp=>by rw[hp]at hw;simp at hw;exact hw),mkS_s hi]
 rw[lp,joinX_l]
 have hw:=mkS_len l m l.length (Nat.le_refl _)
 unfold mkR
 cases hp:(mkS l m l.length).2 with
 | true=>rw[bNot_t,cnd_f,joinX_l,if_pos rfl]
 | false =>
  rw[hp]at hw
  rw[bNot_f,cnd_t,room_ok (by simp at hw;omega),chk_t,joinX_l,if_neg (by simp)];rfl
theorem i_withMark {l:List Mark}{m:Mark}(hl:l.length<=1048576):Zbs (l,m)=some (mkR l m):=by
 rw[Zbs]
 refine mk_f hl (fun o p i hi h1 h2=>?_) fun o p=>?_
 ·rw[Zft]
  simp only[mkF]
  rw[iLt_y (by rw[lLen_def];omega),cnd_t,idx_at hi,bnd_s]
  have r1:room (o.length+1) 24=true:=room_ok (by omega)
  have r2:room ((lApp o [m]).length+1) 24=true:=room_ok (by simp [lApp];omega)
  cases p<;>cases iGe l[i].1 m.1<;>cases iNe l[i].1 m.1<;>simp only[bNot_t,bNot_f,cnd_t,cnd_f,r1,r2,chk_t,joinX_l,Bool.not_true,Bool.not_false,Bool.and_true,Bool.and_false,if_true,Bool.false_eq_true,if_false,iAdd_1 (show i<9223372036854775807 by omega)]<;>rfl
 ·rw[Zft]
  simp only
  rw[iLt_n (by rw[lLen_def];omega),cnd_f]
theorem s_l12Put {l:List Mark}{m:Mark}(hl:l.length<=1048576):Zcg (l,m)=some (mkR l m):=by
 rw[Zcg]
 refine mk_f hl (fun o p i hi h1 h2=>?_) fun o p=>?_
 ·rw[Zfl]
  simp only[mkF]
  rw[iLt_y (by rw[lLen_def];omega),cnd_t]
  simp only[idx_at hi,bnd_s]
  have r1:room (o.length+1) 24=true:=room_ok (by omega)
  have r2:room ((lApp o [m]).length+1) 24=true:=room_ok (by simp [lApp];omega)
  cases p<;>cases iGe l[i].1 m.1<;>cases iNe l[i].1 m.1<;>simp only[bNot_t,bNot_f,cnd_t,cnd_f,r1,r2,chk_t,joinX_l,Bool.not_true,Bool.not_false,Bool.and_true,Bool.and_false,if_true,Bool.false_eq_true,if_false,iAdd_1 (show i<9223372036854775807 by omega)]<;>rfl
 ·rw[Zfl]
  simp only
  rw[iLt_n (by rw[lLen_def];omega),cnd_f]
theorem chain_at {α:Type}{ok:α->Bool}{lt:α->α->Bool}{l:List α}(h:chainB ok lt l=true){i:Nat}(hi:i<l.length):ok l[i]=true:=by
 have:=List.all_eq_true.1 h i (List.mem_range.2 hi)
 cases i with
 | zero=>rwa [chk1_0 hi]at this
 | succ j=>rw[chk1_s hi,Bool.and_eq_true]at this;exact this.1
theorem chain_lt {α:Type}{ok:α->Bool}{lt:α->α->Bool}{l:List α}(h:chainB ok lt l=true){i:Nat}(hi:i+1<l.length):lt l[i] l[i+1]=true:=by
 have:=List.all_eq_true.1 h (i+1) (List.mem_range.2 hi)
 rw[chk1_s hi,Bool.and_eq_true]at this;exact this.2
theorem chain_mono {α:Type}{ok:α->Bool}{lt:α->α->Bool}(tr:∀a b c,lt a b=true->lt b c=true->lt a c=true){l:List α}(h:chainB ok lt l=true):∀(j i:Nat) (hi:i<j) (hj:j<l.length),lt (l[i]'(by omega)) l[j]=true
 | 0,i,hi,_=>absurd hi (Nat.not_lt_zero _)
 | j+1,i,hi,hj=>by
  by_cases e:i=j
  ·subst e;exact chain_lt h hj
  ·exact tr _ _ _ (chain_mono tr h j i (by omega) (by omega)) (chain_lt h hj)
theorem marks_len {l:List Mark}(h:chainB markOk markLt l=true):l.length<=9:=by
 have key:∀i (hi:i<l.length),((i:Int)+1)<=l[i].1:=by
  intro i
  induction i with
  | zero =>
   intro hi
   have:=chain_at h hi
   simp only[markOk,Bool.and_eq_true,decide_eq_true_eq]at this
   omega
  | succ i ih =>
   intro hi
   have h1:=ih (by omega)
   have h2:=chain_lt h hi
   simp only[markLt,decide_eq_true_eq]at h2
   omega
 by_cases hl:l.length<=9
 ·exact hl
 ·have h1:=key 9 (by omega)
  have h2:=chain_at h (show 9<l.length by omega)
  simp only[markOk,Bool.and_eq_true,decide_eq_true_eq]at h2
  omega
theorem rows_del {l:List Row}(h:chainB rowOk rowLt l=true){key:List UInt8}{k:Nat}(hk:k<l.length) (he:(l[k].1==key)=true):delR l key=l.take k++l.drop (k+1):=by
 have he:l[k].1=key:=by simpa using he
 have mono:=chain_mono (lt:=rowLt) (fun a b c h1 h2=>sLt_trans h1 h2) h
 have e0:l=l.take k++(l[k]::l.drop (k+1)):=by rw[<-List.drop_eq_getElem_cons hk,List.take_append_drop]
 have e1:(l.take k).filter (keepP key)=l.take k:=List.filter_eq_self.2 fun x hx=>by
  obtain⟨j,hj,rfl⟩:=List.getElem_of_mem hx
  rw[List.length_take]at hj
  rw[List.getElem_take]
  have:=mono k j (by omega) hk
  simp only[rowLt]at this
  simp only[keepP]
  by_cases e:l[j].1=key
  ·rw[e,he,sLt_irr]at this;cases this
  ·simpa using e
 have e2:(l.drop (k+1)).filter (keepP key)=l.drop (k+1):=List.filter_eq_self.2 fun x hx=>by
  obtain⟨j,hj,rfl⟩:=List.getElem_of_mem hx
  rw[List.length_drop]at hj
  rw[List.getElem_drop]
  have:=mono (k+1+j) k (by omega) (by omega)
  simp only[rowLt]at this
  simp only[keepP]
  by_cases e:l[k+1+j].1=key
  ·rw[e,he,sLt_irr]at this;cases this
  ·simpa using e
 have e3:keepP key l[k]=false:=by simp [keepP,he]
 unfold delR
 conv=>lhs;rw[e0]
 rw[List.filter_append,List.filter_cons,e3,e1,e2];rfl
theorem rows_none {l:List Row}{key:List UInt8}(h:l.findIdx? (fun x=>x.1==key)=none):delR l key=l:=by
 rw[List.findIdx?_eq_none_iff]at h
 exact List.filter_eq_self.2 fun x hx=>by simp [keepP,h x hx]
def bodyT (t:Tab) (r:Rec):List Row×Int:=if r.1=1 then (wrR t.1 r.2.1,t.2.1) else if r.1=2 then (delR t.1 r.2.2.1,t.2.1) else if r.1=3 then (t.1,r.2.2.2.1) else (t.1,t.2.1)
def marksT (t:Tab) (r:Rec):List Mark:=if r.2.2.2.2.1=0 then t.2.2 else mkR t.2.2 r.2.2.2.2
def nextT (t:Tab) (r:Rec):Tab:=((bodyT t r).1,((bodyT t r).2,marksT t r))
def applyT (t:Tab) (r:Rec):Tab×Bool:=if (tabOk t&&(recOk r&&tabOk (nextT t r)))=true then (nextT t r,true) else (t,false)
theorem tabOk_has {t:Tab}(h:tabOk t=true):chainB rowOk rowLt t.1=true/\chainB markOk markLt t.2.2=true/\t.1.length<=8/\0<=t.2.1/\t.2.1<=7/\t.2.2.length<=9:=by
 simp only[tabOk,Bool.and_eq_true,decide_eq_true_eq]at h
 exact⟨h.1,h.2.1,h.2.2.1,h.2.2.2.1,h.2.2.2.2,marks_len h.2.1⟩
theorem nextT_sm {t:Tab}{r:Rec}(ht:smT 1048576 t) (hr:smC 1048576 r) (ho:tabOk t=true):smT 1048576 (nextT t r):=by
 obtain⟨o1,o2,o3,o4,o5,o6⟩:=tabOk_has ho
 obtain⟨t1,t2,t3⟩:=ht
 have hm:(marksT t r).length<=1048576:=by
  unfold marksT
  split
  ·exact t3
  ·have:=mkR_len t.2.2 r.2.2.2.2;omega
 refine⟨?_, ?_,hm⟩
 ·simp only[nextT,bodyT]
  split
  ·have:=wrR_len t.1 r.2.1;simp only;omega
  ·split
   ·simp only;exact Nat.le_trans (List.length_filter_le _ _) t1
   ·split<;>exact t1
 ·intro x hx
  simp only[nextT,bodyT]at hx
  split at hx
  ·rcases wrR_mem hx with rfl|h
   ·exact hr.1
   ·exact t2 x h
  ·split at hx
   ·exact t2 x (List.mem_filter.1 hx).1
   ·split at hx<;>exact t2 x hx
theorem applyT_sm {t:Tab}{r:Rec}(ht:smT 1048576 t) (hr:smC 1048576 r):smT 1048576 (applyT t r).1:=by
 unfold applyT
 split
 ·rename_i h
  simp only[Bool.and_eq_true]at h
  exact nextT_sm ht hr h.1
 ·exact ht
theorem recOk_who {r:Rec}(h:recOk r=true):0<=r.2.2.2.2.1:=by
 simp only[recOk,Bool.and_eq_true]at h
 exact (whoOk_has h.2).1
theorem app_loop {α β ρ:Type}{step:List β×Int->Option ((List β×Int) ⊕ (List β ⊕ ρ))}{x:List α}{f:α->β}{l0:List β}(hs:∀(l:List β) (i:Nat) (h:i<x.length),l.length=l0.length+i->step (l,(i:Int))=some (.inl (l++[f x[i]],(i:Int)+1))) (he:∀l,step (l,(x.length:Int))=some (.inr (.inl l))):loopX step (l0,0)=some (.inl (l0++x.map f)):=by
 refine loop_exact (fun i=>(l0++(x.take i).map f,(i:Int))) x.length _ ?_ ?_ _ (by simp)
 ·intro i hi
  rw[hs _ i hi (by simp;omega)]
  have e:(x.take (i+1)).map f=(x.take i).map f++[f x[i]]:=by
   rw[List.take_succ_eq_append_getElem hi,List.map_append];rfl
  rw[e,<-List.append_assoc]
  rfl
 ·rw[he];simp
theorem copyRows {F:Row->Option Row}(hF:∀r,smR 1048576 r->F r=some r){x:List Row}(hl:x.length<=1048576) (hr:∀r∈x,smR 1048576 r){step:List Row×Int->Option ((List Row×Int) ⊕ (List Row ⊕ Tab))}
  (hs:∀(l:List Row) (i:Nat),i<x.length->step (l,(i:Int))=bnd (idx x (i:Int)) fun z2=>bnd (F z2) fun z3=>chk (room (l.length+1) 96) (some (.inl (lApp l [z3],iAdd .i64 (i:Int) 1)))) (he:∀l,step (l,(x.length:Int))=some (.inr (.inl l))):loopX step ([],0)=some (.inl x):=by
 have:=app_loop (step:=step) (x:=x) (f:=fun r=>r) (l0:=[]) (fun l i hi hll=>by
  simp only[List.length_nil,Nat.zero_add]at hll
  rw[hs l i hi,idx_at hi,bnd_s,hF _ (hr _ (List.getElem_mem hi)),bnd_s,room_ok (by omega),chk_t,iAdd_1 (by omega)]
  rfl) he
 rw[this];simp
theorem alt2_tt {β:Type}{a b:Option β}{r:β}(h1:a=some r) (h2:b=some r):alt2 a b=some r:=by rw[h1,h2,alt2_self]
theorem copyTab_f {F:Row->Option Row}(hF:∀r,smR 1048576 r->F r=some r){t:Tab}(h:smT 1048576 t){step:List Row×Int->Option ((List Row×Int) ⊕ (List Row ⊕ Tab))}
  (hs:∀(l:List Row) (i:Int),step (l,i)=cnd (iLt i (lLen t.1)) (bnd (idx t.1 i) fun z2=>bnd (F z2) fun z3=>chk (room (l.length+1) 96) (some (.inl (lApp l [z3],iAdd .i64 i 1)))) (some (.inr (.inl l)))) :
  (chk (room (0+t.2.2.length) 24) (joinX (loopX step ([],0)) (fun (z1:(List Row))=>(some (z1,(t.2.1,(lApp [] t.2.2)))))))=some t:=by
 have h2:=h.2.2
 rw[room_ok (by omega),chk_t,copyRows hF h.1 h.2.1 (fun l i hi=>by rw[hs,iLt_y (by rw[lLen_def];omega),cnd_t]) (fun l=>by rw[hs,iLt_n (by rw[lLen_def];omega),cnd_f]),joinX_l]
 rfl
theorem i_copyTab {t:Tab}(h:smT 1048576 t):Zck t=some t:=by
 rw[Zck]
 exact alt2_tt (copyTab_f (F:=Zk) (fun r h=>iCopyRow_ok h) h fun l i=>rfl) (alt2_tt (copyTab_f (F:=Zk) (fun r h=>iCopyRow_ok h) h fun l i=>rfl) (copyTab_f (F:=Zk) (fun r h=>iCopyRow_ok h) h fun l i=>rfl))
theorem s_copyTab {t:Tab}(h:smT 1048576 t):Zbp t=some t:=by
 rw[Zbp]
 exact alt2_tt (copyTab_f (F:=Zh) (fun r h=>sCopyRow_ok h) h fun l i=>rfl) (alt2_tt (copyTab_f (F:=Zh) (fun r h=>sCopyRow_ok h) h fun l i=>rfl) (copyTab_f (F:=Zh) (fun r h=>sCopyRow_ok h) h fun l i=>rfl))
theorem i_Apply {t:Tab}{r:Rec}(ht:smT 1048576 t) (hr:smC 1048576 r):Zec (t,r)=some (applyT t r):=by
 rw[Zec]
 simp only
 have hc:=i_copyTab ht
 have ho:=i_RecOk (r:=r) (by have:=hr.1.1;omega) (by have:=hr.2;omega)
 rw[hc,bnd_s,ho,bnd_s]
 unfold applyT
 cases h1:recOk r with
 | false=>rw[bNot_f,cnd_t];cases tabOk t<;>simp
 | true =>
  rw[bNot_t,cnd_f,i_TabOk ht,bnd_s]
  cases h2:tabOk t with
  | false=>rw[bNot_f,cnd_t];simp
  | true =>
   rw[bNot_t,cnd_f]
   have hn:=nextT_sm ht hr h2
   have hw:=recOk_who h1
   have t3:=ht.2.2
   -- what is done to the rows
   have hb:((cnd (iEq r.1 1) (bnd (cvL tyR tyRH t.1) (fun z4=>(bnd (Zcp (z4,r.2.1)) (fun z5=>(some (.inl (r.1,(r.2.1.1,(r.2.1.2.1.1,(r.2.1.2.2.1.1,(r.2.1.2.2.2.1,(r.2.1.2.2.2.2,(r.2.2.1,(r.2.2.2.1,(r.2.2.2.2.1,(r.2.2.2.2.2.1,(r.2.2.2.2.2.2,(z5,t.2.1)))))))))))))))))) (cnd (iEq r.1 2) (bnd (cvL tyR tyRH t.1) (fun z4=>(bnd (Zcs (z4,r)) (fun z5=>(some (.inl (z5.2.1,(z5.2.2.1,(z5.2.2.2.1,(z5.2.2.2.2.1,(z5.2.2.2.2.2.1,(z5.2.2.2.2.2.2.1,(z5.2.2.2.2.2.2.2.1,(z5.2.2.2.2.2.2.2.2.1,(z5.2.2.2.2.2.2.2.2.2.1,(z5.2.2.2.2.2.2.2.2.2.2.1,(z5.2.2.2.2.2.2.2.2.2.2.2,(z5.1,t.2.1)))))))))))))))))) (cnd (iEq r.1 3) (some (.inl (r.1,(r.2.1.1,(r.2.1.2.1.1,(r.2.1.2.2.1.1,(r.2.1.2.2.2.1,(r.2.1.2.2.2.2,(r.2.2.1,(r.2.2.2.1,(r.2.2.2.2.1,(r.2.2.2.2.2.1,(r.2.2.2.2.2.2,(t.1,r.2.2.2.1)))))))))))))) (some (.inl (r.1,(r.2.1.1,(r.2.1.2.1.1,(r.2.1.2.2.1.1,(r.2.1.2.2.2.1,(r.2.1.2.2.2.2,(r.2.2.1,(r.2.2.2.1,(r.2.2.2.2.1,(r.2.2.2.2.2.1,(r.2.2.2.2.2.2,(t.1,t.2.1))))))))))))))))):Option ((Int×List UInt8×Int×Int×Int×Bool×List UInt8×Int×Int×Int×Int×List Row×Int) ⊕ (Tab×Bool)))=some (.inl (r.1,(r.2.1.1,(r.2.1.2.1.1,(r.2.1.2.2.1.1,(r.2.1.2.2.2.1,(r.2.1.2.2.2.2,(r.2.2.1,(r.2.2.2.1,(r.2.2.2.2.1,(r.2.2.2.2.2.1,(r.2.2.2.2.2.2,((bodyT t r).1,(bodyT t r).2))))))))))))):=by
    unfold bodyT
    by_cases k1:r.1=1
    ·have e1:iEq r.1 1=true:=by rw[k1];rfl
     rw[e1,cnd_t,cvL_up,bnd_s,i_withRow ht.1 hr.1,bnd_s,if_pos k1]
    ·rw[iEq_n k1,cnd_f,if_neg k1]
     by_cases k2:r.1=2
     ·have e2:iEq r.1 2=true:=by rw[k2];rfl
      rw[e2,cnd_t,cvL_up,bnd_s,i_DeleteFunc ht.1,bnd_s,if_pos k2];rfl
     ·rw[iEq_n k2,cnd_f,if_neg k2]
      by_cases k3:r.1=3
      ·have e3:iEq r.1 3=true:=by rw[k3];rfl
       rw[e3,cnd_t,if_pos k3]
      ·rw[iEq_n k3,cnd_f,if_neg k3]
   rw[hb,joinX_l]
   simp only
   have hm:(cnd (iGt r.2.2.2.2.1 0) (bnd (Zbs (t.2.2,(r.2.2.2.2.1,(r.2.2.2.2.2.1,r.2.2.2.2.2.2)))) fun z5=>some (.inl z5)) (some (.inl t.2.2)):Option (List Mark ⊕ (Tab×Bool)))=some (.inl (marksT t r)):=by
    unfold marksT
    by_cases k:r.2.2.2.2.1=0
    ·rw[iGt_n (by omega),cnd_f,if_pos k]
    ·rw[iGt_y (by omega),cnd_t,show Zbs (t.2.2,(r.2.2.2.2.1,(r.2.2.2.2.2.1,r.2.2.2.2.2.2)))=some (mkR t.2.2 r.2.2.2.2) from i_withMark t3,bnd_s,if_neg k]
   rw[hm,joinX_l]
   have h3:Zbk ((bodyT t r).1,((bodyT t r).2,marksT t r))=some (tabOk (nextT t r)):=i_TabOk hn
   rw[h3,bnd_s]
   cases h4:tabOk (nextT t r) with
   | false=>rw[bNot_f,cnd_t,bnd_s];simp
   | true=>rw[bNot_t,cnd_f];simp [nextT]
theorem s_Apply {t:Tab}{r:Rec}(ht:smT 1048576 t) (hr:smC 1048576 r):Zbr (t,r)=some (applyT t r):=by
 rw[Zbr]
 simp only
 have hc:=s_copyTab ht
 have ho:=s_RecOk (r:=r) (by have:=hr.1.1;omega) (by have:=hr.2;omega)
 rw[hc,bnd_s,s_TabOk ht,bnd_s]
 unfold applyT
 cases h2:tabOk t with
 | false=>rw[bNot_f,cnd_t];simp
 | true =>
  rw[bNot_t,cnd_f,ho,bnd_s]
  cases h1:recOk r with
  | false=>rw[bNot_f,cnd_t];simp
  | true =>
   rw[bNot_t,cnd_f]
   have hn:=nextT_sm ht hr h2
   have hw:=recOk_who h1
   have t1:=ht.1
   have t3:=ht.2.2
   have hch:=(tabOk_has h2).1
   have hb:∀(k:(List Row×Int)->Option (Tab×Bool)) (e:Option ((List Row×Int) ⊕ (Tab×Bool))),e=some (.inl (delR t.1 r.2.2.1,t.2.1))->joinX (cnd (iEq r.1 1) (bnd (cvL tyR tyRH t.1) fun z4=>bnd (Zcf (z4,r.2.1)) fun z5=>some (.inl (z5,t.2.1))) (cnd (iEq r.1 2) e (cnd (iEq r.1 3) (some (.inl (t.1,r.2.2.2.1))) (some (.inl (t.1,t.2.1)))))) k=k ((bodyT t r).1,(bodyT t r).2):=by
    intro k e he
    unfold bodyT
    by_cases k1:r.1=1
    ·simp only[k1,iEq_r,cnd_t,cvL_up,bnd_s,s_l12Row ht.1 hr.1,joinX_l,if_true]
    ·rw[iEq_n k1,cnd_f,if_neg k1]
     by_cases k2:r.1=2
     ·have e2:iEq r.1 2=true:=by rw[k2];rfl
      rw[e2,cnd_t,he,joinX_l,if_pos k2]
     ·rw[iEq_n k2,cnd_f,if_neg k2]
      by_cases k3:r.1=3
      ·have e3:iEq r.1 3=true:=by rw[k3];rfl
       rw[e3,cnd_t,joinX_l,if_pos k3]
      ·rw[iEq_n k3,cnd_f,joinX_l,if_neg k3]
   rw[hb]
   rotate_left
   ·rw[show Zbq (t,r.2.2.1)=some (rowAt t.1 r.2.2.1) from s_RowAt (by omega),bnd_s]
    unfold rowAt
    cases hf:t.1.findIdx? (fun x=>x.1==r.2.2.1) with
    | none=>rw[show iGe (-1) 0=false from rfl,cnd_f,rows_none hf]
    | some k =>
     rw[List.findIdx?_eq_some_iff_getElem]at hf
     obtain⟨hk,hk1,hk2⟩:=hf
     simp only
     rw[iGe_y (by omega),cnd_t,rows_del hch hk hk1]
     simp only[nOf_n,Nat.sub_zero,lLen_def,mvW_ln t.1 k (by omega),iAdd_1 (show k<9223372036854775807 by omega)]
     rw[show within 0 (k:Int) (t.1.length:Int)=true by simp [within];omega,chk_t,show fits 0 k t.1.length=true by simp [fits];omega,chk_t,room_ok (by simp [lTake];omega),chk_t,show within ((k+1:Nat):Int) (t.1.length:Int) (t.1.length:Int)=true by simp [within];omega,chk_t,show fits (k+1) (t.1.length-(k+1)) t.1.length=true by simp [fits];omega,chk_t]
     refine (congrArg (fun o=>bnd o _) (mvW_cv t.1 k (t.1.length-(k+1)))).trans ?_
     simp only[bnd_s]
     rw[room_ok (by simp [lApp,lTake];omega),chk_t,List.take_of_length_le (by simp)]
     simp [lApp,lTake]
   simp only
   have hm:(cnd (iNe r.2.2.2.2.1 0) (bnd (Zcg (t.2.2,r.2.2.2.2)) fun z5=>some (.inl z5)) (some (.inl t.2.2)):Option (List Mark ⊕ (Tab×Bool)))=some (.inl (marksT t r)):=by
    unfold marksT
    by_cases k:r.2.2.2.2.1=0
    ·rw[k,iNe_r,cnd_f,if_pos rfl]
    ·rw[iNe_y k,cnd_t,s_l12Put t3,bnd_s,if_neg k]
   rw[hm,joinX_l]
   have h3:Zbg ((bodyT t r).1,((bodyT t r).2,marksT t r))=some (tabOk (nextT t r)):=s_TabOk hn
   rw[h3,bnd_s]
   cases h4:tabOk (nextT t r) with
   | false=>rw[bNot_f,cnd_t,bnd_s];simp
   | true=>rw[bNot_t,cnd_f];simp [nextT]
end
end Go.Vs
