import Derived.Test.YtmpopjdcbabchaaGreatDoorVsW5
import Derived.Test.YtmpopjdcbabchaaGreatDoorVsQm6
set_option linter.all false
namespace Go.Vs
noncomputable section
theorem i_Apply {t:Tab}{r:Rec}(ht:smT 1048576 t) (hr:smC 1048576 r):Ze (t,r)=some (applyT t r):=by
 rw[Zfx]
 simp only
 have hc:=i_copyTab ht
 have ho:=i_RecOk (r:=r) (by have:=hr.1.1;omega) (by have:=hr.2;omega)
 rw[hc,bnd_s,ho,bnd_s]
 unfold applyT
 cases h1:recOk r with
 | false=>rw[bNot_f,cnd_t];cases tabOk t<;>simp
 | true =>
  rw[bNot_t,cnd_f,i_TabOk ht,bnd_s]
  cases h2:tabOk t with
  | false=>rw[bNot_f,cnd_t];simp
  | true =>
   rw[bNot_t,cnd_f]
   have hn:=nextT_sm ht hr h2
   have hw:=recOk_who h1
   have t3:=ht.2.2
   -- what is done to the rows
   have hb:((cnd (iEq r.1 1) (bnd (cvL tyR tyRH t.1) (fun z4=>(bnd (Zbr (z4,r.2.1)) (fun z5=>(some (.inl (r.1,(r.2.1.1,(r.2.1.2.1.1,(r.2.1.2.2.1.1,(r.2.1.2.2.2.1,(r.2.1.2.2.2.2,(r.2.2.1,(r.2.2.2.1,(r.2.2.2.2.1,(r.2.2.2.2.2.1,(r.2.2.2.2.2.2,(z5,t.2.1)))))))))))))))))) (cnd (iEq r.1 2) (bnd (cvL tyR tyRH t.1) (fun z4=>(bnd (Zbt (z4,r)) (fun z5=>(some (.inl (z5.2.1,(z5.2.2.1,(z5.2.2.2.1,(z5.2.2.2.2.1,(z5.2.2.2.2.2.1,(z5.2.2.2.2.2.2.1,(z5.2.2.2.2.2.2.2.1,(z5.2.2.2.2.2.2.2.2.1,(z5.2.2.2.2.2.2.2.2.2.1,(z5.2.2.2.2.2.2.2.2.2.2.1,(z5.2.2.2.2.2.2.2.2.2.2.2,(z5.1,t.2.1)))))))))))))))))) (cnd (iEq r.1 3) (some (.inl (r.1,(r.2.1.1,(r.2.1.2.1.1,(r.2.1.2.2.1.1,(r.2.1.2.2.2.1,(r.2.1.2.2.2.2,(r.2.2.1,(r.2.2.2.1,(r.2.2.2.2.1,(r.2.2.2.2.2.1,(r.2.2.2.2.2.2,(t.1,r.2.2.2.1)))))))))))))) (some (.inl (r.1,(r.2.1.1,(r.2.1.2.1.1,(r.2.1.2.2.1.1,(r.2.1.2.2.2.1,(r.2.1.2.2.2.2,(r.2.2.1,(r.2.2.2.1,(r.2.2.2.2.1,(r.2.2.2.2.2.1,(r.2.2.2.2.2.2,(t.1,t.2.1))))))))))))))))):Option ((Int×List UInt8×Int×Int×Int×Bool×List UInt8×Int×Int×Int×Int×List Row×Int) ⊕ (Tab×Bool)))=some (.inl (r.1,(r.2.1.1,(r.2.1.2.1.1,(r.2.1.2.2.1.1,(r.2.1.2.2.2.1,(r.2.1.2.2.2.2,(r.2.2.1,(r.2.2.2.1,(r.2.2.2.2.1,(r.2.2.2.2.2.1,(r.2.2.2.2.2.2,((bodyT t r).1,(bodyT t r).2))))))))))))):=by
    unfold bodyT
    by_cases k1:r.1=1
    ·have e1:iEq r.1 1=true:=by rw[k1];rfl
     rw[e1,cnd_t,cvL_up,bnd_s,i_withRow ht.1 hr.1,bnd_s,if_pos k1]
    ·rw[iEq_n k1,cnd_f,if_neg k1]
     by_cases k2:r.1=2
     ·have e2:iEq r.1 2=true:=by rw[k2];rfl
      rw[e2,cnd_t,cvL_up,bnd_s,i_DeleteFunc ht.1,bnd_s,if_pos k2];rfl
     ·rw[iEq_n k2,cnd_f,if_neg k2]
      by_cases k3:r.1=3
      ·have e3:iEq r.1 3=true:=by rw[k3];rfl
       rw[e3,cnd_t,if_pos k3]
      ·rw[iEq_n k3,cnd_f,if_neg k3]
   rw[hb,joinX_l]
   simp only
   have hm:(cnd (iGt r.2.2.2.2.1 0) (bnd (Zbg (t.2.2,(r.2.2.2.2.1,(r.2.2.2.2.2.1,r.2.2.2.2.2.2)))) fun z5=>some (.inl z5)) (some (.inl t.2.2)):Option (List Mark ⊕ (Tab×Bool)))=some (.inl (marksT t r)):=by
    unfold marksT
    by_cases k:r.2.2.2.2.1=0
    ·rw[iGt_n (by omega),cnd_f,if_pos k]
    ·rw[iGt_y (by omega),cnd_t,show Zbg (t.2.2,(r.2.2.2.2.1,(r.2.2.2.2.2.1,r.2.2.2.2.2.2)))=some (mkR t.2.2 r.2.2.2.2) from i_withMark t3,bnd_s,if_neg k]
   rw[hm,joinX_l]
   have h3:Zx ((bodyT t r).1,((bodyT t r).2,marksT t r))=some (tabOk (nextT t r)):=i_TabOk hn
   rw[h3,bnd_s]
   cases h4:tabOk (nextT t r) with
   | false=>rw[bNot_f,cnd_t,bnd_s];simp
   | true=>rw[bNot_t,cnd_f];simp [nextT]
theorem s_Apply {t:Tab}{r:Rec}(ht:smT 1048576 t) (hr:smC 1048576 r):Zo (t,r)=some (applyT t r):=by
 rw[Zfy]
 simp only
 have hc:=s_copyTab ht
 have ho:=s_RecOk (r:=r) (by have:=hr.1.1;omega) (by have:=hr.2;omega)
 rw[hc,bnd_s,s_TabOk ht,bnd_s]
 unfold applyT
 cases h2:tabOk t with
 | false=>rw[bNot_f,cnd_t];simp
 | true =>
  rw[bNot_t,cnd_f,ho,bnd_s]
  cases h1:recOk r with
  | false=>rw[bNot_f,cnd_t];simp
  | true =>
   rw[bNot_t,cnd_f]
   have hn:=nextT_sm ht hr h2
   have hw:=recOk_who h1
   have t1:=ht.1
   have t3:=ht.2.2
   have hch:=(tabOk_has h2).1
   have hb:∀(k:(List Row×Int)->Option (Tab×Bool)) (e:Option ((List Row×Int) ⊕ (Tab×Bool))),e=some (.inl (delR t.1 r.2.2.1,t.2.1))->joinX (cnd (iEq r.1 1) (bnd (cvL tyR tyRH t.1) fun z4=>bnd (Zbo (z4,r.2.1)) fun z5=>some (.inl (z5,t.2.1))) (cnd (iEq r.1 2) e (cnd (iEq r.1 3) (some (.inl (t.1,r.2.2.2.1))) (some (.inl (t.1,t.2.1)))))) k=k ((bodyT t r).1,(bodyT t r).2):=by
    intro k e he
    unfold bodyT
    by_cases k1:r.1=1
    ·simp only[k1,iEq_r,cnd_t,cvL_up,bnd_s,s_l12Row ht.1 hr.1,joinX_l,if_true]
    ·rw[iEq_n k1,cnd_f,if_neg k1]
     by_cases k2:r.1=2
     ·have e2:iEq r.1 2=true:=by rw[k2];rfl
      rw[e2,cnd_t,he,joinX_l,if_pos k2]
     ·rw[iEq_n k2,cnd_f,if_neg k2]
      by_cases k3:r.1=3
      ·have e3:iEq r.1 3=true:=by rw[k3];rfl
       rw[e3,cnd_t,joinX_l,if_pos k3]
      ·rw[iEq_n k3,cnd_f,joinX_l,if_neg k3]
   rw[hb]
   rotate_left
   ·rw[show Zbp (t,r.2.2.1)=some (rowAt t.1 r.2.2.1) from s_RowAt (by omega),bnd_s]
    unfold rowAt
    cases hf:t.1.findIdx? (fun x=>x.1==r.2.2.1) with
    | none=>rw[show iGe (-1) 0=false from rfl,cnd_f,rows_none hf]
    | some k =>
     rw[List.findIdx?_eq_some_iff_getElem]at hf
     obtain⟨hk,hk1,hk2⟩:=hf
     simp only
     rw[iGe_y (by omega),cnd_t,rows_del hch hk hk1]
     simp only[nOf_n,Nat.sub_zero,lLen_def,mvW_ln t.1 k (by omega),iAdd_1 (show k<9223372036854775807 by omega)]
     rw[show within 0 (k:Int) (t.1.length:Int)=true by simp [within];omega,chk_t,show fits 0 k t.1.length=true by simp [fits];omega,chk_t,room_ok (by simp [lTake];omega),chk_t,show within ((k+1:Nat):Int) (t.1.length:Int) (t.1.length:Int)=true by simp [within];omega,chk_t,show fits (k+1) (t.1.length-(k+1)) t.1.length=true by simp [fits];omega,chk_t]
     refine (congrArg (fun o=>bnd o _) (mvW_cv t.1 k (t.1.length-(k+1)))).trans ?_
     simp only[bnd_s]
     rw[room_ok (by simp [lApp,lTake];omega),chk_t,List.take_of_length_le (by simp)]
     simp [lApp,lTake]
   simp only
   have hm:(cnd (iNe r.2.2.2.2.1 0) (bnd (Zbq (t.2.2,r.2.2.2.2)) fun z5=>some (.inl z5)) (some (.inl t.2.2)):Option (List Mark ⊕ (Tab×Bool)))=some (.inl (marksT t r)):=by
    unfold marksT
    by_cases k:r.2.2.2.2.1=0
    ·rw[k,iNe_r,cnd_f,if_pos rfl]
    ·rw[iNe_y k,cnd_t,s_l12Put t3,bnd_s,if_neg k]
   rw[hm,joinX_l]
   have h3:Zw ((bodyT t r).1,((bodyT t r).2,marksT t r))=some (tabOk (nextT t r)):=s_TabOk hn
   rw[h3,bnd_s]
   cases h4:tabOk (nextT t r) with
   | false=>rw[bNot_f,cnd_t,bnd_s];simp
   | true=>rw[bNot_t,cnd_f];simp [nextT]
theorem law_Apply {t:Tab}{r:Rec}(ht:smT 9223372036854775807 t) (hr:smC 9223372036854775807 r):Zeo (t,r)=some true:=by
 obtain⟨z,h1,h2,h3⟩:=szTab_ok (k:=1048576) (by omega) (by omega) ht
 rw[Zgh]
 simp only
 rw[h1,bnd_s]
 by_cases hz:z<0
 ·rw[iLt_y hz];rfl
 rw[iLt_n (by omega),cnd_f]
 obtain⟨z2,i1,i2,i3⟩:=szRec_ok (r:=r) (k:=z) (by omega) (by omega) hr
 rw[i1,bnd_s]
 by_cases hz2:z2<0
 ·rw[iLt_y hz2];rfl
 rw[iLt_n (by omega),cnd_f]
 have st:=h3 (by omega)
 have sr:=i3 (by omega)
 have sy:=applyT_sm st sr
 obtain⟨m1,x1,x2,a1,_,a3,a4,a5,a6⟩:=markTab_at (m:=1) st (by omega) (by omega)
 obtain⟨m2,y1,y2,b1,b3,b4,b5⟩:=markRec_any (m:=m1) sr (by omega) (by omega)
 obtain⟨m3,w1,w2,c1,c2,c3,c4,c5,_⟩:=markTab_at (m:=1) sy (by omega) (by omega)
 have e1:=toTab_ok st
 have e2:=toRec_ok (sr.mono (by decide))
 have e3:=eqTab_ok sy
 have e4:=eqTab_ok st
 have e5:=eqRec_ok (sr.mono (by decide))
 have l1:iLt m2 0=false:=iLt_n (by omega)
 have l2:iLt m3 0=false:=iLt_n (by omega)
 simp only[e1,e2,e3,e4,e5,bnd_s,i_Apply st sr,s_Apply st sr,bNot_t,cnd_f,bNe_r,a1,a3,a4,nEq_r,chk_t,b1,b3,b4,l1,c1,c3,c4,c2,l2,iNe_r,alt2_self]
end
end Go.Vs
