import Derived.Test.YtmpopjdcbabchaaGreatDoorVsW5
import Derived.Test.YtmpopjdcbabchaaGreatDoorVsQud
set_option linter.all false
namespace Go.Vs
noncomputable section
theorem DrawTab_ok {x:List UInt8}(hx:B20 x):∃(t:Tab) (r:Rec),Zdm x=some (t,r)/\tabOk t=true/\recOk r=true/\smC 100 r:=by
 rw[Zdm]
 obtain⟨h,e0⟩:=l1New_ok hx
 obtain⟨t,s1,e1,t1,k1⟩:=l12Draw_ok (b:=x) (s:=(0,h)) 12 (by omega) hx (by simp)
 obtain⟨r,s2,e2,r1,r2,k2⟩:=l11Draw_ok (s:=s1) hx k1
 rw[e0,bnd_s,e1,bnd_s]
 simp only[e2,bnd_s]
 exact⟨t,r,rfl,t1,r2,r1⟩
theorem apply_rec {t:Tab}{r:Rec}(h:tabOk t=true) (hr:recOk r=true) (hn:tabOk (nextT t r)=true):applyT t r=(nextT t r,true):=by
 unfold applyT
 rw[if_pos (by rw[h,hr,hn];rfl)]
theorem sameRow_t (y:Row):Zi (y,y)=some true:=by rw[lR_same,sameRw_r]
theorem law_Tabs (x:List UInt8):Zex x=some true:=by
 rw[Zex]
 by_cases hx:x.length<=1048576
 case neg=>rw[big_y (by omega),bnd_s,cnd_t]
 obtain⟨t,r,e1,h1,h2,h3⟩:=DrawTab_ok hx
 have hs:=(tabOk_sm h1).mono (show 100<=1048576 by omega)
 have hr:=h3.mono (show 100<=1048576 by omega)
 have hy:=applyT_sm hs hr
 have ok2:=applyT_ok (r:=r) h1
 have t8:=(tab_has h1).2.2.2.2.1
 rw[big_n hx,bnd_s,cnd_f,e1,bnd_s,i_Apply hs hr,bnd_s,s_Apply hs hr,bnd_s,i_TabOk hs,bnd_s,h1,bNot_t,cnd_f,bNe_r,cnd_f,l_sameTab hy hy,bnd_s,sameTab_r,bNot_t,cnd_f,i_TabOk hy,bnd_s,ok2,bNot_t,cnd_f]
 cases hf:(applyT t r).2 with
 | false =>
  obtain⟨q1,q2⟩:=apply_full h1 h2 hf
  rw[q1,bNot_f,cnd_t]
  simp only
  rw[l_sameTab hs hs,bnd_s,sameTab_r,cnd_t,lLen_def,q2];rfl
 | true =>
  obtain⟨q1,_,_,q2⟩:=apply_ok hf
  rw[q1]at hy ok2
  rw[q1,bNot_t,cnd_f]
  simp only at hy ok2 ⊢
  obtain⟨xa,xb,xc,xd,xe,xf⟩:=tab_has q2
  obtain⟨ta,tb,tc,td,te,tf⟩:=tab_has h1
  have hid:=next_idem h1 h2
  -- what is not meant stays
  have keep:∀y∈t.1,¬(r.1=1/\sEq r.2.1.1 y.1=true)->¬(r.1=2/\sEq r.2.2.1 y.1=true)->∃(k:Nat) (hk:k<(nextT t r).1.length),rowAt (nextT t r).1 y.1=(k:Int)/\(nextT t r).1[k]=y:=by
   intro y hy n1 n2
   refine rowAt_of xb ?_
   show y∈(bodyT t r).1
   unfold bodyT
   by_cases k1:r.1=1
   ·rw[if_pos k1,wrR_eq tb,insR_mem]
    have hne:¬r.2.1.1=y.1:=fun e=>n1 ⟨k1,by simp [sEq,e]⟩
    rcases sLt_tri y.1 r.2.1.1 with h|h|h
    ·exact .inl ⟨hy,h⟩
    ·exact absurd h.symm hne
    ·exact .inr (.inr ⟨hy,h⟩)
   ·rw[if_neg k1]
    by_cases k2:r.1=2
    ·rw[if_pos k2]
     refine List.mem_filter.2 ⟨hy, ?_⟩
     simp only[keepP,Bool.not_eq_true',beq_eq_false_iff_ne]
     exact fun e=>n2 ⟨k2,by simp [sEq,e]⟩
    ·rw[if_neg k2]
     split<;>exact hy
  have lp:loopX (Zef (t,r) (nextT t r,true)) 0=some (Sum.inl ()):=by
   refine loop_exact (fun i=>(i:Int)) t.1.length _ (fun i hi=>?_) ?_ _ rfl
   ·rw[Zef]
    simp only
    rw[iLt_y (by rw[lLen_def];omega),cnd_t,idx_at hi,bnd_s,i_RowAt (by have:=hy.1;omega),bnd_s]
    simp only[bnd_s,iAdd_1 (show i<9223372036854775807 by omega)]
    have chk:¬(r.1=1/\sEq r.2.1.1 t.1[i].1=true)->¬(r.1=2/\sEq r.2.2.1 t.1[i].1=true)->(cnd (iLt (rowAt (nextT t r).1 t.1[i].1) 0) (some (Sum.inr (Sum.inr false))) (bnd (idx (nextT t r).1 (rowAt (nextT t r).1 t.1[i].1)) (fun z13=>(bnd (Zi (z13,t.1[i])) (fun z15=>(cnd (bNot z15) (some (Sum.inr (Sum.inr false))) (some (Sum.inl ((i+1:Nat):Int)))))))) :Option (Int ⊕ (Unit ⊕ Bool)))=some (Sum.inl ((i+1:Nat):Int)):=by
     intro n1 n2
     obtain⟨k,hk,g1,g2⟩:=keep _ (List.getElem_mem hi) n1 n2
     rw[g1,iLt_n (by omega),cnd_f,idx_at hk,bnd_s,g2,sameRow_t,bnd_s,bNot_t,cnd_f]
    by_cases k1:r.1=1
    ·rw[show iEq r.1 1=true by rw[k1];rfl,cnd_t]
     have k2:¬r.1=2:=by omega
     cases hq:sEq r.2.1.1 t.1[i].1 with
     | true=>rw[cnd_t]
     | false =>
      rw[cnd_f,iEq_n k2,cnd_f]
      exact chk (fun h=>by rw[hq]at h;cases h.2) (fun h=>k2 h.1)
    ·rw[iEq_n k1,cnd_f]
     by_cases k2:r.1=2
     ·rw[show iEq r.1 2=true by rw[k2];rfl,cnd_t]
      cases hq:sEq r.2.2.1 t.1[i].1 with
      | true=>rw[bNot_t,cnd_f]
      | false =>
       rw[bNot_f,cnd_t]
       exact chk (fun h=>k1 h.1) (fun h=>by rw[hq]at h;cases h.2)
     ·rw[iEq_n k2,cnd_f]
      exact chk (fun h=>k1 h.1) (fun h=>k2 h.1)
   ·rw[Zef]
    simp only
    rw[iLt_n (by rw[lLen_def];omega),cnd_f]
  have ap2:Zbl (nextT t r,r)=some (nextT t r,true):=by
   rw[i_Apply hy hr,apply_rec q2 h2 (by rw[hid];exact q2),hid]
  rw[lp,joinX_l,ap2,bnd_s,i_MarkAt hy.2.2,bnd_s]
  simp only
  rw[i_RowAt (t:=nextT t r) (by have:=hy.1;omega),bnd_s,cnd_t,l_sameTab hy hy,bnd_s,sameTab_r,cnd_t]
  have e3:r.1=3->iEq (nextT t r).2.1 r.2.2.2.1=true:=fun k3=>by
   have:(nextT t r).2.1=r.2.2.2.1:=by
    show (bodyT t r).2=_
    unfold bodyT
    rw[if_neg (by omega),if_neg (by omega),if_pos k3]
   rw[this,iEq_r]
  have p3:∀b:Bool,(r.1=3->b=true)->cnd (iNe r.1 3) (some true) (some b)=some true:=fun b hb=>by
   by_cases k3:r.1=3
   ·rw[hb k3];cases iNe r.1 3<;>rfl
   ·rw[iNe_y k3,cnd_t]
  have e2:r.1=2->rowAt (nextT t r).1 r.2.2.1=-1:=fun k2=>by
   have e:(nextT t r).1=delR t.1 r.2.2.1:=by
    show (bodyT t r).1=_
    unfold bodyT
    rw[if_neg (by omega),if_pos k2]
   rw[e]
   unfold rowAt
   have:(delR t.1 r.2.2.1).findIdx? (fun x=>x.1==r.2.2.1)=none:=by
    rw[List.findIdx?_eq_none_iff]
    intro y hy
    have:=(List.mem_filter.1 hy).2
    simpa [keepP] using this
   rw[this]
  have p2:(cnd (iNe r.1 2) (cnd (iNe r.1 3) (some true) (some (iEq (nextT t r).2.1 r.2.2.2.1))) (bnd (Zo (nextT t r,r.2.2.1)) (fun z13=>(cnd (iEq z13 (-1)) (cnd (iNe r.1 3) (some true) (some (iEq (nextT t r).2.1 r.2.2.2.1))) (some false)))))=some true:=by
   rw[p3 _ e3,i_RowAt (t:=nextT t r) (by have:=hy.1;omega),bnd_s]
   by_cases k2:r.1=2
   ·rw[e2 k2,iEq_r,cnd_t];cases iNe r.1 2<;>rfl
   ·rw[iNe_y k2,cnd_t]
  rw[p2]
  have p1:(cnd (iNe r.1 1) (some true) (cnd (iGe (rowAt (nextT t r).1 r.2.1.1) 0) (bnd (idx (nextT t r).1 (rowAt (nextT t r).1 r.2.1.1)) (fun z13=>(bnd (Zi (z13,r.2.1)) (fun z14=>(cnd z14 (some true) (some false)))))) (some false)))=some true:=by
   by_cases k1:r.1=1
   ·have hm:r.2.1∈(nextT t r).1:=by
     show r.2.1∈(bodyT t r).1
     unfold bodyT
     rw[if_pos k1,wrR_eq tb,insR_mem]
     exact .inr (.inl rfl)
    obtain⟨k,hk,g1,g2⟩:=rowAt_of xb hm
    rw[g1,iGe_y (by omega),cnd_t,idx_at hk,bnd_s,g2,sameRow_t,bnd_s,cnd_t]
    cases iNe r.1 1<;>rfl
   ·rw[iNe_y k1,cnd_t]
  rw[p1]
  by_cases kw:r.2.2.2.2.1=0
  ·rw[kw,iNe_r,cnd_f]
  ·have hm:r.2.2.2.2∈(nextT t r).2.2:=by
    show r.2.2.2.2∈marksT t r
    unfold marksT
    rw[if_neg kw,mkR_eq td,insR_mem]
    exact .inr (.inl rfl)
   rw[iNe_y kw,cnd_t,markAt_of xd hm]
   simp only[bNot_t,cnd_f,iNe_r]
end
end Go.Vs
