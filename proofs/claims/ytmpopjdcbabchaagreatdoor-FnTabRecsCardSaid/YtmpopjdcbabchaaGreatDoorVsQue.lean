import Derived.Test.YtmpopjdcbabchaaGreatDoorVsW5
import Derived.Test.YtmpopjdcbabchaaGreatDoorVsQud
set_option linter.all false
namespace Go.Vs
noncomputable section
theorem DrawTab_ok {x:List UInt8}(hx:B20 x):∃(t:Tab) (r:Rec),Zdo x=some (t,r)/\tabOk t=true/\recOk r=true/\smC 100 r:=by
 rw[Zdo]
 obtain⟨h,e0⟩:=l1New_ok hx
 obtain⟨t,s1,e1,t1,k1⟩:=l12Draw_ok (b:=x) (s:=(0,h)) 12 (by omega) hx (by simp)
 obtain⟨r,s2,e2,r1,r2,k2⟩:=l11Draw_ok (s:=s1) hx k1
 rw[e0,bnd_s,e1,bnd_s]
 simp only[e2,bnd_s]
 exact⟨t,r,rfl,t1,r2,r1⟩
def preT (t:Tab):Nat->Tab
 | 0=>([],0,[])
 | k+1=>(t.1.take k,t.2.1,t.2.2.take (k-t.1.length))
theorem preT_ok {t:Tab}(h:tabOk t=true):∀i,tabOk (preT t i)=true
 | 0=>rfl
 | k+1=>by
  obtain⟨a,b,c,d,e,f⟩:=tab_has h
  exact tab_mk (fun x hx=>a x (List.mem_of_mem_take hx)) (b.sublist (List.take_sublist _ _)) (fun x hx=>c x (List.mem_of_mem_take hx)) (d.sublist (List.take_sublist _ _)) (by simp only[preT,List.length_take];omega) f
theorem take_lt {α:Type}{lt:α->α->Bool}{l:List α}(h:l.Pairwise (fun a b=>lt a b=true)){k:Nat}(hk:k<l.length):∀x∈l.take k,lt x l[k]=true:=by
 intro x hx
 obtain⟨j,hj,rfl⟩:=List.getElem_of_mem hx
 rw[List.length_take]at hj
 rw[List.getElem_take]
 rw[List.pairwise_iff_getElem]at h
 exact h j k (by omega) hk (by omega)
theorem pre_step {t:Tab}(h:tabOk t=true) (i:Nat) (hi:i<(recsT t).length):recOk (recsT t)[i]=true/\nextT (preT t i) (recsT t)[i]=preT t (i+1):=by
 obtain⟨a,b,c,d,e,f⟩:=tab_has h
 cases i with
 | zero =>
  have e0:(recsT t)[0]=topRec t.2.1:=rfl
  rw[e0]
  refine⟨?_, ?_⟩
  ·simp only[recOk,topRec]
   have:bodyOk 3 ([],(0,[]),(0,[]),0,false) [] t.2.1=true:=by
    unfold bodyOk
    rw[if_neg (by decide),if_neg (by decide),if_pos rfl,decide_eq_true (show 0<=t.2.1/\t.2.1<=7 from f)];rfl
   rw[this];rfl
  ·show ((bodyT _ _).1,((bodyT _ _).2,marksT _ _))=_
   simp [bodyT,marksT,topRec,preT]
 | succ k =>
  rw[recsT_len]at hi
  by_cases hk:k<t.1.length
  ·have e0:(recsT t)[k+1]'(by rw[recsT_len];omega)=rowRec t.1[k]:=by
    simp only[recsT,List.getElem_cons_succ]
    rw[List.getElem_append_left (by simpa using hk),List.getElem_map]
   rw[e0]
   refine⟨?_, ?_⟩
   ·have:=a _ (List.getElem_mem hk)
    simp only[recOk,rowRec]
    unfold bodyOk
    rw[if_pos rfl,this];rfl
   ·show ((bodyT _ _).1,((bodyT _ _).2,marksT _ _))=_
    have e1:wrR (t.1.take k) t.1[k]=t.1.take (k+1):=by
     rw[wrR_eq (b.sublist (List.take_sublist _ _)),insR_last ord_row (take_lt b hk),List.take_succ_eq_append_getElem hk]
    simp only[bodyT,marksT,rowRec,preT,if_true,e1,show k-t.1.length=0 by omega,show k+1-t.1.length=0 by omega]
  ·have hj:k-t.1.length<t.2.2.length:=by omega
   have e0:(recsT t)[k+1]'(by rw[recsT_len];omega)=markRec t.2.2[k-t.1.length]:=by
    simp only[recsT,List.getElem_cons_succ]
    rw[List.getElem_append_right (by simp;omega)]
    simp only[List.getElem_map,List.length_map]
   rw[e0]
   have hm:=c _ (List.getElem_mem hj)
   have hw:t.2.2[k-t.1.length].1≠0:=by
    simp only[markOk,Bool.and_eq_true,decide_eq_true_eq]at hm
    omega
   refine⟨?_, ?_⟩
   ·simp only[recOk,markRec]
    have:bodyOk 4 ([],(0,[]),(0,[]),0,false) [] 0=true:=rfl
    rw[this,Bool.true_and]
    unfold whoOk
    rw[if_neg hw]
    simp only[markOk,Bool.and_eq_true,decide_eq_true_eq]at hm
    simp only[decide_eq_true_eq]
    omega
   ·show ((bodyT _ _).1,((bodyT _ _).2,marksT _ _))=_
    have e1:mkR (t.2.2.take (k-t.1.length)) t.2.2[k-t.1.length]=t.2.2.take (k+1-t.1.length):=by
     rw[mkR_eq (d.sublist (List.take_sublist _ _)),insR_last ord_mark (take_lt d hj),show k+1-t.1.length=k-t.1.length+1 by omega,List.take_succ_eq_append_getElem hj]
    have e2:t.1.take k=t.1.take (k+1):=by rw[List.take_of_length_le (by omega),List.take_of_length_le (by omega)]
    have hb:∀(T:Tab) (m:Mark),bodyT T (markRec m)=(T.1,T.2.1):=fun T m=>by
     unfold bodyT
     rw[if_neg (show ¬(markRec m).1=1 from by show ¬(4:Int)=1;decide),if_neg (show ¬(markRec m).1=2 from by show ¬(4:Int)=2;decide),if_neg (show ¬(markRec m).1=3 from by show ¬(4:Int)=3;decide)]
    have hmk:∀T:Tab,marksT T (markRec t.2.2[k-t.1.length])=mkR T.2.2 t.2.2[k-t.1.length]:=fun T=>by
     unfold marksT
     rw[if_neg (show ¬(markRec t.2.2[k-t.1.length]).2.2.2.2.1=0 from hw)];rfl
    rw[hb,hmk]
    show (t.1.take k,(t.2.1,mkR (t.2.2.take (k-t.1.length)) t.2.2[k-t.1.length]))=_
    rw[e1,e2];rfl
theorem pre_end (t:Tab):preT t (recsT t).length=t:=by
 rw[recsT_len,show 1+t.1.length+t.2.2.length=(t.1.length+t.2.2.length)+1 by omega]
 simp only[preT]
 rw[List.take_of_length_le (by omega),List.take_of_length_le (by omega)]
theorem apply_rec {t:Tab}{r:Rec}(h:tabOk t=true) (hr:recOk r=true) (hn:tabOk (nextT t r)=true):applyT t r=(nextT t r,true):=by
 unfold applyT
 rw[if_pos (by rw[h,hr,hn];rfl)]
theorem law_TabRecs (x:List UInt8):Zez x=some true:=by
 rw[Zez]
 by_cases hx:x.length<=1048576
 case neg=>rw[big_y (by omega),bnd_s,cnd_t]
 obtain⟨t,r,e1,h1,h2,h3⟩:=DrawTab_ok hx
 have hs:=(tabOk_sm h1).mono (show 100<=1048576 by omega)
 obtain⟨hl,hm⟩:=recsT_sm hs
 rw[big_n hx,bnd_s,cnd_f,e1,bnd_s,iRecsOf_ok hs,bnd_s]
 have lp:loopX (Zeh (recsT t)) ([],(0,([],0)))=some (Sum.inl (t.1,(t.2.1,t.2.2))):=by
  refine loop_exact (fun i=>((preT t i).1,((preT t i).2.1,((preT t i).2.2,(i:Int))))) (recsT t).length _ (fun i hi=>?_) ?_ _ rfl
  ·obtain⟨g1,g2⟩:=pre_step h1 i hi
   have ho:=preT_ok h1 i
   have ho2:=preT_ok h1 (i+1)
   have ha:Zbj (((preT t i).1,((preT t i).2.1,(preT t i).2.2)),(recsT t)[i])=some (preT t (i+1),true):=by
    have:=i_Apply (t:=preT t i) (r:=(recsT t)[i]) ((tabOk_sm ho).mono (by omega)) (hm _ (List.getElem_mem hi))
    rw[apply_rec ho g1 (by rw[g2];exact ho2),g2]at this
    exact this
   have hrr:=hm _ (List.getElem_mem hi)
   have hr:=i_RecOk (r:=(recsT t)[i]) (by have:=hrr.1.1;omega) (by have:=hrr.2;omega)
   rw[g1]at hr
   rw[Zeh]
   simp only
   rw[iLt_y (by rw[lLen_def];omega),cnd_t]
   simp only[idx_at hi,bnd_s,ha,bNot_t,cnd_f,hr,iAdd_1 (show i<9223372036854775807 by omega),alt2_self]
  ·rw[Zeh]
   simp only[pre_end]
   rw[iLt_n (by rw[lLen_def];omega),cnd_f]
 rw[lp,joinX_l,show Zcp ((t.1,(t.2.1,t.2.2)),t)=_ from l_sameTab hs hs,bnd_s,sameTab_r,cnd_t]
 have ht1:=hs.1
 have ht2:=hs.2.2
 have e5:iEq (lLen (recsT t)) (iAdd .i64 (iAdd .i64 1 (lLen t.1)) (lLen t.2.2))=true:=by
  rw[lLen_def,lLen_def,lLen_def,iAdd_ok (a:=1) (by omega) (by omega),iAdd_ok (by omega) (by omega),recsT_len]
  simp only[iEq,beq_iff_eq];omega
 rw[e5,cnd_t,show Zcq ((t.1,(t.2.1,t.2.2)),t)=_ from i_SameTab hs hs,bnd_s,sameTab_r]
end
end Go.Vs
