import Derived.Test.YtbbdcgglfmhhpaaGreatDoorVsW5
import Derived.Test.YtbbdcgglfmhhpaaGreatDoorVsQl6
set_option linter.all false
namespace Go.Vs
noncomputable section
theorem Zin (x:(((List (List UInt8))×((List (Int×(List UInt8)))×(Int×Bool)))×(Int×(List (Int×(((List UInt8)×((Int×(List UInt8))×((Int×(List UInt8))×(Int×Bool))))×((List UInt8)×(Int×(Int×(Int×Int)))))))))):Zdf x=((cnd (iLt 0 (lLen x.2.2)) (bnd (idx x.2.2 0) (fun z1=>(bnd (Zbm (x.2.1,0)) (fun z2=>(bnd (Zbp (x.2.1,(0,z1))) (fun z3=>(bnd (Zi (x.1,(z2,z3))) (fun z4=>(loopX (Zhh x) (z4.1,(z4.2.1,(z4.2.2.1,(z4.2.2.2,(iAdd .i64 0 1)))))))))))))) (bnd (Zk x.1) (fun z1=>(bnd (Zbq (x.2.1,(lLen x.2.2))) (fun z2=>(bnd (Zi (z1,((iRem x.2.1 2),z2))) (fun z3=>(bnd (Zk z3) (fun z4=>(some z4))))))))))):=rfl
theorem Zhs (x:(((List (List UInt8))×((List (Int×(List UInt8)))×(Int×Bool)))×(Int×(List (Int×(((List UInt8)×((Int×(List UInt8))×((Int×(List UInt8))×(Int×Bool))))×((List UInt8)×(Int×(Int×(Int×Int)))))))))):Zhh x=(fun (z5:((List (List UInt8))×((List (Int×(List UInt8)))×(Int×(Bool×Int)))))=>(cnd (iLt z5.2.2.2.2 (lLen x.2.2)) (bnd (idx x.2.2 z5.2.2.2.2) (fun z6=>(bnd (Zbm (x.2.1,z5.2.2.2.2)) (fun z7=>(bnd (Zbp (x.2.1,(z5.2.2.2.2,z6))) (fun z8=>(bnd (Zi ((z5.1,(z5.2.1,(z5.2.2.1,z5.2.2.2.1))),(z7,z8))) (fun z9=>(some (.inl (z9.1,(z9.2.1,(z9.2.2.1,(z9.2.2.2,(iAdd .i64 z5.2.2.2.2 1))))))))))))))) (outX (bnd (Zk (z5.1,(z5.2.1,(z5.2.2.1,z5.2.2.2.1)))) (fun z6=>(bnd (Zbq (x.2.1,(lLen x.2.2))) (fun z7=>(bnd (Zi (z6,((iRem x.2.1 2),z7))) (fun z8=>(bnd (Zk z8) (fun z9=>(some z9)))))))))))):=rfl
theorem Zio (x:(((List (List UInt8))×((List (Int×(List UInt8)))×(Int×Bool)))×(((List ((List UInt8)×((Int×(List UInt8))×((Int×(List UInt8))×(Int×Bool)))))×(Int×(List (Int×(Int×Int)))))×(Int×Int)))):Zbr x=((bnd (Zer x) (fun z1=>(bnd (Zdb x) (fun z2=>(cnd (bNot z2) (some z1) (cnd x.1.2.2.2 (some z1) (cnd (iEq x.2.2.1 60000) (some z1) (bnd (Zdc x.2.1) (fun z3=>(bnd (Zdf (x.1,((iAdd .i64 x.2.2.1 1),z3))) (fun z4=>(joinX (cnd (bNot z4.2.2.2) (some (.inl ((iAdd .i64 x.2.2.1 1),(lLen z3)))) (some (.inl z1.2.2))) (fun (z5:(Int×Int))=>(some (z4,(z1.2.1,z5))))))))))))))))):=rfl
theorem Zip (x:(((List (List UInt8))×((List (Int×(List UInt8)))×(Int×Bool)))×(((List ((List UInt8)×((Int×(List UInt8))×((Int×(List UInt8))×(Int×Bool)))))×(Int×(List (Int×(Int×Int)))))×(Int×Int)))):Zcw x=((bnd (Zeh x) (fun z1=>(joinX (bnd (Zcs x) (fun z2=>(cnd z2 (cnd (bNot x.1.2.2.2) (cnd (iLt x.2.2.1 60000) (bnd (Zcd (z1,(iAdd .i64 x.2.2.1 1))) (fun z3=>(some (.inl z3)))) (some (.inl (z1.1.1,(z1.1.2.1,(z1.1.2.2.1,(z1.1.2.2.2,(z1.2.1.2.1,z1.2.2)))))))) (some (.inl (z1.1.1,(z1.1.2.1,(z1.1.2.2.1,(z1.1.2.2.2,(z1.2.1.2.1,z1.2.2)))))))) (some (.inl (z1.1.1,(z1.1.2.1,(z1.1.2.2.1,(z1.1.2.2.2,(z1.2.1.2.1,z1.2.2)))))))))) (fun (z2:((List (List UInt8))×((List (Int×(List UInt8)))×(Int×(Bool×(Int×(Int×Int)))))))=>(some ((z2.1,(z2.2.1,(z2.2.2.1,z2.2.2.2.1))),((z1.2.1.1,(z2.2.2.2.2.1,z1.2.1.2.2)),z2.2.2.2.2.2)))))))):=rfl
theorem Ziq (x:(((List (List UInt8))×((List (Int×(List UInt8)))×(Int×Bool)))×(((List ((List UInt8)×((Int×(List UInt8))×((Int×(List UInt8))×(Int×Bool)))))×(Int×(List (Int×(Int×Int)))))×(Int×Int)))):Zeh x=((bnd (Zcm x.1) (fun z1=>(bnd (Zco x.2.1) (fun z2=>(some (z1,(z2,x.2.2)))))))):=rfl
theorem Zir (x:(((List (List UInt8))×((List (Int×(List UInt8)))×(Int×Bool)))×(((List ((List UInt8)×((Int×(List UInt8))×((Int×(List UInt8))×(Int×Bool)))))×(Int×(List (Int×(Int×Int)))))×(Int×Int)))):Zer x=((bnd (Zx x.1) (fun z1=>(bnd (Zcy x.2.1) (fun z2=>(some (z1,(z2,x.2.2)))))))):=rfl
theorem Zis (x:((List ((List UInt8)×((Int×(List UInt8))×((Int×(List UInt8))×(Int×Bool)))))×(Int×(List (Int×(Int×Int)))))):Zcy x=((alt2 (chk (room (0+x.2.2.length) 24) (joinX (loopX (Zho x) ([],0)) (fun (z1:(List ((List UInt8)×((Int×(List UInt8))×((Int×(List UInt8))×(Int×Bool))))))=>(some (z1,(x.2.1,(lApp [] x.2.2))))))) (alt2 (chk (room (0+x.2.2.length) 24) (joinX (loopX (Zhp x) ([],0)) (fun (z1:(List ((List UInt8)×((Int×(List UInt8))×((Int×(List UInt8))×(Int×Bool))))))=>(some (z1,(x.2.1,(lApp [] x.2.2))))))) (chk (room (0+x.2.2.length) 24) (joinX (loopX (Zhq x) ([],0)) (fun (z1:(List ((List UInt8)×((Int×(List UInt8))×((Int×(List UInt8))×(Int×Bool))))))=>(some (z1,(x.2.1,(lApp [] x.2.2)))))))))):=rfl
theorem Zit (x:((List ((List UInt8)×((Int×(List UInt8))×((Int×(List UInt8))×(Int×Bool)))))×(Int×(List (Int×(Int×Int)))))):Zco x=((alt2 (chk (room (0+x.2.2.length) 24) (joinX (loopX (Zhl x) ([],0)) (fun (z1:(List ((List UInt8)×((Int×(List UInt8))×((Int×(List UInt8))×(Int×Bool))))))=>(some (z1,(x.2.1,(lApp [] x.2.2))))))) (alt2 (chk (room (0+x.2.2.length) 24) (joinX (loopX (Zhm x) ([],0)) (fun (z1:(List ((List UInt8)×((Int×(List UInt8))×((Int×(List UInt8))×(Int×Bool))))))=>(some (z1,(x.2.1,(lApp [] x.2.2))))))) (chk (room (0+x.2.2.length) 24) (joinX (loopX (Zhn x) ([],0)) (fun (z1:(List ((List UInt8)×((Int×(List UInt8))×((Int×(List UInt8))×(Int×Bool))))))=>(some (z1,(x.2.1,(lApp [] x.2.2)))))))))):=rfl
theorem Ziu (x:(((List (List UInt8))×((List (Int×(List UInt8)))×(Int×Bool)))×(((List ((List UInt8)×((Int×(List UInt8))×((Int×(List UInt8))×(Int×Bool)))))×(Int×(List (Int×(Int×Int)))))×(Int×Int)))):Zgq x=((bnd (Zch (x,1048576)) (fun z1=>(cnd (iLt z1 0) (some true) (bnd (Zl x) (fun z2=>(bnd (Zcw z2) (fun z3=>(bnd (Zl x) (fun z4=>(bnd (Zbr z4) (fun z5=>(bnd (Zo (z5,z3)) (fun z6=>(cnd (bNot z6) (some false) (bnd (Zl x) (fun z7=>(bnd (Zo (z4,z7)) (fun z8=>(cnd (bNot z8) (some false) (bnd (Zbt (z4,1)) (fun z9=>(chk (nEq z9.2.1.length z4.1.1.length) (chk (nEq z9.2.2.1.length z4.1.2.1.length) (chk (nEq z9.2.2.2.1.length z4.2.1.1.length) (chk (nEq z9.2.2.2.2.length z4.2.1.2.2.length) (cnd (iLt z9.1 0) (some false) (bnd (Zo (z5,z3)) (fun z10=>(cnd (bNot z10) (some false) (bnd (Zbt (z5,1)) (fun z11=>(chk (nEq z11.2.1.length z5.1.1.length) (chk (nEq z11.2.2.1.length z5.1.2.1.length) (chk (nEq z11.2.2.2.1.length z5.2.1.1.length) (chk (nEq z11.2.2.2.2.length z5.2.1.2.2.length) (bnd (Zbu (((z11.2.1,(z11.2.2.1,z5.1.2.2)),((z11.2.2.2.1,(z5.2.1.2.1,z11.2.2.2.2)),z5.2.2)),1)) (fun z12=>(cnd (iLt z12 0) (some false) (cnd (iNe z12 z11.1) (some false) (bnd (Zl x) (fun z13=>(bnd (Zbr z13) (fun z14=>(bnd (Zo (z14,z3)) (fun z15=>(cnd (bNot z15) (some false) (bnd (Zbu (((z11.2.1,(z11.2.2.1,z5.1.2.2)),((z11.2.2.2.1,(z5.2.1.2.1,z11.2.2.2.2)),z5.2.2)),1)) (fun z16=>(cnd (iLt z16 0) (some false) (cnd (iNe z16 z11.1) (some false) (some true)))))))))))))))))))))))))))))))))))))))))))))))))))):=rfl
theorem copyRows {F:Row->Option Row}(hF:∀r,smR 1048576 r->F r=some r){x:List Row}(hl:x.length<=1048576) (hr:∀r∈x,smR 1048576 r){step:List Row×Int->Option ((List Row×Int) ⊕ (List Row ⊕ Tab))}
  (hs:∀(l:List Row) (i:Nat),i<x.length->step (l,(i:Int))=bnd (idx x (i:Int)) fun z2=>bnd (F z2) fun z3=>chk (room (l.length+1) 96) (some (.inl (lApp l [z3],iAdd .i64 (i:Int) 1)))) (he:∀l,step (l,(x.length:Int))=some (.inr (.inl l))):loopX step ([],0)=some (.inl x):=by
 have:=app_loop (step:=step) (x:=x) (f:=fun r=>r) (l0:=[]) (fun l i hi hll=>by
  simp only[List.length_nil,Nat.zero_add]at hll
  rw[hs l i hi,idx_at hi,bnd_s,hF _ (hr _ (List.getElem_mem hi)),bnd_s,room_ok (by omega),chk_t,iAdd_1 (by omega)]
  rfl) he
 rw[this];simp
theorem alt2_tt {β:Type}{a b:Option β}{r:β}(h1:a=some r) (h2:b=some r):alt2 a b=some r:=by rw[h1,h2,alt2_self]
theorem copyTab_f {F:Row->Option Row}(hF:∀r,smR 1048576 r->F r=some r){t:Tab}(h:smT 1048576 t){step:List Row×Int->Option ((List Row×Int) ⊕ (List Row ⊕ Tab))}
  (hs:∀(l:List Row) (i:Int),step (l,i)=cnd (iLt i (lLen t.1)) (bnd (idx t.1 i) fun z2=>bnd (F z2) fun z3=>chk (room (l.length+1) 96) (some (.inl (lApp l [z3],iAdd .i64 i 1)))) (some (.inr (.inl l)))) :
  (chk (room (0+t.2.2.length) 24) (joinX (loopX step ([],0)) (fun (z1:(List Row))=>(some (z1,(t.2.1,(lApp [] t.2.2)))))))=some t:=by
 have h2:=h.2.2
 rw[room_ok (by omega),chk_t,copyRows hF h.1 h.2.1 (fun l i hi=>by rw[hs,iLt_y (by rw[lLen_def];omega),cnd_t]) (fun l=>by rw[hs,iLt_n (by rw[lLen_def];omega),cnd_f]),joinX_l]
 rfl
theorem i_copyTab {t:Tab}(h:smT 1048576 t):Zcy t=some t:=by
 rw[Zis]
 exact alt2_tt (copyTab_f (F:=Zt) (fun r h=>iCopyRow_ok h) h fun l i=>rfl) (alt2_tt (copyTab_f (F:=Zt) (fun r h=>iCopyRow_ok h) h fun l i=>rfl) (copyTab_f (F:=Zt) (fun r h=>iCopyRow_ok h) h fun l i=>rfl))
theorem s_copyTab {t:Tab}(h:smT 1048576 t):Zco t=some t:=by
 rw[Zit]
 exact alt2_tt (copyTab_f (F:=Zp) (fun r h=>sCopyRow_ok h) h fun l i=>rfl) (alt2_tt (copyTab_f (F:=Zp) (fun r h=>sCopyRow_ok h) h fun l i=>rfl) (copyTab_f (F:=Zp) (fun r h=>sCopyRow_ok h) h fun l i=>rfl))
theorem i_laid {D:Dv}{g:Int}{rs:List Rec}(hD:dOk D=true) (h0:0<rs.length) (hl:rs.length<=4194304) (hr:∀r∈rs,smC 1048576 r):Zdf (D,(g,rs))=some (layD g rs D):=by
 have hk:=dAt_ok (g:=g) (rs:=rs) hD rs.length
 have f1:=(fl2 hk).1
 have k2:=flC_dok hk
 generalize hd2:flC (dAt g rs D rs.length).1 (dAt g rs D rs.length).2.1 (dAt g rs D rs.length).2.2.1 (dAt g rs D rs.length).2.2.2=d2 at f1 k2
 have w3:=(wr2 (x:=d2) (n:=iRem g 2) (b:=headOf g rs.length) k2 (head_len _ _)).1
 have k3:=wrC_dok (n:=iRem g 2) (b:=headOf g rs.length) k2
 have f3:=(fl2 k3).1
 have hlay:layD g rs D=flC d2.1 (wrC d2.1 d2.2.1 d2.2.2.1 d2.2.2.2 (iRem g 2) (headOf g rs.length)).1 (wrC d2.1 d2.2.1 d2.2.2.1 d2.2.2.2 (iRem g 2) (headOf g rs.length)).2.1 (wrC d2.1 d2.2.1 d2.2.2.1 d2.2.2.2 (iRem g 2) (headOf g rs.length)).2.2:=by
  unfold layD;simp only[hd2]
 have stepW:∀(i:Nat) (hi:i<rs.length),Zi (dAt g rs D i,(secN g i,putRec g i rs[i]))=some (dAt g rs D (i+1)):=by
  intro i hi
  rw[(wr2 (x:=dAt g rs D i) (n:=secN g i) (b:=putRec g i rs[i]) (dAt_ok hD i) (put_len _ _ _)).1,dAt_s hi]
 rw[Zin]
 simp only
 rw[iLt_y (by rw[lLen_def];omega),cnd_t,show idx rs (0:Int)=some rs[0] from idx_at (i:=0) h0,bnd_s,show Zbm (g,(0:Int))=some (secN g ((0:Nat):Int)) from rfl,bnd_s,i_PutRec (hr _ (List.getElem_mem h0)),bnd_s,show Zi (D,(secN g ((0:Nat):Int),putRec g 0 rs[0]))=some (dAt g rs D 1) from stepW 0 h0,bnd_s]
 refine loop_exact (fun i=>((dAt g rs D (i+1)).1,((dAt g rs D (i+1)).2.1,((dAt g rs D (i+1)).2.2.1,((dAt g rs D (i+1)).2.2.2,((i+1:Nat):Int)))))) (rs.length-1) _ (fun i hi=>?_) ?_ _ ?_
 ·have hi2:i+1<rs.length:=by omega
  rw[Zhs]
  simp only
  rw[iLt_y (by rw[lLen_def];omega),cnd_t,idx_at hi2,bnd_s,show Zbm (g,((i+1:Nat):Int))=some (secN g ((i+1:Nat):Int)) from rfl,bnd_s,i_PutRec (hr _ (List.getElem_mem hi2)),bnd_s,
   show Zi (((dAt g rs D (i+1)).1,((dAt g rs D (i+1)).2.1,((dAt g rs D (i+1)).2.2.1,(dAt g rs D (i+1)).2.2.2))),(secN g ((i+1:Nat):Int),putRec g ((i+1:Nat):Int) rs[i+1]))=some (dAt g rs D (i+1+1)) from stepW (i+1) hi2,bnd_s,iAdd_1 (by omega)]
 ·have e:rs.length-1+1=rs.length:=by omega
  rw[Zhs]
  simp only[e]
  rw[iLt_n (by rw[lLen_def];omega),cnd_f,show Zk ((dAt g rs D rs.length).1,((dAt g rs D rs.length).2.1,((dAt g rs D rs.length).2.2.1,(dAt g rs D rs.length).2.2.2)))=some d2 from f1,bnd_s,lLen_def,i_HeadOf,bnd_s,w3,bnd_s,f3,bnd_s,outX_s,<-hlay]
 ·rfl
def layS (s:Store):Store:=if storeOk s=true/\s.1.2.2.2=false/\s.2.2.1≠60000 then (layD (s.2.2.1+1) (recsT s.2.1) s.1,s.2.1,if (layD (s.2.2.1+1) (recsT s.2.1) s.1).2.2.2=true then s.2.2 else (s.2.2.1+1,((recsT s.2.1).length:Int))) else s
theorem storeOk_has {s:Store}(h:storeOk s=true):dOk s.1=true/\1<=s.2.2.1/\s.2.2.1<=60000:=by
 unfold storeOk at h
 simp only[Bool.and_eq_true,decide_eq_true_eq]at h
 exact⟨h.1,h.2.2.2.2.1⟩
theorem layS_sm {s:Store}(h:smS 1048576 s):smS 1048576 (layS s):=by
 unfold layS
 split
 ·rename_i hc
  have h1:=dOk_sm (layD_ok (g:=s.2.2.1+1) (rs:=recsT s.2.1) (storeOk_has hc.1).1)
  have h2:=dev_of (show devOk _ _ _=true from layD_ok (g:=s.2.2.1+1) (rs:=recsT s.2.1) (storeOk_has hc.1).1)
  exact⟨⟨h1.1,h1.2.1,by have:=h2.2.1;simp only;omega,h1.2.2.2⟩,h.2⟩
 ·exact h
theorem recs_pos (t:Tab):0<(recsT t).length:=by rw[recsT_len];omega
theorem s_Lay {s:Store}(h:smS 1048576 s):Zcw s=some (layS s):=by
 have hR:=recsT_sm h.2
 rw[Zip,Ziq,s_Copy (smD_SmD h.1),bnd_s,s_copyTab h.2,bnd_s,bnd_s,s_StoreOk h,bnd_s]
 unfold layS
 cases ho:storeOk s with
 | false=>rw[cnd_f,joinX_l,if_neg (by simp)]
 | true =>
  obtain⟨hd,g1,g2⟩:=storeOk_has ho
  rw[cnd_t]
  cases hdn:s.1.2.2.2 with
  | true=>rw[bNot_t,cnd_f,joinX_l,if_neg (by simp)];rw[<-hdn]
  | false =>
   rw[bNot_f,cnd_t]
   by_cases hg:s.2.2.1=60000
   ·rw[iLt_n (by omega),cnd_f,joinX_l,if_neg (by simp [hg])];rw[<-hdn]
   ·rw[iLt_y (by omega),cnd_t,iAdd_ok (by omega) (by omega)]
    have e:=s_l13Lay (D:=s.1) (T:=s.2.1) (gp:=s.2.2) (g:=s.2.2.1+1) hd (sRecsOf_ok h.2) hR.1 hR.2
    rw[show Zcd ((s.1,(s.2.1,s.2.2)),s.2.2.1+1)=_ from e,bnd_s,joinX_l,if_pos (c:=true=true/\false=false/\s.2.2.1≠60000) ⟨rfl,rfl,hg⟩]
theorem i_Lay {s:Store}(h:smS 1048576 s):Zbr s=some (layS s):=by
 have hR:=recsT_sm h.2
 rw[Zio,Zir,i_Copy (smD_SmD h.1),bnd_s,i_copyTab h.2,bnd_s,bnd_s,i_StoreOk h,bnd_s]
 unfold layS
 cases ho:storeOk s with
 | false=>rw[bNot_f,cnd_t,if_neg (by simp)]
 | true =>
  obtain⟨hd,g1,g2⟩:=storeOk_has ho
  rw[bNot_t,cnd_f]
  cases hdn:s.1.2.2.2 with
  | true=>rw[cnd_t,if_neg (by simp)]
  | false =>
   rw[cnd_f]
   by_cases hg:s.2.2.1=60000
   ·rw[hg,iEq_r,cnd_t,if_neg (by simp)]
   ·rw[iEq_n hg,cnd_f,iRecsOf_ok h.2,bnd_s,iAdd_ok (by omega) (by omega),i_laid hd (recs_pos _) hR.1 hR.2,bnd_s,if_pos (c:=true=true/\false=false/\s.2.2.1≠60000) ⟨rfl,rfl,hg⟩]
    cases hdd:(layD (s.2.2.1+1) (recsT s.2.1) s.1).2.2.2 with
    | true=>simp only[bNot_t,cnd_f,joinX_l,if_true]
    | false=>simp only[bNot_f,cnd_t,joinX_l];rfl
theorem law_Lay {s:Store}(h:smS 9223372036854775807 s):Zgq s=some true:=by
 obtain⟨z,h1,h2,h3⟩:=szStore_ok (k:=1048576) (by omega) (by omega) h
 rw[Ziu,h1,bnd_s]
 by_cases hz:z<0
 ·rw[iLt_y hz];rfl
 rw[iLt_n (by omega),cnd_f]
 have hs:=h3 (by omega)
 have hy:=layS_sm hs
 obtain⟨m1,a1,a2,a3,a4,e1,p0,p1,p2,p3,p4,_⟩:=markStore_ok (s:=s) ⟨smD_SmD hs.1,hs.2⟩
 obtain⟨m2,b1,b2,b3,b4,e2,r0,r1,r2,r3,r4,e3⟩:=markStore_ok (s:=layS s) ⟨smD_SmD hy.1,hy.2⟩
 rw[toStore_ok hs,bnd_s,s_Lay hs,bnd_s,bnd_s,i_Lay hs,bnd_s,eqStore_ok hy,bnd_s,bNot_t,cnd_f,bnd_s,eqStore_ok hs,bnd_s,bNot_t,cnd_f,e1,bnd_s]
 simp only[p1,p2,p3,p4,nEq_r,chk_t]
 rw[iLt_n (by omega),cnd_f,bnd_s,bNot_t,cnd_f,e2,bnd_s]
 simp only[r1,r2,r3,r4,nEq_r,chk_t]
 rw[e3,bnd_s,iLt_n (by omega),cnd_f,iNe_r,cnd_f,bnd_s,i_Lay hs,bnd_s,eqStore_ok hy,bnd_s,bNot_t,cnd_f,bnd_s,iLt_n (by omega),cnd_f,iNe_r,cnd_f]
end
end Go.Vs
