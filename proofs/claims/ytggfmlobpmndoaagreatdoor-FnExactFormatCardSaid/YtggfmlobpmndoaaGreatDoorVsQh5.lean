import Derived.Test.YtggfmlobpmndoaaGreatDoorVsW5
import Derived.Test.YtggfmlobpmndoaaGreatDoorVsQh4
set_option linter.all false
namespace Go.Vs
noncomputable section
theorem F_l_eqDev_eta (x:(((List (List UInt8))×((List (Int×(List UInt8)))×(Int×Bool)))×((List (List UInt8))×((List (Int×(List UInt8)))×(Int×Bool))))):F_l_eqDev x=((bnd (F_l_eqByteSS (x.1.1,x.2.1)) (fun z1=>(cnd (bNot z1) (some false) (bnd (F_l_eqWrS (x.1.2.1,x.2.2.1)) (fun z2=>(cnd (bNot z2) (some false) (cnd (iNe x.1.2.2.1 x.2.2.2.1) (some false) (cnd (bNe x.1.2.2.2 x.2.2.2.2) (some false) (some true)))))))))):=rfl
theorem F_l_eqTab_eta (x:(((List ((List UInt8)×((Int×(List UInt8))×((Int×(List UInt8))×(Int×Bool)))))×(Int×(List (Int×(Int×Int)))))×((List ((List UInt8)×((Int×(List UInt8))×((Int×(List UInt8))×(Int×Bool)))))×(Int×(List (Int×(Int×Int))))))):F_l_eqTab x=((bnd (F_l_eqRowS (x.1.1,x.2.1)) (fun z1=>(cnd (bNot z1) (some false) (cnd (iNe x.1.2.1 x.2.2.1) (some false) (bnd (F_l_eqMarkS (x.1.2.2,x.2.2.2)) (fun z2=>(cnd (bNot z2) (some false) (some true))))))))):=rfl
theorem F_l_eqStore_eta (x:((((List (List UInt8))×((List (Int×(List UInt8)))×(Int×Bool)))×(((List ((List UInt8)×((Int×(List UInt8))×((Int×(List UInt8))×(Int×Bool)))))×(Int×(List (Int×(Int×Int)))))×(Int×Int)))×(((List (List UInt8))×((List (Int×(List UInt8)))×(Int×Bool)))×(((List ((List UInt8)×((Int×(List UInt8))×((Int×(List UInt8))×(Int×Bool)))))×(Int×(List (Int×(Int×Int)))))×(Int×Int))))):F_l_eqStore x=((bnd (F_l_eqDev (x.1.1,x.2.1)) (fun z1=>(cnd (bNot z1) (some false) (bnd (F_l_eqTab (x.1.2.1,x.2.2.1)) (fun z2=>(cnd (bNot z2) (some false) (cnd (iNe x.1.2.2.1 x.2.2.2.1) (some false) (cnd (iNe x.1.2.2.2 x.2.2.2.2) (some false) (some true)))))))))):=rfl
theorem F_l_markDev_eta (x:(((List (List UInt8))×((List (Int×(List UInt8)))×(Int×Bool)))×Int)):F_l_markDev x=((bnd (F_l_markByteSS (x.1.1,x.2)) (fun z1=>(chk (nEq z1.2.length x.1.1.length) (bnd (F_l_markWrS (x.1.2.1,z1.1)) (fun z2=>(chk (nEq z2.2.length x.1.2.1.length) (chk (nEq z1.2.length x.1.1.length) (chk (nEq z2.2.length x.1.2.1.length) (some (z2.1,(z1.2,z2.2)))))))))))):=rfl
theorem F_l_markTab_eta (x:(((List ((List UInt8)×((Int×(List UInt8))×((Int×(List UInt8))×(Int×Bool)))))×(Int×(List (Int×(Int×Int)))))×Int)):F_l_markTab x=((bnd (F_l_markRowS (x.1.1,x.2)) (fun z1=>(chk (nEq z1.2.length x.1.1.length) (bnd (F_l_markMarkS (x.1.2.2,z1.1)) (fun z2=>(chk (nEq z2.2.length x.1.2.2.length) (chk (nEq z1.2.length x.1.1.length) (chk (nEq z2.2.length x.1.2.2.length) (some (z2.1,(z1.2,z2.2)))))))))))):=rfl
theorem F_l_markStore_eta (x:((((List (List UInt8))×((List (Int×(List UInt8)))×(Int×Bool)))×(((List ((List UInt8)×((Int×(List UInt8))×((Int×(List UInt8))×(Int×Bool)))))×(Int×(List (Int×(Int×Int)))))×(Int×Int)))×Int)):F_l_markStore x=((bnd (F_l_markDev (x.1.1,x.2)) (fun z1=>(chk (nEq z1.2.1.length x.1.1.1.length) (chk (nEq z1.2.2.length x.1.1.2.1.length) (bnd (F_l_markTab (x.1.2.1,z1.1)) (fun z2=>(chk (nEq z2.2.1.length x.1.2.1.1.length) (chk (nEq z2.2.2.length x.1.2.1.2.2.length) (chk (nEq z1.2.1.length x.1.1.1.length) (chk (nEq z1.2.2.length x.1.1.2.1.length) (chk (nEq z2.2.1.length x.1.2.1.1.length) (chk (nEq z2.2.2.length x.1.2.1.2.2.length) (some (z2.1,(z1.2.1,(z1.2.2,z2.2))))))))))))))))):=rfl
theorem F_l_heldDev_eta (x:(((List (List UInt8))×((List (Int×(List UInt8)))×(Int×Bool)))×Int)):F_l_heldDev x=((bnd (F_l_heldByteSS (x.1.1,x.2)) (fun z1=>(cnd (iLt z1 0) (some (-1)) (bnd (F_l_heldWrS (x.1.2.1,z1)) (fun z2=>(cnd (iLt z2 0) (some (-1)) (some z2)))))))):=rfl
theorem F_l_heldTab_eta (x:(((List ((List UInt8)×((Int×(List UInt8))×((Int×(List UInt8))×(Int×Bool)))))×(Int×(List (Int×(Int×Int)))))×Int)):F_l_heldTab x=((bnd (F_l_heldRowS (x.1.1,x.2)) (fun z1=>(cnd (iLt z1 0) (some (-1)) (bnd (F_l_heldMarkS (x.1.2.2,z1)) (fun z2=>(cnd (iLt z2 0) (some (-1)) (some z2)))))))):=rfl
theorem F_l_heldStore_eta (x:((((List (List UInt8))×((List (Int×(List UInt8)))×(Int×Bool)))×(((List ((List UInt8)×((Int×(List UInt8))×((Int×(List UInt8))×(Int×Bool)))))×(Int×(List (Int×(Int×Int)))))×(Int×Int)))×Int)):F_l_heldStore x=((bnd (F_l_heldDev (x.1.1,x.2)) (fun z1=>(cnd (iLt z1 0) (some (-1)) (bnd (F_l_heldTab (x.1.2.1,z1)) (fun z2=>(cnd (iLt z2 0) (some (-1)) (some z2)))))))):=rfl
theorem F_s_Format_eta (x:Unit):F_s_Format x=((bnd (F_s_DevNew 62) (fun z1=>(bnd (F_s_l13Lay ((z1,(([],(0,[])),(0,0))),1)) (fun z2=>(some ((z2.1,(z2.2.1,(z2.2.2.1,z2.2.2.2.1))),(([],(z2.2.2.2.2.1,[])),z2.2.2.2.2.2)))))))):=rfl
theorem F_i_Format_eta (x:Unit):F_i_Format x=((bnd (F_i_RecsOf ([],(0,[]))) (fun z1=>(bnd (F_i_DevNew 62) (fun z2=>(bnd (F_i_laid (z2,(1,z1))) (fun z3=>(some (z3,(([],(0,[])),(1,(lLen z1)))))))))))):=rfl
theorem F_s_l13Lay_eta (x:((((List (List UInt8))×((List (Int×(List UInt8)))×(Int×Bool)))×(((List ((List UInt8)×((Int×(List UInt8))×((Int×(List UInt8))×(Int×Bool)))))×(Int×(List (Int×(Int×Int)))))×(Int×Int)))×Int)):F_s_l13Lay x=((bnd (F_s_RecsOf x.1.2.1) (fun z1=>(joinX (loopX (S_s_l13Lay_0 x z1) (x.1.1.2.1,(x.1.1.2.2.1,(x.1.1.2.2.2,0)))) (fun (z2:((List (Int×(List UInt8)))×(Int×Bool)))=>(bnd (F_s_l10Flush (x.1.1.1,z2)) (fun z3=>(bnd (F_s_HeadOf (x.2,(lLen z1))) (fun z4=>(bnd (F_s_l10Write (z3,((iRem x.2 2),z4))) (fun z5=>(bnd (F_s_l10Flush (z3.1,z5)) (fun z6=>(cnd (bNot z6.2.2.2) (some (z6.1,(z6.2.1,(z6.2.2.1,(z6.2.2.2,(x.1.2.1.2.1,(x.2,(lLen z1)))))))) (some (z6.1,(z6.2.1,(z6.2.2.1,(z6.2.2.2,(x.1.2.1.2.1,x.1.2.2)))))))))))))))))))):=rfl
theorem S_s_l13Lay_0_eta (x:((((List (List UInt8))×((List (Int×(List UInt8)))×(Int×Bool)))×(((List ((List UInt8)×((Int×(List UInt8))×((Int×(List UInt8))×(Int×Bool)))))×(Int×(List (Int×(Int×Int)))))×(Int×Int)))×Int)) (z1:(List (Int×(((List UInt8)×((Int×(List UInt8))×((Int×(List UInt8))×(Int×Bool))))×((List UInt8)×(Int×(Int×(Int×Int)))))))):S_s_l13Lay_0 x z1=(fun (z2:((List (Int×(List UInt8)))×(Int×(Bool×Int))))=>(cnd (iLt z2.2.2.2 (lLen z1)) (bnd (F_s_l13At (x.2,z2.2.2.2)) (fun z3=>(bnd (idx z1 z2.2.2.2) (fun z4=>(bnd (F_s_PutRec (x.2,(z2.2.2.2,z4))) (fun z5=>(bnd (F_s_l10Write ((x.1.1.1,(z2.1,(z2.2.1,z2.2.2.1))),(z3,z5))) (fun z6=>(some (.inl (z6.1,(z6.2.1,(z6.2.2,(iAdd .i64 z2.2.2.2 1)))))))))))))) (some (.inr (.inl (z2.1,(z2.2.1,z2.2.2.1))))))):=rfl
theorem F_i_laid_eta (x:(((List (List UInt8))×((List (Int×(List UInt8)))×(Int×Bool)))×(Int×(List (Int×(((List UInt8)×((Int×(List UInt8))×((Int×(List UInt8))×(Int×Bool))))×((List UInt8)×(Int×(Int×(Int×Int)))))))))):F_i_laid x=((joinX (loopX (S_i_laid_0 x) (x.1.1,(x.1.2.1,(x.1.2.2.1,(x.1.2.2.2,0))))) (fun (z1:((List (List UInt8))×((List (Int×(List UInt8)))×(Int×Bool))))=>(bnd (F_i_FlushDev z1) (fun z2=>(bnd (F_i_HeadOf (x.2.1,(lLen x.2.2))) (fun z3=>(bnd (F_i_WriteSec (z2,((iRem x.2.1 2),z3))) (fun z4=>(bnd (F_i_FlushDev z4) (fun z5=>(some z5)))))))))))):=rfl
theorem S_i_laid_0_eta (x:(((List (List UInt8))×((List (Int×(List UInt8)))×(Int×Bool)))×(Int×(List (Int×(((List UInt8)×((Int×(List UInt8))×((Int×(List UInt8))×(Int×Bool))))×((List UInt8)×(Int×(Int×(Int×Int)))))))))):S_i_laid_0 x=(fun (z1:((List (List UInt8))×((List (Int×(List UInt8)))×(Int×(Bool×Int)))))=>(cnd (iLt z1.2.2.2.2 (lLen x.2.2)) (bnd (idx x.2.2 z1.2.2.2.2) (fun z2=>(bnd (F_i_sectorOf (x.2.1,z1.2.2.2.2)) (fun z3=>(bnd (F_i_PutRec (x.2.1,(z1.2.2.2.2,z2))) (fun z4=>(bnd (F_i_WriteSec ((z1.1,(z1.2.1,(z1.2.2.1,z1.2.2.2.1))),(z3,z4))) (fun z5=>(some (.inl (z5.1,(z5.2.1,(z5.2.2.1,(z5.2.2.2,(iAdd .i64 z1.2.2.2.2 1))))))))))))))) (some (.inr (.inl (z1.1,(z1.2.1,(z1.2.2.1,z1.2.2.2.1)))))))):=rfl
theorem F_i_sectorOf_eta (x:(Int×Int)):F_i_sectorOf x=((some (iAdd .i64 (iAdd .i64 2 (iMul .i64 30 (iRem x.1 2))) x.2))):=rfl
theorem F_s_l13At_eta (x:(Int×Int)):F_s_l13At x=((some (iAdd .i64 (iAdd .i64 2 (iMul .i64 30 (iRem x.1 2))) x.2))):=rfl
theorem F_l_FnExactFormat_eta (x:Unit):F_l_FnExactFormat x=((bnd (F_s_Format ()) (fun z1=>(bnd (F_i_Format ()) (fun z2=>(bnd (F_l_eqStore (z2,z1)) (fun z3=>(cnd (bNot z3) (some false) (bnd (F_l_markStore (z2,1)) (fun z4=>(chk (nEq z4.2.1.length z2.1.1.length) (chk (nEq z4.2.2.1.length z2.1.2.1.length) (chk (nEq z4.2.2.2.1.length z2.2.1.1.length) (chk (nEq z4.2.2.2.2.length z2.2.1.2.2.length) (bnd (F_l_heldStore (((z4.2.1,(z4.2.2.1,z2.1.2.2)),((z4.2.2.2.1,(z2.2.1.2.1,z4.2.2.2.2)),z2.2.2)),1)) (fun z5=>(cnd (iLt z5 0) (some false) (cnd (iNe z5 z4.1) (some false) (bnd (F_i_Format ()) (fun z6=>(bnd (F_l_eqStore (z6,z1)) (fun z7=>(cnd (bNot z7) (some false) (bnd (F_l_heldStore (((z4.2.1,(z4.2.2.1,z2.1.2.2)),((z4.2.2.2.1,(z2.2.1.2.1,z4.2.2.2.2)),z2.2.2)),1)) (fun z8=>(cnd (iLt z8 0) (some false) (cnd (iNe z8 z4.1) (some false) (some true)))))))))))))))))))))))))))):=rfl
theorem eqByteSS_ok {x:List (List UInt8)}(hl:x.length<=1048576) (h:∀ b∈x,b.length<=1048576):F_l_eqByteSS (x,x)=some true:=by
 have e:F_l_eqByteSS (x,x)=eqLst F_l_eqByteS (x,x):=rfl
 rw[e]
 exact eqLst_ok (by omega) fun b hb=>eqByteS_ok (by have:=h b hb;omega)
theorem eqWr0:F_l_eqWrS ([],[])=some true:=by
 have e:F_l_eqWrS ([],[])=eqLst F_l_eqWr ([],[]):=rfl
 rw[e];exact eqLst_ok (by simp) (by simp)
theorem eqTab0:F_l_eqTab (([],(0,[])),([],(0,[])))=some true:=by
 have e1:F_l_eqRowS ([],[])=some true:=by
  have e:F_l_eqRowS ([],[])=eqLst F_l_eqRow ([],[]):=rfl
  rw[e];exact eqLst_ok (by simp) (by simp)
 have e2:F_l_eqMarkS ([],[])=some true:=by
  have e:F_l_eqMarkS ([],[])=eqLst F_l_eqMark ([],[]):=rfl
  rw[e];exact eqLst_ok (by simp) (by simp)
 rw[F_l_eqTab_eta]
 simp only[e1,e2,bnd_s,bNot_t,cnd_f,iNe_r]
def HSec (m:Int) (e:List UInt8) (m':Int):Prop:=0<=m'/\F_l_heldByteS (e,m)=some m'
theorem markByteSS_ok {x:List (List UInt8)}{m:Int}(h0:0<=m) (hm:m<=1048576) (hl:x.length<=1048576) (hx:∀ b∈x,b.length<=1048576):∃ m' x',F_l_markByteSS (x,m)=some (m',x')/\F_l_heldByteSS (x',m)=some m'/\x'.length=x.length/\m<=m':=by
 obtain⟨l',m',h1,h2,h3,h4,h5⟩:=mark_loop (H:=HSec) (K:=1048576) (x:=x) (m0:=m) (step:=S_l_markByteSS_0) (by omega) (by omega) (by
  intro l k i hi hll hxi hk1 hk2
  have hbl:=hx x[i] (List.getElem_mem hi)
  obtain⟨m1,x1,b1,b2,b3,b4,b5⟩:=markByteS_ok (x:=x[i]) (m:=k) (by omega) (by omega) hbl
  have ho:=Eq.refl (S_l_markByteSS_0 (l,(k,(i:Int))))
  conv at ho=>rhs;simp (disch:=first | omega | (simp only[lSet_len,lLen_def];omega)) only[S_l_markByteSS_0,iLt_y,cnd_t,idx_n,idx_ofNat,hxi,bnd_s,nOf_n,iAdd_ok,nEq_r,chk_t,b1,b3]
  exact⟨_,_,ho,⟨by omega,b2⟩,by omega,by omega⟩) (by
  intro l k hll
  simp only[S_l_markByteSS_0]
  rw[iLt_n (by simp only[lLen_def];omega),cnd_f])
 refine⟨m',l', ?_, ?_,h3,h4⟩
 ·unfold F_l_markByteSS
  simp only[h1,joinX_l,h3,nEq_r,chk_t]
 ·unfold F_l_heldByteSS
  simp only
  rw[held_loop (H:=HSec) (m1:=m') (by omega) h2 (by
   rintro k k' i hi ⟨q1,q2⟩
   simp only[S_l_heldByteSS_0]
   rw[iLt_y (by simp only[lLen_def];omega),cnd_t,idx_at hi,bnd_s,q2,bnd_s,iLt_n q1,cnd_f,iAdd_1 (by omega)]
   rfl) (by
   intro k
   simp only[S_l_heldByteSS_0]
   rw[iLt_n (by simp only[lLen_def];omega),cnd_f])]
  rfl
theorem none_loop {α ρ:Type}{step:List α×Int×Int->Option ((List α×Int×Int) ⊕ ρ)}{s:List α×Int×Int}{r:ρ}(h:step s=some (.inr r)):loopX step s=some r:=by rw[loopX_eq,h]
theorem markWr0 (m:Int):F_l_markWrS ([],m)=some (m,[]):=by
 unfold F_l_markWrS
 rw[none_loop (r:=.inl ([],m)) (by unfold S_l_markWrS_0;rfl)]
 rfl
theorem markRow0 (m:Int):F_l_markRowS ([],m)=some (m,[]):=by
 unfold F_l_markRowS
 rw[none_loop (r:=.inl ([],m)) (by unfold S_l_markRowS_0;rfl)]
 rfl
theorem markMark0 (m:Int):F_l_markMarkS ([],m)=some (m,[]):=by
 unfold F_l_markMarkS
 rw[none_loop (r:=.inl ([],m)) (by unfold S_l_markMarkS_0;rfl)]
 rfl
theorem heldWr0 (m:Int):F_l_heldWrS ([],m)=some m:=by
 unfold F_l_heldWrS
 rw[show loopX (S_l_heldWrS_0 ([],m)) (m,0)=some (.inl m) by rw[loopX_eq];unfold S_l_heldWrS_0;rfl]
 rfl
theorem heldRow0 (m:Int):F_l_heldRowS ([],m)=some m:=by
 unfold F_l_heldRowS
 rw[show loopX (S_l_heldRowS_0 ([],m)) (m,0)=some (.inl m) by rw[loopX_eq];unfold S_l_heldRowS_0;rfl]
 rfl
theorem heldMark0 (m:Int):F_l_heldMarkS ([],m)=some m:=by
 unfold F_l_heldMarkS
 rw[show loopX (S_l_heldMarkS_0 ([],m)) (m,0)=some (.inl m) by rw[loopX_eq];unfold S_l_heldMarkS_0;rfl]
 rfl
def tab0:List Row×Int×List (Int×Int×Int):=([],0,[])
theorem mark_store {secs:List (List UInt8)}{f:Int}{d:Bool}{g p:Int}(hl:secs.length<=1048576) (hx:∀ b∈secs,b.length<=1048576) :
  ∃ m' x',F_l_markStore (((secs,([],(f,d))),(tab0,(g,p))),1)=some (m',(x',([],([],[]))))/\x'.length=secs.length/\0<=m'/\F_l_heldStore (((x',([],(f,d))),(tab0,(g,p))),1)=some m':=by
 obtain⟨m',x',e1,e2,e3,e4⟩:=markByteSS_ok (m:=1) (by omega) (by omega) hl hx
 refine⟨m',x', ?_,e3,by omega, ?_⟩
 ·have ed:F_l_markDev ((secs,([],(f,d))),1)=some (m',(x',[])):=by
   rw[F_l_markDev_eta]
   simp only[e1,bnd_s,e3,nEq_r,chk_t,markWr0]
  have et:F_l_markTab (tab0,m')=some (m',([],[])):=by
   rw[F_l_markTab_eta]
   simp only[tab0,markRow0,bnd_s,nEq_r,chk_t,markMark0]
  rw[F_l_markStore_eta]
  simp only[ed,et,bnd_s,e3,nEq_r,chk_t]
  rfl
 ·have ed:F_l_heldDev ((x',([],(f,d))),1)=some m':=by
   rw[F_l_heldDev_eta]
   simp only[e2,bnd_s,heldWr0]
   rw[iLt_n (by omega),cnd_f,cnd_f]
  have et:F_l_heldTab (tab0,m')=some m':=by
   rw[F_l_heldTab_eta]
   simp only[tab0,heldRow0,bnd_s,heldMark0]
   rw[iLt_n (by omega),cnd_f,cnd_f]
  rw[F_l_heldStore_eta]
  simp only[ed,et,bnd_s]
  rw[iLt_n (by omega),cnd_f,cnd_f]
theorem wr_both {m:Nat}{x:Dv}{n:Int}{b:List UInt8}(h:GoodD m x) (hn:0<=n/\n<=(x.1.length:Int) - 1) (hb:b.length<=120) (hm:m<40) :
  F_i_WriteSec (x,(n,b))=some (x.1,x.2.1++[(n,b)],-1,false)/\F_s_l10Write (x,(n,b))=some (x.2.1++[(n,b)],-1,false)/\GoodD (m+1) (x.1,x.2.1++[(n,b)],-1,false):=by
 obtain⟨w1,w2⟩:=wrC_good h hn hb hm
 have hsm:=dOk_sm h.ok
 refine⟨?_, ?_,w2⟩
 ·rw[i_WriteSec hsm (by omega)]
  unfold wrD
  rw[wrDev_ok (show devOk x.1 x.2.1 x.2.2.1=true from h.ok),w1]
 ·rw[s_Write hsm (by rw[h.fuse];omega) (by omega),w1]
theorem fl_both {m:Nat}{x:Dv}(h:GoodD m x):∃ y:Dv,F_i_FlushDev x=some y/\F_s_l10Flush x=some y/\GoodD 0 y/\y.1.length=x.1.length:=by
 have hsm:=dOk_sm h.ok
 obtain⟨d1,d2,d3,d4,d5⟩:=dev_of (show devOk x.1 x.2.1 x.2.2.1=true from h.ok)
 refine⟨flC x.1 x.2.1 x.2.2.1 x.2.2.2, ?_, ?_,flC_good h, ?_⟩
 ·rw[i_FlushDev hsm]
  unfold flD
  rw[flDev_ok (show devOk x.1 x.2.1 x.2.2.1=true from h.ok)]
 ·exact s_Flush hsm d3 (fun w hw=>⟨(d5 w hw).1,(d5 w hw).2.1⟩)
 ·rw[h.up,flC_yes (by rw[h.fuse];omega)]
  simp only[flL_len]
theorem RecsOf0:F_s_RecsOf ([],(0,[]))=some [topRec 0]/\F_i_RecsOf ([],(0,[]))=some [topRec 0]:=by
 constructor
 ·unfold F_s_RecsOf
  rw[show ∀ s,loopX (S_s_RecsOf_0 ([],(0,[]))) (s,0)=some (.inl s) from fun s=>by rw[loopX_eq];unfold S_s_RecsOf_0;rfl,joinX_l]
  rw[show ∀ s,loopX (S_s_RecsOf_1 ([],(0,[]))) (s,0)=some (.inl s) from fun s=>by rw[loopX_eq];unfold S_s_RecsOf_1;rfl,joinX_l]
  rfl
 ·unfold F_i_RecsOf
  rw[show ∀ s,loopX (S_i_RecsOf_0 ([],(0,[]))) (s,0)=some (.inl s) from fun s=>by rw[loopX_eq];unfold S_i_RecsOf_0;rfl,joinX_l]
  rw[show ∀ s,loopX (S_i_RecsOf_1 ([],(0,[]))) (s,0)=some (.inl s) from fun s=>by rw[loopX_eq];unfold S_i_RecsOf_1;rfl,joinX_l]
  rfl
theorem put0_len:(putRec 1 0 (topRec 0)).length<=120:=by decide +kernel
theorem head1_len:(headOf 1 1).length<=120:=by decide +kernel
theorem topRec_sm:smC 1048576 (topRec 0):=⟨⟨by simp [topRec],by simp [topRec],by simp [topRec]⟩,by simp [topRec]⟩
theorem rem1:iRem 1 2=1:=by decide
theorem sec32:iAdd .i64 (iAdd .i64 2 (iMul .i64 30 (iRem 1 2))) 0=32:=by decide +kernel
theorem Format_ok:∃ secs:List (List UInt8),secs.length<=64/\(∀ b∈secs,b.length<=120)/\F_s_Format ()=some ((secs,[],-1,false),tab0,1,1)/\F_i_Format ()=some ((secs,[],-1,false),tab0,1,1):=by
 have g0:GoodD 0 (nwD 62):=nwD_good (by omega)
 have l0:(nwD 62).1.length=62:=by decide +kernel
 obtain⟨a1,a2,g1⟩:=wr_both (n:=32) g0 (by omega) put0_len (by omega)
 obtain⟨d2,b1,b2,g2,l2⟩:=fl_both g1
 simp only at l2
 obtain⟨c1,c2,g3⟩:=wr_both (n:=1) g2 (by omega) head1_len (by omega)
 obtain⟨d4,e1,e2,g4,l4⟩:=fl_both g3
 simp only at l4
 obtain⟨k1,k2,k3,k4,k5⟩:=dev_of (show devOk d4.1 d4.2.1 d4.2.2.1=true from g4.ok)
 have hd:d4=(d4.1,[],-1,false):=by
  obtain⟨s,c,f,dn⟩:=d4
  have h1:=g4.small;have h2:=g4.up;have h3:=g4.fuse
  simp only at h1 h2 h3
  rw[List.length_eq_zero_iff.1 (show c.length=0 by omega),h2,h3]
 refine⟨d4.1,by omega,k4, ?_, ?_⟩
 ·rw[F_s_Format_eta,s_DevNew,bnd_s,F_s_l13Lay_eta]
  simp only
  rw[RecsOf0.1,bnd_s]
  have el:loopX (S_s_l13Lay_0 ((nwD 62,(([],(0,[])),(0,0))),1) [topRec 0]) ((nwD 62).2.1,((nwD 62).2.2.1,((nwD 62).2.2.2,0)))=some (.inl ((nwD 62).2.1++[(32,putRec 1 0 (topRec 0))],-1,false)):=by
   rw[loopX_eq,S_s_l13Lay_0_eta]
   simp only
   rw[show iLt 0 (lLen [topRec 0])=true from rfl,cnd_t,F_s_l13At_eta]
   simp only
   rw[sec32,bnd_s,show idx [topRec 0] 0=some (topRec 0) from rfl,bnd_s,s_PutRec topRec_sm,bnd_s,show F_s_l10Write (((nwD 62).1,((nwD 62).2.1,((nwD 62).2.2.1,(nwD 62).2.2.2))),(32,putRec 1 0 (topRec 0)))=_ from a2,bnd_s]
   simp only
   rw[show iAdd .i64 0 1=1 by decide +kernel,loopX_eq]
   simp only
   rw[show iLt 1 (lLen [topRec 0])=false from rfl,cnd_f]
  rw[el,joinX_l,show F_s_l10Flush ((nwD 62).1,((nwD 62).2.1++[(32,putRec 1 0 (topRec 0))],-1,false))=_ from b2,bnd_s,show lLen [topRec 0]=1 from rfl,s_HeadOf,bnd_s,rem1,c2,bnd_s,show F_s_l10Flush (d2.1,(d2.2.1++[(1,headOf 1 1)],-1,false))=_ from e2,bnd_s,g4.up,bNot_f,cnd_t,bnd_s]
  conv=>rhs;rw[<-hd]
  rw[hd];rfl
 ·rw[F_i_Format_eta,RecsOf0.2,bnd_s,i_DevNew,bnd_s,F_i_laid_eta]
  simp only
  have el:loopX (S_i_laid_0 (nwD 62,(1,[topRec 0]))) ((nwD 62).1,((nwD 62).2.1,((nwD 62).2.2.1,((nwD 62).2.2.2,0))))=some (.inl ((nwD 62).1,(nwD 62).2.1++[(32,putRec 1 0 (topRec 0))],-1,false)):=by
   rw[loopX_eq,S_i_laid_0_eta]
   simp only
   rw[show iLt 0 (lLen [topRec 0])=true from rfl,cnd_t,show idx [topRec 0] 0=some (topRec 0) from rfl,bnd_s,F_i_sectorOf_eta]
   simp only
   rw[sec32,bnd_s,i_PutRec topRec_sm,bnd_s,show F_i_WriteSec (((nwD 62).1,((nwD 62).2.1,((nwD 62).2.2.1,(nwD 62).2.2.2))),(32,putRec 1 0 (topRec 0)))=_ from a1,bnd_s]
   simp only
   rw[show iAdd .i64 0 1=1 by decide +kernel,loopX_eq]
   simp only
   rw[show iLt 1 (lLen [topRec 0])=false from rfl,cnd_f]
  rw[el,joinX_l,b1,bnd_s,show lLen [topRec 0]=1 from rfl,i_HeadOf,bnd_s,rem1,c1,bnd_s,e1,bnd_s,bnd_s]
  conv=>rhs;rw[<-hd]
  rfl
theorem law_Format:F_l_FnExactFormat ()=some true:=by
 obtain⟨secs,h1,h2,h3,h4⟩:=Format_ok
 obtain⟨m',x',e1,e2,e3,e4⟩:=mark_store (secs:=secs) (f:=-1) (d:=false) (g:=1) (p:=1) (by omega) (fun b hb=>by have:=h2 b hb;omega)
 have eq:F_l_eqStore (((secs,[],-1,false),tab0,1,1),((secs,[],-1,false),tab0,1,1))=some true:=by
  rw[F_l_eqStore_eta]
  have ed:F_l_eqDev ((secs,[],-1,false),(secs,[],-1,false))=some true:=by
   rw[F_l_eqDev_eta]
   simp only[eqByteSS_ok (x:=secs) (by omega) (fun b hb=>by have:=h2 b hb;omega),bnd_s,bNot_t,cnd_f,eqWr0,iNe_r,bNe_r]
  have et:F_l_eqTab (tab0,tab0)=some true:=eqTab0
  simp only[ed,et,bnd_s,bNot_t,cnd_f,iNe_r]
 rw[F_l_FnExactFormat_eta,h3,bnd_s,h4,bnd_s,eq,bnd_s,bNot_t,cnd_f,e1,bnd_s]
 simp only
 have e5:nEq x'.length secs.length=true:=by rw[e2];exact nEq_r _
 rw[e5,chk_t,show nEq ([]:List Wr).length ([]:List Wr).length=true from rfl,chk_t]
 rw[show nEq ([]:List Row).length tab0.1.length=true from rfl,chk_t,show nEq ([]:List (Int×Int×Int)).length tab0.2.2.length=true from rfl,chk_t]
 have e6:F_l_heldStore (((x',([],(-1,false))),(([],(tab0.2.1,[])),(1,1))),1)=some m':=e4
 rw[e6,bnd_s,iLt_n (by omega),cnd_f,iNe_r,cnd_f,bnd_s,eq,bnd_s,bNot_t,cnd_f,bnd_s,iLt_n (by omega),cnd_f,iNe_r,cnd_f]
end
end Go.Vs
