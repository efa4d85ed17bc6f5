import Derived.Test.YtmpopjdcbabchaaGreatDoorVsW5
import Derived.Test.YtmpopjdcbabchaaGreatDoorVsQub
set_option linter.all false
namespace Go.Vs
noncomputable section
def sameC (a b:Cell):Bool:=decide (a.1=b.1)&&(a.2==b.2)
def sameRw (a b:Row):Bool:=(a.1==b.1)&&sameC a.2.1 b.2.1&&sameC a.2.2.1 b.2.2.1&&decide (a.2.2.2.1=b.2.2.2.1)&&(a.2.2.2.2==b.2.2.2.2)
def sameM (a b:Mark):Bool:=decide (a.1=b.1)&&decide (a.2.1=b.2.1)&&decide (a.2.2=b.2.2)
def sameTabB (a b:Tab):Bool:=decide (a.1.length=b.1.length)&&eqAll sameRw a.1 b.1&&decide (a.2.1=b.2.1)&&decide (a.2.2.length=b.2.2.length)&&eqAll sameM a.2.2 b.2.2
theorem iC_same {a b:Cell}:Zj (a,b)=some (sameC a b):=by
 unfold Zj sameC
 simp only[iEq_x,sEq_d]
 cases decide (a.1=b.1)<;>rfl
theorem iR_same {a b:Row}:Zv (a,b)=some (sameRw a b):=by
 have e1:Zj ((a.2.1.1,a.2.1.2),(b.2.1.1,b.2.1.2))=some (sameC a.2.1 b.2.1):=iC_same
 have e2:Zj ((a.2.2.1.1,a.2.2.1.2),(b.2.2.1.1,b.2.2.1.2))=some (sameC a.2.2.1 b.2.2.1):=iC_same
 unfold Zv sameRw
 simp only[iEq_x,sEq_d,e1,e2,bnd_s]
 cases (a.1==b.1)<;>cases sameC a.2.1 b.2.1<;>cases sameC a.2.2.1 b.2.2.1<;>cases decide (a.2.2.2.1=b.2.2.2.1)<;>rfl
theorem zEq_mark (a b:Mark):zEq [a.1,a.2.1,a.2.2] [b.1,b.2.1,b.2.2]=sameM a b:=by
 unfold zEq sameM
 rw[Bool.eq_iff_iff]
 simp [and_assoc]
theorem i_SameTab {a b:Tab}(ha:smT 1048576 a) (hb:smT 1048576 b):Zeo (a,b)=some (sameTabB a b):=by
 have h1:=ha.1
 have h2:=ha.2.2
 have e5:Zel (a.1,b.1)=some (decide (a.1.length=b.1.length)&&eqAll sameRw a.1 b.1):=by
  unfold Zel
  simp only
  by_cases e1:a.1.length=b.1.length
  case neg=>rw[iNe_y (by simp only[lLen_def];omega),cnd_t];simp [e1]
  rw[show iNe (lLen a.1) (lLen b.1)=false by simp only[lLen_def,e1,iNe_r],cnd_f]
  rw[same_loop (step:=Zek (a.1,b.1)) (fun i=>(i:Int)) a.1 b.1 sameRw false true e1 (fun i hi hi'=>by
   have e:Zv ((a.1[i].1,((a.1[i].2.1.1,a.1[i].2.1.2),((a.1[i].2.2.1.1,a.1[i].2.2.1.2),(a.1[i].2.2.2.1,a.1[i].2.2.2.2)))),(b.1[i].1,((b.1[i].2.1.1,b.1[i].2.1.2),((b.1[i].2.2.1.1,b.1[i].2.2.1.2),(b.1[i].2.2.2.1,b.1[i].2.2.2.2)))))=some (sameRw a.1[i] b.1[i]):=iR_same
   unfold Zek
   simp only
   rw[iLt_y (by simp only[lLen_def];omega),cnd_t,idx_at hi,bnd_s,idx_at hi',bnd_s,e,bnd_s,iAdd_1 (by omega)]
   cases sameRw a.1[i] b.1[i]<;>rfl) (by
   unfold Zek
   simp only
   rw[iLt_n (by simp only[lLen_def];omega),cnd_f]) (0:Int) rfl]
  simp [e1]
 have e6:Zen (a.2.2,b.2.2)=some (decide (a.2.2.length=b.2.2.length)&&eqAll sameM a.2.2 b.2.2):=by
  unfold Zen
  simp only
  by_cases e1:a.2.2.length=b.2.2.length
  case neg=>rw[iNe_y (by simp only[lLen_def];omega),cnd_t];simp [e1]
  rw[show iNe (lLen a.2.2) (lLen b.2.2)=false by simp only[lLen_def,e1,iNe_r],cnd_f]
  rw[same_loop (step:=Zem (a.2.2,b.2.2)) (fun i=>(i:Int)) a.2.2 b.2.2 sameM false true e1 (fun i hi hi'=>by
   unfold Zem
   simp only
   rw[iLt_y (by simp only[lLen_def];omega),cnd_t,idx_at hi,bnd_s,idx_at hi',bnd_s,zEq_mark,iAdd_1 (by omega)]
   cases sameM a.2.2[i] b.2.2[i]<;>rfl) (by
   unfold Zem
   simp only
   rw[iLt_n (by simp only[lLen_def];omega),cnd_f]) (0:Int) rfl]
  simp [e1]
 unfold Zeo sameTabB
 simp only[e5,e6,bnd_s,iEq_x]
 cases decide (a.1.length=b.1.length)<;>cases eqAll sameRw a.1 b.1<;>cases decide (a.2.1=b.2.1)<;>simp
def rowRec (r:Row):Rec:=(1,r,[],0,0,0,0)
def markRec (m:Mark):Rec:=(4,([],(0,[]),(0,[]),0,false),[],0,m.1,m.2.1,m.2.2)
def topRec (z:Int):Rec:=(3,([],(0,[]),(0,[]),0,false),[],z,0,0,0)
def recsT (t:Tab):List Rec:=topRec t.2.1::(t.1.map rowRec++t.2.2.map markRec)
theorem recsT_len (t:Tab):(recsT t).length=1+t.1.length+t.2.2.length:=by simp [recsT];omega
theorem recsT_sm {t:Tab}(h:smT 1048576 t):(recsT t).length<=4194304/\∀r∈recsT t,smC 1048576 r:=by
 refine⟨by rw[recsT_len];have:=h.1;have:=h.2.2;omega, ?_⟩
 intro r hr
 simp only[recsT,List.mem_cons,List.mem_append,List.mem_map]at hr
 rcases hr with rfl|⟨q,hq,rfl⟩|⟨q,hq,rfl⟩
 ·exact⟨⟨Nat.zero_le _,Nat.zero_le _,Nat.zero_le _⟩,Nat.zero_le _⟩
 ·exact⟨h.2.1 q hq,Nat.zero_le _⟩
 ·exact⟨⟨Nat.zero_le _,Nat.zero_le _,Nat.zero_le _⟩,Nat.zero_le _⟩
theorem sRecsOf_ok {t:Tab}(h:smT 1048576 t):Zfc t=some (recsT t):=by
 have h1:=h.1
 have h2:=h.2.2
 unfold Zfc
 rw[app_loop (x:=t.1) (f:=rowRec) (by
  intro l i hi hl
  simp only[List.length_cons,List.length_nil]at hl
  simp (disch:=first|omega|(simp only[lLen_def];omega)) only[Zfz,iLt_y,cnd_t,idx_at,bnd_s,sCopyRow_ok (h.2.1 t.1[i] (List.getElem_mem hi)),room_ok,chk_t,iAdd_ok]
  rfl) (by
  intro l
  simp (disch:=first|omega|(simp only[lLen_def];omega)) only[Zfz,iLt_n,cnd_f])]
 simp only[joinX_l]
 rw[app_loop (x:=t.2.2) (f:=markRec) (by
  intro l i hi hl
  simp only[List.length_append,List.length_map,List.length_cons,List.length_nil]at hl
  simp (disch:=first|omega|(simp only[lLen_def];omega)) only[Zga,iLt_y,cnd_t,idx_at,bnd_s,room_ok,chk_t,iAdd_ok]
  rfl) (by
  intro l
  simp (disch:=first|omega|(simp only[lLen_def];omega)) only[Zga,iLt_n,cnd_f])]
 simp only[joinX_l]
 rfl
theorem iRecsOf_ok {t:Tab}(h:smT 1048576 t):Zej t=some (recsT t):=by
 have h1:=h.1
 have h2:=h.2.2
 unfold Zej
 rw[app_loop (x:=t.1) (f:=rowRec) (by
  intro l i hi hl
  simp only[List.length_cons,List.length_nil]at hl
  simp (disch:=first|omega|(simp only[lLen_def];omega)) only[Zfw,iLt_y,cnd_t,idx_at,bnd_s,iCopyRow_ok (h.2.1 t.1[i] (List.getElem_mem hi)),room_ok,chk_t,iAdd_ok]
  rfl) (by
  intro l
  simp (disch:=first|omega|(simp only[lLen_def];omega)) only[Zfw,iLt_n,cnd_f])]
 simp only[joinX_l]
 rw[app_loop (x:=t.2.2) (f:=markRec) (by
  intro l i hi hl
  simp only[List.length_append,List.length_map,List.length_cons,List.length_nil]at hl
  simp (disch:=first|omega|(simp only[lLen_def];omega)) only[Zfx,iLt_y,cnd_t,idx_at,bnd_s,room_ok,chk_t,iAdd_ok]
  rfl) (by
  intro l
  simp (disch:=first|omega|(simp only[lLen_def];omega)) only[Zfx,iLt_n,cnd_f])]
 simp only[joinX_l]
 rfl
theorem lC_same {a b:Cell}:Zw (a,b)=some (sameC a b):=by
 unfold Zw sameC
 simp only[iEq_x,sEq_d]
 cases decide (a.1=b.1)<;>rfl
theorem lR_same {a b:Row}:Zx (a,b)=some (sameRw a b):=by
 rw[Zx]
 unfold sameRw
 simp only[iEq_x,sEq_d,lC_same,bnd_s,bEq]
 cases (a.1==b.1)<;>cases sameC a.2.1 b.2.1<;>cases sameC a.2.2.1 b.2.2.1<;>cases decide (a.2.2.2.1=b.2.2.2.1)<;>rfl
theorem l_sameTab {a b:Tab}(ha:smT 1048576 a) (hb:smT 1048576 b):Zct (a,b)=some (sameTabB a b):=by
 have h1:=ha.1
 have h2:=ha.2.2
 unfold Zct sameTabB
 simp only
 by_cases e1:a.1.length=b.1.length
 case neg=>rw[iNe_y (by simp only[lLen_def];omega),cnd_t];simp [e1]
 rw[show iNe (lLen a.1) (lLen b.1)=false by simp only[lLen_def,e1,iNe_r],cnd_f]
 by_cases e2:a.2.1=b.2.1
 case neg=>rw[iNe_y e2,cnd_t];simp [e2]
 rw[e2,iNe_r,cnd_f]
 by_cases e3:a.2.2.length=b.2.2.length
 case neg=>rw[iNe_y (by simp only[lLen_def];omega),cnd_t];simp [e3]
 rw[show iNe (lLen a.2.2) (lLen b.2.2)=false by simp only[lLen_def,e3,iNe_r],cnd_f]
 rw[same_loop (step:=Zed (a,b)) (fun i=>(i:Int)) a.1 b.1 sameRw (.inr false) (.inl ()) e1 (fun i hi hi'=>by
  have e:Zx ((a.1[i].1,((a.1[i].2.1.1,a.1[i].2.1.2),((a.1[i].2.2.1.1,a.1[i].2.2.1.2),(a.1[i].2.2.2.1,a.1[i].2.2.2.2)))),(b.1[i].1,((b.1[i].2.1.1,b.1[i].2.1.2),((b.1[i].2.2.1.1,b.1[i].2.2.1.2),(b.1[i].2.2.2.1,b.1[i].2.2.2.2)))))=some (sameRw a.1[i] b.1[i]):=lR_same
  unfold Zed
  simp only
  rw[iLt_y (by simp only[lLen_def];omega),cnd_t,idx_at hi,bnd_s,idx_at hi',bnd_s,e,bnd_s,iAdd_1 (by omega)]
  cases sameRw a.1[i] b.1[i]<;>rfl) (by
  unfold Zed
  simp only
  rw[iLt_n (by simp only[lLen_def];omega),cnd_f]) (0:Int) rfl]
 cases hq:eqAll sameRw a.1 b.1 with
 | false=>simp only[Bool.false_eq_true,if_false];simp [e1,joinX]
 | true =>
  simp only[if_true,joinX_l]
  rw[same_loop (step:=Zee (a,b)) (fun i=>(i:Int)) a.2.2 b.2.2 sameM false true e3 (fun i hi hi'=>by
   unfold Zee
   simp only
   rw[iLt_y (by simp only[lLen_def];omega),cnd_t,idx_at hi,bnd_s,idx_at hi',bnd_s,zEq_mark,iAdd_1 (by omega)]
   cases sameM a.2.2[i] b.2.2[i]<;>rfl) (by
   unfold Zee
   simp only
   rw[iLt_n (by simp only[lLen_def];omega),cnd_f]) (0:Int) rfl]
  simp [e1,e3]
theorem eqAll_r {α:Type}{q:α->α->Bool}(h:∀a,q a a=true):∀l:List α,eqAll q l l=true
 | []=>rfl
 | a::l=>by simp only[eqAll,h a,eqAll_r h l,Bool.and_self]
theorem sameRw_r (a:Row):sameRw a a=true:=by simp [sameRw,sameC]
theorem sameM_r (a:Mark):sameM a a=true:=by simp [sameM]
theorem sameTab_r (t:Tab):sameTabB t t=true:=by simp [sameTabB,eqAll_r sameRw_r,eqAll_r sameM_r]
theorem law_TabsBent (x:List UInt8):Zgb x=some true:=by
 rw[Zgb]
 by_cases hx:x.length<=1048576
 case neg=>rw[big_y (by omega),bnd_s,cnd_t]
 obtain⟨t2,e2,h2⟩:=DrawTabOk_ok hx
 obtain⟨t3,k3,e3,h3⟩:=DrawRowAt_ok hx
 obtain⟨t4,k4,e4,h4⟩:=DrawMarkAt_ok hx
 obtain⟨t7,r7,e7,h7,g7⟩:=DrawApply_ok hx
 obtain⟨ta,tb,ea,ha,hb⟩:=DrawSameTab_ok hx
 obtain⟨tc,ec,hc⟩:=DrawRecsOf_ok hx
 have h2:=h2.mono (show 1000<=1048576 by omega)
 have h3:=h3.mono (show 1000<=1048576 by omega)
 have h4:=h4.mono (show 1000<=1048576 by omega)
 have h7:=h7.mono (show 1000<=1048576 by omega)
 have ha:=ha.mono (show 1000<=1048576 by omega)
 have hb:=hb.mono (show 1000<=1048576 by omega)
 have hc:=hc.mono (show 1000<=1048576 by omega)
 have g7:=g7.mono (show 100<=1048576 by omega)
 have hy:=applyT_sm h7 g7
 rw[big_n hx,bnd_s,cnd_f,e2,bnd_s,e3,bnd_s,e4,bnd_s,i_MarkAt h4.2.2,bnd_s,s_MarkAt h4.2.2,bnd_s,e7,bnd_s,i_Apply h7 g7,bnd_s,s_Apply h7 g7,bnd_s,ea,bnd_s,ec,bnd_s,iRecsOf_ok hc,bnd_s,sRecsOf_ok hc,bnd_s,iNe_r,cnd_f]
 obtain⟨hl,hm⟩:=recsT_sm hc
 have lp:loopX (Zfe (recsT tc) (recsT tc)) 0=some (Sum.inl ()):=by
  refine loop_exact (fun i=>(i:Int)) (recsT tc).length _ (fun i hi=>?_) ?_ _ rfl
  ·rw[Zfe]
   try simp only
   rw[iLt_y (by rw[lLen_def];omega),cnd_t,idx_at hi,bnd_s,bnd_s,sameRec_r,bnd_s,bNot_t,cnd_f,iAdd_1 (by omega)]
  ·rw[Zfe]
   try simp only
   rw[iLt_n (by rw[lLen_def];omega),cnd_f]
 rw[lp]
 rw[joinX_l,i_TabOk h2,bnd_s,s_TabOk h2,bnd_s,bEq_r,cnd_t,i_RowAt (by have:=h3.1;omega),bnd_s,s_RowAt (by have:=h3.1;omega),bnd_s,iEq_r,cnd_t,bEq_r,cnd_t]
 rw[show ∀l:List Int,zEq l l=true from fun l=>by simp [zEq],cnd_t,bEq_r,cnd_t,l_sameTab hy hy,bnd_s,sameTab_r,cnd_t,i_SameTab ha hb,bnd_s,l_sameTab ha hb,bnd_s,bEq_r]
end
end Go.Vs
