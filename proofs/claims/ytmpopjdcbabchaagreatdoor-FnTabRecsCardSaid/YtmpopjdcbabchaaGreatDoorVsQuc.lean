import Derived.Test.YtmpopjdcbabchaaGreatDoorVsW5
import Derived.Test.YtmpopjdcbabchaaGreatDoorVsQub
set_option linter.all false
namespace Go.Vs
noncomputable section
def sameC (a b:Cell):Bool:=decide (a.1=b.1)&&(a.2==b.2)
def sameRw (a b:Row):Bool:=(a.1==b.1)&&sameC a.2.1 b.2.1&&sameC a.2.2.1 b.2.2.1&&decide (a.2.2.2.1=b.2.2.2.1)&&(a.2.2.2.2==b.2.2.2.2)
def sameM (a b:Mark):Bool:=decide (a.1=b.1)&&decide (a.2.1=b.2.1)&&decide (a.2.2=b.2.2)
def sameTabB (a b:Tab):Bool:=decide (a.1.length=b.1.length)&&eqAll sameRw a.1 b.1&&decide (a.2.1=b.2.1)&&decide (a.2.2.length=b.2.2.length)&&eqAll sameM a.2.2 b.2.2
theorem iC_same {a b:Cell}:Zi (a,b)=some (sameC a b):=by
 unfold Zi sameC
 simp only[iEq_x,sEq_d]
 cases decide (a.1=b.1)<;>rfl
theorem iR_same {a b:Row}:Zt (a,b)=some (sameRw a b):=by
 have e1:Zi ((a.2.1.1,a.2.1.2),(b.2.1.1,b.2.1.2))=some (sameC a.2.1 b.2.1):=iC_same
 have e2:Zi ((a.2.2.1.1,a.2.2.1.2),(b.2.2.1.1,b.2.2.1.2))=some (sameC a.2.2.1 b.2.2.1):=iC_same
 unfold Zt sameRw
 simp only[iEq_x,sEq_d,e1,e2,bnd_s]
 cases (a.1==b.1)<;>cases sameC a.2.1 b.2.1<;>cases sameC a.2.2.1 b.2.2.1<;>cases decide (a.2.2.2.1=b.2.2.2.1)<;>rfl
theorem zEq_mark (a b:Mark):zEq [a.1,a.2.1,a.2.2] [b.1,b.2.1,b.2.2]=sameM a b:=by
 unfold zEq sameM
 rw[Bool.eq_iff_iff]
 simp [and_assoc]
theorem i_SameTab {a b:Tab}(ha:smT 1048576 a) (hb:smT 1048576 b):Zcq (a,b)=some (sameTabB a b):=by
 have h1:=ha.1
 have h2:=ha.2.2
 have e5:Zee (a.1,b.1)=some (decide (a.1.length=b.1.length)&&eqAll sameRw a.1 b.1):=by
  unfold Zee
  simp only
  by_cases e1:a.1.length=b.1.length
  case neg=>rw[iNe_y (by simp only[lLen_def];omega),cnd_t];simp [e1]
  rw[show iNe (lLen a.1) (lLen b.1)=false by simp only[lLen_def,e1,iNe_r],cnd_f]
  rw[same_loop (step:=Zed (a.1,b.1)) (fun i=>(i:Int)) a.1 b.1 sameRw false true e1 (fun i hi hi'=>by
   have e:Zt ((a.1[i].1,((a.1[i].2.1.1,a.1[i].2.1.2),((a.1[i].2.2.1.1,a.1[i].2.2.1.2),(a.1[i].2.2.2.1,a.1[i].2.2.2.2)))),(b.1[i].1,((b.1[i].2.1.1,b.1[i].2.1.2),((b.1[i].2.2.1.1,b.1[i].2.2.1.2),(b.1[i].2.2.2.1,b.1[i].2.2.2.2)))))=some (sameRw a.1[i] b.1[i]):=iR_same
   unfold Zed
   simp only
   rw[iLt_y (by simp only[lLen_def];omega),cnd_t,idx_at hi,bnd_s,idx_at hi',bnd_s,e,bnd_s,iAdd_1 (by omega)]
   cases sameRw a.1[i] b.1[i]<;>rfl) (by
   unfold Zed
   simp only
   rw[iLt_n (by simp only[lLen_def];omega),cnd_f]) (0:Int) rfl]
  simp [e1]
 have e6:Zeg (a.2.2,b.2.2)=some (decide (a.2.2.length=b.2.2.length)&&eqAll sameM a.2.2 b.2.2):=by
  unfold Zeg
  simp only
  by_cases e1:a.2.2.length=b.2.2.length
  case neg=>rw[iNe_y (by simp only[lLen_def];omega),cnd_t];simp [e1]
  rw[show iNe (lLen a.2.2) (lLen b.2.2)=false by simp only[lLen_def,e1,iNe_r],cnd_f]
  rw[same_loop (step:=Zef (a.2.2,b.2.2)) (fun i=>(i:Int)) a.2.2 b.2.2 sameM false true e1 (fun i hi hi'=>by
   unfold Zef
   simp only
   rw[iLt_y (by simp only[lLen_def];omega),cnd_t,idx_at hi,bnd_s,idx_at hi',bnd_s,zEq_mark,iAdd_1 (by omega)]
   cases sameM a.2.2[i] b.2.2[i]<;>rfl) (by
   unfold Zef
   simp only
   rw[iLt_n (by simp only[lLen_def];omega),cnd_f]) (0:Int) rfl]
  simp [e1]
 unfold Zcq sameTabB
 simp only[e5,e6,bnd_s,iEq_x]
 cases decide (a.1.length=b.1.length)<;>cases eqAll sameRw a.1 b.1<;>cases decide (a.2.1=b.2.1)<;>simp
def rowRec (r:Row):Rec:=(1,r,[],0,0,0,0)
def markRec (m:Mark):Rec:=(4,([],(0,[]),(0,[]),0,false),[],0,m.1,m.2.1,m.2.2)
def topRec (z:Int):Rec:=(3,([],(0,[]),(0,[]),0,false),[],z,0,0,0)
def recsT (t:Tab):List Rec:=topRec t.2.1::(t.1.map rowRec++t.2.2.map markRec)
theorem recsT_len (t:Tab):(recsT t).length=1+t.1.length+t.2.2.length:=by simp [recsT];omega
theorem recsT_sm {t:Tab}(h:smT 1048576 t):(recsT t).length<=4194304/\∀r∈recsT t,smC 1048576 r:=by
 refine⟨by rw[recsT_len];have:=h.1;have:=h.2.2;omega, ?_⟩
 intro r hr
 simp only[recsT,List.mem_cons,List.mem_append,List.mem_map]at hr
 rcases hr with rfl|⟨q,hq,rfl⟩|⟨q,hq,rfl⟩
 ·exact⟨⟨Nat.zero_le _,Nat.zero_le _,Nat.zero_le _⟩,Nat.zero_le _⟩
 ·exact⟨h.2.1 q hq,Nat.zero_le _⟩
 ·exact⟨⟨Nat.zero_le _,Nat.zero_le _,Nat.zero_le _⟩,Nat.zero_le _⟩
theorem iRecsOf_ok {t:Tab}(h:smT 1048576 t):Zec t=some (recsT t):=by
 have h1:=h.1
 have h2:=h.2.2
 unfold Zec
 rw[app_loop (x:=t.1) (f:=rowRec) (by
  intro l i hi hl
  simp only[List.length_cons,List.length_nil]at hl
  simp (disch:=first|omega|(simp only[lLen_def];omega)) only[Zex,iLt_y,cnd_t,idx_at,bnd_s,iCopyRow_ok (h.2.1 t.1[i] (List.getElem_mem hi)),room_ok,chk_t,iAdd_ok]
  rfl) (by
  intro l
  simp (disch:=first|omega|(simp only[lLen_def];omega)) only[Zex,iLt_n,cnd_f])]
 simp only[joinX_l]
 rw[app_loop (x:=t.2.2) (f:=markRec) (by
  intro l i hi hl
  simp only[List.length_append,List.length_map,List.length_cons,List.length_nil]at hl
  simp (disch:=first|omega|(simp only[lLen_def];omega)) only[Zey,iLt_y,cnd_t,idx_at,bnd_s,room_ok,chk_t,iAdd_ok]
  rfl) (by
  intro l
  simp (disch:=first|omega|(simp only[lLen_def];omega)) only[Zey,iLt_n,cnd_f])]
 simp only[joinX_l]
 rfl
theorem lC_same {a b:Cell}:Zcn (a,b)=some (sameC a b):=by
 unfold Zcn sameC
 simp only[iEq_x,sEq_d]
 cases decide (a.1=b.1)<;>rfl
theorem lR_same {a b:Row}:Zco (a,b)=some (sameRw a b):=by
 rw[Zco]
 unfold sameRw
 simp only[iEq_x,sEq_d,lC_same,bnd_s,bEq]
 cases (a.1==b.1)<;>cases sameC a.2.1 b.2.1<;>cases sameC a.2.2.1 b.2.2.1<;>cases decide (a.2.2.2.1=b.2.2.2.1)<;>rfl
theorem l_sameTab {a b:Tab}(ha:smT 1048576 a) (hb:smT 1048576 b):Zcp (a,b)=some (sameTabB a b):=by
 have h1:=ha.1
 have h2:=ha.2.2
 unfold Zcp sameTabB
 simp only
 by_cases e1:a.1.length=b.1.length
 case neg=>rw[iNe_y (by simp only[lLen_def];omega),cnd_t];simp [e1]
 rw[show iNe (lLen a.1) (lLen b.1)=false by simp only[lLen_def,e1,iNe_r],cnd_f]
 by_cases e2:a.2.1=b.2.1
 case neg=>rw[iNe_y e2,cnd_t];simp [e2]
 rw[e2,iNe_r,cnd_f]
 by_cases e3:a.2.2.length=b.2.2.length
 case neg=>rw[iNe_y (by simp only[lLen_def];omega),cnd_t];simp [e3]
 rw[show iNe (lLen a.2.2) (lLen b.2.2)=false by simp only[lLen_def,e3,iNe_r],cnd_f]
 rw[same_loop (step:=Zea (a,b)) (fun i=>(i:Int)) a.1 b.1 sameRw (.inr false) (.inl ()) e1 (fun i hi hi'=>by
  have e:Zco ((a.1[i].1,((a.1[i].2.1.1,a.1[i].2.1.2),((a.1[i].2.2.1.1,a.1[i].2.2.1.2),(a.1[i].2.2.2.1,a.1[i].2.2.2.2)))),(b.1[i].1,((b.1[i].2.1.1,b.1[i].2.1.2),((b.1[i].2.2.1.1,b.1[i].2.2.1.2),(b.1[i].2.2.2.1,b.1[i].2.2.2.2)))))=some (sameRw a.1[i] b.1[i]):=lR_same
  unfold Zea
  simp only
  rw[iLt_y (by simp only[lLen_def];omega),cnd_t,idx_at hi,bnd_s,idx_at hi',bnd_s,e,bnd_s,iAdd_1 (by omega)]
  cases sameRw a.1[i] b.1[i]<;>rfl) (by
  unfold Zea
  simp only
  rw[iLt_n (by simp only[lLen_def];omega),cnd_f]) (0:Int) rfl]
 cases hq:eqAll sameRw a.1 b.1 with
 | false=>simp only[Bool.false_eq_true,if_false];simp [e1,joinX]
 | true =>
  simp only[if_true,joinX_l]
  rw[same_loop (step:=Zeb (a,b)) (fun i=>(i:Int)) a.2.2 b.2.2 sameM false true e3 (fun i hi hi'=>by
   unfold Zeb
   simp only
   rw[iLt_y (by simp only[lLen_def];omega),cnd_t,idx_at hi,bnd_s,idx_at hi',bnd_s,zEq_mark,iAdd_1 (by omega)]
   cases sameM a.2.2[i] b.2.2[i]<;>rfl) (by
   unfold Zeb
   simp only
   rw[iLt_n (by simp only[lLen_def];omega),cnd_f]) (0:Int) rfl]
  simp [e1,e3]
theorem eqAll_r {α:Type}{q:α->α->Bool}(h:∀a,q a a=true):∀l:List α,eqAll q l l=true
 | []=>rfl
 | a::l=>by simp only[eqAll,h a,eqAll_r h l,Bool.and_self]
theorem sameRw_r (a:Row):sameRw a a=true:=by simp [sameRw,sameC]
theorem sameM_r (a:Mark):sameM a a=true:=by simp [sameM]
theorem sameTab_r (t:Tab):sameTabB t t=true:=by simp [sameTabB,eqAll_r sameRw_r,eqAll_r sameM_r]
end
end Go.Vs
