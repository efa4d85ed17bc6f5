import Derived.Test.YtmpopjdcbabchaaGreatDoorVsW5
import Derived.Test.YtmpopjdcbabchaaGreatDoorVsQub
set_option linter.all false
namespace Go.Vs
noncomputable section
def sameC (a b:Cell):Bool:=decide (a.1=b.1)&&(a.2==b.2)
def sameRw (a b:Row):Bool:=(a.1==b.1)&&sameC a.2.1 b.2.1&&sameC a.2.2.1 b.2.2.1&&decide (a.2.2.2.1=b.2.2.2.1)&&(a.2.2.2.2==b.2.2.2.2)
def sameM (a b:Mark):Bool:=decide (a.1=b.1)&&decide (a.2.1=b.2.1)&&decide (a.2.2=b.2.2)
def sameTabB (a b:Tab):Bool:=decide (a.1.length=b.1.length)&&eqAll sameRw a.1 b.1&&decide (a.2.1=b.2.1)&&decide (a.2.2.length=b.2.2.length)&&eqAll sameM a.2.2 b.2.2
theorem zEq_mark (a b:Mark):zEq [a.1,a.2.1,a.2.2] [b.1,b.2.1,b.2.2]=sameM a b:=by
 unfold zEq sameM
 rw[Bool.eq_iff_iff]
 simp [and_assoc]
theorem lC_same {a b:Cell}:Zco (a,b)=some (sameC a b):=by
 unfold Zco sameC
 simp only[iEq_x,sEq_d]
 cases decide (a.1=b.1)<;>rfl
theorem lR_same {a b:Row}:Zi (a,b)=some (sameRw a b):=by
 rw[Zi]
 unfold sameRw
 simp only[iEq_x,sEq_d,lC_same,bnd_s,bEq]
 cases (a.1==b.1)<;>cases sameC a.2.1 b.2.1<;>cases sameC a.2.2.1 b.2.2.1<;>cases decide (a.2.2.2.1=b.2.2.2.1)<;>rfl
theorem l_sameTab {a b:Tab}(ha:smT 1048576 a) (hb:smT 1048576 b):Zbd (a,b)=some (sameTabB a b):=by
 have h1:=ha.1
 have h2:=ha.2.2
 unfold Zbd sameTabB
 simp only
 by_cases e1:a.1.length=b.1.length
 case neg=>rw[iNe_y (by simp only[lLen_def];omega),cnd_t];simp [e1]
 rw[show iNe (lLen a.1) (lLen b.1)=false by simp only[lLen_def,e1,iNe_r],cnd_f]
 by_cases e2:a.2.1=b.2.1
 case neg=>rw[iNe_y e2,cnd_t];simp [e2]
 rw[e2,iNe_r,cnd_f]
 by_cases e3:a.2.2.length=b.2.2.length
 case neg=>rw[iNe_y (by simp only[lLen_def];omega),cnd_t];simp [e3]
 rw[show iNe (lLen a.2.2) (lLen b.2.2)=false by simp only[lLen_def,e3,iNe_r],cnd_f]
 rw[same_loop (step:=Zea (a,b)) (fun i=>(i:Int)) a.1 b.1 sameRw (.inr false) (.inl ()) e1 (fun i hi hi'=>by
  have e:Zi ((a.1[i].1,((a.1[i].2.1.1,a.1[i].2.1.2),((a.1[i].2.2.1.1,a.1[i].2.2.1.2),(a.1[i].2.2.2.1,a.1[i].2.2.2.2)))),(b.1[i].1,((b.1[i].2.1.1,b.1[i].2.1.2),((b.1[i].2.2.1.1,b.1[i].2.2.1.2),(b.1[i].2.2.2.1,b.1[i].2.2.2.2)))))=some (sameRw a.1[i] b.1[i]):=lR_same
  unfold Zea
  simp only
  rw[iLt_y (by simp only[lLen_def];omega),cnd_t,idx_at hi,bnd_s,idx_at hi',bnd_s,e,bnd_s,iAdd_1 (by omega)]
  cases sameRw a.1[i] b.1[i]<;>rfl) (by
  unfold Zea
  simp only
  rw[iLt_n (by simp only[lLen_def];omega),cnd_f]) (0:Int) rfl]
 cases hq:eqAll sameRw a.1 b.1 with
 | false=>simp only[Bool.false_eq_true,if_false];simp [e1,joinX]
 | true =>
  simp only[if_true,joinX_l]
  rw[same_loop (step:=Zeb (a,b)) (fun i=>(i:Int)) a.2.2 b.2.2 sameM false true e3 (fun i hi hi'=>by
   unfold Zeb
   simp only
   rw[iLt_y (by simp only[lLen_def];omega),cnd_t,idx_at hi,bnd_s,idx_at hi',bnd_s,zEq_mark,iAdd_1 (by omega)]
   cases sameM a.2.2[i] b.2.2[i]<;>rfl) (by
   unfold Zeb
   simp only
   rw[iLt_n (by simp only[lLen_def];omega),cnd_f]) (0:Int) rfl]
  simp [e1,e3]
theorem eqAll_r {α:Type}{q:α->α->Bool}(h:∀a,q a a=true):∀l:List α,eqAll q l l=true
 | []=>rfl
 | a::l=>by simp only[eqAll,h a,eqAll_r h l,Bool.and_self]
theorem sameRw_r (a:Row):sameRw a a=true:=by simp [sameRw,sameC]
theorem sameM_r (a:Mark):sameM a a=true:=by simp [sameM]
theorem sameTab_r (t:Tab):sameTabB t t=true:=by simp [sameTabB,eqAll_r sameRw_r,eqAll_r sameM_r]
end
end Go.Vs
