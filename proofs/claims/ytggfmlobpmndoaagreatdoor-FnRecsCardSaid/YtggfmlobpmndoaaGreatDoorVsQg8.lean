import Derived.Test.YtggfmlobpmndoaaGreatDoorVsW5
import Derived.Test.YtggfmlobpmndoaaGreatDoorVsQg7
set_option linter.all false
namespace Go.Vs
noncomputable section
theorem F_s_l9Any_eta (x:((List UInt8)×(Int×Int))):F_s_l9Any x=((bnd (F_s_l9Draw x) (fun z1=>(joinX (bnd (F_s_l1Below ((x.1,z1.2),14)) (fun z2=>(cnd (iEq z2.1 0) (bnd (F_s_l1Text (x.1,z2.2)) (fun z3=>(some (.inl (z3.2.1,(z3.2.2,(z3.1,(z1.1.2.1.1,(z1.1.2.1.2,(z1.1.2.2.1.1,(z1.1.2.2.1.2,z1.1.2.2.2))))))))))) (cnd (iEq z2.1 1) (bnd (F_s_l1Int ((x.1,z2.2),[0,1,2,3,4,(-1)])) (fun z3=>(some (.inl (z3.2.1,(z3.2.2,(z1.1.1,(z1.1.2.1.1,(z1.1.2.1.2,(z1.1.2.2.1.1,(z1.1.2.2.1.2,(z3.1,z1.1.2.2.2.2)))))))))))) (cnd (iEq z2.1 2) (some (.inl (z2.2.1,(z2.2.2,(z1.1.1,(z1.1.2.1.1,(z1.1.2.1.2,(z1.1.2.2.1.1,(z1.1.2.2.1.2,(z1.1.2.2.2.1,(bNot z1.1.2.2.2.2))))))))))) (cnd (iEq z2.1 3) (bnd (F_s_l8Any (x.1,z2.2)) (fun z3=>(some (.inl (z3.2.1,(z3.2.2,(z1.1.1,(z3.1.1,(z3.1.2,(z1.1.2.2.1.1,(z1.1.2.2.1.2,z1.1.2.2.2))))))))))) (cnd (iEq z2.1 4) (bnd (F_s_l8Any (x.1,z2.2)) (fun z3=>(some (.inl (z3.2.1,(z3.2.2,(z1.1.1,(z1.1.2.1.1,(z1.1.2.1.2,(z3.1.1,(z3.1.2,z1.1.2.2.2))))))))))) (cnd (iEq z2.1 5) (some (.inl (z2.2.1,(z2.2.2,(z1.1.1,(z1.1.2.1.1,([(u8 129)],(z1.1.2.2.1.1,(z1.1.2.2.1.2,z1.1.2.2.2))))))))) (some (.inl (z2.2.1,(z2.2.2,(z1.1.1,(z1.1.2.1.1,(z1.1.2.1.2,(z1.1.2.2.1.1,(z1.1.2.2.1.2,z1.1.2.2.2))))))))))))))))) (fun (z2:(Int×(Int×((List UInt8)×(Int×((List UInt8)×(Int×((List UInt8)×(Int×Bool)))))))))=>(some ((z2.2.2.1,((z2.2.2.2.1,z2.2.2.2.2.1),((z2.2.2.2.2.2.1,z2.2.2.2.2.2.2.1),z2.2.2.2.2.2.2.2))),(z2.1,z2.2.1)))))))):=rfl
theorem sameRow_r (r:Row):F_l_sameRow (r,r)=some true:=by
 unfold F_l_sameRow
 rw[sEq_r,cnd_t]
 simp only[show ∀ c:Cell,F_l_sameCell ((c.1,c.2),(c.1,c.2))=some true from fun c=>sameCell_r c,bnd_s,cnd_t,iEq_r,bEq_r]
theorem l9Any_ok {b:List UInt8}{s:Cs}(hb:B20 b) (hs:0<=s.1):∃ (r:Row) (s':Cs),F_s_l9Any (b,s)=some (r,s')/\smR 100 r/\0<=s'.1:=by
 rw[F_s_l9Any_eta]
 obtain⟨r,s1,e1,l1,k1⟩:=l9Draw_ok (s:=s) hb hs
 have l1:=ok_sm l1
 obtain⟨q1,q2,q3⟩:=l1
 simp only[e1,bnd_s]
 obtain⟨v2,s2,e2,l2,_,k2⟩:=l1Below_ok (s:=s1) 14 hb k1
 simp only[e2,bnd_s,iEq_x]
 by_cases c0:(v2:Int)=0
 ·rw[decide_eq_true c0,cnd_t]
  obtain⟨v,s3,e3,h3,k3⟩:=l1Text_ok (s:=s2) hb k2
  rw[e3,bnd_s,joinX_l]
  exact⟨_,_,rfl,⟨by simp only;omega,q2,q3⟩,k3⟩
 rw[decide_eq_false c0,cnd_f]
 by_cases c1:(v2:Int)=1
 ·rw[decide_eq_true c1,cnd_t]
  obtain⟨v,s3,e3,h3,k3⟩:=l1Int_ok (s:=s2) [0,1,2,3,4,-1] hb k2 (by simp)
  rw[e3,bnd_s,joinX_l]
  exact⟨_,_,rfl,⟨q1,q2,q3⟩,k3⟩
 rw[decide_eq_false c1,cnd_f]
 by_cases c2:(v2:Int)=2
 ·rw[decide_eq_true c2,cnd_t,joinX_l]
  exact⟨_,_,rfl,⟨q1,q2,q3⟩,k2⟩
 rw[decide_eq_false c2,cnd_f]
 by_cases c3:(v2:Int)=3
 ·rw[decide_eq_true c3,cnd_t]
  obtain⟨v,s3,e3,h3,k3⟩:=l8Any_ok (s:=s2) hb k2
  rw[e3,bnd_s,joinX_l]
  exact⟨_,_,rfl,⟨q1,h3,q3⟩,k3⟩
 rw[decide_eq_false c3,cnd_f]
 by_cases c4:(v2:Int)=4
 ·rw[decide_eq_true c4,cnd_t]
  obtain⟨v,s3,e3,h3,k3⟩:=l8Any_ok (s:=s2) hb k2
  rw[e3,bnd_s,joinX_l]
  exact⟨_,_,rfl,⟨q1,q2,h3⟩,k3⟩
 rw[decide_eq_false c4,cnd_f]
 by_cases c5:(v2:Int)=5
 ·rw[decide_eq_true c5,cnd_t,joinX_l]
  exact⟨_,_,rfl,⟨q1,by simp,q3⟩,k2⟩
 ·rw[decide_eq_false c5,cnd_f,joinX_l]
  exact⟨_,_,rfl,⟨q1,q2,q3⟩,k2⟩
end
end Go.Vs
