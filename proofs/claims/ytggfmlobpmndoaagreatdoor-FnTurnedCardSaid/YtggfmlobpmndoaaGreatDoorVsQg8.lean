import Derived.Test.YtggfmlobpmndoaaGreatDoorVsW5
import Derived.Test.YtggfmlobpmndoaaGreatDoorVsQg7
set_option linter.all false
namespace Go.Vs
noncomputable section
theorem F_s_DrawRow_eta (x:(List UInt8)):F_s_DrawRow x = ((bnd (F_s_l1New x) (fun (z1:Int) => (bnd (F_s_l9Draw (x,(0,z1))) (fun (z2:(((List UInt8) × ((Int × (List UInt8)) × ((Int × (List UInt8)) × (Int × Bool)))) × (Int × Int))) => (some z2.1)))))):=rfl
theorem F_s_l9Any_eta (x:((List UInt8) × (Int × Int))):F_s_l9Any x = ((bnd (F_s_l9Draw x) (fun (z1:(((List UInt8) × ((Int × (List UInt8)) × ((Int × (List UInt8)) × (Int × Bool)))) × (Int × Int))) => (joinX (bnd (F_s_l1Below ((x.1,z1.2),14)) (fun (z2:(Int × (Int × Int))) => (cnd (iEq z2.1 0) (bnd (F_s_l1Text (x.1,z2.2)) (fun (z3:((List UInt8) × (Int × Int))) => (some (.inl (z3.2.1,(z3.2.2,(z3.1,(z1.1.2.1.1,(z1.1.2.1.2,(z1.1.2.2.1.1,(z1.1.2.2.1.2,z1.1.2.2.2))))))))))) (cnd (iEq z2.1 1) (bnd (F_s_l1Int ((x.1,z2.2),[0,1,2,3,4,(-1)])) (fun (z3:(Int × (Int × Int))) => (some (.inl (z3.2.1,(z3.2.2,(z1.1.1,(z1.1.2.1.1,(z1.1.2.1.2,(z1.1.2.2.1.1,(z1.1.2.2.1.2,(z3.1,z1.1.2.2.2.2)))))))))))) (cnd (iEq z2.1 2) (some (.inl (z2.2.1,(z2.2.2,(z1.1.1,(z1.1.2.1.1,(z1.1.2.1.2,(z1.1.2.2.1.1,(z1.1.2.2.1.2,(z1.1.2.2.2.1,(bNot z1.1.2.2.2.2))))))))))) (cnd (iEq z2.1 3) (bnd (F_s_l8Any (x.1,z2.2)) (fun (z3:((Int × (List UInt8)) × (Int × Int))) => (some (.inl (z3.2.1,(z3.2.2,(z1.1.1,(z3.1.1,(z3.1.2,(z1.1.2.2.1.1,(z1.1.2.2.1.2,z1.1.2.2.2))))))))))) (cnd (iEq z2.1 4) (bnd (F_s_l8Any (x.1,z2.2)) (fun (z3:((Int × (List UInt8)) × (Int × Int))) => (some (.inl (z3.2.1,(z3.2.2,(z1.1.1,(z1.1.2.1.1,(z1.1.2.1.2,(z3.1.1,(z3.1.2,z1.1.2.2.2))))))))))) (cnd (iEq z2.1 5) (some (.inl (z2.2.1,(z2.2.2,(z1.1.1,(z1.1.2.1.1,([(u8 129)],(z1.1.2.2.1.1,(z1.1.2.2.1.2,z1.1.2.2.2))))))))) (some (.inl (z2.2.1,(z2.2.2,(z1.1.1,(z1.1.2.1.1,(z1.1.2.1.2,(z1.1.2.2.1.1,(z1.1.2.2.1.2,z1.1.2.2.2))))))))))))))))) (fun (z2:(Int × (Int × ((List UInt8) × (Int × ((List UInt8) × (Int × ((List UInt8) × (Int × Bool))))))))) => (some ((z2.2.2.1,((z2.2.2.2.1,z2.2.2.2.2.1),((z2.2.2.2.2.2.1,z2.2.2.2.2.2.2.1),z2.2.2.2.2.2.2.2))),(z2.1,z2.2.1)))))))):=rfl
theorem F_l_FnTurned_eta (x:(List UInt8)):F_l_FnTurned x = ((bnd (F_l_big x) (fun (z1:Bool) => (cnd z1 (some true) (bnd (F_s_DrawRow x) (fun (z2:((List UInt8) × ((Int × (List UInt8)) × ((Int × (List UInt8)) × (Int × Bool))))) => (bnd (F_i_FillRow z2) (fun (z3:((List UInt8) × ((Int × (List UInt8)) × ((Int × (List UInt8)) × (Int × Bool))))) => (bnd (F_i_CutRow z3) (fun (z4:((List UInt8) × ((Int × (List UInt8)) × ((Int × (List UInt8)) × (Int × Bool))))) => (bnd (F_i_BackRow z3) (fun (z5:((List UInt8) × ((Int × (List UInt8)) × ((Int × (List UInt8)) × (Int × Bool))))) => (bnd (F_s_DrawFillRow x) (fun (z6:((List UInt8) × ((Int × (List UInt8)) × ((Int × (List UInt8)) × (Int × Bool))))) => (bnd (F_s_DrawCutRow x) (fun (z7:((List UInt8) × ((Int × (List UInt8)) × ((Int × (List UInt8)) × (Int × Bool))))) => (bnd (F_s_DrawBackRow x) (fun (z8:((List UInt8) × ((Int × (List UInt8)) × ((Int × (List UInt8)) × (Int × Bool))))) => (bnd (F_s_DrawRowOk x) (fun (z9:((List UInt8) × ((Int × (List UInt8)) × ((Int × (List UInt8)) × (Int × Bool))))) => (bnd (F_s_DrawRowText x) (fun (z10:((List UInt8) × ((Int × (List UInt8)) × ((Int × (List UInt8)) × (Int × Bool))))) => (bnd (F_i_RowText z10) (fun (z11:((List UInt8) × Bool)) => (bnd (F_s_RowText z10) (fun (z12:((List UInt8) × Bool)) => (bnd (F_i_FillRow z6) (fun (z13:((List UInt8) × ((Int × (List UInt8)) × ((Int × (List UInt8)) × (Int × Bool))))) => (bnd (F_s_FillRow z6) (fun (z14:((List UInt8) × ((Int × (List UInt8)) × ((Int × (List UInt8)) × (Int × Bool))))) => (bnd (F_l_sameRow (z13,z14)) (fun (z15:Bool) => (cnd (bNot z15) (some false) (bnd (F_i_CutRow z7) (fun (z16:((List UInt8) × ((Int × (List UInt8)) × ((Int × (List UInt8)) × (Int × Bool))))) => (bnd (F_s_CutRow z7) (fun (z17:((List UInt8) × ((Int × (List UInt8)) × ((Int × (List UInt8)) × (Int × Bool))))) => (bnd (F_l_sameRow (z16,z17)) (fun (z18:Bool) => (cnd (bNot z18) (some false) (bnd (F_i_BackRow z8) (fun (z19:((List UInt8) × ((Int × (List UInt8)) × ((Int × (List UInt8)) × (Int × Bool))))) => (bnd (F_s_BackRow z8) (fun (z20:((List UInt8) × ((Int × (List UInt8)) × ((Int × (List UInt8)) × (Int × Bool))))) => (bnd (F_l_sameRow (z19,z20)) (fun (z21:Bool) => (cnd (bNot z21) (some false) (bnd (F_i_RowOk z9) (fun (z22:Bool) => (bnd (F_s_RowOk z9) (fun (z23:Bool) => (cnd (bNe z22 z23) (some false) (cnd (bNot (sEq z11.1 z12.1)) (some false) (cnd (bNe z11.2 z12.2) (some false) (cnd (iEq (iAnd .i64 z3.2.2.2.1 2) 2) (cnd (iEq z4.2.2.2.1 2) (cnd (iEq z5.2.2.2.1 1) (cnd (iNe z2.2.2.2.1 1) (some true) (cnd (iNe z3.2.2.2.1 3) (some true) (bnd (F_l_sameCell (z5.2.1,z2.2.1)) (fun (z24:Bool) => (some z24))))) (cnd z5.2.2.2.2 (cnd (iNe z2.2.2.2.1 1) (some true) (cnd (iNe z3.2.2.2.1 3) (some true) (bnd (F_l_sameCell (z5.2.1,z2.2.1)) (fun (z24:Bool) => (some z24))))) (some false))) (cnd z4.2.2.2.2 (cnd (iEq z5.2.2.2.1 1) (cnd (iNe z2.2.2.2.1 1) (some true) (cnd (iNe z3.2.2.2.1 3) (some true) (bnd (F_l_sameCell (z5.2.1,z2.2.1)) (fun (z24:Bool) => (some z24))))) (cnd z5.2.2.2.2 (cnd (iNe z2.2.2.2.1 1) (some true) (cnd (iNe z3.2.2.2.1 3) (some true) (bnd (F_l_sameCell (z5.2.1,z2.2.1)) (fun (z24:Bool) => (some z24))))) (some false))) (some false))) (cnd z3.2.2.2.2 (cnd (iEq z4.2.2.2.1 2) (cnd (iEq z5.2.2.2.1 1) (cnd (iNe z2.2.2.2.1 1) (some true) (cnd (iNe z3.2.2.2.1 3) (some true) (bnd (F_l_sameCell (z5.2.1,z2.2.1)) (fun (z24:Bool) => (some z24))))) (cnd z5.2.2.2.2 (cnd (iNe z2.2.2.2.1 1) (some true) (cnd (iNe z3.2.2.2.1 3) (some true) (bnd (F_l_sameCell (z5.2.1,z2.2.1)) (fun (z24:Bool) => (some z24))))) (some false))) (cnd z4.2.2.2.2 (cnd (iEq z5.2.2.2.1 1) (cnd (iNe z2.2.2.2.1 1) (some true) (cnd (iNe z3.2.2.2.1 3) (some true) (bnd (F_l_sameCell (z5.2.1,z2.2.1)) (fun (z24:Bool) => (some z24))))) (cnd z5.2.2.2.2 (cnd (iNe z2.2.2.2.1 1) (some true) (cnd (iNe z3.2.2.2.1 3) (some true) (bnd (F_l_sameCell (z5.2.1,z2.2.1)) (fun (z24:Bool) => (some z24))))) (some false))) (some false))) (some false))))))))))))))))))))))))))))))))))))))))))))))))))))))))):=rfl
theorem F_s_DrawFillRow_eta (x:(List UInt8)):F_s_DrawFillRow x = ((bnd (F_s_l1New x) (fun (z1:Int) => (bnd (F_s_l9Any (x,(0,z1))) (fun (z2:(((List UInt8) × ((Int × (List UInt8)) × ((Int × (List UInt8)) × (Int × Bool)))) × (Int × Int))) => (some z2.1)))))):=rfl
theorem F_s_DrawCutRow_eta (x:(List UInt8)):F_s_DrawCutRow x = ((bnd (F_s_l1New x) (fun (z1:Int) => (bnd (F_s_l9Any (x,(0,z1))) (fun (z2:(((List UInt8) × ((Int × (List UInt8)) × ((Int × (List UInt8)) × (Int × Bool)))) × (Int × Int))) => (some z2.1)))))):=rfl
theorem F_s_DrawBackRow_eta (x:(List UInt8)):F_s_DrawBackRow x = ((bnd (F_s_l1New x) (fun (z1:Int) => (bnd (F_s_l9Any (x,(0,z1))) (fun (z2:(((List UInt8) × ((Int × (List UInt8)) × ((Int × (List UInt8)) × (Int × Bool)))) × (Int × Int))) => (some z2.1)))))):=rfl
theorem F_s_DrawRowOk_eta (x:(List UInt8)):F_s_DrawRowOk x = ((bnd (F_s_l1New x) (fun (z1:Int) => (bnd (F_s_l9Any (x,(0,z1))) (fun (z2:(((List UInt8) × ((Int × (List UInt8)) × ((Int × (List UInt8)) × (Int × Bool)))) × (Int × Int))) => (some z2.1)))))):=rfl
theorem F_s_DrawRowText_eta (x:(List UInt8)):F_s_DrawRowText x = ((bnd (F_s_l1New x) (fun (z1:Int) => (bnd (F_s_l9Any (x,(0,z1))) (fun (z2:(((List UInt8) × ((Int × (List UInt8)) × ((Int × (List UInt8)) × (Int × Bool)))) × (Int × Int))) => (some z2.1)))))):=rfl
theorem sameRow_r (r:Row):F_l_sameRow (r,r) = some true:=by
 unfold F_l_sameRow
 rw [sEq_r,cnd_t]
 simp only [show ∀ c:Cell,F_l_sameCell ((c.1,c.2),(c.1,c.2)) = some true from fun c => sameCell_r c,bnd_s,cnd_t,iEq_r,bEq_r]
theorem DrawRow_ok {x:List UInt8} (hx:B20 x):∃ r:Row,F_s_DrawRow x = some r ∧ rowOk r = true:=by
 obtain ⟨h,e0⟩:=l1New_ok hx
 obtain ⟨r,s1,e1,m1,k1⟩:=l9Draw_ok (s:=(0,h)) hx (Int.le_refl _)
 exact ⟨r,by rw [F_s_DrawRow_eta,e0,bnd_s,e1,bnd_s],m1⟩
theorem l9Any_ok {b:List UInt8} {s:Cs} (hb:B20 b) (hs:0 ≤ s.1):∃ (r:Row) (s':Cs),F_s_l9Any (b,s) = some (r,s') ∧ smR 100 r ∧ 0 ≤ s'.1:=by
 rw [F_s_l9Any_eta]
 obtain ⟨r,s1,e1,l1,k1⟩:=l9Draw_ok (s:=s) hb hs
 have l1:=ok_sm l1
 obtain ⟨q1,q2,q3⟩:=l1
 simp only [e1,bnd_s]
 obtain ⟨v2,s2,e2,l2,_,k2⟩:=l1Below_ok (s:=s1) 14 hb k1
 simp only [e2,bnd_s,iEq_x]
 by_cases c0:(v2:Int) = 0
 ·rw [decide_eq_true c0,cnd_t]
  obtain ⟨v,s3,e3,h3,k3⟩:=l1Text_ok (s:=s2) hb k2
  rw [e3,bnd_s,joinX_l]
  exact ⟨_,_,rfl,⟨by simp only;omega,q2,q3⟩,k3⟩
 rw [decide_eq_false c0,cnd_f]
 by_cases c1:(v2:Int) = 1
 ·rw [decide_eq_true c1,cnd_t]
  obtain ⟨v,s3,e3,h3,k3⟩:=l1Int_ok (s:=s2) [0,1,2,3,4,-1] hb k2 (by simp)
  rw [e3,bnd_s,joinX_l]
  exact ⟨_,_,rfl,⟨q1,q2,q3⟩,k3⟩
 rw [decide_eq_false c1,cnd_f]
 by_cases c2:(v2:Int) = 2
 ·rw [decide_eq_true c2,cnd_t,joinX_l]
  exact ⟨_,_,rfl,⟨q1,q2,q3⟩,k2⟩
 rw [decide_eq_false c2,cnd_f]
 by_cases c3:(v2:Int) = 3
 ·rw [decide_eq_true c3,cnd_t]
  obtain ⟨v,s3,e3,h3,k3⟩:=l8Any_ok (s:=s2) hb k2
  rw [e3,bnd_s,joinX_l]
  exact ⟨_,_,rfl,⟨q1,h3,q3⟩,k3⟩
 rw [decide_eq_false c3,cnd_f]
 by_cases c4:(v2:Int) = 4
 ·rw [decide_eq_true c4,cnd_t]
  obtain ⟨v,s3,e3,h3,k3⟩:=l8Any_ok (s:=s2) hb k2
  rw [e3,bnd_s,joinX_l]
  exact ⟨_,_,rfl,⟨q1,q2,h3⟩,k3⟩
 rw [decide_eq_false c4,cnd_f]
 by_cases c5:(v2:Int) = 5
 ·rw [decide_eq_true c5,cnd_t,joinX_l]
  exact ⟨_,_,rfl,⟨q1,by simp,q3⟩,k2⟩
 ·rw [decide_eq_false c5,cnd_f,joinX_l]
  exact ⟨_,_,rfl,⟨q1,q2,q3⟩,k2⟩
theorem law_Turned {x:List UInt8} (hx:x.length ≤ 9223372036854775807):F_l_FnTurned x = some true:=by
 rw [F_l_FnTurned_eta]
 by_cases hb:1048576 < x.length
 ·rw [big_y hb];rfl
 have hx:B20 x:=by unfold B20;omega
 rw [big_n (by unfold B20 at hx;omega),bnd_s,cnd_f]
 obtain ⟨r,e1,hr⟩:=DrawRow_ok hx
 obtain ⟨h,e0⟩:=l1New_ok hx
 obtain ⟨a,s2,e2,ha,k2⟩:=l9Any_ok (s:=(0,h)) hx (Int.le_refl _)
 have ha:smR 1048576 a:=ha.mono (by omega)
 have a1:F_s_DrawFillRow x = some a:=by rw [F_s_DrawFillRow_eta,e0,bnd_s,e2,bnd_s]
 have a2:F_s_DrawCutRow x = some a:=by rw [F_s_DrawCutRow_eta,e0,bnd_s,e2,bnd_s]
 have a3:F_s_DrawBackRow x = some a:=by rw [F_s_DrawBackRow_eta,e0,bnd_s,e2,bnd_s]
 have a4:F_s_DrawRowOk x = some a:=by rw [F_s_DrawRowOk_eta,e0,bnd_s,e2,bnd_s]
 have a5:F_s_DrawRowText x = some a:=by rw [F_s_DrawRowText_eta,e0,bnd_s,e2,bnd_s]
 have q1:=ok_smB hr
 have hs:SaysR r.1 (rowText r) r:=⟨hr,rfl,rfl⟩
 have q2:=ok_smB (says_fill hs).ok
 have hk:=ha.1
 rw [e1,bnd_s,i_FillRow q1,bnd_s,i_CutRow q2,bnd_s,i_BackRow q2,bnd_s,a1,bnd_s,a2,bnd_s,a3,bnd_s,a4,bnd_s,a5,bnd_s,i_RowText,bnd_s,s_RowText,bnd_s,i_FillRow ha,bnd_s,s_FillRow ha,bnd_s,sameRow_r,bnd_s,bNot_t,cnd_f,i_CutRow ha,bnd_s,s_CutRow ha,bnd_s,sameRow_r,bnd_s,bNot_t,cnd_f,i_BackRow ha,bnd_s,s_BackRow ha,bnd_s,sameRow_r,bnd_s,bNot_t,cnd_f,i_RowOk (by omega),bnd_s,s_RowOk (by omega),bnd_s,bNe_r,cnd_f,sEq_r,bNot_t,cnd_f,bNe_r,cnd_f]
 have hf:=(says_fill hs).ok
 clear e1 a1 a2 a3 a4 a5 q1 q2 hs
 obtain ⟨k,o,n,has,aside⟩:=r
 obtain ⟨_,l1,l2,_⟩:=rowOk_has hr
 simp only at l1 l2
 have i1:iEq (iAnd .i64 1 2) 2 = false:=by decide +kernel
 have i2:iEq (iAnd .i64 2 2) 2 = true:=by decide +kernel
 have i3:iEq (iAnd .i64 3 2) 2 = true:=by decide +kernel
 rcases (show has = 1 ∨ has = 2 ∨ has = 3 by omega) with rfl | rfl | rfl
 ·rcases turn_z (c:=o) with ⟨d,hd,rfl⟩ | ⟨d,u,hd,hu,hv,hz⟩
  ·have e:fillRow (k,d,n,1,aside) = (k,d,n,1,true):=by unfold fillRow;simp only;rw [if_pos ⟨hr,trivial⟩,hd]
   rw [e] at hf ⊢
   have ec:cutRow (k,d,n,1,true) = (k,d,n,1,true):=by unfold cutRow;rw [if_neg (fun h => h.2 rfl)]
   have eb:backRow (k,d,n,1,true) = (k,d,n,1,true):=by unfold backRow;rw [if_pos hf,if_neg (fun h => by cases h),if_neg (fun h => by cases h)]
   rw [ec,eb]
   simp only [i1]
   rfl
  ·have e:fillRow (k,o,n,1,aside) = (k,o,d,3,aside):=by unfold fillRow;simp only;rw [if_pos ⟨hr,trivial⟩,hd]
   rw [e] at hf ⊢
   have ec:cutRow (k,o,d,3,aside) = (k,zCell,d,2,false):=by unfold cutRow;rw [if_pos ⟨hf,fun h => by cases h⟩]
   have eb:backRow (k,o,d,3,aside) = (k,o,zCell,1,false):=by unfold backRow;rw [if_pos hf,if_pos rfl]
   rw [ec,eb]
   simp only [i3,sameCell_r]
   rfl
 ·have e:fillRow (k,o,n,2,aside) = (k,o,n,2,aside):=by unfold fillRow;rw [if_neg (fun h => by cases h.2)]
  rw [e]
  have ec:cutRow (k,o,n,2,aside) = (k,zCell,n,2,false):=by unfold cutRow;rw [if_pos ⟨hr,fun h => by cases h⟩]
  have eb:backRow (k,o,n,2,aside) = (k,o,n,2,true):=by unfold backRow;rw [if_pos hr,if_neg (fun h => by cases h),if_pos rfl]
  rw [ec,eb]
  simp only [i2]
  rfl
 ·have e:fillRow (k,o,n,3,aside) = (k,o,n,3,aside):=by unfold fillRow;rw [if_neg (fun h => by cases h.2)]
  rw [e]
  have ec:cutRow (k,o,n,3,aside) = (k,zCell,n,2,false):=by unfold cutRow;rw [if_pos ⟨hr,fun h => by cases h⟩]
  have eb:backRow (k,o,n,3,aside) = (k,o,zCell,1,false):=by unfold backRow;rw [if_pos hr,if_pos rfl]
  rw [ec,eb]
  simp only [i3]
  rfl
end
end Go.Vs
