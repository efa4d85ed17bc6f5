import Derived.Test.YtgleokjlebkdcaaDoorVsW5
import Derived.Test.YtgleokjlebkdcaaDoorVsQe8
set_option linter.all false
namespace Go.Vs
noncomputable section
theorem F_s_DrawRow_eta (x:(List UInt8)):F_s_DrawRow x = ((bnd (F_s_l1New x) (fun (z1:Int) => (bnd (F_s_l9Draw (x,(0,z1))) (fun (z2:(((List UInt8) × ((Int × (List UInt8)) × ((Int × (List UInt8)) × (Int × Bool)))) × (Int × Int))) => (some z2.1)))))):=rfl
theorem F_s_DrawRowOf_eta (x:(List UInt8)):F_s_DrawRowOf x = ((bnd (F_s_l1New x) (fun (z1:Int) => (bnd (F_s_l3Any (x,(0,z1))) (fun (z2:(Int × (Int × Int))) => (bnd (F_s_l1Name (x,z2.2)) (fun (z3:((List UInt8) × (Int × Int))) => (joinX (bnd (F_s_l1Once ((x,z3.2),8)) (fun (z4:(Bool × (Int × Int))) => (cnd z4.1 (bnd (F_s_l1Text (x,z4.2)) (fun (z5:((List UInt8) × (Int × Int))) => (some (.inl z5)))) (some (.inl (z3.1,z4.2)))))) (fun (z4:((List UInt8) × (Int × Int))) => (bnd (F_s_l1Int ((x,z4.2),[z2.1,z2.1,0])) (fun (z5:(Int × (Int × Int))) => (bnd (F_s_l5Text ((x,z5.2),(z5.1,6))) (fun (z6:((List UInt8) × (Int × Int))) => (joinX (bnd (F_s_l1Once ((x,z6.2),6)) (fun (z7:(Bool × (Int × Int))) => (cnd z7.1 (bnd (F_s_l2Bent (x,z7.2)) (fun (z8:((List UInt8) × (Int × Int))) => (some (.inl z8)))) (some (.inl (z6.1,z7.2)))))) (fun (z7:((List UInt8) × (Int × Int))) => (bnd (F_s_l1Below ((x,z7.2),10)) (fun (z8:(Int × (Int × Int))) => (some ((iSub .i64 z8.1 1),(z4.1,(z2.1,z7.1))))))))))))))))))))):=rfl
theorem F_l_FnRows_eta (x:(List UInt8)):F_l_FnRows x = ((bnd (F_l_big x) (fun (z1:Bool) => (cnd z1 (some true) (bnd (F_s_DrawRowOf x) (fun (z2:(Int × ((List UInt8) × (Int × (List UInt8))))) => (bnd (F_i_RowOf z2) (fun (z3:(((List UInt8) × ((Int × (List UInt8)) × ((Int × (List UInt8)) × (Int × Bool)))) × Int)) => (bnd (F_s_RowOf z2) (fun (z4:(((List UInt8) × ((Int × (List UInt8)) × ((Int × (List UInt8)) × (Int × Bool)))) × Int)) => (cnd (iNe z3.2 z4.2) (some false) (bnd (F_l_sameRow (z3.1,z4.1)) (fun (z5:Bool) => (cnd (bNot z5) (some false) (joinX (cnd (iEq z3.2 0) (bnd (F_i_RowText z3.1) (fun (z6:((List UInt8) × Bool)) => (cnd (bNot z6.2) (some (.inr false)) (cnd (bNot (sEq z6.1 z2.2.2.2)) (some (.inr false)) (bnd (F_i_RowOk z3.1) (fun (z7:Bool) => (cnd (bNot z7) (some (.inr false)) (cnd (bNot (sEq z3.1.1 z2.2.1)) (some (.inr false)) (some (.inl ())))))))))) (some (.inl ()))) (fun (z6:Unit) => (bnd (F_s_DrawRow x) (fun (z7:((List UInt8) × ((Int × (List UInt8)) × ((Int × (List UInt8)) × (Int × Bool))))) => (bnd (F_i_RowText z7) (fun (z8:((List UInt8) × Bool)) => (bnd (F_i_FillRow z7) (fun (z9:((List UInt8) × ((Int × (List UInt8)) × ((Int × (List UInt8)) × (Int × Bool))))) => (bnd (F_i_CutRow z7) (fun (z10:((List UInt8) × ((Int × (List UInt8)) × ((Int × (List UInt8)) × (Int × Bool))))) => (bnd (F_i_BackRow z7) (fun (z11:((List UInt8) × ((Int × (List UInt8)) × ((Int × (List UInt8)) × (Int × Bool))))) => (bnd (F_i_FillRow z7) (fun (z12:((List UInt8) × ((Int × (List UInt8)) × ((Int × (List UInt8)) × (Int × Bool))))) => (bnd (F_i_CutRow z12) (fun (z13:((List UInt8) × ((Int × (List UInt8)) × ((Int × (List UInt8)) × (Int × Bool))))) => (bnd (F_i_FillRow z7) (fun (z14:((List UInt8) × ((Int × (List UInt8)) × ((Int × (List UInt8)) × (Int × Bool))))) => (bnd (F_i_BackRow z14) (fun (z15:((List UInt8) × ((Int × (List UInt8)) × ((Int × (List UInt8)) × (Int × Bool))))) => (joinX (loopX (S_l_FnRows_0 z7 z8 z9 z10 z11 z13 z15) 0) (fun (z16:Unit) => (bnd (F_i_RowOk z7) (fun (z17:Bool) => (cnd z17 (bnd (idx [z9,z10,z11,z13,z15] 0) (fun (z18:((List UInt8) × ((Int × (List UInt8)) × ((Int × (List UInt8)) × (Int × Bool))))) => (bnd (F_i_FillRow z18) (fun (z19:((List UInt8) × ((Int × (List UInt8)) × ((Int × (List UInt8)) × (Int × Bool))))) => (bnd (idx [z9,z10,z11,z13,z15] 0) (fun (z20:((List UInt8) × ((Int × (List UInt8)) × ((Int × (List UInt8)) × (Int × Bool))))) => (bnd (F_l_sameRow (z19,z20)) (fun (z21:Bool) => (cnd z21 (bnd (idx [z9,z10,z11,z13,z15] 1) (fun (z22:((List UInt8) × ((Int × (List UInt8)) × ((Int × (List UInt8)) × (Int × Bool))))) => (bnd (F_i_CutRow z22) (fun (z23:((List UInt8) × ((Int × (List UInt8)) × ((Int × (List UInt8)) × (Int × Bool))))) => (bnd (idx [z9,z10,z11,z13,z15] 1) (fun (z24:((List UInt8) × ((Int × (List UInt8)) × ((Int × (List UInt8)) × (Int × Bool))))) => (bnd (F_l_sameRow (z23,z24)) (fun (z25:Bool) => (cnd z25 (bnd (idx [z9,z10,z11,z13,z15] 2) (fun (z26:((List UInt8) × ((Int × (List UInt8)) × ((Int × (List UInt8)) × (Int × Bool))))) => (bnd (F_i_BackRow z26) (fun (z27:((List UInt8) × ((Int × (List UInt8)) × ((Int × (List UInt8)) × (Int × Bool))))) => (bnd (idx [z9,z10,z11,z13,z15] 2) (fun (z28:((List UInt8) × ((Int × (List UInt8)) × ((Int × (List UInt8)) × (Int × Bool))))) => (bnd (F_l_sameRow (z27,z28)) (fun (z29:Bool) => (some z29))))))))) (some false)))))))))) (some false)))))))))) (some false)))))))))))))))))))))))))))))))))))))))):=rfl
theorem S_l_FnRows_0_eta (z7:((List UInt8) × ((Int × (List UInt8)) × ((Int × (List UInt8)) × (Int × Bool))))) (z8:((List UInt8) × Bool)) (z9:((List UInt8) × ((Int × (List UInt8)) × ((Int × (List UInt8)) × (Int × Bool))))) (z10:((List UInt8) × ((Int × (List UInt8)) × ((Int × (List UInt8)) × (Int × Bool))))) (z11:((List UInt8) × ((Int × (List UInt8)) × ((Int × (List UInt8)) × (Int × Bool))))) (z13:((List UInt8) × ((Int × (List UInt8)) × ((Int × (List UInt8)) × (Int × Bool))))) (z15:((List UInt8) × ((Int × (List UInt8)) × ((Int × (List UInt8)) × (Int × Bool))))):S_l_FnRows_0 z7 z8 z9 z10 z11 z13 z15 = (fun (z16:Int) => (cnd (iLt z16 (lLen [z9,z10,z11,z13,z15])) (bnd (idx [z9,z10,z11,z13,z15] z16) (fun (z17:((List UInt8) × ((Int × (List UInt8)) × ((Int × (List UInt8)) × (Int × Bool))))) => (bnd (F_i_RowText z17) (fun (z18:((List UInt8) × Bool)) => (bnd (idx [z9,z10,z11,z13,z15] z16) (fun (z19:((List UInt8) × ((Int × (List UInt8)) × ((Int × (List UInt8)) × (Int × Bool))))) => (bnd (F_i_RowOk z19) (fun (z20:Bool) => (cnd (bNot z20) (some (.inr (.inr false))) (cnd (bNot (sEq z18.1 z8.1)) (some (.inr (.inr false))) (cnd (bNe z18.2 z8.2) (some (.inr (.inr false))) (bnd (idx [z9,z10,z11,z13,z15] z16) (fun (z21:((List UInt8) × ((Int × (List UInt8)) × ((Int × (List UInt8)) × (Int × Bool))))) => (cnd (bNot (sEq z21.1 z7.1)) (some (.inr (.inr false))) (some (.inl (iAdd .i64 z16 1))))))))))))))))) (some (.inr (.inl ()))))):=rfl
theorem sameRow_r (r:Row):F_l_sameRow (r,r) = some true:=by
 unfold F_l_sameRow
 rw [sEq_r,cnd_t]
 simp only [show ∀ c:Cell,F_l_sameCell ((c.1,c.2),(c.1,c.2)) = some true from fun c => sameCell_r c,bnd_s,cnd_t,iEq_r,bEq_r]
theorem DrawRow_ok {x:List UInt8} (hx:B20 x):∃ r:Row,F_s_DrawRow x = some r ∧ rowOk r = true:=by
 obtain ⟨h,e0⟩:=l1New_ok hx
 obtain ⟨r,s1,e1,m1,k1⟩:=l9Draw_ok (s:=(0,h)) hx (Int.le_refl _)
 exact ⟨r,by rw [F_s_DrawRow_eta,e0,bnd_s,e1,bnd_s],m1⟩
theorem DrawRowOf_ok {x:List UInt8} (hx:B20 x):∃ (p:Int) (key:List UInt8) (cs:Int) (t:List UInt8),F_s_DrawRowOf x = some (p,key,cs,t) ∧ key.length ≤ 7 ∧ t.length ≤ 1000:=by
 obtain ⟨h,e0⟩:=l1New_ok hx
 rw [F_s_DrawRowOf_eta,e0,bnd_s]
 obtain ⟨cs,s1,e1,_,k1⟩:=l3Any_ok (s:=(0,h)) hx (Int.le_refl _)
 rw [e1,bnd_s]
 obtain ⟨name,s2,e2,l2,k2⟩:=l1Name_ok (s:=s1) hx k1
 simp only [e2,bnd_s]
 obtain ⟨t4,s4,e4,k4⟩:=l1Once_ok (s:=s2) 8 hx k2
 simp only [e4,bnd_s]
 have fin:∀ (key:List UInt8) (s5:Cs),key.length ≤ 7 → 0 ≤ s5.1 → ∃ (p:Int) (key':List UInt8) (cs':Int) (t:List UInt8),(bnd (F_s_l1Int ((x,s5),[cs,cs,0])) (fun (z5:(Int × (Int × Int))) => (bnd (F_s_l5Text ((x,z5.2),(z5.1,6))) (fun (z6:((List UInt8) × (Int × Int))) => (joinX (bnd (F_s_l1Once ((x,z6.2),6)) (fun (z7:(Bool × (Int × Int))) => (cnd z7.1 (bnd (F_s_l2Bent (x,z7.2)) (fun (z8:((List UInt8) × (Int × Int))) => (some (.inl z8)))) (some (.inl (z6.1,z7.2)))))) (fun (z7:((List UInt8) × (Int × Int))) => (bnd (F_s_l1Below ((x,z7.2),10)) (fun (z8:(Int × (Int × Int))) => (some ((iSub .i64 z8.1 1),(key,(cs,z7.1)))))))))))) = some (p,key',cs',t) ∧ key'.length ≤ 7 ∧ t.length ≤ 1000:=by
  intro key s5 hk h5
  obtain ⟨v5,s6,e6,_,k6⟩:=l1Int_ok (s:=s5) [cs,cs,0] hx h5 (by simp)
  rw [e6,bnd_s]
  obtain ⟨ns,s7,e7,l7,_,k7⟩:=l5Text_ok (s:=s6) v5 6 hx k6 (by omega)
  have hl:=textOf_len ns
  simp only [show ((6:Nat):Int) = 6 from rfl] at e7
  rw [e7,bnd_s]
  obtain ⟨t8,s8,e8,k8⟩:=l1Once_ok (s:=s7) 6 hx k7
  simp only [e8,bnd_s]
  have fin2:∀ (t:List UInt8) (s9:Cs),t.length ≤ 1000 → 0 ≤ s9.1 → ∃ (p:Int) (key':List UInt8) (cs':Int) (t':List UInt8),(bnd (F_s_l1Below ((x,s9),10)) (fun (z8:(Int × (Int × Int))) => (some ((iSub .i64 z8.1 1),(key,(cs,t)))))) = some (p,key',cs',t') ∧ key'.length ≤ 7 ∧ t'.length ≤ 1000:=by
   intro t s9 ht h9
   obtain ⟨v,s',e,_,_,k⟩:=l1Below_ok (s:=s9) 10 hx h9
   rw [e,bnd_s]
   exact ⟨_,_,_,_,rfl,hk,ht⟩
  cases t8 with
  | true =>
   obtain ⟨w,s9,e9,h9,k9⟩:=l2Bent_ok (s:=s8) hx k8
   rw [cnd_t,e9,bnd_s,joinX_l]
   exact fin2 w s9 (by omega) k9
  | false =>
   rw [cnd_f,joinX_l]
   exact fin2 (textOf ns) s8 (by omega) k8
 cases t4 with
 | true =>
  obtain ⟨w,s5,e5,h5,k5⟩:=l1Text_ok (s:=s4) hx k4
  rw [cnd_t,e5,bnd_s,joinX_l]
  exact fin w s5 h5 k5
 | false =>
  rw [cnd_f,joinX_l]
  exact fin name s4 (by have:=(nameOk_len l2).2;omega) k4
theorem rows_loop {d a b c e f:Row} {t:Option (List UInt8)} (h1:SaysR d.1 t a) (h2:SaysR d.1 t b) (h3:SaysR d.1 t c) (h4:SaysR d.1 t e) (h5:SaysR d.1 t f):loopX (S_l_FnRows_0 d (optR t) a b c e f) 0 = some (Sum.inl ()):=by
 have hall:∀ r ∈ [a,b,c,e,f],SaysR d.1 t r:=by
  intro r hr
  simp only [List.mem_cons,List.mem_nil_iff,or_false] at hr
  rcases hr with rfl | rfl | rfl | rfl | rfl <;> assumption
 rw [S_l_FnRows_0_eta]
 generalize hL:[a,b,c,e,f] = L at hall
 have h5:L.length = 5:=by rw [← hL];rfl
 refine loop_exact (fun i => (i:Int)) 5 (Sum.inl ()) (fun i hi => ?_) ?_ 0 rfl
 ·have hi:i < L.length:=by omega
  obtain ⟨g1,g2,g3⟩:=hall _ (List.getElem_mem hi)
  have hk:=(ok_smB g1).1
  rw [iLt_y (by rw [lLen_def];omega),cnd_t,idx_at hi,bnd_s,i_RowText,bnd_s,bnd_s,i_RowOk (by omega),bnd_s,g1,bNot_t,cnd_f,g2,sEq_r,bNot_t,cnd_f,bNe_r,cnd_f,bnd_s,g3,sEq_r,bNot_t,cnd_f,iAdd_1 (by omega)]
 ·rw [iLt_n (by rw [lLen_def];omega),cnd_f]
theorem law_Rows {x:List UInt8} (hx:x.length ≤ 9223372036854775807):F_l_FnRows x = some true:=by
 rw [F_l_FnRows_eta]
 by_cases hb:1048576 < x.length
 ·rw [big_y hb];rfl
 have hx:B20 x:=by unfold B20;omega
 rw [big_n (by unfold B20 at hx;omega),bnd_s,cnd_f]
 obtain ⟨p,key,cs,t,e1,l1,l2⟩:=DrawRowOf_ok hx
 rw [e1,bnd_s,i_RowOf (by omega) (by omega),bnd_s,s_RowOf (by omega) (by omega),bnd_s,iNe_r,cnd_f,sameRow_r,bnd_s,bNot_t,cnd_f]
 have mid:∀ (k:Unit → Option Bool),(joinX (cnd (iEq (rowOf p key cs t).2 0) (bnd (F_i_RowText (rowOf p key cs t).1) (fun (z6:((List UInt8) × Bool)) => (cnd (bNot z6.2) (some (.inr false)) (cnd (bNot (sEq z6.1 t)) (some (.inr false)) (bnd (F_i_RowOk (rowOf p key cs t).1) (fun (z7:Bool) => (cnd (bNot z7) (some (.inr false)) (cnd (bNot (sEq (rowOf p key cs t).1.1 key)) (some (.inr false)) (some (.inl ())))))))))) (some (.inl ()))) k) = k ():=by
  intro k
  rw [iEq_x]
  by_cases hg:(rowOf p key cs t).2 = 0
  ·obtain ⟨g1,g2,g3⟩:=rowOf_ok hg
   have hk:=(ok_smB g1).1
   rw [decide_eq_true hg,cnd_t,i_RowText,bnd_s,g2,i_RowOk (by omega),g1,g3]
   simp only [optR,bNot_t,cnd_f,sEq_r,bnd_s,joinX_l]
  ·rw [decide_eq_false hg,cnd_f,joinX_l]
 rw [mid]
 obtain ⟨d,e2,hd⟩:=DrawRow_ok hx
 have hs:SaysR d.1 (rowText d) d:=⟨hd,rfl,rfl⟩
 have hf:=says_fill hs
 have hk:=(ok_smB hd).1
 have q1:=ok_smB hd
 have q2:=ok_smB hf.ok
 rw [e2,bnd_s,i_RowText,bnd_s,i_FillRow q1,bnd_s,i_CutRow q1,bnd_s,i_BackRow q1,bnd_s,bnd_s,i_CutRow q2,bnd_s,bnd_s,i_BackRow q2,bnd_s,rows_loop hf (says_cut hs) (says_back hs) (says_cut hf) (says_back hf),joinX_l,i_RowOk (by omega),hd,bnd_s,cnd_t]
 rw [show idx [fillRow d,cutRow d,backRow d,cutRow (fillRow d),backRow (fillRow d)] 0 = some (fillRow d) from rfl,show idx [fillRow d,cutRow d,backRow d,cutRow (fillRow d),backRow (fillRow d)] 1 = some (cutRow d) from rfl,show idx [fillRow d,cutRow d,backRow d,cutRow (fillRow d),backRow (fillRow d)] 2 = some (backRow d) from rfl]
 rw [bnd_s,i_FillRow q2,bnd_s,bnd_s,fill_fill,sameRow_r,bnd_s,cnd_t]
 rw [bnd_s,i_CutRow (ok_smB (says_cut hs).ok),bnd_s,bnd_s,cut_cut,sameRow_r,bnd_s,cnd_t]
 rw [bnd_s,i_BackRow (ok_smB (says_back hs).ok),bnd_s,bnd_s,back_back,sameRow_r,bnd_s]
end
end Go.Vs
