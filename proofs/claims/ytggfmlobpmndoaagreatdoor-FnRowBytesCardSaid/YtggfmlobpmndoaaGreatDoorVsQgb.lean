import Derived.Test.YtggfmlobpmndoaaGreatDoorVsW5
import Derived.Test.YtggfmlobpmndoaaGreatDoorVsQga
set_option linter.all false
namespace Go.Vs
noncomputable section
def zRow:Row:=([],((0,[]),((0,[]),(0,false))))
def getRowAt (l:List UInt8) (a:Int):Row × Int × Bool:=match pRow (suf l a) with
 | none => (zRow,(0,false))
 | some (r,q) => (r,((l.length:Int) - q.length,true))
theorem pRow_some {t q:List UInt8} {r:Row} (h:pRow0 t = some (r,q)):pRow t = if rowOk r = true then some (r,q) else none:=by
 unfold pRow;rw [h]
theorem pRow_none {t:List UInt8} (h:pRow0 t = none):pRow t = none:=by
 unfold pRow;rw [h]
theorem suf_out {l:List UInt8} {a:Int} (h:¬ (0 ≤ a ∧ a ≤ l.length)):suf l a = []:=by
 by_cases h0:a < 0
 ·exact suf_neg h0
 ·obtain ⟨k,rfl⟩:=Int.eq_ofNat_of_zero_le (show 0 ≤ a by omega)
  rw [suf_n];exact List.drop_eq_nil_of_le (by omega)
theorem Rd.of {l:List UInt8} {a:Int} (h:0 ≤ a ∧ a ≤ l.length):Rd l a (suf l a):=⟨h.1,h.2,rfl⟩
theorem pRow_len {t q:List UInt8} {r:Row} (h:pRow0 t = some (r,q)):r.1.length ≤ 60:=by
 unfold pRow0 at h
 split at h
 ·cases h
 ·rename_i hk
  have:=(textB_of hk).2
  repeat (first | (split at h;· cases h) | split at h)
  all_goals first | (cases h;done) | (simp only [Option.some.injEq,Prod.mk.injEq] at h;obtain ⟨rfl,rfl⟩:=h;exact this)
theorem s_GetRow {l:List UInt8} {a:Int} (hl:l.length ≤ 1048576000):F_s_GetRow (l,a) = some (getRowAt l a):=by
 unfold F_s_GetRow getRowAt
 by_cases h0:a < 0
 ·rw [iLt_y h0,cnd_t]
  simp only [s_rowB hl,bnd_s,cnd_t,suf_neg h0];rfl
 rw [iLt_n (by omega),cnd_f]
 by_cases h1:a ≤ l.length
 ·have hr:=s_row hl (Rd.of (l:=l) (a:=a) ⟨by omega,h1⟩)
  simp only [iGt_n (show a ≤ lLen l by simp only [lLen_def];omega)]
  cases hp:pRow0 (suf l a) with
  | none =>
   rw [hp] at hr
   obtain ⟨v,b,e⟩:=hr
   simp only [e,bnd_s,cnd_t,pRow_none hp];rfl
  | some w =>
   obtain ⟨r,q⟩:=w
   rw [hp] at hr
   obtain ⟨b,e,rd⟩:=hr
   have hb:=rd.len
   have hk:=pRow_len hp
   have e2:F_s_RowOk (r.1,((r.2.1.1,r.2.1.2),((r.2.2.1.1,r.2.2.1.2),(r.2.2.2.1,r.2.2.2.2)))) = some (rowOk r):=s_RowOk (r:=r) (by omega)
   simp only [e,bnd_s,cnd_f,e2,pRow_some hp]
   cases hok:rowOk r with
   | false => rfl
   | true =>
    rw [bNot_t,cnd_f,if_pos rfl,show b = (l.length:Int) - q.length by omega]
 ·simp only [iGt_y (show lLen l < a by simp only [lLen_def];omega),s_rowB hl,bnd_s,cnd_t,suf_out (l:=l) (a:=a) (by omega)];rfl
theorem i_GetRow {l:List UInt8} {a:Int} (hl:l.length ≤ 1048576000):F_i_GetRow (l,a) = some (getRowAt l a):=by
 unfold F_i_GetRow getRowAt
 by_cases h1:0 ≤ a ∧ a ≤ l.length
 ·have hr:=i_row hl (Rd.of (l:=l) (a:=a) h1)
  cases hp:pRow (suf l a) with
  | none =>
   rw [hp] at hr
   obtain ⟨v,b,e⟩:=hr
   simp only [e,bnd_s,cnd_t];rfl
  | some w =>
   obtain ⟨r,q⟩:=w
   rw [hp] at hr
   obtain ⟨b,e,rd⟩:=hr
   have hb:=rd.len
   simp only [e,bnd_s,cnd_f]
   rw [show b = (l.length:Int) - q.length by omega]
 ·have hs:=suf_out h1
  have e1:F_i_scan_text (l,(a,false)) = some ([],(a,true)):=by
   unfold F_i_scan_text;simp only [i_GetText hl,hs,bnd_s];rfl
  have e2:F_i_scan_row (l,(a,false)) = some (zRow,(a,true)):=by
   unfold F_i_scan_row
   simp only [e1,bnd_s,i_oneB,bits0,cnd_f,joinX_l,cnd_t];rfl
  simp only [e2,bnd_s,cnd_t,hs];rfl
theorem F_l_FnRowBytes_eta (x:(List UInt8)):F_l_FnRowBytes x = ((bnd (F_l_big x) (fun (z1:Bool) => (cnd z1 (some true) (bnd (F_s_DrawPutRow x) (fun (z2:((List UInt8) × ((List UInt8) × ((Int × (List UInt8)) × ((Int × (List UInt8)) × (Int × Bool)))))) => (bnd (F_i_PutRow z2) (fun (z3:(List UInt8)) => (bnd (F_s_DrawGetRow x) (fun (z4:((List UInt8) × Int)) => (bnd (F_i_GetRow z4) (fun (z5:(((List UInt8) × ((Int × (List UInt8)) × ((Int × (List UInt8)) × (Int × Bool)))) × (Int × Bool))) => (bnd (F_s_GetRow z4) (fun (z6:(((List UInt8) × ((Int × (List UInt8)) × ((Int × (List UInt8)) × (Int × Bool)))) × (Int × Bool))) => (cnd (bNe z5.2.2 z6.2.2) (some false) (cnd z5.2.2 (bnd (F_i_PutRow ([],z5.1)) (fun (z7:(List UInt8)) => (chk (within z4.2 z5.2.1 (lLen z4.1)) (chk (fits (nOf z4.2) ((nOf z5.2.1) - (nOf z4.2)) z4.1.length) (cnd (bNot (sEq z7 (lTake ((nOf z5.2.1) - (nOf z4.2)) (lDrop (nOf z4.2) z4.1)))) (some false) (bnd (F_i_RowOk z5.1) (fun (z8:Bool) => (cnd (bNot z8) (some false) (bnd (F_i_RowOk z2.2) (fun (z9:Bool) => (cnd (bNot z9) (some (sEq z3 z2.1)) (bnd (F_i_GetRow (z3,(lLen z2.1))) (fun (z10:(((List UInt8) × ((Int × (List UInt8)) × ((Int × (List UInt8)) × (Int × Bool)))) × (Int × Bool))) => (cnd z10.2.2 (bnd (F_l_sameRow (z10.1,z2.2)) (fun (z11:Bool) => (cnd z11 (some (iEq z10.2.1 (lLen z3))) (some false)))) (some false))))))))))))))) (bnd (F_i_RowOk z2.2) (fun (z7:Bool) => (cnd (bNot z7) (some (sEq z3 z2.1)) (bnd (F_i_GetRow (z3,(lLen z2.1))) (fun (z8:(((List UInt8) × ((Int × (List UInt8)) × ((Int × (List UInt8)) × (Int × Bool)))) × (Int × Bool))) => (cnd z8.2.2 (bnd (F_l_sameRow (z8.1,z2.2)) (fun (z9:Bool) => (cnd z9 (some (iEq z8.2.1 (lLen z3))) (some false)))) (some false))))))))))))))))))))))):=rfl
theorem F_s_DrawPutRow_eta (x:(List UInt8)):F_s_DrawPutRow x = ((bnd (F_s_l1New x) (fun (z1:Int) => (bnd (F_s_l1Below ((x,(0,z1)),3)) (fun (z2:(Int × (Int × Int))) => (bnd (F_s_l1Bytes ((x,z2.2),z2.1)) (fun (z3:((List UInt8) × (Int × Int))) => (bnd (F_s_l9Any (x,z3.2)) (fun (z4:(((List UInt8) × ((Int × (List UInt8)) × ((Int × (List UInt8)) × (Int × Bool)))) × (Int × Int))) => (some (z3.1,z4.1))))))))))):=rfl
theorem F_s_DrawGetRow_eta (x:(List UInt8)):F_s_DrawGetRow x = ((bnd (F_s_l1New x) (fun (z1:Int) => (bnd (F_s_l9Draw (x,(0,z1))) (fun (z2:(((List UInt8) × ((Int × (List UInt8)) × ((Int × (List UInt8)) × (Int × Bool)))) × (Int × Int))) => (bnd (F_s_PutRow ([],z2.1)) (fun (z3:(List UInt8)) => (bnd (F_s_l1Bend ((x,z2.2),z3)) (fun (z4:((List UInt8) × (Int × Int))) => (bnd (F_s_l1At ((x,z4.2),z4.1)) (fun (z5:(Int × (Int × Int))) => (some (z4.1,z5.1))))))))))))):=rfl
theorem F_s_l1At_eta (x:(((List UInt8) × (Int × Int)) × (List UInt8))):F_s_l1At x = ((bnd (F_s_l1Int (x.1,[0,0,0,1,2,(lLen x.2),(iSub .i64 (lLen x.2) 1),(-1),9223372036854775807])) (fun (z1:(Int × (Int × Int))) => (some z1)))):=rfl
theorem l1At_ok {b l:List UInt8} {s:Cs} (hb:B20 b) (hs:0 ≤ s.1):∃ (v:Int) (s':Cs),F_s_l1At ((b,s),l) = some (v,s') ∧ 0 ≤ s'.1:=by
 rw [F_s_l1At_eta]
 obtain ⟨v,s',e,_,k⟩:=l1Int_ok (s:=s) [0,0,0,1,2,(lLen l),(iSub .i64 (lLen l) 1),(-1),9223372036854775807] hb hs (by simp)
 simp only
 rw [e,bnd_s]
 exact ⟨_,_,rfl,k⟩
theorem getRowAt_put {l:List UInt8} {r:Row} (h:rowOk r = true):getRowAt (l ++ rowB r) (l.length:Int) = (r,((l ++ rowB r).length:Int),true):=by
 unfold getRowAt
 rw [suf_n,List.drop_left]
 have:=pRow_put h []
 rw [List.append_nil] at this
 rw [this]
 simp
theorem getRowAt_of {l:List UInt8} {a:Int} {r:Row} {e:Int} (h:getRowAt l a = (r,e,true)):∃ k j:Nat,a = (k:Int) ∧ e = (j:Int) ∧ k ≤ j ∧ j ≤ l.length ∧ (l.drop k).take (j - k) = rowB r ∧ rowOk r = true:=by
 unfold getRowAt at h
 cases hp:pRow (suf l a) with
 | none => rw [hp] at h;cases h
 | some w =>
  obtain ⟨r',q⟩:=w
  rw [hp] at h
  simp only [Prod.mk.injEq,and_true] at h
  obtain ⟨rfl,rfl⟩:=h
  obtain ⟨h1,h2⟩:=rowB_of hp
  have ha:0 ≤ a ∧ a ≤ l.length:=by
   by_cases h3:0 ≤ a ∧ a ≤ l.length
   ·exact h3
   ·rw [suf_out h3] at h1
    have hl:=congrArg List.length h1
    simp only [List.length_nil,List.length_append] at hl
    have:1 ≤ (rowB r').length:=by unfold rowB;simp only [List.length_append,List.length_cons];omega
    omega
  obtain ⟨k,rfl⟩:=Int.eq_ofNat_of_zero_le ha.1
  rw [suf_n] at h1
  have hl:=congrArg List.length h1
  simp only [List.length_drop,List.length_append] at hl
  refine ⟨k,l.length - q.length,rfl,by omega,by omega,by omega, ?_,h2⟩
  rw [h1,show l.length - q.length - k = (rowB r').length by omega,List.take_left]
theorem law_RowBytes {x:List UInt8} (hx:x.length ≤ 9223372036854775807):F_l_FnRowBytes x = some true:=by
 rw [F_l_FnRowBytes_eta]
 by_cases hb:1048576 < x.length
 ·rw [big_y hb];rfl
 have hx:B20 x:=by unfold B20;omega
 rw [big_n (by unfold B20 at hx;omega),bnd_s,cnd_f]
 obtain ⟨h,e0⟩:=l1New_ok hx
 obtain ⟨b,r,a1,hbl,hr⟩:∃ (b:List UInt8) (r:Row),F_s_DrawPutRow x = some (b,r) ∧ b.length ≤ 3 ∧ smR 100 r:=by
  rw [F_s_DrawPutRow_eta,e0,bnd_s]
  obtain ⟨v1,s1,e1,l1,_,k1⟩:=l1Below_ok (s:=(0,h)) 3 hx (Int.le_refl _)
  have l1:=l1 (by omega)
  rw [e1,bnd_s]
  obtain ⟨y,s2,e2,l2,k2⟩:=l1Bytes_ok (s:=s1) v1 hx k1 (by omega)
  simp only [e2,bnd_s]
  obtain ⟨r,s3,e3,l3,k3⟩:=l9Any_ok (s:=s2) hx k2
  rw [e3,bnd_s]
  exact ⟨_,_,rfl,by omega,l3⟩
 obtain ⟨c,i,a2,hc⟩:∃ (c:List UInt8) (i:Int),F_s_DrawGetRow x = some (c,i) ∧ c.length ≤ 1000:=by
  rw [F_s_DrawGetRow_eta,e0,bnd_s]
  obtain ⟨r',s1,e1,l1,k1⟩:=l9Draw_ok (s:=(0,h)) hx (Int.le_refl _)
  rw [e1,bnd_s,s_PutRow (by simp) (ok_smB l1),bnd_s]
  have hl:(putRow [] r').length ≤ 190:=by unfold putRow;rw [if_pos l1];exact rowB_len r'
  obtain ⟨v,s2,e2,l2,k2⟩:=l1Bend_ok (s:=s1) (l:=putRow [] r') hx k1 (by omega)
  simp only [e2,bnd_s]
  obtain ⟨v3,s3,e3,k3⟩:=l1At_ok (s:=s2) (l:=v) hx k2
  rw [e3,bnd_s]
  exact ⟨_,_,rfl,by omega⟩
 have hr:smR 1048576 r:=hr.mono (by omega)
 have hk:=hr.1
 rw [a1,bnd_s,i_PutRow (by omega) hr,bnd_s,a2,bnd_s,i_GetRow (by omega),bnd_s,s_GetRow (by omega),bnd_s,bNe_r,cnd_f]
 have fin:(bnd (F_i_RowOk r) (fun (z7:Bool) => (cnd (bNot z7) (some (sEq (putRow b r) b)) (bnd (F_i_GetRow ((putRow b r),(lLen b))) (fun (z8:(Row × (Int × Bool))) => (cnd z8.2.2 (bnd (F_l_sameRow (z8.1,r)) (fun (z9:Bool) => (cnd z9 (some (iEq z8.2.1 (lLen (putRow b r)))) (some false)))) (some false))))))) = some true:=by
  rw [i_RowOk (by omega),bnd_s]
  cases hok:rowOk r with
  | false =>
   have:putRow b r = b:=by unfold putRow;rw [if_neg (by rw [hok];decide)]
   rw [this,bNot_f,cnd_t,sEq_r]
  | true =>
   have e:putRow b r = b ++ rowB r:=by unfold putRow;rw [if_pos hok]
   have hl:=rowB_len r
   rw [bNot_t,cnd_f,e,i_GetRow (by simp only [List.length_append];omega),bnd_s,lLen_def,getRowAt_put hok]
   simp only [cnd_t]
   rw [sameRow_r,bnd_s,cnd_t,lLen_def,iEq_r]
 cases hg:getRowAt c i with
 | mk y w =>
  obtain ⟨e,is⟩:=w
  cases is with
  | false => simp only [cnd_f];exact fin
  | true =>
   obtain ⟨k,j,rfl,rfl,h1,h2,h3,h4⟩:=getRowAt_of hg
   have hy:=ok_smB h4
   have hyk:=hy.1
   simp only [cnd_t]
   rw [i_PutRow (by simp) hy,bnd_s,show within (k:Int) (j:Int) (lLen c) = true from decide_eq_true (by simp only [lLen_def];omega),chk_t,show fits (nOf (k:Int)) (nOf (j:Int) - nOf (k:Int)) c.length = true from decide_eq_true (by simp only [nOf_n];omega),chk_t]
   have:putRow [] y = lTake (nOf (j:Int) - nOf (k:Int)) (lDrop (nOf (k:Int)) c):=by
    unfold putRow;rw [if_pos h4,List.nil_append]
    simp only [nOf_n,lTake,lDrop]
    exact h3.symm
   rw [← this,sEq_r,bNot_t,cnd_f,i_RowOk (by omega),bnd_s,h4,bNot_t,cnd_f]
   exact fin
end
end Go.Vs
