import Derived.Test.YtmpopjdcbabchaaGreatDoorVsW5
import Derived.Test.YtmpopjdcbabchaaGreatDoorVsQua
set_option linter.all false
namespace Go.Vs
noncomputable section
theorem tabOk_sm {t:Tab}(h:tabOk t=true):smT 100 t:=by
 obtain⟨o1,o2,o3,o4,o5,o6⟩:=tabOk_has h
 exact⟨by omega,fun r hr=>by obtain⟨i,hi,rfl⟩:=List.getElem_of_mem hr;exact ok_sm (chain_at o1 hi),by omega⟩
theorem applyT_ok {t:Tab}{r:Rec}(h:tabOk t=true):tabOk (applyT t r).1=true:=by
 unfold applyT
 split
 ·rename_i h1
  simp only[Bool.and_eq_true]at h1
  exact h1.2.2
 ·exact h
theorem l12Draw_ok {b : List UInt8} {s : Cs} (m : Int) (hm : 0 ≤ m ∧ m ≤ 100) (hb : B20 b) (hs : 0 ≤ s.1) : ∃ (t : Tab) (s' : Cs), Zdp ((b, s), m) = some (t, s') ∧ tabOk t = true ∧ 0 ≤ s'.1 := by
  rw [Zdp]
  simp only
  rw [iAdd_ok (by omega) (by omega)]
  obtain ⟨v, s1, e1, b1, _, k1⟩ := l1Below_ok (s := s) (m + 1) hb hs
  have b1 := b1 (by omega)
  rw [e1, bnd_s]
  obtain ⟨o, q1, t, c, rfl, q2, q3⟩ := loop_inv (step := Zdo ((b, s), m)) (fun n z => ∃ (t : Tab) (c : Cs), z = (c.1, (c.2, (t.1, (t.2.1, (t.2.2, ((v : Int) - (n : Int))))))) ∧ tabOk t = true ∧ 0 ≤ c.1) v (fun o => ∃ (t : Tab) (c : Cs), o = .inl (c.1, (c.2, (t.1, (t.2.1, t.2.2)))) ∧ tabOk t = true ∧ 0 ≤ c.1)
    (fun n z hn hz => by
      obtain ⟨t, c, rfl, ht, hc⟩ := hz
      rw [Zdo]
      simp only
      rw [iGt_y (by omega), cnd_t]
      obtain ⟨r, c2, e2, r1, r2, k2⟩ := l11Draw_ok (s := c) hb hc
      rw [show Zbf (b, (c.1, c.2)) = _ from e2, bnd_s]
      have ea := s_Apply (t := t) (r := r) ((tabOk_sm ht).mono (by omega)) (r1.mono (by omega))
      rw [show Zbr ((t.1, (t.2.1, t.2.2)), r) = _ from ea, bnd_s, iSub_ok (by omega) (by omega), show ((v : Int) - (n : Int)) - 1 = (v : Int) - ((n + 1 : Nat) : Int) by omega]
      exact .inl ⟨_, rfl, (applyT t r).1, c2, rfl, applyT_ok ht, k2⟩)
    (fun z hz => by
      obtain ⟨t, c, rfl, ht, hc⟩ := hz
      rw [Zdo]
      simp only
      rw [iGt_n (by omega), cnd_f]
      exact ⟨_, rfl, t, c, rfl, ht, hc⟩)
    (s1.1, (s1.2, ([], (0, ([], (v : Int)))))) ⟨([], 0, []), s1, by simp, rfl, k1⟩
  simp only [q1, joinX_l]
  exact ⟨t, c, rfl, q2, q3⟩
theorem l12Any_ok {b : List UInt8} {s : Cs} (m : Int) (hm : 0 ≤ m ∧ m ≤ 100) (hb : B20 b) (hs : 0 ≤ s.1) : ∃ (t : Tab) (s' : Cs), Zn ((b, s), m) = some (t, s') ∧ smT 1000 t ∧ 0 ≤ s'.1 := by
  rw [Zn]
  obtain ⟨t, s1, e1, t0, k1⟩ := l12Draw_ok (s := s) m hm hb hs
  obtain ⟨t1, t2, t3⟩ := tabOk_sm t0
  rw [e1, bnd_s]
  simp only
  obtain ⟨v2, s2, e2, _, _, k2⟩ := l1Below_ok (s := s1) 10 hb k1
  simp only [e2, bnd_s, iEq_x]
  by_cases c0 : (v2 : Int) = 0
  · rw [decide_eq_true c0, cnd_t]
    obtain ⟨r, s3, e3, h3, k3⟩ := l9Any_ok (s := s2) hb k2
    rw [e3, bnd_s, room_ok (by omega), chk_t, joinX_l]
    refine ⟨_, _, rfl, ⟨by simp [lApp]; omega, fun x hx => ?_, by simp only; omega⟩, k3⟩
    rcases List.mem_append.1 hx with hx | hx
    · exact (t2 x hx).mono (by omega)
    · rw [List.mem_singleton] at hx; subst hx; exact h3.mono (by omega)
  rw [decide_eq_false c0, cnd_f]
  by_cases c1 : (v2 : Int) = 1
  · rw [decide_eq_true c1, cnd_t]
    obtain ⟨v, s3, e3, h3, k3⟩ := l1Int_ok (s := s2) [(-1), 7, 8] hb k2 (by simp)
    rw [e3, bnd_s, joinX_l]
    exact ⟨_, _, rfl, ⟨by simp only; omega, fun x hx => (t2 x hx).mono (by omega), by simp only; omega⟩, k3⟩
  rw [decide_eq_false c1, cnd_f]
  by_cases c2 : (v2 : Int) = 2
  · rw [decide_eq_true c2, cnd_t]
    obtain ⟨v, s3, e3, h3, k3⟩ := l1Int_ok (s := s2) [0, 1, 9, 10] hb k2 (by simp)
    obtain ⟨w, s4, e4, k4⟩ := l1Num_ok (s := s3) hb k3
    obtain ⟨u, s5, e5, h5, k5⟩ := l1Int_ok (s := s4) [0, 6, 7] hb k4 (by simp)
    have r1 : room (t.2.2.length + 1) 24 = true := room_ok (by omega)
    simp only [e3, e4, e5, bnd_s, r1, chk_t, alt2_self, joinX_l]
    exact ⟨_, _, rfl, ⟨by simp only; omega, fun x hx => (t2 x hx).mono (by omega), by simp [lApp]; omega⟩, k5⟩
  rw [decide_eq_false c2, cnd_f]
  by_cases c3 : (v2 : Int) = 3
  · rw [decide_eq_true c3, cnd_t]
    obtain ⟨o, q1, l, rfl, q2, q3⟩ := loop_inv (step := Zet (t, s1) ((v2 : Int), s2)) (fun n z => ∃ l : List Row, z = (l, (n : Int)) ∧ l.length ≤ 100 + n ∧ ∀ x ∈ l, smR 100 x) 7 (fun o => ∃ l : List Row, o = .inl (s2.1, (s2.2, (l, t.2))) ∧ l.length ≤ 107 ∧ ∀ x ∈ l, smR 100 x)
      (fun n z hn hz => by
        obtain ⟨l, rfl, h1, h2⟩ := hz
        rw [Zet]
        simp only
        rw [iLt_y (by omega), cnd_t, small_ok (by simp), chk_t, room_ok (by omega), chk_t, iAdd_1 (by omega)]
        refine .inl ⟨_, rfl, _, rfl, by simp [lApp]; omega, fun x hx => ?_⟩
        rcases List.mem_append.1 hx with hx | hx
        · exact h2 x hx
        · rw [List.mem_singleton] at hx; subst hx; exact ⟨by simp [lApp], by simp, by simp⟩)
      (fun z hz => by
        obtain ⟨l, rfl, h1, h2⟩ := hz
        rw [Zet]
        simp only
        rw [iLt_n (by omega), cnd_f]
        exact ⟨_, rfl, l, rfl, h1, h2⟩)
      (t.1, 0) ⟨t.1, rfl, by omega, t2⟩
    rw [q1, joinX_l]
    exact ⟨_, _, rfl, ⟨by simp only; omega, fun x hx => (q3 x hx).mono (by omega), by simp only; omega⟩, k2⟩
  · rw [decide_eq_false c3, cnd_f, joinX_l]
    exact ⟨_, _, rfl, ⟨by simp only; omega, fun x hx => (t2 x hx).mono (by omega), by simp only; omega⟩, k2⟩
theorem DrawTabOk_ok {x:List UInt8}(hx:B20 x):∃t:Tab,Zeu x=some t/\smT 1000 t:=by
 rw[Zeu]
 obtain⟨h,e0⟩:=l1New_ok hx
 obtain⟨t,s1,e1,t1,k1⟩:=l12Any_ok (b:=x) (s:=(0,h)) 8 (by omega) hx (by simp)
 rw[e0,bnd_s,e1,bnd_s]
 exact⟨t,rfl,t1⟩
theorem DrawRecsOf_ok {x:List UInt8}(hx:B20 x):∃t:Tab,Zfb x=some t/\smT 1000 t:=by
 rw[Zfb]
 obtain⟨h,e0⟩:=l1New_ok hx
 obtain⟨t,s1,e1,t1,k1⟩:=l12Any_ok (b:=x) (s:=(0,h)) 8 (by omega) hx (by simp)
 rw[e0,bnd_s,e1,bnd_s]
 exact⟨t,rfl,t1⟩
theorem DrawRowAt_ok {x:List UInt8}(hx:B20 x):∃(t:Tab) (k:List UInt8),Zev x=some (t,k)/\smT 1000 t:=by
 rw[Zev]
 obtain⟨h,e0⟩:=l1New_ok hx
 obtain⟨t,s1,e1,t1,k1⟩:=l12Any_ok (b:=x) (s:=(0,h)) 8 (by omega) hx (by simp)
 obtain⟨n,s2,e2,_,k2⟩:=l1Name_ok (s:=s1) hx k1
 rw[e0,bnd_s,e1,bnd_s]
 simp only[e2,bnd_s]
 exact⟨t,_,rfl,t1⟩
theorem DrawMarkAt_ok {x:List UInt8}(hx:B20 x):∃(t:Tab) (k:Int),Zew x=some (t,k)/\smT 1000 t:=by
 rw[Zew]
 obtain⟨h,e0⟩:=l1New_ok hx
 obtain⟨t,s1,e1,t1,k1⟩:=l12Any_ok (b:=x) (s:=(0,h)) 8 (by omega) hx (by simp)
 obtain⟨n,s2,e2,_,_,k2⟩:=l1Below_ok (s:=s1) 5 hx k1
 rw[e0,bnd_s,e1,bnd_s]
 simp only[e2,bnd_s]
 exact⟨t,_,rfl,t1⟩
theorem DrawApply_ok {x:List UInt8}(hx:B20 x):∃(t:Tab) (r:Rec),Zez x=some (t,r)/\smT 1000 t/\smC 100 r:=by
 rw[Zez]
 obtain⟨h,e0⟩:=l1New_ok hx
 obtain⟨t,s1,e1,t1,k1⟩:=l12Any_ok (b:=x) (s:=(0,h)) 8 (by omega) hx (by simp)
 obtain⟨v,s2,e2,k2⟩:=l1Once_ok (s:=s1) 4 hx k1
 rw[e0,bnd_s,e1,bnd_s]
 simp only[e2,bnd_s]
 cases v with
 | true =>
  obtain⟨r,s3,e3,r3,k3⟩:=l11Any_ok (s:=s2) hx k2
  rw[cnd_t,e3,bnd_s]
  exact⟨_,_,rfl,t1,r3⟩
 | false =>
  obtain⟨r,s3,e3,r3,_,k3⟩:=l11Draw_ok (s:=s2) hx k2
  rw[cnd_f,e3,bnd_s]
  exact⟨_,_,rfl,t1,r3⟩
theorem DrawSameTab_ok {x:List UInt8}(hx:B20 x):∃(t u:Tab),Zfa x=some (t,u)/\smT 1000 t/\smT 1000 u:=by
 rw[Zfa]
 obtain⟨h,e0⟩:=l1New_ok hx
 obtain⟨t,s1,e1,t1,k1⟩:=l12Any_ok (b:=x) (s:=(0,h)) 6 (by omega) hx (by simp)
 have hc:=s_copyTab (t1.mono (by omega))
 obtain⟨v,s2,e2,_,_,k2⟩:=l1Below_ok (s:=s1) 6 hx k1
 obtain⟨h1,h2,h3⟩:=t1
 rw[e0,bnd_s,e1,bnd_s]
 simp only[hc,bnd_s,e2,iEq_x]
 by_cases c0:(v:Int)=0
 ·rw[decide_eq_true c0,cnd_t]
  obtain⟨u,s3,e3,u1,k3⟩:=l12Any_ok (b:=x) (s:=s2) 6 (by omega) hx k2
  rw[e3,bnd_s,joinX_r]
  exact⟨_,_,rfl,⟨h1,h2,h3⟩,u1⟩
 rw[decide_eq_false c0,cnd_f]
 by_cases c1:(v:Int)=1
 ·rw[decide_eq_true c1,cnd_t,joinX_l]
  exact⟨_,_,rfl,⟨h1,h2,h3⟩,⟨h1,h2,h3⟩⟩
 rw[decide_eq_false c1,cnd_f]
 by_cases c2:(v:Int)=2
 ·rw[decide_eq_true c2,cnd_t]
  by_cases hl:0<t.1.length
  ·rw[iGt_y (by rw[lLen_def];omega),cnd_t,show idx t.1 (0:Int)=some t.1[0] from idx_at (i:=0) hl,bnd_s,bnd_s,joinX_l]
   refine⟨_,_,rfl,⟨h1,h2,h3⟩,⟨by simp only[lSet_len];exact h1,fun y hy=>?_,h3⟩⟩
   rcases List.mem_or_eq_of_mem_set hy with hy|rfl
   ·exact h2 y hy
   ·exact h2 t.1[0] (List.getElem_mem hl)
  ·rw[iGt_n (by rw[lLen_def];omega),cnd_f,joinX_l]
   exact⟨_,_,rfl,⟨h1,h2,h3⟩,⟨h1,h2,h3⟩⟩
 rw[decide_eq_false c2,cnd_f]
 by_cases c3:(v:Int)=3
 ·rw[decide_eq_true c3,cnd_t]
  by_cases hl:0<t.2.2.length
  ·rw[iGt_y (by rw[lLen_def];omega),cnd_t,show idx t.2.2 (0:Int)=some t.2.2[0] from idx_at (i:=0) hl,bnd_s,bnd_s,joinX_l]
   exact⟨_,_,rfl,⟨h1,h2,h3⟩,⟨h1,h2,by simp only[lSet_len];exact h3⟩⟩
  ·rw[iGt_n (by rw[lLen_def];omega),cnd_f,joinX_l]
   exact⟨_,_,rfl,⟨h1,h2,h3⟩,⟨h1,h2,h3⟩⟩
 ·rw[decide_eq_false c3,cnd_f,joinX_l]
  exact⟨_,_,rfl,⟨h1,h2,h3⟩,⟨h1,h2,h3⟩⟩
def markAt (l:List Mark) (who:Int):Mark×Bool:=match l.findIdx? (fun m=>decide (m.1=who)) with
 | some i=>match l[i]? with
  | some m=>(m,true)
  | none=>((0,0,0),false)
 | none=>((0,0,0),false)
theorem markAt_f {l:List Mark}{who:Int}{step:Int×Int×Int×Int->Option ((Int×Int×Int×Int) ⊕ ((Int×Int×Int) ⊕ (Mark×Bool)))}(hl:l.length<=1048576)
  (hs:∀(c:Int×Int×Int) (i:Nat) (hi:i<l.length),step (c.1,(c.2.1,(c.2.2,(i:Int))))=if decide (l[i].1=who)=true then some (.inr (.inr (l[i],true))) else some (.inl (c.1,(c.2.1,(c.2.2,((i+1:Nat):Int)))))) (he:∀c:Int×Int×Int,step (c.1,(c.2.1,(c.2.2,(l.length:Int))))=some (.inr (.inl c))) :
  (joinX (loopX step (0,(0,(0,0)))) (fun z1=>(some (((0,(0,0)),false):Mark×Bool))))=some (markAt l who):=by
 have:=find_loop (step:=step) (fun i=>((0:Int),((0:Int),((0:Int),(i:Int))))) l (fun m=>decide (m.1=who)) (fun i=>match l[i]? with
  | some m=>.inr (m,true)
  | none=>.inl (0,0,0)) (.inl (0,0,0)) (fun i hi=>by rw[hs (0,0,0) i hi,List.getElem?_eq_getElem hi]) (he (0,0,0)) _ rfl
 rw[show ((0:Int),((0:Int),((0:Int),(0:Int))))=(0,(0,(0,((0:Nat):Int)))) from rfl,this]
 unfold markAt
 cases l.findIdx? (fun m=>decide (m.1=who)) with
 | none=>rfl
 | some i=>cases h:l[i]?<;>simp only[h]<;>rfl
theorem i_MarkAt {t:Tab}{who:Int}(hl:t.2.2.length<=1048576):Zei (t,who)=some (markAt t.2.2 who):=by
 rw[Zei]
 refine markAt_f hl (fun c i hi=>?_) fun c=>?_
 ·rw[Zfv]
  simp only
  rw[iLt_y (by rw[lLen_def];omega),cnd_t,idx_at hi,bnd_s,iEq_x,iAdd_1 (by omega)]
  cases decide (t.2.2[i].1=who)<;>rfl
 ·rw[Zfv]
  simp only
  rw[iLt_n (by rw[lLen_def];omega),cnd_f]
theorem s_MarkAt {t:Tab}{who:Int}(hl:t.2.2.length<=1048576):Zex (t,who)=some (markAt t.2.2 who):=by
 rw[Zex]
 refine markAt_f hl (fun c i hi=>?_) fun c=>?_
 ·rw[Zfy]
  simp only
  rw[iLt_y (by rw[lLen_def];omega),cnd_t,idx_at hi,bnd_s,iEq_x,iAdd_1 (by omega),bnd_s]
  cases decide (t.2.2[i].1=who)<;>rfl
 ·rw[Zfy]
  simp only
  rw[iLt_n (by rw[lLen_def];omega),cnd_f]
end
end Go.Vs
