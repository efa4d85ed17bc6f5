import Derived.Test.YtmpopjdcbabchaaGreatDoorVsW5
import Derived.Test.YtmpopjdcbabchaaGreatDoorVsQua
set_option linter.all false
namespace Go.Vs
noncomputable section
theorem tabOk_sm {t:Tab}(h:tabOk t=true):smT 100 t:=by
 obtain⟨o1,o2,o3,o4,o5,o6⟩:=tabOk_has h
 exact⟨by omega,fun r hr=>by obtain⟨i,hi,rfl⟩:=List.getElem_of_mem hr;exact ok_sm (chain_at o1 hi),by omega⟩
theorem applyT_ok {t:Tab}{r:Rec}(h:tabOk t=true):tabOk (applyT t r).1=true:=by
 unfold applyT
 split
 ·rename_i h1
  simp only[Bool.and_eq_true]at h1
  exact h1.2.2
 ·exact h
theorem l12Draw_ok {b : List UInt8} {s : Cs} (m : Int) (hm : 0 ≤ m ∧ m ≤ 100) (hb : B20 b) (hs : 0 ≤ s.1) : ∃ (t : Tab) (s' : Cs), Zdl ((b, s), m) = some (t, s') ∧ tabOk t = true ∧ 0 ≤ s'.1 := by
  rw [Zdl]
  simp only
  rw [iAdd_ok (by omega) (by omega)]
  obtain ⟨v, s1, e1, b1, _, k1⟩ := l1Below_ok (s := s) (m + 1) hb hs
  have b1 := b1 (by omega)
  rw [e1, bnd_s]
  obtain ⟨o, q1, t, c, rfl, q2, q3⟩ := loop_inv (step := Zdk ((b, s), m)) (fun n z => ∃ (t : Tab) (c : Cs), z = (c.1, (c.2, (t.1, (t.2.1, (t.2.2, ((v : Int) - (n : Int))))))) ∧ tabOk t = true ∧ 0 ≤ c.1) v (fun o => ∃ (t : Tab) (c : Cs), o = .inl (c.1, (c.2, (t.1, (t.2.1, t.2.2)))) ∧ tabOk t = true ∧ 0 ≤ c.1)
    (fun n z hn hz => by
      obtain ⟨t, c, rfl, ht, hc⟩ := hz
      rw [Zdk]
      simp only
      rw [iGt_y (by omega), cnd_t]
      obtain ⟨r, c2, e2, r1, r2, k2⟩ := l11Draw_ok (s := c) hb hc
      rw [show Zbh (b, (c.1, c.2)) = _ from e2, bnd_s]
      have ea := s_Apply (t := t) (r := r) ((tabOk_sm ht).mono (by omega)) (r1.mono (by omega))
      rw [show Zbj ((t.1, (t.2.1, t.2.2)), r) = _ from ea, bnd_s, iSub_ok (by omega) (by omega), show ((v : Int) - (n : Int)) - 1 = (v : Int) - ((n + 1 : Nat) : Int) by omega]
      exact .inl ⟨_, rfl, (applyT t r).1, c2, rfl, applyT_ok ht, k2⟩)
    (fun z hz => by
      obtain ⟨t, c, rfl, ht, hc⟩ := hz
      rw [Zdk]
      simp only
      rw [iGt_n (by omega), cnd_f]
      exact ⟨_, rfl, t, c, rfl, ht, hc⟩)
    (s1.1, (s1.2, ([], (0, ([], (v : Int)))))) ⟨([], 0, []), s1, by simp, rfl, k1⟩
  simp only [q1, joinX_l]
  exact ⟨t, c, rfl, q2, q3⟩
def markAt (l:List Mark) (who:Int):Mark×Bool:=match l.findIdx? (fun m=>decide (m.1=who)) with
 | some i=>match l[i]? with
  | some m=>(m,true)
  | none=>((0,0,0),false)
 | none=>((0,0,0),false)
theorem markAt_f {l:List Mark}{who:Int}{step:Int×Int×Int×Int->Option ((Int×Int×Int×Int) ⊕ ((Int×Int×Int) ⊕ (Mark×Bool)))}(hl:l.length<=1048576)
  (hs:∀(c:Int×Int×Int) (i:Nat) (hi:i<l.length),step (c.1,(c.2.1,(c.2.2,(i:Int))))=if decide (l[i].1=who)=true then some (.inr (.inr (l[i],true))) else some (.inl (c.1,(c.2.1,(c.2.2,((i+1:Nat):Int)))))) (he:∀c:Int×Int×Int,step (c.1,(c.2.1,(c.2.2,(l.length:Int))))=some (.inr (.inl c))) :
  (joinX (loopX step (0,(0,(0,0)))) (fun z1=>(some (((0,(0,0)),false):Mark×Bool))))=some (markAt l who):=by
 have:=find_loop (step:=step) (fun i=>((0:Int),((0:Int),((0:Int),(i:Int))))) l (fun m=>decide (m.1=who)) (fun i=>match l[i]? with
  | some m=>.inr (m,true)
  | none=>.inl (0,0,0)) (.inl (0,0,0)) (fun i hi=>by rw[hs (0,0,0) i hi,List.getElem?_eq_getElem hi]) (he (0,0,0)) _ rfl
 rw[show ((0:Int),((0:Int),((0:Int),(0:Int))))=(0,(0,(0,((0:Nat):Int)))) from rfl,this]
 unfold markAt
 cases l.findIdx? (fun m=>decide (m.1=who)) with
 | none=>rfl
 | some i=>cases h:l[i]?<;>simp only[h]<;>rfl
theorem i_MarkAt {t:Tab}{who:Int}(hl:t.2.2.length<=1048576):Zee (t,who)=some (markAt t.2.2 who):=by
 rw[Zee]
 refine markAt_f hl (fun c i hi=>?_) fun c=>?_
 ·rw[Zew]
  simp only
  rw[iLt_y (by rw[lLen_def];omega),cnd_t,idx_at hi,bnd_s,iEq_x,iAdd_1 (by omega)]
  cases decide (t.2.2[i].1=who)<;>rfl
 ·rw[Zew]
  simp only
  rw[iLt_n (by rw[lLen_def];omega),cnd_f]
end
end Go.Vs
