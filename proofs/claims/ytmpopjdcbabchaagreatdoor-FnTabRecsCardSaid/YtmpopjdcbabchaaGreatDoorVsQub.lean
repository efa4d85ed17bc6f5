import Derived.Test.YtmpopjdcbabchaaGreatDoorVsW5
import Derived.Test.YtmpopjdcbabchaaGreatDoorVsQua
set_option linter.all false
namespace Go.Vs
noncomputable section
theorem tabOk_sm {t:Tab}(h:tabOk t=true):smT 100 t:=by
 obtain⟨o1,o2,o3,o4,o5,o6⟩:=tabOk_has h
 exact⟨by omega,fun r hr=>by obtain⟨i,hi,rfl⟩:=List.getElem_of_mem hr;exact ok_sm (chain_at o1 hi),by omega⟩
theorem applyT_ok {t:Tab}{r:Rec}(h:tabOk t=true):tabOk (applyT t r).1=true:=by
 unfold applyT
 split
 ·rename_i h1
  simp only[Bool.and_eq_true]at h1
  exact h1.2.2
 ·exact h
theorem l12Draw_ok {b : List UInt8} {s : Cs} (m : Int) (hm : 0 ≤ m ∧ m ≤ 100) (hb : B20 b) (hs : 0 ≤ s.1) : ∃ (t : Tab) (s' : Cs), Zdn ((b, s), m) = some (t, s') ∧ tabOk t = true ∧ 0 ≤ s'.1 := by
  rw [Zdn]
  simp only
  rw [iAdd_ok (by omega) (by omega)]
  obtain ⟨v, s1, e1, b1, _, k1⟩ := l1Below_ok (s := s) (m + 1) hb hs
  have b1 := b1 (by omega)
  rw [e1, bnd_s]
  obtain ⟨o, q1, t, c, rfl, q2, q3⟩ := loop_inv (step := Zdm ((b, s), m)) (fun n z => ∃ (t : Tab) (c : Cs), z = (c.1, (c.2, (t.1, (t.2.1, (t.2.2, ((v : Int) - (n : Int))))))) ∧ tabOk t = true ∧ 0 ≤ c.1) v (fun o => ∃ (t : Tab) (c : Cs), o = .inl (c.1, (c.2, (t.1, (t.2.1, t.2.2)))) ∧ tabOk t = true ∧ 0 ≤ c.1)
    (fun n z hn hz => by
      obtain ⟨t, c, rfl, ht, hc⟩ := hz
      rw [Zdm]
      simp only
      rw [iGt_y (by omega), cnd_t]
      obtain ⟨r, c2, e2, r1, r2, k2⟩ := l11Draw_ok (s := c) hb hc
      rw [show Zbe (b, (c.1, c.2)) = _ from e2, bnd_s]
      have ea := s_Apply (t := t) (r := r) ((tabOk_sm ht).mono (by omega)) (r1.mono (by omega))
      rw [show Zca ((t.1, (t.2.1, t.2.2)), r) = _ from ea, bnd_s, iSub_ok (by omega) (by omega), show ((v : Int) - (n : Int)) - 1 = (v : Int) - ((n + 1 : Nat) : Int) by omega]
      exact .inl ⟨_, rfl, (applyT t r).1, c2, rfl, applyT_ok ht, k2⟩)
    (fun z hz => by
      obtain ⟨t, c, rfl, ht, hc⟩ := hz
      rw [Zdm]
      simp only
      rw [iGt_n (by omega), cnd_f]
      exact ⟨_, rfl, t, c, rfl, ht, hc⟩)
    (s1.1, (s1.2, ([], (0, ([], (v : Int)))))) ⟨([], 0, []), s1, by simp, rfl, k1⟩
  simp only [q1, joinX_l]
  exact ⟨t, c, rfl, q2, q3⟩
end
end Go.Vs
