import Derived.Test.YtgleokjlebkdcaaVsW5
import Derived.Test.YtgleokjlebkdcaaVsQf2
set_option linter.all false
namespace Go.Vs
set_option linter.unusedVariables false
set_option linter.unusedSimpArgs false
noncomputable section
theorem big_y {x : List UInt8} (h : 1048576 < x.length) : F_l_big x = some true := by unfold F_l_big; rw [iGt_y (by simp only [lLen_def]; omega)]
theorem big_n {x : List UInt8} (h : x.length ≤ 1048576) : F_l_big x = some false := by unfold F_l_big; rw [iGt_n (by simp only [lLen_def]; omega)]
@[simp] theorem bEq_r (a : Bool) : bEq a a = true := by cases a <;> rfl
theorem at_ok {x : List UInt8} (hx : B20 x) (i : Nat) (hi : i ≤ 1000) : ∃ v : Nat, F_l_at (x, (i : Int)) = some (v : Int) ∧ v ≤ 255 := by
 unfold B20 at hx
 unfold F_l_at
 by_cases h : i < x.length
 ·have := y_lt x[i]
  rw [iLt_y (by simp only [lLen_def]; omega), cnd_t, idx_at h, bnd_s, y2i_n, iConv_s (k := .i64) (by show _ < 2 ^ 63; omega)]
  exact ⟨_, rfl, by omega⟩
 ·rw [iLt_n (by simp only [lLen_def]; omega), cnd_f]
  have e1 : iMul .i64 (i : Int) 31 = ((i * 31 : Nat) : Int) := by rw [iMul_ok (by omega) (by omega)]; omega
  have e2 : iMul .i64 (lLen x) 7 = ((x.length * 7 : Nat) : Int) := by rw [lLen_def, iMul_ok (by omega) (by omega)]; omega
  rw [e1, e2, iAdd_n (by omega), show (256 : Int) = ((256 : Nat) : Int) from rfl, iRem_n]
  exact ⟨_, rfl, by omega⟩
structure GoodD (m : Nat) (x : Dv) : Prop where
 ok : dOk x = true
 up : x.2.2.2 = false
 fuse : x.2.2.1 = -1
 small : x.2.1.length ≤ m
theorem dOk_mk {x : Dv} (h1 : 1 ≤ x.1.length ∧ x.1.length ≤ 64) (h2 : x.2.1.length ≤ 40) (h3 : -1 ≤ x.2.2.1 ∧ x.2.2.1 ≤ 1000) (h4 : ∀ b ∈ x.1, b.length ≤ 120) (h5 : ∀ w ∈ x.2.1, 0 ≤ w.1 ∧ w.1 ≤ (x.1.length : Int) - 1 ∧ w.2.length ≤ 120) : dOk x = true := by
 unfold dOk devOk
 exact decide_eq_true ⟨h1, h2, h3, h4, h5⟩
theorem nwD_good {n : Int} (h : 1 ≤ n ∧ n ≤ 64) : GoodD 0 (nwD n) := by
 unfold nwD
 rw [if_pos h]
 refine ⟨dOk_mk ?_ ?_ ?_ ?_ ?_, rfl, rfl, Nat.le_refl _⟩
 ·simp; omega
 ·simp
 ·simp
 ·intro b hb
  rw [List.eq_of_mem_replicate hb]
  simp
 ·intro w hw; cases hw
theorem flC_good {m : Nat} {x : Dv} (h : GoodD m x) : GoodD 0 (flC x.1 x.2.1 x.2.2.1 x.2.2.2) := by
 obtain ⟨secs, cache, fuse, down⟩ := x
 obtain ⟨h1, h2, h3, h4⟩ := h
 simp only at h2 h3 h4
 subst h2 h3
 obtain ⟨d1, d2, d3, d4, d5⟩ := dev_of h1
 simp only
 rw [flC_yes (by omega)]
 refine ⟨dOk_mk ?_ ?_ ?_ ?_ ?_, rfl, rfl, Nat.le_refl _⟩
 ·simpa using d1
 ·simp
 ·show -1 ≤ opF (-1) ∧ opF (-1) ≤ 1000; decide
 ·exact flL_mem d4 fun w hw => (d5 w hw).2.2
 ·intro w hw; cases hw
theorem wrC_good {m : Nat} {x : Dv} {n : Int} {b : List UInt8} (h : GoodD m x) (hn : 0 ≤ n ∧ n ≤ (x.1.length : Int) - 1) (hb : b.length ≤ 120) (hm : m < 40) : wrC x.1 x.2.1 x.2.2.1 x.2.2.2 n b = (x.2.1 ++ [(n, b)], -1, false) ∧ GoodD (m + 1) (x.1, x.2.1 ++ [(n, b)], -1, false) := by
 obtain ⟨secs, cache, fuse, down⟩ := x
 obtain ⟨h1, h2, h3, h4⟩ := h
 simp only at h2 h3 h4 hn
 subst h2 h3
 obtain ⟨d1, d2, d3, d4, d5⟩ := dev_of h1
 simp only at d1 d2 d4 d5 ⊢
 refine ⟨?_, dOk_mk d1 (by simp; omega) ⟨by simp only; omega, by simp only; omega⟩ d4 ?_, rfl, rfl, by simp; omega⟩
 ·rw [wrC_yes (by rintro (h | h | h | h); cases h; exact h hn; omega; omega) (by omega)]
  rfl
 ·intro w hw
  rcases List.mem_append.1 hw with hw | hw
  ·exact d5 w hw
  ·simp only [List.mem_singleton] at hw; subst hw
   exact ⟨hn.1, hn.2, hb⟩
theorem l10Draw_ok {b : List UInt8} {s : Cs} (hb : B20 b) (hs : 0 ≤ s.1) : ∃ (d : Dv) (s' : Cs), F_s_l10Draw (b, s) = some (d, s') ∧ GoodD 7 d ∧ 0 ≤ s'.1 := by
  obtain ⟨v1, s1, e1, l1, _, k1⟩ := l1Below_ok (s := (s.1, s.2)) 6 hb hs
  have l1 := l1 (by omega)
  unfold F_s_l10Draw
  simp only [e1, bnd_s]
  rw [show iAdd .i64 2 (v1 : Int) = ((2 + v1 : Nat) : Int) from by rw [iAdd_ok (by omega) (by omega)]; omega, s_DevNew, bnd_s]
  have hg := nwD_good (n := ((2 + v1 : Nat) : Int)) (by omega)
  generalize nwD ((2 + v1 : Nat) : Int) = d0 at hg
  obtain ⟨K, s2, e2, l2, _, k2⟩ := l1Below_ok (s := (s1.1, s1.2)) 8 hb k1
  have l2 := l2 (by omega)
  simp only [e2, bnd_s]
  obtain ⟨r, h1, d, s', h2, h3, h4⟩ := loop_inv (step := S_s_l10Draw_0 (b, s)) (fun j (st : Int × Int × List (List UInt8) × List Wr × Int × Bool × Int) => 0 ≤ st.1 ∧ GoodD j (st.2.2.1, st.2.2.2.1, st.2.2.2.2.1, st.2.2.2.2.2.1) ∧ st.2.2.2.2.2.2 = (K : Int) - j) K (fun r => ∃ (d : Dv) (s' : Cs), r = .inl (s'.1, s'.2, d) ∧ GoodD K d ∧ 0 ≤ s'.1)
    (fun j st hj h => by
      obtain ⟨i, q, secs, cache, fuse, down, k⟩ := st
      obtain ⟨g1, g2, g3⟩ := h
      simp only at g1 g2 g3
      subst g3
      have hsm := dOk_sm g2.ok
      obtain ⟨d1, d2, d3, d4, d5⟩ := dev_of g2.ok
      unfold S_s_l10Draw_0
      simp only
      rw [iGt_y (by omega), cnd_t]
      have ek : iSub .i64 ((K : Int) - j) 1 = (K : Int) - ((j + 1 : Nat) : Int) := by rw [iSub_ok (by omega) (by omega)]; omega
      obtain ⟨t, s3, e3, k3⟩ := l1Once_ok (s := (i, q)) 4 hb g1
      simp only [e3, bnd_s]
      cases t with
      | true =>
        rw [cnd_t, s_Flush (x := (secs, cache, fuse, down)) hsm d3 (fun w hw => ⟨(d5 w hw).1, (d5 w hw).2.1⟩), bnd_s, joinX_l]
        have := flC_good g2
        simp only at this
        refine .inl ⟨_, rfl, k3, ⟨this.ok, this.up, this.fuse, Nat.le_trans this.small (Nat.zero_le _)⟩, ek⟩
      | false =>
        rw [cnd_f]
        obtain ⟨v4, s4, e4, l4, _, k4⟩ := l1Below_ok (s := (s3.1, s3.2)) (lLen secs) hb k3
        simp only [lLen_def] at e4 l4
        simp only at d1
        have l4 := l4 (by omega)
        obtain ⟨v5, s5, e5, l5, _, k5⟩ := l1Below_ok (s := (s4.1, s4.2)) 4 hb k4
        have l5 := l5 (by omega)
        obtain ⟨y, s6, e6, l6, k6⟩ := l1Bytes_ok (s := (s5.1, s5.2)) v5 hb k5 (by omega)
        simp only [lLen_def, e4, e5, e6, bnd_s]
        obtain ⟨w1, w2⟩ := wrC_good (x := (secs, cache, fuse, down)) (n := (v4 : Int)) (b := y) g2 (by simp only; omega) (by omega) (by omega)
        rw [s_Write (x := (secs, cache, fuse, down)) hsm d3 (by omega), bnd_s, joinX_l]
        simp only at w1
        simp only [w1]
        exact .inl ⟨_, rfl, k6, w2, ek⟩)
    (fun st h => by
      obtain ⟨i, q, secs, cache, fuse, down, k⟩ := st
      obtain ⟨g1, g2, g3⟩ := h
      simp only at g1 g2 g3
      subst g3
      refine ⟨.inl (i, q, secs, cache, fuse, down), ?_, (secs, cache, fuse, down), (i, q), rfl, g2, g1⟩
      unfold S_s_l10Draw_0
      simp only
      rw [iGt_n (by omega), cnd_f])
    (s2.1, s2.2, d0.1, d0.2.1, d0.2.2.1, d0.2.2.2, (K : Int)) ⟨k2, hg, by simp⟩
  subst h2
  rw [h1, joinX_l]
  exact ⟨_, _, rfl, ⟨h3.ok, h3.up, h3.fuse, Nat.le_trans h3.small (by omega)⟩, h4⟩
end
end Go.Vs
