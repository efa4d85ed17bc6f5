import Derived.Test.YtgleokjlebkdcaaVsW5
import Derived.Test.YtgleokjlebkdcaaVsQf2
set_option linter.all false
namespace Go.Vs
set_option linter.unusedVariables false
set_option linter.unusedSimpArgs false
noncomputable section
theorem big_y {x : List UInt8} (h : 1048576 < x.length) : F_l_big x = some true := by unfold F_l_big; rw [iGt_y (by simp only [lLen_def]; omega)]
theorem big_n {x : List UInt8} (h : x.length ≤ 1048576) : F_l_big x = some false := by unfold F_l_big; rw [iGt_n (by simp only [lLen_def]; omega)]
@[simp] theorem bEq_r (a : Bool) : bEq a a = true := by cases a <;> rfl
theorem nOf_c (n : Nat) : nOf (n : Int) = n := nOf_n n
structure GoodD (m : Nat) (x : Dv) : Prop where
 ok : dOk x = true
 up : x.2.2.2 = false
 fuse : x.2.2.1 = -1
 small : x.2.1.length ≤ m
theorem dOk_mk {x : Dv} (h1 : 1 ≤ x.1.length ∧ x.1.length ≤ 64) (h2 : x.2.1.length ≤ 40) (h3 : -1 ≤ x.2.2.1 ∧ x.2.2.1 ≤ 1000) (h4 : ∀ b ∈ x.1, b.length ≤ 120) (h5 : ∀ w ∈ x.2.1, 0 ≤ w.1 ∧ w.1 ≤ (x.1.length : Int) - 1 ∧ w.2.length ≤ 120) : dOk x = true := by
 unfold dOk devOk
 exact decide_eq_true ⟨h1, h2, h3, h4, h5⟩
theorem nwD_good {n : Int} (h : 1 ≤ n ∧ n ≤ 64) : GoodD 0 (nwD n) := by
 unfold nwD
 rw [if_pos h]
 refine ⟨dOk_mk ?_ ?_ ?_ ?_ ?_, rfl, rfl, Nat.le_refl _⟩
 ·simp; omega
 ·simp
 ·simp
 ·intro b hb
  rw [List.eq_of_mem_replicate hb]
  simp
 ·intro w hw; cases hw
theorem flC_good {m : Nat} {x : Dv} (h : GoodD m x) : GoodD 0 (flC x.1 x.2.1 x.2.2.1 x.2.2.2) := by
 obtain ⟨secs, cache, fuse, down⟩ := x
 obtain ⟨h1, h2, h3, h4⟩ := h
 simp only at h2 h3 h4
 subst h2 h3
 obtain ⟨d1, d2, d3, d4, d5⟩ := dev_of h1
 simp only
 rw [flC_yes (by omega)]
 refine ⟨dOk_mk ?_ ?_ ?_ ?_ ?_, rfl, rfl, Nat.le_refl _⟩
 ·simpa using d1
 ·simp
 ·show -1 ≤ opF (-1) ∧ opF (-1) ≤ 1000; decide
 ·exact flL_mem d4 fun w hw => (d5 w hw).2.2
 ·intro w hw; cases hw
theorem wrC_good {m : Nat} {x : Dv} {n : Int} {b : List UInt8} (h : GoodD m x) (hn : 0 ≤ n ∧ n ≤ (x.1.length : Int) - 1) (hb : b.length ≤ 120) (hm : m < 40) : wrC x.1 x.2.1 x.2.2.1 x.2.2.2 n b = (x.2.1 ++ [(n, b)], -1, false) ∧ GoodD (m + 1) (x.1, x.2.1 ++ [(n, b)], -1, false) := by
 obtain ⟨secs, cache, fuse, down⟩ := x
 obtain ⟨h1, h2, h3, h4⟩ := h
 simp only at h2 h3 h4 hn
 subst h2 h3
 obtain ⟨d1, d2, d3, d4, d5⟩ := dev_of h1
 simp only at d1 d2 d4 d5 ⊢
 refine ⟨?_, dOk_mk d1 (by simp; omega) ⟨by simp only; omega, by simp only; omega⟩ d4 ?_, rfl, rfl, by simp; omega⟩
 ·rw [wrC_yes (by rintro (h | h | h | h); cases h; exact h hn; omega; omega) (by omega)]
  rfl
 ·intro w hw
  rcases List.mem_append.1 hw with hw | hw
  ·exact d5 w hw
  ·simp only [List.mem_singleton] at hw; subst hw
   exact ⟨hn.1, hn.2, hb⟩
theorem l10Draw_ok {b : List UInt8} {s : Cs} (hb : B20 b) (hs : 0 ≤ s.1) : ∃ (d : Dv) (s' : Cs), F_s_l10Draw (b, s) = some (d, s') ∧ GoodD 7 d ∧ 0 ≤ s'.1 := by
  obtain ⟨v1, s1, e1, l1, _, k1⟩ := l1Below_ok (s := (s.1, s.2)) 6 hb hs
  have l1 := l1 (by omega)
  unfold F_s_l10Draw
  simp only [e1, bnd_s]
  rw [show iAdd .i64 2 (v1 : Int) = ((2 + v1 : Nat) : Int) from by rw [iAdd_ok (by omega) (by omega)]; omega, s_DevNew, bnd_s]
  have hg := nwD_good (n := ((2 + v1 : Nat) : Int)) (by omega)
  generalize nwD ((2 + v1 : Nat) : Int) = d0 at hg
  obtain ⟨K, s2, e2, l2, _, k2⟩ := l1Below_ok (s := (s1.1, s1.2)) 8 hb k1
  have l2 := l2 (by omega)
  simp only [e2, bnd_s]
  obtain ⟨r, h1, d, s', h2, h3, h4⟩ := loop_inv (step := S_s_l10Draw_0 (b, s)) (fun j (st : Int × Int × List (List UInt8) × List Wr × Int × Bool × Int) => 0 ≤ st.1 ∧ GoodD j (st.2.2.1, st.2.2.2.1, st.2.2.2.2.1, st.2.2.2.2.2.1) ∧ st.2.2.2.2.2.2 = (K : Int) - j) K (fun r => ∃ (d : Dv) (s' : Cs), r = .inl (s'.1, s'.2, d) ∧ GoodD K d ∧ 0 ≤ s'.1)
    (fun j st hj h => by
      obtain ⟨i, q, secs, cache, fuse, down, k⟩ := st
      obtain ⟨g1, g2, g3⟩ := h
      simp only at g1 g2 g3
      subst g3
      have hsm := dOk_sm g2.ok
      obtain ⟨d1, d2, d3, d4, d5⟩ := dev_of g2.ok
      unfold S_s_l10Draw_0
      simp only
      rw [iGt_y (by omega), cnd_t]
      have ek : iSub .i64 ((K : Int) - j) 1 = (K : Int) - ((j + 1 : Nat) : Int) := by rw [iSub_ok (by omega) (by omega)]; omega
      obtain ⟨t, s3, e3, k3⟩ := l1Once_ok (s := (i, q)) 4 hb g1
      simp only [e3, bnd_s]
      cases t with
      | true =>
        rw [cnd_t, s_Flush (x := (secs, cache, fuse, down)) hsm d3 (fun w hw => ⟨(d5 w hw).1, (d5 w hw).2.1⟩), bnd_s, joinX_l]
        have := flC_good g2
        simp only at this
        refine .inl ⟨_, rfl, k3, ⟨this.ok, this.up, this.fuse, Nat.le_trans this.small (Nat.zero_le _)⟩, ek⟩
      | false =>
        rw [cnd_f]
        obtain ⟨v4, s4, e4, l4, _, k4⟩ := l1Below_ok (s := (s3.1, s3.2)) (lLen secs) hb k3
        simp only [lLen_def] at e4 l4
        simp only at d1
        have l4 := l4 (by omega)
        obtain ⟨v5, s5, e5, l5, _, k5⟩ := l1Below_ok (s := (s4.1, s4.2)) 4 hb k4
        have l5 := l5 (by omega)
        obtain ⟨y, s6, e6, l6, k6⟩ := l1Bytes_ok (s := (s5.1, s5.2)) v5 hb k5 (by omega)
        simp only [lLen_def, e4, e5, e6, bnd_s]
        obtain ⟨w1, w2⟩ := wrC_good (x := (secs, cache, fuse, down)) (n := (v4 : Int)) (b := y) g2 (by simp only; omega) (by omega) (by omega)
        rw [s_Write (x := (secs, cache, fuse, down)) hsm d3 (by omega), bnd_s, joinX_l]
        simp only at w1
        simp only [w1]
        exact .inl ⟨_, rfl, k6, w2, ek⟩)
    (fun st h => by
      obtain ⟨i, q, secs, cache, fuse, down, k⟩ := st
      obtain ⟨g1, g2, g3⟩ := h
      simp only at g1 g2 g3
      subst g3
      refine ⟨.inl (i, q, secs, cache, fuse, down), ?_, (secs, cache, fuse, down), (i, q), rfl, g2, g1⟩
      unfold S_s_l10Draw_0
      simp only
      rw [iGt_n (by omega), cnd_f])
    (s2.1, s2.2, d0.1, d0.2.1, d0.2.2.1, d0.2.2.2, (K : Int)) ⟨k2, hg, by simp⟩
  subst h2
  rw [h1, joinX_l]
  exact ⟨_, _, rfl, ⟨h3.ok, h3.up, h3.fuse, Nat.le_trans h3.small (by omega)⟩, h4⟩
theorem smD_mk {x : Dv} (h1 : x.1.length ≤ 1048576) (h2 : ∀ b ∈ x.1, b.length ≤ 1048576) (h3 : x.2.1.length ≤ 1048577) (h4 : ∀ w ∈ x.2.1, w.2.length ≤ 1048576) : SmD x := ⟨h1, h2, h3, h4⟩
theorem l10Any_ok {b : List UInt8} {s : Cs} (hb : B20 b) (hs : 0 ≤ s.1) : ∃ (d : Dv) (s' : Cs), F_s_l10Any (b, s) = some (d, s') ∧ SmD d ∧ 0 ≤ s'.1 := by
  obtain ⟨d, s1, e1, gd, k1⟩ := l10Draw_ok (s := (s.1, s.2)) hb hs
  obtain ⟨d1, d2, d3, d4, d5⟩ := dev_of gd.ok
  have hcs := gd.small
  have hsm := dOk_sm gd.ok
  obtain ⟨q1, q2, q3, q4⟩ := hsm
  unfold F_s_l10Any
  simp only [e1, bnd_s]
  obtain ⟨v2, s2, e2, l2, _, k2⟩ := l1Below_ok (s := (s1.1, s1.2)) 12 hb k1
  simp only [e2, bnd_s, iEq_x]
  by_cases c0 : (v2 : Int) = 0
  · rw [decide_eq_true c0, cnd_t]
    obtain ⟨v3, s3, e3, l3, _, k3⟩ := l1Below_ok (s := (s2.1, s2.2)) 2 hb k2
    have l3 := l3 (by omega)
    simp only [e3, bnd_s]
    have ea : iAdd .i64 120 (v3 : Int) = ((120 + v3 : Nat) : Int) := by rw [iAdd_ok (by omega) (by omega)]; omega
    simp only [ea, decide_true]
    rw [chk_t, mkOk_ok (by omega) (by omega), chk_t, show (0 : Int) = ((0 : Nat) : Int) from rfl, idx_at (i := 0) (by omega), bnd_s, joinX_l]
    refine ⟨_, _, rfl, smD_mk (by simp [lSet]; omega) ?_ q3 q4, k3⟩
    intro y hy
    rcases List.mem_or_eq_of_mem_set hy with h | h
    · exact q2 y h
    · rw [h, nOf_c]; simp only [lRep, List.length_replicate]; omega
  rw [decide_eq_false c0, cnd_f]
  by_cases c1 : (v2 : Int) = 1
  · rw [decide_eq_true c1, cnd_t]
    obtain ⟨v3, s3, e3, _, k3⟩ := l1Int_ok (s := (s2.1, s2.2)) [-1, 0, 99] hb k2 (by simp)
    simp only [e3, bnd_s]
    obtain ⟨y, s4, e4, l4, k4⟩ := l1Bytes_ok (s := (s3.1, s3.2)) 2 hb k3 (by omega)
    have e4 : F_s_l1Bytes ((b, s3.1, s3.2), 2) = some (y, s4) := e4
    rw [e4, bnd_s, room_ok (by omega), chk_t, joinX_l]
    refine ⟨_, _, rfl, smD_mk q1 q2 (by simp [lApp]; omega) ?_, k4⟩
    intro w hw
    rcases List.mem_append.1 hw with hw | hw
    · exact q4 w hw
    · simp only [List.mem_singleton] at hw; subst hw; simp only; omega
  rw [decide_eq_false c1, cnd_f]
  by_cases c2 : (v2 : Int) = 2
  · rw [decide_eq_true c2, cnd_t]
    obtain ⟨r, h1, c, s', h2, h3, h4, h5⟩ := loop_inv (step := S_s_l10Any_0 (b, s) (d, s1)) (fun j (st : Int × Int × List Wr) => 0 ≤ st.1 ∧ j ≤ st.2.2.length ∧ st.2.2.length ≤ 41 ∧ ∀ w ∈ st.2.2, w.2.length ≤ 1048576) 42 (fun r => ∃ (c : List Wr) (s' : Cs), r = .inl (s'.1, s'.2, d.1, c, d.2.2.1, d.2.2.2) ∧ c.length ≤ 41 ∧ (∀ w ∈ c, w.2.length ≤ 1048576) ∧ 0 ≤ s'.1)
      (fun j st hj h => by
        obtain ⟨i, q, c⟩ := st
        obtain ⟨g1, g2, g3, g4⟩ := h
        simp only at g1 g2 g3 g4
        unfold S_s_l10Any_0
        simp only
        obtain ⟨v3, s3, e3, l3, _, k3⟩ := l1Below_ok (s := (i, q)) 3 hb g1
        have l3 := l3 (by omega)
        have ea : iAdd .i64 39 (v3 : Int) = ((39 + v3 : Nat) : Int) := by rw [iAdd_ok (by omega) (by omega)]; omega
        simp only [e3, bnd_s, ea]
        by_cases hl : c.length < 39 + v3
        · rw [iLt_y (by simp only [lLen_def]; omega), cnd_t, room_ok (by omega), chk_t]
          refine .inl ⟨_, rfl, k3, by simp [lApp]; omega, by simp [lApp]; omega, ?_⟩
          intro w hw
          rcases List.mem_append.1 hw with hw | hw
          · exact g4 w hw
          · simp only [List.mem_singleton] at hw; subst hw; simp
        · rw [iLt_n (by simp only [lLen_def]; omega), cnd_f]
          exact .inr ⟨_, rfl, c, s3, rfl, g3, g4, k3⟩)
      (fun st h => by
        obtain ⟨_, g2, g3, _⟩ := h
        omega)
      (s2.1, s2.2, d.2.1) ⟨k2, Nat.zero_le _, by simp only; omega, q4⟩
    subst h2
    rw [h1, joinX_l]
    exact ⟨_, _, rfl, smD_mk q1 q2 (by simp only; omega) h4, h5⟩
  rw [decide_eq_false c2, cnd_f]
  by_cases c3 : (v2 : Int) = 3
  · rw [decide_eq_true c3, cnd_t]
    obtain ⟨v3, s3, e3, _, k3⟩ := l1Int_ok (s := (s2.1, s2.2)) [0, 1, 5, -2, 1001] hb k2 (by simp)
    simp only [e3, bnd_s, joinX_l]
    exact ⟨_, _, rfl, smD_mk q1 q2 q3 q4, k3⟩
  rw [decide_eq_false c3, cnd_f]
  by_cases c4 : (v2 : Int) = 4
  · rw [decide_eq_true c4, cnd_t, joinX_l]
    exact ⟨_, _, rfl, smD_mk q1 q2 q3 q4, k2⟩
  rw [decide_eq_false c4, cnd_f]
  by_cases c5 : (v2 : Int) = 5
  · rw [decide_eq_true c5, cnd_t, joinX_l]
    exact ⟨_, _, rfl, smD_mk q1 q2 q3 q4, k2⟩
  · rw [decide_eq_false c5, cnd_f, joinX_l]
    exact ⟨_, _, rfl, smD_mk q1 q2 q3 q4, k2⟩
theorem sameDev_r {x : Dv} (h : SmD x) : F_l_sameDev (x, x) = some true := by
 obtain ⟨secs, cache, fuse, down⟩ := x
 obtain ⟨h1, h2, h3, h4⟩ := h
 simp only at h1 h2 h3 h4
 unfold F_l_sameDev
 simp only [iNe_r, cnd_f, bNe_r]
 rw [show loopX (S_l_sameDev_0 ((secs, (cache, (fuse, down))), (secs, (cache, (fuse, down))))) 0 = some (.inl ()) from loop_exact (fun i => (i : Int)) secs.length _ (fun i hi => by
  unfold S_l_sameDev_0
  simp only
  rw [iLt_y (by simp only [lLen_def]; omega), cnd_t, idx_at hi, bnd_s, bnd_s, sEq_r, bNot_t, cnd_f, iAdd_1 (by omega)]) (by
  unfold S_l_sameDev_0
  simp only
  rw [iLt_n (by simp only [lLen_def]; omega), cnd_f]) 0 rfl, joinX_l]
 exact loop_exact (fun i => (i : Int)) cache.length _ (fun i hi => by
  unfold S_l_sameDev_1
  simp only
  rw [iLt_y (by simp only [lLen_def]; omega), cnd_t, idx_at hi, bnd_s, bnd_s, iNe_r, cnd_f, bnd_s, bnd_s, sEq_r, bNot_t, cnd_f, iAdd_1 (by omega)]) (by
  unfold S_l_sameDev_1
  simp only
  rw [iLt_n (by simp only [lLen_def]; omega), cnd_f]) 0 rfl
theorem wrD_sm {x : Dv} {n : Int} {b : List UInt8} (h : SmD x) (hb : b.length ≤ 1048576) : SmD (wrD x n b) := by
 obtain ⟨h1, h2, h3, h4⟩ := h
 refine ⟨h1, h2, ?_, ?_⟩
 ·show (wrDev x.1 x.2.1 x.2.2.1 x.2.2.2 n b).1.length ≤ 1048577
  cases hk : devOk x.1 x.2.1 x.2.2.1 with
  | false => rw [wrDev_no hk]; exact h3
  | true =>
   have := (dev_of hk).2.1
   rcases wrDev_cases x.1 x.2.1 x.2.2.1 x.2.2.2 n b with e | e <;> rw [e]
   ·exact h3
   ·simp; omega
 ·show ∀ w ∈ (wrDev x.1 x.2.1 x.2.2.1 x.2.2.2 n b).1, w.2.length ≤ 1048576
  rcases wrDev_cases x.1 x.2.1 x.2.2.1 x.2.2.2 n b with e | e <;> rw [e]
  ·exact h4
  ·intro w hw
   rcases List.mem_append.1 hw with hw | hw
   ·exact h4 w hw
   ·simp only [List.mem_singleton] at hw; subst hw; exact hb
theorem flD_sm {x : Dv} (h : SmD x) : SmD (flD x) := by
 obtain ⟨h1, h2, h3, h4⟩ := h
 unfold flD flDev flC
 split
 ·split
  ·exact ⟨h1, h2, h3, h4⟩
  ·split
   ·exact ⟨h1, h2, h3, h4⟩
   ·exact ⟨by simpa using h1, flL_mem h2 h4, by simp, by simp⟩
 ·exact ⟨h1, h2, h3, h4⟩
theorem faD_sm {x : Dv} {n : Int} (h : SmD x) : SmD (faD x n) := by
 obtain ⟨h1, h2, h3, h4⟩ := h
 unfold faD faDev
 split
 ·exact ⟨by rw [faL_len]; exact h1, faL_mem h2 h4, by simp, by simp⟩
 ·exact ⟨h1, h2, h3, h4⟩
theorem nwD_sm {n : Int} : SmD (nwD n) := by
 by_cases h : 1 ≤ n ∧ n ≤ 64
 ·exact dOk_sm (nwD_good h).ok
 ·unfold nwD; rw [if_neg h]; exact ⟨by simp, by simp, by simp, by simp⟩
theorem law_DevsBent {x : List UInt8} (hx : x.length ≤ 9223372036854775807) : F_l_FnDevsBent x = some true := by
 unfold F_l_FnDevsBent
 by_cases hb : 1048576 < x.length
 ·rw [big_y hb]; rfl
 have hx : B20 x := by unfold B20; omega
 rw [big_n (by unfold B20 at hx; omega), bnd_s, cnd_f]
 obtain ⟨h, e0⟩ := l1New_ok hx
 obtain ⟨d, s1, e1, m1, k1⟩ := l10Any_ok (s := (0, h)) hx (Int.le_refl _)
 have a1 : F_s_DrawDevOk x = some d := by unfold F_s_DrawDevOk; rw [e0, bnd_s, e1, bnd_s]
 have a2 : F_s_DrawFlushDev x = some d := by unfold F_s_DrawFlushDev; rw [e0, bnd_s, e1, bnd_s]
 obtain ⟨n, s2, e2, _, k2⟩ := l1Int_ok (s := (s1.1, s1.2)) [0, 0, 1, 2, -1, 64] hx k1 (by simp)
 have a3 : F_s_DrawReadSec x = some (d, n) := by unfold F_s_DrawReadSec; rw [e0, bnd_s, e1, bnd_s]; simp only [e2, bnd_s]
 obtain ⟨n3, s3, e3, _, k3⟩ := l1Int_ok (s := (s1.1, s1.2)) [0, 1, 2, 3, 5, 10, 1073741823, -1, 1073741824] hx k1 (by simp)
 have a4 : F_s_DrawFallDev x = some (d, n3) := by unfold F_s_DrawFallDev; rw [e0, bnd_s, e1, bnd_s]; simp only [e3, bnd_s]
 obtain ⟨n4, s4, e4, _, k4⟩ := l1Int_ok (s := (0, h)) [1, 9, 64, 0, 65, -1] hx (Int.le_refl _) (by simp)
 have a5 : F_s_DrawDevNew x = some n4 := by unfold F_s_DrawDevNew; rw [e0, bnd_s, e4, bnd_s]
 obtain ⟨w, wn, wb, a6, wm, wl⟩ : ∃ (w : Dv) (wn : Int) (wb : List UInt8), F_s_DrawWriteSec x = some (w, (wn, wb)) ∧ SmD w ∧ wb.length ≤ 1048576 := by
  unfold F_s_DrawWriteSec
  rw [e0, bnd_s]
  obtain ⟨v5, s5, e5, l5, _, k5⟩ := l1Below_ok (s := (0, h)) 5 hx (Int.le_refl _)
  have l5 := l5 (by omega)
  rw [e5, bnd_s]
  obtain ⟨y, s6, e6, l6, k6⟩ := l1Bytes_ok (s := (s5.1, s5.2)) v5 hx k5 (by omega)
  simp only [e6, bnd_s]
  obtain ⟨t, s7, e7, k7⟩ := l1Once_ok (s := (s6.1, s6.2)) 10 hx k6
  simp only [e7, bnd_s]
  have fin : ∀ (z : List UInt8) (p : Cs), z.length ≤ 1048576 → 0 ≤ p.1 → ∃ (w : Dv) (wn : Int) (wb : List UInt8), (bnd (F_s_l10Any (x, (p.1, p.2))) (fun (z5 : Dv × Int × Int) => (bnd (F_s_l1Int ((x, (z5.2.1, z5.2.2)), [0, 0, 1, 2, (-1), 64])) (fun (z6 : (Int × (Int × Int))) => (some ((z5.1.1, (z5.1.2.1, (z5.1.2.2.1, z5.1.2.2.2))), (z6.1, z))))))) = some (w, (wn, wb)) ∧ SmD w ∧ wb.length ≤ 1048576 := by
   intro z p hz hp
   obtain ⟨d', s8, e8, m8, k8⟩ := l10Any_ok (s := (p.1, p.2)) hx hp
   obtain ⟨n9, s9, e9, _, k9⟩ := l1Int_ok (s := (s8.1, s8.2)) [0, 0, 1, 2, -1, 64] hx k8 (by simp)
   rw [e8, bnd_s]
   simp only [e9, bnd_s]
   exact ⟨_, _, _, rfl, m8, hz⟩
  cases t with
  | false =>
   rw [cnd_f, joinX_l]
   exact fin y s7 (by omega) k7
  | true =>
   rw [cnd_t]
   obtain ⟨v8, s8, e8, l8, _, k8⟩ := l1Below_ok (s := (s7.1, s7.2)) 2 hx k7
   have l8 := l8 (by omega)
   simp only [e8, bnd_s]
   have ea : iAdd .i64 120 (v8 : Int) = ((120 + v8 : Nat) : Int) := by rw [iAdd_ok (by omega) (by omega)]; omega
   rw [ea, iEq_r, chk_t, mkOk_ok (by omega) (by omega), chk_t, joinX_l]
   exact fin _ s8 (by rw [nOf_c]; simp only [lRep, List.length_replicate]; omega) k8
 rw [a1, bnd_s, a3, bnd_s, a6, bnd_s, a2, bnd_s, a4, bnd_s, a5, bnd_s]
 simp only
 rw [show F_i_DevOk (d.1, (d.2.1, (d.2.2.1, d.2.2.2))) = _ from i_DevOk m1, bnd_s, show F_s_DevOk (d.1, (d.2.1, (d.2.2.1, d.2.2.2))) = _ from s_DevOk m1, bnd_s, bEq_r, cnd_t]
 rw [show F_i_ReadSec ((d.1, (d.2.1, (d.2.2.1, d.2.2.2))), n) = _ from i_ReadSec m1, bnd_s, show F_s_ReadSec ((d.1, (d.2.1, (d.2.2.1, d.2.2.2))), n) = _ from s_ReadSec m1, bnd_s, sEq_r, cnd_t]
 rw [show F_i_WriteSec ((w.1, (w.2.1, (w.2.2.1, w.2.2.2))), (wn, wb)) = _ from i_WriteSec wm wl, bnd_s, show F_s_WriteSec ((w.1, (w.2.1, (w.2.2.1, w.2.2.2))), (wn, wb)) = _ from s_WriteSec wm wl, bnd_s, sameDev_r (wrD_sm wm wl), bnd_s, cnd_t]
 rw [show F_i_FlushDev (d.1, (d.2.1, (d.2.2.1, d.2.2.2))) = _ from i_FlushDev m1, bnd_s, show F_s_FlushDev (d.1, (d.2.1, (d.2.2.1, d.2.2.2))) = _ from s_FlushDev m1, bnd_s, sameDev_r (flD_sm m1), bnd_s, cnd_t]
 rw [show F_i_FallDev ((d.1, (d.2.1, (d.2.2.1, d.2.2.2))), n3) = _ from i_FallDev m1, bnd_s, show F_s_FallDev ((d.1, (d.2.1, (d.2.2.1, d.2.2.2))), n3) = _ from s_FallDev m1, bnd_s, sameDev_r (faD_sm m1), bnd_s, cnd_t]
 rw [i_DevNew, bnd_s, s_DevNew, bnd_s, sameDev_r nwD_sm, bnd_s]
end
end Go.Vs
