import Derived.Test.YtgbapgjdkoojdaaVsQ
import Derived.Test.YtgbapgjdkoojdaaVsSf
import Derived.Test.YtgbapgjdkoojdaaVsE7
import Derived.Test.YtgbapgjdkoojdaaVsE11
import Derived.Test.YtgbapgjdkoojdaaVsW2
set_option linter.unusedVariables false
set_option linter.unusedSimpArgs false
namespace Go.Proofs.Ytgbapgjdkoojdaa
open Go.Vs
set_option linter.unusedSimpArgs false
set_option linter.unusedVariables false
set_option maxHeartbeats 1000000
theorem runs26 (b : List UInt8) (h : b.length < 2 ^ 62) : Runs Try.prog 26 [.val false [(.rd, .sl 1 (bD b))]] ⟨[(false, [.lf (.int .i64 (ghG b))]), (false, [.lf (.int .i64 (ghN b))]), (false, [.lf (.bool (ghOk b))])], [], []⟩ := by
 obtain ⟨c, hb, hs⟩ := body_of tr26
 refine runs_of_sw Try.func26 hb hs rfl (show 1 ≤ 57 by decide) ?_
 clear hb hs c
 refine q15 ?_
 unfold s26
 refine sw_seq ?_
 refine sw_reg ?_
 unfold s26_0
 refine os_ev (evq_mvk) ?_
 refine os_ev (evq_mvk) ?_
 refine os_ev (evq_mvk) ?_
 simp only [runOs, thenQ, blockQ, Vs.put, reduceIte, Nat.reduceEqDiff]
 refine sw_seq ?_
 refine sw_reg ?_
 unfold s26_1
 refine os_ev (evq_mvt rfl) ?_
 refine os_callo ?_
 refine q6 ?_
 refine ⟨_, _, runs80 b 0 h, _, rfl, _, rfl, by simp [handIo, handBx], fa_cons (⟨rfl, .inl rfl, by simp [handIo, handBx], _, rfl, by simp, by first | rfl | (simp; done) | exact (List.take_of_length_le (by simp)).symm⟩) (fa_cons (rfl) (fa_nil)), _, rfl, _, rfl, ?_⟩
 refine q7 ?_
 refine q11 ?_
 refine os_ev (evq_mvt rfl) ?_
 simp only [Vs.put, reduceIte, Nat.reduceEqDiff]
 refine os_ev (evq_ext rfl rfl) ?_
 refine os_ev (evq_ext rfl rfl) ?_
 refine os_ev (evq_ext rfl rfl) ?_
 refine os_ev (evq_mvt rfl) ?_
 refine os_ev (evq_mvt rfl) ?_
 simp only [Vs.put, reduceIte, Nat.reduceEqDiff]
 refine os_ev (evq_mvt rfl) ?_
 simp only [runOs, thenQ, blockQ, Vs.put, reduceIte, Nat.reduceEqDiff]
 refine sw_seq ?_
 refine sw_reg ?_
 unfold s26_2
 refine os_ev (evq_mvt rfl) ?_
 refine os_callo ?_
 refine q6 ?_
 refine ⟨_, _, runs80 b 2 h, _, rfl, _, rfl, by simp [handIo, handBx], fa_cons (⟨rfl, .inl rfl, by simp [handIo, handBx], _, rfl, by simp, by first | rfl | (simp; done) | exact (List.take_of_length_le (by simp)).symm⟩) (fa_cons (rfl) (fa_nil)), _, rfl, _, rfl, ?_⟩
 refine q7 ?_
 refine q11 ?_
 refine os_ev (evq_mvt rfl) ?_
 refine os_ev (evq_ext rfl rfl) ?_
 refine os_ev (evq_ext rfl rfl) ?_
 simp only [Vs.put, reduceIte, Nat.reduceEqDiff]
 refine os_ev (evq_ext rfl rfl) ?_
 refine os_ev (evq_mvt rfl) ?_
 refine os_ev (evq_mvt rfl) ?_
 refine os_ev (evq_mvt rfl) ?_
 simp only [runOs, thenQ, blockQ, Vs.put, reduceIte, Nat.reduceEqDiff]
 refine sw_seq ?_
 refine sw_reg ?_
 unfold s26_3
 refine os_ev (evq_mvt rfl) ?_
 simp only [Vs.put, reduceIte, Nat.reduceEqDiff]
 refine os_callo ?_
 refine q6 ?_
 refine ⟨_, _, runs80 b 4 h, _, rfl, _, rfl, by simp [handIo, handBx], fa_cons (⟨rfl, .inl rfl, by simp [handIo, handBx], _, rfl, by simp, by first | rfl | (simp; done) | exact (List.take_of_length_le (by simp)).symm⟩) (fa_cons (rfl) (fa_nil)), _, rfl, _, rfl, ?_⟩
 refine q7 ?_
 refine q11 ?_
 refine os_ev (evq_mvt rfl) ?_
 refine os_ev (evq_ext rfl rfl) ?_
 refine os_ev (evq_ext rfl rfl) ?_
 refine os_ev (evq_ext rfl rfl) ?_
 refine os_ev (evq_mvt rfl) ?_
 simp only [Vs.put, reduceIte, Nat.reduceEqDiff]
 refine os_ev (evq_mvt rfl) ?_
 refine os_ev (evq_mvt rfl) ?_
 simp only [runOs, thenQ, blockQ, Vs.put, reduceIte, Nat.reduceEqDiff]
 refine sw_seq ?_
 refine sw_seq ?_
 refine sw_reg ?_
 unfold s26_4
 refine os_ev (evq_mvt rfl) ?_
 refine os_ev (evq_un rfl rfl) ?_
 refine os_ev (evq_mvt rfl) ?_
 simp only [Vs.put, reduceIte, Nat.reduceEqDiff]
 refine os_gs rfl (fun g34 => ?_) (fun g34 => ?_)
 ·try simp only [g34]
  replace g34 := q1 g34
  have hlen : ¬ b.length = 6 := fun e => by rw [(gw_lit (b := b) (a := 4) (k := 4) rfl (by omega)).1] at g34; cases g34
  refine os_gno rfl (by decide) ?_
  refine os_gno rfl (by decide) ?_
  simp only [Vs.put, reduceIte, Nat.reduceEqDiff]
  refine os_gno rfl (by decide) ?_
  refine os_ev (evq_pickt rfl rfl) ?_
  refine os_ev (evq_mvt rfl) ?_
  simp only [Vs.put, reduceIte, Nat.reduceEqDiff]
  refine os_gno rfl (by decide) ?_
  simp only [Vs.put, reduceIte, Nat.reduceEqDiff]
  refine os_gno rfl (by decide) ?_
  refine os_gno rfl (by decide) ?_
  refine os_gno rfl (by decide) ?_
  refine os_gno rfl (by decide) ?_
  simp only [Vs.put, reduceIte, Nat.reduceEqDiff]
  refine os_ev (evq_pickt rfl rfl) ?_
  refine os_ev (evq_mvt rfl) ?_
  refine os_gno rfl (by decide) ?_
  refine os_gno rfl (by decide) ?_
  simp only [Vs.put, reduceIte, Nat.reduceEqDiff]
  refine os_gno rfl (by decide) ?_
  refine os_ev (evq_pickt rfl rfl) ?_
  refine os_ev (evq_mvt rfl) ?_
  refine os_gno rfl (by decide) ?_
  simp only [Vs.put, reduceIte, Nat.reduceEqDiff]
  refine os_gno rfl (by decide) ?_
  refine os_ev (evq_pickt rfl rfl) ?_
  simp only [Vs.put, reduceIte, Nat.reduceEqDiff]
  simp only [runOs, thenQ, blockQ, Vs.put, reduceIte, Nat.reduceEqDiff]
  refine sw_cond rfl (fun h1 => ?_) (fun h1 => ?_)
  ·replace h1 := q1 h1
   refine sw_seq ?_
   refine sw_reg ?_
   unfold s26_5
   refine os_ev (evq_mvk) ?_
   refine os_ev (evq_mvk) ?_
   refine os_ev (evq_mvk) ?_
   simp only [runOs, thenQ, blockQ, Vs.put, reduceIte, Nat.reduceEqDiff]
   refine sw_ret ?_
   refine q3 ?_
   obtain ⟨r1, r2, r3⟩ := gh_no (b := b) (by omega)
   rw [r1, r2, r3]
   exact leaves_tp rfl rfl rfl rfl (take_lf (take_lf (take_lf rfl)))
  ·exact absurd h1 (by simp at h1)
 ·try simp only [g34]
  replace g34 := q1 g34
  obtain ⟨i1, i2⟩ := gw_of g34
  obtain ⟨q01, q02, q03⟩ := gw_lit (b := b) (a := 0) (k := 0) rfl (by omega)
  obtain ⟨q21, q22, q23⟩ := gw_lit (b := b) (a := 2) (k := 2) rfl (by omega)
  obtain ⟨q41, q42, q43⟩ := gw_lit (b := b) (a := 4) (k := 4) rfl (by omega)
  have h4 : 4 ≤ b.length := by omega
  simp only [q03, q23, q43]
  refine os_gdo rfl ?_
  refine os_ev (evq_mvt rfl) ?_
  refine os_gdo rfl ?_
  refine q10 ?_
  simp only [Vs.put, reduceIte, Nat.reduceEqDiff]
  refine os_gdo rfl ?_
  refine os_ev (evq_bin rfl rfl rfl) ?_
  refine os_ev (evq_pickf rfl rfl) ?_
  refine os_ev (evq_mvt rfl) ?_
  refine os_gs rfl (fun g39 => ?_) (fun g39 => ?_)
  ·try simp only [g39]
   replace g39 := q1 g39
   refine os_gno rfl (by decide) ?_
   refine os_gno rfl (by decide) ?_
   simp only [Vs.put, reduceIte, Nat.reduceEqDiff]
   refine os_gno rfl (by decide) ?_
   refine os_gno rfl (by decide) ?_
   refine os_gno rfl (by decide) ?_
   refine os_ev (evq_pickt rfl rfl) ?_
   refine os_ev (evq_mvt rfl) ?_
   simp only [Vs.put, reduceIte, Nat.reduceEqDiff]
   refine os_gno rfl (by decide) ?_
   refine os_gno rfl (by decide) ?_
   refine os_gno rfl (by decide) ?_
   simp only [Vs.put, reduceIte, Nat.reduceEqDiff]
   refine os_ev (evq_pickt rfl rfl) ?_
   refine os_ev (evq_mvt rfl) ?_
   simp only [Vs.put, reduceIte, Nat.reduceEqDiff]
   refine os_gno rfl (by decide) ?_
   refine os_gno rfl (by decide) ?_
   simp only [Vs.put, reduceIte, Nat.reduceEqDiff]
   refine os_ev (evq_pickt rfl rfl) ?_
   simp only [runOs, thenQ, blockQ, Vs.put, reduceIte, Nat.reduceEqDiff]
   refine sw_cond rfl (fun h1 => ?_) (fun h1 => ?_)
   ·replace h1 := q1 h1
    refine sw_seq ?_
    refine sw_reg ?_
    unfold s26_5
    refine os_ev (evq_mvk) ?_
    refine os_ev (evq_mvk) ?_
    simp only [Vs.put, reduceIte, Nat.reduceEqDiff]
    refine os_ev (evq_mvk) ?_
    simp only [runOs, thenQ, blockQ, Vs.put, reduceIte, Nat.reduceEqDiff]
    refine sw_ret ?_
    refine q3 ?_
    obtain ⟨r1, r2, r3⟩ := gh_no (b := b) (by omega)
    rw [r1, r2, r3]
    exact leaves_tp rfl rfl rfl rfl (take_lf (take_lf (take_lf rfl)))
   ·exact absurd h1 (by simp at h1)
  ·try simp only [g39]
   replace g39 := q1 g39
   refine os_gdo rfl ?_
   refine os_ev (evq_mvt rfl) ?_
   refine os_gdo rfl ?_
   refine os_ev (evq_mvt rfl) ?_
   refine os_gdo rfl ?_
   refine os_ev (evq_slh (j := 4) rfl rfl rfl (by omega)) ?_
   refine os_gdo rfl ?_
   refine os_callo ?_
   refine q6 ?_
   refine ⟨_, _, runs76 (b.take 4) (by simp; omega), _, rfl, _, rfl, by simp [handIo, handBx], fa_cons (⟨rfl, .inl rfl, by simp [handIo, handBx], _, rfl, by simp [h4], by first | rfl | (simp; done) | exact (List.take_of_length_le (by simp [h4])).symm⟩) (fa_nil), _, rfl, _, rfl, ?_⟩
   refine q7 ?_
   refine q11 ?_
   refine os_gdo rfl ?_
   refine os_ev (evq_bin rfl rfl rfl) ?_
   simp only [Vs.put, reduceIte, Nat.reduceEqDiff]
   refine os_ev (evq_pickf rfl rfl) ?_
   refine os_ev (evq_mvt rfl) ?_
   refine os_gs rfl (fun g46 => ?_) (fun g46 => ?_)
   ·try simp only [g46]
    replace g46 := q1 g46
    refine os_gno rfl (by decide) ?_
    refine os_gno rfl (by decide) ?_
    simp only [Vs.put, reduceIte, Nat.reduceEqDiff]
    refine os_gno rfl (by decide) ?_
    refine os_ev (evq_pickt rfl rfl) ?_
    refine os_ev (evq_mvt rfl) ?_
    refine os_gno rfl (by decide) ?_
    simp only [Vs.put, reduceIte, Nat.reduceEqDiff]
    refine os_gno rfl (by decide) ?_
    refine os_ev (evq_pickt rfl rfl) ?_
    simp only [Vs.put, reduceIte, Nat.reduceEqDiff]
    simp only [runOs, thenQ, blockQ, Vs.put, reduceIte, Nat.reduceEqDiff]
    refine sw_cond rfl (fun h1 => ?_) (fun h1 => ?_)
    ·replace h1 := q1 h1
     refine sw_seq ?_
     refine sw_reg ?_
     unfold s26_5
     refine os_ev (evq_mvk) ?_
     refine os_ev (evq_mvk) ?_
     refine os_ev (evq_mvk) ?_
     simp only [runOs, thenQ, blockQ, Vs.put, reduceIte, Nat.reduceEqDiff]
     refine sw_ret ?_
     refine q3 ?_
     obtain ⟨r1, r2, r3⟩ := gh_no (b := b) (by omega)
     rw [r1, r2, r3]
     exact leaves_tp rfl rfl rfl rfl (take_lf (take_lf (take_lf rfl)))
    ·exact absurd h1 (by simp at h1)
   ·try simp only [g46]
    replace g46 := q1 g46
    refine os_gdo rfl ?_
    refine os_ev (evq_mvt rfl) ?_
    refine os_gdo rfl ?_
    refine os_callo ?_
    refine q6 ?_
    refine ⟨_, _, runs74 (getW b 0 : Nat) 1 60000, _, rfl, _, rfl, by simp [handIo, handBx], fa_cons (rfl) (fa_cons (rfl) (fa_cons (rfl) (fa_nil))), _, rfl, _, rfl, ?_⟩
    refine q7 ?_
    refine q11 ?_
    refine os_gdo rfl ?_
    refine os_ev (evq_un rfl rfl) ?_
    simp only [Vs.put, reduceIte, Nat.reduceEqDiff]
    refine os_ev (evq_pickf rfl rfl) ?_
    refine os_ev (evq_mvt rfl) ?_
    refine os_gs rfl (fun g51 => ?_) (fun g51 => ?_)
    ·try simp only [g51]
     replace g51 := q1 g51
     refine os_gno rfl (by decide) ?_
     refine os_gno rfl (by decide) ?_
     refine os_ev (evq_pickt rfl rfl) ?_
     simp only [Vs.put, reduceIte, Nat.reduceEqDiff]
     simp only [runOs, thenQ, blockQ, Vs.put, reduceIte, Nat.reduceEqDiff]
     refine sw_cond rfl (fun h1 => ?_) (fun h1 => ?_)
     ·replace h1 := q1 h1
      refine sw_seq ?_
      refine sw_reg ?_
      unfold s26_5
      refine os_ev (evq_mvk) ?_
      refine os_ev (evq_mvk) ?_
      refine os_ev (evq_mvk) ?_
      simp only [runOs, thenQ, blockQ, Vs.put, reduceIte, Nat.reduceEqDiff]
      refine sw_ret ?_
      refine q3 ?_
      obtain ⟨r1, r2, r3⟩ := gh_no (b := b) (by omega)
      rw [r1, r2, r3]
      exact leaves_tp rfl rfl rfl rfl (take_lf (take_lf (take_lf rfl)))
     ·exact absurd h1 (by simp at h1)
    ·try simp only [g51]
     replace g51 := q1 g51
     refine os_gdo rfl ?_
     refine os_ev (evq_mvt rfl) ?_
     refine os_gdo rfl ?_
     refine os_ev (evq_bin rfl rfl rfl) ?_
     simp only [Vs.put, reduceIte, Nat.reduceEqDiff]
     refine os_ev (evq_pickf rfl rfl) ?_
     simp only [runOs, thenQ, blockQ, Vs.put, reduceIte, Nat.reduceEqDiff]
     refine sw_cond rfl (fun h1 => ?_) (fun h1 => ?_)
     ·replace h1 := q1 h1
      refine sw_seq ?_
      refine sw_reg ?_
      unfold s26_5
      refine os_ev (evq_mvk) ?_
      refine os_ev (evq_mvk) ?_
      refine os_ev (evq_mvk) ?_
      simp only [runOs, thenQ, blockQ, Vs.put, reduceIte, Nat.reduceEqDiff]
      refine sw_ret ?_
      refine q3 ?_
      obtain ⟨r1, r2, r3⟩ := gh_no (b := b) (by omega)
      rw [r1, r2, r3]
      exact leaves_tp rfl rfl rfl rfl (take_lf (take_lf (take_lf rfl)))
     ·replace h1 := q1 h1
      refine sw_skip ?_
      simp only [thenQ, blockQ]
      refine sw_seq ?_
      refine sw_reg ?_
      unfold s26_6
      refine os_ev (evq_mvt rfl) ?_
      simp only [Vs.put, reduceIte, Nat.reduceEqDiff]
      refine os_ev (evq_mvt rfl) ?_
      refine os_ev (evq_mvt rfl) ?_
      refine os_ev (evq_mvt rfl) ?_
      refine os_ev (evq_mvk) ?_
      simp only [runOs, thenQ, blockQ, Vs.put, reduceIte, Nat.reduceEqDiff]
      refine sw_ret ?_
      refine q3 ?_
      obtain ⟨r1, r2, r3⟩ := gh_yes (b := b) (by omega)
      rw [r1, r2, r3]
      exact leaves_tp rfl rfl rfl rfl (take_lf (take_lf (take_lf rfl)))
theorem runs28 (b : List UInt8) (h : b.length < 2 ^ 62) : Runs Try.prog 28 [.val false [(.rd, .sl 1 (bD b))]] ⟨[(false, [.lf (.int .i64 (ghG b))]), (false, [.lf (.int .i64 (ghN b))]), (false, [.lf (.bool (ghOk b))])], [], []⟩ := by
 obtain ⟨c, hb, hs⟩ := body_of tr28
 refine runs_of_sw Try.func28 hb hs rfl (show 1 ≤ 30 by decide) ?_
 clear hb hs c
 refine q15 ?_
 unfold s28
 refine sw_seq ?_
 refine sw_reg ?_
 unfold s28_0
 refine os_ev (evq_mvk) ?_
 refine os_ev (evq_mvk) ?_
 refine os_ev (evq_mvk) ?_
 simp only [runOs, thenQ, blockQ, Vs.put, reduceIte, Nat.reduceEqDiff]
 refine sw_seq ?_
 refine sw_reg ?_
 unfold s28_1
 refine os_ev (evq_mvt rfl) ?_
 refine os_ev (evq_build rfl) ?_
 refine q0 ?_
 simp only [Vs.put, reduceIte, Nat.reduceEqDiff]
 refine os_wro (by intros; nofun) ?_
 refine ⟨_, rfl, ?_⟩
 refine q11 ?_
 refine os_ev (evq_mvt rfl) ?_
 simp only [runOs, thenQ, blockQ, Vs.put, reduceIte, Nat.reduceEqDiff]
 refine sw_seq ?_
 refine sw_reg ?_
 unfold s28_2
 refine os_ev (evq_mvt rfl) ?_
 refine os_callo ?_
 refine q6 ?_
 refine ⟨_, _, runs81 b 0 false h, _, rfl, _, rfl, by simp [handIo, handBx], fa_cons (⟨rfl, .inl rfl, by simp [handIo, handBx], _, rfl, by simp, by first | rfl | (simp; done) | exact (List.take_of_length_le (by simp)).symm⟩) (fa_cons (rfl) (fa_cons (rfl) (fa_nil))), _, rfl, _, rfl, ?_⟩
 refine q7 ?_
 refine q11 ?_
 refine os_ev (evq_mvt rfl) ?_
 simp only [runOs, thenQ, blockQ, Vs.put, reduceIte, Nat.reduceEqDiff]
 refine sw_seq ?_
 refine sw_reg ?_
 unfold s28_3
 refine os_ev (evq_mvt rfl) ?_
 refine os_callo ?_
 refine q6 ?_
 refine ⟨_, _, runs81 b (swA b 0 false) (!swOk b 0 false) h, _, rfl, _, rfl, by simp [handIo, handBx], fa_cons (⟨rfl, .inl rfl, by simp [handIo, handBx], _, rfl, by simp, by first | rfl | (simp; done) | exact (List.take_of_length_le (by simp)).symm⟩) (fa_cons (rfl) (fa_cons (rfl) (fa_nil))), _, rfl, _, rfl, ?_⟩
 refine q7 ?_
 refine q11 ?_
 refine os_ev (evq_mvt rfl) ?_
 simp only [Vs.put, reduceIte, Nat.reduceEqDiff]
 simp only [runOs, thenQ, blockQ, Vs.put, reduceIte, Nat.reduceEqDiff]
 refine sw_seq ?_
 refine sw_seq ?_
 refine sw_reg ?_
 unfold s28_4
 refine os_ev (evq_mvt rfl) ?_
 refine os_callo ?_
 refine q6 ?_
 refine ⟨_, _, runs82 b (swA b (swA b 0 false) (!swOk b 0 false)) (!swOk b (swA b 0 false) (!swOk b 0 false)) h, _, rfl, _, rfl, by simp [handIo, handBx], fa_cons (⟨rfl, .inl rfl, by simp [handIo, handBx], _, rfl, by simp, by first | rfl | (simp; done) | exact (List.take_of_length_le (by simp)).symm⟩) (fa_cons (rfl) (fa_cons (rfl) (fa_nil))), _, rfl, _, rfl, ?_⟩
 refine q7 ?_
 obtain ⟨hR, hN⟩ := scan_head b
 rw [hR]
 refine q11 ?_
 refine os_ev (evq_un rfl rfl) ?_
 refine os_ev (evq_mvt rfl) ?_
 refine os_gs rfl (fun g18 => ?_) (fun g18 => ?_)
 ·try simp only [g18]
  replace g18 := q1 g18
  refine os_gno rfl (by decide) ?_
  refine os_gno rfl (by decide) ?_
  refine os_gno rfl (by decide) ?_
  simp only [Vs.put, reduceIte, Nat.reduceEqDiff]
  refine os_ev (evq_pickt rfl rfl) ?_
  refine os_ev (evq_mvt rfl) ?_
  refine os_gno rfl (by decide) ?_
  refine os_gno rfl (by decide) ?_
  simp only [Vs.put, reduceIte, Nat.reduceEqDiff]
  refine os_gno rfl (by decide) ?_
  refine os_ev (evq_pickt rfl rfl) ?_
  simp only [runOs, thenQ, blockQ, Vs.put, reduceIte, Nat.reduceEqDiff]
  refine sw_cond rfl (fun h1 => ?_) (fun h1 => ?_)
  ·replace h1 := q1 h1
   refine sw_seq ?_
   refine sw_reg ?_
   unfold s28_5
   refine os_ev (evq_mvk) ?_
   refine os_ev (evq_mvk) ?_
   refine os_ev (evq_mvk) ?_
   simp only [Vs.put, reduceIte, Nat.reduceEqDiff]
   simp only [runOs, thenQ, blockQ, Vs.put, reduceIte, Nat.reduceEqDiff]
   refine sw_ret ?_
   refine q3 ?_
   obtain ⟨r1, r2, r3⟩ := gh_no (b := b) (by omega)
   rw [r1, r2, r3]
   exact leaves_tp rfl rfl rfl rfl (take_lf (take_lf (take_lf rfl)))
  ·exact absurd h1 (by simp at h1)
 ·try simp only [g18]
  replace g18 := q1 g18
  obtain ⟨n1, n2⟩ := hN g18.1
  simp only [n1, n2]
  refine os_gdo rfl ?_
  refine os_ev (evq_mvt rfl) ?_
  refine os_gdo rfl ?_
  refine os_callo ?_
  refine q6 ?_
  refine ⟨_, _, runs77 (getW b 0 : Nat) 1 60000, _, rfl, _, rfl, by simp [handIo, handBx], fa_cons (rfl) (fa_cons (rfl) (fa_cons (rfl) (fa_nil))), _, rfl, _, rfl, ?_⟩
  refine q7 ?_
  refine q11 ?_
  refine os_gdo rfl ?_
  refine os_ev (evq_un rfl rfl) ?_
  refine os_ev (evq_pickf rfl rfl) ?_
  refine os_ev (evq_mvt rfl) ?_
  refine os_gs rfl (fun g23 => ?_) (fun g23 => ?_)
  ·try simp only [g23]
   replace g23 := q1 g23
   refine os_gno rfl (by decide) ?_
   refine os_gno rfl (by decide) ?_
   refine os_gno rfl (by decide) ?_
   simp only [Vs.put, reduceIte, Nat.reduceEqDiff]
   refine os_ev (evq_pickt rfl rfl) ?_
   simp only [runOs, thenQ, blockQ, Vs.put, reduceIte, Nat.reduceEqDiff]
   refine sw_cond rfl (fun h1 => ?_) (fun h1 => ?_)
   ·replace h1 := q1 h1
    refine sw_seq ?_
    refine sw_reg ?_
    unfold s28_5
    refine os_ev (evq_mvk) ?_
    refine os_ev (evq_mvk) ?_
    simp only [Vs.put, reduceIte, Nat.reduceEqDiff]
    refine os_ev (evq_mvk) ?_
    simp only [runOs, thenQ, blockQ, Vs.put, reduceIte, Nat.reduceEqDiff]
    refine sw_ret ?_
    refine q3 ?_
    obtain ⟨r1, r2, r3⟩ := gh_no (b := b) (by omega)
    rw [r1, r2, r3]
    exact leaves_tp rfl rfl rfl rfl (take_lf (take_lf (take_lf rfl)))
   ·exact absurd h1 (by simp at h1)
  ·try simp only [g23]
   replace g23 := q1 g23
   refine os_gdo rfl ?_
   refine os_ev (evq_mvt rfl) ?_
   refine os_gdo rfl ?_
   refine os_callo ?_
   refine q6 ?_
   refine ⟨_, _, runs77 (getW b 2 : Nat) 0 30, _, rfl, _, rfl, by simp [handIo, handBx], fa_cons (rfl) (fa_cons (rfl) (fa_cons (rfl) (fa_nil))), _, rfl, _, rfl, ?_⟩
   refine q7 ?_
   refine q11 ?_
   refine os_gdo rfl ?_
   refine os_ev (evq_un rfl rfl) ?_
   refine os_ev (evq_pickf rfl rfl) ?_
   simp only [runOs, thenQ, blockQ, Vs.put, reduceIte, Nat.reduceEqDiff]
   refine sw_cond rfl (fun h1 => ?_) (fun h1 => ?_)
   ·replace h1 := q1 h1
    refine sw_seq ?_
    refine sw_reg ?_
    unfold s28_5
    refine os_ev (evq_mvk) ?_
    simp only [Vs.put, reduceIte, Nat.reduceEqDiff]
    refine os_ev (evq_mvk) ?_
    refine os_ev (evq_mvk) ?_
    simp only [runOs, thenQ, blockQ, Vs.put, reduceIte, Nat.reduceEqDiff]
    refine sw_ret ?_
    refine q3 ?_
    obtain ⟨r1, r2, r3⟩ := gh_no (b := b) (by omega)
    rw [r1, r2, r3]
    exact leaves_tp rfl rfl rfl rfl (take_lf (take_lf (take_lf rfl)))
   ·replace h1 := q1 h1
    refine sw_skip ?_
    simp only [thenQ, blockQ]
    refine sw_seq ?_
    refine sw_reg ?_
    unfold s28_6
    refine os_ev (evq_mvt rfl) ?_
    refine os_ev (evq_mvt rfl) ?_
    refine os_ev (evq_mvt rfl) ?_
    simp only [Vs.put, reduceIte, Nat.reduceEqDiff]
    refine os_ev (evq_mvt rfl) ?_
    refine os_ev (evq_mvk) ?_
    simp only [runOs, thenQ, blockQ, Vs.put, reduceIte, Nat.reduceEqDiff]
    refine sw_ret ?_
    refine q3 ?_
    obtain ⟨r1, r2, r3⟩ := gh_yes (b := b) (by omega)
    rw [r1, r2, r3]
    exact leaves_tp rfl rfl rfl rfl (take_lf (take_lf (take_lf rfl)))
end Go.Proofs.Ytgbapgjdkoojdaa
