import Derived.Test.YtgbapgjdkoojdaaVsQ
import Derived.Test.YtgbapgjdkoojdaaVsSk
import Derived.Test.YtgbapgjdkoojdaaVsE28
set_option linter.unusedVariables false
set_option linter.unusedSimpArgs false
namespace Go.Proofs.Ytgbapgjdkoojdaa
open Go.Vs
set_option linter.unusedSimpArgs false
set_option linter.unusedVariables false
set_option maxHeartbeats 1000000
theorem runs59 (secs : List (List UInt8)) (cache : List Wr) (fuse : Int) (down : Bool) (n : Int) (b : List UInt8) (hl : secs.length < 2 ^ 39) (hm : cache.length < 2 ^ 39) (hs : ∀ b ∈ secs, b.length < 2 ^ 45) (hc : ∀ w ∈ cache, w.2.length < 2 ^ 45) (hb : b.length < 2 ^ 40) : Runs Try.prog 59 [.val true [(.rd, .sl 1 (sD secs)), (.rd, .sl 2 (wD cache)), (.rd, .lf (.int .i64 fuse)), (.rd, .lf (.bool down))], .val false [(.rd, .lf (.int .i64 n))], .val false [(.rd, .sl 1 (bD b))]] ⟨[(true, [.sl 1 (sD secs), .sl 2 (wD (wrDev secs cache fuse down n b).1), .lf (.int .i64 (wrDev secs cache fuse down n b).2.1), .lf (.bool (wrDev secs cache fuse down n b).2.2)])], [], []⟩ := by
 obtain ⟨c, hb, hs⟩ := body_of tr59
 refine runs_of_sw (is := [.load (some 4) (.t 6)]) Try.func59 hb hs (by kernel_rfl) (show 3 ≤ 16 by decide) ?_
 clear hb hs c
 refine q27 ?_
 unfold s59
 refine sw_seq ?_
 refine sw_reg ?_
 unfold s59_0
 refine os_wro (by intros; nofun) ?_
 refine ⟨_, rfl, ?_⟩
 refine q2 ?_
 refine os_wro (by intros; nofun) ?_
 simp only [wr]
 refine q2 ?_
 simp only [runOs, thenQ, blockQ, Vs.put, reduceIte, Nat.reduceEqDiff]
 refine sw_seq ?_
 refine sw_reg ?_
 unfold s59_1
 refine q9 ?_
 refine q0 ?_
 refine os_callo ?_
 refine q6 ?_
 refine ⟨_, _, runs114 secs cache fuse down (by omega) (by omega) hs hc, _, rfl, _, rfl, by simp [handIo, handBx], fa_cons (⟨rfl, .inl rfl, by simp [handIo, handBx], _, rfl, by simp, by first | rfl | (simp; done) | exact (List.take_of_length_le (by simp)).symm⟩) (fa_cons (⟨rfl, .inl rfl, by simp [handIo, handBx], _, rfl, by simp, by first | rfl | (simp; done) | exact (List.take_of_length_le (by simp)).symm⟩) (fa_cons (rfl) (fa_cons (rfl) (fa_nil)))), _, rfl, _, rfl, ?_⟩
 refine q7 ?_
 refine q2 ?_
 refine os_wro (by intros; nofun) ?_
 simp only [wr]
 refine q2 ?_
 refine os_wro (by intros; nofun) ?_
 refine st_box rfl rfl rfl rfl (Nat.le_of_ble_eq_true rfl) ?_
 refine q0 ?_
 refine q2 ?_
 simp only [runOs, thenQ, blockQ, Vs.put, reduceIte, Nat.reduceEqDiff]
 refine sw_seq ?_
 refine sw_seq ?_
 refine sw_reg ?_
 unfold s59_2
 refine q9 ?_
 refine q0 ?_
 refine os_callo ?_
 refine q6 ?_
 refine ⟨_, _, runs39 secs cache fuse down (by omega) (by omega), _, rfl, _, rfl, by simp [handIo, handBx], fa_cons (⟨rfl, .inl rfl, by simp [handIo, handBx], _, rfl, by simp, by first | rfl | (simp; done) | exact (List.take_of_length_le (by simp)).symm⟩) (fa_cons (⟨rfl, .inl rfl, by simp [handIo, handBx], _, rfl, by simp, by first | rfl | (simp; done) | exact (List.take_of_length_le (by simp)).symm⟩) (fa_cons (rfl) (fa_cons (rfl) (fa_nil)))), _, rfl, _, rfl, ?_⟩
 refine q7 ?_
 refine q2 ?_
 simp only [runOs, thenQ, blockQ, Vs.put, reduceIte, Nat.reduceEqDiff]
 refine sw_cond rfl (fun h1 => ?_) (fun h1 => ?_)
 ·replace h1 := q1 h1
  obtain ⟨_, _, hf, _⟩ := dev_of h1
  rw [wrDev_ok h1]
  refine sw_reg ?_
  unfold s59_3
  refine os_ev (evq_mvt rfl) ?_
  refine os_ev (evq_mvt rfl) ?_
  refine os_callo ?_
  refine q6 ?_
  refine ⟨_, _, runs115 secs cache fuse down n b hf (by omega) (by omega) (by omega), _, rfl, _, take_one rfl (by simp), by simp [handIo, handBx], fa_cons (⟨rfl, .inl rfl, by simp [handIo, handBx], _, rfl, by simp, by first | rfl | (simp; done) | exact (List.take_of_length_le (by simp)).symm⟩) (fa_cons (trivial) (fa_cons (rfl) (fa_cons (rfl) (fa_cons (rfl) (fa_cons (⟨rfl, .inl rfl, by simp [handIo, handBx], _, rfl, by simp, by first | rfl | (simp; done) | exact (List.take_of_length_le (by simp)).symm⟩) (fa_nil)))))), _, rfl, _, rfl, ?_⟩
  refine q7 ?_
  refine q2 ?_
  simp only [runOs, thenQ, blockQ, Vs.put, reduceIte, Nat.reduceEqDiff]
  refine sw_seq ?_
  refine sw_reg ?_
  unfold s59_4
  refine q9 ?_
  refine q0 ?_
  simp only [Vs.put, reduceIte, Nat.reduceEqDiff]
  refine os_wro (by intros; nofun) ?_
  refine st_box rfl rfl rfl rfl (Nat.le_of_ble_eq_true rfl) ?_
  refine q0 ?_
  refine q2 ?_
  simp only [runOs, thenQ, blockQ, Vs.put, reduceIte, Nat.reduceEqDiff]
  refine sw_ret ?_
  refine q3 ?_
  refine ⟨_, rfl, Nat.le_of_ble_eq_true rfl, ?_⟩
  refine q13 ?_
  exact leaves_a rfl rfl rfl (take_cons rfl (by simp) (take_cons rfl (by simp) (take_lf (take_lf rfl))))
 ·replace h1 := q1 h1
  rw [wrDev_no (by simpa using h1)]
  refine sw_skip ?_
  simp only [thenQ, blockQ]
  refine sw_seq ?_
  refine sw_reg ?_
  unfold s59_4
  refine q9 ?_
  refine q0 ?_
  refine os_wro (by intros; nofun) ?_
  refine st_box rfl rfl rfl rfl (Nat.le_of_ble_eq_true rfl) ?_
  refine q0 ?_
  refine q2 ?_
  simp only [runOs, thenQ, blockQ, Vs.put, reduceIte, Nat.reduceEqDiff]
  refine sw_ret ?_
  refine q3 ?_
  refine ⟨_, rfl, Nat.le_of_ble_eq_true rfl, ?_⟩
  refine q13 ?_
  exact leaves_a rfl rfl rfl (take_cons rfl (by simp) (take_cons rfl (by simp) (take_lf (take_lf rfl))))
theorem runs100 (secs : List (List UInt8)) (cache : List Wr) (fuse : Int) (down : Bool) (hf : -1 ≤ fuse ∧ fuse ≤ 1000) : Runs Try.prog 100 [.val true [(.ow, .sl 1 (sD secs)), (.ow, .sl 2 (wD cache)), (.rd, .lf (.int .i64 fuse)), (.rd, .lf (.bool down))]] ⟨[(true, [.sl 1 (sD secs), .sl 2 (wD cache), .lf (.int .i64 (opF fuse)), .lf (.bool (opD fuse down))]), (false, [.lf (.bool (opR fuse))])], [], []⟩ := by
 obtain ⟨c, hb, hs⟩ := body_of tr100
 refine runs_of_sw (is := [.load (some 4) (.t 2), .mv (.t 3)]) Try.func100 hb hs (by kernel_rfl) (show 1 ≤ 18 by decide) ?_
 clear hb hs c
 refine q17 ?_
 unfold s100
 have e1 : 0 < fuse → IntKind.i64.wrap (fuse - 1) = fuse - 1 := fun h => wrap64 (by omega) (by omega)
 refine sw_seq ?_
 refine sw_reg ?_
 unfold s100_0
 refine os_wro (by intros; nofun) ?_
 refine ⟨_, rfl, ?_⟩
 refine q2 ?_
 refine os_wro (by intros; nofun) ?_
 simp only [wr]
 refine q2 ?_
 refine os_ev (evq_mvk) ?_
 simp only [runOs, thenQ, blockQ, Vs.put, reduceIte, Nat.reduceEqDiff]
 refine sw_seq ?_
 refine sw_seq ?_
 refine sw_reg ?_
 unfold s100_1
 refine q5 ?_
 refine q0 ?_
 refine q8 ?_
 refine q0 ?_
 refine os_ev (evq_bin rfl rfl rfl) ?_
 simp only [runOs, thenQ, blockQ, Vs.put, reduceIte, Nat.reduceEqDiff]
 refine sw_cond rfl (fun h1 => ?_) (fun h1 => ?_)
 ·replace h1 := q1 h1
  refine sw_seq ?_
  refine sw_reg ?_
  unfold s100_2
  refine q5 ?_
  refine q0 ?_
  simp only [Vs.put, reduceIte, Nat.reduceEqDiff]
  refine os_wro (by intros; nofun) ?_
  refine st_box rfl rfl rfl rfl (Nat.le_of_ble_eq_true rfl) ?_
  refine q0 ?_
  refine q2 ?_
  refine q5 ?_
  refine q0 ?_
  refine os_wro (by intros; nofun) ?_
  refine st_box rfl rfl rfl rfl (Nat.le_of_ble_eq_true rfl) ?_
  refine q0 ?_
  refine q2 ?_
  simp only [runOs, thenQ, blockQ, Vs.put, reduceIte, Nat.reduceEqDiff]
  refine sw_seq ?_
  refine sw_reg ?_
  unfold s100_3
  refine q9 ?_
  refine q0 ?_
  refine os_wro (by intros; nofun) ?_
  refine st_box rfl rfl rfl rfl (Nat.le_of_ble_eq_true rfl) ?_
  refine q0 ?_
  refine q2 ?_
  refine os_ev (evq_mvk) ?_
  simp only [runOs, thenQ, blockQ, Vs.put, reduceIte, Nat.reduceEqDiff]
  refine sw_ret ?_
  refine q3 ?_
  refine ⟨_, rfl, Nat.le_of_ble_eq_true rfl, ?_⟩
  refine q13 ?_
  rw [(op_zero (down := down) h1).1, (op_zero (down := down) h1).2.1, (op_zero (down := down) h1).2.2]
  refine leaves_tp rfl rfl rfl rfl (take_cons rfl (by simp) (take_cons rfl (by simp) (take_lf (take_lf (take_lf rfl)))))
 ·replace h1 := q1 h1
  refine sw_skip ?_
  simp only [thenQ, blockQ]
  refine sw_seq ?_
  refine sw_seq ?_
  refine sw_reg ?_
  unfold s100_4
  refine q5 ?_
  refine q0 ?_
  refine q8 ?_
  refine q0 ?_
  simp only [Vs.put, reduceIte, Nat.reduceEqDiff]
  refine os_ev (evq_bin rfl rfl rfl) ?_
  simp only [runOs, thenQ, blockQ, Vs.put, reduceIte, Nat.reduceEqDiff]
  refine sw_cond rfl (fun h3 => ?_) (fun h3 => ?_)
  ·replace h3 := q1 h3
   refine sw_reg ?_
   unfold s100_5
   refine q5 ?_
   refine q0 ?_
   refine q8 ?_
   refine q0 ?_
   refine os_ev (evq_bin rfl rfl rfl) ?_
   simp only [e1 h3]
   refine q5 ?_
   refine q0 ?_
   simp only [Vs.put, reduceIte, Nat.reduceEqDiff]
   refine os_wro (by intros; nofun) ?_
   refine st_box rfl rfl rfl rfl (Nat.le_of_ble_eq_true rfl) ?_
   refine q0 ?_
   refine q2 ?_
   simp only [runOs, thenQ, blockQ, Vs.put, reduceIte, Nat.reduceEqDiff]
   refine sw_seq ?_
   refine sw_reg ?_
   unfold s100_6
   refine q9 ?_
   refine q0 ?_
   refine os_wro (by intros; nofun) ?_
   refine st_box rfl rfl rfl rfl (Nat.le_of_ble_eq_true rfl) ?_
   refine q0 ?_
   refine q2 ?_
   refine os_ev (evq_mvk) ?_
   simp only [runOs, thenQ, blockQ, Vs.put, reduceIte, Nat.reduceEqDiff]
   refine sw_ret ?_
   refine q3 ?_
   refine ⟨_, rfl, Nat.le_of_ble_eq_true rfl, ?_⟩
   refine q13 ?_
   rw [(op_pos (down := down) h1).1, (op_pos (down := down) h1).2, show opF fuse = fuse - 1 from by rw [opF, if_neg h1, if_pos h3]]
   refine leaves_tp rfl rfl rfl rfl (take_cons rfl (by simp) (take_cons rfl (by simp) (take_lf (take_lf (take_lf rfl)))))
  ·replace h3 := q1 h3
   refine sw_skip ?_
   simp only [thenQ, blockQ]
   refine sw_seq ?_
   refine sw_reg ?_
   unfold s100_6
   refine q9 ?_
   refine q0 ?_
   refine os_wro (by intros; nofun) ?_
   refine st_box rfl rfl rfl rfl (Nat.le_of_ble_eq_true rfl) ?_
   refine q0 ?_
   refine q2 ?_
   refine os_ev (evq_mvk) ?_
   simp only [runOs, thenQ, blockQ, Vs.put, reduceIte, Nat.reduceEqDiff]
   refine sw_ret ?_
   refine q3 ?_
   refine ⟨_, rfl, Nat.le_of_ble_eq_true rfl, ?_⟩
   refine q13 ?_
   rw [(op_pos (down := down) h1).1, (op_pos (down := down) h1).2, show opF fuse = fuse from by rw [opF, if_neg h1, if_neg (by omega)]]
   refine leaves_tp rfl rfl rfl rfl (take_cons rfl (by simp) (take_cons rfl (by simp) (take_lf (take_lf (take_lf rfl)))))
end Go.Proofs.Ytgbapgjdkoojdaa
