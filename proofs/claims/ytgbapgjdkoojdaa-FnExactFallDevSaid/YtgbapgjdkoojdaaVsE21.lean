import Derived.Test.YtgbapgjdkoojdaaVsQ
import Derived.Test.YtgbapgjdkoojdaaVsE14
import Derived.Test.YtgbapgjdkoojdaaVsE16
import Derived.Test.YtgbapgjdkoojdaaVsE18
import Derived.Test.YtgbapgjdkoojdaaVsE19
import Derived.Test.YtgbapgjdkoojdaaVsE20
set_option linter.unusedVariables false
set_option linter.unusedSimpArgs false
namespace Go.Proofs.Ytgbapgjdkoojdaa
open Go.Vs
set_option linter.unusedSimpArgs false
set_option linter.unusedVariables false
set_option maxHeartbeats 1000000
theorem runs8 (secs : List (List UInt8)) (cache : List Wr) (fuse : Int) (down : Bool) (hl : secs.length ≤ 9223372036854775807) (hb : ∀ b ∈ secs, b.length ≤ 9223372036854775807) (hm : cache.length ≤ 9223372036854775807) (hc : ∀ w ∈ cache, w.2.length ≤ 9223372036854775807) : Runs Try.prog 8 [.val true [(.rd, .sl 1 (sD secs)), (.rd, .sl 2 (wD cache)), (.rd, .lf (.int .i64 fuse)), (.rd, .lf (.bool down))]] ⟨[(false, [.lf (.bool true)])], [], []⟩ := by
 obtain ⟨c, hb, hs⟩ := body_of tr8
 refine runs_of_sw Try.func8 hb hs rfl (show 1 ≤ 27 by decide) ?_
 clear hb hs c
 refine q17 ?_
 unfold s8
 refine sw_seq ?_
 refine sw_reg ?_
 unfold s8_0
 refine os_wro (by intros; nofun) ?_
 refine ⟨_, rfl, ?_⟩
 refine q2 ?_
 refine os_ev (evq_mvk) ?_
 simp only [runOs, thenQ, blockQ, Vs.put, reduceIte, Nat.reduceEqDiff]
 refine sw_seq ?_
 refine sw_reg ?_
 unfold s8_1
 refine os_ev (evq_mvk) ?_
 simp only [runOs, thenQ, blockQ, Vs.put, reduceIte, Nat.reduceEqDiff]
 refine sw_seq ?_
 refine sw_reg ?_
 unfold s8_2
 refine q9 ?_
 refine q0 ?_
 refine os_ev (evq_mvt rfl) ?_
 refine os_callo ?_
 refine q6 ?_
 refine ⟨_, _, runs38 secs cache fuse down 1048576 hl hb hm hc (by omega), _, rfl, _, rfl, by simp [handIo, handBx], fa_cons (⟨rfl, .inl rfl, by simp [handIo, handBx], _, rfl, by simp, by first | rfl | (simp; done) | exact (List.take_of_length_le (by simp)).symm⟩) (fa_cons (⟨rfl, .inl rfl, by simp [handIo, handBx], _, rfl, by simp, by first | rfl | (simp; done) | exact (List.take_of_length_le (by simp)).symm⟩) (fa_cons (rfl) (fa_cons (rfl) (fa_cons (rfl) (fa_nil))))), _, rfl, _, rfl, ?_⟩
 refine q7 ?_
 refine q2 ?_
 refine os_ev (evq_mvt rfl) ?_
 simp only [Vs.put, reduceIte, Nat.reduceEqDiff]
 simp only [runOs, thenQ, blockQ, Vs.put, reduceIte, Nat.reduceEqDiff]
 refine sw_seq ?_
 refine sw_seq ?_
 refine sw_reg ?_
 unfold s8_3
 refine os_ev (evq_mvt rfl) ?_
 refine os_ev (evq_bin rfl rfl rfl) ?_
 simp only [runOs, thenQ, blockQ, Vs.put, reduceIte, Nat.reduceEqDiff]
 refine sw_cond rfl (fun h1 => ?_) (fun h1 => ?_)
 ·replace h1 := q1 h1
  refine sw_seq ?_
  refine sw_reg ?_
  unfold s8_4
  refine os_ev (evq_mvk) ?_
  simp only [runOs, thenQ, blockQ, Vs.put, reduceIte, Nat.reduceEqDiff]
  refine sw_ret ?_
  refine q3 ?_
  first | exact leaves_vals rfl rfl rfl rfl | exact leaves_a rfl rfl rfl rfl
 ·replace h1 := q1 h1
  have hsz : szSS secs + szWS cache ≤ 1048576 := by
   rcases Nat.lt_or_ge 1048576 (szSS secs + szWS cache) with hx | hx
   ·rw [if_neg (by omega)] at h1; omega
   ·exact hx
  have hl2 : secs.length ≤ 1048576 := by simp only [szSS] at hsz; omega
  have hm2 : cache.length ≤ 1048576 := by simp only [szWS] at hsz; omega
  have hb2 : ∀ b ∈ secs, b.length ≤ 1048576 := fun b h => by have := szSS_mem h; omega
  have hc2 : ∀ w ∈ cache, w.2.length ≤ 1048576 := fun w h => by have := szWS_mem h; omega
  refine sw_skip ?_
  simp only [thenQ, blockQ]
  refine sw_seq ?_
  refine sw_reg ?_
  unfold s8_5
  refine q9 ?_
  refine q0 ?_
  refine os_callo ?_
  refine q6 ?_
  refine ⟨_, _, runs40 secs cache fuse down (by omega) (fun b h => by have := hb2 b h; omega) (by omega) (fun w h => by have := hc2 w h; omega), _, rfl, _, rfl, by simp [handIo, handBx], fa_cons (⟨rfl, .inl rfl, by simp [handIo, handBx], _, rfl, by simp, by first | rfl | (simp; done) | exact (List.take_of_length_le (by simp)).symm⟩) (fa_cons (⟨rfl, .inl rfl, by simp [handIo, handBx], _, rfl, by simp, by first | rfl | (simp; done) | exact (List.take_of_length_le (by simp)).symm⟩) (fa_cons (rfl) (fa_cons (rfl) (fa_nil)))), _, rfl, _, rfl, ?_⟩
  refine q7 ?_
  refine q2 ?_
  refine os_callo ?_
  refine q6 ?_
  refine ⟨_, _, runs39 secs cache fuse down (by omega) (by omega), _, rfl, _, rfl, by simp [handIo, handBx], fa_cons (⟨rfl, .inl rfl, by simp [handIo, handBx], _, rfl, by simp, by first | rfl | (simp; done) | exact (List.take_of_length_le (by simp)).symm⟩) (fa_cons (⟨rfl, .inl rfl, by simp [handIo, handBx], _, rfl, by simp, by first | rfl | (simp; done) | exact (List.take_of_length_le (by simp)).symm⟩) (fa_cons (rfl) (fa_cons (rfl) (fa_nil)))), _, rfl, _, rfl, ?_⟩
  refine q7 ?_
  refine q2 ?_
  refine os_ev (evq_mvt rfl) ?_
  simp only [Vs.put, reduceIte, Nat.reduceEqDiff]
  simp only [runOs, thenQ, blockQ, Vs.put, reduceIte, Nat.reduceEqDiff]
  refine sw_seq ?_
  refine sw_reg ?_
  unfold s8_6
  refine q9 ?_
  refine q0 ?_
  refine os_callo ?_
  refine q6 ?_
  refine ⟨_, _, runs40 secs cache fuse down (by omega) (fun b h => by have := hb2 b h; omega) (by omega) (fun w h => by have := hc2 w h; omega), _, rfl, _, rfl, by simp [handIo, handBx], fa_cons (⟨rfl, .inl rfl, by simp [handIo, handBx], _, rfl, by simp, by first | rfl | (simp; done) | exact (List.take_of_length_le (by simp)).symm⟩) (fa_cons (⟨rfl, .inl rfl, by simp [handIo, handBx], _, rfl, by simp, by first | rfl | (simp; done) | exact (List.take_of_length_le (by simp)).symm⟩) (fa_cons (rfl) (fa_cons (rfl) (fa_nil)))), _, rfl, _, rfl, ?_⟩
  refine q7 ?_
  refine q2 ?_
  refine os_wro (by intros; nofun) ?_
  simp only [wr]
  refine q2 ?_
  refine os_wro (by intros; nofun) ?_
  refine st_box rfl rfl rfl rfl (Nat.le_of_ble_eq_true rfl) ?_
  refine q0 ?_
  refine q2 ?_
  simp only [runOs, thenQ, blockQ, Vs.put, reduceIte, Nat.reduceEqDiff]
  refine sw_seq ?_
  refine sw_reg ?_
  unfold s8_7
  refine q9 ?_
  refine q0 ?_
  refine os_callo ?_
  refine q6 ?_
  refine ⟨_, _, runs41 secs cache fuse down (by omega) (by omega), _, rfl, _, rfl, by simp [handIo, handBx], fa_cons (⟨rfl, .inl rfl, by simp [handIo, handBx], _, rfl, by simp, by first | rfl | (simp; done) | exact (List.take_of_length_le (by simp)).symm⟩) (fa_cons (⟨rfl, .inl rfl, by simp [handIo, handBx], _, rfl, by simp, by first | rfl | (simp; done) | exact (List.take_of_length_le (by simp)).symm⟩) (fa_cons (rfl) (fa_cons (rfl) (fa_nil)))), _, rfl, _, rfl, ?_⟩
  refine q7 ?_
  refine q2 ?_
  refine os_ev (evq_mvt rfl) ?_
  simp only [runOs, thenQ, blockQ, Vs.put, reduceIte, Nat.reduceEqDiff]
  refine sw_seq ?_
  refine sw_seq ?_
  refine sw_reg ?_
  unfold s8_8
  refine os_ev (evq_mvt rfl) ?_
  refine os_ev (evq_mvt rfl) ?_
  simp only [Vs.put, reduceIte, Nat.reduceEqDiff]
  refine os_ev (evq_beq rfl rfl) ?_
  simp only [if_true, bne_self_eq_false]
  simp only [runOs, thenQ, blockQ, Vs.put, reduceIte, Nat.reduceEqDiff]
  refine sw_cond rfl (fun h3 => ?_) (fun h3 => ?_)
  ·exact absurd h3 (by decide)
  ·replace h3 := q1 h3
   refine sw_skip ?_
   simp only [thenQ, blockQ]
   refine sw_seq ?_
   refine sw_seq ?_
   refine sw_go rfl rfl ?_
   unfold s8_10
   first | refine rd_m1 (evq_lgb rfl rfl (Nat.le_of_ble_eq_true rfl) rfl) fa_nil rfl (Nat.le_of_ble_eq_true rfl) ?_ | refine rd_m1 (evq_lge rfl rfl (rfl) (Nat.le_of_ble_eq_true rfl) rfl) fa_nil rfl (Nat.le_of_ble_eq_true rfl) ?_
   refine q0 ?_
   first | refine rd_m0 (evq_lgb rfl rfl (Nat.le_of_ble_eq_true rfl) rfl) fa_nil (Nat.not_lt.2 (Nat.le_of_ble_eq_true rfl)) ?_ | refine rd_m0 (evq_lge rfl rfl (rfl) (Nat.le_of_ble_eq_true rfl) rfl) fa_nil (Nat.not_lt.2 (Nat.le_of_ble_eq_true rfl)) ?_
   refine q0 ?_
   refine rd_call ?_
   refine q6 ?_
   refine ⟨_, _, runs40 secs cache fuse down (by omega) (fun b h => by have := hb2 b h; omega) (by omega) (fun w h => by have := hc2 w h; omega), _, rfl, _, rfl, by simp [handIo, handBx], fa_cons (⟨rfl, .inl rfl, by simp [handIo, handBx], _, rfl, by simp, by first | rfl | (simp; done) | exact (List.take_of_length_le (by simp)).symm⟩) (fa_cons (⟨rfl, .inl rfl, by simp [handIo, handBx], _, rfl, by simp, by first | rfl | (simp; done) | exact (List.take_of_length_le (by simp)).symm⟩) (fa_cons (rfl) (fa_cons (rfl) (fa_nil)))), _, rfl, _, rfl, ?_⟩
   refine q7 ?_
   refine ⟨by first | rfl | trivial, (fa_cons (fun _ => by first | exact pd_ev (evq_lgb rfl rfl (Nat.le_of_ble_eq_true rfl) rfl) | exact pd_ev (evq_lge rfl rfl (rfl) (Nat.le_of_ble_eq_true rfl) rfl)) fa_nil), ?_⟩
   refine q2 ?_
   refine rd_call ?_
   refine q6 ?_
   refine ⟨_, _, runs31 secs cache fuse down (fun b h => by have := hb2 b h; omega) (by omega) (fun w h => by have := hc2 w h; omega) (by omega), _, rfl, _, rfl, by simp [handIo, handBx], fa_cons (⟨rfl, .inl rfl, by simp [handIo, handBx], _, rfl, by simp, by first | rfl | (simp; done) | exact (List.take_of_length_le (by simp)).symm⟩) (fa_cons (⟨rfl, .inl rfl, by simp [handIo, handBx], _, rfl, by simp, by first | rfl | (simp; done) | exact (List.take_of_length_le (by simp)).symm⟩) (fa_cons (rfl) (fa_cons (rfl) (fa_cons (⟨rfl, .inl rfl, by simp [handIo, handBx], _, rfl, by simp, by first | rfl | (simp; done) | exact (List.take_of_length_le (by simp)).symm⟩) (fa_cons (⟨rfl, .inl rfl, by simp [handIo, handBx], _, rfl, by simp, by first | rfl | (simp; done) | exact (List.take_of_length_le (by simp)).symm⟩) (fa_cons (rfl) (fa_cons (rfl) (fa_nil)))))))), _, rfl, _, rfl, ?_⟩
   refine q7 ?_
   refine ⟨by first | rfl | trivial, (fa_cons (fun h => absurd h (Nat.not_le.2 (Nat.le_of_ble_eq_true rfl))) fa_nil), ?_⟩
   refine q2 ?_
   refine rd_ev (evq_un rfl rfl) rfl ?_
   refine rd_nil ?_
   simp only [thenQ, blockQ, Vs.put, reduceIte, Nat.reduceEqDiff]
   refine sw_cond rfl (fun h5 => ?_) (fun h5 => ?_)
   ·exact absurd h5 (by simp at h5)
   ·replace h5 := q1 h5
    refine sw_skip ?_
    simp only [thenQ, blockQ]
    refine sw_seq ?_
    refine sw_reg ?_
    unfold s8_12
    refine os_ev (evq_mvk) ?_
    simp only [runOs, thenQ, blockQ, Vs.put, reduceIte, Nat.reduceEqDiff]
    refine sw_ret ?_
    refine q3 ?_
    first | exact leaves_vals rfl rfl rfl rfl | exact leaves_a rfl rfl rfl rfl
end Go.Proofs.Ytgbapgjdkoojdaa
