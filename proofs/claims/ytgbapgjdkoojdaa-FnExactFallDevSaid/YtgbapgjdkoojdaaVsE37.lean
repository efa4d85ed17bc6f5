import Derived.Test.YtgbapgjdkoojdaaVsQ
import Derived.Test.YtgbapgjdkoojdaaVsE21
import Derived.Test.YtgbapgjdkoojdaaVsE36
set_option linter.unusedVariables false
set_option linter.unusedSimpArgs false
namespace Go.Proofs.Ytgbapgjdkoojdaa
open Go.Vs
set_option linter.unusedSimpArgs false
set_option linter.unusedVariables false
set_option maxHeartbeats 1000000
set_option maxRecDepth 4000
theorem runs14 (secs : List (List UInt8)) (cache : List Wr) (fuse : Int) (down : Bool) (n : Int) (hl : secs.length ≤ 9223372036854775807) (hb : ∀ b ∈ secs, b.length ≤ 9223372036854775807) (hm : cache.length ≤ 9223372036854775807) (hc : ∀ w ∈ cache, w.2.length ≤ 9223372036854775807) : Runs Try.prog 14 [.val true [(.rd, .sl 1 (sD secs)), (.rd, .sl 2 (wD cache)), (.rd, .lf (.int .i64 fuse)), (.rd, .lf (.bool down))], .val false [(.rd, .lf (.int .i64 n))]] ⟨[(false, [.lf (.bool true)])], [], []⟩ := by
 obtain ⟨c, hb, hs⟩ := body_of tr14
 refine runs_of_sw Try.func14 hb hs rfl (show 2 ≤ 74 by decide) ?_
 clear hb hs c
 refine q17 ?_
 unfold s14
 refine sw_seq ?_
 refine sw_reg ?_
 unfold s14_0
 refine os_wro (by intros; nofun) ?_
 refine ⟨_, rfl, ?_⟩
 refine q2 ?_
 refine os_ev (evq_mvk) ?_
 simp only [runOs, thenQ, blockQ, Vs.put, reduceIte, Nat.reduceEqDiff]
 refine sw_seq ?_
 refine sw_reg ?_
 unfold s14_1
 refine os_ev (evq_mvk) ?_
 simp only [runOs, thenQ, blockQ, Vs.put, reduceIte, Nat.reduceEqDiff]
 refine sw_seq ?_
 refine sw_reg ?_
 unfold s14_2
 refine q9 ?_
 refine q0 ?_
 refine os_ev (evq_mvt rfl) ?_
 refine os_callo ?_
 refine q6 ?_
 refine ⟨_, _, runs38 secs cache fuse down 1048576 hl hb hm hc (by omega), _, rfl, _, rfl, by simp [handIo, handBx], fa_cons (⟨rfl, .inl rfl, by simp [handIo, handBx], _, rfl, by simp, by first | rfl | (simp; done) | exact (List.take_of_length_le (by simp)).symm⟩) (fa_cons (⟨rfl, .inl rfl, by simp [handIo, handBx], _, rfl, by simp, by first | rfl | (simp; done) | exact (List.take_of_length_le (by simp)).symm⟩) (fa_cons (rfl) (fa_cons (rfl) (fa_cons (rfl) (fa_nil))))), _, rfl, _, rfl, ?_⟩
 refine q7 ?_
 refine q2 ?_
 refine os_ev (evq_mvt rfl) ?_
 simp only [Vs.put, reduceIte, Nat.reduceEqDiff]
 simp only [runOs, thenQ, blockQ, Vs.put, reduceIte, Nat.reduceEqDiff]
 refine sw_seq ?_
 refine sw_seq ?_
 refine sw_reg ?_
 unfold s14_3
 refine os_ev (evq_mvt rfl) ?_
 refine os_ev (evq_bin rfl rfl rfl) ?_
 simp only [runOs, thenQ, blockQ, Vs.put, reduceIte, Nat.reduceEqDiff]
 refine sw_cond rfl (fun h1 => ?_) (fun h1 => ?_)
 ·replace h1 := q1 h1
  refine sw_seq ?_
  refine sw_reg ?_
  unfold s14_4
  refine os_ev (evq_mvk) ?_
  simp only [runOs, thenQ, blockQ, Vs.put, reduceIte, Nat.reduceEqDiff]
  refine sw_ret ?_
  refine q3 ?_
  first | exact leaves_vals rfl rfl rfl rfl | exact leaves_a rfl rfl rfl rfl
 ·replace h1 := q1 h1
  have hsz : szSS secs + szWS cache ≤ 1048576 := by
   rcases Nat.lt_or_ge 1048576 (szSS secs + szWS cache) with hx | hx
   ·rw [if_neg (by omega)] at h1; omega
   ·exact hx
  have hl2 : secs.length ≤ 1048576 := by simp only [szSS] at hsz; omega
  have hm2 : cache.length ≤ 1048576 := by simp only [szWS] at hsz; omega
  have hb2 : ∀ b ∈ secs, b.length ≤ 1048576 := fun b h => by have := szSS_mem h; omega
  have hc2 : ∀ w ∈ cache, w.2.length ≤ 1048576 := fun w h => by have := szWS_mem h; omega
  have hq1 : szL szB secs ≤ 1048576 := by simp only [szSS] at hsz; omega
  have hq2 : szL szW cache ≤ 1048576 := by rw [szL_W]; omega
  obtain ⟨⟨s, w, f, e⟩, hw⟩ : ∃ x, x = faDev secs cache fuse down n := ⟨_, rfl⟩
  have hsm : SmD (s, w, f, e) := by rw [hw]; exact faDev_sm hl2 hb2 hm2 hc2
  obtain ⟨hq3, hq4⟩ := smD_sz hsm
  obtain ⟨hs1, hs2, hw1, hw2⟩ := hsm
  simp only at hs1 hs2 hw1 hw2 hq3 hq4
  refine sw_skip ?_
  simp only [thenQ, blockQ]
  refine sw_seq ?_
  refine sw_reg ?_
  unfold s14_5
  refine q9 ?_
  refine q0 ?_
  refine os_callo ?_
  refine q6 ?_
  refine ⟨_, _, runs40 secs cache fuse down (by omega) (fun b h => by have := hb2 b h; omega) (by omega) (fun w h => by have := hc2 w h; omega), _, rfl, _, rfl, by simp [handIo, handBx], fa_cons (⟨rfl, .inl rfl, by simp [handIo, handBx], _, rfl, by simp, by first | rfl | (simp; done) | exact (List.take_of_length_le (by simp)).symm⟩) (fa_cons (⟨rfl, .inl rfl, by simp [handIo, handBx], _, rfl, by simp, by first | rfl | (simp; done) | exact (List.take_of_length_le (by simp)).symm⟩) (fa_cons (rfl) (fa_cons (rfl) (fa_nil)))), _, rfl, _, rfl, ?_⟩
  refine q7 ?_
  refine q2 ?_
  refine os_ev (evq_mvt rfl) ?_
  simp only [Vs.put, reduceIte, Nat.reduceEqDiff]
  refine os_callo ?_
  refine q6 ?_
  refine ⟨_, _, runs58 secs cache fuse down n (by omega) (by omega) (fun b h => by have := hb2 b h; omega) (fun w h => by have := hc2 w h; omega), _, rfl, _, rfl, by simp [handIo, handBx], fa_cons (⟨rfl, .inl rfl, by simp [handIo, handBx], _, rfl, by simp, by first | rfl | (simp; done) | exact (List.take_of_length_le (by simp)).symm⟩) (fa_cons (⟨rfl, .inl rfl, by simp [handIo, handBx], _, rfl, by simp, by first | rfl | (simp; done) | exact (List.take_of_length_le (by simp)).symm⟩) (fa_cons (rfl) (fa_cons (rfl) (fa_cons (rfl) (fa_nil))))), _, rfl, _, rfl, ?_⟩
  refine q7 ?_
  simp only [← hw]
  refine q2 ?_
  refine os_wro (by intros; nofun) ?_
  simp only [wr]
  refine q2 ?_
  refine os_wro (by intros; nofun) ?_
  refine st_box rfl rfl rfl rfl (Nat.le_of_ble_eq_true rfl) ?_
  refine q0 ?_
  refine q2 ?_
  simp only [runOs, thenQ, blockQ, Vs.put, reduceIte, Nat.reduceEqDiff]
  refine sw_seq ?_
  refine sw_reg ?_
  unfold s14_6
  refine q9 ?_
  refine q0 ?_
  refine os_callo ?_
  refine q6 ?_
  refine ⟨_, _, runs40 secs cache fuse down (by omega) (fun b h => by have := hb2 b h; omega) (by omega) (fun w h => by have := hc2 w h; omega), _, rfl, _, rfl, by simp [handIo, handBx], fa_cons (⟨rfl, .inl rfl, by simp [handIo, handBx], _, rfl, by simp, by first | rfl | (simp; done) | exact (List.take_of_length_le (by simp)).symm⟩) (fa_cons (⟨rfl, .inl rfl, by simp [handIo, handBx], _, rfl, by simp, by first | rfl | (simp; done) | exact (List.take_of_length_le (by simp)).symm⟩) (fa_cons (rfl) (fa_cons (rfl) (fa_nil)))), _, rfl, _, rfl, ?_⟩
  refine q7 ?_
  refine q2 ?_
  refine os_wro (by intros; nofun) ?_
  simp only [wr]
  refine q2 ?_
  refine os_wro (by intros; nofun) ?_
  refine st_box rfl rfl rfl rfl (Nat.le_of_ble_eq_true rfl) ?_
  refine q0 ?_
  refine q2 ?_
  simp only [runOs, thenQ, blockQ, Vs.put, reduceIte, Nat.reduceEqDiff]
  refine sw_seq ?_
  refine sw_reg ?_
  unfold s14_7
  refine q9 ?_
  refine q0 ?_
  refine os_ev (evq_mvt rfl) ?_
  refine os_callo ?_
  refine q6 ?_
  refine ⟨_, _, runs45 secs cache fuse down n (by omega) (by omega) (fun b h => by have := hb2 b h; omega) (fun w h => by have := hc2 w h; omega), _, rfl, _, rfl, by simp [handIo, handBx], fa_cons (⟨rfl, .inl rfl, by simp [handIo, handBx], _, rfl, by simp, by first | rfl | (simp; done) | exact (List.take_of_length_le (by simp)).symm⟩) (fa_cons (⟨rfl, .inl rfl, by simp [handIo, handBx], _, rfl, by simp, by first | rfl | (simp; done) | exact (List.take_of_length_le (by simp)).symm⟩) (fa_cons (rfl) (fa_cons (rfl) (fa_cons (rfl) (fa_nil))))), _, rfl, _, rfl, ?_⟩
  refine q7 ?_
  simp only [← hw]
  refine q2 ?_
  refine os_wro (by intros; nofun) ?_
  simp only [wr]
  refine q2 ?_
  refine os_wro (by intros; nofun) ?_
  refine st_box rfl rfl rfl rfl (Nat.le_of_ble_eq_true rfl) ?_
  refine q0 ?_
  refine q2 ?_
  simp only [runOs, thenQ, blockQ, Vs.put, reduceIte, Nat.reduceEqDiff]
  refine sw_seq ?_
  refine sw_seq ?_
  refine sw_reg ?_
  unfold s14_8
  refine q9 ?_
  refine q0 ?_
  refine q9 ?_
  refine q0 ?_
  simp only [Vs.put, reduceIte, Nat.reduceEqDiff]
  refine os_callo ?_
  refine q6 ?_
  refine ⟨_, _, runs31 s w f e (fun b h => by have := hs2 b h; omega) (by omega) (fun x h => by have := hw2 x h; omega) (by omega), _, rfl, _, rfl, by simp [handIo, handBx], fa_cons (⟨rfl, .inl rfl, by simp [handIo, handBx], _, rfl, by simp, by first | rfl | (simp; done) | exact (List.take_of_length_le (by simp)).symm⟩) (fa_cons (⟨rfl, .inl rfl, by simp [handIo, handBx], _, rfl, by simp, by first | rfl | (simp; done) | exact (List.take_of_length_le (by simp)).symm⟩) (fa_cons (rfl) (fa_cons (rfl) (fa_cons (⟨rfl, .inl rfl, by simp [handIo, handBx], _, rfl, by simp, by first | rfl | (simp; done) | exact (List.take_of_length_le (by simp)).symm⟩) (fa_cons (⟨rfl, .inl rfl, by simp [handIo, handBx], _, rfl, by simp, by first | rfl | (simp; done) | exact (List.take_of_length_le (by simp)).symm⟩) (fa_cons (rfl) (fa_cons (rfl) (fa_nil)))))))), _, rfl, _, rfl, ?_⟩
  refine q7 ?_
  refine q2 ?_
  refine os_ev (evq_un rfl rfl) ?_
  simp only [runOs, thenQ, blockQ, Vs.put, reduceIte, Nat.reduceEqDiff]
  refine sw_cond rfl (fun h3 => ?_) (fun h3 => ?_)
  ·exact absurd h3 (by simp at h3)
  ·replace h3 := q1 h3
   refine sw_skip ?_
   simp only [thenQ, blockQ]
   refine sw_seq ?_
   refine sw_seq ?_
   refine sw_go rfl rfl ?_
   unfold s14_10
   first | refine rd_m1 (evq_lgb rfl rfl (Nat.le_of_ble_eq_true rfl) rfl) fa_nil rfl (Nat.le_of_ble_eq_true rfl) ?_ | refine rd_m1 (evq_lge rfl rfl (rfl) (Nat.le_of_ble_eq_true rfl) rfl) fa_nil rfl (Nat.le_of_ble_eq_true rfl) ?_
   refine q0 ?_
   first | refine rd_m0 (evq_lgb rfl rfl (Nat.le_of_ble_eq_true rfl) rfl) fa_nil (Nat.not_lt.2 (Nat.le_of_ble_eq_true rfl)) ?_ | refine rd_m0 (evq_lge rfl rfl (rfl) (Nat.le_of_ble_eq_true rfl) rfl) fa_nil (Nat.not_lt.2 (Nat.le_of_ble_eq_true rfl)) ?_
   refine q0 ?_
   refine rd_call ?_
   refine q6 ?_
   refine ⟨_, _, runs40 secs cache fuse down (by omega) (fun b h => by have := hb2 b h; omega) (by omega) (fun w h => by have := hc2 w h; omega), _, rfl, _, rfl, by simp [handIo, handBx], fa_cons (⟨rfl, .inl rfl, by simp [handIo, handBx], _, rfl, by simp, by first | rfl | (simp; done) | exact (List.take_of_length_le (by simp)).symm⟩) (fa_cons (⟨rfl, .inl rfl, by simp [handIo, handBx], _, rfl, by simp, by first | rfl | (simp; done) | exact (List.take_of_length_le (by simp)).symm⟩) (fa_cons (rfl) (fa_cons (rfl) (fa_nil)))), _, rfl, _, rfl, ?_⟩
   refine q7 ?_
   refine ⟨by first | rfl | trivial, (fa_cons (fun _ => by first | exact pd_ev (evq_lgb rfl rfl (Nat.le_of_ble_eq_true rfl) rfl) | exact pd_ev (evq_lge rfl rfl (rfl) (Nat.le_of_ble_eq_true rfl) rfl)) fa_nil), ?_⟩
   refine q2 ?_
   refine rd_call ?_
   refine q6 ?_
   refine ⟨_, _, runs31 secs cache fuse down (fun b h => by have := hb2 b h; omega) (by omega) (fun w h => by have := hc2 w h; omega) (by omega), _, rfl, _, rfl, by simp [handIo, handBx], fa_cons (⟨rfl, .inl rfl, by simp [handIo, handBx], _, rfl, by simp, by first | rfl | (simp; done) | exact (List.take_of_length_le (by simp)).symm⟩) (fa_cons (⟨rfl, .inl rfl, by simp [handIo, handBx], _, rfl, by simp, by first | rfl | (simp; done) | exact (List.take_of_length_le (by simp)).symm⟩) (fa_cons (rfl) (fa_cons (rfl) (fa_cons (⟨rfl, .inl rfl, by simp [handIo, handBx], _, rfl, by simp, by first | rfl | (simp; done) | exact (List.take_of_length_le (by simp)).symm⟩) (fa_cons (⟨rfl, .inl rfl, by simp [handIo, handBx], _, rfl, by simp, by first | rfl | (simp; done) | exact (List.take_of_length_le (by simp)).symm⟩) (fa_cons (rfl) (fa_cons (rfl) (fa_nil)))))))), _, rfl, _, rfl, ?_⟩
   refine q7 ?_
   refine ⟨by first | rfl | trivial, (fa_cons (fun h => absurd h (Nat.not_le.2 (Nat.le_of_ble_eq_true rfl))) fa_nil), ?_⟩
   refine q2 ?_
   refine rd_ev (evq_un rfl rfl) rfl ?_
   refine rd_nil ?_
   simp only [thenQ, blockQ, Vs.put, reduceIte, Nat.reduceEqDiff]
   refine sw_cond rfl (fun h5 => ?_) (fun h5 => ?_)
   ·exact absurd h5 (by simp at h5)
   ·replace h5 := q1 h5
    refine sw_skip ?_
    simp only [thenQ, blockQ]
    refine sw_seq ?_
    refine sw_reg ?_
    unfold s14_12
    refine os_ev (evq_mvk) ?_
    simp only [runOs, thenQ, blockQ, Vs.put, reduceIte, Nat.reduceEqDiff]
    refine sw_seq ?_
    refine sw_reg ?_
    unfold s14_13
    refine q9 ?_
    refine q0 ?_
    refine os_ev (evq_mvt rfl) ?_
    simp only [Vs.put, reduceIte, Nat.reduceEqDiff]
    refine os_callo ?_
    refine q6 ?_
    refine ⟨_, _, runs32 secs cache fuse down 1 (by omega), _, rfl, _, rfl, by simp [handIo, handBx], fa_cons (⟨rfl, rfl, by simp, _, _, rfl, rfl⟩) (fa_cons (⟨rfl, rfl, by simp, _, _, rfl, rfl⟩) (fa_cons (rfl) (fa_cons (rfl) (fa_cons (rfl) (fa_nil))))), _, rfl, _, rfl, ?_⟩
    refine q7 ?_
    simp only [updNode]
    refine q2 ?_
    refine os_ev (evq_mvt rfl) ?_
    simp only [runOs, thenQ, blockQ, Vs.put, reduceIte, Nat.reduceEqDiff]
    refine sw_seq ?_
    refine sw_seq ?_
    refine sw_reg ?_
    unfold s14_14
    refine os_ev (evq_mvt rfl) ?_
    refine os_ev (evq_bin rfl rfl rfl) ?_
    refine os_ev (evq_mvt rfl) ?_
    refine os_gs rfl (fun g41 => ?_) (fun g41 => ?_)
    ·exact absurd g41 (by simp at g41; omega)
    ·try simp only [g41]
     replace g41 := q1 g41
     refine os_gdo rfl ?_
     refine q9 ?_
     refine q0 ?_
     simp only [Vs.put, reduceIte, Nat.reduceEqDiff]
     refine os_gdo rfl ?_
     refine q9 ?_
     refine q0 ?_
     refine os_gdo rfl ?_
     refine os_callo ?_
     refine q6 ?_
     refine ⟨_, _, runs31 s w f e (fun b h => by have := hs2 b h; omega) (by omega) (fun x h => by have := hw2 x h; omega) (by omega), _, rfl, _, rfl, by simp [handIo, handBx], fa_cons (⟨rfl, .inl rfl, by simp [handIo, handBx], _, rfl, by simp, by first | rfl | (simp; done) | exact (List.take_of_length_le (by simp)).symm⟩) (fa_cons (⟨rfl, .inl rfl, by simp [handIo, handBx], _, rfl, by simp, by first | rfl | (simp; done) | exact (List.take_of_length_le (by simp)).symm⟩) (fa_cons (rfl) (fa_cons (rfl) (fa_cons (⟨rfl, .inl rfl, by simp [handIo, handBx], _, rfl, by simp, by first | rfl | (simp; done) | exact (List.take_of_length_le (by simp)).symm⟩) (fa_cons (⟨rfl, .inl rfl, by simp [handIo, handBx], _, rfl, by simp, by first | rfl | (simp; done) | exact (List.take_of_length_le (by simp)).symm⟩) (fa_cons (rfl) (fa_cons (rfl) (fa_nil)))))))), _, rfl, _, rfl, ?_⟩
     refine q7 ?_
     refine q2 ?_
     refine os_gdo rfl ?_
     refine os_ev (evq_un rfl rfl) ?_
     refine os_ev (evq_pickf rfl rfl) ?_
     simp only [runOs, thenQ, blockQ, Vs.put, reduceIte, Nat.reduceEqDiff]
     refine sw_cond rfl (fun h7 => ?_) (fun h7 => ?_)
     ·exact absurd h7 (by simp at h7)
     ·replace h7 := q1 h7
      refine sw_skip ?_
      simp only [thenQ, blockQ]
      refine sw_seq ?_
      refine sw_reg ?_
      unfold s14_16
      refine os_ev (evq_mvk) ?_
      simp only [runOs, thenQ, blockQ, Vs.put, reduceIte, Nat.reduceEqDiff]
      refine sw_seq ?_
      refine sw_reg ?_
      unfold s14_17
      refine q9 ?_
      refine q0 ?_
      simp only [Vs.put, reduceIte, Nat.reduceEqDiff]
      refine os_ev (evq_mvt rfl) ?_
      refine os_callo ?_
      refine q6 ?_
      refine ⟨_, _, runs32 s w f e 1 (by omega), _, rfl, _, rfl, by simp [handIo, handBx], fa_cons (⟨rfl, rfl, by simp, _, _, rfl, rfl⟩) (fa_cons (⟨rfl, rfl, by simp, _, _, rfl, rfl⟩) (fa_cons (rfl) (fa_cons (rfl) (fa_cons (rfl) (fa_nil))))), _, rfl, _, rfl, ?_⟩
      refine q7 ?_
      simp only [updNode]
      refine q2 ?_
      refine os_ev (evq_mvt rfl) ?_
      simp only [runOs, thenQ, blockQ, Vs.put, reduceIte, Nat.reduceEqDiff]
      refine sw_seq ?_
      refine sw_reg ?_
      unfold s14_18
      refine os_ev (evq_mvk) ?_
      simp only [runOs, thenQ, blockQ, Vs.put, reduceIte, Nat.reduceEqDiff]
      refine sw_seq ?_
      refine sw_reg ?_
      unfold s14_19
      refine q9 ?_
      refine q0 ?_
      refine os_ev (evq_mvt rfl) ?_
      simp only [Vs.put, reduceIte, Nat.reduceEqDiff]
      refine os_callo ?_
      refine q6 ?_
      refine ⟨_, _, runs33 s w f e 1 (by omega), _, rfl, _, rfl, by simp [handIo, handBx], fa_cons (⟨rfl, .inl rfl, by simp [handIo, handBx], _, rfl, by simp [mkL_len], by first | rfl | (simp; done) | exact (List.take_of_length_le (by simp [mkL_len])).symm⟩) (fa_cons (⟨rfl, .inl rfl, by simp [handIo, handBx], _, rfl, by simp [mkL_len], by first | rfl | (simp; done) | exact (List.take_of_length_le (by simp [mkL_len])).symm⟩) (fa_cons (rfl) (fa_cons (rfl) (fa_cons (rfl) (fa_nil))))), _, rfl, _, rfl, ?_⟩
      refine q7 ?_
      refine q2 ?_
      refine os_ev (evq_mvt rfl) ?_
      simp only [runOs, thenQ, blockQ, Vs.put, reduceIte, Nat.reduceEqDiff]
      refine sw_seq ?_
      refine sw_seq ?_
      refine sw_reg ?_
      unfold s14_20
      refine os_ev (evq_mvt rfl) ?_
      refine os_ev (evq_bin rfl rfl rfl) ?_
      simp only [runOs, thenQ, blockQ, Vs.put, reduceIte, Nat.reduceEqDiff]
      refine sw_cond rfl (fun h9 => ?_) (fun h9 => ?_)
      ·exact absurd h9 (by first | exact fun hh => hh rfl | (simp at h9; done) | (simp at h9; omega))
      ·replace h9 := q1 h9
       refine sw_skip ?_
       simp only [thenQ, blockQ]
       refine sw_seq ?_
       refine sw_seq ?_
       refine sw_reg ?_
       unfold s14_22
       refine os_ev (evq_mvt rfl) ?_
       refine os_ev (evq_mvt rfl) ?_
       simp only [Vs.put, reduceIte, Nat.reduceEqDiff]
       refine os_ev (evq_bin rfl rfl rfl) ?_
       simp only [runOs, thenQ, blockQ, Vs.put, reduceIte, Nat.reduceEqDiff]
       refine sw_cond rfl (fun h11 => ?_) (fun h11 => ?_)
       ·exact absurd h11 (by first | exact fun hh => hh rfl | (simp at h11; done) | (simp at h11; omega))
       ·replace h11 := q1 h11
        refine sw_skip ?_
        simp only [thenQ, blockQ]
        refine sw_seq ?_
        refine sw_reg ?_
        unfold s14_24
        refine q9 ?_
        refine q0 ?_
        refine os_callo ?_
        refine q6 ?_
        refine ⟨_, _, runs40 secs cache fuse down (by omega) (fun b h => by have := hb2 b h; omega) (by omega) (fun w h => by have := hc2 w h; omega), _, rfl, _, rfl, by simp [handIo, handBx], fa_cons (⟨rfl, .inl rfl, by simp [handIo, handBx], _, rfl, by simp, by first | rfl | (simp; done) | exact (List.take_of_length_le (by simp)).symm⟩) (fa_cons (⟨rfl, .inl rfl, by simp [handIo, handBx], _, rfl, by simp, by first | rfl | (simp; done) | exact (List.take_of_length_le (by simp)).symm⟩) (fa_cons (rfl) (fa_cons (rfl) (fa_nil)))), _, rfl, _, rfl, ?_⟩
        refine q7 ?_
        refine q2 ?_
        refine os_ev (evq_mvt rfl) ?_
        refine os_callo ?_
        refine q6 ?_
        refine ⟨_, _, runs45 secs cache fuse down n (by omega) (by omega) (fun b h => by have := hb2 b h; omega) (fun w h => by have := hc2 w h; omega), _, rfl, _, rfl, by simp [handIo, handBx], fa_cons (⟨rfl, .inl rfl, by simp [handIo, handBx], _, rfl, by simp, by first | rfl | (simp; done) | exact (List.take_of_length_le (by simp)).symm⟩) (fa_cons (⟨rfl, .inl rfl, by simp [handIo, handBx], _, rfl, by simp, by first | rfl | (simp; done) | exact (List.take_of_length_le (by simp)).symm⟩) (fa_cons (rfl) (fa_cons (rfl) (fa_cons (rfl) (fa_nil))))), _, rfl, _, rfl, ?_⟩
        refine q7 ?_
        simp only [← hw]
        refine q2 ?_
        refine os_wro (by intros; nofun) ?_
        simp only [wr]
        refine q2 ?_
        refine os_wro (by intros; nofun) ?_
        refine st_box rfl rfl rfl rfl (Nat.le_of_ble_eq_true rfl) ?_
        refine q0 ?_
        refine q2 ?_
        simp only [runOs, thenQ, blockQ, Vs.put, reduceIte, Nat.reduceEqDiff]
        refine sw_seq ?_
        refine sw_seq ?_
        refine sw_reg ?_
        unfold s14_25
        refine q9 ?_
        refine q0 ?_
        refine q9 ?_
        refine q0 ?_
        simp only [Vs.put, reduceIte, Nat.reduceEqDiff]
        refine os_callo ?_
        refine q6 ?_
        refine ⟨_, _, runs31 s w f e (fun b h => by have := hs2 b h; omega) (by omega) (fun x h => by have := hw2 x h; omega) (by omega), _, rfl, _, rfl, by simp [handIo, handBx], fa_cons (⟨rfl, .inl rfl, by simp [handIo, handBx], _, rfl, by simp, by first | rfl | (simp; done) | exact (List.take_of_length_le (by simp)).symm⟩) (fa_cons (⟨rfl, .inl rfl, by simp [handIo, handBx], _, rfl, by simp, by first | rfl | (simp; done) | exact (List.take_of_length_le (by simp)).symm⟩) (fa_cons (rfl) (fa_cons (rfl) (fa_cons (⟨rfl, .inl rfl, by simp [handIo, handBx], _, rfl, by simp, by first | rfl | (simp; done) | exact (List.take_of_length_le (by simp)).symm⟩) (fa_cons (⟨rfl, .inl rfl, by simp [handIo, handBx], _, rfl, by simp, by first | rfl | (simp; done) | exact (List.take_of_length_le (by simp)).symm⟩) (fa_cons (rfl) (fa_cons (rfl) (fa_nil)))))))), _, rfl, _, rfl, ?_⟩
        refine q7 ?_
        refine q2 ?_
        refine os_ev (evq_un rfl rfl) ?_
        simp only [runOs, thenQ, blockQ, Vs.put, reduceIte, Nat.reduceEqDiff]
        refine sw_cond rfl (fun h13 => ?_) (fun h13 => ?_)
        ·exact absurd h13 (by simp at h13)
        ·replace h13 := q1 h13
         refine sw_skip ?_
         simp only [thenQ, blockQ]
         refine sw_seq ?_
         refine sw_reg ?_
         unfold s14_27
         refine os_ev (evq_mvk) ?_
         simp only [runOs, thenQ, blockQ, Vs.put, reduceIte, Nat.reduceEqDiff]
         refine sw_seq ?_
         refine sw_reg ?_
         unfold s14_28
         refine q9 ?_
         refine q0 ?_
         refine os_ev (evq_mvt rfl) ?_
         refine os_callo ?_
         refine q6 ?_
         refine ⟨_, _, runs33 s w f e 1 (by omega), _, rfl, _, rfl, by simp [handIo, handBx], fa_cons (⟨rfl, .inl rfl, by simp [handIo, handBx], _, rfl, by simp [mkL_len], by first | rfl | (simp; done) | exact (List.take_of_length_le (by simp [mkL_len])).symm⟩) (fa_cons (⟨rfl, .inl rfl, by simp [handIo, handBx], _, rfl, by simp [mkL_len], by first | rfl | (simp; done) | exact (List.take_of_length_le (by simp [mkL_len])).symm⟩) (fa_cons (rfl) (fa_cons (rfl) (fa_cons (rfl) (fa_nil))))), _, rfl, _, rfl, ?_⟩
         refine q7 ?_
         refine q2 ?_
         refine os_ev (evq_mvt rfl) ?_
         simp only [Vs.put, reduceIte, Nat.reduceEqDiff]
         simp only [runOs, thenQ, blockQ, Vs.put, reduceIte, Nat.reduceEqDiff]
         refine sw_seq ?_
         refine sw_seq ?_
         refine sw_reg ?_
         unfold s14_29
         refine os_ev (evq_mvt rfl) ?_
         refine os_ev (evq_bin rfl rfl rfl) ?_
         simp only [runOs, thenQ, blockQ, Vs.put, reduceIte, Nat.reduceEqDiff]
         refine sw_cond rfl (fun h15 => ?_) (fun h15 => ?_)
         ·exact absurd h15 (by first | exact fun hh => hh rfl | (simp at h15; done) | (simp at h15; omega))
         ·replace h15 := q1 h15
          refine sw_skip ?_
          simp only [thenQ, blockQ]
          refine sw_seq ?_
          refine sw_seq ?_
          refine sw_reg ?_
          unfold s14_31
          refine os_ev (evq_mvt rfl) ?_
          refine os_ev (evq_mvt rfl) ?_
          refine os_ev (evq_bin rfl rfl rfl) ?_
          simp only [Vs.put, reduceIte, Nat.reduceEqDiff]
          simp only [runOs, thenQ, blockQ, Vs.put, reduceIte, Nat.reduceEqDiff]
          refine sw_cond rfl (fun h17 => ?_) (fun h17 => ?_)
          ·exact absurd h17 (by first | exact fun hh => hh rfl | (simp at h17; done) | (simp at h17; omega))
          ·replace h17 := q1 h17
           refine sw_skip ?_
           simp only [thenQ, blockQ]
           refine sw_seq ?_
           refine sw_reg ?_
           unfold s14_33
           refine os_ev (evq_mvk) ?_
           simp only [runOs, thenQ, blockQ, Vs.put, reduceIte, Nat.reduceEqDiff]
           refine sw_ret ?_
           refine q3 ?_
           first | exact leaves_vals rfl rfl rfl rfl | exact leaves_a rfl rfl rfl rfl
end Go.Proofs.Ytgbapgjdkoojdaa
