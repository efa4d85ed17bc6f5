import Derived.Test.YtgbapgjdkoojdaaVsQ
import Derived.Test.YtgbapgjdkoojdaaVsE26
import Derived.Test.YtgbapgjdkoojdaaVsE30
set_option linter.unusedVariables false
set_option linter.unusedSimpArgs false
namespace Go.Proofs.Ytgbapgjdkoojdaa
open Go.Vs
set_option linter.unusedSimpArgs false
set_option linter.unusedVariables false
set_option maxHeartbeats 1000000
set_option maxRecDepth 4000
theorem szL_snoc {α : Type} (s : α → Nat) (l : List α) (x : α) : szL s (l ++ [x]) = szL s l + s x := by simp [szL]
theorem runs15 (secs : List (List UInt8)) (cache : List Wr) (fuse : Int) (down : Bool) (n : Int) (b : List UInt8) (hl : secs.length ≤ 9223372036854775807) (hb : ∀ b ∈ secs, b.length ≤ 9223372036854775807) (hm : cache.length ≤ 9223372036854775807) (hc : ∀ w ∈ cache, w.2.length ≤ 9223372036854775807) : Runs Try.prog 15 [.val true [(.rd, .sl 1 (sD secs)), (.rd, .sl 2 (wD cache)), (.rd, .lf (.int .i64 fuse)), (.rd, .lf (.bool down))], .val false [(.rd, .lf (.int .i64 n))], .val false [(.rd, .sl 1 (bD b))]] ⟨[(false, [.lf (.bool true)])], [], []⟩ := by
 obtain ⟨c, hb, hs⟩ := body_of tr15
 refine runs_of_sw Try.func15 hb hs rfl (show 3 ≤ 95 by decide) ?_
 clear hb hs c
 refine q26 ?_
 unfold s15
 refine sw_seq ?_
 refine sw_reg ?_
 unfold s15_0
 refine os_wro (by intros; nofun) ?_
 refine ⟨_, rfl, ?_⟩
 refine q2 ?_
 refine os_ev (evq_mvk) ?_
 simp only [runOs, thenQ, blockQ, Vs.put, reduceIte, Nat.reduceEqDiff]
 refine sw_seq ?_
 refine sw_seq ?_
 refine sw_reg ?_
 unfold s15_1
 refine os_ev (evq_mvt rfl) ?_
 refine q9 ?_
 refine os_ev (evq_bin rfl rfl rfl) ?_
 simp only [runOs, thenQ, blockQ, Vs.put, reduceIte, Nat.reduceEqDiff]
 refine sw_cond rfl (fun h1 => ?_) (fun h1 => ?_)
 ·replace h1 := q1 h1
  refine sw_seq ?_
  refine sw_reg ?_
  unfold s15_2
  refine os_ev (evq_mvk) ?_
  simp only [Vs.put, reduceIte, Nat.reduceEqDiff]
  simp only [runOs, thenQ, blockQ, Vs.put, reduceIte, Nat.reduceEqDiff]
  refine sw_ret ?_
  refine q3 ?_
  first | exact leaves_vals rfl rfl rfl rfl | exact leaves_a rfl rfl rfl rfl
 ·replace h1 := q1 h1
  refine sw_skip ?_
  simp only [thenQ, blockQ]
  refine sw_seq ?_
  refine sw_reg ?_
  unfold s15_3
  refine os_ev (evq_mvk) ?_
  simp only [runOs, thenQ, blockQ, Vs.put, reduceIte, Nat.reduceEqDiff]
  refine sw_seq ?_
  refine sw_reg ?_
  unfold s15_4
  refine q10 ?_
  refine q0 ?_
  refine os_ev (evq_mvt rfl) ?_
  refine os_callo ?_
  refine q4 ?_
  refine ⟨_, _, runs38 secs cache fuse down 1048576 hl hb hm hc (by omega), _, rfl, _, rfl, by simp [handIo, handBx], fa_cons (⟨rfl, .inl rfl, by simp [handIo, handBx], _, rfl, by simp, by first | rfl | (simp; done) | exact (List.take_of_length_le (by simp)).symm⟩) (fa_cons (⟨rfl, .inl rfl, by simp [handIo, handBx], _, rfl, by simp, by first | rfl | (simp; done) | exact (List.take_of_length_le (by simp)).symm⟩) (fa_cons (rfl) (fa_cons (rfl) (fa_cons (rfl) (fa_nil))))), _, rfl, _, rfl, ?_⟩
  refine q6 ?_
  refine q2 ?_
  refine os_ev (evq_mvt rfl) ?_
  simp only [runOs, thenQ, blockQ, Vs.put, reduceIte, Nat.reduceEqDiff]
  refine sw_seq ?_
  refine sw_seq ?_
  refine sw_reg ?_
  unfold s15_5
  refine os_ev (evq_mvt rfl) ?_
  simp only [Vs.put, reduceIte, Nat.reduceEqDiff]
  refine os_ev (evq_bin rfl rfl rfl) ?_
  simp only [runOs, thenQ, blockQ, Vs.put, reduceIte, Nat.reduceEqDiff]
  refine sw_cond rfl (fun h3 => ?_) (fun h3 => ?_)
  ·replace h3 := q1 h3
   refine sw_seq ?_
   refine sw_reg ?_
   unfold s15_6
   refine os_ev (evq_mvk) ?_
   simp only [runOs, thenQ, blockQ, Vs.put, reduceIte, Nat.reduceEqDiff]
   refine sw_ret ?_
   refine q3 ?_
   first | exact leaves_vals rfl rfl rfl rfl | exact leaves_a rfl rfl rfl rfl
  ·replace h3 := q1 h3
   have hsz : szSS secs + szWS cache ≤ 1048576 := by
    rcases Nat.lt_or_ge 1048576 (szSS secs + szWS cache) with hx | hx
    ·rw [if_neg (by omega)] at h3; omega
    ·exact hx
   have hbl : b.length ≤ 1048576 := by omega
   have hl2 : secs.length ≤ 1048576 := by simp only [szSS] at hsz; omega
   have hm2 : cache.length ≤ 1048576 := by simp only [szWS] at hsz; omega
   have hb2 : ∀ b ∈ secs, b.length ≤ 1048576 := fun b h => by have := szSS_mem h; omega
   have hc2 : ∀ w ∈ cache, w.2.length ≤ 1048576 := fun w h => by have := szWS_mem h; omega
   have hq1 : szL szB secs ≤ 1048576 := by simp only [szSS] at hsz; omega
   have hq2 : szL szW cache ≤ 1048576 := by rw [szL_W]; omega
   obtain ⟨⟨w, f, e⟩, hw⟩ : ∃ x, x = wrDev secs cache fuse down n b := ⟨_, rfl⟩
   obtain ⟨hw1, hw2, hw3⟩ : w.length ≤ 2000000 ∧ (∀ x ∈ w, x.2.length ≤ 1048576) ∧ szL szW w ≤ 4000000 := by
    have := wrDev_cases secs cache fuse down n b
    rw [← hw] at this
    rcases this with h | h
    ·simp only at h; subst h; exact ⟨by omega, hc2, by omega⟩
    ·simp only at h; subst h
     refine ⟨by simp; omega, fun x hx => ?_, ?_⟩
     ·rcases List.mem_append.1 hx with hx | hx
      ·exact hc2 x hx
      ·simp only [List.mem_singleton] at hx; subst hx; exact hbl
     ·rw [szL_snoc]; simp only [szW]; omega
   refine sw_skip ?_
   simp only [thenQ, blockQ]
   refine sw_seq ?_
   refine sw_reg ?_
   unfold s15_7
   refine q10 ?_
   refine q0 ?_
   refine os_callo ?_
   refine q4 ?_
   refine ⟨_, _, runs40 secs cache fuse down (by omega) (fun b h => by have := hb2 b h; omega) (by omega) (fun w h => by have := hc2 w h; omega), _, rfl, _, rfl, by simp [handIo, handBx], fa_cons (⟨rfl, .inl rfl, by simp [handIo, handBx], _, rfl, by simp, by first | rfl | (simp; done) | exact (List.take_of_length_le (by simp)).symm⟩) (fa_cons (⟨rfl, .inl rfl, by simp [handIo, handBx], _, rfl, by simp, by first | rfl | (simp; done) | exact (List.take_of_length_le (by simp)).symm⟩) (fa_cons (rfl) (fa_cons (rfl) (fa_nil)))), _, rfl, _, rfl, ?_⟩
   refine q6 ?_
   refine q2 ?_
   refine os_ev (evq_mvt rfl) ?_
   refine os_ev (evq_mvt rfl) ?_
   simp only [Vs.put, reduceIte, Nat.reduceEqDiff]
   refine os_callo ?_
   refine q4 ?_
   refine ⟨_, _, runs27 b (by omega), _, rfl, _, rfl, by simp [handIo, handBx], fa_cons (⟨rfl, .inl rfl, by simp [handIo, handBx], _, rfl, by simp, by first | rfl | (simp; done) | exact (List.take_of_length_le (by simp)).symm⟩) (fa_nil), _, rfl, _, rfl, ?_⟩
   refine q6 ?_
   refine q2 ?_
   refine os_callo ?_
   refine q4 ?_
   refine ⟨_, _, runs59 secs cache fuse down n b (by omega) (by omega) (fun b h => by have := hb2 b h; omega) (fun w h => by have := hc2 w h; omega) (by omega), _, rfl, _, rfl, by simp [handIo, handBx], fa_cons (⟨rfl, .inl rfl, by simp [handIo, handBx], _, rfl, by simp, by first | rfl | (simp; done) | exact (List.take_of_length_le (by simp)).symm⟩) (fa_cons (⟨rfl, .inl rfl, by simp [handIo, handBx], _, rfl, by simp, by first | rfl | (simp; done) | exact (List.take_of_length_le (by simp)).symm⟩) (fa_cons (rfl) (fa_cons (rfl) (fa_cons (rfl) (fa_cons (⟨rfl, .inl rfl, by simp [handIo, handBx], _, rfl, by simp, by first | rfl | (simp; done) | exact (List.take_of_length_le (by simp)).symm⟩) (fa_nil)))))), _, rfl, _, rfl, ?_⟩
   refine q6 ?_
   simp only [← hw]
   refine q2 ?_
   refine os_wro (by intros; nofun) ?_
   simp only [wr]
   refine q2 ?_
   refine os_wro (by intros; nofun) ?_
   refine st_box rfl rfl rfl rfl (Nat.le_of_ble_eq_true rfl) ?_
   refine q0 ?_
   refine q2 ?_
   simp only [runOs, thenQ, blockQ, Vs.put, reduceIte, Nat.reduceEqDiff]
   refine sw_seq ?_
   refine sw_reg ?_
   unfold s15_8
   refine q10 ?_
   refine q0 ?_
   refine os_callo ?_
   refine q4 ?_
   refine ⟨_, _, runs40 secs cache fuse down (by omega) (fun b h => by have := hb2 b h; omega) (by omega) (fun w h => by have := hc2 w h; omega), _, rfl, _, rfl, by simp [handIo, handBx], fa_cons (⟨rfl, .inl rfl, by simp [handIo, handBx], _, rfl, by simp, by first | rfl | (simp; done) | exact (List.take_of_length_le (by simp)).symm⟩) (fa_cons (⟨rfl, .inl rfl, by simp [handIo, handBx], _, rfl, by simp, by first | rfl | (simp; done) | exact (List.take_of_length_le (by simp)).symm⟩) (fa_cons (rfl) (fa_cons (rfl) (fa_nil)))), _, rfl, _, rfl, ?_⟩
   refine q6 ?_
   refine q2 ?_
   refine os_wro (by intros; nofun) ?_
   simp only [wr]
   refine q2 ?_
   refine os_wro (by intros; nofun) ?_
   refine st_box rfl rfl rfl rfl (Nat.le_of_ble_eq_true rfl) ?_
   refine q0 ?_
   refine q2 ?_
   simp only [runOs, thenQ, blockQ, Vs.put, reduceIte, Nat.reduceEqDiff]
   refine sw_seq ?_
   refine sw_reg ?_
   unfold s15_9
   refine os_ev (evq_mvt rfl) ?_
   refine os_callo ?_
   refine q4 ?_
   refine ⟨_, _, runs27 b (by omega), _, rfl, _, rfl, by simp [handIo, handBx], fa_cons (⟨rfl, .inl rfl, by simp [handIo, handBx], _, rfl, by simp, by first | rfl | (simp; done) | exact (List.take_of_length_le (by simp)).symm⟩) (fa_nil), _, rfl, _, rfl, ?_⟩
   refine q6 ?_
   refine q2 ?_
   refine os_ev (evq_mvt rfl) ?_
   simp only [runOs, thenQ, blockQ, Vs.put, reduceIte, Nat.reduceEqDiff]
   refine sw_seq ?_
   refine sw_reg ?_
   unfold s15_10
   refine q10 ?_
   refine q0 ?_
   refine os_ev (evq_mvt rfl) ?_
   simp only [Vs.put, reduceIte, Nat.reduceEqDiff]
   refine os_ev (evq_mvt rfl) ?_
   refine os_callo ?_
   refine q4 ?_
   refine ⟨_, _, runs43 secs cache fuse down n b (by omega) (by omega) (fun b h => by have := hb2 b h; omega) (fun w h => by have := hc2 w h; omega) (by omega), _, rfl, _, rfl, by simp [handIo, handBx], fa_cons (⟨rfl, .inl rfl, by simp [handIo, handBx], _, rfl, by simp, by first | rfl | (simp; done) | exact (List.take_of_length_le (by simp)).symm⟩) (fa_cons (⟨rfl, .inl rfl, by simp [handIo, handBx], _, rfl, by simp, by first | rfl | (simp; done) | exact (List.take_of_length_le (by simp)).symm⟩) (fa_cons (rfl) (fa_cons (rfl) (fa_cons (rfl) (fa_cons (⟨rfl, .inl rfl, by simp [handIo, handBx], _, rfl, by simp, by first | rfl | (simp; done) | exact (List.take_of_length_le (by simp)).symm⟩) (fa_nil)))))), _, rfl, _, rfl, ?_⟩
   refine q6 ?_
   simp only [← hw]
   refine q2 ?_
   refine os_wro (by intros; nofun) ?_
   simp only [wr]
   refine q2 ?_
   refine os_wro (by intros; nofun) ?_
   refine st_box rfl rfl rfl rfl (Nat.le_of_ble_eq_true rfl) ?_
   refine q0 ?_
   refine q2 ?_
   simp only [runOs, thenQ, blockQ, Vs.put, reduceIte, Nat.reduceEqDiff]
   refine sw_seq ?_
   refine sw_seq ?_
   refine sw_reg ?_
   unfold s15_11
   refine q10 ?_
   refine q0 ?_
   refine q10 ?_
   refine q0 ?_
   refine os_callo ?_
   refine q4 ?_
   refine ⟨_, _, runs31 secs w f e (fun b h => by have := hb2 b h; omega) (by omega) (fun x h => by have := hw2 x h; omega) (by omega), _, rfl, _, rfl, by simp [handIo, handBx], fa_cons (⟨rfl, .inl rfl, by simp [handIo, handBx], _, rfl, by simp, by first | rfl | (simp; done) | exact (List.take_of_length_le (by simp)).symm⟩) (fa_cons (⟨rfl, .inl rfl, by simp [handIo, handBx], _, rfl, by simp, by first | rfl | (simp; done) | exact (List.take_of_length_le (by simp)).symm⟩) (fa_cons (rfl) (fa_cons (rfl) (fa_cons (⟨rfl, .inl rfl, by simp [handIo, handBx], _, rfl, by simp, by first | rfl | (simp; done) | exact (List.take_of_length_le (by simp)).symm⟩) (fa_cons (⟨rfl, .inl rfl, by simp [handIo, handBx], _, rfl, by simp, by first | rfl | (simp; done) | exact (List.take_of_length_le (by simp)).symm⟩) (fa_cons (rfl) (fa_cons (rfl) (fa_nil)))))))), _, rfl, _, rfl, ?_⟩
   refine q6 ?_
   refine q2 ?_
   refine os_ev (evq_un rfl rfl) ?_
   simp only [runOs, thenQ, blockQ, Vs.put, reduceIte, Nat.reduceEqDiff]
   refine sw_cond rfl (fun h5 => ?_) (fun h5 => ?_)
   ·exact absurd h5 (by simp at h5)
   ·replace h5 := q1 h5
    refine sw_skip ?_
    simp only [thenQ, blockQ]
    refine sw_seq ?_
    refine sw_seq ?_
    refine sw_go rfl rfl ?_
    unfold s15_13
    first | refine rd_m1 (evq_lgb rfl rfl (Nat.le_of_ble_eq_true rfl) rfl) fa_nil rfl (Nat.le_of_ble_eq_true rfl) ?_ | refine rd_m1 (evq_lge rfl rfl (rfl) (Nat.le_of_ble_eq_true rfl) rfl) fa_nil rfl (Nat.le_of_ble_eq_true rfl) ?_
    refine q0 ?_
    first | refine rd_m0 (evq_lgb rfl rfl (Nat.le_of_ble_eq_true rfl) rfl) fa_nil (Nat.not_lt.2 (Nat.le_of_ble_eq_true rfl)) ?_ | refine rd_m0 (evq_lge rfl rfl (rfl) (Nat.le_of_ble_eq_true rfl) rfl) fa_nil (Nat.not_lt.2 (Nat.le_of_ble_eq_true rfl)) ?_
    refine q0 ?_
    refine rd_call ?_
    refine q4 ?_
    refine ⟨_, _, runs40 secs cache fuse down (by omega) (fun b h => by have := hb2 b h; omega) (by omega) (fun w h => by have := hc2 w h; omega), _, rfl, _, rfl, by simp [handIo, handBx], fa_cons (⟨rfl, .inl rfl, by simp [handIo, handBx], _, rfl, by simp, by first | rfl | (simp; done) | exact (List.take_of_length_le (by simp)).symm⟩) (fa_cons (⟨rfl, .inl rfl, by simp [handIo, handBx], _, rfl, by simp, by first | rfl | (simp; done) | exact (List.take_of_length_le (by simp)).symm⟩) (fa_cons (rfl) (fa_cons (rfl) (fa_nil)))), _, rfl, _, rfl, ?_⟩
    refine q6 ?_
    refine ⟨by first | rfl | trivial, (fa_cons (fun _ => by first | exact pd_ev (evq_lgb rfl rfl (Nat.le_of_ble_eq_true rfl) rfl) | exact pd_ev (evq_lge rfl rfl (rfl) (Nat.le_of_ble_eq_true rfl) rfl)) fa_nil), ?_⟩
    refine q2 ?_
    refine rd_call ?_
    refine q4 ?_
    refine ⟨_, _, runs31 secs cache fuse down (fun b h => by have := hb2 b h; omega) (by omega) (fun w h => by have := hc2 w h; omega) (by omega), _, rfl, _, rfl, by simp [handIo, handBx], fa_cons (⟨rfl, .inl rfl, by simp [handIo, handBx], _, rfl, by simp, by first | rfl | (simp; done) | exact (List.take_of_length_le (by simp)).symm⟩) (fa_cons (⟨rfl, .inl rfl, by simp [handIo, handBx], _, rfl, by simp, by first | rfl | (simp; done) | exact (List.take_of_length_le (by simp)).symm⟩) (fa_cons (rfl) (fa_cons (rfl) (fa_cons (⟨rfl, .inl rfl, by simp [handIo, handBx], _, rfl, by simp, by first | rfl | (simp; done) | exact (List.take_of_length_le (by simp)).symm⟩) (fa_cons (⟨rfl, .inl rfl, by simp [handIo, handBx], _, rfl, by simp, by first | rfl | (simp; done) | exact (List.take_of_length_le (by simp)).symm⟩) (fa_cons (rfl) (fa_cons (rfl) (fa_nil)))))))), _, rfl, _, rfl, ?_⟩
    refine q6 ?_
    refine ⟨by first | rfl | trivial, (fa_cons (fun h => absurd h (Nat.not_le.2 (Nat.le_of_ble_eq_true rfl))) fa_nil), ?_⟩
    refine q2 ?_
    refine rd_ev (evq_un rfl rfl) rfl ?_
    refine rd_nil ?_
    simp only [thenQ, blockQ, Vs.put, reduceIte, Nat.reduceEqDiff]
    refine sw_cond rfl (fun h7 => ?_) (fun h7 => ?_)
    ·exact absurd h7 (by simp at h7)
    ·replace h7 := q1 h7
     refine sw_skip ?_
     simp only [thenQ, blockQ]
     refine sw_seq ?_
     refine sw_seq ?_
     refine sw_reg ?_
     unfold s15_15
     refine os_ev (evq_mvt rfl) ?_
     refine os_ev (evq_mvt rfl) ?_
     refine os_callo ?_
     refine q4 ?_
     refine ⟨_, _, runs27 b (by omega), _, rfl, _, rfl, by simp [handIo, handBx], fa_cons (⟨rfl, .inl rfl, by simp [handIo, handBx], _, rfl, by simp, by first | rfl | (simp; done) | exact (List.take_of_length_le (by simp)).symm⟩) (fa_nil), _, rfl, _, rfl, ?_⟩
     refine q6 ?_
     refine q2 ?_
     refine os_callo ?_
     refine q4 ?_
     refine ⟨_, _, runs23 b b (by omega), _, rfl, _, rfl, by simp [handIo, handBx], fa_cons (⟨rfl, .inl rfl, by simp [handIo, handBx], _, rfl, by simp, by first | rfl | (simp; done) | exact (List.take_of_length_le (by simp)).symm⟩) (fa_cons (⟨rfl, .inl rfl, by simp [handIo, handBx], _, rfl, by simp, by first | rfl | (simp; done) | exact (List.take_of_length_le (by simp)).symm⟩) (fa_nil)), _, rfl, _, rfl, ?_⟩
     refine q6 ?_
     simp only [decide_true, Bool.not_true]
     refine q2 ?_
     refine os_ev (evq_un rfl rfl) ?_
     simp only [runOs, thenQ, blockQ, Vs.put, reduceIte, Nat.reduceEqDiff]
     refine sw_cond rfl (fun h9 => ?_) (fun h9 => ?_)
     ·exact absurd h9 (by simp at h9)
     ·replace h9 := q1 h9
      refine sw_skip ?_
      simp only [thenQ, blockQ]
      refine sw_seq ?_
      refine sw_reg ?_
      unfold s15_17
      refine os_ev (evq_mvk) ?_
      simp only [runOs, thenQ, blockQ, Vs.put, reduceIte, Nat.reduceEqDiff]
      refine sw_seq ?_
      refine sw_reg ?_
      unfold s15_18
      refine q10 ?_
      refine q0 ?_
      simp only [Vs.put, reduceIte, Nat.reduceEqDiff]
      refine os_ev (evq_mvt rfl) ?_
      refine os_callo ?_
      refine q4 ?_
      refine ⟨_, _, runs32 secs cache fuse down 1 (by omega), _, rfl, _, rfl, by simp [handIo, handBx], fa_cons (⟨rfl, rfl, by simp, _, _, rfl, rfl⟩) (fa_cons (⟨rfl, rfl, by simp, _, _, rfl, rfl⟩) (fa_cons (rfl) (fa_cons (rfl) (fa_cons (rfl) (fa_nil))))), _, rfl, _, rfl, ?_⟩
      refine q6 ?_
      simp only [updNode]
      refine q2 ?_
      refine os_ev (evq_mvt rfl) ?_
      simp only [runOs, thenQ, blockQ, Vs.put, reduceIte, Nat.reduceEqDiff]
      refine sw_seq ?_
      refine sw_reg ?_
      unfold s15_19
      refine os_ev (evq_mvt rfl) ?_
      refine os_ev (evq_mvt rfl) ?_
      refine os_callo ?_
      refine q4 ?_
      refine ⟨_, _, runs24 b (1 + szL szB secs + szL szW cache) (by omega), _, rfl, _, rfl, by simp [handIo, handBx], fa_cons (⟨rfl, rfl, by simp, _, _, rfl, rfl⟩) (fa_cons (rfl) (fa_nil)), _, rfl, _, rfl, ?_⟩
      refine q6 ?_
      simp only [updNode]
      refine q2 ?_
      refine os_ev (evq_mvt rfl) ?_
      simp only [Vs.put, reduceIte, Nat.reduceEqDiff]
      simp only [runOs, thenQ, blockQ, Vs.put, reduceIte, Nat.reduceEqDiff]
      refine sw_seq ?_
      refine sw_seq ?_
      refine sw_reg ?_
      unfold s15_20
      refine os_ev (evq_mvt rfl) ?_
      refine os_ev (evq_bin rfl rfl rfl) ?_
      refine os_ev (evq_mvt rfl) ?_
      refine os_gs rfl (fun g60 => ?_) (fun g60 => ?_)
      ·exact absurd g60 (by simp at g60; omega)
      ·try simp only [g60]
       replace g60 := q1 g60
       refine os_gdo rfl ?_
       refine q10 ?_
       refine q0 ?_
       refine os_gdo rfl ?_
       refine q10 ?_
       refine q0 ?_
       simp only [Vs.put, reduceIte, Nat.reduceEqDiff]
       refine os_gdo rfl ?_
       refine os_callo ?_
       refine q4 ?_
       refine ⟨_, _, runs31 secs w f e (fun b h => by have := hb2 b h; omega) (by omega) (fun x h => by have := hw2 x h; omega) (by omega), _, rfl, _, rfl, by simp [handIo, handBx], fa_cons (⟨rfl, .inl rfl, by simp [handIo, handBx], _, rfl, by simp, by first | rfl | (simp; done) | exact (List.take_of_length_le (by simp)).symm⟩) (fa_cons (⟨rfl, .inl rfl, by simp [handIo, handBx], _, rfl, by simp, by first | rfl | (simp; done) | exact (List.take_of_length_le (by simp)).symm⟩) (fa_cons (rfl) (fa_cons (rfl) (fa_cons (⟨rfl, .inl rfl, by simp [handIo, handBx], _, rfl, by simp, by first | rfl | (simp; done) | exact (List.take_of_length_le (by simp)).symm⟩) (fa_cons (⟨rfl, .inl rfl, by simp [handIo, handBx], _, rfl, by simp, by first | rfl | (simp; done) | exact (List.take_of_length_le (by simp)).symm⟩) (fa_cons (rfl) (fa_cons (rfl) (fa_nil)))))))), _, rfl, _, rfl, ?_⟩
       refine q6 ?_
       refine q2 ?_
       refine os_gdo rfl ?_
       refine os_ev (evq_un rfl rfl) ?_
       refine os_ev (evq_pickf rfl rfl) ?_
       simp only [runOs, thenQ, blockQ, Vs.put, reduceIte, Nat.reduceEqDiff]
       refine sw_cond rfl (fun h11 => ?_) (fun h11 => ?_)
       ·exact absurd h11 (by simp at h11)
       ·replace h11 := q1 h11
        refine sw_skip ?_
        simp only [thenQ, blockQ]
        refine sw_seq ?_
        refine sw_reg ?_
        unfold s15_22
        refine os_ev (evq_mvk) ?_
        simp only [runOs, thenQ, blockQ, Vs.put, reduceIte, Nat.reduceEqDiff]
        refine sw_seq ?_
        refine sw_reg ?_
        unfold s15_23
        refine q10 ?_
        refine q0 ?_
        refine os_ev (evq_mvt rfl) ?_
        simp only [Vs.put, reduceIte, Nat.reduceEqDiff]
        refine os_callo ?_
        refine q4 ?_
        refine ⟨_, _, runs32 secs w f e 1 (by omega), _, rfl, _, rfl, by simp [handIo, handBx], fa_cons (⟨rfl, rfl, by simp, _, _, rfl, rfl⟩) (fa_cons (⟨rfl, rfl, by simp, _, _, rfl, rfl⟩) (fa_cons (rfl) (fa_cons (rfl) (fa_cons (rfl) (fa_nil))))), _, rfl, _, rfl, ?_⟩
        refine q6 ?_
        simp only [updNode]
        refine q2 ?_
        refine os_ev (evq_mvt rfl) ?_
        simp only [runOs, thenQ, blockQ, Vs.put, reduceIte, Nat.reduceEqDiff]
        refine sw_seq ?_
        refine sw_reg ?_
        unfold s15_24
        refine os_ev (evq_mvk) ?_
        simp only [runOs, thenQ, blockQ, Vs.put, reduceIte, Nat.reduceEqDiff]
        refine sw_seq ?_
        refine sw_reg ?_
        unfold s15_25
        refine q10 ?_
        refine q0 ?_
        refine os_ev (evq_mvt rfl) ?_
        refine os_callo ?_
        refine q4 ?_
        refine ⟨_, _, runs33 secs w f e 1 (by omega), _, rfl, _, rfl, by simp [handIo, handBx], fa_cons (⟨rfl, .inl rfl, by simp [handIo, handBx], _, rfl, by simp [mkL_len], by first | rfl | (simp; done) | exact (List.take_of_length_le (by simp [mkL_len])).symm⟩) (fa_cons (⟨rfl, .inl rfl, by simp [handIo, handBx], _, rfl, by simp [mkL_len], by first | rfl | (simp; done) | exact (List.take_of_length_le (by simp [mkL_len])).symm⟩) (fa_cons (rfl) (fa_cons (rfl) (fa_cons (rfl) (fa_nil))))), _, rfl, _, rfl, ?_⟩
        refine q6 ?_
        refine q2 ?_
        refine os_ev (evq_mvt rfl) ?_
        simp only [Vs.put, reduceIte, Nat.reduceEqDiff]
        simp only [runOs, thenQ, blockQ, Vs.put, reduceIte, Nat.reduceEqDiff]
        refine sw_seq ?_
        refine sw_seq ?_
        refine sw_reg ?_
        unfold s15_26
        refine os_ev (evq_mvt rfl) ?_
        refine os_ev (evq_bin rfl rfl rfl) ?_
        simp only [runOs, thenQ, blockQ, Vs.put, reduceIte, Nat.reduceEqDiff]
        refine sw_cond rfl (fun h13 => ?_) (fun h13 => ?_)
        ·exact absurd h13 (by first | exact fun hh => hh rfl | (simp at h13; done) | (simp at h13; omega))
        ·replace h13 := q1 h13
         refine sw_skip ?_
         simp only [thenQ, blockQ]
         refine sw_seq ?_
         refine sw_seq ?_
         refine sw_reg ?_
         unfold s15_28
         refine os_ev (evq_mvt rfl) ?_
         refine os_ev (evq_mvt rfl) ?_
         refine os_ev (evq_bin rfl rfl rfl) ?_
         simp only [Vs.put, reduceIte, Nat.reduceEqDiff]
         simp only [runOs, thenQ, blockQ, Vs.put, reduceIte, Nat.reduceEqDiff]
         refine sw_cond rfl (fun h15 => ?_) (fun h15 => ?_)
         ·exact absurd h15 (by first | exact fun hh => hh rfl | (simp at h15; done) | (simp at h15; omega))
         ·replace h15 := q1 h15
          refine sw_skip ?_
          simp only [thenQ, blockQ]
          refine sw_seq ?_
          refine sw_reg ?_
          unfold s15_30
          refine q10 ?_
          refine q0 ?_
          refine os_callo ?_
          refine q4 ?_
          refine ⟨_, _, runs40 secs cache fuse down (by omega) (fun b h => by have := hb2 b h; omega) (by omega) (fun w h => by have := hc2 w h; omega), _, rfl, _, rfl, by simp [handIo, handBx], fa_cons (⟨rfl, .inl rfl, by simp [handIo, handBx], _, rfl, by simp, by first | rfl | (simp; done) | exact (List.take_of_length_le (by simp)).symm⟩) (fa_cons (⟨rfl, .inl rfl, by simp [handIo, handBx], _, rfl, by simp, by first | rfl | (simp; done) | exact (List.take_of_length_le (by simp)).symm⟩) (fa_cons (rfl) (fa_cons (rfl) (fa_nil)))), _, rfl, _, rfl, ?_⟩
          refine q6 ?_
          refine q2 ?_
          refine os_ev (evq_mvt rfl) ?_
          refine os_ev (evq_mvt rfl) ?_
          refine os_callo ?_
          refine q4 ?_
          refine ⟨_, _, runs27 b (by omega), _, rfl, _, rfl, by simp [handIo, handBx], fa_cons (⟨rfl, .inl rfl, by simp [handIo, handBx], _, rfl, by simp, by first | rfl | (simp; done) | exact (List.take_of_length_le (by simp)).symm⟩) (fa_nil), _, rfl, _, rfl, ?_⟩
          refine q6 ?_
          refine q2 ?_
          refine os_callo ?_
          refine q4 ?_
          refine ⟨_, _, runs43 secs cache fuse down n b (by omega) (by omega) (fun b h => by have := hb2 b h; omega) (fun w h => by have := hc2 w h; omega) (by omega), _, rfl, _, rfl, by simp [handIo, handBx], fa_cons (⟨rfl, .inl rfl, by simp [handIo, handBx], _, rfl, by simp, by first | rfl | (simp; done) | exact (List.take_of_length_le (by simp)).symm⟩) (fa_cons (⟨rfl, .inl rfl, by simp [handIo, handBx], _, rfl, by simp, by first | rfl | (simp; done) | exact (List.take_of_length_le (by simp)).symm⟩) (fa_cons (rfl) (fa_cons (rfl) (fa_cons (rfl) (fa_cons (⟨rfl, .inl rfl, by simp [handIo, handBx], _, rfl, by simp, by first | rfl | (simp; done) | exact (List.take_of_length_le (by simp)).symm⟩) (fa_nil)))))), _, rfl, _, rfl, ?_⟩
          refine q6 ?_
          simp only [← hw]
          refine q2 ?_
          refine os_wro (by intros; nofun) ?_
          simp only [wr]
          refine q2 ?_
          refine os_wro (by intros; nofun) ?_
          refine st_box rfl rfl rfl rfl (Nat.le_of_ble_eq_true rfl) ?_
          refine q0 ?_
          refine q2 ?_
          simp only [runOs, thenQ, blockQ, Vs.put, reduceIte, Nat.reduceEqDiff]
          refine sw_seq ?_
          refine sw_seq ?_
          refine sw_reg ?_
          unfold s15_31
          refine q10 ?_
          refine q0 ?_
          refine q10 ?_
          refine q0 ?_
          simp only [Vs.put, reduceIte, Nat.reduceEqDiff]
          refine os_callo ?_
          refine q4 ?_
          refine ⟨_, _, runs31 secs w f e (fun b h => by have := hb2 b h; omega) (by omega) (fun x h => by have := hw2 x h; omega) (by omega), _, rfl, _, rfl, by simp [handIo, handBx], fa_cons (⟨rfl, .inl rfl, by simp [handIo, handBx], _, rfl, by simp, by first | rfl | (simp; done) | exact (List.take_of_length_le (by simp)).symm⟩) (fa_cons (⟨rfl, .inl rfl, by simp [handIo, handBx], _, rfl, by simp, by first | rfl | (simp; done) | exact (List.take_of_length_le (by simp)).symm⟩) (fa_cons (rfl) (fa_cons (rfl) (fa_cons (⟨rfl, .inl rfl, by simp [handIo, handBx], _, rfl, by simp, by first | rfl | (simp; done) | exact (List.take_of_length_le (by simp)).symm⟩) (fa_cons (⟨rfl, .inl rfl, by simp [handIo, handBx], _, rfl, by simp, by first | rfl | (simp; done) | exact (List.take_of_length_le (by simp)).symm⟩) (fa_cons (rfl) (fa_cons (rfl) (fa_nil)))))))), _, rfl, _, rfl, ?_⟩
          refine q6 ?_
          refine q2 ?_
          refine os_ev (evq_un rfl rfl) ?_
          simp only [runOs, thenQ, blockQ, Vs.put, reduceIte, Nat.reduceEqDiff]
          refine sw_cond rfl (fun h17 => ?_) (fun h17 => ?_)
          ·exact absurd h17 (by simp at h17)
          ·replace h17 := q1 h17
           refine sw_skip ?_
           simp only [thenQ, blockQ]
           refine sw_seq ?_
           refine sw_reg ?_
           unfold s15_33
           refine os_ev (evq_mvk) ?_
           simp only [runOs, thenQ, blockQ, Vs.put, reduceIte, Nat.reduceEqDiff]
           refine sw_seq ?_
           refine sw_reg ?_
           unfold s15_34
           refine q10 ?_
           refine q0 ?_
           refine os_ev (evq_mvt rfl) ?_
           refine os_callo ?_
           refine q4 ?_
           refine ⟨_, _, runs33 secs w f e 1 (by omega), _, rfl, _, rfl, by simp [handIo, handBx], fa_cons (⟨rfl, .inl rfl, by simp [handIo, handBx], _, rfl, by simp [mkL_len], by first | rfl | (simp; done) | exact (List.take_of_length_le (by simp [mkL_len])).symm⟩) (fa_cons (⟨rfl, .inl rfl, by simp [handIo, handBx], _, rfl, by simp [mkL_len], by first | rfl | (simp; done) | exact (List.take_of_length_le (by simp [mkL_len])).symm⟩) (fa_cons (rfl) (fa_cons (rfl) (fa_cons (rfl) (fa_nil))))), _, rfl, _, rfl, ?_⟩
           refine q6 ?_
           refine q2 ?_
           refine os_ev (evq_mvt rfl) ?_
           simp only [Vs.put, reduceIte, Nat.reduceEqDiff]
           simp only [runOs, thenQ, blockQ, Vs.put, reduceIte, Nat.reduceEqDiff]
           refine sw_seq ?_
           refine sw_seq ?_
           refine sw_reg ?_
           unfold s15_35
           refine os_ev (evq_mvt rfl) ?_
           refine os_ev (evq_bin rfl rfl rfl) ?_
           simp only [runOs, thenQ, blockQ, Vs.put, reduceIte, Nat.reduceEqDiff]
           refine sw_cond rfl (fun h19 => ?_) (fun h19 => ?_)
           ·exact absurd h19 (by first | exact fun hh => hh rfl | (simp at h19; done) | (simp at h19; omega))
           ·replace h19 := q1 h19
            refine sw_skip ?_
            simp only [thenQ, blockQ]
            refine sw_seq ?_
            refine sw_seq ?_
            refine sw_reg ?_
            unfold s15_37
            refine os_ev (evq_mvt rfl) ?_
            refine os_ev (evq_mvt rfl) ?_
            refine os_ev (evq_bin rfl rfl rfl) ?_
            simp only [Vs.put, reduceIte, Nat.reduceEqDiff]
            simp only [runOs, thenQ, blockQ, Vs.put, reduceIte, Nat.reduceEqDiff]
            refine sw_cond rfl (fun h21 => ?_) (fun h21 => ?_)
            ·exact absurd h21 (by first | exact fun hh => hh rfl | (simp at h21; done) | (simp at h21; omega))
            ·replace h21 := q1 h21
             refine sw_skip ?_
             simp only [thenQ, blockQ]
             refine sw_seq ?_
             refine sw_reg ?_
             unfold s15_39
             refine os_ev (evq_mvk) ?_
             simp only [runOs, thenQ, blockQ, Vs.put, reduceIte, Nat.reduceEqDiff]
             refine sw_ret ?_
             refine q3 ?_
             first | exact leaves_vals rfl rfl rfl rfl | exact leaves_a rfl rfl rfl rfl
end Go.Proofs.Ytgbapgjdkoojdaa
