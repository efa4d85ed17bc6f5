import Derived.Test.YtgbapgjdkoojdaaVsQ
import Derived.Test.YtgbapgjdkoojdaaVsSk
import Derived.Test.YtgbapgjdkoojdaaVsE32
set_option linter.unusedVariables false
set_option linter.unusedSimpArgs false
namespace Go.Proofs.Ytgbapgjdkoojdaa
open Go.Vs
set_option linter.unusedSimpArgs false
set_option linter.unusedVariables false
set_option maxHeartbeats 1000000
set_option maxRecDepth 4000
theorem runs67 (secs : List (List UInt8)) (cache : List Wr) (fuse : Int) (down : Bool) (hl : secs.length < 2 ^ 39) (hm : cache.length < 2 ^ 39) (hs : ∀ b ∈ secs, b.length < 2 ^ 45) (hc : ∀ w ∈ cache, w.2.length < 2 ^ 45) : Runs Try.prog 67 [.val true [(.rd, .sl 1 (sD secs)), (.rd, .sl 2 (wD cache)), (.rd, .lf (.int .i64 fuse)), (.rd, .lf (.bool down))]] ⟨[(true, [.sl 1 (sD (flDev secs cache fuse down).1), .sl 2 (wD (flDev secs cache fuse down).2.1), .lf (.int .i64 (flDev secs cache fuse down).2.2.1), .lf (.bool (flDev secs cache fuse down).2.2.2)])], [], []⟩ := by
 obtain ⟨c, hb, hs⟩ := body_of tr67
 refine runs_of_sw (is := [.load (some 4) (.t 2)]) Try.func67 hb hs (by kernel_rfl) (show 1 ≤ 10 by decide) ?_
 clear hb hs c
 refine q18 ?_
 unfold s67
 refine sw_seq ?_
 refine sw_reg ?_
 unfold s67_0
 refine os_wro (by intros; nofun) ?_
 refine ⟨_, rfl, ?_⟩
 refine q2 ?_
 refine os_wro (by intros; nofun) ?_
 simp only [wr]
 refine q2 ?_
 simp only [runOs, thenQ, blockQ, Vs.put, reduceIte, Nat.reduceEqDiff]
 refine sw_seq ?_
 refine sw_reg ?_
 unfold s67_1
 refine q9 ?_
 refine q0 ?_
 refine os_callo ?_
 refine q5 ?_
 refine ⟨_, _, runs114 secs cache fuse down (by omega) (by omega) hs hc, _, rfl, _, rfl, by simp [handIo, handBx], fa_cons (⟨rfl, .inl rfl, by simp [handIo, handBx], _, rfl, by simp, by first | rfl | (simp; done) | exact (List.take_of_length_le (by simp)).symm⟩) (fa_cons (⟨rfl, .inl rfl, by simp [handIo, handBx], _, rfl, by simp, by first | rfl | (simp; done) | exact (List.take_of_length_le (by simp)).symm⟩) (fa_cons (rfl) (fa_cons (rfl) (fa_nil)))), _, rfl, _, rfl, ?_⟩
 refine q6 ?_
 refine q2 ?_
 refine os_wro (by intros; nofun) ?_
 simp only [wr]
 refine q2 ?_
 refine os_wro (by intros; nofun) ?_
 refine st_box rfl rfl rfl rfl (Nat.le_of_ble_eq_true rfl) ?_
 refine q0 ?_
 refine q2 ?_
 simp only [runOs, thenQ, blockQ, Vs.put, reduceIte, Nat.reduceEqDiff]
 refine sw_seq ?_
 refine sw_seq ?_
 refine sw_reg ?_
 unfold s67_2
 refine q9 ?_
 refine q0 ?_
 refine os_callo ?_
 refine q5 ?_
 refine ⟨_, _, runs39 secs cache fuse down (by omega) (by omega), _, rfl, _, rfl, by simp [handIo, handBx], fa_cons (⟨rfl, .inl rfl, by simp [handIo, handBx], _, rfl, by simp, by first | rfl | (simp; done) | exact (List.take_of_length_le (by simp)).symm⟩) (fa_cons (⟨rfl, .inl rfl, by simp [handIo, handBx], _, rfl, by simp, by first | rfl | (simp; done) | exact (List.take_of_length_le (by simp)).symm⟩) (fa_cons (rfl) (fa_cons (rfl) (fa_nil)))), _, rfl, _, rfl, ?_⟩
 refine q6 ?_
 refine q2 ?_
 simp only [runOs, thenQ, blockQ, Vs.put, reduceIte, Nat.reduceEqDiff]
 refine sw_cond rfl (fun h1 => ?_) (fun h1 => ?_)
 ·replace h1 := q1 h1
  obtain ⟨_, _, hf, _, hd0⟩ := dev_of h1
  have hd : ∀ w ∈ cache, 0 ≤ w.1 ∧ w.1 ≤ (secs.length : Int) - 1 := fun w hw => ⟨(hd0 w hw).1, (hd0 w hw).2.1⟩
  rw [flDev_ok h1]
  refine sw_reg ?_
  unfold s67_3
  refine os_callo ?_
  refine q5 ?_
  refine ⟨_, _, runs118 secs cache fuse down hf (by omega) (by omega) hd, _, rfl, _, (take_cons rfl (by simp) (take_cons rfl (by simp) rfl)), by simp [handIo, handBx], fa_cons (trivial) (fa_cons (trivial) (fa_cons (rfl) (fa_cons (rfl) (fa_nil)))), _, rfl, _, rfl, ?_⟩
  refine q6 ?_
  refine q2 ?_
  simp only [runOs, thenQ, blockQ, Vs.put, reduceIte, Nat.reduceEqDiff]
  refine sw_seq ?_
  refine sw_reg ?_
  unfold s67_4
  refine q9 ?_
  refine q0 ?_
  refine os_wro (by intros; nofun) ?_
  refine st_box rfl rfl rfl rfl (Nat.le_of_ble_eq_true rfl) ?_
  refine q0 ?_
  refine q2 ?_
  simp only [runOs, thenQ, blockQ, Vs.put, reduceIte, Nat.reduceEqDiff]
  refine sw_ret ?_
  refine q3 ?_
  refine ⟨_, rfl, Nat.le_of_ble_eq_true rfl, ?_⟩
  refine q13 ?_
  exact leaves_a rfl rfl rfl (take_cons rfl (by simp) (take_cons rfl (by simp) (take_lf (take_lf rfl))))
 ·replace h1 := q1 h1
  rw [flDev_no (by simpa using h1)]
  refine sw_skip ?_
  simp only [thenQ, blockQ]
  refine sw_seq ?_
  refine sw_reg ?_
  unfold s67_4
  refine q9 ?_
  refine q0 ?_
  refine os_wro (by intros; nofun) ?_
  refine st_box rfl rfl rfl rfl (Nat.le_of_ble_eq_true rfl) ?_
  refine q0 ?_
  refine q2 ?_
  simp only [runOs, thenQ, blockQ, Vs.put, reduceIte, Nat.reduceEqDiff]
  refine sw_ret ?_
  refine q3 ?_
  refine ⟨_, rfl, Nat.le_of_ble_eq_true rfl, ?_⟩
  refine q13 ?_
  exact leaves_a rfl rfl rfl (take_cons rfl (by simp) (take_cons rfl (by simp) (take_lf (take_lf rfl))))
theorem runs44 (secs : List (List UInt8)) (cache : List Wr) (fuse : Int) (down : Bool) (hl : secs.length < 2 ^ 39) (hm : cache.length < 2 ^ 39) (hs : ∀ b ∈ secs, b.length < 2 ^ 45) (hc : ∀ w ∈ cache, w.2.length < 2 ^ 45) : Runs Try.prog 44 [.val true [(.rd, .sl 1 (sD secs)), (.rd, .sl 2 (wD cache)), (.rd, .lf (.int .i64 fuse)), (.rd, .lf (.bool down))]] ⟨[(true, [.sl 1 (sD (flDev secs cache fuse down).1), .sl 2 (wD (flDev secs cache fuse down).2.1), .lf (.int .i64 (flDev secs cache fuse down).2.2.1), .lf (.bool (flDev secs cache fuse down).2.2.2)])], [], []⟩ := by
 obtain ⟨c, hb, hs⟩ := body_of tr44
 refine runs_of_sw (is := [.load (some 4) (.t 2)]) Try.func44 hb hs (by kernel_rfl) (show 1 ≤ 44 by decide) ?_
 clear hb hs c
 refine q18 ?_
 unfold s44
 refine sw_seq ?_
 refine sw_reg ?_
 unfold s44_0
 refine os_wro (by intros; nofun) ?_
 refine ⟨_, rfl, ?_⟩
 refine q2 ?_
 refine os_wro (by intros; nofun) ?_
 simp only [wr]
 refine q2 ?_
 simp only [runOs, thenQ, blockQ, Vs.put, reduceIte, Nat.reduceEqDiff]
 refine sw_seq ?_
 refine sw_reg ?_
 unfold s44_1
 refine q9 ?_
 refine q0 ?_
 refine os_callo ?_
 refine q5 ?_
 refine ⟨_, _, runs99 secs cache fuse down (by omega) (by omega) hs hc, _, rfl, _, rfl, by simp [handIo, handBx], fa_cons (⟨rfl, .inl rfl, by simp [handIo, handBx], _, rfl, by simp, by first | rfl | (simp; done) | exact (List.take_of_length_le (by simp)).symm⟩) (fa_cons (⟨rfl, .inl rfl, by simp [handIo, handBx], _, rfl, by simp, by first | rfl | (simp; done) | exact (List.take_of_length_le (by simp)).symm⟩) (fa_cons (rfl) (fa_cons (rfl) (fa_nil)))), _, rfl, _, rfl, ?_⟩
 refine q6 ?_
 refine q2 ?_
 refine os_wro (by intros; nofun) ?_
 simp only [wr]
 refine q2 ?_
 refine os_wro (by intros; nofun) ?_
 refine st_box rfl rfl rfl rfl (Nat.le_of_ble_eq_true rfl) ?_
 refine q0 ?_
 refine q2 ?_
 simp only [runOs, thenQ, blockQ, Vs.put, reduceIte, Nat.reduceEqDiff]
 refine sw_seq ?_
 refine sw_seq ?_
 refine sw_reg ?_
 unfold s44_2
 refine q9 ?_
 refine q0 ?_
 refine os_callo ?_
 refine q5 ?_
 refine ⟨_, _, runs41 secs cache fuse down (by omega) (by omega), _, rfl, _, rfl, by simp [handIo, handBx], fa_cons (⟨rfl, .inl rfl, by simp [handIo, handBx], _, rfl, by simp, by first | rfl | (simp; done) | exact (List.take_of_length_le (by simp)).symm⟩) (fa_cons (⟨rfl, .inl rfl, by simp [handIo, handBx], _, rfl, by simp, by first | rfl | (simp; done) | exact (List.take_of_length_le (by simp)).symm⟩) (fa_cons (rfl) (fa_cons (rfl) (fa_nil)))), _, rfl, _, rfl, ?_⟩
 refine q6 ?_
 refine q2 ?_
 refine os_ev (evq_un rfl rfl) ?_
 refine os_ev (evq_mvt rfl) ?_
 refine os_gs rfl (fun g12 => ?_) (fun g12 => ?_)
 ·try simp only [g12]
  replace g12 := q1 g12
  refine os_gno rfl (by decide) ?_
  refine os_gno rfl (by decide) ?_
  refine os_ev (evq_pickt rfl rfl) ?_
  simp only [runOs, thenQ, blockQ, Vs.put, reduceIte, Nat.reduceEqDiff]
  refine sw_cond rfl (fun h1 => ?_) (fun h1 => ?_)
  ·replace h1 := q1 h1
   refine sw_seq ?_
   refine sw_reg ?_
   unfold s44_3
   refine q9 ?_
   refine q0 ?_
   refine os_wro (by intros; nofun) ?_
   refine st_box rfl rfl rfl rfl (Nat.le_of_ble_eq_true rfl) ?_
   refine q0 ?_
   refine q2 ?_
   simp only [runOs, thenQ, blockQ, Vs.put, reduceIte, Nat.reduceEqDiff]
   refine sw_ret ?_
   refine q3 ?_
   rw [flDev_no (by simp_all)]
   refine ⟨_, rfl, Nat.le_of_ble_eq_true rfl, ?_⟩
   refine q13 ?_
   exact leaves_a rfl rfl rfl (take_cons rfl (by simp) (take_cons rfl (by simp) (take_lf (take_lf rfl))))
  ·exact absurd h1 (by simp at h1)
 ·try simp only [g12]
  replace g12 := q1 g12
  refine os_gdo rfl ?_
  refine q7 ?_
  refine q0 ?_
  refine os_gdo rfl ?_
  refine q8 ?_
  refine q0 ?_
  simp only [Vs.put, reduceIte, Nat.reduceEqDiff]
  refine os_ev (evq_pickf rfl rfl) ?_
  simp only [runOs, thenQ, blockQ, Vs.put, reduceIte, Nat.reduceEqDiff]
  refine sw_cond rfl (fun h1 => ?_) (fun h1 => ?_)
  ·replace h1 := q1 h1
   subst h1
   obtain ⟨_, _, hf, _, hd0⟩ := dev_of g12
   have hd : ∀ w ∈ cache, 0 ≤ w.1 ∧ w.1 ≤ (secs.length : Int) - 1 := fun w hw => ⟨(hd0 w hw).1, (hd0 w hw).2.1⟩
   rw [flDev_ok g12]
   rw [flC_no rfl]
   refine sw_seq ?_
   refine sw_reg ?_
   unfold s44_3
   refine q9 ?_
   refine q0 ?_
   refine os_wro (by intros; nofun) ?_
   refine st_box rfl rfl rfl rfl (Nat.le_of_ble_eq_true rfl) ?_
   refine q0 ?_
   refine q2 ?_
   simp only [runOs, thenQ, blockQ, Vs.put, reduceIte, Nat.reduceEqDiff]
   refine sw_ret ?_
   refine q3 ?_
   refine ⟨_, rfl, Nat.le_of_ble_eq_true rfl, ?_⟩
   refine q13 ?_
   exact leaves_a rfl rfl rfl (take_cons rfl (by simp) (take_cons rfl (by simp) (take_lf (take_lf rfl))))
  ·replace h1 := q1 h1
   subst h1
   obtain ⟨_, _, hf, _, hd0⟩ := dev_of g12
   have hd : ∀ w ∈ cache, 0 ≤ w.1 ∧ w.1 ≤ (secs.length : Int) - 1 := fun w hw => ⟨(hd0 w hw).1, (hd0 w hw).2.1⟩
   rw [flDev_ok g12]
   refine sw_skip ?_
   simp only [thenQ, blockQ]
   refine sw_seq ?_
   refine sw_reg ?_
   unfold s44_4
   refine q9 ?_
   refine q0 ?_
   refine os_callo ?_
   refine q5 ?_
   refine ⟨_, _, runs100 secs cache fuse false hf, _, rfl, _, (take_cons rfl (by simp) (take_cons rfl (by simp) rfl)), by simp [handIo, handBx], fa_cons (trivial) (fa_cons (trivial) (fa_cons (rfl) (fa_cons (rfl) (fa_nil)))), _, rfl, _, rfl, ?_⟩
   refine q6 ?_
   simp only [wD_len]
   refine q2 ?_
   refine os_ev (evq_mvt rfl) ?_
   refine os_ev (evq_ext rfl rfl) ?_
   simp only [Vs.put, reduceIte, Nat.reduceEqDiff]
   refine os_ev (evq_ext rfl rfl) ?_
   refine os_wro (by intros; nofun) ?_
   refine st_box rfl rfl rfl rfl (Nat.le_of_ble_eq_true rfl) ?_
   refine q0 ?_
   refine q2 ?_
   refine os_ev (evq_mvt rfl) ?_
   simp only [runOs, thenQ, blockQ, Vs.put, reduceIte, Nat.reduceEqDiff]
   refine sw_seq ?_
   refine sw_seq ?_
   refine sw_reg ?_
   unfold s44_5
   refine os_ev (evq_mvt rfl) ?_
   refine os_ev (evq_un rfl rfl) ?_
   simp only [runOs, thenQ, blockQ, Vs.put, reduceIte, Nat.reduceEqDiff]
   refine sw_cond rfl (fun h3 => ?_) (fun h3 => ?_)
   ·have hz : fuse = 0 := by simpa [opR] using h3
    obtain ⟨z1, z2, _⟩ := op_zero (down := false) hz
    simp only [z1, z2]
    rw [flC_zero hz]
    refine sw_seq ?_
    refine sw_reg ?_
    unfold s44_6
    refine q9 ?_
    refine q0 ?_
    simp only [Vs.put, reduceIte, Nat.reduceEqDiff]
    refine os_wro (by intros; nofun) ?_
    refine st_box rfl rfl rfl rfl (Nat.le_of_ble_eq_true rfl) ?_
    refine q0 ?_
    refine q2 ?_
    simp only [runOs, thenQ, blockQ, Vs.put, reduceIte, Nat.reduceEqDiff]
    refine sw_ret ?_
    refine q3 ?_
    refine ⟨_, rfl, Nat.le_of_ble_eq_true rfl, ?_⟩
    refine q13 ?_
    exact leaves_a rfl rfl rfl (take_cons rfl (by simp) (take_cons rfl (by simp) (take_lf (take_lf rfl))))
   ·have hz : ¬ fuse = 0 := by simpa [opR] using h3
    obtain ⟨z2, _⟩ := op_pos (down := false) hz
    rw [flC_yes hz]
    simp only [z2]
    refine sw_skip ?_
    simp only [thenQ, blockQ]
    refine sw_seq ?_
    refine sw_seq ?_
    refine sw_reg ?_
    unfold s44_7
    refine q7 ?_
    refine q0 ?_
    refine q8 ?_
    refine q0 ?_
    refine q10 ?_
    refine os_ev (evq_mvk) ?_
    simp only [runOs, thenQ, blockQ, Vs.put, reduceIte, Nat.reduceEqDiff]
    refine sw_block ?_
    refine sw_loop_upd [2, 3, 26, 27, 28, 35] (α := Nat) (fun i => [(28, .a (.c (.lf (.int .i64 (i : Nat)))))]) (fun i => [(6, .bx [.rf 7 [] 1 0 secs.length, .rf 8 [] 2 0 cache.length, .lf (.int .i64 (opF fuse)), .lf (.bool false)]), (7, .tr 1 (sD (flL secs (cache.take i)))), (8, .tr 2 (wD cache)), (3, .bx [.nl 1, .nl 2, .lf (.int .i64 0), .lf (.bool false)])]) (9) (fun i => i ≤ cache.length) (fun i => cache.length - i) (0) [(6, 6), (7, 7), (8, 8), (3, 3)] ?_ (by decide) ?_ ?_ ?_
    ·exact Nat.zero_le _
    ·simp only [sel, Vs.get, upd, Vs.put, reduceIte, Nat.reduceEqDiff]
     repeat' (first | exact er_nil | refine er_un ?_ | refine er_cons rfl ?_ ?_)
     all_goals (try simp only [V.map, A.map, renC, Vs.get, reduceIte, Nat.reduceEqDiff, List.map_cons, List.map_nil])
     all_goals (try rfl)
    ·repeat' (first | exact rr_nil | refine rr_cons 6 rfl rfl ?_ ?_ | refine rr_cons 7 rfl rfl ?_ ?_ | refine rr_cons 8 rfl rfl ?_ ?_ | refine rr_cons 3 rfl rfl ?_ ?_)
     all_goals (try simp only [renRoot, renC, Vs.get, reduceIte, Nat.reduceEqDiff, List.map_cons, List.map_nil])
     all_goals (try rfl)
    ·rintro i hinv
     simp only [sel, Vs.get, upd, Vs.put, reduceIte, Nat.reduceEqDiff]
     refine sw_seq ?_
     refine sw_reg ?_
     unfold s44_8
     refine os_ev (evq_bin rfl rfl rfl) ?_
     simp only [Vs.put, reduceIte, Nat.reduceEqDiff]
     simp only [runOs, thenQ, blockQ, Vs.put, reduceIte, Nat.reduceEqDiff]
     refine sw_seq ?_
     refine sw_cond rfl (fun h6 => ?_) (fun h6 => ?_)
     ·replace h6 := q1 h6
      have hib : i < cache.length := by omega
      have e1 : IntKind.i64.wrap ((i : Int) + 1) = ((i + 1 : Nat) : Int) := by rw [wrap64 (by omega) (by omega)]; rfl
      have hdi := hd _ (List.getElem_mem hib)
      obtain ⟨k, hk⟩ : ∃ k : Nat, cache[i].1 = k := ⟨cache[i].1.toNat, by omega⟩
      have hkl : k < secs.length := by omega
      have him : k < (flL secs (cache.take i)).length := by rw [flL_len]; exact hkl
      have hcl := hc _ (List.getElem_mem hib)
      refine sw_skip ?_
      simp only [thenQ, blockQ]
      refine sw_seq ?_
      refine sw_block ?_
      refine sw_seq ?_
      refine sw_reg ?_
      unfold s44_9
      refine q14 ?_
      first | refine os_ev (evq_lgb rfl rfl (Nat.le_of_ble_eq_true rfl) rfl) ?_ | refine os_ev (evq_lge rfl rfl (wD_get hib) (Nat.le_of_ble_eq_true rfl) rfl) ?_ | refine os_ev (evq_lge rfl rfl (rfl) (Nat.le_of_ble_eq_true rfl) rfl) ?_
      refine q0 ?_
      refine os_wro (by intros; nofun) ?_
      simp only [wr]
      refine q2 ?_
      refine os_wro (by intros; nofun) ?_
      refine st_box rfl rfl rfl rfl (Nat.le_of_ble_eq_true rfl) ?_
      refine q0 ?_
      refine q2 ?_
      simp only [runOs, thenQ, blockQ, Vs.put, reduceIte, Nat.reduceEqDiff]
      refine sw_go rfl rfl ?_
      unfold s44_10
      first | refine rd_ev (evq_fadb rfl) rfl ?_ | refine rd_ev (evq_fade rfl) rfl ?_
      refine q0 ?_
      simp only [Vs.put, reduceIte, Nat.reduceEqDiff]
      first | refine rd_m1 (evq_ldb rfl rfl rfl) fa_nil rfl (Nat.le_of_ble_eq_true rfl) ?_ | refine rd_m1 (evq_ldl rfl rfl (rfl) rfl) fa_nil rfl (Nat.le_of_ble_eq_true rfl) ?_ | refine rd_m1 (evq_lds rfl rfl (rfl) rfl) fa_nil rfl (Nat.le_of_ble_eq_true rfl) ?_
      refine q0 ?_
      first | refine rd_ev (evq_fadb rfl) rfl ?_ | refine rd_ev (evq_fade rfl) rfl ?_
      refine q0 ?_
      first | refine rd_m1 (evq_ldb rfl rfl rfl) fa_nil rfl (Nat.le_of_ble_eq_true rfl) ?_ | refine rd_m1 (evq_ldl rfl rfl (rfl) rfl) fa_nil rfl (Nat.le_of_ble_eq_true rfl) ?_ | refine rd_m1 (evq_lds rfl rfl (rfl) rfl) fa_nil rfl (Nat.le_of_ble_eq_true rfl) ?_
      refine q0 ?_
      first | refine rd_ev (evq_fadb rfl) rfl ?_ | refine rd_ev (evq_fade rfl) rfl ?_
      refine q0 ?_
      first | refine rd_m0 (evq_ldb rfl rfl rfl) fa_nil (Nat.not_lt.2 (Nat.le_of_ble_eq_true rfl)) ?_ | refine rd_m0 (evq_ldl rfl rfl (rfl) rfl) fa_nil (Nat.not_lt.2 (Nat.le_of_ble_eq_true rfl)) ?_ | refine rd_m0 (evq_lds rfl rfl (rfl) rfl) fa_nil (Nat.not_lt.2 (Nat.le_of_ble_eq_true rfl)) ?_
      refine q0 ?_
      refine rd_wr (by intros; nofun) ?_
      refine .inr ⟨_, rfl, ?_⟩
      refine q23 ?_
      refine ⟨by first | rfl | trivial, (fa_cons (fun _ => by first | exact pd_ev (evq_ldb rfl rfl rfl) | exact pd_ev (evq_ldl rfl rfl (rfl) rfl) | exact pd_ev (evq_lds rfl rfl (rfl) rfl)) (fa_cons (fun _ => by first | exact pd_ev (evq_ldb rfl rfl rfl) | exact pd_ev (evq_ldl rfl rfl (rfl) rfl) | exact pd_ev (evq_lds rfl rfl (rfl) rfl)) fa_nil)), ?_⟩
      refine q2 ?_
      refine rd_see ?_
      refine q5 ?_
      refine ⟨[(false, [.sl 1 (sD [cache[i].2])])], _, runs101 [cache[i].2] (by simp) (by simp only [List.flatten_cons, List.flatten_nil, List.append_nil]; omega), ⟨see_sb1 rfl (see_bytes (by simp only [nodeIn, Vs.get, Vs.put, reduceIte, Nat.reduceEqDiff, nodeAt, wD_get hib, Option.bind_some, List.getElem?_cons_zero, List.getElem?_cons_succ]) (by simp)), trivial⟩, ?_⟩
      refine q24 ?_
      refine ⟨by first | rfl | trivial, (fa_cons (fun _ => by first | exact pd_ev (evq_ldb rfl rfl rfl) | exact pd_ev (evq_ldl rfl rfl (rfl) rfl) | exact pd_ev (evq_lds rfl rfl (rfl) rfl)) (fa_cons (fun _ => by first | exact pd_ev (evq_ldb rfl rfl rfl) | exact pd_ev (evq_ldl rfl rfl (rfl) rfl) | exact pd_ev (evq_lds rfl rfl (rfl) rfl)) fa_nil)), ?_⟩
      refine q2 ?_
      refine rd_ev (evq_iad (j := k) rfl rfl hk (by omega)) rfl ?_
      refine rd_wr (by intros; nofun) ?_
      refine st_slice rfl rfl rfl rfl (by simp) (by decide) rfl (sD_get him) (by simp) (Nat.zero_le _) ?_
      simp only [killRoots, Root.map, List.map_cons, List.map_nil, del, reduceIte, Nat.reduceEqDiff, List.nil_append, Vs.put, killC]
      rw [sD_setS _ k cache[i].2 him, ← flL_take hib hk]
      simp only [setEnv, killEnv, V.map, A.map, killC, pre_no, and_false, if_false, List.map_cons, List.map_nil, Vs.put, reduceIte, Nat.reduceEqDiff]
      refine ⟨by first | rfl | trivial | exact ⟨rfl, by simp [V.map, A.map, killCs, killC, pre_no]⟩, (fa_cons (fun h => absurd h (Nat.not_le.2 (Nat.le_of_ble_eq_true rfl))) (fa_cons (fun h => absurd h (Nat.not_le.2 (Nat.le_of_ble_eq_true rfl))) fa_nil)), ?_⟩
      refine q2 ?_
      refine rd_nil ?_
      simp only [thenQ, blockQ, Vs.put, reduceIte, Nat.reduceEqDiff]
      refine sw_reg ?_
      unfold s44_11
      refine os_ev (evq_bin rfl rfl rfl) ?_
      refine os_ev (evq_mvt rfl) ?_
      simp only [runOs, thenQ, blockQ, Vs.put, reduceIte, Nat.reduceEqDiff]
      try simp only [thenQ, blockQ]
      refine ⟨i + 1, ?_, ?_, rfl, [(6, 6), (7, 7), (8, 8), (3, 3)], by decide, ?_, ?_⟩
      ·omega
      ·first | omega | (dsimp only; omega)
      ·simp only [sel, Vs.get, upd, Vs.put, reduceIte, Nat.reduceEqDiff]
       repeat' (first | exact er_nil | refine er_un ?_ | refine er_cons rfl ?_ ?_)
       all_goals (try simp only [V.map, A.map, renC, Vs.get, reduceIte, Nat.reduceEqDiff, List.map_cons, List.map_nil, e1])
      ·repeat' (first | exact rr_nil | refine rr_cons 6 rfl rfl ?_ ?_ | refine rr_cons 7 rfl rfl ?_ ?_ | refine rr_cons 8 rfl rfl ?_ ?_ | refine rr_cons 3 rfl rfl ?_ ?_)
       all_goals (try simp only [renRoot, renC, Vs.get, reduceIte, Nat.reduceEqDiff, List.map_cons, List.map_nil, e1])
     ·replace h6 := q1 h6
      have hib : i = cache.length := by omega
      subst hib
      simp only [List.take_length]
      refine sw_exit ?_
      refine q12 ?_
      refine sw_seq ?_
      refine sw_reg ?_
      unfold s44_12
      refine q7 ?_
      refine q0 ?_
      refine os_wro (by intros; nofun) ?_
      refine st_box rfl rfl rfl rfl (Nat.le_of_ble_eq_true rfl) ?_
      refine q0 ?_
      refine q2 ?_
      simp only [runOs, thenQ, blockQ, Vs.put, reduceIte, Nat.reduceEqDiff]
      refine sw_seq ?_
      refine sw_reg ?_
      unfold s44_13
      refine q9 ?_
      refine q0 ?_
      simp only [Vs.put, reduceIte, Nat.reduceEqDiff]
      refine os_wro (by intros; nofun) ?_
      refine st_box rfl rfl rfl rfl (Nat.le_of_ble_eq_true rfl) ?_
      refine q0 ?_
      refine q2 ?_
      simp only [runOs, thenQ, blockQ, Vs.put, reduceIte, Nat.reduceEqDiff]
      refine sw_ret ?_
      refine q3 ?_
      refine ⟨_, rfl, Nat.le_of_ble_eq_true rfl, ?_⟩
      refine q13 ?_
      exact leaves_a rfl rfl rfl (take_cons rfl (by simp) (take_nl (take_lf (take_lf rfl))))
end Go.Proofs.Ytgbapgjdkoojdaa
