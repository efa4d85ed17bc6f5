import Derived.Test.YtgbapgjdkoojdaaVsQ
import Derived.Test.YtgbapgjdkoojdaaVsSk
import Derived.Test.YtgbapgjdkoojdaaVsE30
import Derived.Test.YtgbapgjdkoojdaaVsW2
set_option linter.unusedVariables false
set_option linter.unusedSimpArgs false
namespace Go.Proofs.Ytgbapgjdkoojdaa
open Go.Vs
set_option linter.unusedSimpArgs false
set_option linter.unusedVariables false
set_option maxHeartbeats 1000000
set_option maxRecDepth 4000
theorem runs118 (secs : List (List UInt8)) (cache : List Wr) (fuse : Int) (down : Bool) (hf : -1 ≤ fuse ∧ fuse ≤ 1000) (hl : secs.length < 2 ^ 40) (hm : cache.length < 2 ^ 40) (hd : ∀ w ∈ cache, 0 ≤ w.1 ∧ w.1 ≤ (secs.length : Int) - 1) : Runs Try.prog 118 [.ptr [(.ow, .sl 1 (sD secs)), (.ow, .sl 2 (wD cache)), (.rd, .lf (.int .i64 fuse)), (.rd, .lf (.bool down))]] ⟨[], [], [[.sl 1 (sD (flC secs cache fuse down).1), .sl 2 (wD (flC secs cache fuse down).2.1), .lf (.int .i64 (flC secs cache fuse down).2.2.1), .lf (.bool (flC secs cache fuse down).2.2.2)]]⟩ := by
 obtain ⟨c, hb, hs⟩ := body_of tr118
 refine runs_of_sw Try.func118 hb hs rfl (show 1 ≤ 46 by decide) ?_
 clear hb hs c
 refine q18 ?_
 unfold s118
 refine sw_seq ?_
 refine sw_seq ?_
 refine sw_reg ?_
 unfold s118_0
 refine os_ev (evq_mvt rfl) ?_
 refine q16 ?_
 refine q7 ?_
 refine q0 ?_
 refine q8 ?_
 refine q0 ?_
 refine os_ev (evq_mvt rfl) ?_
 simp only [Vs.put, reduceIte, Nat.reduceEqDiff]
 refine os_gs rfl (fun g7 => ?_) (fun g7 => ?_)
 ·try simp only [g7]
  replace g7 := q1 g7
  subst g7
  refine os_gno rfl (by decide) ?_
  refine os_gno rfl (by decide) ?_
  refine os_gno rfl (by decide) ?_
  simp only [Vs.put, reduceIte, Nat.reduceEqDiff]
  refine os_ev (evq_pickt rfl rfl) ?_
  simp only [runOs, thenQ, blockQ, Vs.put, reduceIte, Nat.reduceEqDiff]
  refine sw_cond rfl (fun h1 => ?_) (fun h1 => ?_)
  ·replace h1 := q1 h1
   refine sw_ret ?_
   refine q3 ?_
   rw [flC_no rfl]
   refine leaves_bx rfl rfl rfl ?_ rfl (take_cons rfl (by simp) (take_cons rfl (by simp) (take_lf (take_lf rfl)))) rfl rfl
   exact rs_ow rfl (rs_ow rfl (rs_ow rfl (rs_ow rfl rs_nil)))
  ·exact absurd h1 (by simp at h1)
 ·try simp only [g7]
  replace g7 := q1 g7
  subst g7
  refine os_gdo rfl ?_
  refine os_ev (evq_mvt rfl) ?_
  simp only [Vs.put, reduceIte, Nat.reduceEqDiff]
  refine os_gdo rfl ?_
  refine os_callo ?_
  refine q5 ?_
  refine ⟨_, _, runs137 secs cache fuse false hf, _, rfl, _, rfl, by simp [handIo, handBx], fa_cons (⟨rfl, .inl rfl, by simp [handIo, handBx], _, rfl, by simp, by first | rfl | (simp; done) | exact (List.take_of_length_le (by simp)).symm⟩) (fa_cons (⟨rfl, .inl rfl, by simp [handIo, handBx], _, rfl, by simp, by first | rfl | (simp; done) | exact (List.take_of_length_le (by simp)).symm⟩) (fa_cons (rfl) (fa_cons (rfl) (fa_nil)))), _, rfl, _, rfl, ?_⟩
  refine q6 ?_
  refine q2 ?_
  refine os_gdo rfl ?_
  refine os_ev (evq_un rfl rfl) ?_
  refine os_ev (evq_pickf rfl rfl) ?_
  simp only [runOs, thenQ, blockQ, Vs.put, reduceIte, Nat.reduceEqDiff]
  refine sw_cond rfl (fun h1 => ?_) (fun h1 => ?_)
  ·have hz : fuse = 0 := by simpa [opR] using h1
   obtain ⟨z1, z2, _⟩ := op_zero (down := false) hz
   simp only [z1, z2]
   rw [flC_zero hz]
   refine sw_ret ?_
   refine q3 ?_
   refine leaves_bx rfl rfl rfl ?_ rfl (take_cons rfl (by simp) (take_cons rfl (by simp) (take_lf (take_lf rfl)))) rfl rfl
   exact rs_ow rfl (rs_ow rfl (rs_ow rfl (rs_ow rfl rs_nil)))
  ·have hz : ¬ fuse = 0 := by simpa [opR] using h1
   obtain ⟨z2, _⟩ := op_pos (down := false) hz
   simp only [z2]
   rw [flC_yes hz]
   refine sw_skip ?_
   simp only [thenQ, blockQ]
   refine sw_seq ?_
   refine sw_seq ?_
   refine sw_reg ?_
   unfold s118_1
   refine os_ev (evq_mvk) ?_
   simp only [runOs, thenQ, blockQ, Vs.put, reduceIte, Nat.reduceEqDiff]
   refine sw_block ?_
   refine sw_loop_upd [0, 2] (α := Nat) (fun i => [(2, .a (.c (.lf (.int .i64 (i : Nat)))))]) (fun i => [(0, .bx [.rf 1 [] 1 0 secs.length, .rf 2 [] 2 0 cache.length, .lf (.int .i64 (opF fuse)), .lf (.bool false)]), (1, .tr 1 (sD (flL secs (cache.take i)))), (2, .tr 2 (wH cache i))]) (3) (fun i => i ≤ cache.length) (fun i => cache.length - i) (0) [(0, 0), (1, 1), (2, 2)] ?_ (by decide) ?_ ?_ ?_
   ·exact Nat.zero_le _
   ·simp only [sel, Vs.get, upd, Vs.put, reduceIte, Nat.reduceEqDiff]
    repeat' (first | exact er_nil | refine er_un ?_ | refine er_cons rfl ?_ ?_)
    all_goals (try simp only [V.map, A.map, renC, Vs.get, reduceIte, Nat.reduceEqDiff, List.map_cons, List.map_nil])
    all_goals (try rfl)
   ·repeat' (first | exact rr_nil | refine rr_cons 0 rfl rfl ?_ ?_ | refine rr_cons 1 rfl rfl ?_ ?_ | refine rr_cons 2 rfl rfl ?_ ?_)
    all_goals (try simp only [renRoot, renC, Vs.get, reduceIte, Nat.reduceEqDiff, List.map_cons, List.map_nil])
    all_goals (try rfl)
   ·rintro i hinv
    simp only [sel, Vs.get, upd, Vs.put, reduceIte, Nat.reduceEqDiff]
    refine sw_seq ?_
    refine sw_seq ?_
    refine sw_reg ?_
    unfold s118_2
    refine os_ev (evq_mvt rfl) ?_
    refine os_ev (evq_mvt rfl) ?_
    simp only [Vs.put, reduceIte, Nat.reduceEqDiff]
    refine q16 ?_
    refine q7 ?_
    refine q0 ?_
    refine q8 ?_
    refine q0 ?_
    refine q10 ?_
    refine os_ev (evq_bin rfl rfl rfl) ?_
    simp only [Vs.put, reduceIte, Nat.reduceEqDiff]
    simp only [runOs, thenQ, blockQ, Vs.put, reduceIte, Nat.reduceEqDiff]
    refine sw_cond rfl (fun h4 => ?_) (fun h4 => ?_)
    ·replace h4 := q1 h4
     have hib : i < cache.length := by omega
     have e1 : IntKind.i64.wrap ((i : Int) + 1) = ((i + 1 : Nat) : Int) := by rw [wrap64 (by omega) (by omega)]; rfl
     have hdi := hd _ (List.getElem_mem hib)
     obtain ⟨k, hk⟩ : ∃ k : Nat, cache[i].1 = k := ⟨cache[i].1.toNat, by omega⟩
     have hkl : k < secs.length := by omega
     have him : k < (flL secs (cache.take i)).length := by rw [flL_len]; exact hkl
     refine sw_skip ?_
     simp only [thenQ, blockQ]
     refine sw_seq ?_
     refine sw_block ?_
     refine sw_go rfl rfl ?_
     unfold s118_4
     refine rd_ev (evq_mvt rfl) rfl ?_
     first | refine rd_ev (evq_nilc rfl) rfl ?_ | refine rd_ev (evq_nile rfl) rfl ?_
     first | refine rd_ev (evq_fadb rfl) rfl ?_ | refine rd_ev (evq_fade rfl) rfl ?_
     refine q0 ?_
     first | refine rd_m0 (evq_ldb rfl rfl rfl) fa_nil (Nat.not_lt.2 (Nat.le_of_ble_eq_true rfl)) ?_ | refine rd_m0 (evq_ldl rfl rfl (rfl) rfl) fa_nil (Nat.not_lt.2 (Nat.le_of_ble_eq_true rfl)) ?_ | refine rd_m0 (evq_lds rfl rfl (rfl) rfl) fa_nil (Nat.not_lt.2 (Nat.le_of_ble_eq_true rfl)) ?_
     refine q0 ?_
     refine rd_ev (evq_mvt rfl) rfl ?_
     simp only [Vs.put, reduceIte, Nat.reduceEqDiff]
     first | refine rd_ev (evq_nilc rfl) rfl ?_ | refine rd_ev (evq_nile rfl) rfl ?_
     first | refine rd_ev (evq_fadb rfl) rfl ?_ | refine rd_ev (evq_fade rfl) rfl ?_
     refine q0 ?_
     first | refine rd_m0 (evq_ldb rfl rfl rfl) fa_nil (Nat.not_lt.2 (Nat.le_of_ble_eq_true rfl)) ?_ | refine rd_m0 (evq_ldl rfl rfl (rfl) rfl) fa_nil (Nat.not_lt.2 (Nat.le_of_ble_eq_true rfl)) ?_ | refine rd_m0 (evq_lds rfl rfl (rfl) rfl) fa_nil (Nat.not_lt.2 (Nat.le_of_ble_eq_true rfl)) ?_
     refine q0 ?_
     refine rd_ev (evq_mvt rfl) rfl ?_
     refine rd_ev (evq_iad rfl rfl rfl (by omega)) rfl ?_
     simp only [Vs.put, reduceIte, Nat.reduceEqDiff]
     first | refine rd_ev (evq_fadb rfl) rfl ?_ | refine rd_ev (evq_fade rfl) rfl ?_
     refine q0 ?_
     first | refine rd_m0 (evq_ldb rfl rfl rfl) fa_nil (Nat.not_lt.2 (Nat.le_of_ble_eq_true rfl)) ?_ | refine rd_m0 (evq_ldl rfl rfl (wH_get hib) rfl) fa_nil (Nat.not_lt.2 (Nat.le_of_ble_eq_true rfl)) ?_ | refine rd_m0 (evq_lds rfl rfl (wH_get hib) rfl) fa_nil (Nat.not_lt.2 (Nat.le_of_ble_eq_true rfl)) ?_ | refine rd_m0 (evq_ldl rfl rfl (rfl) rfl) fa_nil (Nat.not_lt.2 (Nat.le_of_ble_eq_true rfl)) ?_ | refine rd_m0 (evq_lds rfl rfl (rfl) rfl) fa_nil (Nat.not_lt.2 (Nat.le_of_ble_eq_true rfl)) ?_
     refine q0 ?_
     refine rd_ev (evq_mvt rfl) rfl ?_
     first | refine rd_ev (evq_nilc rfl) rfl ?_ | refine rd_ev (evq_nile rfl) rfl ?_
     first | refine rd_ev (evq_fadb rfl) rfl ?_ | refine rd_ev (evq_fade rfl) rfl ?_
     refine q0 ?_
     simp only [Vs.put, reduceIte, Nat.reduceEqDiff]
     first | refine rd_m0 (evq_ldb rfl rfl rfl) fa_nil (Nat.not_lt.2 (Nat.le_of_ble_eq_true rfl)) ?_ | refine rd_m0 (evq_ldl rfl rfl (rfl) rfl) fa_nil (Nat.not_lt.2 (Nat.le_of_ble_eq_true rfl)) ?_ | refine rd_m0 (evq_lds rfl rfl (rfl) rfl) fa_nil (Nat.not_lt.2 (Nat.le_of_ble_eq_true rfl)) ?_
     refine q0 ?_
     refine rd_ev (evq_mvt rfl) rfl ?_
     refine rd_ev (evq_iad rfl rfl rfl (by omega)) rfl ?_
     first | refine rd_ev (evq_fadb rfl) rfl ?_ | refine rd_ev (evq_fade rfl) rfl ?_
     refine q0 ?_
     first | refine rd_m0 (evq_ldb rfl rfl rfl) fa_nil (Nat.not_lt.2 (Nat.le_of_ble_eq_true rfl)) ?_ | refine rd_m0 (evq_ldl rfl rfl (wH_get hib) rfl) fa_nil (Nat.not_lt.2 (Nat.le_of_ble_eq_true rfl)) ?_ | refine rd_m0 (evq_lds rfl rfl (wH_get hib) rfl) fa_nil (Nat.not_lt.2 (Nat.le_of_ble_eq_true rfl)) ?_ | refine rd_m0 (evq_ldl rfl rfl (rfl) rfl) fa_nil (Nat.not_lt.2 (Nat.le_of_ble_eq_true rfl)) ?_ | refine rd_m0 (evq_lds rfl rfl (rfl) rfl) fa_nil (Nat.not_lt.2 (Nat.le_of_ble_eq_true rfl)) ?_
     refine q0 ?_
     refine rd_ev (evq_iad (j := k) rfl rfl hk (by omega)) rfl ?_
     simp only [Vs.put, reduceIte, Nat.reduceEqDiff]
     refine rd_wr (by intros; nofun) ?_
     refine st_slice_in rfl rfl rfl rfl (wH_get hib) rfl (by simp) (by decide) rfl (sD_get him) (by simp) (Nat.le_of_ble_eq_true rfl) ?_
     simp only [killRoots, Root.map, List.map_cons, List.map_nil, del, reduceIte, Nat.reduceEqDiff, List.nil_append, Vs.put, killC]
     rw [sD_setS _ k cache[i].2 him, wH_set hib, ← flL_take hib hk]
     simp only [setEnv, killEnv, V.map, A.map, killC, pre_no, and_false, if_false, List.map_cons, List.map_nil, Vs.put, reduceIte, Nat.reduceEqDiff]
     refine ⟨by first | rfl | trivial | exact ⟨rfl, by simp [V.map, A.map, killCs, killC, pre_no]⟩, fa_nil, ?_⟩
     refine q2 ?_
     refine rd_nil ?_
     simp only [thenQ, blockQ, Vs.put, reduceIte, Nat.reduceEqDiff]
     refine sw_reg ?_
     unfold s118_3
     refine os_ev (evq_mvt rfl) ?_
     refine os_ev (evq_bin rfl rfl rfl) ?_
     refine os_ev (evq_mvt rfl) ?_
     simp only [runOs, thenQ, blockQ, Vs.put, reduceIte, Nat.reduceEqDiff]
     try simp only [thenQ, blockQ]
     refine ⟨i + 1, ?_, ?_, rfl, [(0, 0), (1, 1), (2, 2)], by decide, ?_, ?_⟩
     ·omega
     ·first | omega | (dsimp only; omega)
     ·simp only [sel, Vs.get, upd, Vs.put, reduceIte, Nat.reduceEqDiff]
      repeat' (first | exact er_nil | refine er_un ?_ | refine er_cons rfl ?_ ?_)
      all_goals (try simp only [V.map, A.map, renC, Vs.get, reduceIte, Nat.reduceEqDiff, List.map_cons, List.map_nil, e1])
     ·repeat' (first | exact rr_nil | refine rr_cons 0 rfl rfl ?_ ?_ | refine rr_cons 1 rfl rfl ?_ ?_ | refine rr_cons 2 rfl rfl ?_ ?_)
      all_goals (try simp only [renRoot, renC, Vs.get, reduceIte, Nat.reduceEqDiff, List.map_cons, List.map_nil, e1])
    ·replace h4 := q1 h4
     have hib : i = cache.length := by omega
     subst hib
     simp only [List.take_length]
     refine sw_exit ?_
     refine q12 ?_
     refine sw_reg ?_
     unfold s118_5
     refine os_ev (evq_mvt rfl) ?_
     simp only [Vs.put, reduceIte, Nat.reduceEqDiff]
     refine os_wro (by intros; nofun) ?_
     refine .inl ⟨_, rfl, _, rfl, ?_⟩
     refine q25 ?_
     refine q2 ?_
     refine q16 ?_
     refine q7 ?_
     refine q0 ?_
     refine os_wro (by intros; nofun) ?_
     refine st_box rfl rfl rfl rfl (Nat.le_of_ble_eq_true rfl) ?_
     refine q0 ?_
     refine q2 ?_
     simp only [runOs, thenQ, blockQ, Vs.put, reduceIte, Nat.reduceEqDiff]
     refine q3 ?_
     refine leaves_bx rfl rfl rfl ?_ rfl (take_cons rfl (by simp) (take_cons rfl (by simp) (take_lf (take_lf rfl)))) rfl rfl
     exact rs_ow rfl (rs_ow rfl (rs_ow rfl (rs_ow rfl rs_nil)))
end Go.Proofs.Ytgbapgjdkoojdaa
