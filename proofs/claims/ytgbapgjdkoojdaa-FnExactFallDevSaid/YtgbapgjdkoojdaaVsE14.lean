import Derived.Test.YtgbapgjdkoojdaaVsQ
import Derived.Test.YtgbapgjdkoojdaaVsSg
import Derived.Test.YtgbapgjdkoojdaaVsE1
import Derived.Test.YtgbapgjdkoojdaaVsE3
import Derived.Test.YtgbapgjdkoojdaaVsE4
import Derived.Test.YtgbapgjdkoojdaaVsE5
import Derived.Test.YtgbapgjdkoojdaaVsW2
set_option linter.unusedVariables false
set_option linter.unusedSimpArgs false
namespace Go.Proofs.Ytgbapgjdkoojdaa
open Go.Vs
set_option linter.unusedSimpArgs false
set_option linter.unusedVariables false
set_option maxHeartbeats 1000000
theorem runs83 (l : List (List UInt8)) (hb : ∀ b ∈ l, b.length < 2 ^ 62) (h : l.length < 2 ^ 62) : Runs Try.prog 83 [.val false [(.rd, .sl 1 (sD l))], .val false [(.rd, .sl 1 (sD l))]] ⟨[(false, [.lf (.bool true)])], [], []⟩ := by
 obtain ⟨c, hb, hs⟩ := body_of tr83
 refine runs_of_sw Try.func83 hb hs rfl (show 2 ≤ 27 by decide) ?_
 clear hb hs c
 refine q23 ?_
 unfold s83
 refine sw_seq ?_
 refine sw_reg ?_
 unfold s83_0
 refine os_ev (evq_mvk) ?_
 simp only [runOs, thenQ, blockQ, Vs.put, reduceIte, Nat.reduceEqDiff]
 refine sw_seq ?_
 refine sw_seq ?_
 refine sw_reg ?_
 unfold s83_1
 refine os_ev (evq_mvt rfl) ?_
 refine q10 ?_
 refine os_ev (evq_mvt rfl) ?_
 refine q10 ?_
 simp only [Vs.put, reduceIte, Nat.reduceEqDiff]
 refine os_ev (evq_bin rfl rfl rfl) ?_
 simp only [runOs, thenQ, blockQ, Vs.put, reduceIte, Nat.reduceEqDiff]
 refine sw_cond rfl (fun h1 => ?_) (fun h1 => ?_)
 ·exact absurd h1 (by simp at h1)
 ·replace h1 := q1 h1
  refine sw_skip ?_
  simp only [thenQ, blockQ]
  refine sw_seq ?_
  refine sw_seq ?_
  refine sw_reg ?_
  unfold s83_3
  refine os_ev (evq_mvk) ?_
  simp only [runOs, thenQ, blockQ, Vs.put, reduceIte, Nat.reduceEqDiff]
  refine sw_block ?_
  refine sw_loop_upd [0, 1, 5] (α := Nat) (fun i => [(5, .a (.c (.lf (.int .i64 (i : Nat)))))]) (fun i => [(0, .im 1 (sD l)), (1, .im 1 (sD l))]) (2) (fun i => i ≤ l.length) (fun i => l.length - i) (0) [(0, 0), (1, 1)] ?_ (by decide) ?_ ?_ ?_
  ·exact Nat.zero_le _
  ·simp only [sel, Vs.get, upd, Vs.put, reduceIte, Nat.reduceEqDiff]
   repeat' (first | exact er_nil | refine er_un ?_ | refine er_cons rfl ?_ ?_)
   all_goals (try simp only [V.map, A.map, renC, Vs.get, reduceIte, Nat.reduceEqDiff, List.map_cons, List.map_nil])
   all_goals (try rfl)
  ·repeat' (first | exact rr_nil | refine rr_cons 0 rfl rfl ?_ ?_ | refine rr_cons 1 rfl rfl ?_ ?_)
   all_goals (try simp only [renRoot, renC, Vs.get, reduceIte, Nat.reduceEqDiff, List.map_cons, List.map_nil])
   all_goals (try rfl)
  ·rintro i hinv
   simp only [sel, Vs.get, upd, Vs.put, reduceIte, Nat.reduceEqDiff]
   refine sw_seq ?_
   refine sw_seq ?_
   refine sw_reg ?_
   unfold s83_4
   refine os_ev (evq_mvt rfl) ?_
   refine os_ev (evq_mvt rfl) ?_
   refine q10 ?_
   simp only [Vs.put, reduceIte, Nat.reduceEqDiff]
   refine os_ev (evq_bin rfl rfl rfl) ?_
   simp only [runOs, thenQ, blockQ, Vs.put, reduceIte, Nat.reduceEqDiff]
   refine sw_cond rfl (fun h4 => ?_) (fun h4 => ?_)
   ·replace h4 := q1 h4
    have hib : i < l.length := by omega
    have e1 : IntKind.i64.wrap ((i : Int) + 1) = ((i + 1 : Nat) : Int) := by rw [wrap64 (by omega) (by omega)]; rfl
    refine sw_skip ?_
    simp only [thenQ, blockQ]
    refine sw_seq ?_
    refine sw_block ?_
    refine sw_seq ?_
    refine sw_go rfl rfl ?_
    unfold s83_6
    refine rd_ev (evq_mvt rfl) rfl ?_
    simp only [Vs.put, reduceIte, Nat.reduceEqDiff]
    refine rd_ev (evq_mvt rfl) rfl ?_
    first | refine rd_ev (evq_iad rfl rfl rfl (by omega)) rfl ?_ | refine rd_ev (evq_iad rfl rfl rfl (by simp)) rfl ?_
    first | refine rd_m0 (evq_ldb rfl rfl rfl) fa_nil (Nat.not_lt.2 (Nat.le_of_ble_eq_true rfl)) ?_ | refine rd_m0 (evq_ldl rfl rfl (sD_get hib) rfl) fa_nil (Nat.not_lt.2 (Nat.le_of_ble_eq_true rfl)) ?_ | refine rd_m0 (evq_lds rfl rfl (sD_get hib) rfl) fa_nil (Nat.not_lt.2 (Nat.le_of_ble_eq_true rfl)) ?_ | refine rd_m0 (evq_ldl rfl rfl (rfl) rfl) fa_nil (Nat.not_lt.2 (Nat.le_of_ble_eq_true rfl)) ?_ | refine rd_m0 (evq_lds rfl rfl (rfl) rfl) fa_nil (Nat.not_lt.2 (Nat.le_of_ble_eq_true rfl)) ?_
    refine q0 ?_
    refine rd_ev (evq_mvt rfl) rfl ?_
    refine rd_ev (evq_mvt rfl) rfl ?_
    simp only [Vs.put, reduceIte, Nat.reduceEqDiff]
    first | refine rd_ev (evq_iad rfl rfl rfl (by omega)) rfl ?_ | refine rd_ev (evq_iad rfl rfl rfl (by simp)) rfl ?_
    first | refine rd_m0 (evq_ldb rfl rfl rfl) fa_nil (Nat.not_lt.2 (Nat.le_of_ble_eq_true rfl)) ?_ | refine rd_m0 (evq_ldl rfl rfl (sD_get hib) rfl) fa_nil (Nat.not_lt.2 (Nat.le_of_ble_eq_true rfl)) ?_ | refine rd_m0 (evq_lds rfl rfl (sD_get hib) rfl) fa_nil (Nat.not_lt.2 (Nat.le_of_ble_eq_true rfl)) ?_ | refine rd_m0 (evq_ldl rfl rfl (rfl) rfl) fa_nil (Nat.not_lt.2 (Nat.le_of_ble_eq_true rfl)) ?_ | refine rd_m0 (evq_lds rfl rfl (rfl) rfl) fa_nil (Nat.not_lt.2 (Nat.le_of_ble_eq_true rfl)) ?_
    refine q0 ?_
    refine rd_call ?_
    refine q6 ?_
    refine ⟨_, _, runs23 l[i] l[i] (hb _ (List.getElem_mem hib)), _, rfl, _, rfl, by simp [handIo, handBx], fa_cons (⟨rfl, .inl rfl, by simp [handIo, handBx], bD l[i], by simp [nodeIn, nodeAt, Vs.get, sD_get hib], by simp, by simp⟩) (fa_cons (⟨rfl, .inl rfl, by simp [handIo, handBx], bD l[i], by simp [nodeIn, nodeAt, Vs.get, sD_get hib], by simp, by simp⟩) (fa_nil)), _, rfl, _, rfl, ?_⟩
    refine q7 ?_
    simp only [decide_true]
    refine ⟨by first | rfl | trivial, fa_nil, ?_⟩
    refine q11 ?_
    refine rd_ev (evq_un rfl rfl) rfl ?_
    refine rd_nil ?_
    simp only [thenQ, blockQ, Vs.put, reduceIte, Nat.reduceEqDiff]
    refine sw_cond rfl (fun h5 => ?_) (fun h5 => ?_)
    ·exact absurd h5 (by simp at h5)
    ·replace h5 := q1 h5
     refine sw_skip ?_
     simp only [thenQ, blockQ]
     refine sw_reg ?_
     unfold s83_5
     refine os_ev (evq_mvt rfl) ?_
     refine os_ev (evq_bin rfl rfl rfl) ?_
     simp only [Vs.put, reduceIte, Nat.reduceEqDiff]
     refine os_ev (evq_mvt rfl) ?_
     simp only [runOs, thenQ, blockQ, Vs.put, reduceIte, Nat.reduceEqDiff]
     try simp only [thenQ, blockQ]
     refine ⟨i + 1, ?_, ?_, rfl, [(0, 0), (1, 1)], by decide, ?_, ?_⟩
     ·omega
     ·first | omega | (dsimp only; omega)
     ·simp only [sel, Vs.get, upd, Vs.put, reduceIte, Nat.reduceEqDiff]
      repeat' (first | exact er_nil | refine er_un ?_ | refine er_cons rfl ?_ ?_)
      all_goals (try simp only [V.map, A.map, renC, Vs.get, reduceIte, Nat.reduceEqDiff, List.map_cons, List.map_nil, e1])
     ·repeat' (first | exact rr_nil | refine rr_cons 0 rfl rfl ?_ ?_ | refine rr_cons 1 rfl rfl ?_ ?_)
      all_goals (try simp only [renRoot, renC, Vs.get, reduceIte, Nat.reduceEqDiff, List.map_cons, List.map_nil, e1])
   ·replace h4 := q1 h4
    refine sw_exit ?_
    refine q12 ?_
    refine sw_seq ?_
    refine sw_reg ?_
    unfold s83_8
    refine os_ev (evq_mvk) ?_
    simp only [runOs, thenQ, blockQ, Vs.put, reduceIte, Nat.reduceEqDiff]
    refine sw_ret ?_
    refine q3 ?_
    first | exact leaves_vals rfl rfl rfl rfl | exact leaves_a rfl rfl rfl rfl
theorem runs126 (w : Wr) (hb : w.2.length < 2 ^ 62) : Runs Try.prog 126 [.val true [(.rd, .lf (.int .i64 w.1)), (.rd, .sl 1 (bD w.2))], .val true [(.rd, .lf (.int .i64 w.1)), (.rd, .sl 1 (bD w.2))]] ⟨[(false, [.lf (.bool true)])], [], []⟩ := by
 obtain ⟨c, hb, hs⟩ := body_of tr126
 refine runs_of_sw Try.func126 hb hs rfl (show 2 ≤ 16 by decide) ?_
 clear hb hs c
 refine q15 ?_
 unfold s126
 refine sw_seq ?_
 refine sw_reg ?_
 unfold s126_0
 refine os_wro (by intros; nofun) ?_
 refine ⟨_, rfl, ?_⟩
 refine q11 ?_
 refine os_wro (by intros; nofun) ?_
 refine ⟨_, rfl, ?_⟩
 refine q11 ?_
 refine os_ev (evq_mvk) ?_
 simp only [runOs, thenQ, blockQ, Vs.put, reduceIte, Nat.reduceEqDiff]
 refine sw_seq ?_
 refine sw_seq ?_
 refine sw_reg ?_
 unfold s126_1
 refine q5 ?_
 refine q0 ?_
 refine q8 ?_
 refine q0 ?_
 refine q5 ?_
 refine q0 ?_
 refine q8 ?_
 refine q0 ?_
 simp only [Vs.put, reduceIte, Nat.reduceEqDiff]
 refine os_ev (evq_bin rfl rfl rfl) ?_
 simp only [runOs, thenQ, blockQ, Vs.put, reduceIte, Nat.reduceEqDiff]
 refine sw_cond rfl (fun h1 => ?_) (fun h1 => ?_)
 ·exact absurd h1 (by simp at h1)
 ·replace h1 := q1 h1
  refine sw_skip ?_
  simp only [thenQ, blockQ]
  refine sw_seq ?_
  refine sw_seq ?_
  refine sw_reg ?_
  unfold s126_3
  refine q5 ?_
  refine q0 ?_
  refine q8 ?_
  refine q0 ?_
  refine q5 ?_
  refine q0 ?_
  refine q8 ?_
  refine q0 ?_
  simp only [Vs.put, reduceIte, Nat.reduceEqDiff]
  refine os_callo ?_
  refine q6 ?_
  refine ⟨_, _, runs23 w.2 w.2 hb, _, rfl, _, rfl, by simp [handIo, handBx], fa_cons (⟨rfl, .inl rfl, by simp [handIo, handBx], _, rfl, by simp, by first | rfl | (simp; done) | exact (List.take_of_length_le (by simp)).symm⟩) (fa_cons (⟨rfl, .inl rfl, by simp [handIo, handBx], _, rfl, by simp, by first | rfl | (simp; done) | exact (List.take_of_length_le (by simp)).symm⟩) (fa_nil)), _, rfl, _, rfl, ?_⟩
  refine q7 ?_
  simp only [decide_true]
  refine q11 ?_
  refine os_ev (evq_un rfl rfl) ?_
  simp only [runOs, thenQ, blockQ, Vs.put, reduceIte, Nat.reduceEqDiff]
  refine sw_cond rfl (fun h3 => ?_) (fun h3 => ?_)
  ·exact absurd h3 (by simp at h3)
  ·replace h3 := q1 h3
   refine sw_skip ?_
   simp only [thenQ, blockQ]
   refine sw_seq ?_
   refine sw_reg ?_
   unfold s126_5
   refine os_ev (evq_mvk) ?_
   simp only [runOs, thenQ, blockQ, Vs.put, reduceIte, Nat.reduceEqDiff]
   refine sw_ret ?_
   refine q3 ?_
   first | exact leaves_vals rfl rfl rfl rfl | exact leaves_a rfl rfl rfl rfl
theorem runs84 (l : List Wr) (hb : ∀ w ∈ l, w.2.length < 2 ^ 62) (h : l.length < 2 ^ 62) : Runs Try.prog 84 [.val false [(.rd, .sl 2 (wD l))], .val false [(.rd, .sl 2 (wD l))]] ⟨[(false, [.lf (.bool true)])], [], []⟩ := by
 obtain ⟨c, hb, hs⟩ := body_of tr84
 refine runs_of_sw Try.func84 hb hs rfl (show 2 ≤ 27 by decide) ?_
 clear hb hs c
 refine q26 ?_
 unfold s84
 refine sw_seq ?_
 refine sw_reg ?_
 unfold s84_0
 refine os_ev (evq_mvk) ?_
 simp only [runOs, thenQ, blockQ, Vs.put, reduceIte, Nat.reduceEqDiff]
 refine sw_seq ?_
 refine sw_seq ?_
 refine sw_reg ?_
 unfold s84_1
 refine os_ev (evq_mvt rfl) ?_
 refine q10 ?_
 refine os_ev (evq_mvt rfl) ?_
 refine q10 ?_
 simp only [Vs.put, reduceIte, Nat.reduceEqDiff]
 refine os_ev (evq_bin rfl rfl rfl) ?_
 simp only [runOs, thenQ, blockQ, Vs.put, reduceIte, Nat.reduceEqDiff]
 refine sw_cond rfl (fun h1 => ?_) (fun h1 => ?_)
 ·exact absurd h1 (by simp at h1)
 ·replace h1 := q1 h1
  refine sw_skip ?_
  simp only [thenQ, blockQ]
  refine sw_seq ?_
  refine sw_seq ?_
  refine sw_reg ?_
  unfold s84_3
  refine os_ev (evq_mvk) ?_
  simp only [runOs, thenQ, blockQ, Vs.put, reduceIte, Nat.reduceEqDiff]
  refine sw_block ?_
  refine sw_loop_upd [0, 1, 5] (α := Nat) (fun i => [(5, .a (.c (.lf (.int .i64 (i : Nat)))))]) (fun i => [(0, .im 2 (wD l)), (1, .im 2 (wD l))]) (2) (fun i => i ≤ l.length) (fun i => l.length - i) (0) [(0, 0), (1, 1)] ?_ (by decide) ?_ ?_ ?_
  ·exact Nat.zero_le _
  ·simp only [sel, Vs.get, upd, Vs.put, reduceIte, Nat.reduceEqDiff]
   repeat' (first | exact er_nil | refine er_un ?_ | refine er_cons rfl ?_ ?_)
   all_goals (try simp only [V.map, A.map, renC, Vs.get, reduceIte, Nat.reduceEqDiff, List.map_cons, List.map_nil])
   all_goals (try rfl)
  ·repeat' (first | exact rr_nil | refine rr_cons 0 rfl rfl ?_ ?_ | refine rr_cons 1 rfl rfl ?_ ?_)
   all_goals (try simp only [renRoot, renC, Vs.get, reduceIte, Nat.reduceEqDiff, List.map_cons, List.map_nil])
   all_goals (try rfl)
  ·rintro i hinv
   simp only [sel, Vs.get, upd, Vs.put, reduceIte, Nat.reduceEqDiff]
   refine sw_seq ?_
   refine sw_seq ?_
   refine sw_reg ?_
   unfold s84_4
   refine os_ev (evq_mvt rfl) ?_
   refine os_ev (evq_mvt rfl) ?_
   refine q10 ?_
   simp only [Vs.put, reduceIte, Nat.reduceEqDiff]
   refine os_ev (evq_bin rfl rfl rfl) ?_
   simp only [runOs, thenQ, blockQ, Vs.put, reduceIte, Nat.reduceEqDiff]
   refine sw_cond rfl (fun h4 => ?_) (fun h4 => ?_)
   ·replace h4 := q1 h4
    have hib : i < l.length := by omega
    have e1 : IntKind.i64.wrap ((i : Int) + 1) = ((i + 1 : Nat) : Int) := by rw [wrap64 (by omega) (by omega)]; rfl
    refine sw_skip ?_
    simp only [thenQ, blockQ]
    refine sw_seq ?_
    refine sw_block ?_
    refine sw_seq ?_
    refine sw_go rfl rfl ?_
    unfold s84_6
    refine rd_ev (evq_mvt rfl) rfl ?_
    simp only [Vs.put, reduceIte, Nat.reduceEqDiff]
    refine rd_ev (evq_mvt rfl) rfl ?_
    first | refine rd_ev (evq_iad rfl rfl rfl (by omega)) rfl ?_ | refine rd_ev (evq_iad rfl rfl rfl (by simp)) rfl ?_
    first | refine rd_m0 (evq_lgb rfl rfl (Nat.le_of_ble_eq_true rfl) rfl) fa_nil (Nat.not_lt.2 (Nat.le_of_ble_eq_true rfl)) ?_ | refine rd_m0 (evq_lge rfl rfl (wD_get hib) (Nat.le_of_ble_eq_true rfl) rfl) fa_nil (Nat.not_lt.2 (Nat.le_of_ble_eq_true rfl)) ?_ | refine rd_m0 (evq_lge rfl rfl (rfl) (Nat.le_of_ble_eq_true rfl) rfl) fa_nil (Nat.not_lt.2 (Nat.le_of_ble_eq_true rfl)) ?_
    refine q0 ?_
    refine rd_ev (evq_mvt rfl) rfl ?_
    refine rd_ev (evq_mvt rfl) rfl ?_
    simp only [Vs.put, reduceIte, Nat.reduceEqDiff]
    first | refine rd_ev (evq_iad rfl rfl rfl (by omega)) rfl ?_ | refine rd_ev (evq_iad rfl rfl rfl (by simp)) rfl ?_
    first | refine rd_m0 (evq_lgb rfl rfl (Nat.le_of_ble_eq_true rfl) rfl) fa_nil (Nat.not_lt.2 (Nat.le_of_ble_eq_true rfl)) ?_ | refine rd_m0 (evq_lge rfl rfl (wD_get hib) (Nat.le_of_ble_eq_true rfl) rfl) fa_nil (Nat.not_lt.2 (Nat.le_of_ble_eq_true rfl)) ?_ | refine rd_m0 (evq_lge rfl rfl (rfl) (Nat.le_of_ble_eq_true rfl) rfl) fa_nil (Nat.not_lt.2 (Nat.le_of_ble_eq_true rfl)) ?_
    refine q0 ?_
    refine rd_call ?_
    refine q6 ?_
    refine ⟨_, _, runs126 l[i] (hb _ (List.getElem_mem hib)), _, rfl, _, rfl, by simp [handIo, handBx], fa_cons (rfl) (fa_cons (⟨rfl, .inl rfl, by simp [handIo, handBx], bD l[i].2, by simp [nodeIn, nodeAt, Vs.get, wD_get hib], by simp, by simp⟩) (fa_cons (rfl) (fa_cons (⟨rfl, .inl rfl, by simp [handIo, handBx], bD l[i].2, by simp [nodeIn, nodeAt, Vs.get, wD_get hib], by simp, by simp⟩) (fa_nil)))), _, rfl, _, rfl, ?_⟩
    refine q7 ?_
    refine ⟨by first | rfl | trivial, fa_nil, ?_⟩
    refine q11 ?_
    refine rd_ev (evq_un rfl rfl) rfl ?_
    refine rd_nil ?_
    simp only [thenQ, blockQ, Vs.put, reduceIte, Nat.reduceEqDiff]
    refine sw_cond rfl (fun h5 => ?_) (fun h5 => ?_)
    ·exact absurd h5 (by simp at h5)
    ·replace h5 := q1 h5
     refine sw_skip ?_
     simp only [thenQ, blockQ]
     refine sw_reg ?_
     unfold s84_5
     refine os_ev (evq_mvt rfl) ?_
     refine os_ev (evq_bin rfl rfl rfl) ?_
     simp only [Vs.put, reduceIte, Nat.reduceEqDiff]
     refine os_ev (evq_mvt rfl) ?_
     simp only [runOs, thenQ, blockQ, Vs.put, reduceIte, Nat.reduceEqDiff]
     try simp only [thenQ, blockQ]
     refine ⟨i + 1, ?_, ?_, rfl, [(0, 0), (1, 1)], by decide, ?_, ?_⟩
     ·omega
     ·first | omega | (dsimp only; omega)
     ·simp only [sel, Vs.get, upd, Vs.put, reduceIte, Nat.reduceEqDiff]
      repeat' (first | exact er_nil | refine er_un ?_ | refine er_cons rfl ?_ ?_)
      all_goals (try simp only [V.map, A.map, renC, Vs.get, reduceIte, Nat.reduceEqDiff, List.map_cons, List.map_nil, e1])
     ·repeat' (first | exact rr_nil | refine rr_cons 0 rfl rfl ?_ ?_ | refine rr_cons 1 rfl rfl ?_ ?_)
      all_goals (try simp only [renRoot, renC, Vs.get, reduceIte, Nat.reduceEqDiff, List.map_cons, List.map_nil, e1])
   ·replace h4 := q1 h4
    refine sw_exit ?_
    refine q12 ?_
    refine sw_seq ?_
    refine sw_reg ?_
    unfold s84_8
    refine os_ev (evq_mvk) ?_
    simp only [runOs, thenQ, blockQ, Vs.put, reduceIte, Nat.reduceEqDiff]
    refine sw_ret ?_
    refine q3 ?_
    first | exact leaves_vals rfl rfl rfl rfl | exact leaves_a rfl rfl rfl rfl
end Go.Proofs.Ytgbapgjdkoojdaa
