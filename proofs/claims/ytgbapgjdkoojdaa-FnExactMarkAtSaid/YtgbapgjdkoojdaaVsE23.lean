import Derived.Test.YtgbapgjdkoojdaaVsSi
import Derived.Test.YtgbapgjdkoojdaaVsE18
import Derived.Test.YtgbapgjdkoojdaaVsE19
import Derived.Test.YtgbapgjdkoojdaaVsE14
import Derived.Test.YtgbapgjdkoojdaaVsW2
namespace Go.Proofs.Ytgbapgjdkoojdaa
open Go.Vs
set_option linter.unusedSimpArgs false
set_option linter.unusedVariables false
set_option maxHeartbeats 1000000
theorem runs140 (w : Wr) (n : Nat) (hb : w.2.length ≤ 9223372036854775807) (hn : n < 2 ^ 62) : Runs Try.prog 140 [.val true [(.rd, .lf (.int .i64 w.1)), (.rd, .sl 1 (bD w.2))], .val false [(.rd, .lf (.int .i64 n))]] ⟨[(false, [.lf (.int .i64 (if w.2.length ≤ n then ((n - w.2.length : Nat) : Int) else -1))])], [], []⟩ := by
  obtain ⟨c, hb, hs⟩ := body_of tr140
  refine runs_of_sw Try.func140 hb hs rfl (show 2 ≤ 12 by decide) ?_
  clear hb hs c
  simp only [inAs, inCells, flat, List.flatMap_cons, List.flatMap_nil, Arg.cells, List.cons_append, List.nil_append, inCs, inC, fixN, fixCs, fixC, nBox, inV, inB, rootB, List.length_cons, List.length_nil, List.take_succ_cons, List.take_zero, List.drop_succ_cons, List.drop_zero, env0, Nat.zero_add, Nat.add_zero, List.append_nil, Nat.reduceAdd, bD_len]
  unfold s140
  refine sw_seq ?_
  refine sw_reg ?_
  unfold s140_0
  refine os_wro (by intros; nofun) ?_
  refine ⟨_, rfl, ?_⟩
  try simp only [setEnv, Vs.put, killEnv, del, cutR, reduceIte, Nat.reduceEqDiff, Nat.reduceAdd]
  refine os_ev (evq_mvk) ?_
  simp only [runOs, thenQ, blockQ, Vs.put, reduceIte, Nat.reduceEqDiff]
  refine sw_seq ?_
  refine sw_reg ?_
  unfold s140_1
  first | refine os_ev (evq_fadb rfl) ?_ | refine os_ev (evq_fade rfl) ?_
  try simp only [List.take_zero, List.take_succ_cons, List.drop_zero, List.drop_succ_cons, List.nil_append, List.cons_append, List.append_nil, List.length_cons, List.length_nil, Nat.zero_add, Nat.add_zero, Nat.reduceAdd, Nat.reduceMul, toC, toCs, bD_len, sD_len, rep, List.getElem?_cons_zero, List.getElem?_cons_succ]
  first | refine os_ev (evq_ldb rfl rfl rfl) ?_ | refine os_ev (evq_ldl rfl rfl (rfl) rfl) ?_ | refine os_ev (evq_lds rfl rfl (rfl) rfl) ?_
  try simp only [List.take_zero, List.take_succ_cons, List.drop_zero, List.drop_succ_cons, List.nil_append, List.cons_append, List.append_nil, List.length_cons, List.length_nil, Nat.zero_add, Nat.add_zero, Nat.reduceAdd, Nat.reduceMul, toC, toCs, bD_len, sD_len, rep, List.getElem?_cons_zero, List.getElem?_cons_succ]
  refine os_ev (evq_mvt rfl) ?_
  refine os_callo ?_
  simp only [List.map_cons, List.map_nil, St.opd, Vs.get, Vs.put, reduceIte, Nat.reduceEqDiff, Option.getD_some]
  refine ⟨_, _, runs128 w.2 n hb hn, _, rfl, _, rfl, by simp [handIo, handBx], fa_cons (⟨rfl, .inl rfl, by simp [handIo, handBx], _, rfl, by simp, by first | rfl | (simp; done) | exact (List.take_of_length_le (by simp)).symm⟩) (fa_cons (rfl) (fa_nil)), _, rfl, _, rfl, ?_⟩
  simp only [newCs, newRes, newA, resV, List.flatMap_cons, List.flatMap_nil, List.flatten_nil, List.flatten_cons, List.append_nil, List.nil_append, List.cons_append, List.length_cons, List.length_nil, List.drop_succ_cons, List.drop_zero, List.take_succ_cons, List.take_zero, if_true, if_false, Bool.false_eq_true, List.drop_nil, mixCs, isRx, Vs.put, reduceIte, Nat.reduceEqDiff, Nat.zero_add, Nat.reduceAdd, bD_len, sD_len]
  try simp only [setEnv, Vs.put, killEnv, del, cutR, reduceIte, Nat.reduceEqDiff, Nat.reduceAdd]
  refine os_ev (evq_mvt rfl) ?_
  simp only [Vs.put, reduceIte, Nat.reduceEqDiff]
  simp only [runOs, thenQ, blockQ, Vs.put, reduceIte, Nat.reduceEqDiff]
  refine sw_seq ?_
  refine sw_seq ?_
  refine sw_reg ?_
  unfold s140_2
  refine os_ev (evq_mvt rfl) ?_
  refine os_ev (evq_bin rfl rfl rfl) ?_
  simp only [runOs, thenQ, blockQ, Vs.put, reduceIte, Nat.reduceEqDiff]
  refine sw_cond rfl (fun h1 => ?_) (fun h1 => ?_)
  · try simp only [decide_eq_true_eq, decide_eq_false_iff_not, bne_iff_ne, beq_iff_eq, bne_eq_false_iff_eq, beq_eq_false_iff_ne, ne_eq, Int.not_lt, Int.not_le, gt_iff_lt, ge_iff_le, Bool.not_eq_true, Bool.not_eq_false, Bool.not_eq_true', Bool.not_eq_false', Bool.and_eq_true, Bool.or_eq_true, Bool.and_eq_false_iff, Bool.or_eq_false_iff] at h1
    rw [if_neg (show ¬ w.2.length ≤ n from fun hle => by rw [if_pos hle] at h1; omega)]
    refine sw_seq ?_
    refine sw_reg ?_
    unfold s140_3
    refine os_ev (evq_mvk) ?_
    simp only [runOs, thenQ, blockQ, Vs.put, reduceIte, Nat.reduceEqDiff]
    refine sw_ret ?_
    simp only [thenQ, blockQ, resK, ev, St.opd, Vs.get, reduceIte, Nat.reduceEqDiff, Option.getD_some]
    first | exact leaves_vals rfl rfl rfl rfl | exact leaves_a rfl rfl rfl rfl
  · try simp only [decide_eq_true_eq, decide_eq_false_iff_not, bne_iff_ne, beq_iff_eq, bne_eq_false_iff_eq, beq_eq_false_iff_ne, ne_eq, Int.not_lt, Int.not_le, gt_iff_lt, ge_iff_le, Bool.not_eq_true, Bool.not_eq_false, Bool.not_eq_true', Bool.not_eq_false', Bool.and_eq_true, Bool.or_eq_true, Bool.and_eq_false_iff, Bool.or_eq_false_iff] at h1
    refine sw_skip ?_
    simp only [thenQ, blockQ]
    refine sw_seq ?_
    refine sw_reg ?_
    unfold s140_4
    refine os_ev (evq_mvt rfl) ?_
    refine os_ev (evq_mvt rfl) ?_
    simp only [Vs.put, reduceIte, Nat.reduceEqDiff]
    simp only [runOs, thenQ, blockQ, Vs.put, reduceIte, Nat.reduceEqDiff]
    refine sw_ret ?_
    simp only [thenQ, blockQ, resK, ev, St.opd, Vs.get, reduceIte, Nat.reduceEqDiff, Option.getD_some]
    first | exact leaves_vals rfl rfl rfl rfl | exact leaves_a rfl rfl rfl rfl
theorem runs131 (r : RowM) (n : Nat) (hb : r.old.2.length ≤ 9223372036854775807 ∧ r.new.2.length ≤ 9223372036854775807 ∧ r.key.size ≤ 9223372036854775807) (hn : n < 2 ^ 62) : Runs Try.prog 131 [.val true [(.rd, .lf (.string r.key)), (.rd, .lf (.int .i64 r.old.1)), (.rd, .sl 1 (bD r.old.2)), (.rd, .lf (.int .i64 r.new.1)), (.rd, .sl 1 (bD r.new.2)), (.rd, .lf (.int .i64 r.has)), (.rd, .lf (.bool r.aside))], .val false [(.rd, .lf (.int .i64 n))]] ⟨[(false, [.lf (.int .i64 (if szR r ≤ n then ((n - szR r : Nat) : Int) else -1))])], [], []⟩ := by
  obtain ⟨c, hb, hs⟩ := body_of tr131
  refine runs_of_sw Try.func131 hb hs rfl (show 2 ≤ 25 by decide) ?_
  clear hb hs c
  simp only [inAs, inCells, flat, List.flatMap_cons, List.flatMap_nil, Arg.cells, List.cons_append, List.nil_append, inCs, inC, fixN, fixCs, fixC, nBox, inV, inB, rootB, List.length_cons, List.length_nil, List.take_succ_cons, List.take_zero, List.drop_succ_cons, List.drop_zero, env0, Nat.zero_add, Nat.add_zero, List.append_nil, Nat.reduceAdd, bD_len]
  unfold s131
  have e1 : IntKind.i64.wrap ((n : Int) - (r.key.size : Int)) = (n : Int) - (r.key.size : Int) := wrap64 (by omega) (by omega)
  refine sw_seq ?_
  refine sw_reg ?_
  unfold s131_0
  refine os_wro (by intros; nofun) ?_
  refine ⟨_, rfl, ?_⟩
  try simp only [setEnv, Vs.put, killEnv, del, cutR, reduceIte, Nat.reduceEqDiff, Nat.reduceAdd]
  refine os_ev (evq_mvk) ?_
  simp only [runOs, thenQ, blockQ, Vs.put, reduceIte, Nat.reduceEqDiff]
  refine sw_seq ?_
  refine sw_reg ?_
  unfold s131_1
  refine os_ev (evq_mvt rfl) ?_
  first | refine os_ev (evq_fadb rfl) ?_ | refine os_ev (evq_fade rfl) ?_
  try simp only [List.take_zero, List.take_succ_cons, List.drop_zero, List.drop_succ_cons, List.nil_append, List.cons_append, List.append_nil, List.length_cons, List.length_nil, Nat.zero_add, Nat.add_zero, Nat.reduceAdd, Nat.reduceMul, toC, toCs, bD_len, sD_len, rep, List.getElem?_cons_zero, List.getElem?_cons_succ]
  first | refine os_ev (evq_ldb rfl rfl rfl) ?_ | refine os_ev (evq_ldl rfl rfl (rfl) rfl) ?_ | refine os_ev (evq_lds rfl rfl (rfl) rfl) ?_
  try simp only [List.take_zero, List.take_succ_cons, List.drop_zero, List.drop_succ_cons, List.nil_append, List.cons_append, List.append_nil, List.length_cons, List.length_nil, Nat.zero_add, Nat.add_zero, Nat.reduceAdd, Nat.reduceMul, toC, toCs, bD_len, sD_len, rep, List.getElem?_cons_zero, List.getElem?_cons_succ]
  refine os_ev (evq_sln rfl) ?_
  simp only [Vs.put, reduceIte, Nat.reduceEqDiff]
  refine os_ev (evq_bin rfl rfl rfl) ?_
  simp only [e1]
  refine os_ev (evq_mvt rfl) ?_
  simp only [runOs, thenQ, blockQ, Vs.put, reduceIte, Nat.reduceEqDiff]
  refine sw_seq ?_
  refine sw_seq ?_
  refine sw_reg ?_
  unfold s131_2
  refine os_ev (evq_mvt rfl) ?_
  refine os_ev (evq_bin rfl rfl rfl) ?_
  simp only [runOs, thenQ, blockQ, Vs.put, reduceIte, Nat.reduceEqDiff]
  refine sw_cond rfl (fun h1 => ?_) (fun h1 => ?_)
  · try simp only [decide_eq_true_eq, decide_eq_false_iff_not, bne_iff_ne, beq_iff_eq, bne_eq_false_iff_eq, beq_eq_false_iff_ne, ne_eq, Int.not_lt, Int.not_le, gt_iff_lt, ge_iff_le, Bool.not_eq_true, Bool.not_eq_false, Bool.not_eq_true', Bool.not_eq_false', Bool.and_eq_true, Bool.or_eq_true, Bool.and_eq_false_iff, Bool.or_eq_false_iff] at h1
    rw [if_neg (show ¬ szR r ≤ n by simp only [szR]; omega)]
    refine sw_seq ?_
    refine sw_reg ?_
    unfold s131_3
    refine os_ev (evq_mvk) ?_
    simp only [Vs.put, reduceIte, Nat.reduceEqDiff]
    simp only [runOs, thenQ, blockQ, Vs.put, reduceIte, Nat.reduceEqDiff]
    refine sw_ret ?_
    simp only [thenQ, blockQ, resK, ev, St.opd, Vs.get, reduceIte, Nat.reduceEqDiff, Option.getD_some]
    first | exact leaves_vals rfl rfl rfl rfl | exact leaves_a rfl rfl rfl rfl
  · try simp only [decide_eq_true_eq, decide_eq_false_iff_not, bne_iff_ne, beq_iff_eq, bne_eq_false_iff_eq, beq_eq_false_iff_ne, ne_eq, Int.not_lt, Int.not_le, gt_iff_lt, ge_iff_le, Bool.not_eq_true, Bool.not_eq_false, Bool.not_eq_true', Bool.not_eq_false', Bool.and_eq_true, Bool.or_eq_true, Bool.and_eq_false_iff, Bool.or_eq_false_iff] at h1
    have e0 : (n : Int) - (r.key.size : Int) = ((n - r.key.size : Nat) : Int) := by omega
    simp only [e0]
    refine sw_skip ?_
    simp only [thenQ, blockQ]
    refine sw_seq ?_
    refine sw_reg ?_
    unfold s131_4
    first | refine os_ev (evq_fadb rfl) ?_ | refine os_ev (evq_fade rfl) ?_
    try simp only [List.take_zero, List.take_succ_cons, List.drop_zero, List.drop_succ_cons, List.nil_append, List.cons_append, List.append_nil, List.length_cons, List.length_nil, Nat.zero_add, Nat.add_zero, Nat.reduceAdd, Nat.reduceMul, toC, toCs, bD_len, sD_len, rep, List.getElem?_cons_zero, List.getElem?_cons_succ]
    first | refine os_ev (evq_lgb rfl rfl (Nat.le_of_ble_eq_true rfl) rfl) ?_ | refine os_ev (evq_lge rfl rfl (rfl) (Nat.le_of_ble_eq_true rfl) rfl) ?_
    try simp only [List.take_zero, List.take_succ_cons, List.drop_zero, List.drop_succ_cons, List.nil_append, List.cons_append, List.append_nil, List.length_cons, List.length_nil, Nat.zero_add, Nat.add_zero, Nat.reduceAdd, Nat.reduceMul, toC, toCs, bD_len, sD_len, rep, List.getElem?_cons_zero, List.getElem?_cons_succ]
    refine os_ev (evq_mvt rfl) ?_
    refine os_callo ?_
    simp only [List.map_cons, List.map_nil, St.opd, Vs.get, Vs.put, reduceIte, Nat.reduceEqDiff, Option.getD_some]
    refine ⟨_, _, runs140 r.old (n - r.key.size) hb.1 (by omega), _, rfl, _, rfl, by simp [handIo, handBx], fa_cons (rfl) (fa_cons (⟨rfl, .inl rfl, by simp [handIo, handBx], _, rfl, by simp, by first | rfl | (simp; done) | exact (List.take_of_length_le (by simp)).symm⟩) (fa_cons (rfl) (fa_nil))), _, rfl, _, rfl, ?_⟩
    simp only [newCs, newRes, newA, resV, List.flatMap_cons, List.flatMap_nil, List.flatten_nil, List.flatten_cons, List.append_nil, List.nil_append, List.cons_append, List.length_cons, List.length_nil, List.drop_succ_cons, List.drop_zero, List.take_succ_cons, List.take_zero, if_true, if_false, Bool.false_eq_true, List.drop_nil, mixCs, isRx, Vs.put, reduceIte, Nat.reduceEqDiff, Nat.zero_add, Nat.reduceAdd, bD_len, sD_len]
    try simp only [setEnv, Vs.put, killEnv, del, cutR, reduceIte, Nat.reduceEqDiff, Nat.reduceAdd]
    refine os_ev (evq_mvt rfl) ?_
    simp only [runOs, thenQ, blockQ, Vs.put, reduceIte, Nat.reduceEqDiff]
    refine sw_seq ?_
    refine sw_seq ?_
    refine sw_reg ?_
    unfold s131_5
    refine os_ev (evq_mvt rfl) ?_
    simp only [Vs.put, reduceIte, Nat.reduceEqDiff]
    refine os_ev (evq_bin rfl rfl rfl) ?_
    simp only [runOs, thenQ, blockQ, Vs.put, reduceIte, Nat.reduceEqDiff]
    refine sw_cond rfl (fun h3 => ?_) (fun h3 => ?_)
    · try simp only [decide_eq_true_eq, decide_eq_false_iff_not, bne_iff_ne, beq_iff_eq, bne_eq_false_iff_eq, beq_eq_false_iff_ne, ne_eq, Int.not_lt, Int.not_le, gt_iff_lt, ge_iff_le, Bool.not_eq_true, Bool.not_eq_false, Bool.not_eq_true', Bool.not_eq_false', Bool.and_eq_true, Bool.or_eq_true, Bool.and_eq_false_iff, Bool.or_eq_false_iff] at h3
      have hno : ¬ r.old.2.length ≤ n - r.key.size := fun hle => by rw [if_pos hle] at h3; omega
      rw [if_neg (show ¬ szR r ≤ n by simp only [szR]; omega)]
      refine sw_seq ?_
      refine sw_reg ?_
      unfold s131_6
      refine os_ev (evq_mvk) ?_
      simp only [runOs, thenQ, blockQ, Vs.put, reduceIte, Nat.reduceEqDiff]
      refine sw_ret ?_
      simp only [thenQ, blockQ, resK, ev, St.opd, Vs.get, reduceIte, Nat.reduceEqDiff, Option.getD_some]
      first | exact leaves_vals rfl rfl rfl rfl | exact leaves_a rfl rfl rfl rfl
    · try simp only [decide_eq_true_eq, decide_eq_false_iff_not, bne_iff_ne, beq_iff_eq, bne_eq_false_iff_eq, beq_eq_false_iff_ne, ne_eq, Int.not_lt, Int.not_le, gt_iff_lt, ge_iff_le, Bool.not_eq_true, Bool.not_eq_false, Bool.not_eq_true', Bool.not_eq_false', Bool.and_eq_true, Bool.or_eq_true, Bool.and_eq_false_iff, Bool.or_eq_false_iff] at h3
      have hy : r.old.2.length ≤ n - r.key.size := by
        rcases Nat.lt_or_ge (n - r.key.size) (r.old.2.length) with hx | hx
        · rw [if_neg (by omega)] at h3; omega
        · exact hx
      simp only [if_pos hy]
      refine sw_skip ?_
      simp only [thenQ, blockQ]
      refine sw_seq ?_
      refine sw_reg ?_
      unfold s131_7
      first | refine os_ev (evq_fadb rfl) ?_ | refine os_ev (evq_fade rfl) ?_
      try simp only [List.take_zero, List.take_succ_cons, List.drop_zero, List.drop_succ_cons, List.nil_append, List.cons_append, List.append_nil, List.length_cons, List.length_nil, Nat.zero_add, Nat.add_zero, Nat.reduceAdd, Nat.reduceMul, toC, toCs, bD_len, sD_len, rep, List.getElem?_cons_zero, List.getElem?_cons_succ]
      first | refine os_ev (evq_lgb rfl rfl (Nat.le_of_ble_eq_true rfl) rfl) ?_ | refine os_ev (evq_lge rfl rfl (rfl) (Nat.le_of_ble_eq_true rfl) rfl) ?_
      try simp only [List.take_zero, List.take_succ_cons, List.drop_zero, List.drop_succ_cons, List.nil_append, List.cons_append, List.append_nil, List.length_cons, List.length_nil, Nat.zero_add, Nat.add_zero, Nat.reduceAdd, Nat.reduceMul, toC, toCs, bD_len, sD_len, rep, List.getElem?_cons_zero, List.getElem?_cons_succ]
      refine os_ev (evq_mvt rfl) ?_
      simp only [Vs.put, reduceIte, Nat.reduceEqDiff]
      refine os_callo ?_
      simp only [List.map_cons, List.map_nil, St.opd, Vs.get, Vs.put, reduceIte, Nat.reduceEqDiff, Option.getD_some]
      refine ⟨_, _, runs140 r.new (n - r.key.size - r.old.2.length) hb.2.1 (by omega), _, rfl, _, rfl, by simp [handIo, handBx], fa_cons (rfl) (fa_cons (⟨rfl, .inl rfl, by simp [handIo, handBx], _, rfl, by simp, by first | rfl | (simp; done) | exact (List.take_of_length_le (by simp)).symm⟩) (fa_cons (rfl) (fa_nil))), _, rfl, _, rfl, ?_⟩
      simp only [newCs, newRes, newA, resV, List.flatMap_cons, List.flatMap_nil, List.flatten_nil, List.flatten_cons, List.append_nil, List.nil_append, List.cons_append, List.length_cons, List.length_nil, List.drop_succ_cons, List.drop_zero, List.take_succ_cons, List.take_zero, if_true, if_false, Bool.false_eq_true, List.drop_nil, mixCs, isRx, Vs.put, reduceIte, Nat.reduceEqDiff, Nat.zero_add, Nat.reduceAdd, bD_len, sD_len]
      try simp only [setEnv, Vs.put, killEnv, del, cutR, reduceIte, Nat.reduceEqDiff, Nat.reduceAdd]
      refine os_ev (evq_mvt rfl) ?_
      simp only [runOs, thenQ, blockQ, Vs.put, reduceIte, Nat.reduceEqDiff]
      refine sw_seq ?_
      refine sw_seq ?_
      refine sw_reg ?_
      unfold s131_8
      refine os_ev (evq_mvt rfl) ?_
      refine os_ev (evq_bin rfl rfl rfl) ?_
      simp only [runOs, thenQ, blockQ, Vs.put, reduceIte, Nat.reduceEqDiff]
      refine sw_cond rfl (fun h5 => ?_) (fun h5 => ?_)
      · try simp only [decide_eq_true_eq, decide_eq_false_iff_not, bne_iff_ne, beq_iff_eq, bne_eq_false_iff_eq, beq_eq_false_iff_ne, ne_eq, Int.not_lt, Int.not_le, gt_iff_lt, ge_iff_le, Bool.not_eq_true, Bool.not_eq_false, Bool.not_eq_true', Bool.not_eq_false', Bool.and_eq_true, Bool.or_eq_true, Bool.and_eq_false_iff, Bool.or_eq_false_iff] at h5
        have hno : ¬ r.new.2.length ≤ n - r.key.size - r.old.2.length := fun hle => by rw [if_pos hle] at h5; omega
        rw [if_neg (show ¬ szR r ≤ n by simp only [szR]; omega)]
        refine sw_seq ?_
        refine sw_reg ?_
        unfold s131_9
        refine os_ev (evq_mvk) ?_
        simp only [runOs, thenQ, blockQ, Vs.put, reduceIte, Nat.reduceEqDiff]
        refine sw_ret ?_
        simp only [thenQ, blockQ, resK, ev, St.opd, Vs.get, reduceIte, Nat.reduceEqDiff, Option.getD_some]
        first | exact leaves_vals rfl rfl rfl rfl | exact leaves_a rfl rfl rfl rfl
      · try simp only [decide_eq_true_eq, decide_eq_false_iff_not, bne_iff_ne, beq_iff_eq, bne_eq_false_iff_eq, beq_eq_false_iff_ne, ne_eq, Int.not_lt, Int.not_le, gt_iff_lt, ge_iff_le, Bool.not_eq_true, Bool.not_eq_false, Bool.not_eq_true', Bool.not_eq_false', Bool.and_eq_true, Bool.or_eq_true, Bool.and_eq_false_iff, Bool.or_eq_false_iff] at h5
        have hy2 : r.new.2.length ≤ n - r.key.size - r.old.2.length := by
          rcases Nat.lt_or_ge (n - r.key.size - r.old.2.length) (r.new.2.length) with hx | hx
          · rw [if_neg (by omega)] at h5; omega
          · exact hx
        simp only [if_pos hy2]
        rw [if_pos (show szR r ≤ n by simp only [szR]; omega), show n - szR r = n - r.key.size - r.old.2.length - r.new.2.length by simp only [szR]; omega]
        refine sw_skip ?_
        simp only [thenQ, blockQ]
        refine sw_seq ?_
        refine sw_reg ?_
        unfold s131_10
        refine os_ev (evq_mvt rfl) ?_
        simp only [Vs.put, reduceIte, Nat.reduceEqDiff]
        refine os_ev (evq_mvt rfl) ?_
        simp only [runOs, thenQ, blockQ, Vs.put, reduceIte, Nat.reduceEqDiff]
        refine sw_ret ?_
        simp only [thenQ, blockQ, resK, ev, St.opd, Vs.get, reduceIte, Nat.reduceEqDiff, Option.getD_some]
        first | exact leaves_vals rfl rfl rfl rfl | exact leaves_a rfl rfl rfl rfl
theorem runs102 (l : List RowM) (n : Nat) (hl : l.length ≤ 9223372036854775807) (hb : ∀ r ∈ l, r.old.2.length ≤ 9223372036854775807 ∧ r.new.2.length ≤ 9223372036854775807 ∧ r.key.size ≤ 9223372036854775807) (hn : n < 2 ^ 62) : Runs Try.prog 102 [.val false [(.rd, .sl 7 (rD l))], .val false [(.rd, .lf (.int .i64 n))]] ⟨[(false, [.lf (.int .i64 (if szRS l ≤ n then ((n - szRS l : Nat) : Int) else -1))])], [], []⟩ := by
  obtain ⟨c, hb, hs⟩ := body_of tr102
  refine runs_of_sw Try.func102 hb hs rfl (show 2 ≤ 27 by decide) ?_
  clear hb hs c
  simp only [inAs, inCells, flat, List.flatMap_cons, List.flatMap_nil, Arg.cells, List.cons_append, List.nil_append, inCs, inC, fixN, fixCs, fixC, nBox, inV, inB, rootB, List.length_cons, List.length_nil, List.take_succ_cons, List.take_zero, List.drop_succ_cons, List.drop_zero, env0, Nat.zero_add, Nat.add_zero, List.append_nil, Nat.reduceAdd, rD_len]
  unfold s102
  have e1 : IntKind.i64.wrap ((n : Int) - (l.length : Int)) = (n : Int) - (l.length : Int) := wrap64 (by omega) (by omega)
  refine sw_seq ?_
  refine sw_reg ?_
  unfold s102_0
  refine os_ev (evq_mvk) ?_
  simp only [runOs, thenQ, blockQ, Vs.put, reduceIte, Nat.reduceEqDiff]
  refine sw_seq ?_
  refine sw_reg ?_
  unfold s102_1
  refine os_ev (evq_mvt rfl) ?_
  refine os_ev (evq_mvt rfl) ?_
  first | refine os_ev (evq_lenr rfl) ?_ | refine os_ev (evq_lenn rfl) ?_
  refine os_ev (evq_bin rfl rfl rfl) ?_
  simp only [e1]
  simp only [Vs.put, reduceIte, Nat.reduceEqDiff]
  refine os_ev (evq_mvt rfl) ?_
  simp only [runOs, thenQ, blockQ, Vs.put, reduceIte, Nat.reduceEqDiff]
  refine sw_seq ?_
  refine sw_seq ?_
  refine sw_reg ?_
  unfold s102_2
  refine os_ev (evq_mvt rfl) ?_
  refine os_ev (evq_bin rfl rfl rfl) ?_
  simp only [runOs, thenQ, blockQ, Vs.put, reduceIte, Nat.reduceEqDiff]
  refine sw_cond rfl (fun h1 => ?_) (fun h1 => ?_)
  · try simp only [decide_eq_true_eq, decide_eq_false_iff_not, bne_iff_ne, beq_iff_eq, bne_eq_false_iff_eq, beq_eq_false_iff_ne, ne_eq, Int.not_lt, Int.not_le, gt_iff_lt, ge_iff_le, Bool.not_eq_true, Bool.not_eq_false, Bool.not_eq_true', Bool.not_eq_false', Bool.and_eq_true, Bool.or_eq_true, Bool.and_eq_false_iff, Bool.or_eq_false_iff] at h1
    rw [if_neg (show ¬ szRS l ≤ n by simp only [szRS]; omega)]
    refine sw_seq ?_
    refine sw_reg ?_
    unfold s102_3
    refine os_ev (evq_mvk) ?_
    simp only [runOs, thenQ, blockQ, Vs.put, reduceIte, Nat.reduceEqDiff]
    refine sw_ret ?_
    simp only [thenQ, blockQ, resK, ev, St.opd, Vs.get, reduceIte, Nat.reduceEqDiff, Option.getD_some]
    first | exact leaves_vals rfl rfl rfl rfl | exact leaves_a rfl rfl rfl rfl
  · try simp only [decide_eq_true_eq, decide_eq_false_iff_not, bne_iff_ne, beq_iff_eq, bne_eq_false_iff_eq, beq_eq_false_iff_ne, ne_eq, Int.not_lt, Int.not_le, gt_iff_lt, ge_iff_le, Bool.not_eq_true, Bool.not_eq_false, Bool.not_eq_true', Bool.not_eq_false', Bool.and_eq_true, Bool.or_eq_true, Bool.and_eq_false_iff, Bool.or_eq_false_iff] at h1
    have e0 : (n : Int) - (l.length : Int) = ((n - l.length : Nat) : Int) := by omega
    refine sw_skip ?_
    simp only [thenQ, blockQ]
    refine sw_seq ?_
    refine sw_seq ?_
    refine sw_reg ?_
    unfold s102_4
    refine os_ev (evq_mvk) ?_
    simp only [Vs.put, reduceIte, Nat.reduceEqDiff]
    simp only [runOs, thenQ, blockQ, Vs.put, reduceIte, Nat.reduceEqDiff]
    refine sw_block ?_
    refine sw_loop_upd [0, 1, 5] (α := Nat) (fun i => [(1, .a (.c (.lf (.int .i64 (n - (l.length + szL szR (l.take i)) : Nat))))), (5, .a (.c (.lf (.int .i64 (i : Nat)))))]) (fun i => [(0, .im 7 (rD l))]) (1) (fun i => i ≤ l.length ∧ l.length + szL szR (l.take i) ≤ n) (fun i => l.length - i) (0) [(0, 0)] ?_ (by decide) ?_ ?_ ?_
    · exact ⟨Nat.zero_le _, by simp only [List.take_zero, szL_nil, Nat.add_zero]; omega⟩
    · simp only [sel, Vs.get, upd, Vs.put, reduceIte, Nat.reduceEqDiff]
      repeat' (first | exact er_nil | refine er_un ?_ | refine er_cons rfl ?_ ?_)
      all_goals (try simp only [V.map, A.map, renC, Vs.get, reduceIte, Nat.reduceEqDiff, List.map_cons, List.map_nil, List.take_zero, szL_nil, Nat.add_zero, e0])
      all_goals (try rfl)
    · repeat' (first | exact rr_nil | refine rr_cons 0 rfl rfl ?_ ?_)
      all_goals (try simp only [renRoot, renC, Vs.get, reduceIte, Nat.reduceEqDiff, List.map_cons, List.map_nil, List.take_zero, szL_nil, Nat.add_zero, e0])
      all_goals (try rfl)
    · rintro i hinv
      simp only [sel, Vs.get, upd, Vs.put, reduceIte, Nat.reduceEqDiff]
      obtain ⟨hi, hm⟩ := hinv
      refine sw_seq ?_
      refine sw_seq ?_
      refine sw_reg ?_
      unfold s102_5
      refine os_ev (evq_mvt rfl) ?_
      refine os_ev (evq_mvt rfl) ?_
      first | refine os_ev (evq_lenr rfl) ?_ | refine os_ev (evq_lenn rfl) ?_
      refine os_ev (evq_bin rfl rfl rfl) ?_
      simp only [runOs, thenQ, blockQ, Vs.put, reduceIte, Nat.reduceEqDiff]
      refine sw_cond rfl (fun h4 => ?_) (fun h4 => ?_)
      · try simp only [decide_eq_true_eq, decide_eq_false_iff_not, bne_iff_ne, beq_iff_eq, bne_eq_false_iff_eq, beq_eq_false_iff_ne, ne_eq, Int.not_lt, Int.not_le, gt_iff_lt, ge_iff_le, Bool.not_eq_true, Bool.not_eq_false, Bool.not_eq_true', Bool.not_eq_false', Bool.and_eq_true, Bool.or_eq_true, Bool.and_eq_false_iff, Bool.or_eq_false_iff] at h4
        have hib : i < l.length := by omega
        have ei : IntKind.i64.wrap ((i : Int) + 1) = ((i + 1 : Nat) : Int) := by rw [wrap64 (by omega) (by omega)]; rfl
        have hst := szL_take szR hib
        have hle := szL_le szR l (i + 1)
        refine sw_skip ?_
        simp only [thenQ, blockQ]
        refine sw_seq ?_
        refine sw_block ?_
        refine sw_seq ?_
        refine sw_reg ?_
        unfold s102_7
        refine os_ev (evq_mvt rfl) ?_
        simp only [Vs.put, reduceIte, Nat.reduceEqDiff]
        refine os_ev (evq_mvt rfl) ?_
        first | refine os_ev (evq_iad rfl rfl rfl (by omega)) ?_ | refine os_ev (evq_iad rfl rfl rfl (by simp)) ?_
        first | refine os_ev (evq_lgb rfl rfl (Nat.le_of_ble_eq_true rfl) rfl) ?_ | refine os_ev (evq_lge rfl rfl (rD_get hib) (Nat.le_of_ble_eq_true rfl) rfl) ?_ | refine os_ev (evq_lge rfl rfl (rfl) (Nat.le_of_ble_eq_true rfl) rfl) ?_
        try simp only [List.take_zero, List.take_succ_cons, List.drop_zero, List.drop_succ_cons, List.nil_append, List.cons_append, List.append_nil, List.length_cons, List.length_nil, Nat.zero_add, Nat.add_zero, Nat.reduceAdd, Nat.reduceMul, toC, toCs, bD_len, sD_len, rep, List.getElem?_cons_zero, List.getElem?_cons_succ]
        refine os_ev (evq_mvt rfl) ?_
        refine os_callo ?_
        simp only [List.map_cons, List.map_nil, St.opd, Vs.get, Vs.put, reduceIte, Nat.reduceEqDiff, Option.getD_some]
        refine ⟨_, _, runs131 l[i] (n - (l.length + szL szR (l.take i))) (hb _ (List.getElem_mem hib)) (by omega), _, rfl, _, rfl, by simp [handIo, handBx], fa_cons (rfl) (fa_cons (rfl) (fa_cons (⟨rfl, .inl rfl, by simp [handIo, handBx], bD l[i].old.2, by simp [nodeIn, nodeAt, Vs.get, rD_get hib], by simp, by simp⟩) (fa_cons (rfl) (fa_cons (⟨rfl, .inl rfl, by simp [handIo, handBx], bD l[i].new.2, by simp [nodeIn, nodeAt, Vs.get, rD_get hib], by simp, by simp⟩) (fa_cons (rfl) (fa_cons (rfl) (fa_cons (rfl) (fa_nil)))))))), _, rfl, _, rfl, ?_⟩
        simp only [newCs, newRes, newA, resV, List.flatMap_cons, List.flatMap_nil, List.flatten_nil, List.flatten_cons, List.append_nil, List.nil_append, List.cons_append, List.length_cons, List.length_nil, List.drop_succ_cons, List.drop_zero, List.take_succ_cons, List.take_zero, if_true, if_false, Bool.false_eq_true, List.drop_nil, mixCs, isRx, Vs.put, reduceIte, Nat.reduceEqDiff, Nat.zero_add, Nat.reduceAdd, bD_len, sD_len]
        try simp only [setEnv, Vs.put, killEnv, del, cutR, reduceIte, Nat.reduceEqDiff, Nat.reduceAdd]
        refine os_ev (evq_mvt rfl) ?_
        simp only [Vs.put, reduceIte, Nat.reduceEqDiff]
        simp only [runOs, thenQ, blockQ, Vs.put, reduceIte, Nat.reduceEqDiff]
        refine sw_seq ?_
        refine sw_reg ?_
        unfold s102_8
        refine os_ev (evq_mvt rfl) ?_
        refine os_ev (evq_bin rfl rfl rfl) ?_
        simp only [runOs, thenQ, blockQ, Vs.put, reduceIte, Nat.reduceEqDiff]
        refine sw_cond rfl (fun h5 => ?_) (fun h5 => ?_)
        · try simp only [decide_eq_true_eq, decide_eq_false_iff_not, bne_iff_ne, beq_iff_eq, bne_eq_false_iff_eq, beq_eq_false_iff_ne, ne_eq, Int.not_lt, Int.not_le, gt_iff_lt, ge_iff_le, Bool.not_eq_true, Bool.not_eq_false, Bool.not_eq_true', Bool.not_eq_false', Bool.and_eq_true, Bool.or_eq_true, Bool.and_eq_false_iff, Bool.or_eq_false_iff] at h5
          have hno : ¬ szR l[i] ≤ n - (l.length + szL szR (l.take i)) := fun hle => by rw [if_pos hle] at h5; omega
          rw [if_neg (show ¬ szRS l ≤ n by simp only [szRS]; omega)]
          refine sw_seq ?_
          refine sw_reg ?_
          unfold s102_9
          refine os_ev (evq_mvk) ?_
          simp only [runOs, thenQ, blockQ, Vs.put, reduceIte, Nat.reduceEqDiff]
          refine sw_ret ?_
          simp only [thenQ, blockQ, resK, ev, St.opd, Vs.get, reduceIte, Nat.reduceEqDiff, Option.getD_some]
          first | exact leaves_vals rfl rfl rfl rfl | exact leaves_a rfl rfl rfl rfl
        · try simp only [decide_eq_true_eq, decide_eq_false_iff_not, bne_iff_ne, beq_iff_eq, bne_eq_false_iff_eq, beq_eq_false_iff_ne, ne_eq, Int.not_lt, Int.not_le, gt_iff_lt, ge_iff_le, Bool.not_eq_true, Bool.not_eq_false, Bool.not_eq_true', Bool.not_eq_false', Bool.and_eq_true, Bool.or_eq_true, Bool.and_eq_false_iff, Bool.or_eq_false_iff] at h5
          have hyes : szR l[i] ≤ n - (l.length + szL szR (l.take i)) := by
            rcases Nat.lt_or_ge (n - (l.length + szL szR (l.take i))) (szR l[i]) with hx | hx
            · rw [if_neg (by omega)] at h5; omega
            · exact hx
          simp only [if_pos hyes]
          have e3 : n - (l.length + szL szR (l.take i)) - szR l[i] = n - (l.length + szL szR (l.take (i + 1))) := by omega
          refine sw_skip ?_
          simp only [thenQ, blockQ]
          refine sw_reg ?_
          unfold s102_6
          refine os_ev (evq_mvt rfl) ?_
          refine os_ev (evq_bin rfl rfl rfl) ?_
          simp only [Vs.put, reduceIte, Nat.reduceEqDiff]
          refine os_ev (evq_mvt rfl) ?_
          simp only [runOs, thenQ, blockQ, Vs.put, reduceIte, Nat.reduceEqDiff]
          try simp only [thenQ, blockQ]
          refine ⟨i + 1, ?_, ?_, rfl, [(0, 0)], by decide, ?_, ?_⟩
          · exact ⟨by omega, by omega⟩
          · first | omega | (dsimp only; omega)
          · simp only [sel, Vs.get, upd, Vs.put, reduceIte, Nat.reduceEqDiff]
            repeat' (first | exact er_nil | refine er_un ?_ | refine er_cons rfl ?_ ?_)
            all_goals (try simp only [V.map, A.map, renC, Vs.get, reduceIte, Nat.reduceEqDiff, List.map_cons, List.map_nil, ei, e3])
          · repeat' (first | exact rr_nil | refine rr_cons 0 rfl rfl ?_ ?_)
            all_goals (try simp only [renRoot, renC, Vs.get, reduceIte, Nat.reduceEqDiff, List.map_cons, List.map_nil, ei, e3])
      · try simp only [decide_eq_true_eq, decide_eq_false_iff_not, bne_iff_ne, beq_iff_eq, bne_eq_false_iff_eq, beq_eq_false_iff_ne, ne_eq, Int.not_lt, Int.not_le, gt_iff_lt, ge_iff_le, Bool.not_eq_true, Bool.not_eq_false, Bool.not_eq_true', Bool.not_eq_false', Bool.and_eq_true, Bool.or_eq_true, Bool.and_eq_false_iff, Bool.or_eq_false_iff] at h4
        have hib : i = l.length := by omega
        subst hib
        rw [List.take_length] at hm
        simp only [List.take_length]
        rw [if_pos (show szRS l ≤ n by simp only [szRS]; omega)]
        refine sw_exit ?_
        simp only [thenQ, blockQ, if_true, Nat.reduceEqDiff, if_false, reduceIte]
        refine sw_seq ?_
        refine sw_reg ?_
        unfold s102_10
        refine os_ev (evq_mvt rfl) ?_
        refine os_ev (evq_mvt rfl) ?_
        simp only [runOs, thenQ, blockQ, Vs.put, reduceIte, Nat.reduceEqDiff]
        refine sw_ret ?_
        simp only [thenQ, blockQ, resK, ev, St.opd, Vs.get, reduceIte, Nat.reduceEqDiff, Option.getD_some]
        first | exact leaves_vals rfl rfl rfl rfl | exact leaves_a rfl rfl rfl rfl
theorem runs103 (l : List MarkM) (n : Nat) (hb : l.length ≤ 9223372036854775807) (hn : n < 2 ^ 62) : Runs Try.prog 103 [.val false [(.rd, .sl 3 (mD l))], .val false [(.rd, .lf (.int .i64 n))]] ⟨[(false, [.lf (.int .i64 (if l.length ≤ n then ((n - l.length : Nat) : Int) else -1))])], [], []⟩ := by
  obtain ⟨c, hb, hs⟩ := body_of tr103
  refine runs_of_sw Try.func103 hb hs rfl (show 2 ≤ 12 by decide) ?_
  clear hb hs c
  simp only [inAs, inCells, flat, List.flatMap_cons, List.flatMap_nil, Arg.cells, List.cons_append, List.nil_append, inCs, inC, fixN, fixCs, fixC, nBox, inV, inB, rootB, List.length_cons, List.length_nil, List.take_succ_cons, List.take_zero, List.drop_succ_cons, List.drop_zero, env0, Nat.zero_add, Nat.add_zero, List.append_nil, Nat.reduceAdd, mD_len]
  unfold s103
  have e1 : IntKind.i64.wrap ((n : Int) - (l.length : Int)) = (n : Int) - (l.length : Int) := wrap64 (by omega) (by omega)
  refine sw_seq ?_
  refine sw_reg ?_
  unfold s103_0
  refine os_ev (evq_mvk) ?_
  simp only [runOs, thenQ, blockQ, Vs.put, reduceIte, Nat.reduceEqDiff]
  refine sw_seq ?_
  refine sw_reg ?_
  unfold s103_1
  refine os_ev (evq_mvt rfl) ?_
  refine os_ev (evq_mvt rfl) ?_
  first | refine os_ev (evq_lenr rfl) ?_ | refine os_ev (evq_lenn rfl) ?_
  refine os_ev (evq_bin rfl rfl rfl) ?_
  simp only [e1]
  simp only [Vs.put, reduceIte, Nat.reduceEqDiff]
  refine os_ev (evq_mvt rfl) ?_
  simp only [runOs, thenQ, blockQ, Vs.put, reduceIte, Nat.reduceEqDiff]
  refine sw_seq ?_
  refine sw_seq ?_
  refine sw_reg ?_
  unfold s103_2
  refine os_ev (evq_mvt rfl) ?_
  refine os_ev (evq_bin rfl rfl rfl) ?_
  simp only [runOs, thenQ, blockQ, Vs.put, reduceIte, Nat.reduceEqDiff]
  refine sw_cond rfl (fun h1 => ?_) (fun h1 => ?_)
  · try simp only [decide_eq_true_eq, decide_eq_false_iff_not, bne_iff_ne, beq_iff_eq, bne_eq_false_iff_eq, beq_eq_false_iff_ne, ne_eq, Int.not_lt, Int.not_le, gt_iff_lt, ge_iff_le, Bool.not_eq_true, Bool.not_eq_false, Bool.not_eq_true', Bool.not_eq_false', Bool.and_eq_true, Bool.or_eq_true, Bool.and_eq_false_iff, Bool.or_eq_false_iff] at h1
    rw [if_neg (show ¬ l.length ≤ n by omega)]
    refine sw_seq ?_
    refine sw_reg ?_
    unfold s103_3
    refine os_ev (evq_mvk) ?_
    simp only [runOs, thenQ, blockQ, Vs.put, reduceIte, Nat.reduceEqDiff]
    refine sw_ret ?_
    simp only [thenQ, blockQ, resK, ev, St.opd, Vs.get, reduceIte, Nat.reduceEqDiff, Option.getD_some]
    first | exact leaves_vals rfl rfl rfl rfl | exact leaves_a rfl rfl rfl rfl
  · try simp only [decide_eq_true_eq, decide_eq_false_iff_not, bne_iff_ne, beq_iff_eq, bne_eq_false_iff_eq, beq_eq_false_iff_ne, ne_eq, Int.not_lt, Int.not_le, gt_iff_lt, ge_iff_le, Bool.not_eq_true, Bool.not_eq_false, Bool.not_eq_true', Bool.not_eq_false', Bool.and_eq_true, Bool.or_eq_true, Bool.and_eq_false_iff, Bool.or_eq_false_iff] at h1
    rw [if_pos (show l.length ≤ n by omega), show ((n - l.length : Nat) : Int) = (n : Int) - (l.length : Int) by omega]
    refine sw_skip ?_
    simp only [thenQ, blockQ]
    refine sw_seq ?_
    refine sw_reg ?_
    unfold s103_4
    refine os_ev (evq_mvt rfl) ?_
    simp only [Vs.put, reduceIte, Nat.reduceEqDiff]
    refine os_ev (evq_mvt rfl) ?_
    simp only [runOs, thenQ, blockQ, Vs.put, reduceIte, Nat.reduceEqDiff]
    refine sw_ret ?_
    simp only [thenQ, blockQ, resK, ev, St.opd, Vs.get, reduceIte, Nat.reduceEqDiff, Option.getD_some]
    first | exact leaves_vals rfl rfl rfl rfl | exact leaves_a rfl rfl rfl rfl
theorem runs47 (rows : List RowM) (phase : Int) (marks : List MarkM) (n : Nat) (hl : rows.length ≤ 9223372036854775807) (hb : ∀ r ∈ rows, r.old.2.length ≤ 9223372036854775807 ∧ r.new.2.length ≤ 9223372036854775807 ∧ r.key.size ≤ 9223372036854775807) (hm : marks.length ≤ 9223372036854775807) (hn : n < 2 ^ 62) : Runs Try.prog 47 [.val true [(.rd, .sl 7 (rD rows)), (.rd, .lf (.int .i64 phase)), (.rd, .sl 3 (mD marks))], .val false [(.rd, .lf (.int .i64 n))]] ⟨[(false, [.lf (.int .i64 (if szRS rows + marks.length ≤ n then ((n - (szRS rows + marks.length) : Nat) : Int) else -1))])], [], []⟩ := by
  obtain ⟨c, hb, hs⟩ := body_of tr47
  refine runs_of_sw Try.func47 hb hs rfl (show 2 ≤ 18 by decide) ?_
  clear hb hs c
  simp only [inAs, inCells, flat, List.flatMap_cons, List.flatMap_nil, Arg.cells, List.cons_append, List.nil_append, inCs, inC, fixN, fixCs, fixC, nBox, inV, inB, rootB, List.length_cons, List.length_nil, List.take_succ_cons, List.take_zero, List.drop_succ_cons, List.drop_zero, env0, Nat.zero_add, Nat.add_zero, List.append_nil, Nat.reduceAdd, rD_len, mD_len]
  unfold s47
  refine sw_seq ?_
  refine sw_reg ?_
  unfold s47_0
  refine os_wro (by intros; nofun) ?_
  refine ⟨_, rfl, ?_⟩
  try simp only [setEnv, Vs.put, killEnv, del, cutR, reduceIte, Nat.reduceEqDiff, Nat.reduceAdd]
  refine os_ev (evq_mvk) ?_
  simp only [runOs, thenQ, blockQ, Vs.put, reduceIte, Nat.reduceEqDiff]
  refine sw_seq ?_
  refine sw_reg ?_
  unfold s47_1
  first | refine os_ev (evq_fadb rfl) ?_ | refine os_ev (evq_fade rfl) ?_
  try simp only [List.take_zero, List.take_succ_cons, List.drop_zero, List.drop_succ_cons, List.nil_append, List.cons_append, List.append_nil, List.length_cons, List.length_nil, Nat.zero_add, Nat.add_zero, Nat.reduceAdd, Nat.reduceMul, toC, toCs, bD_len, sD_len, rep, List.getElem?_cons_zero, List.getElem?_cons_succ]
  first | refine os_ev (evq_ldb rfl rfl rfl) ?_ | refine os_ev (evq_ldl rfl rfl (rfl) rfl) ?_ | refine os_ev (evq_lds rfl rfl (rfl) rfl) ?_
  try simp only [List.take_zero, List.take_succ_cons, List.drop_zero, List.drop_succ_cons, List.nil_append, List.cons_append, List.append_nil, List.length_cons, List.length_nil, Nat.zero_add, Nat.add_zero, Nat.reduceAdd, Nat.reduceMul, toC, toCs, bD_len, sD_len, rep, List.getElem?_cons_zero, List.getElem?_cons_succ]
  refine os_ev (evq_mvt rfl) ?_
  refine os_callo ?_
  simp only [List.map_cons, List.map_nil, St.opd, Vs.get, Vs.put, reduceIte, Nat.reduceEqDiff, Option.getD_some]
  refine ⟨_, _, runs102 rows n hl hb hn, _, rfl, _, rfl, by simp [handIo, handBx], fa_cons (⟨rfl, .inl rfl, by simp [handIo, handBx], _, rfl, by simp, by first | rfl | (simp; done) | exact (List.take_of_length_le (by simp)).symm⟩) (fa_cons (rfl) (fa_nil)), _, rfl, _, rfl, ?_⟩
  simp only [newCs, newRes, newA, resV, List.flatMap_cons, List.flatMap_nil, List.flatten_nil, List.flatten_cons, List.append_nil, List.nil_append, List.cons_append, List.length_cons, List.length_nil, List.drop_succ_cons, List.drop_zero, List.take_succ_cons, List.take_zero, if_true, if_false, Bool.false_eq_true, List.drop_nil, mixCs, isRx, Vs.put, reduceIte, Nat.reduceEqDiff, Nat.zero_add, Nat.reduceAdd, bD_len, sD_len]
  try simp only [setEnv, Vs.put, killEnv, del, cutR, reduceIte, Nat.reduceEqDiff, Nat.reduceAdd]
  refine os_ev (evq_mvt rfl) ?_
  simp only [Vs.put, reduceIte, Nat.reduceEqDiff]
  simp only [runOs, thenQ, blockQ, Vs.put, reduceIte, Nat.reduceEqDiff]
  refine sw_seq ?_
  refine sw_seq ?_
  refine sw_reg ?_
  unfold s47_2
  refine os_ev (evq_mvt rfl) ?_
  refine os_ev (evq_bin rfl rfl rfl) ?_
  simp only [runOs, thenQ, blockQ, Vs.put, reduceIte, Nat.reduceEqDiff]
  refine sw_cond rfl (fun h1 => ?_) (fun h1 => ?_)
  · try simp only [decide_eq_true_eq, decide_eq_false_iff_not, bne_iff_ne, beq_iff_eq, bne_eq_false_iff_eq, beq_eq_false_iff_ne, ne_eq, Int.not_lt, Int.not_le, gt_iff_lt, ge_iff_le, Bool.not_eq_true, Bool.not_eq_false, Bool.not_eq_true', Bool.not_eq_false', Bool.and_eq_true, Bool.or_eq_true, Bool.and_eq_false_iff, Bool.or_eq_false_iff] at h1
    have hno : ¬ szRS rows ≤ n := fun hle => by rw [if_pos hle] at h1; omega
    rw [if_neg (show ¬ szRS rows + marks.length ≤ n by omega)]
    refine sw_seq ?_
    refine sw_reg ?_
    unfold s47_3
    refine os_ev (evq_mvk) ?_
    simp only [runOs, thenQ, blockQ, Vs.put, reduceIte, Nat.reduceEqDiff]
    refine sw_ret ?_
    simp only [thenQ, blockQ, resK, ev, St.opd, Vs.get, reduceIte, Nat.reduceEqDiff, Option.getD_some]
    first | exact leaves_vals rfl rfl rfl rfl | exact leaves_a rfl rfl rfl rfl
  · try simp only [decide_eq_true_eq, decide_eq_false_iff_not, bne_iff_ne, beq_iff_eq, bne_eq_false_iff_eq, beq_eq_false_iff_ne, ne_eq, Int.not_lt, Int.not_le, gt_iff_lt, ge_iff_le, Bool.not_eq_true, Bool.not_eq_false, Bool.not_eq_true', Bool.not_eq_false', Bool.and_eq_true, Bool.or_eq_true, Bool.and_eq_false_iff, Bool.or_eq_false_iff] at h1
    have hyes : szRS rows ≤ n := by
      rcases Nat.lt_or_ge (n) (szRS rows) with hx | hx
      · rw [if_neg (by omega)] at h1; omega
      · exact hx
    simp only [if_pos hyes]
    refine sw_skip ?_
    simp only [thenQ, blockQ]
    refine sw_seq ?_
    refine sw_reg ?_
    unfold s47_4
    first | refine os_ev (evq_fadb rfl) ?_ | refine os_ev (evq_fade rfl) ?_
    try simp only [List.take_zero, List.take_succ_cons, List.drop_zero, List.drop_succ_cons, List.nil_append, List.cons_append, List.append_nil, List.length_cons, List.length_nil, Nat.zero_add, Nat.add_zero, Nat.reduceAdd, Nat.reduceMul, toC, toCs, bD_len, sD_len, rep, List.getElem?_cons_zero, List.getElem?_cons_succ]
    first | refine os_ev (evq_ldb rfl rfl rfl) ?_ | refine os_ev (evq_ldl rfl rfl (rfl) rfl) ?_ | refine os_ev (evq_lds rfl rfl (rfl) rfl) ?_
    try simp only [List.take_zero, List.take_succ_cons, List.drop_zero, List.drop_succ_cons, List.nil_append, List.cons_append, List.append_nil, List.length_cons, List.length_nil, Nat.zero_add, Nat.add_zero, Nat.reduceAdd, Nat.reduceMul, toC, toCs, bD_len, sD_len, rep, List.getElem?_cons_zero, List.getElem?_cons_succ]
    simp only [Vs.put, reduceIte, Nat.reduceEqDiff]
    refine os_ev (evq_mvt rfl) ?_
    refine os_callo ?_
    simp only [List.map_cons, List.map_nil, St.opd, Vs.get, Vs.put, reduceIte, Nat.reduceEqDiff, Option.getD_some]
    refine ⟨_, _, runs103 marks (n - szRS rows) hm (by omega), _, rfl, _, rfl, by simp [handIo, handBx], fa_cons (⟨rfl, .inl rfl, by simp [handIo, handBx], _, rfl, by simp, by first | rfl | (simp; done) | exact (List.take_of_length_le (by simp)).symm⟩) (fa_cons (rfl) (fa_nil)), _, rfl, _, rfl, ?_⟩
    simp only [newCs, newRes, newA, resV, List.flatMap_cons, List.flatMap_nil, List.flatten_nil, List.flatten_cons, List.append_nil, List.nil_append, List.cons_append, List.length_cons, List.length_nil, List.drop_succ_cons, List.drop_zero, List.take_succ_cons, List.take_zero, if_true, if_false, Bool.false_eq_true, List.drop_nil, mixCs, isRx, Vs.put, reduceIte, Nat.reduceEqDiff, Nat.zero_add, Nat.reduceAdd, bD_len, sD_len]
    try simp only [setEnv, Vs.put, killEnv, del, cutR, reduceIte, Nat.reduceEqDiff, Nat.reduceAdd]
    refine os_ev (evq_mvt rfl) ?_
    simp only [runOs, thenQ, blockQ, Vs.put, reduceIte, Nat.reduceEqDiff]
    refine sw_seq ?_
    refine sw_seq ?_
    refine sw_reg ?_
    unfold s47_5
    refine os_ev (evq_mvt rfl) ?_
    refine os_ev (evq_bin rfl rfl rfl) ?_
    simp only [runOs, thenQ, blockQ, Vs.put, reduceIte, Nat.reduceEqDiff]
    refine sw_cond rfl (fun h3 => ?_) (fun h3 => ?_)
    · try simp only [decide_eq_true_eq, decide_eq_false_iff_not, bne_iff_ne, beq_iff_eq, bne_eq_false_iff_eq, beq_eq_false_iff_ne, ne_eq, Int.not_lt, Int.not_le, gt_iff_lt, ge_iff_le, Bool.not_eq_true, Bool.not_eq_false, Bool.not_eq_true', Bool.not_eq_false', Bool.and_eq_true, Bool.or_eq_true, Bool.and_eq_false_iff, Bool.or_eq_false_iff] at h3
      have hno : ¬ marks.length ≤ n - szRS rows := fun hle => by rw [if_pos hle] at h3; omega
      rw [if_neg (show ¬ szRS rows + marks.length ≤ n by omega)]
      refine sw_seq ?_
      refine sw_reg ?_
      unfold s47_6
      refine os_ev (evq_mvk) ?_
      simp only [Vs.put, reduceIte, Nat.reduceEqDiff]
      simp only [runOs, thenQ, blockQ, Vs.put, reduceIte, Nat.reduceEqDiff]
      refine sw_ret ?_
      simp only [thenQ, blockQ, resK, ev, St.opd, Vs.get, reduceIte, Nat.reduceEqDiff, Option.getD_some]
      first | exact leaves_vals rfl rfl rfl rfl | exact leaves_a rfl rfl rfl rfl
    · try simp only [decide_eq_true_eq, decide_eq_false_iff_not, bne_iff_ne, beq_iff_eq, bne_eq_false_iff_eq, beq_eq_false_iff_ne, ne_eq, Int.not_lt, Int.not_le, gt_iff_lt, ge_iff_le, Bool.not_eq_true, Bool.not_eq_false, Bool.not_eq_true', Bool.not_eq_false', Bool.and_eq_true, Bool.or_eq_true, Bool.and_eq_false_iff, Bool.or_eq_false_iff] at h3
      have hy2 : marks.length ≤ n - szRS rows := by
        rcases Nat.lt_or_ge (n - szRS rows) (marks.length) with hx | hx
        · rw [if_neg (by omega)] at h3; omega
        · exact hx
      simp only [if_pos hy2]
      rw [if_pos (show szRS rows + marks.length ≤ n by omega), show n - (szRS rows + marks.length) = n - szRS rows - marks.length by omega]
      refine sw_skip ?_
      simp only [thenQ, blockQ]
      refine sw_seq ?_
      refine sw_reg ?_
      unfold s47_7
      refine os_ev (evq_mvt rfl) ?_
      refine os_ev (evq_mvt rfl) ?_
      simp only [runOs, thenQ, blockQ, Vs.put, reduceIte, Nat.reduceEqDiff]
      refine sw_ret ?_
      simp only [thenQ, blockQ, resK, ev, St.opd, Vs.get, reduceIte, Nat.reduceEqDiff, Option.getD_some]
      first | exact leaves_vals rfl rfl rfl rfl | exact leaves_a rfl rfl rfl rfl
theorem runs141 (w : Wr) (h : w.2.length < 2 ^ 46) : Runs Try.prog 141 [.val true [(.rd, .lf (.int .i64 w.1)), (.rd, .sl 1 (bD w.2))]] ⟨[(true, [.lf (.int .i64 w.1), .sl 1 (bD w.2)])], [], []⟩ := by
  obtain ⟨c, hb, hs⟩ := body_of tr141
  refine runs_of_sw (is := [.load (some 2) (.t 2)]) Try.func141 hb hs (by kernel_rfl) (show 1 ≤ 12 by decide) ?_
  clear hb hs c
  simp only [inAs, inCells, flat, List.flatMap_cons, List.flatMap_nil, Arg.cells, List.cons_append, List.nil_append, inCs, inC, fixN, fixCs, fixC, nBox, inV, inB, rootB, List.length_cons, List.length_nil, List.take_succ_cons, List.take_zero, List.drop_succ_cons, List.drop_zero, env0, Nat.zero_add, Nat.add_zero, List.append_nil, Nat.reduceAdd, bD_len]
  unfold s141
  refine sw_seq ?_
  refine sw_reg ?_
  unfold s141_0
  refine os_wro (by intros; nofun) ?_
  refine ⟨_, rfl, ?_⟩
  try simp only [setEnv, Vs.put, killEnv, del, cutR, reduceIte, Nat.reduceEqDiff, Nat.reduceAdd]
  refine os_wro (by intros; nofun) ?_
  simp only [wr]
  try simp only [setEnv, Vs.put, killEnv, del, cutR, reduceIte, Nat.reduceEqDiff, Nat.reduceAdd]
  simp only [runOs, thenQ, blockQ, Vs.put, reduceIte, Nat.reduceEqDiff]
  refine sw_seq ?_
  refine sw_reg ?_
  unfold s141_1
  refine os_wro (by intros; nofun) ?_
  simp only [wr]
  try simp only [setEnv, Vs.put, killEnv, del, cutR, reduceIte, Nat.reduceEqDiff, Nat.reduceAdd]
  simp only [runOs, thenQ, blockQ, Vs.put, reduceIte, Nat.reduceEqDiff]
  refine sw_seq ?_
  refine sw_reg ?_
  unfold s141_2
  first | refine os_ev (evq_fadb rfl) ?_ | refine os_ev (evq_fade rfl) ?_
  try simp only [List.take_zero, List.take_succ_cons, List.drop_zero, List.drop_succ_cons, List.nil_append, List.cons_append, List.append_nil, List.length_cons, List.length_nil, Nat.zero_add, Nat.add_zero, Nat.reduceAdd, Nat.reduceMul, toC, toCs, bD_len, sD_len, rep, List.getElem?_cons_zero, List.getElem?_cons_succ]
  first | refine os_ev (evq_ldb rfl rfl rfl) ?_ | refine os_ev (evq_ldl rfl rfl (rfl) rfl) ?_ | refine os_ev (evq_lds rfl rfl (rfl) rfl) ?_
  try simp only [List.take_zero, List.take_succ_cons, List.drop_zero, List.drop_succ_cons, List.nil_append, List.cons_append, List.append_nil, List.length_cons, List.length_nil, Nat.zero_add, Nat.add_zero, Nat.reduceAdd, Nat.reduceMul, toC, toCs, bD_len, sD_len, rep, List.getElem?_cons_zero, List.getElem?_cons_succ]
  first | refine os_ev (evq_fadb rfl) ?_ | refine os_ev (evq_fade rfl) ?_
  try simp only [List.take_zero, List.take_succ_cons, List.drop_zero, List.drop_succ_cons, List.nil_append, List.cons_append, List.append_nil, List.length_cons, List.length_nil, Nat.zero_add, Nat.add_zero, Nat.reduceAdd, Nat.reduceMul, toC, toCs, bD_len, sD_len, rep, List.getElem?_cons_zero, List.getElem?_cons_succ]
  refine os_wro (by intros; nofun) ?_
  refine st_box rfl rfl rfl rfl (Nat.le_of_ble_eq_true rfl) ?_
  simp only [List.take_zero, List.take_succ_cons, List.drop_zero, List.drop_succ_cons, List.nil_append, List.cons_append, List.append_nil, List.length_cons, List.length_nil, Nat.zero_add, Nat.add_zero, Nat.reduceAdd, Nat.reduceMul, toC, toCs, bD_len, sD_len, rep, List.getElem?_cons_zero, List.getElem?_cons_succ]
  try simp only [setEnv, Vs.put, killEnv, del, cutR, reduceIte, Nat.reduceEqDiff, Nat.reduceAdd]
  simp only [runOs, thenQ, blockQ, Vs.put, reduceIte, Nat.reduceEqDiff]
  refine sw_seq ?_
  refine sw_reg ?_
  unfold s141_3
  first | refine os_ev (evq_fadb rfl) ?_ | refine os_ev (evq_fade rfl) ?_
  try simp only [List.take_zero, List.take_succ_cons, List.drop_zero, List.drop_succ_cons, List.nil_append, List.cons_append, List.append_nil, List.length_cons, List.length_nil, Nat.zero_add, Nat.add_zero, Nat.reduceAdd, Nat.reduceMul, toC, toCs, bD_len, sD_len, rep, List.getElem?_cons_zero, List.getElem?_cons_succ]
  first | refine os_ev (evq_ldb rfl rfl rfl) ?_ | refine os_ev (evq_ldl rfl rfl (rfl) rfl) ?_ | refine os_ev (evq_lds rfl rfl (rfl) rfl) ?_
  try simp only [List.take_zero, List.take_succ_cons, List.drop_zero, List.drop_succ_cons, List.nil_append, List.cons_append, List.append_nil, List.length_cons, List.length_nil, Nat.zero_add, Nat.add_zero, Nat.reduceAdd, Nat.reduceMul, toC, toCs, bD_len, sD_len, rep, List.getElem?_cons_zero, List.getElem?_cons_succ]
  simp only [Vs.put, reduceIte, Nat.reduceEqDiff]
  refine os_callo ?_
  simp only [List.map_cons, List.map_nil, St.opd, Vs.get, Vs.put, reduceIte, Nat.reduceEqDiff, Option.getD_some]
  refine ⟨_, _, runs27 w.2 h, _, rfl, _, rfl, by simp [handIo, handBx], fa_cons (⟨rfl, .inl rfl, by simp [handIo, handBx], _, rfl, by simp, by first | rfl | (simp; done) | exact (List.take_of_length_le (by simp)).symm⟩) (fa_nil), _, rfl, _, rfl, ?_⟩
  simp only [newCs, newRes, newA, resV, List.flatMap_cons, List.flatMap_nil, List.flatten_nil, List.flatten_cons, List.append_nil, List.nil_append, List.cons_append, List.length_cons, List.length_nil, List.drop_succ_cons, List.drop_zero, List.take_succ_cons, List.take_zero, if_true, if_false, Bool.false_eq_true, List.drop_nil, mixCs, isRx, Vs.put, reduceIte, Nat.reduceEqDiff, Nat.zero_add, Nat.reduceAdd, bD_len, sD_len]
  try simp only [setEnv, Vs.put, killEnv, del, cutR, reduceIte, Nat.reduceEqDiff, Nat.reduceAdd]
  first | refine os_ev (evq_fadb rfl) ?_ | refine os_ev (evq_fade rfl) ?_
  try simp only [List.take_zero, List.take_succ_cons, List.drop_zero, List.drop_succ_cons, List.nil_append, List.cons_append, List.append_nil, List.length_cons, List.length_nil, Nat.zero_add, Nat.add_zero, Nat.reduceAdd, Nat.reduceMul, toC, toCs, bD_len, sD_len, rep, List.getElem?_cons_zero, List.getElem?_cons_succ]
  refine os_wro (by intros; nofun) ?_
  refine st_box rfl rfl rfl rfl (Nat.le_of_ble_eq_true rfl) ?_
  simp only [List.take_zero, List.take_succ_cons, List.drop_zero, List.drop_succ_cons, List.nil_append, List.cons_append, List.append_nil, List.length_cons, List.length_nil, Nat.zero_add, Nat.add_zero, Nat.reduceAdd, Nat.reduceMul, toC, toCs, bD_len, sD_len, rep, List.getElem?_cons_zero, List.getElem?_cons_succ]
  try simp only [setEnv, Vs.put, killEnv, del, cutR, reduceIte, Nat.reduceEqDiff, Nat.reduceAdd]
  simp only [runOs, thenQ, blockQ, Vs.put, reduceIte, Nat.reduceEqDiff]
  refine sw_seq ?_
  refine sw_reg ?_
  unfold s141_4
  first | refine os_ev (evq_lgb rfl rfl (Nat.le_of_ble_eq_true rfl) rfl) ?_ | refine os_ev (evq_lge rfl rfl (rfl) (Nat.le_of_ble_eq_true rfl) rfl) ?_
  try simp only [List.take_zero, List.take_succ_cons, List.drop_zero, List.drop_succ_cons, List.nil_append, List.cons_append, List.append_nil, List.length_cons, List.length_nil, Nat.zero_add, Nat.add_zero, Nat.reduceAdd, Nat.reduceMul, toC, toCs, bD_len, sD_len, rep, List.getElem?_cons_zero, List.getElem?_cons_succ]
  refine os_wro (by intros; nofun) ?_
  refine st_box rfl rfl rfl rfl (Nat.le_of_ble_eq_true rfl) ?_
  simp only [List.take_zero, List.take_succ_cons, List.drop_zero, List.drop_succ_cons, List.nil_append, List.cons_append, List.append_nil, List.length_cons, List.length_nil, Nat.zero_add, Nat.add_zero, Nat.reduceAdd, Nat.reduceMul, toC, toCs, bD_len, sD_len, rep, List.getElem?_cons_zero, List.getElem?_cons_succ]
  try simp only [setEnv, Vs.put, killEnv, del, cutR, reduceIte, Nat.reduceEqDiff, Nat.reduceAdd]
  simp only [runOs, thenQ, blockQ, Vs.put, reduceIte, Nat.reduceEqDiff]
  refine sw_ret ?_
  simp only [thenQ, blockQ, resK, ev, St.opd, Vs.get, reduceIte, Nat.reduceEqDiff, Option.getD_some]
  refine ⟨_, rfl, Nat.le_of_ble_eq_true rfl, ?_⟩
  simp only [List.take_zero, List.take_succ_cons, List.drop_zero, List.drop_succ_cons, List.nil_append, List.cons_append, List.append_nil, List.length_cons, List.length_nil, Nat.zero_add, Nat.add_zero, Nat.reduceAdd, Nat.reduceMul, toC, toCs, bD_len, sD_len, rep, List.getElem?_cons_zero, List.getElem?_cons_succ, resV]
  exact leaves_a rfl rfl rfl (take_lf (take_cons rfl (by simp) rfl))
theorem runs132 (r : RowM) (h : r.old.2.length < 2 ^ 46 ∧ r.new.2.length < 2 ^ 46) : Runs Try.prog 132 [.val true [(.rd, .lf (.string r.key)), (.rd, .lf (.int .i64 r.old.1)), (.rd, .sl 1 (bD r.old.2)), (.rd, .lf (.int .i64 r.new.1)), (.rd, .sl 1 (bD r.new.2)), (.rd, .lf (.int .i64 r.has)), (.rd, .lf (.bool r.aside))]] ⟨[(true, rE r)], [], []⟩ := by
  obtain ⟨c, hb, hs⟩ := body_of tr132
  refine runs_of_sw (is := [.load (some 7) (.t 2)]) Try.func132 hb hs (by kernel_rfl) (show 1 ≤ 22 by decide) ?_
  clear hb hs c
  simp only [inAs, inCells, flat, List.flatMap_cons, List.flatMap_nil, Arg.cells, List.cons_append, List.nil_append, inCs, inC, fixN, fixCs, fixC, nBox, inV, inB, rootB, List.length_cons, List.length_nil, List.take_succ_cons, List.take_zero, List.drop_succ_cons, List.drop_zero, env0, Nat.zero_add, Nat.add_zero, List.append_nil, Nat.reduceAdd, bD_len]
  unfold s132
  refine sw_seq ?_
  refine sw_reg ?_
  unfold s132_0
  refine os_wro (by intros; nofun) ?_
  refine ⟨_, rfl, ?_⟩
  try simp only [setEnv, Vs.put, killEnv, del, cutR, reduceIte, Nat.reduceEqDiff, Nat.reduceAdd]
  refine os_wro (by intros; nofun) ?_
  simp only [wr]
  try simp only [setEnv, Vs.put, killEnv, del, cutR, reduceIte, Nat.reduceEqDiff, Nat.reduceAdd]
  simp only [runOs, thenQ, blockQ, Vs.put, reduceIte, Nat.reduceEqDiff]
  refine sw_seq ?_
  refine sw_reg ?_
  unfold s132_1
  refine os_wro (by intros; nofun) ?_
  simp only [wr]
  try simp only [setEnv, Vs.put, killEnv, del, cutR, reduceIte, Nat.reduceEqDiff, Nat.reduceAdd]
  simp only [runOs, thenQ, blockQ, Vs.put, reduceIte, Nat.reduceEqDiff]
  refine sw_seq ?_
  refine sw_reg ?_
  unfold s132_2
  first | refine os_ev (evq_fadb rfl) ?_ | refine os_ev (evq_fade rfl) ?_
  try simp only [List.take_zero, List.take_succ_cons, List.drop_zero, List.drop_succ_cons, List.nil_append, List.cons_append, List.append_nil, List.length_cons, List.length_nil, Nat.zero_add, Nat.add_zero, Nat.reduceAdd, Nat.reduceMul, toC, toCs, bD_len, sD_len, rep, List.getElem?_cons_zero, List.getElem?_cons_succ]
  first | refine os_ev (evq_ldb rfl rfl rfl) ?_ | refine os_ev (evq_ldl rfl rfl (rfl) rfl) ?_ | refine os_ev (evq_lds rfl rfl (rfl) rfl) ?_
  try simp only [List.take_zero, List.take_succ_cons, List.drop_zero, List.drop_succ_cons, List.nil_append, List.cons_append, List.append_nil, List.length_cons, List.length_nil, Nat.zero_add, Nat.add_zero, Nat.reduceAdd, Nat.reduceMul, toC, toCs, bD_len, sD_len, rep, List.getElem?_cons_zero, List.getElem?_cons_succ]
  first | refine os_ev (evq_fadb rfl) ?_ | refine os_ev (evq_fade rfl) ?_
  try simp only [List.take_zero, List.take_succ_cons, List.drop_zero, List.drop_succ_cons, List.nil_append, List.cons_append, List.append_nil, List.length_cons, List.length_nil, Nat.zero_add, Nat.add_zero, Nat.reduceAdd, Nat.reduceMul, toC, toCs, bD_len, sD_len, rep, List.getElem?_cons_zero, List.getElem?_cons_succ]
  refine os_wro (by intros; nofun) ?_
  refine st_box rfl rfl rfl rfl (Nat.le_of_ble_eq_true rfl) ?_
  simp only [List.take_zero, List.take_succ_cons, List.drop_zero, List.drop_succ_cons, List.nil_append, List.cons_append, List.append_nil, List.length_cons, List.length_nil, Nat.zero_add, Nat.add_zero, Nat.reduceAdd, Nat.reduceMul, toC, toCs, bD_len, sD_len, rep, List.getElem?_cons_zero, List.getElem?_cons_succ]
  try simp only [setEnv, Vs.put, killEnv, del, cutR, reduceIte, Nat.reduceEqDiff, Nat.reduceAdd]
  simp only [runOs, thenQ, blockQ, Vs.put, reduceIte, Nat.reduceEqDiff]
  refine sw_seq ?_
  refine sw_reg ?_
  unfold s132_3
  first | refine os_ev (evq_fadb rfl) ?_ | refine os_ev (evq_fade rfl) ?_
  try simp only [List.take_zero, List.take_succ_cons, List.drop_zero, List.drop_succ_cons, List.nil_append, List.cons_append, List.append_nil, List.length_cons, List.length_nil, Nat.zero_add, Nat.add_zero, Nat.reduceAdd, Nat.reduceMul, toC, toCs, bD_len, sD_len, rep, List.getElem?_cons_zero, List.getElem?_cons_succ]
  first | refine os_ev (evq_lgb rfl rfl (Nat.le_of_ble_eq_true rfl) rfl) ?_ | refine os_ev (evq_lge rfl rfl (rfl) (Nat.le_of_ble_eq_true rfl) rfl) ?_
  try simp only [List.take_zero, List.take_succ_cons, List.drop_zero, List.drop_succ_cons, List.nil_append, List.cons_append, List.append_nil, List.length_cons, List.length_nil, Nat.zero_add, Nat.add_zero, Nat.reduceAdd, Nat.reduceMul, toC, toCs, bD_len, sD_len, rep, List.getElem?_cons_zero, List.getElem?_cons_succ]
  simp only [Vs.put, reduceIte, Nat.reduceEqDiff]
  refine os_callo ?_
  simp only [List.map_cons, List.map_nil, St.opd, Vs.get, Vs.put, reduceIte, Nat.reduceEqDiff, Option.getD_some]
  refine ⟨_, _, runs141 r.old h.1, _, rfl, _, rfl, by simp [handIo, handBx], fa_cons (rfl) (fa_cons (⟨rfl, .inl rfl, by simp [handIo, handBx], _, rfl, by simp, by first | rfl | (simp; done) | exact (List.take_of_length_le (by simp)).symm⟩) (fa_nil)), _, rfl, _, rfl, ?_⟩
  simp only [newCs, newRes, newA, resV, List.flatMap_cons, List.flatMap_nil, List.flatten_nil, List.flatten_cons, List.append_nil, List.nil_append, List.cons_append, List.length_cons, List.length_nil, List.drop_succ_cons, List.drop_zero, List.take_succ_cons, List.take_zero, if_true, if_false, Bool.false_eq_true, List.drop_nil, mixCs, isRx, Vs.put, reduceIte, Nat.reduceEqDiff, Nat.zero_add, Nat.reduceAdd, bD_len, sD_len]
  try simp only [setEnv, Vs.put, killEnv, del, cutR, reduceIte, Nat.reduceEqDiff, Nat.reduceAdd]
  first | refine os_ev (evq_fadb rfl) ?_ | refine os_ev (evq_fade rfl) ?_
  try simp only [List.take_zero, List.take_succ_cons, List.drop_zero, List.drop_succ_cons, List.nil_append, List.cons_append, List.append_nil, List.length_cons, List.length_nil, Nat.zero_add, Nat.add_zero, Nat.reduceAdd, Nat.reduceMul, toC, toCs, bD_len, sD_len, rep, List.getElem?_cons_zero, List.getElem?_cons_succ]
  refine os_wro (by intros; nofun) ?_
  refine st_box rfl rfl rfl rfl (Nat.le_of_ble_eq_true rfl) ?_
  simp only [List.take_zero, List.take_succ_cons, List.drop_zero, List.drop_succ_cons, List.nil_append, List.cons_append, List.append_nil, List.length_cons, List.length_nil, Nat.zero_add, Nat.add_zero, Nat.reduceAdd, Nat.reduceMul, toC, toCs, bD_len, sD_len, rep, List.getElem?_cons_zero, List.getElem?_cons_succ]
  try simp only [setEnv, Vs.put, killEnv, del, cutR, reduceIte, Nat.reduceEqDiff, Nat.reduceAdd]
  simp only [runOs, thenQ, blockQ, Vs.put, reduceIte, Nat.reduceEqDiff]
  refine sw_seq ?_
  refine sw_reg ?_
  unfold s132_4
  first | refine os_ev (evq_fadb rfl) ?_ | refine os_ev (evq_fade rfl) ?_
  try simp only [List.take_zero, List.take_succ_cons, List.drop_zero, List.drop_succ_cons, List.nil_append, List.cons_append, List.append_nil, List.length_cons, List.length_nil, Nat.zero_add, Nat.add_zero, Nat.reduceAdd, Nat.reduceMul, toC, toCs, bD_len, sD_len, rep, List.getElem?_cons_zero, List.getElem?_cons_succ]
  first | refine os_ev (evq_lgb rfl rfl (Nat.le_of_ble_eq_true rfl) rfl) ?_ | refine os_ev (evq_lge rfl rfl (rfl) (Nat.le_of_ble_eq_true rfl) rfl) ?_
  try simp only [List.take_zero, List.take_succ_cons, List.drop_zero, List.drop_succ_cons, List.nil_append, List.cons_append, List.append_nil, List.length_cons, List.length_nil, Nat.zero_add, Nat.add_zero, Nat.reduceAdd, Nat.reduceMul, toC, toCs, bD_len, sD_len, rep, List.getElem?_cons_zero, List.getElem?_cons_succ]
  refine os_callo ?_
  simp only [List.map_cons, List.map_nil, St.opd, Vs.get, Vs.put, reduceIte, Nat.reduceEqDiff, Option.getD_some]
  refine ⟨_, _, runs141 r.new h.2, _, rfl, _, rfl, by simp [handIo, handBx], fa_cons (rfl) (fa_cons (⟨rfl, .inl rfl, by simp [handIo, handBx], _, rfl, by simp, by first | rfl | (simp; done) | exact (List.take_of_length_le (by simp)).symm⟩) (fa_nil)), _, rfl, _, rfl, ?_⟩
  simp only [newCs, newRes, newA, resV, List.flatMap_cons, List.flatMap_nil, List.flatten_nil, List.flatten_cons, List.append_nil, List.nil_append, List.cons_append, List.length_cons, List.length_nil, List.drop_succ_cons, List.drop_zero, List.take_succ_cons, List.take_zero, if_true, if_false, Bool.false_eq_true, List.drop_nil, mixCs, isRx, Vs.put, reduceIte, Nat.reduceEqDiff, Nat.zero_add, Nat.reduceAdd, bD_len, sD_len]
  try simp only [setEnv, Vs.put, killEnv, del, cutR, reduceIte, Nat.reduceEqDiff, Nat.reduceAdd]
  first | refine os_ev (evq_fadb rfl) ?_ | refine os_ev (evq_fade rfl) ?_
  try simp only [List.take_zero, List.take_succ_cons, List.drop_zero, List.drop_succ_cons, List.nil_append, List.cons_append, List.append_nil, List.length_cons, List.length_nil, Nat.zero_add, Nat.add_zero, Nat.reduceAdd, Nat.reduceMul, toC, toCs, bD_len, sD_len, rep, List.getElem?_cons_zero, List.getElem?_cons_succ]
  refine os_wro (by intros; nofun) ?_
  refine st_box rfl rfl rfl rfl (Nat.le_of_ble_eq_true rfl) ?_
  simp only [List.take_zero, List.take_succ_cons, List.drop_zero, List.drop_succ_cons, List.nil_append, List.cons_append, List.append_nil, List.length_cons, List.length_nil, Nat.zero_add, Nat.add_zero, Nat.reduceAdd, Nat.reduceMul, toC, toCs, bD_len, sD_len, rep, List.getElem?_cons_zero, List.getElem?_cons_succ]
  try simp only [setEnv, Vs.put, killEnv, del, cutR, reduceIte, Nat.reduceEqDiff, Nat.reduceAdd]
  simp only [runOs, thenQ, blockQ, Vs.put, reduceIte, Nat.reduceEqDiff]
  refine sw_seq ?_
  refine sw_reg ?_
  unfold s132_5
  first | refine os_ev (evq_fadb rfl) ?_ | refine os_ev (evq_fade rfl) ?_
  try simp only [List.take_zero, List.take_succ_cons, List.drop_zero, List.drop_succ_cons, List.nil_append, List.cons_append, List.append_nil, List.length_cons, List.length_nil, Nat.zero_add, Nat.add_zero, Nat.reduceAdd, Nat.reduceMul, toC, toCs, bD_len, sD_len, rep, List.getElem?_cons_zero, List.getElem?_cons_succ]
  simp only [Vs.put, reduceIte, Nat.reduceEqDiff]
  first | refine os_ev (evq_ldb rfl rfl rfl) ?_ | refine os_ev (evq_ldl rfl rfl (rfl) rfl) ?_ | refine os_ev (evq_lds rfl rfl (rfl) rfl) ?_
  try simp only [List.take_zero, List.take_succ_cons, List.drop_zero, List.drop_succ_cons, List.nil_append, List.cons_append, List.append_nil, List.length_cons, List.length_nil, Nat.zero_add, Nat.add_zero, Nat.reduceAdd, Nat.reduceMul, toC, toCs, bD_len, sD_len, rep, List.getElem?_cons_zero, List.getElem?_cons_succ]
  first | refine os_ev (evq_fadb rfl) ?_ | refine os_ev (evq_fade rfl) ?_
  try simp only [List.take_zero, List.take_succ_cons, List.drop_zero, List.drop_succ_cons, List.nil_append, List.cons_append, List.append_nil, List.length_cons, List.length_nil, Nat.zero_add, Nat.add_zero, Nat.reduceAdd, Nat.reduceMul, toC, toCs, bD_len, sD_len, rep, List.getElem?_cons_zero, List.getElem?_cons_succ]
  refine os_wro (by intros; nofun) ?_
  refine st_box rfl rfl rfl rfl (Nat.le_of_ble_eq_true rfl) ?_
  simp only [List.take_zero, List.take_succ_cons, List.drop_zero, List.drop_succ_cons, List.nil_append, List.cons_append, List.append_nil, List.length_cons, List.length_nil, Nat.zero_add, Nat.add_zero, Nat.reduceAdd, Nat.reduceMul, toC, toCs, bD_len, sD_len, rep, List.getElem?_cons_zero, List.getElem?_cons_succ]
  try simp only [setEnv, Vs.put, killEnv, del, cutR, reduceIte, Nat.reduceEqDiff, Nat.reduceAdd]
  simp only [runOs, thenQ, blockQ, Vs.put, reduceIte, Nat.reduceEqDiff]
  refine sw_seq ?_
  refine sw_reg ?_
  unfold s132_6
  first | refine os_ev (evq_fadb rfl) ?_ | refine os_ev (evq_fade rfl) ?_
  try simp only [List.take_zero, List.take_succ_cons, List.drop_zero, List.drop_succ_cons, List.nil_append, List.cons_append, List.append_nil, List.length_cons, List.length_nil, Nat.zero_add, Nat.add_zero, Nat.reduceAdd, Nat.reduceMul, toC, toCs, bD_len, sD_len, rep, List.getElem?_cons_zero, List.getElem?_cons_succ]
  first | refine os_ev (evq_ldb rfl rfl rfl) ?_ | refine os_ev (evq_ldl rfl rfl (rfl) rfl) ?_ | refine os_ev (evq_lds rfl rfl (rfl) rfl) ?_
  try simp only [List.take_zero, List.take_succ_cons, List.drop_zero, List.drop_succ_cons, List.nil_append, List.cons_append, List.append_nil, List.length_cons, List.length_nil, Nat.zero_add, Nat.add_zero, Nat.reduceAdd, Nat.reduceMul, toC, toCs, bD_len, sD_len, rep, List.getElem?_cons_zero, List.getElem?_cons_succ]
  first | refine os_ev (evq_fadb rfl) ?_ | refine os_ev (evq_fade rfl) ?_
  try simp only [List.take_zero, List.take_succ_cons, List.drop_zero, List.drop_succ_cons, List.nil_append, List.cons_append, List.append_nil, List.length_cons, List.length_nil, Nat.zero_add, Nat.add_zero, Nat.reduceAdd, Nat.reduceMul, toC, toCs, bD_len, sD_len, rep, List.getElem?_cons_zero, List.getElem?_cons_succ]
  simp only [Vs.put, reduceIte, Nat.reduceEqDiff]
  refine os_wro (by intros; nofun) ?_
  refine st_box rfl rfl rfl rfl (Nat.le_of_ble_eq_true rfl) ?_
  simp only [List.take_zero, List.take_succ_cons, List.drop_zero, List.drop_succ_cons, List.nil_append, List.cons_append, List.append_nil, List.length_cons, List.length_nil, Nat.zero_add, Nat.add_zero, Nat.reduceAdd, Nat.reduceMul, toC, toCs, bD_len, sD_len, rep, List.getElem?_cons_zero, List.getElem?_cons_succ]
  try simp only [setEnv, Vs.put, killEnv, del, cutR, reduceIte, Nat.reduceEqDiff, Nat.reduceAdd]
  simp only [runOs, thenQ, blockQ, Vs.put, reduceIte, Nat.reduceEqDiff]
  refine sw_seq ?_
  refine sw_reg ?_
  unfold s132_7
  first | refine os_ev (evq_lgb rfl rfl (Nat.le_of_ble_eq_true rfl) rfl) ?_ | refine os_ev (evq_lge rfl rfl (rfl) (Nat.le_of_ble_eq_true rfl) rfl) ?_
  try simp only [List.take_zero, List.take_succ_cons, List.drop_zero, List.drop_succ_cons, List.nil_append, List.cons_append, List.append_nil, List.length_cons, List.length_nil, Nat.zero_add, Nat.add_zero, Nat.reduceAdd, Nat.reduceMul, toC, toCs, bD_len, sD_len, rep, List.getElem?_cons_zero, List.getElem?_cons_succ]
  refine os_wro (by intros; nofun) ?_
  refine st_box rfl rfl rfl rfl (Nat.le_of_ble_eq_true rfl) ?_
  simp only [List.take_zero, List.take_succ_cons, List.drop_zero, List.drop_succ_cons, List.nil_append, List.cons_append, List.append_nil, List.length_cons, List.length_nil, Nat.zero_add, Nat.add_zero, Nat.reduceAdd, Nat.reduceMul, toC, toCs, bD_len, sD_len, rep, List.getElem?_cons_zero, List.getElem?_cons_succ]
  try simp only [setEnv, Vs.put, killEnv, del, cutR, reduceIte, Nat.reduceEqDiff, Nat.reduceAdd]
  simp only [runOs, thenQ, blockQ, Vs.put, reduceIte, Nat.reduceEqDiff]
  refine sw_ret ?_
  simp only [thenQ, blockQ, resK, ev, St.opd, Vs.get, reduceIte, Nat.reduceEqDiff, Option.getD_some]
  refine ⟨_, rfl, Nat.le_of_ble_eq_true rfl, ?_⟩
  simp only [List.take_zero, List.take_succ_cons, List.drop_zero, List.drop_succ_cons, List.nil_append, List.cons_append, List.append_nil, List.length_cons, List.length_nil, Nat.zero_add, Nat.add_zero, Nat.reduceAdd, Nat.reduceMul, toC, toCs, bD_len, sD_len, rep, List.getElem?_cons_zero, List.getElem?_cons_succ, resV]
  exact leaves_a rfl rfl rfl (take_lf (take_lf (take_cons rfl (by simp) (take_lf (take_cons rfl (by simp) (take_lf (take_lf rfl)))))))
theorem runs133 (m : MarkM) : Runs Try.prog 133 [.val true [(.rd, .lf (.int .i64 m.1)), (.rd, .lf (.int .i64 m.2.1)), (.rd, .lf (.int .i64 m.2.2))]] ⟨[(true, mE m)], [], []⟩ := by
  obtain ⟨c, hb, hs⟩ := body_of tr133
  refine runs_of_sw (is := [.load (some 3) (.t 2)]) Try.func133 hb hs (by kernel_rfl) (show 1 ≤ 14 by decide) ?_
  clear hb hs c
  simp only [inAs, inCells, flat, List.flatMap_cons, List.flatMap_nil, Arg.cells, List.cons_append, List.nil_append, inCs, inC, fixN, fixCs, fixC, nBox, inV, inB, rootB, List.length_cons, List.length_nil, List.take_succ_cons, List.take_zero, List.drop_succ_cons, List.drop_zero, env0, Nat.zero_add, Nat.add_zero, List.append_nil, Nat.reduceAdd]
  unfold s133
  refine sw_seq ?_
  refine sw_reg ?_
  unfold s133_0
  refine os_wro (by intros; nofun) ?_
  refine ⟨_, rfl, ?_⟩
  try simp only [setEnv, Vs.put, killEnv, del, cutR, reduceIte, Nat.reduceEqDiff, Nat.reduceAdd]
  refine os_wro (by intros; nofun) ?_
  simp only [wr]
  try simp only [setEnv, Vs.put, killEnv, del, cutR, reduceIte, Nat.reduceEqDiff, Nat.reduceAdd]
  simp only [runOs, thenQ, blockQ, Vs.put, reduceIte, Nat.reduceEqDiff]
  refine sw_seq ?_
  refine sw_reg ?_
  unfold s133_1
  refine os_wro (by intros; nofun) ?_
  simp only [wr]
  try simp only [setEnv, Vs.put, killEnv, del, cutR, reduceIte, Nat.reduceEqDiff, Nat.reduceAdd]
  simp only [runOs, thenQ, blockQ, Vs.put, reduceIte, Nat.reduceEqDiff]
  refine sw_seq ?_
  refine sw_reg ?_
  unfold s133_2
  first | refine os_ev (evq_fadb rfl) ?_ | refine os_ev (evq_fade rfl) ?_
  try simp only [List.take_zero, List.take_succ_cons, List.drop_zero, List.drop_succ_cons, List.nil_append, List.cons_append, List.append_nil, List.length_cons, List.length_nil, Nat.zero_add, Nat.add_zero, Nat.reduceAdd, Nat.reduceMul, toC, toCs, bD_len, sD_len, rep, List.getElem?_cons_zero, List.getElem?_cons_succ]
  first | refine os_ev (evq_ldb rfl rfl rfl) ?_ | refine os_ev (evq_ldl rfl rfl (rfl) rfl) ?_ | refine os_ev (evq_lds rfl rfl (rfl) rfl) ?_
  try simp only [List.take_zero, List.take_succ_cons, List.drop_zero, List.drop_succ_cons, List.nil_append, List.cons_append, List.append_nil, List.length_cons, List.length_nil, Nat.zero_add, Nat.add_zero, Nat.reduceAdd, Nat.reduceMul, toC, toCs, bD_len, sD_len, rep, List.getElem?_cons_zero, List.getElem?_cons_succ]
  first | refine os_ev (evq_fadb rfl) ?_ | refine os_ev (evq_fade rfl) ?_
  try simp only [List.take_zero, List.take_succ_cons, List.drop_zero, List.drop_succ_cons, List.nil_append, List.cons_append, List.append_nil, List.length_cons, List.length_nil, Nat.zero_add, Nat.add_zero, Nat.reduceAdd, Nat.reduceMul, toC, toCs, bD_len, sD_len, rep, List.getElem?_cons_zero, List.getElem?_cons_succ]
  refine os_wro (by intros; nofun) ?_
  refine st_box rfl rfl rfl rfl (Nat.le_of_ble_eq_true rfl) ?_
  simp only [List.take_zero, List.take_succ_cons, List.drop_zero, List.drop_succ_cons, List.nil_append, List.cons_append, List.append_nil, List.length_cons, List.length_nil, Nat.zero_add, Nat.add_zero, Nat.reduceAdd, Nat.reduceMul, toC, toCs, bD_len, sD_len, rep, List.getElem?_cons_zero, List.getElem?_cons_succ]
  try simp only [setEnv, Vs.put, killEnv, del, cutR, reduceIte, Nat.reduceEqDiff, Nat.reduceAdd]
  simp only [runOs, thenQ, blockQ, Vs.put, reduceIte, Nat.reduceEqDiff]
  refine sw_seq ?_
  refine sw_reg ?_
  unfold s133_3
  first | refine os_ev (evq_fadb rfl) ?_ | refine os_ev (evq_fade rfl) ?_
  try simp only [List.take_zero, List.take_succ_cons, List.drop_zero, List.drop_succ_cons, List.nil_append, List.cons_append, List.append_nil, List.length_cons, List.length_nil, Nat.zero_add, Nat.add_zero, Nat.reduceAdd, Nat.reduceMul, toC, toCs, bD_len, sD_len, rep, List.getElem?_cons_zero, List.getElem?_cons_succ]
  first | refine os_ev (evq_ldb rfl rfl rfl) ?_ | refine os_ev (evq_ldl rfl rfl (rfl) rfl) ?_ | refine os_ev (evq_lds rfl rfl (rfl) rfl) ?_
  try simp only [List.take_zero, List.take_succ_cons, List.drop_zero, List.drop_succ_cons, List.nil_append, List.cons_append, List.append_nil, List.length_cons, List.length_nil, Nat.zero_add, Nat.add_zero, Nat.reduceAdd, Nat.reduceMul, toC, toCs, bD_len, sD_len, rep, List.getElem?_cons_zero, List.getElem?_cons_succ]
  simp only [Vs.put, reduceIte, Nat.reduceEqDiff]
  first | refine os_ev (evq_fadb rfl) ?_ | refine os_ev (evq_fade rfl) ?_
  try simp only [List.take_zero, List.take_succ_cons, List.drop_zero, List.drop_succ_cons, List.nil_append, List.cons_append, List.append_nil, List.length_cons, List.length_nil, Nat.zero_add, Nat.add_zero, Nat.reduceAdd, Nat.reduceMul, toC, toCs, bD_len, sD_len, rep, List.getElem?_cons_zero, List.getElem?_cons_succ]
  refine os_wro (by intros; nofun) ?_
  refine st_box rfl rfl rfl rfl (Nat.le_of_ble_eq_true rfl) ?_
  simp only [List.take_zero, List.take_succ_cons, List.drop_zero, List.drop_succ_cons, List.nil_append, List.cons_append, List.append_nil, List.length_cons, List.length_nil, Nat.zero_add, Nat.add_zero, Nat.reduceAdd, Nat.reduceMul, toC, toCs, bD_len, sD_len, rep, List.getElem?_cons_zero, List.getElem?_cons_succ]
  try simp only [setEnv, Vs.put, killEnv, del, cutR, reduceIte, Nat.reduceEqDiff, Nat.reduceAdd]
  simp only [runOs, thenQ, blockQ, Vs.put, reduceIte, Nat.reduceEqDiff]
  refine sw_seq ?_
  refine sw_reg ?_
  unfold s133_4
  first | refine os_ev (evq_fadb rfl) ?_ | refine os_ev (evq_fade rfl) ?_
  try simp only [List.take_zero, List.take_succ_cons, List.drop_zero, List.drop_succ_cons, List.nil_append, List.cons_append, List.append_nil, List.length_cons, List.length_nil, Nat.zero_add, Nat.add_zero, Nat.reduceAdd, Nat.reduceMul, toC, toCs, bD_len, sD_len, rep, List.getElem?_cons_zero, List.getElem?_cons_succ]
  first | refine os_ev (evq_ldb rfl rfl rfl) ?_ | refine os_ev (evq_ldl rfl rfl (rfl) rfl) ?_ | refine os_ev (evq_lds rfl rfl (rfl) rfl) ?_
  try simp only [List.take_zero, List.take_succ_cons, List.drop_zero, List.drop_succ_cons, List.nil_append, List.cons_append, List.append_nil, List.length_cons, List.length_nil, Nat.zero_add, Nat.add_zero, Nat.reduceAdd, Nat.reduceMul, toC, toCs, bD_len, sD_len, rep, List.getElem?_cons_zero, List.getElem?_cons_succ]
  first | refine os_ev (evq_fadb rfl) ?_ | refine os_ev (evq_fade rfl) ?_
  try simp only [List.take_zero, List.take_succ_cons, List.drop_zero, List.drop_succ_cons, List.nil_append, List.cons_append, List.append_nil, List.length_cons, List.length_nil, Nat.zero_add, Nat.add_zero, Nat.reduceAdd, Nat.reduceMul, toC, toCs, bD_len, sD_len, rep, List.getElem?_cons_zero, List.getElem?_cons_succ]
  refine os_wro (by intros; nofun) ?_
  refine st_box rfl rfl rfl rfl (Nat.le_of_ble_eq_true rfl) ?_
  simp only [List.take_zero, List.take_succ_cons, List.drop_zero, List.drop_succ_cons, List.nil_append, List.cons_append, List.append_nil, List.length_cons, List.length_nil, Nat.zero_add, Nat.add_zero, Nat.reduceAdd, Nat.reduceMul, toC, toCs, bD_len, sD_len, rep, List.getElem?_cons_zero, List.getElem?_cons_succ]
  try simp only [setEnv, Vs.put, killEnv, del, cutR, reduceIte, Nat.reduceEqDiff, Nat.reduceAdd]
  simp only [runOs, thenQ, blockQ, Vs.put, reduceIte, Nat.reduceEqDiff]
  refine sw_seq ?_
  refine sw_reg ?_
  unfold s133_5
  first | refine os_ev (evq_lgb rfl rfl (Nat.le_of_ble_eq_true rfl) rfl) ?_ | refine os_ev (evq_lge rfl rfl (rfl) (Nat.le_of_ble_eq_true rfl) rfl) ?_
  try simp only [List.take_zero, List.take_succ_cons, List.drop_zero, List.drop_succ_cons, List.nil_append, List.cons_append, List.append_nil, List.length_cons, List.length_nil, Nat.zero_add, Nat.add_zero, Nat.reduceAdd, Nat.reduceMul, toC, toCs, bD_len, sD_len, rep, List.getElem?_cons_zero, List.getElem?_cons_succ]
  simp only [Vs.put, reduceIte, Nat.reduceEqDiff]
  refine os_wro (by intros; nofun) ?_
  refine st_box rfl rfl rfl rfl (Nat.le_of_ble_eq_true rfl) ?_
  simp only [List.take_zero, List.take_succ_cons, List.drop_zero, List.drop_succ_cons, List.nil_append, List.cons_append, List.append_nil, List.length_cons, List.length_nil, Nat.zero_add, Nat.add_zero, Nat.reduceAdd, Nat.reduceMul, toC, toCs, bD_len, sD_len, rep, List.getElem?_cons_zero, List.getElem?_cons_succ]
  try simp only [setEnv, Vs.put, killEnv, del, cutR, reduceIte, Nat.reduceEqDiff, Nat.reduceAdd]
  simp only [runOs, thenQ, blockQ, Vs.put, reduceIte, Nat.reduceEqDiff]
  refine sw_ret ?_
  simp only [thenQ, blockQ, resK, ev, St.opd, Vs.get, reduceIte, Nat.reduceEqDiff, Option.getD_some]
  refine ⟨_, rfl, Nat.le_of_ble_eq_true rfl, ?_⟩
  simp only [List.take_zero, List.take_succ_cons, List.drop_zero, List.drop_succ_cons, List.nil_append, List.cons_append, List.append_nil, List.length_cons, List.length_nil, Nat.zero_add, Nat.add_zero, Nat.reduceAdd, Nat.reduceMul, toC, toCs, bD_len, sD_len, rep, List.getElem?_cons_zero, List.getElem?_cons_succ, resV]
  exact leaves_a rfl rfl rfl (take_lf (take_lf (take_lf rfl)))
theorem runs104 (l : List RowM) (h : l.length < 2 ^ 40) (hb : ∀ r ∈ l, r.old.2.length < 2 ^ 46 ∧ r.new.2.length < 2 ^ 46) : Runs Try.prog 104 [.val false [(.rd, .sl 7 (rD l))]] ⟨[(false, [.sl 7 (rD l)])], [], []⟩ := by
  obtain ⟨c, hb, hs⟩ := body_of tr104
  refine runs_of_sw Try.func104 hb hs rfl (show 1 ≤ 23 by decide) ?_
  clear hb hs c
  simp only [inAs, inCells, flat, List.flatMap_cons, List.flatMap_nil, Arg.cells, List.cons_append, List.nil_append, inCs, inC, fixN, fixCs, fixC, nBox, inV, inB, rootB, List.length_cons, List.length_nil, List.take_succ_cons, List.take_zero, List.drop_succ_cons, List.drop_zero, env0, Nat.zero_add, Nat.add_zero, List.append_nil, Nat.reduceAdd, rD_len]
  unfold s104
  refine sw_seq ?_
  refine sw_reg ?_
  unfold s104_0
  refine os_ev (evq_mvk) ?_
  simp only [runOs, thenQ, blockQ, Vs.put, reduceIte, Nat.reduceEqDiff]
  refine sw_seq ?_
  refine sw_reg ?_
  unfold s104_1
  refine os_ev (evq_mvt rfl) ?_
  first | refine os_ev (evq_lenr rfl) ?_ | refine os_ev (evq_lenn rfl) ?_
  refine os_wro (by intros; nofun) ?_
  refine mks_any rfl rfl (by omega) (by omega) rfl ?_
  simp only [List.map_cons, List.map_nil, zeroD]
  rw [rep_rows]
  try simp only [setEnv, Vs.put, killEnv, del, cutR, reduceIte, Nat.reduceEqDiff, Nat.reduceAdd]
  refine os_ev (evq_mvt rfl) ?_
  simp only [runOs, thenQ, blockQ, Vs.put, reduceIte, Nat.reduceEqDiff]
  refine sw_seq ?_
  refine sw_seq ?_
  refine sw_reg ?_
  unfold s104_2
  refine os_ev (evq_mvk) ?_
  simp only [Vs.put, reduceIte, Nat.reduceEqDiff]
  simp only [runOs, thenQ, blockQ, Vs.put, reduceIte, Nat.reduceEqDiff]
  refine sw_block ?_
  refine sw_loop_upd [0, 3, 4] (α := Nat × List RowM) (fun (i, m) => [(4, .a (.c (.lf (.int .i64 (i : Nat)))))]) (fun (i, m) => [(1, .tr 7 (rD m)), (0, .im 7 (rD l))]) (2) (fun (i, m) => i ≤ l.length ∧ m.length = l.length ∧ m.take i = l.take i) (fun (i, m) => l.length - i) (0, List.replicate l.length row0) [(1, 1), (0, 0)] ?_ (by decide) ?_ ?_ ?_
  · exact ⟨Nat.zero_le _, by simp, by simp⟩
  · simp only [sel, Vs.get, upd, Vs.put, reduceIte, Nat.reduceEqDiff]
    repeat' (first | exact er_nil | refine er_un ?_ | refine er_cons rfl ?_ ?_)
    all_goals (try simp only [V.map, A.map, renC, Vs.get, reduceIte, Nat.reduceEqDiff, List.map_cons, List.map_nil])
    all_goals (try rfl)
  · repeat' (first | exact rr_nil | refine rr_cons 1 rfl rfl ?_ ?_ | refine rr_cons 0 rfl rfl ?_ ?_)
    all_goals (try simp only [renRoot, renC, Vs.get, reduceIte, Nat.reduceEqDiff, List.map_cons, List.map_nil])
    all_goals (try rfl)
  · rintro ⟨i, m⟩ hinv
    simp only [sel, Vs.get, upd, Vs.put, reduceIte, Nat.reduceEqDiff]
    obtain ⟨hi, hl, htake⟩ := hinv
    refine sw_seq ?_
    refine sw_seq ?_
    refine sw_reg ?_
    unfold s104_3
    refine os_ev (evq_mvt rfl) ?_
    refine os_ev (evq_mvt rfl) ?_
    first | refine os_ev (evq_lenr rfl) ?_ | refine os_ev (evq_lenn rfl) ?_
    refine os_ev (evq_bin rfl rfl rfl) ?_
    simp only [runOs, thenQ, blockQ, Vs.put, reduceIte, Nat.reduceEqDiff]
    refine sw_cond rfl (fun h2 => ?_) (fun h2 => ?_)
    · try simp only [decide_eq_true_eq, decide_eq_false_iff_not, bne_iff_ne, beq_iff_eq, bne_eq_false_iff_eq, beq_eq_false_iff_ne, ne_eq, Int.not_lt, Int.not_le, gt_iff_lt, ge_iff_le, Bool.not_eq_true, Bool.not_eq_false, Bool.not_eq_true', Bool.not_eq_false', Bool.and_eq_true, Bool.or_eq_true, Bool.and_eq_false_iff, Bool.or_eq_false_iff] at h2
      have hib : i < l.length := by omega
      have him : i < m.length := by omega
      have e1 : IntKind.i64.wrap ((i : Int) + 1) = ((i + 1 : Nat) : Int) := by rw [wrap64 (by omega) (by omega)]; rfl
      refine sw_skip ?_
      simp only [thenQ, blockQ]
      refine sw_seq ?_
      refine sw_block ?_
      refine sw_reg ?_
      unfold s104_5
      refine os_ev (evq_mvt rfl) ?_
      simp only [Vs.put, reduceIte, Nat.reduceEqDiff]
      refine os_ev (evq_mvt rfl) ?_
      refine os_ev (evq_mvt rfl) ?_
      refine os_ev (evq_mvt rfl) ?_
      first | refine os_ev (evq_iad rfl rfl rfl (by omega)) ?_ | refine os_ev (evq_iad rfl rfl rfl (by simp)) ?_
      first | refine os_ev (evq_lgb rfl rfl (Nat.le_of_ble_eq_true rfl) rfl) ?_ | refine os_ev (evq_lge rfl rfl (rD_get hib) (Nat.le_of_ble_eq_true rfl) rfl) ?_ | refine os_ev (evq_lge rfl rfl (rfl) (Nat.le_of_ble_eq_true rfl) rfl) ?_
      try simp only [List.take_zero, List.take_succ_cons, List.drop_zero, List.drop_succ_cons, List.nil_append, List.cons_append, List.append_nil, List.length_cons, List.length_nil, Nat.zero_add, Nat.add_zero, Nat.reduceAdd, Nat.reduceMul, toC, toCs, bD_len, sD_len, rep, List.getElem?_cons_zero, List.getElem?_cons_succ]
      simp only [Vs.put, reduceIte, Nat.reduceEqDiff]
      refine os_callo ?_
      simp only [List.map_cons, List.map_nil, St.opd, Vs.get, Vs.put, reduceIte, Nat.reduceEqDiff, Option.getD_some]
      refine ⟨_, _, runs132 l[i] (hb _ (List.getElem_mem hib)), _, rfl, _, rfl, by simp [handIo, handBx], fa_cons (rfl) (fa_cons (rfl) (fa_cons (⟨rfl, .inl rfl, by simp [handIo, handBx], bD l[i].old.2, by simp [nodeIn, nodeAt, Vs.get, rD_get hib], by simp, by simp⟩) (fa_cons (rfl) (fa_cons (⟨rfl, .inl rfl, by simp [handIo, handBx], bD l[i].new.2, by simp [nodeIn, nodeAt, Vs.get, rD_get hib], by simp, by simp⟩) (fa_cons (rfl) (fa_cons (rfl) (fa_nil))))))), _, rfl, _, rfl, ?_⟩
      simp only [newCs, newRes, newA, resV, List.flatMap_cons, List.flatMap_nil, List.flatten_nil, List.flatten_cons, List.append_nil, List.nil_append, List.cons_append, List.length_cons, List.length_nil, List.drop_succ_cons, List.drop_zero, List.take_succ_cons, List.take_zero, if_true, if_false, Bool.false_eq_true, List.drop_nil, mixCs, isRx, Vs.put, reduceIte, Nat.reduceEqDiff, Nat.zero_add, Nat.reduceAdd, bD_len, sD_len]
      simp only [rE, newCs, bD_len]
      try simp only [setEnv, Vs.put, killEnv, del, cutR, reduceIte, Nat.reduceEqDiff, Nat.reduceAdd]
      first | refine os_ev (evq_iad rfl rfl rfl (by omega)) ?_ | refine os_ev (evq_iad rfl rfl rfl (by simp)) ?_
      refine os_wro (by intros; nofun) ?_
      refine st_row rfl rfl rfl (by simp) (by simp) (rD_get him) rfl ?_
      rw [rD_setR m i l[i]]
      simp only [setEnv, killEnv, V.map, A.map, killC, pre_no, and_false, if_false, List.map_cons, List.map_nil, Vs.put, reduceIte, Nat.reduceEqDiff]
      try simp only [setEnv, Vs.put, killEnv, del, cutR, reduceIte, Nat.reduceEqDiff, Nat.reduceAdd]
      simp only [runOs, thenQ, blockQ, Vs.put, reduceIte, Nat.reduceEqDiff]
      refine sw_reg ?_
      unfold s104_4
      refine os_ev (evq_mvt rfl) ?_
      refine os_ev (evq_bin rfl rfl rfl) ?_
      refine os_ev (evq_mvt rfl) ?_
      simp only [runOs, thenQ, blockQ, Vs.put, reduceIte, Nat.reduceEqDiff]
      try simp only [thenQ, blockQ]
      refine ⟨(i + 1, m.set i l[i]), ?_, ?_, rfl, [(1, 1), (0, 0)], by decide, ?_, ?_⟩
      · refine ⟨by omega, by simp [hl], ?_⟩
        rw [List.take_succ_eq_append_getElem (by simpa using him), List.take_succ_eq_append_getElem hib]
        simp only [List.getElem_set_self, List.take_set_of_le (Nat.le_refl i)]
        rw [htake]
      · first | omega | (dsimp only; omega)
      · simp only [sel, Vs.get, upd, Vs.put, reduceIte, Nat.reduceEqDiff]
        repeat' (first | exact er_nil | refine er_un ?_ | refine er_cons rfl ?_ ?_)
        all_goals (try simp only [V.map, A.map, renC, Vs.get, reduceIte, Nat.reduceEqDiff, List.map_cons, List.map_nil, e1])
      · repeat' (first | exact rr_nil | refine rr_cons 1 rfl rfl ?_ ?_ | refine rr_cons 0 rfl rfl ?_ ?_)
        all_goals (try simp only [renRoot, renC, Vs.get, reduceIte, Nat.reduceEqDiff, List.map_cons, List.map_nil, e1])
    · try simp only [decide_eq_true_eq, decide_eq_false_iff_not, bne_iff_ne, beq_iff_eq, bne_eq_false_iff_eq, beq_eq_false_iff_ne, ne_eq, Int.not_lt, Int.not_le, gt_iff_lt, ge_iff_le, Bool.not_eq_true, Bool.not_eq_false, Bool.not_eq_true', Bool.not_eq_false', Bool.and_eq_true, Bool.or_eq_true, Bool.and_eq_false_iff, Bool.or_eq_false_iff] at h2
      have hib : i = l.length := by omega
      subst hib
      have hml : m = l := by rw [← List.take_length (l := m), hl, htake, List.take_length]
      subst hml
      refine sw_exit ?_
      simp only [thenQ, blockQ, if_true, Nat.reduceEqDiff, if_false, reduceIte]
      refine sw_seq ?_
      refine sw_reg ?_
      unfold s104_6
      refine os_ev (evq_mvt rfl) ?_
      simp only [Vs.put, reduceIte, Nat.reduceEqDiff]
      refine os_ev (evq_mvt rfl) ?_
      simp only [runOs, thenQ, blockQ, Vs.put, reduceIte, Nat.reduceEqDiff]
      refine sw_ret ?_
      simp only [thenQ, blockQ, resK, ev, St.opd, Vs.get, reduceIte, Nat.reduceEqDiff, Option.getD_some]
      first | exact leaves_vals rfl rfl rfl (take_one rfl (by simp)) | exact leaves_a rfl rfl rfl (take_one rfl (by simp))
theorem runs105 (l : List MarkM) (h : l.length < 2 ^ 40) : Runs Try.prog 105 [.val false [(.rd, .sl 3 (mD l))]] ⟨[(false, [.sl 3 (mD l)])], [], []⟩ := by
  obtain ⟨c, hb, hs⟩ := body_of tr105
  refine runs_of_sw Try.func105 hb hs rfl (show 1 ≤ 23 by decide) ?_
  clear hb hs c
  simp only [inAs, inCells, flat, List.flatMap_cons, List.flatMap_nil, Arg.cells, List.cons_append, List.nil_append, inCs, inC, fixN, fixCs, fixC, nBox, inV, inB, rootB, List.length_cons, List.length_nil, List.take_succ_cons, List.take_zero, List.drop_succ_cons, List.drop_zero, env0, Nat.zero_add, Nat.add_zero, List.append_nil, Nat.reduceAdd, mD_len]
  unfold s105
  refine sw_seq ?_
  refine sw_reg ?_
  unfold s105_0
  refine os_ev (evq_mvk) ?_
  simp only [runOs, thenQ, blockQ, Vs.put, reduceIte, Nat.reduceEqDiff]
  refine sw_seq ?_
  refine sw_reg ?_
  unfold s105_1
  refine os_ev (evq_mvt rfl) ?_
  first | refine os_ev (evq_lenr rfl) ?_ | refine os_ev (evq_lenn rfl) ?_
  refine os_wro (by intros; nofun) ?_
  refine mks_any rfl rfl (by omega) (by omega) rfl ?_
  simp only [List.map_cons, List.map_nil, zeroD]
  rw [rep_marks]
  try simp only [setEnv, Vs.put, killEnv, del, cutR, reduceIte, Nat.reduceEqDiff, Nat.reduceAdd]
  refine os_ev (evq_mvt rfl) ?_
  simp only [runOs, thenQ, blockQ, Vs.put, reduceIte, Nat.reduceEqDiff]
  refine sw_seq ?_
  refine sw_seq ?_
  refine sw_reg ?_
  unfold s105_2
  refine os_ev (evq_mvk) ?_
  simp only [Vs.put, reduceIte, Nat.reduceEqDiff]
  simp only [runOs, thenQ, blockQ, Vs.put, reduceIte, Nat.reduceEqDiff]
  refine sw_block ?_
  refine sw_loop_upd [0, 3, 4] (α := Nat × List MarkM) (fun (i, m) => [(4, .a (.c (.lf (.int .i64 (i : Nat)))))]) (fun (i, m) => [(1, .tr 3 (mD m)), (0, .im 3 (mD l))]) (2) (fun (i, m) => i ≤ l.length ∧ m.length = l.length ∧ m.take i = l.take i) (fun (i, m) => l.length - i) (0, List.replicate l.length (0, 0, 0)) [(1, 1), (0, 0)] ?_ (by decide) ?_ ?_ ?_
  · exact ⟨Nat.zero_le _, by simp, by simp⟩
  · simp only [sel, Vs.get, upd, Vs.put, reduceIte, Nat.reduceEqDiff]
    repeat' (first | exact er_nil | refine er_un ?_ | refine er_cons rfl ?_ ?_)
    all_goals (try simp only [V.map, A.map, renC, Vs.get, reduceIte, Nat.reduceEqDiff, List.map_cons, List.map_nil])
    all_goals (try rfl)
  · repeat' (first | exact rr_nil | refine rr_cons 1 rfl rfl ?_ ?_ | refine rr_cons 0 rfl rfl ?_ ?_)
    all_goals (try simp only [renRoot, renC, Vs.get, reduceIte, Nat.reduceEqDiff, List.map_cons, List.map_nil])
    all_goals (try rfl)
  · rintro ⟨i, m⟩ hinv
    simp only [sel, Vs.get, upd, Vs.put, reduceIte, Nat.reduceEqDiff]
    obtain ⟨hi, hl, htake⟩ := hinv
    refine sw_seq ?_
    refine sw_seq ?_
    refine sw_reg ?_
    unfold s105_3
    refine os_ev (evq_mvt rfl) ?_
    refine os_ev (evq_mvt rfl) ?_
    first | refine os_ev (evq_lenr rfl) ?_ | refine os_ev (evq_lenn rfl) ?_
    refine os_ev (evq_bin rfl rfl rfl) ?_
    simp only [runOs, thenQ, blockQ, Vs.put, reduceIte, Nat.reduceEqDiff]
    refine sw_cond rfl (fun h2 => ?_) (fun h2 => ?_)
    · try simp only [decide_eq_true_eq, decide_eq_false_iff_not, bne_iff_ne, beq_iff_eq, bne_eq_false_iff_eq, beq_eq_false_iff_ne, ne_eq, Int.not_lt, Int.not_le, gt_iff_lt, ge_iff_le, Bool.not_eq_true, Bool.not_eq_false, Bool.not_eq_true', Bool.not_eq_false', Bool.and_eq_true, Bool.or_eq_true, Bool.and_eq_false_iff, Bool.or_eq_false_iff] at h2
      have hib : i < l.length := by omega
      have him : i < m.length := by omega
      have e1 : IntKind.i64.wrap ((i : Int) + 1) = ((i + 1 : Nat) : Int) := by rw [wrap64 (by omega) (by omega)]; rfl
      refine sw_skip ?_
      simp only [thenQ, blockQ]
      refine sw_seq ?_
      refine sw_block ?_
      refine sw_reg ?_
      unfold s105_5
      refine os_ev (evq_mvt rfl) ?_
      simp only [Vs.put, reduceIte, Nat.reduceEqDiff]
      refine os_ev (evq_mvt rfl) ?_
      refine os_ev (evq_mvt rfl) ?_
      refine os_ev (evq_mvt rfl) ?_
      first | refine os_ev (evq_iad rfl rfl rfl (by omega)) ?_ | refine os_ev (evq_iad rfl rfl rfl (by simp)) ?_
      first | refine os_ev (evq_lgb rfl rfl (Nat.le_of_ble_eq_true rfl) rfl) ?_ | refine os_ev (evq_lge rfl rfl (mD_get hib) (Nat.le_of_ble_eq_true rfl) rfl) ?_ | refine os_ev (evq_lge rfl rfl (rfl) (Nat.le_of_ble_eq_true rfl) rfl) ?_
      try simp only [List.take_zero, List.take_succ_cons, List.drop_zero, List.drop_succ_cons, List.nil_append, List.cons_append, List.append_nil, List.length_cons, List.length_nil, Nat.zero_add, Nat.add_zero, Nat.reduceAdd, Nat.reduceMul, toC, toCs, bD_len, sD_len, rep, List.getElem?_cons_zero, List.getElem?_cons_succ]
      simp only [Vs.put, reduceIte, Nat.reduceEqDiff]
      refine os_callo ?_
      simp only [List.map_cons, List.map_nil, St.opd, Vs.get, Vs.put, reduceIte, Nat.reduceEqDiff, Option.getD_some]
      refine ⟨_, _, runs133 l[i], _, rfl, _, rfl, by simp [handIo, handBx], fa_cons (rfl) (fa_cons (rfl) (fa_cons (rfl) (fa_nil))), _, rfl, _, rfl, ?_⟩
      simp only [newCs, newRes, newA, resV, List.flatMap_cons, List.flatMap_nil, List.flatten_nil, List.flatten_cons, List.append_nil, List.nil_append, List.cons_append, List.length_cons, List.length_nil, List.drop_succ_cons, List.drop_zero, List.take_succ_cons, List.take_zero, if_true, if_false, Bool.false_eq_true, List.drop_nil, mixCs, isRx, Vs.put, reduceIte, Nat.reduceEqDiff, Nat.zero_add, Nat.reduceAdd, bD_len, sD_len]
      simp only [mE, newCs]
      try simp only [setEnv, Vs.put, killEnv, del, cutR, reduceIte, Nat.reduceEqDiff, Nat.reduceAdd]
      first | refine os_ev (evq_iad rfl rfl rfl (by omega)) ?_ | refine os_ev (evq_iad rfl rfl rfl (by simp)) ?_
      refine os_wro (by intros; nofun) ?_
      refine st_three rfl rfl rfl (mD_get him) ?_
      rw [mD_setM m i l[i]]
      simp only [setEnv, killEnv, V.map, A.map, killC, pre_no, and_false, if_false, List.map_cons, List.map_nil, Vs.put, reduceIte, Nat.reduceEqDiff]
      try simp only [setEnv, Vs.put, killEnv, del, cutR, reduceIte, Nat.reduceEqDiff, Nat.reduceAdd]
      simp only [runOs, thenQ, blockQ, Vs.put, reduceIte, Nat.reduceEqDiff]
      refine sw_reg ?_
      unfold s105_4
      refine os_ev (evq_mvt rfl) ?_
      refine os_ev (evq_bin rfl rfl rfl) ?_
      refine os_ev (evq_mvt rfl) ?_
      simp only [runOs, thenQ, blockQ, Vs.put, reduceIte, Nat.reduceEqDiff]
      try simp only [thenQ, blockQ]
      refine ⟨(i + 1, m.set i l[i]), ?_, ?_, rfl, [(1, 1), (0, 0)], by decide, ?_, ?_⟩
      · refine ⟨by omega, by simp [hl], ?_⟩
        rw [List.take_succ_eq_append_getElem (by simpa using him), List.take_succ_eq_append_getElem hib]
        simp only [List.getElem_set_self, List.take_set_of_le (Nat.le_refl i)]
        rw [htake]
      · first | omega | (dsimp only; omega)
      · simp only [sel, Vs.get, upd, Vs.put, reduceIte, Nat.reduceEqDiff]
        repeat' (first | exact er_nil | refine er_un ?_ | refine er_cons rfl ?_ ?_)
        all_goals (try simp only [V.map, A.map, renC, Vs.get, reduceIte, Nat.reduceEqDiff, List.map_cons, List.map_nil, e1])
      · repeat' (first | exact rr_nil | refine rr_cons 1 rfl rfl ?_ ?_ | refine rr_cons 0 rfl rfl ?_ ?_)
        all_goals (try simp only [renRoot, renC, Vs.get, reduceIte, Nat.reduceEqDiff, List.map_cons, List.map_nil, e1])
    · try simp only [decide_eq_true_eq, decide_eq_false_iff_not, bne_iff_ne, beq_iff_eq, bne_eq_false_iff_eq, beq_eq_false_iff_ne, ne_eq, Int.not_lt, Int.not_le, gt_iff_lt, ge_iff_le, Bool.not_eq_true, Bool.not_eq_false, Bool.not_eq_true', Bool.not_eq_false', Bool.and_eq_true, Bool.or_eq_true, Bool.and_eq_false_iff, Bool.or_eq_false_iff] at h2
      have hib : i = l.length := by omega
      subst hib
      have hml : m = l := by rw [← List.take_length (l := m), hl, htake, List.take_length]
      subst hml
      refine sw_exit ?_
      simp only [thenQ, blockQ, if_true, Nat.reduceEqDiff, if_false, reduceIte]
      refine sw_seq ?_
      refine sw_reg ?_
      unfold s105_6
      refine os_ev (evq_mvt rfl) ?_
      simp only [Vs.put, reduceIte, Nat.reduceEqDiff]
      refine os_ev (evq_mvt rfl) ?_
      simp only [runOs, thenQ, blockQ, Vs.put, reduceIte, Nat.reduceEqDiff]
      refine sw_ret ?_
      simp only [thenQ, blockQ, resK, ev, St.opd, Vs.get, reduceIte, Nat.reduceEqDiff, Option.getD_some]
      first | exact leaves_vals rfl rfl rfl (take_one rfl (by simp)) | exact leaves_a rfl rfl rfl (take_one rfl (by simp))
theorem runs49 (rows : List RowM) (phase : Int) (marks : List MarkM) (hl : rows.length < 2 ^ 40) (hb : ∀ r ∈ rows, r.old.2.length < 2 ^ 46 ∧ r.new.2.length < 2 ^ 46) (hm : marks.length < 2 ^ 40) : Runs Try.prog 49 [.val true [(.rd, .sl 7 (rD rows)), (.rd, .lf (.int .i64 phase)), (.rd, .sl 3 (mD marks))]] ⟨[(true, [.sl 7 (rD rows), .lf (.int .i64 phase), .sl 3 (mD marks)])], [], []⟩ := by
  obtain ⟨c, hb, hs⟩ := body_of tr49
  refine runs_of_sw (is := [.load (some 3) (.t 2)]) Try.func49 hb hs (by kernel_rfl) (show 1 ≤ 16 by decide) ?_
  clear hb hs c
  simp only [inAs, inCells, flat, List.flatMap_cons, List.flatMap_nil, Arg.cells, List.cons_append, List.nil_append, inCs, inC, fixN, fixCs, fixC, nBox, inV, inB, rootB, List.length_cons, List.length_nil, List.take_succ_cons, List.take_zero, List.drop_succ_cons, List.drop_zero, env0, Nat.zero_add, Nat.add_zero, List.append_nil, Nat.reduceAdd, rD_len, mD_len]
  unfold s49
  refine sw_seq ?_
  refine sw_reg ?_
  unfold s49_0
  refine os_wro (by intros; nofun) ?_
  refine ⟨_, rfl, ?_⟩
  try simp only [setEnv, Vs.put, killEnv, del, cutR, reduceIte, Nat.reduceEqDiff, Nat.reduceAdd]
  refine os_wro (by intros; nofun) ?_
  simp only [wr]
  try simp only [setEnv, Vs.put, killEnv, del, cutR, reduceIte, Nat.reduceEqDiff, Nat.reduceAdd]
  simp only [runOs, thenQ, blockQ, Vs.put, reduceIte, Nat.reduceEqDiff]
  refine sw_seq ?_
  refine sw_reg ?_
  unfold s49_1
  refine os_wro (by intros; nofun) ?_
  simp only [wr]
  try simp only [setEnv, Vs.put, killEnv, del, cutR, reduceIte, Nat.reduceEqDiff, Nat.reduceAdd]
  simp only [runOs, thenQ, blockQ, Vs.put, reduceIte, Nat.reduceEqDiff]
  refine sw_seq ?_
  refine sw_reg ?_
  unfold s49_2
  first | refine os_ev (evq_fadb rfl) ?_ | refine os_ev (evq_fade rfl) ?_
  try simp only [List.take_zero, List.take_succ_cons, List.drop_zero, List.drop_succ_cons, List.nil_append, List.cons_append, List.append_nil, List.length_cons, List.length_nil, Nat.zero_add, Nat.add_zero, Nat.reduceAdd, Nat.reduceMul, toC, toCs, bD_len, sD_len, rep, List.getElem?_cons_zero, List.getElem?_cons_succ]
  first | refine os_ev (evq_ldb rfl rfl rfl) ?_ | refine os_ev (evq_ldl rfl rfl (rfl) rfl) ?_ | refine os_ev (evq_lds rfl rfl (rfl) rfl) ?_
  try simp only [List.take_zero, List.take_succ_cons, List.drop_zero, List.drop_succ_cons, List.nil_append, List.cons_append, List.append_nil, List.length_cons, List.length_nil, Nat.zero_add, Nat.add_zero, Nat.reduceAdd, Nat.reduceMul, toC, toCs, bD_len, sD_len, rep, List.getElem?_cons_zero, List.getElem?_cons_succ]
  refine os_callo ?_
  simp only [List.map_cons, List.map_nil, St.opd, Vs.get, Vs.put, reduceIte, Nat.reduceEqDiff, Option.getD_some]
  refine ⟨_, _, runs104 rows hl hb, _, rfl, _, rfl, by simp [handIo, handBx], fa_cons (⟨rfl, .inl rfl, by simp [handIo, handBx], _, rfl, by simp, by first | rfl | (simp; done) | exact (List.take_of_length_le (by simp)).symm⟩) (fa_nil), _, rfl, _, rfl, ?_⟩
  simp only [newCs, newRes, newA, resV, List.flatMap_cons, List.flatMap_nil, List.flatten_nil, List.flatten_cons, List.append_nil, List.nil_append, List.cons_append, List.length_cons, List.length_nil, List.drop_succ_cons, List.drop_zero, List.take_succ_cons, List.take_zero, if_true, if_false, Bool.false_eq_true, List.drop_nil, mixCs, isRx, Vs.put, reduceIte, Nat.reduceEqDiff, Nat.zero_add, Nat.reduceAdd, bD_len, sD_len]
  try simp only [setEnv, Vs.put, killEnv, del, cutR, reduceIte, Nat.reduceEqDiff, Nat.reduceAdd]
  first | refine os_ev (evq_fadb rfl) ?_ | refine os_ev (evq_fade rfl) ?_
  try simp only [List.take_zero, List.take_succ_cons, List.drop_zero, List.drop_succ_cons, List.nil_append, List.cons_append, List.append_nil, List.length_cons, List.length_nil, Nat.zero_add, Nat.add_zero, Nat.reduceAdd, Nat.reduceMul, toC, toCs, bD_len, sD_len, rep, List.getElem?_cons_zero, List.getElem?_cons_succ]
  refine os_wro (by intros; nofun) ?_
  refine st_box rfl rfl rfl rfl (Nat.le_of_ble_eq_true rfl) ?_
  simp only [List.take_zero, List.take_succ_cons, List.drop_zero, List.drop_succ_cons, List.nil_append, List.cons_append, List.append_nil, List.length_cons, List.length_nil, Nat.zero_add, Nat.add_zero, Nat.reduceAdd, Nat.reduceMul, toC, toCs, bD_len, sD_len, rep, List.getElem?_cons_zero, List.getElem?_cons_succ]
  try simp only [setEnv, Vs.put, killEnv, del, cutR, reduceIte, Nat.reduceEqDiff, Nat.reduceAdd]
  simp only [runOs, thenQ, blockQ, Vs.put, reduceIte, Nat.reduceEqDiff]
  refine sw_seq ?_
  refine sw_reg ?_
  unfold s49_3
  first | refine os_ev (evq_fadb rfl) ?_ | refine os_ev (evq_fade rfl) ?_
  try simp only [List.take_zero, List.take_succ_cons, List.drop_zero, List.drop_succ_cons, List.nil_append, List.cons_append, List.append_nil, List.length_cons, List.length_nil, Nat.zero_add, Nat.add_zero, Nat.reduceAdd, Nat.reduceMul, toC, toCs, bD_len, sD_len, rep, List.getElem?_cons_zero, List.getElem?_cons_succ]
  first | refine os_ev (evq_ldb rfl rfl rfl) ?_ | refine os_ev (evq_ldl rfl rfl (rfl) rfl) ?_ | refine os_ev (evq_lds rfl rfl (rfl) rfl) ?_
  try simp only [List.take_zero, List.take_succ_cons, List.drop_zero, List.drop_succ_cons, List.nil_append, List.cons_append, List.append_nil, List.length_cons, List.length_nil, Nat.zero_add, Nat.add_zero, Nat.reduceAdd, Nat.reduceMul, toC, toCs, bD_len, sD_len, rep, List.getElem?_cons_zero, List.getElem?_cons_succ]
  simp only [Vs.put, reduceIte, Nat.reduceEqDiff]
  first | refine os_ev (evq_fadb rfl) ?_ | refine os_ev (evq_fade rfl) ?_
  try simp only [List.take_zero, List.take_succ_cons, List.drop_zero, List.drop_succ_cons, List.nil_append, List.cons_append, List.append_nil, List.length_cons, List.length_nil, Nat.zero_add, Nat.add_zero, Nat.reduceAdd, Nat.reduceMul, toC, toCs, bD_len, sD_len, rep, List.getElem?_cons_zero, List.getElem?_cons_succ]
  refine os_wro (by intros; nofun) ?_
  refine st_box rfl rfl rfl rfl (Nat.le_of_ble_eq_true rfl) ?_
  simp only [List.take_zero, List.take_succ_cons, List.drop_zero, List.drop_succ_cons, List.nil_append, List.cons_append, List.append_nil, List.length_cons, List.length_nil, Nat.zero_add, Nat.add_zero, Nat.reduceAdd, Nat.reduceMul, toC, toCs, bD_len, sD_len, rep, List.getElem?_cons_zero, List.getElem?_cons_succ]
  try simp only [setEnv, Vs.put, killEnv, del, cutR, reduceIte, Nat.reduceEqDiff, Nat.reduceAdd]
  simp only [runOs, thenQ, blockQ, Vs.put, reduceIte, Nat.reduceEqDiff]
  refine sw_seq ?_
  refine sw_reg ?_
  unfold s49_4
  first | refine os_ev (evq_fadb rfl) ?_ | refine os_ev (evq_fade rfl) ?_
  try simp only [List.take_zero, List.take_succ_cons, List.drop_zero, List.drop_succ_cons, List.nil_append, List.cons_append, List.append_nil, List.length_cons, List.length_nil, Nat.zero_add, Nat.add_zero, Nat.reduceAdd, Nat.reduceMul, toC, toCs, bD_len, sD_len, rep, List.getElem?_cons_zero, List.getElem?_cons_succ]
  first | refine os_ev (evq_ldb rfl rfl rfl) ?_ | refine os_ev (evq_ldl rfl rfl (rfl) rfl) ?_ | refine os_ev (evq_lds rfl rfl (rfl) rfl) ?_
  try simp only [List.take_zero, List.take_succ_cons, List.drop_zero, List.drop_succ_cons, List.nil_append, List.cons_append, List.append_nil, List.length_cons, List.length_nil, Nat.zero_add, Nat.add_zero, Nat.reduceAdd, Nat.reduceMul, toC, toCs, bD_len, sD_len, rep, List.getElem?_cons_zero, List.getElem?_cons_succ]
  refine os_callo ?_
  simp only [List.map_cons, List.map_nil, St.opd, Vs.get, Vs.put, reduceIte, Nat.reduceEqDiff, Option.getD_some]
  refine ⟨_, _, runs105 marks hm, _, rfl, _, rfl, by simp [handIo, handBx], fa_cons (⟨rfl, .inl rfl, by simp [handIo, handBx], _, rfl, by simp, by first | rfl | (simp; done) | exact (List.take_of_length_le (by simp)).symm⟩) (fa_nil), _, rfl, _, rfl, ?_⟩
  simp only [newCs, newRes, newA, resV, List.flatMap_cons, List.flatMap_nil, List.flatten_nil, List.flatten_cons, List.append_nil, List.nil_append, List.cons_append, List.length_cons, List.length_nil, List.drop_succ_cons, List.drop_zero, List.take_succ_cons, List.take_zero, if_true, if_false, Bool.false_eq_true, List.drop_nil, mixCs, isRx, Vs.put, reduceIte, Nat.reduceEqDiff, Nat.zero_add, Nat.reduceAdd, bD_len, sD_len]
  try simp only [setEnv, Vs.put, killEnv, del, cutR, reduceIte, Nat.reduceEqDiff, Nat.reduceAdd]
  first | refine os_ev (evq_fadb rfl) ?_ | refine os_ev (evq_fade rfl) ?_
  try simp only [List.take_zero, List.take_succ_cons, List.drop_zero, List.drop_succ_cons, List.nil_append, List.cons_append, List.append_nil, List.length_cons, List.length_nil, Nat.zero_add, Nat.add_zero, Nat.reduceAdd, Nat.reduceMul, toC, toCs, bD_len, sD_len, rep, List.getElem?_cons_zero, List.getElem?_cons_succ]
  refine os_wro (by intros; nofun) ?_
  refine st_box rfl rfl rfl rfl (Nat.le_of_ble_eq_true rfl) ?_
  simp only [List.take_zero, List.take_succ_cons, List.drop_zero, List.drop_succ_cons, List.nil_append, List.cons_append, List.append_nil, List.length_cons, List.length_nil, Nat.zero_add, Nat.add_zero, Nat.reduceAdd, Nat.reduceMul, toC, toCs, bD_len, sD_len, rep, List.getElem?_cons_zero, List.getElem?_cons_succ]
  try simp only [setEnv, Vs.put, killEnv, del, cutR, reduceIte, Nat.reduceEqDiff, Nat.reduceAdd]
  simp only [runOs, thenQ, blockQ, Vs.put, reduceIte, Nat.reduceEqDiff]
  refine sw_seq ?_
  refine sw_reg ?_
  unfold s49_5
  first | refine os_ev (evq_lgb rfl rfl (Nat.le_of_ble_eq_true rfl) rfl) ?_ | refine os_ev (evq_lge rfl rfl (rfl) (Nat.le_of_ble_eq_true rfl) rfl) ?_
  try simp only [List.take_zero, List.take_succ_cons, List.drop_zero, List.drop_succ_cons, List.nil_append, List.cons_append, List.append_nil, List.length_cons, List.length_nil, Nat.zero_add, Nat.add_zero, Nat.reduceAdd, Nat.reduceMul, toC, toCs, bD_len, sD_len, rep, List.getElem?_cons_zero, List.getElem?_cons_succ]
  simp only [Vs.put, reduceIte, Nat.reduceEqDiff]
  refine os_wro (by intros; nofun) ?_
  refine st_box rfl rfl rfl rfl (Nat.le_of_ble_eq_true rfl) ?_
  simp only [List.take_zero, List.take_succ_cons, List.drop_zero, List.drop_succ_cons, List.nil_append, List.cons_append, List.append_nil, List.length_cons, List.length_nil, Nat.zero_add, Nat.add_zero, Nat.reduceAdd, Nat.reduceMul, toC, toCs, bD_len, sD_len, rep, List.getElem?_cons_zero, List.getElem?_cons_succ]
  try simp only [setEnv, Vs.put, killEnv, del, cutR, reduceIte, Nat.reduceEqDiff, Nat.reduceAdd]
  simp only [runOs, thenQ, blockQ, Vs.put, reduceIte, Nat.reduceEqDiff]
  refine sw_ret ?_
  simp only [thenQ, blockQ, resK, ev, St.opd, Vs.get, reduceIte, Nat.reduceEqDiff, Option.getD_some]
  refine ⟨_, rfl, Nat.le_of_ble_eq_true rfl, ?_⟩
  simp only [List.take_zero, List.take_succ_cons, List.drop_zero, List.drop_succ_cons, List.nil_append, List.cons_append, List.append_nil, List.length_cons, List.length_nil, Nat.zero_add, Nat.add_zero, Nat.reduceAdd, Nat.reduceMul, toC, toCs, bD_len, sD_len, rep, List.getElem?_cons_zero, List.getElem?_cons_succ, resV]
  exact leaves_a rfl rfl rfl (take_cons rfl (by simp) (take_lf (take_cons rfl (by simp) rfl)))
end Go.Proofs.Ytgbapgjdkoojdaa
