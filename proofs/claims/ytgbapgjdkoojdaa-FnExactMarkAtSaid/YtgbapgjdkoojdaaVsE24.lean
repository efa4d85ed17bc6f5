import Derived.Test.YtgbapgjdkoojdaaVsSi
import Derived.Test.YtgbapgjdkoojdaaVsE14
import Derived.Test.YtgbapgjdkoojdaaVsE23
namespace Go.Proofs.Ytgbapgjdkoojdaa
open Go.Vs
set_option linter.unusedSimpArgs false
set_option linter.unusedVariables false
set_option maxHeartbeats 1000000
theorem runs142 (w : Wr) (hb : w.2.length < 2 ^ 62) : Runs Try.prog 142 [.val true [(.rd, .lf (.int .i64 w.1)), (.rd, .sl 1 (bD w.2))], .val true [(.rd, .lf (.int .i64 w.1)), (.rd, .sl 1 (bD w.2))]] ⟨[(false, [.lf (.bool true)])], [], []⟩ := by
  obtain ⟨c, hb, hs⟩ := body_of tr142
  refine runs_of_sw Try.func142 hb hs rfl (show 2 ≤ 16 by decide) ?_
  clear hb hs c
  simp only [inAs, inCells, flat, List.flatMap_cons, List.flatMap_nil, Arg.cells, List.cons_append, List.nil_append, inCs, inC, fixN, fixCs, fixC, nBox, inV, inB, rootB, List.length_cons, List.length_nil, List.take_succ_cons, List.take_zero, List.drop_succ_cons, List.drop_zero, env0, Nat.zero_add, Nat.add_zero, List.append_nil, Nat.reduceAdd, bD_len]
  unfold s142
  refine sw_seq ?_
  refine sw_reg ?_
  unfold s142_0
  refine os_wro (by intros; nofun) ?_
  refine ⟨_, rfl, ?_⟩
  try simp only [setEnv, Vs.put, killEnv, del, cutR, reduceIte, Nat.reduceEqDiff, Nat.reduceAdd]
  refine os_wro (by intros; nofun) ?_
  refine ⟨_, rfl, ?_⟩
  try simp only [setEnv, Vs.put, killEnv, del, cutR, reduceIte, Nat.reduceEqDiff, Nat.reduceAdd]
  refine os_ev (evq_mvk) ?_
  simp only [runOs, thenQ, blockQ, Vs.put, reduceIte, Nat.reduceEqDiff]
  refine sw_seq ?_
  refine sw_seq ?_
  refine sw_reg ?_
  unfold s142_1
  first | refine os_ev (evq_fadb rfl) ?_ | refine os_ev (evq_fade rfl) ?_
  try simp only [List.take_zero, List.take_succ_cons, List.drop_zero, List.drop_succ_cons, List.nil_append, List.cons_append, List.append_nil, List.length_cons, List.length_nil, Nat.zero_add, Nat.add_zero, Nat.reduceAdd, Nat.reduceMul, toC, toCs, bD_len, sD_len, rep, List.getElem?_cons_zero, List.getElem?_cons_succ]
  first | refine os_ev (evq_ldb rfl rfl rfl) ?_ | refine os_ev (evq_ldl rfl rfl (rfl) rfl) ?_ | refine os_ev (evq_lds rfl rfl (rfl) rfl) ?_
  try simp only [List.take_zero, List.take_succ_cons, List.drop_zero, List.drop_succ_cons, List.nil_append, List.cons_append, List.append_nil, List.length_cons, List.length_nil, Nat.zero_add, Nat.add_zero, Nat.reduceAdd, Nat.reduceMul, toC, toCs, bD_len, sD_len, rep, List.getElem?_cons_zero, List.getElem?_cons_succ]
  first | refine os_ev (evq_fadb rfl) ?_ | refine os_ev (evq_fade rfl) ?_
  try simp only [List.take_zero, List.take_succ_cons, List.drop_zero, List.drop_succ_cons, List.nil_append, List.cons_append, List.append_nil, List.length_cons, List.length_nil, Nat.zero_add, Nat.add_zero, Nat.reduceAdd, Nat.reduceMul, toC, toCs, bD_len, sD_len, rep, List.getElem?_cons_zero, List.getElem?_cons_succ]
  first | refine os_ev (evq_ldb rfl rfl rfl) ?_ | refine os_ev (evq_ldl rfl rfl (rfl) rfl) ?_ | refine os_ev (evq_lds rfl rfl (rfl) rfl) ?_
  try simp only [List.take_zero, List.take_succ_cons, List.drop_zero, List.drop_succ_cons, List.nil_append, List.cons_append, List.append_nil, List.length_cons, List.length_nil, Nat.zero_add, Nat.add_zero, Nat.reduceAdd, Nat.reduceMul, toC, toCs, bD_len, sD_len, rep, List.getElem?_cons_zero, List.getElem?_cons_succ]
  simp only [Vs.put, reduceIte, Nat.reduceEqDiff]
  refine os_ev (evq_bin rfl rfl rfl) ?_
  simp only [runOs, thenQ, blockQ, Vs.put, reduceIte, Nat.reduceEqDiff]
  refine sw_cond rfl (fun h1 => ?_) (fun h1 => ?_)
  · exact absurd h1 (by simp at h1)
  · try simp only [decide_eq_true_eq, decide_eq_false_iff_not, bne_iff_ne, beq_iff_eq, bne_eq_false_iff_eq, beq_eq_false_iff_ne, ne_eq, Int.not_lt, Int.not_le, gt_iff_lt, ge_iff_le, Bool.not_eq_true, Bool.not_eq_false, Bool.not_eq_true', Bool.not_eq_false', Bool.and_eq_true, Bool.or_eq_true, Bool.and_eq_false_iff, Bool.or_eq_false_iff] at h1
    refine sw_skip ?_
    simp only [thenQ, blockQ]
    refine sw_seq ?_
    refine sw_seq ?_
    refine sw_reg ?_
    unfold s142_3
    first | refine os_ev (evq_fadb rfl) ?_ | refine os_ev (evq_fade rfl) ?_
    try simp only [List.take_zero, List.take_succ_cons, List.drop_zero, List.drop_succ_cons, List.nil_append, List.cons_append, List.append_nil, List.length_cons, List.length_nil, Nat.zero_add, Nat.add_zero, Nat.reduceAdd, Nat.reduceMul, toC, toCs, bD_len, sD_len, rep, List.getElem?_cons_zero, List.getElem?_cons_succ]
    first | refine os_ev (evq_ldb rfl rfl rfl) ?_ | refine os_ev (evq_ldl rfl rfl (rfl) rfl) ?_ | refine os_ev (evq_lds rfl rfl (rfl) rfl) ?_
    try simp only [List.take_zero, List.take_succ_cons, List.drop_zero, List.drop_succ_cons, List.nil_append, List.cons_append, List.append_nil, List.length_cons, List.length_nil, Nat.zero_add, Nat.add_zero, Nat.reduceAdd, Nat.reduceMul, toC, toCs, bD_len, sD_len, rep, List.getElem?_cons_zero, List.getElem?_cons_succ]
    first | refine os_ev (evq_fadb rfl) ?_ | refine os_ev (evq_fade rfl) ?_
    try simp only [List.take_zero, List.take_succ_cons, List.drop_zero, List.drop_succ_cons, List.nil_append, List.cons_append, List.append_nil, List.length_cons, List.length_nil, Nat.zero_add, Nat.add_zero, Nat.reduceAdd, Nat.reduceMul, toC, toCs, bD_len, sD_len, rep, List.getElem?_cons_zero, List.getElem?_cons_succ]
    first | refine os_ev (evq_ldb rfl rfl rfl) ?_ | refine os_ev (evq_ldl rfl rfl (rfl) rfl) ?_ | refine os_ev (evq_lds rfl rfl (rfl) rfl) ?_
    try simp only [List.take_zero, List.take_succ_cons, List.drop_zero, List.drop_succ_cons, List.nil_append, List.cons_append, List.append_nil, List.length_cons, List.length_nil, Nat.zero_add, Nat.add_zero, Nat.reduceAdd, Nat.reduceMul, toC, toCs, bD_len, sD_len, rep, List.getElem?_cons_zero, List.getElem?_cons_succ]
    simp only [Vs.put, reduceIte, Nat.reduceEqDiff]
    refine os_callo ?_
    simp only [List.map_cons, List.map_nil, St.opd, Vs.get, Vs.put, reduceIte, Nat.reduceEqDiff, Option.getD_some]
    refine ⟨_, _, runs23 w.2 w.2 hb, _, rfl, _, rfl, by simp [handIo, handBx], fa_cons (⟨rfl, .inl rfl, by simp [handIo, handBx], _, rfl, by simp, by first | rfl | (simp; done) | exact (List.take_of_length_le (by simp)).symm⟩) (fa_cons (⟨rfl, .inl rfl, by simp [handIo, handBx], _, rfl, by simp, by first | rfl | (simp; done) | exact (List.take_of_length_le (by simp)).symm⟩) (fa_nil)), _, rfl, _, rfl, ?_⟩
    simp only [newCs, newRes, newA, resV, List.flatMap_cons, List.flatMap_nil, List.flatten_nil, List.flatten_cons, List.append_nil, List.nil_append, List.cons_append, List.length_cons, List.length_nil, List.drop_succ_cons, List.drop_zero, List.take_succ_cons, List.take_zero, if_true, if_false, Bool.false_eq_true, List.drop_nil, mixCs, isRx, Vs.put, reduceIte, Nat.reduceEqDiff, Nat.zero_add, Nat.reduceAdd, bD_len, sD_len]
    simp only [decide_true]
    try simp only [setEnv, Vs.put, killEnv, del, cutR, reduceIte, Nat.reduceEqDiff, Nat.reduceAdd]
    refine os_ev (evq_un rfl rfl) ?_
    simp only [runOs, thenQ, blockQ, Vs.put, reduceIte, Nat.reduceEqDiff]
    refine sw_cond rfl (fun h3 => ?_) (fun h3 => ?_)
    · exact absurd h3 (by simp at h3)
    · try simp only [decide_eq_true_eq, decide_eq_false_iff_not, bne_iff_ne, beq_iff_eq, bne_eq_false_iff_eq, beq_eq_false_iff_ne, ne_eq, Int.not_lt, Int.not_le, gt_iff_lt, ge_iff_le, Bool.not_eq_true, Bool.not_eq_false, Bool.not_eq_true', Bool.not_eq_false', Bool.and_eq_true, Bool.or_eq_true, Bool.and_eq_false_iff, Bool.or_eq_false_iff] at h3
      refine sw_skip ?_
      simp only [thenQ, blockQ]
      refine sw_seq ?_
      refine sw_reg ?_
      unfold s142_5
      refine os_ev (evq_mvk) ?_
      simp only [runOs, thenQ, blockQ, Vs.put, reduceIte, Nat.reduceEqDiff]
      refine sw_ret ?_
      simp only [thenQ, blockQ, resK, ev, St.opd, Vs.get, reduceIte, Nat.reduceEqDiff, Option.getD_some]
      first | exact leaves_vals rfl rfl rfl rfl | exact leaves_a rfl rfl rfl rfl
theorem runs134 (r : RowM) (hb : r.old.2.length < 2 ^ 62 ∧ r.new.2.length < 2 ^ 62) : Runs Try.prog 134 [.val true [(.rd, .lf (.string r.key)), (.rd, .lf (.int .i64 r.old.1)), (.rd, .sl 1 (bD r.old.2)), (.rd, .lf (.int .i64 r.new.1)), (.rd, .sl 1 (bD r.new.2)), (.rd, .lf (.int .i64 r.has)), (.rd, .lf (.bool r.aside))], .val true [(.rd, .lf (.string r.key)), (.rd, .lf (.int .i64 r.old.1)), (.rd, .sl 1 (bD r.old.2)), (.rd, .lf (.int .i64 r.new.1)), (.rd, .sl 1 (bD r.new.2)), (.rd, .lf (.int .i64 r.has)), (.rd, .lf (.bool r.aside))]] ⟨[(false, [.lf (.bool true)])], [], []⟩ := by
  obtain ⟨c, hb, hs⟩ := body_of tr134
  refine runs_of_sw Try.func134 hb hs rfl (show 2 ≤ 32 by decide) ?_
  clear hb hs c
  simp only [inAs, inCells, flat, List.flatMap_cons, List.flatMap_nil, Arg.cells, List.cons_append, List.nil_append, inCs, inC, fixN, fixCs, fixC, nBox, inV, inB, rootB, List.length_cons, List.length_nil, List.take_succ_cons, List.take_zero, List.drop_succ_cons, List.drop_zero, env0, Nat.zero_add, Nat.add_zero, List.append_nil, Nat.reduceAdd, bD_len]
  unfold s134
  refine sw_seq ?_
  refine sw_reg ?_
  unfold s134_0
  refine os_wro (by intros; nofun) ?_
  refine ⟨_, rfl, ?_⟩
  try simp only [setEnv, Vs.put, killEnv, del, cutR, reduceIte, Nat.reduceEqDiff, Nat.reduceAdd]
  refine os_wro (by intros; nofun) ?_
  refine ⟨_, rfl, ?_⟩
  try simp only [setEnv, Vs.put, killEnv, del, cutR, reduceIte, Nat.reduceEqDiff, Nat.reduceAdd]
  refine os_ev (evq_mvk) ?_
  simp only [runOs, thenQ, blockQ, Vs.put, reduceIte, Nat.reduceEqDiff]
  refine sw_seq ?_
  refine sw_seq ?_
  refine sw_reg ?_
  unfold s134_1
  first | refine os_ev (evq_fadb rfl) ?_ | refine os_ev (evq_fade rfl) ?_
  try simp only [List.take_zero, List.take_succ_cons, List.drop_zero, List.drop_succ_cons, List.nil_append, List.cons_append, List.append_nil, List.length_cons, List.length_nil, Nat.zero_add, Nat.add_zero, Nat.reduceAdd, Nat.reduceMul, toC, toCs, bD_len, sD_len, rep, List.getElem?_cons_zero, List.getElem?_cons_succ]
  first | refine os_ev (evq_ldb rfl rfl rfl) ?_ | refine os_ev (evq_ldl rfl rfl (rfl) rfl) ?_ | refine os_ev (evq_lds rfl rfl (rfl) rfl) ?_
  try simp only [List.take_zero, List.take_succ_cons, List.drop_zero, List.drop_succ_cons, List.nil_append, List.cons_append, List.append_nil, List.length_cons, List.length_nil, Nat.zero_add, Nat.add_zero, Nat.reduceAdd, Nat.reduceMul, toC, toCs, bD_len, sD_len, rep, List.getElem?_cons_zero, List.getElem?_cons_succ]
  first | refine os_ev (evq_fadb rfl) ?_ | refine os_ev (evq_fade rfl) ?_
  try simp only [List.take_zero, List.take_succ_cons, List.drop_zero, List.drop_succ_cons, List.nil_append, List.cons_append, List.append_nil, List.length_cons, List.length_nil, Nat.zero_add, Nat.add_zero, Nat.reduceAdd, Nat.reduceMul, toC, toCs, bD_len, sD_len, rep, List.getElem?_cons_zero, List.getElem?_cons_succ]
  first | refine os_ev (evq_ldb rfl rfl rfl) ?_ | refine os_ev (evq_ldl rfl rfl (rfl) rfl) ?_ | refine os_ev (evq_lds rfl rfl (rfl) rfl) ?_
  try simp only [List.take_zero, List.take_succ_cons, List.drop_zero, List.drop_succ_cons, List.nil_append, List.cons_append, List.append_nil, List.length_cons, List.length_nil, Nat.zero_add, Nat.add_zero, Nat.reduceAdd, Nat.reduceMul, toC, toCs, bD_len, sD_len, rep, List.getElem?_cons_zero, List.getElem?_cons_succ]
  simp only [Vs.put, reduceIte, Nat.reduceEqDiff]
  refine os_ev (evq_bin rfl rfl rfl) ?_
  simp only [runOs, thenQ, blockQ, Vs.put, reduceIte, Nat.reduceEqDiff]
  refine sw_cond rfl (fun h1 => ?_) (fun h1 => ?_)
  · exact absurd h1 (by simp at h1)
  · try simp only [decide_eq_true_eq, decide_eq_false_iff_not, bne_iff_ne, beq_iff_eq, bne_eq_false_iff_eq, beq_eq_false_iff_ne, ne_eq, Int.not_lt, Int.not_le, gt_iff_lt, ge_iff_le, Bool.not_eq_true, Bool.not_eq_false, Bool.not_eq_true', Bool.not_eq_false', Bool.and_eq_true, Bool.or_eq_true, Bool.and_eq_false_iff, Bool.or_eq_false_iff] at h1
    refine sw_skip ?_
    simp only [thenQ, blockQ]
    refine sw_seq ?_
    refine sw_seq ?_
    refine sw_reg ?_
    unfold s134_3
    first | refine os_ev (evq_fadb rfl) ?_ | refine os_ev (evq_fade rfl) ?_
    try simp only [List.take_zero, List.take_succ_cons, List.drop_zero, List.drop_succ_cons, List.nil_append, List.cons_append, List.append_nil, List.length_cons, List.length_nil, Nat.zero_add, Nat.add_zero, Nat.reduceAdd, Nat.reduceMul, toC, toCs, bD_len, sD_len, rep, List.getElem?_cons_zero, List.getElem?_cons_succ]
    first | refine os_ev (evq_lgb rfl rfl (Nat.le_of_ble_eq_true rfl) rfl) ?_ | refine os_ev (evq_lge rfl rfl (rfl) (Nat.le_of_ble_eq_true rfl) rfl) ?_
    try simp only [List.take_zero, List.take_succ_cons, List.drop_zero, List.drop_succ_cons, List.nil_append, List.cons_append, List.append_nil, List.length_cons, List.length_nil, Nat.zero_add, Nat.add_zero, Nat.reduceAdd, Nat.reduceMul, toC, toCs, bD_len, sD_len, rep, List.getElem?_cons_zero, List.getElem?_cons_succ]
    first | refine os_ev (evq_fadb rfl) ?_ | refine os_ev (evq_fade rfl) ?_
    try simp only [List.take_zero, List.take_succ_cons, List.drop_zero, List.drop_succ_cons, List.nil_append, List.cons_append, List.append_nil, List.length_cons, List.length_nil, Nat.zero_add, Nat.add_zero, Nat.reduceAdd, Nat.reduceMul, toC, toCs, bD_len, sD_len, rep, List.getElem?_cons_zero, List.getElem?_cons_succ]
    first | refine os_ev (evq_lgb rfl rfl (Nat.le_of_ble_eq_true rfl) rfl) ?_ | refine os_ev (evq_lge rfl rfl (rfl) (Nat.le_of_ble_eq_true rfl) rfl) ?_
    try simp only [List.take_zero, List.take_succ_cons, List.drop_zero, List.drop_succ_cons, List.nil_append, List.cons_append, List.append_nil, List.length_cons, List.length_nil, Nat.zero_add, Nat.add_zero, Nat.reduceAdd, Nat.reduceMul, toC, toCs, bD_len, sD_len, rep, List.getElem?_cons_zero, List.getElem?_cons_succ]
    simp only [Vs.put, reduceIte, Nat.reduceEqDiff]
    refine os_callo ?_
    simp only [List.map_cons, List.map_nil, St.opd, Vs.get, Vs.put, reduceIte, Nat.reduceEqDiff, Option.getD_some]
    refine ⟨_, _, runs142 r.old hb.1, _, rfl, _, rfl, by simp [handIo, handBx], fa_cons (rfl) (fa_cons (⟨rfl, .inl rfl, by simp [handIo, handBx], _, rfl, by simp, by first | rfl | (simp; done) | exact (List.take_of_length_le (by simp)).symm⟩) (fa_cons (rfl) (fa_cons (⟨rfl, .inl rfl, by simp [handIo, handBx], _, rfl, by simp, by first | rfl | (simp; done) | exact (List.take_of_length_le (by simp)).symm⟩) (fa_nil)))), _, rfl, _, rfl, ?_⟩
    simp only [newCs, newRes, newA, resV, List.flatMap_cons, List.flatMap_nil, List.flatten_nil, List.flatten_cons, List.append_nil, List.nil_append, List.cons_append, List.length_cons, List.length_nil, List.drop_succ_cons, List.drop_zero, List.take_succ_cons, List.take_zero, if_true, if_false, Bool.false_eq_true, List.drop_nil, mixCs, isRx, Vs.put, reduceIte, Nat.reduceEqDiff, Nat.zero_add, Nat.reduceAdd, bD_len, sD_len]
    try simp only [setEnv, Vs.put, killEnv, del, cutR, reduceIte, Nat.reduceEqDiff, Nat.reduceAdd]
    refine os_ev (evq_un rfl rfl) ?_
    simp only [runOs, thenQ, blockQ, Vs.put, reduceIte, Nat.reduceEqDiff]
    refine sw_cond rfl (fun h3 => ?_) (fun h3 => ?_)
    · exact absurd h3 (by simp at h3)
    · try simp only [decide_eq_true_eq, decide_eq_false_iff_not, bne_iff_ne, beq_iff_eq, bne_eq_false_iff_eq, beq_eq_false_iff_ne, ne_eq, Int.not_lt, Int.not_le, gt_iff_lt, ge_iff_le, Bool.not_eq_true, Bool.not_eq_false, Bool.not_eq_true', Bool.not_eq_false', Bool.and_eq_true, Bool.or_eq_true, Bool.and_eq_false_iff, Bool.or_eq_false_iff] at h3
      refine sw_skip ?_
      simp only [thenQ, blockQ]
      refine sw_seq ?_
      refine sw_seq ?_
      refine sw_reg ?_
      unfold s134_5
      first | refine os_ev (evq_fadb rfl) ?_ | refine os_ev (evq_fade rfl) ?_
      try simp only [List.take_zero, List.take_succ_cons, List.drop_zero, List.drop_succ_cons, List.nil_append, List.cons_append, List.append_nil, List.length_cons, List.length_nil, Nat.zero_add, Nat.add_zero, Nat.reduceAdd, Nat.reduceMul, toC, toCs, bD_len, sD_len, rep, List.getElem?_cons_zero, List.getElem?_cons_succ]
      first | refine os_ev (evq_lgb rfl rfl (Nat.le_of_ble_eq_true rfl) rfl) ?_ | refine os_ev (evq_lge rfl rfl (rfl) (Nat.le_of_ble_eq_true rfl) rfl) ?_
      try simp only [List.take_zero, List.take_succ_cons, List.drop_zero, List.drop_succ_cons, List.nil_append, List.cons_append, List.append_nil, List.length_cons, List.length_nil, Nat.zero_add, Nat.add_zero, Nat.reduceAdd, Nat.reduceMul, toC, toCs, bD_len, sD_len, rep, List.getElem?_cons_zero, List.getElem?_cons_succ]
      first | refine os_ev (evq_fadb rfl) ?_ | refine os_ev (evq_fade rfl) ?_
      try simp only [List.take_zero, List.take_succ_cons, List.drop_zero, List.drop_succ_cons, List.nil_append, List.cons_append, List.append_nil, List.length_cons, List.length_nil, Nat.zero_add, Nat.add_zero, Nat.reduceAdd, Nat.reduceMul, toC, toCs, bD_len, sD_len, rep, List.getElem?_cons_zero, List.getElem?_cons_succ]
      first | refine os_ev (evq_lgb rfl rfl (Nat.le_of_ble_eq_true rfl) rfl) ?_ | refine os_ev (evq_lge rfl rfl (rfl) (Nat.le_of_ble_eq_true rfl) rfl) ?_
      try simp only [List.take_zero, List.take_succ_cons, List.drop_zero, List.drop_succ_cons, List.nil_append, List.cons_append, List.append_nil, List.length_cons, List.length_nil, Nat.zero_add, Nat.add_zero, Nat.reduceAdd, Nat.reduceMul, toC, toCs, bD_len, sD_len, rep, List.getElem?_cons_zero, List.getElem?_cons_succ]
      simp only [Vs.put, reduceIte, Nat.reduceEqDiff]
      refine os_callo ?_
      simp only [List.map_cons, List.map_nil, St.opd, Vs.get, Vs.put, reduceIte, Nat.reduceEqDiff, Option.getD_some]
      refine ⟨_, _, runs142 r.new hb.2, _, rfl, _, rfl, by simp [handIo, handBx], fa_cons (rfl) (fa_cons (⟨rfl, .inl rfl, by simp [handIo, handBx], _, rfl, by simp, by first | rfl | (simp; done) | exact (List.take_of_length_le (by simp)).symm⟩) (fa_cons (rfl) (fa_cons (⟨rfl, .inl rfl, by simp [handIo, handBx], _, rfl, by simp, by first | rfl | (simp; done) | exact (List.take_of_length_le (by simp)).symm⟩) (fa_nil)))), _, rfl, _, rfl, ?_⟩
      simp only [newCs, newRes, newA, resV, List.flatMap_cons, List.flatMap_nil, List.flatten_nil, List.flatten_cons, List.append_nil, List.nil_append, List.cons_append, List.length_cons, List.length_nil, List.drop_succ_cons, List.drop_zero, List.take_succ_cons, List.take_zero, if_true, if_false, Bool.false_eq_true, List.drop_nil, mixCs, isRx, Vs.put, reduceIte, Nat.reduceEqDiff, Nat.zero_add, Nat.reduceAdd, bD_len, sD_len]
      try simp only [setEnv, Vs.put, killEnv, del, cutR, reduceIte, Nat.reduceEqDiff, Nat.reduceAdd]
      refine os_ev (evq_un rfl rfl) ?_
      simp only [runOs, thenQ, blockQ, Vs.put, reduceIte, Nat.reduceEqDiff]
      refine sw_cond rfl (fun h5 => ?_) (fun h5 => ?_)
      · exact absurd h5 (by simp at h5)
      · try simp only [decide_eq_true_eq, decide_eq_false_iff_not, bne_iff_ne, beq_iff_eq, bne_eq_false_iff_eq, beq_eq_false_iff_ne, ne_eq, Int.not_lt, Int.not_le, gt_iff_lt, ge_iff_le, Bool.not_eq_true, Bool.not_eq_false, Bool.not_eq_true', Bool.not_eq_false', Bool.and_eq_true, Bool.or_eq_true, Bool.and_eq_false_iff, Bool.or_eq_false_iff] at h5
        refine sw_skip ?_
        simp only [thenQ, blockQ]
        refine sw_seq ?_
        refine sw_seq ?_
        refine sw_reg ?_
        unfold s134_7
        first | refine os_ev (evq_fadb rfl) ?_ | refine os_ev (evq_fade rfl) ?_
        try simp only [List.take_zero, List.take_succ_cons, List.drop_zero, List.drop_succ_cons, List.nil_append, List.cons_append, List.append_nil, List.length_cons, List.length_nil, Nat.zero_add, Nat.add_zero, Nat.reduceAdd, Nat.reduceMul, toC, toCs, bD_len, sD_len, rep, List.getElem?_cons_zero, List.getElem?_cons_succ]
        first | refine os_ev (evq_ldb rfl rfl rfl) ?_ | refine os_ev (evq_ldl rfl rfl (rfl) rfl) ?_ | refine os_ev (evq_lds rfl rfl (rfl) rfl) ?_
        try simp only [List.take_zero, List.take_succ_cons, List.drop_zero, List.drop_succ_cons, List.nil_append, List.cons_append, List.append_nil, List.length_cons, List.length_nil, Nat.zero_add, Nat.add_zero, Nat.reduceAdd, Nat.reduceMul, toC, toCs, bD_len, sD_len, rep, List.getElem?_cons_zero, List.getElem?_cons_succ]
        first | refine os_ev (evq_fadb rfl) ?_ | refine os_ev (evq_fade rfl) ?_
        try simp only [List.take_zero, List.take_succ_cons, List.drop_zero, List.drop_succ_cons, List.nil_append, List.cons_append, List.append_nil, List.length_cons, List.length_nil, Nat.zero_add, Nat.add_zero, Nat.reduceAdd, Nat.reduceMul, toC, toCs, bD_len, sD_len, rep, List.getElem?_cons_zero, List.getElem?_cons_succ]
        first | refine os_ev (evq_ldb rfl rfl rfl) ?_ | refine os_ev (evq_ldl rfl rfl (rfl) rfl) ?_ | refine os_ev (evq_lds rfl rfl (rfl) rfl) ?_
        try simp only [List.take_zero, List.take_succ_cons, List.drop_zero, List.drop_succ_cons, List.nil_append, List.cons_append, List.append_nil, List.length_cons, List.length_nil, Nat.zero_add, Nat.add_zero, Nat.reduceAdd, Nat.reduceMul, toC, toCs, bD_len, sD_len, rep, List.getElem?_cons_zero, List.getElem?_cons_succ]
        simp only [Vs.put, reduceIte, Nat.reduceEqDiff]
        refine os_ev (evq_bin rfl rfl rfl) ?_
        simp only [runOs, thenQ, blockQ, Vs.put, reduceIte, Nat.reduceEqDiff]
        refine sw_cond rfl (fun h7 => ?_) (fun h7 => ?_)
        · exact absurd h7 (by simp at h7)
        · try simp only [decide_eq_true_eq, decide_eq_false_iff_not, bne_iff_ne, beq_iff_eq, bne_eq_false_iff_eq, beq_eq_false_iff_ne, ne_eq, Int.not_lt, Int.not_le, gt_iff_lt, ge_iff_le, Bool.not_eq_true, Bool.not_eq_false, Bool.not_eq_true', Bool.not_eq_false', Bool.and_eq_true, Bool.or_eq_true, Bool.and_eq_false_iff, Bool.or_eq_false_iff] at h7
          refine sw_skip ?_
          simp only [thenQ, blockQ]
          refine sw_seq ?_
          refine sw_seq ?_
          refine sw_reg ?_
          unfold s134_9
          first | refine os_ev (evq_fadb rfl) ?_ | refine os_ev (evq_fade rfl) ?_
          try simp only [List.take_zero, List.take_succ_cons, List.drop_zero, List.drop_succ_cons, List.nil_append, List.cons_append, List.append_nil, List.length_cons, List.length_nil, Nat.zero_add, Nat.add_zero, Nat.reduceAdd, Nat.reduceMul, toC, toCs, bD_len, sD_len, rep, List.getElem?_cons_zero, List.getElem?_cons_succ]
          first | refine os_ev (evq_ldb rfl rfl rfl) ?_ | refine os_ev (evq_ldl rfl rfl (rfl) rfl) ?_ | refine os_ev (evq_lds rfl rfl (rfl) rfl) ?_
          try simp only [List.take_zero, List.take_succ_cons, List.drop_zero, List.drop_succ_cons, List.nil_append, List.cons_append, List.append_nil, List.length_cons, List.length_nil, Nat.zero_add, Nat.add_zero, Nat.reduceAdd, Nat.reduceMul, toC, toCs, bD_len, sD_len, rep, List.getElem?_cons_zero, List.getElem?_cons_succ]
          first | refine os_ev (evq_fadb rfl) ?_ | refine os_ev (evq_fade rfl) ?_
          try simp only [List.take_zero, List.take_succ_cons, List.drop_zero, List.drop_succ_cons, List.nil_append, List.cons_append, List.append_nil, List.length_cons, List.length_nil, Nat.zero_add, Nat.add_zero, Nat.reduceAdd, Nat.reduceMul, toC, toCs, bD_len, sD_len, rep, List.getElem?_cons_zero, List.getElem?_cons_succ]
          first | refine os_ev (evq_ldb rfl rfl rfl) ?_ | refine os_ev (evq_ldl rfl rfl (rfl) rfl) ?_ | refine os_ev (evq_lds rfl rfl (rfl) rfl) ?_
          try simp only [List.take_zero, List.take_succ_cons, List.drop_zero, List.drop_succ_cons, List.nil_append, List.cons_append, List.append_nil, List.length_cons, List.length_nil, Nat.zero_add, Nat.add_zero, Nat.reduceAdd, Nat.reduceMul, toC, toCs, bD_len, sD_len, rep, List.getElem?_cons_zero, List.getElem?_cons_succ]
          simp only [Vs.put, reduceIte, Nat.reduceEqDiff]
          refine os_ev (evq_beq rfl rfl) ?_
          try simp only [if_true, if_false, Bool.false_eq_true]
          simp only [runOs, thenQ, blockQ, Vs.put, reduceIte, Nat.reduceEqDiff]
          refine sw_cond rfl (fun h9 => ?_) (fun h9 => ?_)
          · exact absurd h9 (by simp at h9)
          · try simp only [decide_eq_true_eq, decide_eq_false_iff_not, bne_iff_ne, beq_iff_eq, bne_eq_false_iff_eq, beq_eq_false_iff_ne, ne_eq, Int.not_lt, Int.not_le, gt_iff_lt, ge_iff_le, Bool.not_eq_true, Bool.not_eq_false, Bool.not_eq_true', Bool.not_eq_false', Bool.and_eq_true, Bool.or_eq_true, Bool.and_eq_false_iff, Bool.or_eq_false_iff] at h9
            refine sw_skip ?_
            simp only [thenQ, blockQ]
            refine sw_seq ?_
            refine sw_reg ?_
            unfold s134_11
            refine os_ev (evq_mvk) ?_
            simp only [runOs, thenQ, blockQ, Vs.put, reduceIte, Nat.reduceEqDiff]
            refine sw_ret ?_
            simp only [thenQ, blockQ, resK, ev, St.opd, Vs.get, reduceIte, Nat.reduceEqDiff, Option.getD_some]
            first | exact leaves_vals rfl rfl rfl rfl | exact leaves_a rfl rfl rfl rfl
theorem runs106 (l : List RowM) (hb : ∀ r ∈ l, r.old.2.length < 2 ^ 62 ∧ r.new.2.length < 2 ^ 62) (h : l.length < 2 ^ 62) : Runs Try.prog 106 [.val false [(.rd, .sl 7 (rD l))], .val false [(.rd, .sl 7 (rD l))]] ⟨[(false, [.lf (.bool true)])], [], []⟩ := by
  obtain ⟨c, hb, hs⟩ := body_of tr106
  refine runs_of_sw Try.func106 hb hs rfl (show 2 ≤ 27 by decide) ?_
  clear hb hs c
  simp only [inAs, inCells, flat, List.flatMap_cons, List.flatMap_nil, Arg.cells, List.cons_append, List.nil_append, inCs, inC, fixN, fixCs, fixC, nBox, inV, inB, rootB, List.length_cons, List.length_nil, List.take_succ_cons, List.take_zero, List.drop_succ_cons, List.drop_zero, env0, Nat.zero_add, Nat.add_zero, List.append_nil, Nat.reduceAdd, rD_len]
  unfold s106
  refine sw_seq ?_
  refine sw_reg ?_
  unfold s106_0
  refine os_ev (evq_mvk) ?_
  simp only [runOs, thenQ, blockQ, Vs.put, reduceIte, Nat.reduceEqDiff]
  refine sw_seq ?_
  refine sw_seq ?_
  refine sw_reg ?_
  unfold s106_1
  refine os_ev (evq_mvt rfl) ?_
  first | refine os_ev (evq_lenr rfl) ?_ | refine os_ev (evq_lenn rfl) ?_
  refine os_ev (evq_mvt rfl) ?_
  first | refine os_ev (evq_lenr rfl) ?_ | refine os_ev (evq_lenn rfl) ?_
  simp only [Vs.put, reduceIte, Nat.reduceEqDiff]
  refine os_ev (evq_bin rfl rfl rfl) ?_
  simp only [runOs, thenQ, blockQ, Vs.put, reduceIte, Nat.reduceEqDiff]
  refine sw_cond rfl (fun h1 => ?_) (fun h1 => ?_)
  · exact absurd h1 (by simp at h1)
  · try simp only [decide_eq_true_eq, decide_eq_false_iff_not, bne_iff_ne, beq_iff_eq, bne_eq_false_iff_eq, beq_eq_false_iff_ne, ne_eq, Int.not_lt, Int.not_le, gt_iff_lt, ge_iff_le, Bool.not_eq_true, Bool.not_eq_false, Bool.not_eq_true', Bool.not_eq_false', Bool.and_eq_true, Bool.or_eq_true, Bool.and_eq_false_iff, Bool.or_eq_false_iff] at h1
    refine sw_skip ?_
    simp only [thenQ, blockQ]
    refine sw_seq ?_
    refine sw_seq ?_
    refine sw_reg ?_
    unfold s106_3
    refine os_ev (evq_mvk) ?_
    simp only [runOs, thenQ, blockQ, Vs.put, reduceIte, Nat.reduceEqDiff]
    refine sw_block ?_
    refine sw_loop_upd [0, 1, 5] (α := Nat) (fun i => [(5, .a (.c (.lf (.int .i64 (i : Nat)))))]) (fun i => [(0, .im 7 (rD l)), (1, .im 7 (rD l))]) (2) (fun i => i ≤ l.length) (fun i => l.length - i) (0) [(0, 0), (1, 1)] ?_ (by decide) ?_ ?_ ?_
    · exact Nat.zero_le _
    · simp only [sel, Vs.get, upd, Vs.put, reduceIte, Nat.reduceEqDiff]
      repeat' (first | exact er_nil | refine er_un ?_ | refine er_cons rfl ?_ ?_)
      all_goals (try simp only [V.map, A.map, renC, Vs.get, reduceIte, Nat.reduceEqDiff, List.map_cons, List.map_nil])
      all_goals (try rfl)
    · repeat' (first | exact rr_nil | refine rr_cons 0 rfl rfl ?_ ?_ | refine rr_cons 1 rfl rfl ?_ ?_)
      all_goals (try simp only [renRoot, renC, Vs.get, reduceIte, Nat.reduceEqDiff, List.map_cons, List.map_nil])
      all_goals (try rfl)
    · rintro i hinv
      simp only [sel, Vs.get, upd, Vs.put, reduceIte, Nat.reduceEqDiff]
      refine sw_seq ?_
      refine sw_seq ?_
      refine sw_reg ?_
      unfold s106_4
      refine os_ev (evq_mvt rfl) ?_
      refine os_ev (evq_mvt rfl) ?_
      first | refine os_ev (evq_lenr rfl) ?_ | refine os_ev (evq_lenn rfl) ?_
      simp only [Vs.put, reduceIte, Nat.reduceEqDiff]
      refine os_ev (evq_bin rfl rfl rfl) ?_
      simp only [runOs, thenQ, blockQ, Vs.put, reduceIte, Nat.reduceEqDiff]
      refine sw_cond rfl (fun h4 => ?_) (fun h4 => ?_)
      · try simp only [decide_eq_true_eq, decide_eq_false_iff_not, bne_iff_ne, beq_iff_eq, bne_eq_false_iff_eq, beq_eq_false_iff_ne, ne_eq, Int.not_lt, Int.not_le, gt_iff_lt, ge_iff_le, Bool.not_eq_true, Bool.not_eq_false, Bool.not_eq_true', Bool.not_eq_false', Bool.and_eq_true, Bool.or_eq_true, Bool.and_eq_false_iff, Bool.or_eq_false_iff] at h4
        have hib : i < l.length := by omega
        have e1 : IntKind.i64.wrap ((i : Int) + 1) = ((i + 1 : Nat) : Int) := by rw [wrap64 (by omega) (by omega)]; rfl
        refine sw_skip ?_
        simp only [thenQ, blockQ]
        refine sw_seq ?_
        refine sw_block ?_
        refine sw_seq ?_
        refine sw_go rfl rfl ?_
        unfold s106_6
        refine rd_ev (evq_mvt rfl) rfl ?_
        simp only [Vs.put, reduceIte, Nat.reduceEqDiff]
        refine rd_ev (evq_mvt rfl) rfl ?_
        first | refine rd_ev (evq_iad rfl rfl rfl (by omega)) rfl ?_ | refine rd_ev (evq_iad rfl rfl rfl (by simp)) rfl ?_
        first | refine rd_m0 (evq_lgb rfl rfl (Nat.le_of_ble_eq_true rfl) rfl) fa_nil (Nat.not_lt.2 (Nat.le_of_ble_eq_true rfl)) ?_ | refine rd_m0 (evq_lge rfl rfl (rD_get hib) (Nat.le_of_ble_eq_true rfl) rfl) fa_nil (Nat.not_lt.2 (Nat.le_of_ble_eq_true rfl)) ?_ | refine rd_m0 (evq_lge rfl rfl (rfl) (Nat.le_of_ble_eq_true rfl) rfl) fa_nil (Nat.not_lt.2 (Nat.le_of_ble_eq_true rfl)) ?_
        try simp only [List.take_zero, List.take_succ_cons, List.drop_zero, List.drop_succ_cons, List.nil_append, List.cons_append, List.append_nil, List.length_cons, List.length_nil, Nat.zero_add, Nat.add_zero, Nat.reduceAdd, Nat.reduceMul, toC, toCs, bD_len, sD_len, rep, List.getElem?_cons_zero, List.getElem?_cons_succ]
        refine rd_ev (evq_mvt rfl) rfl ?_
        refine rd_ev (evq_mvt rfl) rfl ?_
        simp only [Vs.put, reduceIte, Nat.reduceEqDiff]
        first | refine rd_ev (evq_iad rfl rfl rfl (by omega)) rfl ?_ | refine rd_ev (evq_iad rfl rfl rfl (by simp)) rfl ?_
        first | refine rd_m0 (evq_lgb rfl rfl (Nat.le_of_ble_eq_true rfl) rfl) fa_nil (Nat.not_lt.2 (Nat.le_of_ble_eq_true rfl)) ?_ | refine rd_m0 (evq_lge rfl rfl (rD_get hib) (Nat.le_of_ble_eq_true rfl) rfl) fa_nil (Nat.not_lt.2 (Nat.le_of_ble_eq_true rfl)) ?_ | refine rd_m0 (evq_lge rfl rfl (rfl) (Nat.le_of_ble_eq_true rfl) rfl) fa_nil (Nat.not_lt.2 (Nat.le_of_ble_eq_true rfl)) ?_
        try simp only [List.take_zero, List.take_succ_cons, List.drop_zero, List.drop_succ_cons, List.nil_append, List.cons_append, List.append_nil, List.length_cons, List.length_nil, Nat.zero_add, Nat.add_zero, Nat.reduceAdd, Nat.reduceMul, toC, toCs, bD_len, sD_len, rep, List.getElem?_cons_zero, List.getElem?_cons_succ]
        refine rd_call ?_
        simp only [List.map_cons, List.map_nil, St.opd, Vs.get, Vs.put, reduceIte, Nat.reduceEqDiff, Option.getD_some]
        refine ⟨_, _, runs134 l[i] (hb _ (List.getElem_mem hib)), _, rfl, _, rfl, by simp [handIo, handBx], fa_cons (rfl) (fa_cons (rfl) (fa_cons (⟨rfl, .inl rfl, by simp [handIo, handBx], bD l[i].old.2, by simp [nodeIn, nodeAt, Vs.get, rD_get hib], by simp, by simp⟩) (fa_cons (rfl) (fa_cons (⟨rfl, .inl rfl, by simp [handIo, handBx], bD l[i].new.2, by simp [nodeIn, nodeAt, Vs.get, rD_get hib], by simp, by simp⟩) (fa_cons (rfl) (fa_cons (rfl) (fa_cons (rfl) (fa_cons (rfl) (fa_cons (⟨rfl, .inl rfl, by simp [handIo, handBx], bD l[i].old.2, by simp [nodeIn, nodeAt, Vs.get, rD_get hib], by simp, by simp⟩) (fa_cons (rfl) (fa_cons (⟨rfl, .inl rfl, by simp [handIo, handBx], bD l[i].new.2, by simp [nodeIn, nodeAt, Vs.get, rD_get hib], by simp, by simp⟩) (fa_cons (rfl) (fa_cons (rfl) (fa_nil)))))))))))))), _, rfl, _, rfl, ?_⟩
        simp only [newCs, newRes, newA, resV, List.flatMap_cons, List.flatMap_nil, List.flatten_nil, List.flatten_cons, List.append_nil, List.nil_append, List.cons_append, List.length_cons, List.length_nil, List.drop_succ_cons, List.drop_zero, List.take_succ_cons, List.take_zero, if_true, if_false, Bool.false_eq_true, List.drop_nil, mixCs, isRx, Vs.put, reduceIte, Nat.reduceEqDiff, Nat.zero_add, Nat.reduceAdd, bD_len, sD_len]
        refine ⟨by first | rfl | trivial, fa_nil, ?_⟩
        try simp only [setEnv, Vs.put, killEnv, del, cutR, reduceIte, Nat.reduceEqDiff, Nat.reduceAdd]
        refine rd_ev (evq_un rfl rfl) rfl ?_
        refine rd_nil ?_
        simp only [thenQ, blockQ, Vs.put, reduceIte, Nat.reduceEqDiff]
        refine sw_cond rfl (fun h5 => ?_) (fun h5 => ?_)
        · exact absurd h5 (by simp at h5)
        · try simp only [decide_eq_true_eq, decide_eq_false_iff_not, bne_iff_ne, beq_iff_eq, bne_eq_false_iff_eq, beq_eq_false_iff_ne, ne_eq, Int.not_lt, Int.not_le, gt_iff_lt, ge_iff_le, Bool.not_eq_true, Bool.not_eq_false, Bool.not_eq_true', Bool.not_eq_false', Bool.and_eq_true, Bool.or_eq_true, Bool.and_eq_false_iff, Bool.or_eq_false_iff] at h5
          refine sw_skip ?_
          simp only [thenQ, blockQ]
          refine sw_reg ?_
          unfold s106_5
          refine os_ev (evq_mvt rfl) ?_
          refine os_ev (evq_bin rfl rfl rfl) ?_
          simp only [Vs.put, reduceIte, Nat.reduceEqDiff]
          refine os_ev (evq_mvt rfl) ?_
          simp only [runOs, thenQ, blockQ, Vs.put, reduceIte, Nat.reduceEqDiff]
          try simp only [thenQ, blockQ]
          refine ⟨i + 1, ?_, ?_, rfl, [(0, 0), (1, 1)], by decide, ?_, ?_⟩
          · omega
          · first | omega | (dsimp only; omega)
          · simp only [sel, Vs.get, upd, Vs.put, reduceIte, Nat.reduceEqDiff]
            repeat' (first | exact er_nil | refine er_un ?_ | refine er_cons rfl ?_ ?_)
            all_goals (try simp only [V.map, A.map, renC, Vs.get, reduceIte, Nat.reduceEqDiff, List.map_cons, List.map_nil, e1])
          · repeat' (first | exact rr_nil | refine rr_cons 0 rfl rfl ?_ ?_ | refine rr_cons 1 rfl rfl ?_ ?_)
            all_goals (try simp only [renRoot, renC, Vs.get, reduceIte, Nat.reduceEqDiff, List.map_cons, List.map_nil, e1])
      · try simp only [decide_eq_true_eq, decide_eq_false_iff_not, bne_iff_ne, beq_iff_eq, bne_eq_false_iff_eq, beq_eq_false_iff_ne, ne_eq, Int.not_lt, Int.not_le, gt_iff_lt, ge_iff_le, Bool.not_eq_true, Bool.not_eq_false, Bool.not_eq_true', Bool.not_eq_false', Bool.and_eq_true, Bool.or_eq_true, Bool.and_eq_false_iff, Bool.or_eq_false_iff] at h4
        refine sw_exit ?_
        simp only [thenQ, blockQ, if_true, Nat.reduceEqDiff, if_false, reduceIte]
        refine sw_seq ?_
        refine sw_reg ?_
        unfold s106_8
        refine os_ev (evq_mvk) ?_
        simp only [runOs, thenQ, blockQ, Vs.put, reduceIte, Nat.reduceEqDiff]
        refine sw_ret ?_
        simp only [thenQ, blockQ, resK, ev, St.opd, Vs.get, reduceIte, Nat.reduceEqDiff, Option.getD_some]
        first | exact leaves_vals rfl rfl rfl rfl | exact leaves_a rfl rfl rfl rfl
theorem runs51 (m : MarkM) : Runs Try.prog 51 [.val true [(.rd, .lf (.int .i64 m.1)), (.rd, .lf (.int .i64 m.2.1)), (.rd, .lf (.int .i64 m.2.2))], .val true [(.rd, .lf (.int .i64 m.1)), (.rd, .lf (.int .i64 m.2.1)), (.rd, .lf (.int .i64 m.2.2))]] ⟨[(false, [.lf (.bool true)])], [], []⟩ := by
  obtain ⟨c, hb, hs⟩ := body_of tr51
  refine runs_of_sw Try.func51 hb hs rfl (show 2 ≤ 20 by decide) ?_
  clear hb hs c
  simp only [inAs, inCells, flat, List.flatMap_cons, List.flatMap_nil, Arg.cells, List.cons_append, List.nil_append, inCs, inC, fixN, fixCs, fixC, nBox, inV, inB, rootB, List.length_cons, List.length_nil, List.take_succ_cons, List.take_zero, List.drop_succ_cons, List.drop_zero, env0, Nat.zero_add, Nat.add_zero, List.append_nil, Nat.reduceAdd]
  unfold s51
  refine sw_seq ?_
  refine sw_reg ?_
  unfold s51_0
  refine os_wro (by intros; nofun) ?_
  refine ⟨_, rfl, ?_⟩
  try simp only [setEnv, Vs.put, killEnv, del, cutR, reduceIte, Nat.reduceEqDiff, Nat.reduceAdd]
  refine os_wro (by intros; nofun) ?_
  refine ⟨_, rfl, ?_⟩
  try simp only [setEnv, Vs.put, killEnv, del, cutR, reduceIte, Nat.reduceEqDiff, Nat.reduceAdd]
  refine os_ev (evq_mvk) ?_
  simp only [runOs, thenQ, blockQ, Vs.put, reduceIte, Nat.reduceEqDiff]
  refine sw_seq ?_
  refine sw_seq ?_
  refine sw_reg ?_
  unfold s51_1
  first | refine os_ev (evq_fadb rfl) ?_ | refine os_ev (evq_fade rfl) ?_
  try simp only [List.take_zero, List.take_succ_cons, List.drop_zero, List.drop_succ_cons, List.nil_append, List.cons_append, List.append_nil, List.length_cons, List.length_nil, Nat.zero_add, Nat.add_zero, Nat.reduceAdd, Nat.reduceMul, toC, toCs, bD_len, sD_len, rep, List.getElem?_cons_zero, List.getElem?_cons_succ]
  first | refine os_ev (evq_ldb rfl rfl rfl) ?_ | refine os_ev (evq_ldl rfl rfl (rfl) rfl) ?_ | refine os_ev (evq_lds rfl rfl (rfl) rfl) ?_
  try simp only [List.take_zero, List.take_succ_cons, List.drop_zero, List.drop_succ_cons, List.nil_append, List.cons_append, List.append_nil, List.length_cons, List.length_nil, Nat.zero_add, Nat.add_zero, Nat.reduceAdd, Nat.reduceMul, toC, toCs, bD_len, sD_len, rep, List.getElem?_cons_zero, List.getElem?_cons_succ]
  first | refine os_ev (evq_fadb rfl) ?_ | refine os_ev (evq_fade rfl) ?_
  try simp only [List.take_zero, List.take_succ_cons, List.drop_zero, List.drop_succ_cons, List.nil_append, List.cons_append, List.append_nil, List.length_cons, List.length_nil, Nat.zero_add, Nat.add_zero, Nat.reduceAdd, Nat.reduceMul, toC, toCs, bD_len, sD_len, rep, List.getElem?_cons_zero, List.getElem?_cons_succ]
  first | refine os_ev (evq_ldb rfl rfl rfl) ?_ | refine os_ev (evq_ldl rfl rfl (rfl) rfl) ?_ | refine os_ev (evq_lds rfl rfl (rfl) rfl) ?_
  try simp only [List.take_zero, List.take_succ_cons, List.drop_zero, List.drop_succ_cons, List.nil_append, List.cons_append, List.append_nil, List.length_cons, List.length_nil, Nat.zero_add, Nat.add_zero, Nat.reduceAdd, Nat.reduceMul, toC, toCs, bD_len, sD_len, rep, List.getElem?_cons_zero, List.getElem?_cons_succ]
  simp only [Vs.put, reduceIte, Nat.reduceEqDiff]
  refine os_ev (evq_bin rfl rfl rfl) ?_
  simp only [runOs, thenQ, blockQ, Vs.put, reduceIte, Nat.reduceEqDiff]
  refine sw_cond rfl (fun h1 => ?_) (fun h1 => ?_)
  · exact absurd h1 (by simp at h1)
  · try simp only [decide_eq_true_eq, decide_eq_false_iff_not, bne_iff_ne, beq_iff_eq, bne_eq_false_iff_eq, beq_eq_false_iff_ne, ne_eq, Int.not_lt, Int.not_le, gt_iff_lt, ge_iff_le, Bool.not_eq_true, Bool.not_eq_false, Bool.not_eq_true', Bool.not_eq_false', Bool.and_eq_true, Bool.or_eq_true, Bool.and_eq_false_iff, Bool.or_eq_false_iff] at h1
    refine sw_skip ?_
    simp only [thenQ, blockQ]
    refine sw_seq ?_
    refine sw_seq ?_
    refine sw_reg ?_
    unfold s51_3
    first | refine os_ev (evq_fadb rfl) ?_ | refine os_ev (evq_fade rfl) ?_
    try simp only [List.take_zero, List.take_succ_cons, List.drop_zero, List.drop_succ_cons, List.nil_append, List.cons_append, List.append_nil, List.length_cons, List.length_nil, Nat.zero_add, Nat.add_zero, Nat.reduceAdd, Nat.reduceMul, toC, toCs, bD_len, sD_len, rep, List.getElem?_cons_zero, List.getElem?_cons_succ]
    first | refine os_ev (evq_ldb rfl rfl rfl) ?_ | refine os_ev (evq_ldl rfl rfl (rfl) rfl) ?_ | refine os_ev (evq_lds rfl rfl (rfl) rfl) ?_
    try simp only [List.take_zero, List.take_succ_cons, List.drop_zero, List.drop_succ_cons, List.nil_append, List.cons_append, List.append_nil, List.length_cons, List.length_nil, Nat.zero_add, Nat.add_zero, Nat.reduceAdd, Nat.reduceMul, toC, toCs, bD_len, sD_len, rep, List.getElem?_cons_zero, List.getElem?_cons_succ]
    first | refine os_ev (evq_fadb rfl) ?_ | refine os_ev (evq_fade rfl) ?_
    try simp only [List.take_zero, List.take_succ_cons, List.drop_zero, List.drop_succ_cons, List.nil_append, List.cons_append, List.append_nil, List.length_cons, List.length_nil, Nat.zero_add, Nat.add_zero, Nat.reduceAdd, Nat.reduceMul, toC, toCs, bD_len, sD_len, rep, List.getElem?_cons_zero, List.getElem?_cons_succ]
    first | refine os_ev (evq_ldb rfl rfl rfl) ?_ | refine os_ev (evq_ldl rfl rfl (rfl) rfl) ?_ | refine os_ev (evq_lds rfl rfl (rfl) rfl) ?_
    try simp only [List.take_zero, List.take_succ_cons, List.drop_zero, List.drop_succ_cons, List.nil_append, List.cons_append, List.append_nil, List.length_cons, List.length_nil, Nat.zero_add, Nat.add_zero, Nat.reduceAdd, Nat.reduceMul, toC, toCs, bD_len, sD_len, rep, List.getElem?_cons_zero, List.getElem?_cons_succ]
    simp only [Vs.put, reduceIte, Nat.reduceEqDiff]
    refine os_ev (evq_bin rfl rfl rfl) ?_
    simp only [runOs, thenQ, blockQ, Vs.put, reduceIte, Nat.reduceEqDiff]
    refine sw_cond rfl (fun h3 => ?_) (fun h3 => ?_)
    · exact absurd h3 (by simp at h3)
    · try simp only [decide_eq_true_eq, decide_eq_false_iff_not, bne_iff_ne, beq_iff_eq, bne_eq_false_iff_eq, beq_eq_false_iff_ne, ne_eq, Int.not_lt, Int.not_le, gt_iff_lt, ge_iff_le, Bool.not_eq_true, Bool.not_eq_false, Bool.not_eq_true', Bool.not_eq_false', Bool.and_eq_true, Bool.or_eq_true, Bool.and_eq_false_iff, Bool.or_eq_false_iff] at h3
      refine sw_skip ?_
      simp only [thenQ, blockQ]
      refine sw_seq ?_
      refine sw_seq ?_
      refine sw_reg ?_
      unfold s51_5
      first | refine os_ev (evq_fadb rfl) ?_ | refine os_ev (evq_fade rfl) ?_
      try simp only [List.take_zero, List.take_succ_cons, List.drop_zero, List.drop_succ_cons, List.nil_append, List.cons_append, List.append_nil, List.length_cons, List.length_nil, Nat.zero_add, Nat.add_zero, Nat.reduceAdd, Nat.reduceMul, toC, toCs, bD_len, sD_len, rep, List.getElem?_cons_zero, List.getElem?_cons_succ]
      first | refine os_ev (evq_ldb rfl rfl rfl) ?_ | refine os_ev (evq_ldl rfl rfl (rfl) rfl) ?_ | refine os_ev (evq_lds rfl rfl (rfl) rfl) ?_
      try simp only [List.take_zero, List.take_succ_cons, List.drop_zero, List.drop_succ_cons, List.nil_append, List.cons_append, List.append_nil, List.length_cons, List.length_nil, Nat.zero_add, Nat.add_zero, Nat.reduceAdd, Nat.reduceMul, toC, toCs, bD_len, sD_len, rep, List.getElem?_cons_zero, List.getElem?_cons_succ]
      first | refine os_ev (evq_fadb rfl) ?_ | refine os_ev (evq_fade rfl) ?_
      try simp only [List.take_zero, List.take_succ_cons, List.drop_zero, List.drop_succ_cons, List.nil_append, List.cons_append, List.append_nil, List.length_cons, List.length_nil, Nat.zero_add, Nat.add_zero, Nat.reduceAdd, Nat.reduceMul, toC, toCs, bD_len, sD_len, rep, List.getElem?_cons_zero, List.getElem?_cons_succ]
      first | refine os_ev (evq_ldb rfl rfl rfl) ?_ | refine os_ev (evq_ldl rfl rfl (rfl) rfl) ?_ | refine os_ev (evq_lds rfl rfl (rfl) rfl) ?_
      try simp only [List.take_zero, List.take_succ_cons, List.drop_zero, List.drop_succ_cons, List.nil_append, List.cons_append, List.append_nil, List.length_cons, List.length_nil, Nat.zero_add, Nat.add_zero, Nat.reduceAdd, Nat.reduceMul, toC, toCs, bD_len, sD_len, rep, List.getElem?_cons_zero, List.getElem?_cons_succ]
      simp only [Vs.put, reduceIte, Nat.reduceEqDiff]
      refine os_ev (evq_bin rfl rfl rfl) ?_
      simp only [runOs, thenQ, blockQ, Vs.put, reduceIte, Nat.reduceEqDiff]
      refine sw_cond rfl (fun h5 => ?_) (fun h5 => ?_)
      · exact absurd h5 (by simp at h5)
      · try simp only [decide_eq_true_eq, decide_eq_false_iff_not, bne_iff_ne, beq_iff_eq, bne_eq_false_iff_eq, beq_eq_false_iff_ne, ne_eq, Int.not_lt, Int.not_le, gt_iff_lt, ge_iff_le, Bool.not_eq_true, Bool.not_eq_false, Bool.not_eq_true', Bool.not_eq_false', Bool.and_eq_true, Bool.or_eq_true, Bool.and_eq_false_iff, Bool.or_eq_false_iff] at h5
        refine sw_skip ?_
        simp only [thenQ, blockQ]
        refine sw_seq ?_
        refine sw_reg ?_
        unfold s51_7
        refine os_ev (evq_mvk) ?_
        simp only [runOs, thenQ, blockQ, Vs.put, reduceIte, Nat.reduceEqDiff]
        refine sw_ret ?_
        simp only [thenQ, blockQ, resK, ev, St.opd, Vs.get, reduceIte, Nat.reduceEqDiff, Option.getD_some]
        first | exact leaves_vals rfl rfl rfl rfl | exact leaves_a rfl rfl rfl rfl
theorem runs107 (l : List MarkM) (h : l.length < 2 ^ 62) : Runs Try.prog 107 [.val false [(.rd, .sl 3 (mD l))], .val false [(.rd, .sl 3 (mD l))]] ⟨[(false, [.lf (.bool true)])], [], []⟩ := by
  obtain ⟨c, hb, hs⟩ := body_of tr107
  refine runs_of_sw Try.func107 hb hs rfl (show 2 ≤ 27 by decide) ?_
  clear hb hs c
  simp only [inAs, inCells, flat, List.flatMap_cons, List.flatMap_nil, Arg.cells, List.cons_append, List.nil_append, inCs, inC, fixN, fixCs, fixC, nBox, inV, inB, rootB, List.length_cons, List.length_nil, List.take_succ_cons, List.take_zero, List.drop_succ_cons, List.drop_zero, env0, Nat.zero_add, Nat.add_zero, List.append_nil, Nat.reduceAdd, mD_len]
  unfold s107
  refine sw_seq ?_
  refine sw_reg ?_
  unfold s107_0
  refine os_ev (evq_mvk) ?_
  simp only [runOs, thenQ, blockQ, Vs.put, reduceIte, Nat.reduceEqDiff]
  refine sw_seq ?_
  refine sw_seq ?_
  refine sw_reg ?_
  unfold s107_1
  refine os_ev (evq_mvt rfl) ?_
  first | refine os_ev (evq_lenr rfl) ?_ | refine os_ev (evq_lenn rfl) ?_
  refine os_ev (evq_mvt rfl) ?_
  first | refine os_ev (evq_lenr rfl) ?_ | refine os_ev (evq_lenn rfl) ?_
  simp only [Vs.put, reduceIte, Nat.reduceEqDiff]
  refine os_ev (evq_bin rfl rfl rfl) ?_
  simp only [runOs, thenQ, blockQ, Vs.put, reduceIte, Nat.reduceEqDiff]
  refine sw_cond rfl (fun h1 => ?_) (fun h1 => ?_)
  · exact absurd h1 (by simp at h1)
  · try simp only [decide_eq_true_eq, decide_eq_false_iff_not, bne_iff_ne, beq_iff_eq, bne_eq_false_iff_eq, beq_eq_false_iff_ne, ne_eq, Int.not_lt, Int.not_le, gt_iff_lt, ge_iff_le, Bool.not_eq_true, Bool.not_eq_false, Bool.not_eq_true', Bool.not_eq_false', Bool.and_eq_true, Bool.or_eq_true, Bool.and_eq_false_iff, Bool.or_eq_false_iff] at h1
    refine sw_skip ?_
    simp only [thenQ, blockQ]
    refine sw_seq ?_
    refine sw_seq ?_
    refine sw_reg ?_
    unfold s107_3
    refine os_ev (evq_mvk) ?_
    simp only [runOs, thenQ, blockQ, Vs.put, reduceIte, Nat.reduceEqDiff]
    refine sw_block ?_
    refine sw_loop_upd [0, 1, 5] (α := Nat) (fun i => [(5, .a (.c (.lf (.int .i64 (i : Nat)))))]) (fun i => [(0, .im 3 (mD l)), (1, .im 3 (mD l))]) (2) (fun i => i ≤ l.length) (fun i => l.length - i) (0) [(0, 0), (1, 1)] ?_ (by decide) ?_ ?_ ?_
    · exact Nat.zero_le _
    · simp only [sel, Vs.get, upd, Vs.put, reduceIte, Nat.reduceEqDiff]
      repeat' (first | exact er_nil | refine er_un ?_ | refine er_cons rfl ?_ ?_)
      all_goals (try simp only [V.map, A.map, renC, Vs.get, reduceIte, Nat.reduceEqDiff, List.map_cons, List.map_nil])
      all_goals (try rfl)
    · repeat' (first | exact rr_nil | refine rr_cons 0 rfl rfl ?_ ?_ | refine rr_cons 1 rfl rfl ?_ ?_)
      all_goals (try simp only [renRoot, renC, Vs.get, reduceIte, Nat.reduceEqDiff, List.map_cons, List.map_nil])
      all_goals (try rfl)
    · rintro i hinv
      simp only [sel, Vs.get, upd, Vs.put, reduceIte, Nat.reduceEqDiff]
      refine sw_seq ?_
      refine sw_seq ?_
      refine sw_reg ?_
      unfold s107_4
      refine os_ev (evq_mvt rfl) ?_
      refine os_ev (evq_mvt rfl) ?_
      first | refine os_ev (evq_lenr rfl) ?_ | refine os_ev (evq_lenn rfl) ?_
      simp only [Vs.put, reduceIte, Nat.reduceEqDiff]
      refine os_ev (evq_bin rfl rfl rfl) ?_
      simp only [runOs, thenQ, blockQ, Vs.put, reduceIte, Nat.reduceEqDiff]
      refine sw_cond rfl (fun h4 => ?_) (fun h4 => ?_)
      · try simp only [decide_eq_true_eq, decide_eq_false_iff_not, bne_iff_ne, beq_iff_eq, bne_eq_false_iff_eq, beq_eq_false_iff_ne, ne_eq, Int.not_lt, Int.not_le, gt_iff_lt, ge_iff_le, Bool.not_eq_true, Bool.not_eq_false, Bool.not_eq_true', Bool.not_eq_false', Bool.and_eq_true, Bool.or_eq_true, Bool.and_eq_false_iff, Bool.or_eq_false_iff] at h4
        have hib : i < l.length := by omega
        have e1 : IntKind.i64.wrap ((i : Int) + 1) = ((i + 1 : Nat) : Int) := by rw [wrap64 (by omega) (by omega)]; rfl
        refine sw_skip ?_
        simp only [thenQ, blockQ]
        refine sw_seq ?_
        refine sw_block ?_
        refine sw_seq ?_
        refine sw_go rfl rfl ?_
        unfold s107_6
        refine rd_ev (evq_mvt rfl) rfl ?_
        simp only [Vs.put, reduceIte, Nat.reduceEqDiff]
        refine rd_ev (evq_mvt rfl) rfl ?_
        first | refine rd_ev (evq_iad rfl rfl rfl (by omega)) rfl ?_ | refine rd_ev (evq_iad rfl rfl rfl (by simp)) rfl ?_
        first | refine rd_m0 (evq_lgb rfl rfl (Nat.le_of_ble_eq_true rfl) rfl) fa_nil (Nat.not_lt.2 (Nat.le_of_ble_eq_true rfl)) ?_ | refine rd_m0 (evq_lge rfl rfl (mD_get hib) (Nat.le_of_ble_eq_true rfl) rfl) fa_nil (Nat.not_lt.2 (Nat.le_of_ble_eq_true rfl)) ?_ | refine rd_m0 (evq_lge rfl rfl (rfl) (Nat.le_of_ble_eq_true rfl) rfl) fa_nil (Nat.not_lt.2 (Nat.le_of_ble_eq_true rfl)) ?_
        try simp only [List.take_zero, List.take_succ_cons, List.drop_zero, List.drop_succ_cons, List.nil_append, List.cons_append, List.append_nil, List.length_cons, List.length_nil, Nat.zero_add, Nat.add_zero, Nat.reduceAdd, Nat.reduceMul, toC, toCs, bD_len, sD_len, rep, List.getElem?_cons_zero, List.getElem?_cons_succ]
        refine rd_ev (evq_mvt rfl) rfl ?_
        refine rd_ev (evq_mvt rfl) rfl ?_
        simp only [Vs.put, reduceIte, Nat.reduceEqDiff]
        first | refine rd_ev (evq_iad rfl rfl rfl (by omega)) rfl ?_ | refine rd_ev (evq_iad rfl rfl rfl (by simp)) rfl ?_
        first | refine rd_m0 (evq_lgb rfl rfl (Nat.le_of_ble_eq_true rfl) rfl) fa_nil (Nat.not_lt.2 (Nat.le_of_ble_eq_true rfl)) ?_ | refine rd_m0 (evq_lge rfl rfl (mD_get hib) (Nat.le_of_ble_eq_true rfl) rfl) fa_nil (Nat.not_lt.2 (Nat.le_of_ble_eq_true rfl)) ?_ | refine rd_m0 (evq_lge rfl rfl (rfl) (Nat.le_of_ble_eq_true rfl) rfl) fa_nil (Nat.not_lt.2 (Nat.le_of_ble_eq_true rfl)) ?_
        try simp only [List.take_zero, List.take_succ_cons, List.drop_zero, List.drop_succ_cons, List.nil_append, List.cons_append, List.append_nil, List.length_cons, List.length_nil, Nat.zero_add, Nat.add_zero, Nat.reduceAdd, Nat.reduceMul, toC, toCs, bD_len, sD_len, rep, List.getElem?_cons_zero, List.getElem?_cons_succ]
        refine rd_call ?_
        simp only [List.map_cons, List.map_nil, St.opd, Vs.get, Vs.put, reduceIte, Nat.reduceEqDiff, Option.getD_some]
        refine ⟨_, _, runs51 l[i], _, rfl, _, rfl, by simp [handIo, handBx], fa_cons (rfl) (fa_cons (rfl) (fa_cons (rfl) (fa_cons (rfl) (fa_cons (rfl) (fa_cons (rfl) (fa_nil)))))), _, rfl, _, rfl, ?_⟩
        simp only [newCs, newRes, newA, resV, List.flatMap_cons, List.flatMap_nil, List.flatten_nil, List.flatten_cons, List.append_nil, List.nil_append, List.cons_append, List.length_cons, List.length_nil, List.drop_succ_cons, List.drop_zero, List.take_succ_cons, List.take_zero, if_true, if_false, Bool.false_eq_true, List.drop_nil, mixCs, isRx, Vs.put, reduceIte, Nat.reduceEqDiff, Nat.zero_add, Nat.reduceAdd, bD_len, sD_len]
        refine ⟨by first | rfl | trivial, fa_nil, ?_⟩
        try simp only [setEnv, Vs.put, killEnv, del, cutR, reduceIte, Nat.reduceEqDiff, Nat.reduceAdd]
        refine rd_ev (evq_un rfl rfl) rfl ?_
        refine rd_nil ?_
        simp only [thenQ, blockQ, Vs.put, reduceIte, Nat.reduceEqDiff]
        refine sw_cond rfl (fun h5 => ?_) (fun h5 => ?_)
        · exact absurd h5 (by simp at h5)
        · try simp only [decide_eq_true_eq, decide_eq_false_iff_not, bne_iff_ne, beq_iff_eq, bne_eq_false_iff_eq, beq_eq_false_iff_ne, ne_eq, Int.not_lt, Int.not_le, gt_iff_lt, ge_iff_le, Bool.not_eq_true, Bool.not_eq_false, Bool.not_eq_true', Bool.not_eq_false', Bool.and_eq_true, Bool.or_eq_true, Bool.and_eq_false_iff, Bool.or_eq_false_iff] at h5
          refine sw_skip ?_
          simp only [thenQ, blockQ]
          refine sw_reg ?_
          unfold s107_5
          refine os_ev (evq_mvt rfl) ?_
          refine os_ev (evq_bin rfl rfl rfl) ?_
          simp only [Vs.put, reduceIte, Nat.reduceEqDiff]
          refine os_ev (evq_mvt rfl) ?_
          simp only [runOs, thenQ, blockQ, Vs.put, reduceIte, Nat.reduceEqDiff]
          try simp only [thenQ, blockQ]
          refine ⟨i + 1, ?_, ?_, rfl, [(0, 0), (1, 1)], by decide, ?_, ?_⟩
          · omega
          · first | omega | (dsimp only; omega)
          · simp only [sel, Vs.get, upd, Vs.put, reduceIte, Nat.reduceEqDiff]
            repeat' (first | exact er_nil | refine er_un ?_ | refine er_cons rfl ?_ ?_)
            all_goals (try simp only [V.map, A.map, renC, Vs.get, reduceIte, Nat.reduceEqDiff, List.map_cons, List.map_nil, e1])
          · repeat' (first | exact rr_nil | refine rr_cons 0 rfl rfl ?_ ?_ | refine rr_cons 1 rfl rfl ?_ ?_)
            all_goals (try simp only [renRoot, renC, Vs.get, reduceIte, Nat.reduceEqDiff, List.map_cons, List.map_nil, e1])
      · try simp only [decide_eq_true_eq, decide_eq_false_iff_not, bne_iff_ne, beq_iff_eq, bne_eq_false_iff_eq, beq_eq_false_iff_ne, ne_eq, Int.not_lt, Int.not_le, gt_iff_lt, ge_iff_le, Bool.not_eq_true, Bool.not_eq_false, Bool.not_eq_true', Bool.not_eq_false', Bool.and_eq_true, Bool.or_eq_true, Bool.and_eq_false_iff, Bool.or_eq_false_iff] at h4
        refine sw_exit ?_
        simp only [thenQ, blockQ, if_true, Nat.reduceEqDiff, if_false, reduceIte]
        refine sw_seq ?_
        refine sw_reg ?_
        unfold s107_8
        refine os_ev (evq_mvk) ?_
        simp only [runOs, thenQ, blockQ, Vs.put, reduceIte, Nat.reduceEqDiff]
        refine sw_ret ?_
        simp only [thenQ, blockQ, resK, ev, St.opd, Vs.get, reduceIte, Nat.reduceEqDiff, Option.getD_some]
        first | exact leaves_vals rfl rfl rfl rfl | exact leaves_a rfl rfl rfl rfl
theorem runs52 (rows : List RowM) (phase : Int) (marks : List MarkM) (hb : ∀ r ∈ rows, r.old.2.length < 2 ^ 62 ∧ r.new.2.length < 2 ^ 62) (hl : rows.length < 2 ^ 62) (hm : marks.length < 2 ^ 62) : Runs Try.prog 52 [.val true [(.rd, .sl 7 (rD rows)), (.rd, .lf (.int .i64 phase)), (.rd, .sl 3 (mD marks))], .val true [(.rd, .sl 7 (rD rows)), (.rd, .lf (.int .i64 phase)), (.rd, .sl 3 (mD marks))]] ⟨[(false, [.lf (.bool true)])], [], []⟩ := by
  obtain ⟨c, hb, hs⟩ := body_of tr52
  refine runs_of_sw Try.func52 hb hs rfl (show 2 ≤ 22 by decide) ?_
  clear hb hs c
  simp only [inAs, inCells, flat, List.flatMap_cons, List.flatMap_nil, Arg.cells, List.cons_append, List.nil_append, inCs, inC, fixN, fixCs, fixC, nBox, inV, inB, rootB, List.length_cons, List.length_nil, List.take_succ_cons, List.take_zero, List.drop_succ_cons, List.drop_zero, env0, Nat.zero_add, Nat.add_zero, List.append_nil, Nat.reduceAdd, rD_len, mD_len]
  unfold s52
  refine sw_seq ?_
  refine sw_reg ?_
  unfold s52_0
  refine os_wro (by intros; nofun) ?_
  refine ⟨_, rfl, ?_⟩
  try simp only [setEnv, Vs.put, killEnv, del, cutR, reduceIte, Nat.reduceEqDiff, Nat.reduceAdd]
  refine os_wro (by intros; nofun) ?_
  refine ⟨_, rfl, ?_⟩
  try simp only [setEnv, Vs.put, killEnv, del, cutR, reduceIte, Nat.reduceEqDiff, Nat.reduceAdd]
  refine os_ev (evq_mvk) ?_
  simp only [runOs, thenQ, blockQ, Vs.put, reduceIte, Nat.reduceEqDiff]
  refine sw_seq ?_
  refine sw_seq ?_
  refine sw_reg ?_
  unfold s52_1
  first | refine os_ev (evq_fadb rfl) ?_ | refine os_ev (evq_fade rfl) ?_
  try simp only [List.take_zero, List.take_succ_cons, List.drop_zero, List.drop_succ_cons, List.nil_append, List.cons_append, List.append_nil, List.length_cons, List.length_nil, Nat.zero_add, Nat.add_zero, Nat.reduceAdd, Nat.reduceMul, toC, toCs, bD_len, sD_len, rep, List.getElem?_cons_zero, List.getElem?_cons_succ]
  first | refine os_ev (evq_ldb rfl rfl rfl) ?_ | refine os_ev (evq_ldl rfl rfl (rfl) rfl) ?_ | refine os_ev (evq_lds rfl rfl (rfl) rfl) ?_
  try simp only [List.take_zero, List.take_succ_cons, List.drop_zero, List.drop_succ_cons, List.nil_append, List.cons_append, List.append_nil, List.length_cons, List.length_nil, Nat.zero_add, Nat.add_zero, Nat.reduceAdd, Nat.reduceMul, toC, toCs, bD_len, sD_len, rep, List.getElem?_cons_zero, List.getElem?_cons_succ]
  first | refine os_ev (evq_fadb rfl) ?_ | refine os_ev (evq_fade rfl) ?_
  try simp only [List.take_zero, List.take_succ_cons, List.drop_zero, List.drop_succ_cons, List.nil_append, List.cons_append, List.append_nil, List.length_cons, List.length_nil, Nat.zero_add, Nat.add_zero, Nat.reduceAdd, Nat.reduceMul, toC, toCs, bD_len, sD_len, rep, List.getElem?_cons_zero, List.getElem?_cons_succ]
  first | refine os_ev (evq_ldb rfl rfl rfl) ?_ | refine os_ev (evq_ldl rfl rfl (rfl) rfl) ?_ | refine os_ev (evq_lds rfl rfl (rfl) rfl) ?_
  try simp only [List.take_zero, List.take_succ_cons, List.drop_zero, List.drop_succ_cons, List.nil_append, List.cons_append, List.append_nil, List.length_cons, List.length_nil, Nat.zero_add, Nat.add_zero, Nat.reduceAdd, Nat.reduceMul, toC, toCs, bD_len, sD_len, rep, List.getElem?_cons_zero, List.getElem?_cons_succ]
  simp only [Vs.put, reduceIte, Nat.reduceEqDiff]
  refine os_callo ?_
  simp only [List.map_cons, List.map_nil, St.opd, Vs.get, Vs.put, reduceIte, Nat.reduceEqDiff, Option.getD_some]
  refine ⟨_, _, runs106 rows hb hl, _, rfl, _, rfl, by simp [handIo, handBx], fa_cons (⟨rfl, .inl rfl, by simp [handIo, handBx], _, rfl, by simp, by first | rfl | (simp; done) | exact (List.take_of_length_le (by simp)).symm⟩) (fa_cons (⟨rfl, .inl rfl, by simp [handIo, handBx], _, rfl, by simp, by first | rfl | (simp; done) | exact (List.take_of_length_le (by simp)).symm⟩) (fa_nil)), _, rfl, _, rfl, ?_⟩
  simp only [newCs, newRes, newA, resV, List.flatMap_cons, List.flatMap_nil, List.flatten_nil, List.flatten_cons, List.append_nil, List.nil_append, List.cons_append, List.length_cons, List.length_nil, List.drop_succ_cons, List.drop_zero, List.take_succ_cons, List.take_zero, if_true, if_false, Bool.false_eq_true, List.drop_nil, mixCs, isRx, Vs.put, reduceIte, Nat.reduceEqDiff, Nat.zero_add, Nat.reduceAdd, bD_len, sD_len]
  try simp only [setEnv, Vs.put, killEnv, del, cutR, reduceIte, Nat.reduceEqDiff, Nat.reduceAdd]
  refine os_ev (evq_un rfl rfl) ?_
  simp only [runOs, thenQ, blockQ, Vs.put, reduceIte, Nat.reduceEqDiff]
  refine sw_cond rfl (fun h1 => ?_) (fun h1 => ?_)
  · exact absurd h1 (by simp at h1)
  · try simp only [decide_eq_true_eq, decide_eq_false_iff_not, bne_iff_ne, beq_iff_eq, bne_eq_false_iff_eq, beq_eq_false_iff_ne, ne_eq, Int.not_lt, Int.not_le, gt_iff_lt, ge_iff_le, Bool.not_eq_true, Bool.not_eq_false, Bool.not_eq_true', Bool.not_eq_false', Bool.and_eq_true, Bool.or_eq_true, Bool.and_eq_false_iff, Bool.or_eq_false_iff] at h1
    refine sw_skip ?_
    simp only [thenQ, blockQ]
    refine sw_seq ?_
    refine sw_seq ?_
    refine sw_reg ?_
    unfold s52_3
    first | refine os_ev (evq_fadb rfl) ?_ | refine os_ev (evq_fade rfl) ?_
    try simp only [List.take_zero, List.take_succ_cons, List.drop_zero, List.drop_succ_cons, List.nil_append, List.cons_append, List.append_nil, List.length_cons, List.length_nil, Nat.zero_add, Nat.add_zero, Nat.reduceAdd, Nat.reduceMul, toC, toCs, bD_len, sD_len, rep, List.getElem?_cons_zero, List.getElem?_cons_succ]
    first | refine os_ev (evq_ldb rfl rfl rfl) ?_ | refine os_ev (evq_ldl rfl rfl (rfl) rfl) ?_ | refine os_ev (evq_lds rfl rfl (rfl) rfl) ?_
    try simp only [List.take_zero, List.take_succ_cons, List.drop_zero, List.drop_succ_cons, List.nil_append, List.cons_append, List.append_nil, List.length_cons, List.length_nil, Nat.zero_add, Nat.add_zero, Nat.reduceAdd, Nat.reduceMul, toC, toCs, bD_len, sD_len, rep, List.getElem?_cons_zero, List.getElem?_cons_succ]
    first | refine os_ev (evq_fadb rfl) ?_ | refine os_ev (evq_fade rfl) ?_
    try simp only [List.take_zero, List.take_succ_cons, List.drop_zero, List.drop_succ_cons, List.nil_append, List.cons_append, List.append_nil, List.length_cons, List.length_nil, Nat.zero_add, Nat.add_zero, Nat.reduceAdd, Nat.reduceMul, toC, toCs, bD_len, sD_len, rep, List.getElem?_cons_zero, List.getElem?_cons_succ]
    first | refine os_ev (evq_ldb rfl rfl rfl) ?_ | refine os_ev (evq_ldl rfl rfl (rfl) rfl) ?_ | refine os_ev (evq_lds rfl rfl (rfl) rfl) ?_
    try simp only [List.take_zero, List.take_succ_cons, List.drop_zero, List.drop_succ_cons, List.nil_append, List.cons_append, List.append_nil, List.length_cons, List.length_nil, Nat.zero_add, Nat.add_zero, Nat.reduceAdd, Nat.reduceMul, toC, toCs, bD_len, sD_len, rep, List.getElem?_cons_zero, List.getElem?_cons_succ]
    simp only [Vs.put, reduceIte, Nat.reduceEqDiff]
    refine os_ev (evq_bin rfl rfl rfl) ?_
    simp only [runOs, thenQ, blockQ, Vs.put, reduceIte, Nat.reduceEqDiff]
    refine sw_cond rfl (fun h3 => ?_) (fun h3 => ?_)
    · exact absurd h3 (by simp at h3)
    · try simp only [decide_eq_true_eq, decide_eq_false_iff_not, bne_iff_ne, beq_iff_eq, bne_eq_false_iff_eq, beq_eq_false_iff_ne, ne_eq, Int.not_lt, Int.not_le, gt_iff_lt, ge_iff_le, Bool.not_eq_true, Bool.not_eq_false, Bool.not_eq_true', Bool.not_eq_false', Bool.and_eq_true, Bool.or_eq_true, Bool.and_eq_false_iff, Bool.or_eq_false_iff] at h3
      refine sw_skip ?_
      simp only [thenQ, blockQ]
      refine sw_seq ?_
      refine sw_seq ?_
      refine sw_reg ?_
      unfold s52_5
      first | refine os_ev (evq_fadb rfl) ?_ | refine os_ev (evq_fade rfl) ?_
      try simp only [List.take_zero, List.take_succ_cons, List.drop_zero, List.drop_succ_cons, List.nil_append, List.cons_append, List.append_nil, List.length_cons, List.length_nil, Nat.zero_add, Nat.add_zero, Nat.reduceAdd, Nat.reduceMul, toC, toCs, bD_len, sD_len, rep, List.getElem?_cons_zero, List.getElem?_cons_succ]
      first | refine os_ev (evq_ldb rfl rfl rfl) ?_ | refine os_ev (evq_ldl rfl rfl (rfl) rfl) ?_ | refine os_ev (evq_lds rfl rfl (rfl) rfl) ?_
      try simp only [List.take_zero, List.take_succ_cons, List.drop_zero, List.drop_succ_cons, List.nil_append, List.cons_append, List.append_nil, List.length_cons, List.length_nil, Nat.zero_add, Nat.add_zero, Nat.reduceAdd, Nat.reduceMul, toC, toCs, bD_len, sD_len, rep, List.getElem?_cons_zero, List.getElem?_cons_succ]
      first | refine os_ev (evq_fadb rfl) ?_ | refine os_ev (evq_fade rfl) ?_
      try simp only [List.take_zero, List.take_succ_cons, List.drop_zero, List.drop_succ_cons, List.nil_append, List.cons_append, List.append_nil, List.length_cons, List.length_nil, Nat.zero_add, Nat.add_zero, Nat.reduceAdd, Nat.reduceMul, toC, toCs, bD_len, sD_len, rep, List.getElem?_cons_zero, List.getElem?_cons_succ]
      first | refine os_ev (evq_ldb rfl rfl rfl) ?_ | refine os_ev (evq_ldl rfl rfl (rfl) rfl) ?_ | refine os_ev (evq_lds rfl rfl (rfl) rfl) ?_
      try simp only [List.take_zero, List.take_succ_cons, List.drop_zero, List.drop_succ_cons, List.nil_append, List.cons_append, List.append_nil, List.length_cons, List.length_nil, Nat.zero_add, Nat.add_zero, Nat.reduceAdd, Nat.reduceMul, toC, toCs, bD_len, sD_len, rep, List.getElem?_cons_zero, List.getElem?_cons_succ]
      simp only [Vs.put, reduceIte, Nat.reduceEqDiff]
      refine os_callo ?_
      simp only [List.map_cons, List.map_nil, St.opd, Vs.get, Vs.put, reduceIte, Nat.reduceEqDiff, Option.getD_some]
      refine ⟨_, _, runs107 marks hm, _, rfl, _, rfl, by simp [handIo, handBx], fa_cons (⟨rfl, .inl rfl, by simp [handIo, handBx], _, rfl, by simp, by first | rfl | (simp; done) | exact (List.take_of_length_le (by simp)).symm⟩) (fa_cons (⟨rfl, .inl rfl, by simp [handIo, handBx], _, rfl, by simp, by first | rfl | (simp; done) | exact (List.take_of_length_le (by simp)).symm⟩) (fa_nil)), _, rfl, _, rfl, ?_⟩
      simp only [newCs, newRes, newA, resV, List.flatMap_cons, List.flatMap_nil, List.flatten_nil, List.flatten_cons, List.append_nil, List.nil_append, List.cons_append, List.length_cons, List.length_nil, List.drop_succ_cons, List.drop_zero, List.take_succ_cons, List.take_zero, if_true, if_false, Bool.false_eq_true, List.drop_nil, mixCs, isRx, Vs.put, reduceIte, Nat.reduceEqDiff, Nat.zero_add, Nat.reduceAdd, bD_len, sD_len]
      try simp only [setEnv, Vs.put, killEnv, del, cutR, reduceIte, Nat.reduceEqDiff, Nat.reduceAdd]
      refine os_ev (evq_un rfl rfl) ?_
      simp only [runOs, thenQ, blockQ, Vs.put, reduceIte, Nat.reduceEqDiff]
      refine sw_cond rfl (fun h5 => ?_) (fun h5 => ?_)
      · exact absurd h5 (by simp at h5)
      · try simp only [decide_eq_true_eq, decide_eq_false_iff_not, bne_iff_ne, beq_iff_eq, bne_eq_false_iff_eq, beq_eq_false_iff_ne, ne_eq, Int.not_lt, Int.not_le, gt_iff_lt, ge_iff_le, Bool.not_eq_true, Bool.not_eq_false, Bool.not_eq_true', Bool.not_eq_false', Bool.and_eq_true, Bool.or_eq_true, Bool.and_eq_false_iff, Bool.or_eq_false_iff] at h5
        refine sw_skip ?_
        simp only [thenQ, blockQ]
        refine sw_seq ?_
        refine sw_reg ?_
        unfold s52_7
        refine os_ev (evq_mvk) ?_
        simp only [runOs, thenQ, blockQ, Vs.put, reduceIte, Nat.reduceEqDiff]
        refine sw_ret ?_
        simp only [thenQ, blockQ, resK, ev, St.opd, Vs.get, reduceIte, Nat.reduceEqDiff, Option.getD_some]
        first | exact leaves_vals rfl rfl rfl rfl | exact leaves_a rfl rfl rfl rfl
theorem runs48 (rows : List RowM) (phase : Int) (marks : List MarkM) (who : Int) (hm : marks.length < 2 ^ 62) : Runs Try.prog 48 [.val true [(.rd, .sl 7 (rD rows)), (.rd, .lf (.int .i64 phase)), (.rd, .sl 3 (mD marks))], .val false [(.rd, .lf (.int .i64 who))]] ⟨[(true, mE (mkAt marks who).1), (false, [.lf (.bool (mkAt marks who).2)])], [], []⟩ := by
  obtain ⟨c, hb, hs⟩ := body_of tr48
  refine runs_of_sw (is := [.load (some 3) (.t 4), .mv (.t 5)]) Try.func48 hb hs (by kernel_rfl) (show 2 ≤ 28 by decide) ?_
  clear hb hs c
  simp only [inAs, inCells, flat, List.flatMap_cons, List.flatMap_nil, Arg.cells, List.cons_append, List.nil_append, inCs, inC, fixN, fixCs, fixC, nBox, inV, inB, rootB, List.length_cons, List.length_nil, List.take_succ_cons, List.take_zero, List.drop_succ_cons, List.drop_zero, env0, Nat.zero_add, Nat.add_zero, List.append_nil, Nat.reduceAdd, rD_len, mD_len]
  unfold s48
  refine sw_seq ?_
  refine sw_reg ?_
  unfold s48_0
  refine os_wro (by intros; nofun) ?_
  refine ⟨_, rfl, ?_⟩
  try simp only [setEnv, Vs.put, killEnv, del, cutR, reduceIte, Nat.reduceEqDiff, Nat.reduceAdd]
  refine os_wro (by intros; nofun) ?_
  simp only [wr]
  try simp only [setEnv, Vs.put, killEnv, del, cutR, reduceIte, Nat.reduceEqDiff, Nat.reduceAdd]
  refine os_ev (evq_mvk) ?_
  simp only [runOs, thenQ, blockQ, Vs.put, reduceIte, Nat.reduceEqDiff]
  refine sw_seq ?_
  refine sw_seq ?_
  refine sw_reg ?_
  unfold s48_1
  refine os_ev (evq_mvk) ?_
  simp only [runOs, thenQ, blockQ, Vs.put, reduceIte, Nat.reduceEqDiff]
  refine sw_block ?_
  refine sw_loop_upd [1, 2, 4, 6, 61] (α := Nat) (fun i => [(6, .a (.c (.lf (.int .i64 (i : Nat)))))]) (fun i => [(3, .bx [.lf (.int .i64 0), .lf (.int .i64 0), .lf (.int .i64 0)]), (2, .bx [.rf 0 [] 7 0 rows.length, .lf (.int .i64 phase), .rf 1 [] 3 0 marks.length]), (0, .im 7 (rD rows)), (1, .im 3 (mD marks))]) (4) (fun i => i ≤ marks.length ∧ mkAt marks who = mkAt (marks.drop i) who) (fun i => marks.length - i) (0) [(3, 3), (2, 2), (0, 0), (1, 1)] ?_ (by decide) ?_ ?_ ?_
  · exact ⟨Nat.zero_le _, rfl⟩
  · simp only [sel, Vs.get, upd, Vs.put, reduceIte, Nat.reduceEqDiff]
    repeat' (first | exact er_nil | refine er_un ?_ | refine er_cons rfl ?_ ?_)
    all_goals (try simp only [V.map, A.map, renC, Vs.get, reduceIte, Nat.reduceEqDiff, List.map_cons, List.map_nil])
    all_goals (try rfl)
  · repeat' (first | exact rr_nil | refine rr_cons 3 rfl rfl ?_ ?_ | refine rr_cons 2 rfl rfl ?_ ?_ | refine rr_cons 0 rfl rfl ?_ ?_ | refine rr_cons 1 rfl rfl ?_ ?_)
    all_goals (try simp only [renRoot, renC, Vs.get, reduceIte, Nat.reduceEqDiff, List.map_cons, List.map_nil])
    all_goals (try rfl)
  · rintro i hinv
    simp only [sel, Vs.get, upd, Vs.put, reduceIte, Nat.reduceEqDiff]
    obtain ⟨hi, hat⟩ := hinv
    refine sw_seq ?_
    refine sw_seq ?_
    refine sw_reg ?_
    unfold s48_2
    refine os_ev (evq_mvt rfl) ?_
    first | refine os_ev (evq_fadb rfl) ?_ | refine os_ev (evq_fade rfl) ?_
    try simp only [List.take_zero, List.take_succ_cons, List.drop_zero, List.drop_succ_cons, List.nil_append, List.cons_append, List.append_nil, List.length_cons, List.length_nil, Nat.zero_add, Nat.add_zero, Nat.reduceAdd, Nat.reduceMul, toC, toCs, bD_len, sD_len, rep, List.getElem?_cons_zero, List.getElem?_cons_succ]
    first | refine os_ev (evq_ldb rfl rfl rfl) ?_ | refine os_ev (evq_ldl rfl rfl (rfl) rfl) ?_ | refine os_ev (evq_lds rfl rfl (rfl) rfl) ?_
    try simp only [List.take_zero, List.take_succ_cons, List.drop_zero, List.drop_succ_cons, List.nil_append, List.cons_append, List.append_nil, List.length_cons, List.length_nil, Nat.zero_add, Nat.add_zero, Nat.reduceAdd, Nat.reduceMul, toC, toCs, bD_len, sD_len, rep, List.getElem?_cons_zero, List.getElem?_cons_succ]
    simp only [Vs.put, reduceIte, Nat.reduceEqDiff]
    first | refine os_ev (evq_lenr rfl) ?_ | refine os_ev (evq_lenn rfl) ?_
    refine os_ev (evq_bin rfl rfl rfl) ?_
    simp only [runOs, thenQ, blockQ, Vs.put, reduceIte, Nat.reduceEqDiff]
    refine sw_cond rfl (fun h2 => ?_) (fun h2 => ?_)
    · try simp only [decide_eq_true_eq, decide_eq_false_iff_not, bne_iff_ne, beq_iff_eq, bne_eq_false_iff_eq, beq_eq_false_iff_ne, ne_eq, Int.not_lt, Int.not_le, gt_iff_lt, ge_iff_le, Bool.not_eq_true, Bool.not_eq_false, Bool.not_eq_true', Bool.not_eq_false', Bool.and_eq_true, Bool.or_eq_true, Bool.and_eq_false_iff, Bool.or_eq_false_iff] at h2
      have hkb : i < marks.length := by omega
      have e1 : IntKind.i64.wrap ((i : Int) + 1) = ((i + 1 : Nat) : Int) := by rw [wrap64 (by omega) (by omega)]; rfl
      refine sw_skip ?_
      simp only [thenQ, blockQ]
      refine sw_seq ?_
      refine sw_block ?_
      refine sw_seq ?_
      refine sw_reg ?_
      unfold s48_4
      first | refine os_ev (evq_fadb rfl) ?_ | refine os_ev (evq_fade rfl) ?_
      try simp only [List.take_zero, List.take_succ_cons, List.drop_zero, List.drop_succ_cons, List.nil_append, List.cons_append, List.append_nil, List.length_cons, List.length_nil, Nat.zero_add, Nat.add_zero, Nat.reduceAdd, Nat.reduceMul, toC, toCs, bD_len, sD_len, rep, List.getElem?_cons_zero, List.getElem?_cons_succ]
      first | refine os_ev (evq_ldb rfl rfl rfl) ?_ | refine os_ev (evq_ldl rfl rfl (rfl) rfl) ?_ | refine os_ev (evq_lds rfl rfl (rfl) rfl) ?_
      try simp only [List.take_zero, List.take_succ_cons, List.drop_zero, List.drop_succ_cons, List.nil_append, List.cons_append, List.append_nil, List.length_cons, List.length_nil, Nat.zero_add, Nat.add_zero, Nat.reduceAdd, Nat.reduceMul, toC, toCs, bD_len, sD_len, rep, List.getElem?_cons_zero, List.getElem?_cons_succ]
      refine os_ev (evq_mvt rfl) ?_
      simp only [Vs.put, reduceIte, Nat.reduceEqDiff]
      first | refine os_ev (evq_iad rfl rfl rfl (by omega)) ?_ | refine os_ev (evq_iad rfl rfl rfl (by simp)) ?_
      first | refine os_ev (evq_fadb rfl) ?_ | refine os_ev (evq_fade rfl) ?_
      try simp only [List.take_zero, List.take_succ_cons, List.drop_zero, List.drop_succ_cons, List.nil_append, List.cons_append, List.append_nil, List.length_cons, List.length_nil, Nat.zero_add, Nat.add_zero, Nat.reduceAdd, Nat.reduceMul, toC, toCs, bD_len, sD_len, rep, List.getElem?_cons_zero, List.getElem?_cons_succ]
      first | refine os_ev (evq_ldb rfl rfl rfl) ?_ | refine os_ev (evq_ldl rfl rfl (mD_get hkb) rfl) ?_ | refine os_ev (evq_lds rfl rfl (mD_get hkb) rfl) ?_ | refine os_ev (evq_ldl rfl rfl (rfl) rfl) ?_ | refine os_ev (evq_lds rfl rfl (rfl) rfl) ?_
      try simp only [List.take_zero, List.take_succ_cons, List.drop_zero, List.drop_succ_cons, List.nil_append, List.cons_append, List.append_nil, List.length_cons, List.length_nil, Nat.zero_add, Nat.add_zero, Nat.reduceAdd, Nat.reduceMul, toC, toCs, bD_len, sD_len, rep, List.getElem?_cons_zero, List.getElem?_cons_succ]
      refine os_ev (evq_mvt rfl) ?_
      refine os_ev (evq_bin rfl rfl rfl) ?_
      simp only [Vs.put, reduceIte, Nat.reduceEqDiff]
      simp only [runOs, thenQ, blockQ, Vs.put, reduceIte, Nat.reduceEqDiff]
      refine sw_cond rfl (fun h3 => ?_) (fun h3 => ?_)
      · try simp only [decide_eq_true_eq, decide_eq_false_iff_not, bne_iff_ne, beq_iff_eq, bne_eq_false_iff_eq, beq_eq_false_iff_ne, ne_eq, Int.not_lt, Int.not_le, gt_iff_lt, ge_iff_le, Bool.not_eq_true, Bool.not_eq_false, Bool.not_eq_true', Bool.not_eq_false', Bool.and_eq_true, Bool.or_eq_true, Bool.and_eq_false_iff, Bool.or_eq_false_iff] at h3
        refine sw_seq ?_
        refine sw_reg ?_
        unfold s48_5
        first | refine os_ev (evq_fadb rfl) ?_ | refine os_ev (evq_fade rfl) ?_
        try simp only [List.take_zero, List.take_succ_cons, List.drop_zero, List.drop_succ_cons, List.nil_append, List.cons_append, List.append_nil, List.length_cons, List.length_nil, Nat.zero_add, Nat.add_zero, Nat.reduceAdd, Nat.reduceMul, toC, toCs, bD_len, sD_len, rep, List.getElem?_cons_zero, List.getElem?_cons_succ]
        first | refine os_ev (evq_ldb rfl rfl rfl) ?_ | refine os_ev (evq_ldl rfl rfl (rfl) rfl) ?_ | refine os_ev (evq_lds rfl rfl (rfl) rfl) ?_
        try simp only [List.take_zero, List.take_succ_cons, List.drop_zero, List.drop_succ_cons, List.nil_append, List.cons_append, List.append_nil, List.length_cons, List.length_nil, Nat.zero_add, Nat.add_zero, Nat.reduceAdd, Nat.reduceMul, toC, toCs, bD_len, sD_len, rep, List.getElem?_cons_zero, List.getElem?_cons_succ]
        refine os_ev (evq_mvt rfl) ?_
        first | refine os_ev (evq_iad rfl rfl rfl (by omega)) ?_ | refine os_ev (evq_iad rfl rfl rfl (by simp)) ?_
        first | refine os_ev (evq_lgb rfl rfl (Nat.le_of_ble_eq_true rfl) rfl) ?_ | refine os_ev (evq_lge rfl rfl (mD_get hkb) (Nat.le_of_ble_eq_true rfl) rfl) ?_ | refine os_ev (evq_lge rfl rfl (rfl) (Nat.le_of_ble_eq_true rfl) rfl) ?_
        try simp only [List.take_zero, List.take_succ_cons, List.drop_zero, List.drop_succ_cons, List.nil_append, List.cons_append, List.append_nil, List.length_cons, List.length_nil, Nat.zero_add, Nat.add_zero, Nat.reduceAdd, Nat.reduceMul, toC, toCs, bD_len, sD_len, rep, List.getElem?_cons_zero, List.getElem?_cons_succ]
        simp only [Vs.put, reduceIte, Nat.reduceEqDiff]
        refine os_wro (by intros; nofun) ?_
        refine st_box rfl rfl rfl rfl (Nat.le_of_ble_eq_true rfl) ?_
        simp only [List.take_zero, List.take_succ_cons, List.drop_zero, List.drop_succ_cons, List.nil_append, List.cons_append, List.append_nil, List.length_cons, List.length_nil, Nat.zero_add, Nat.add_zero, Nat.reduceAdd, Nat.reduceMul, toC, toCs, bD_len, sD_len, rep, List.getElem?_cons_zero, List.getElem?_cons_succ]
        try simp only [setEnv, Vs.put, killEnv, del, cutR, reduceIte, Nat.reduceEqDiff, Nat.reduceAdd]
        refine os_ev (evq_mvk) ?_
        simp only [runOs, thenQ, blockQ, Vs.put, reduceIte, Nat.reduceEqDiff]
        refine sw_ret ?_
        simp only [thenQ, blockQ, resK, ev, St.opd, Vs.get, reduceIte, Nat.reduceEqDiff, Option.getD_some]
        rw [hat, mkAt_hit hkb h3]
        refine ⟨_, rfl, Nat.le_of_ble_eq_true rfl, ?_⟩
        simp only [List.take_zero, List.take_succ_cons, List.drop_zero, List.drop_succ_cons, List.nil_append, List.cons_append, List.append_nil, List.length_cons, List.length_nil, Nat.zero_add, Nat.add_zero, Nat.reduceAdd, Nat.reduceMul, toC, toCs, bD_len, sD_len, rep, List.getElem?_cons_zero, List.getElem?_cons_succ, resV, resK, ev, St.opd, Vs.get, reduceIte, Nat.reduceEqDiff, Option.getD_some]
        exact leaves_tp rfl rfl rfl rfl (take_lf (take_lf (take_lf (take_lf rfl))))
      · try simp only [decide_eq_true_eq, decide_eq_false_iff_not, bne_iff_ne, beq_iff_eq, bne_eq_false_iff_eq, beq_eq_false_iff_ne, ne_eq, Int.not_lt, Int.not_le, gt_iff_lt, ge_iff_le, Bool.not_eq_true, Bool.not_eq_false, Bool.not_eq_true', Bool.not_eq_false', Bool.and_eq_true, Bool.or_eq_true, Bool.and_eq_false_iff, Bool.or_eq_false_iff] at h3
        refine sw_skip ?_
        simp only [thenQ, blockQ]
        refine sw_reg ?_
        unfold s48_3
        refine os_ev (evq_mvt rfl) ?_
        refine os_ev (evq_bin rfl rfl rfl) ?_
        refine os_ev (evq_mvt rfl) ?_
        simp only [runOs, thenQ, blockQ, Vs.put, reduceIte, Nat.reduceEqDiff]
        try simp only [thenQ, blockQ]
        refine ⟨i + 1, ?_, ?_, rfl, [(3, 3), (2, 2), (0, 0), (1, 1)], by decide, ?_, ?_⟩
        · exact ⟨hkb, hat.trans (mkAt_next hkb h3)⟩
        · first | omega | (dsimp only; omega)
        · simp only [sel, Vs.get, upd, Vs.put, reduceIte, Nat.reduceEqDiff]
          repeat' (first | exact er_nil | refine er_un ?_ | refine er_cons rfl ?_ ?_)
          all_goals (try simp only [V.map, A.map, renC, Vs.get, reduceIte, Nat.reduceEqDiff, List.map_cons, List.map_nil, e1])
        · repeat' (first | exact rr_nil | refine rr_cons 3 rfl rfl ?_ ?_ | refine rr_cons 2 rfl rfl ?_ ?_ | refine rr_cons 0 rfl rfl ?_ ?_ | refine rr_cons 1 rfl rfl ?_ ?_)
          all_goals (try simp only [renRoot, renC, Vs.get, reduceIte, Nat.reduceEqDiff, List.map_cons, List.map_nil, e1])
    · try simp only [decide_eq_true_eq, decide_eq_false_iff_not, bne_iff_ne, beq_iff_eq, bne_eq_false_iff_eq, beq_eq_false_iff_ne, ne_eq, Int.not_lt, Int.not_le, gt_iff_lt, ge_iff_le, Bool.not_eq_true, Bool.not_eq_false, Bool.not_eq_true', Bool.not_eq_false', Bool.and_eq_true, Bool.or_eq_true, Bool.and_eq_false_iff, Bool.or_eq_false_iff] at h2
      have hib : i = marks.length := by omega
      subst hib
      rw [List.drop_length] at hat
      rw [hat]
      simp only [mkAt]
      refine sw_exit ?_
      simp only [thenQ, blockQ, if_true, Nat.reduceEqDiff, if_false, reduceIte]
      refine sw_seq ?_
      refine sw_reg ?_
      unfold s48_6
      refine os_ev (evq_build rfl) ?_
      try simp only [List.take_zero, List.take_succ_cons, List.drop_zero, List.drop_succ_cons, List.nil_append, List.cons_append, List.append_nil, List.length_cons, List.length_nil, Nat.zero_add, Nat.add_zero, Nat.reduceAdd, Nat.reduceMul, toC, toCs, bD_len, sD_len, rep, List.getElem?_cons_zero, List.getElem?_cons_succ]
      simp only [Vs.put, reduceIte, Nat.reduceEqDiff]
      refine os_wro (by intros; nofun) ?_
      refine st_box rfl rfl rfl rfl (Nat.le_of_ble_eq_true rfl) ?_
      simp only [List.take_zero, List.take_succ_cons, List.drop_zero, List.drop_succ_cons, List.nil_append, List.cons_append, List.append_nil, List.length_cons, List.length_nil, Nat.zero_add, Nat.add_zero, Nat.reduceAdd, Nat.reduceMul, toC, toCs, bD_len, sD_len, rep, List.getElem?_cons_zero, List.getElem?_cons_succ]
      try simp only [setEnv, Vs.put, killEnv, del, cutR, reduceIte, Nat.reduceEqDiff, Nat.reduceAdd]
      refine os_ev (evq_mvk) ?_
      simp only [runOs, thenQ, blockQ, Vs.put, reduceIte, Nat.reduceEqDiff]
      refine sw_ret ?_
      simp only [thenQ, blockQ, resK, ev, St.opd, Vs.get, reduceIte, Nat.reduceEqDiff, Option.getD_some]
      refine ⟨_, rfl, Nat.le_of_ble_eq_true rfl, ?_⟩
      simp only [List.take_zero, List.take_succ_cons, List.drop_zero, List.drop_succ_cons, List.nil_append, List.cons_append, List.append_nil, List.length_cons, List.length_nil, Nat.zero_add, Nat.add_zero, Nat.reduceAdd, Nat.reduceMul, toC, toCs, bD_len, sD_len, rep, List.getElem?_cons_zero, List.getElem?_cons_succ, resV, resK, ev, St.opd, Vs.get, reduceIte, Nat.reduceEqDiff, Option.getD_some]
      exact leaves_tp rfl rfl rfl rfl (take_lf (take_lf (take_lf (take_lf rfl))))
theorem runs50 (rows : List RowM) (phase : Int) (marks : List MarkM) (who : Int) (hm : marks.length < 2 ^ 62) : Runs Try.prog 50 [.val true [(.rd, .sl 7 (rD rows)), (.rd, .lf (.int .i64 phase)), (.rd, .sl 3 (mD marks))], .val false [(.rd, .lf (.int .i64 who))]] ⟨[(true, mE (mkAt marks who).1), (false, [.lf (.bool (mkAt marks who).2)])], [], []⟩ := by
  obtain ⟨c, hb, hs⟩ := body_of tr50
  refine runs_of_sw (is := [.load (some 3) (.t 4), .mv (.t 5)]) Try.func50 hb hs (by kernel_rfl) (show 2 ≤ 22 by decide) ?_
  clear hb hs c
  simp only [inAs, inCells, flat, List.flatMap_cons, List.flatMap_nil, Arg.cells, List.cons_append, List.nil_append, inCs, inC, fixN, fixCs, fixC, nBox, inV, inB, rootB, List.length_cons, List.length_nil, List.take_succ_cons, List.take_zero, List.drop_succ_cons, List.drop_zero, env0, Nat.zero_add, Nat.add_zero, List.append_nil, Nat.reduceAdd, rD_len, mD_len]
  unfold s50
  refine sw_seq ?_
  refine sw_reg ?_
  unfold s50_0
  refine os_wro (by intros; nofun) ?_
  refine ⟨_, rfl, ?_⟩
  try simp only [setEnv, Vs.put, killEnv, del, cutR, reduceIte, Nat.reduceEqDiff, Nat.reduceAdd]
  refine os_wro (by intros; nofun) ?_
  simp only [wr]
  try simp only [setEnv, Vs.put, killEnv, del, cutR, reduceIte, Nat.reduceEqDiff, Nat.reduceAdd]
  refine os_ev (evq_mvk) ?_
  simp only [runOs, thenQ, blockQ, Vs.put, reduceIte, Nat.reduceEqDiff]
  refine sw_seq ?_
  refine sw_seq ?_
  refine sw_reg ?_
  unfold s50_1
  first | refine os_ev (evq_fadb rfl) ?_ | refine os_ev (evq_fade rfl) ?_
  try simp only [List.take_zero, List.take_succ_cons, List.drop_zero, List.drop_succ_cons, List.nil_append, List.cons_append, List.append_nil, List.length_cons, List.length_nil, Nat.zero_add, Nat.add_zero, Nat.reduceAdd, Nat.reduceMul, toC, toCs, bD_len, sD_len, rep, List.getElem?_cons_zero, List.getElem?_cons_succ]
  first | refine os_ev (evq_ldb rfl rfl rfl) ?_ | refine os_ev (evq_ldl rfl rfl (rfl) rfl) ?_ | refine os_ev (evq_lds rfl rfl (rfl) rfl) ?_
  try simp only [List.take_zero, List.take_succ_cons, List.drop_zero, List.drop_succ_cons, List.nil_append, List.cons_append, List.append_nil, List.length_cons, List.length_nil, Nat.zero_add, Nat.add_zero, Nat.reduceAdd, Nat.reduceMul, toC, toCs, bD_len, sD_len, rep, List.getElem?_cons_zero, List.getElem?_cons_succ]
  first | refine os_ev (evq_lenr rfl) ?_ | refine os_ev (evq_lenn rfl) ?_
  refine os_ev (evq_mvk) ?_
  simp only [Vs.put, reduceIte, Nat.reduceEqDiff]
  simp only [runOs, thenQ, blockQ, Vs.put, reduceIte, Nat.reduceEqDiff]
  refine sw_block ?_
  refine sw_loop_upd [1, 4, 9, 10, 11, 61] (α := Nat) (fun i => [(11, .a (.c (.lf (.int .i64 (i : Nat)))))]) (fun i => [(3, .bx [.lf (.int .i64 0), .lf (.int .i64 0), .lf (.int .i64 0)]), (2, .bx [.rf 0 [] 7 0 rows.length, .lf (.int .i64 phase), .rf 1 [] 3 0 marks.length]), (0, .im 7 (rD rows)), (1, .im 3 (mD marks))]) (4) (fun i => i ≤ marks.length ∧ mkAt marks who = mkAt (marks.drop i) who) (fun i => marks.length - i) (0) [(3, 3), (2, 2), (0, 0), (1, 1)] ?_ (by decide) ?_ ?_ ?_
  · exact ⟨Nat.zero_le _, rfl⟩
  · simp only [sel, Vs.get, upd, Vs.put, reduceIte, Nat.reduceEqDiff]
    repeat' (first | exact er_nil | refine er_un ?_ | refine er_cons rfl ?_ ?_)
    all_goals (try simp only [V.map, A.map, renC, Vs.get, reduceIte, Nat.reduceEqDiff, List.map_cons, List.map_nil])
    all_goals (try rfl)
  · repeat' (first | exact rr_nil | refine rr_cons 3 rfl rfl ?_ ?_ | refine rr_cons 2 rfl rfl ?_ ?_ | refine rr_cons 0 rfl rfl ?_ ?_ | refine rr_cons 1 rfl rfl ?_ ?_)
    all_goals (try simp only [renRoot, renC, Vs.get, reduceIte, Nat.reduceEqDiff, List.map_cons, List.map_nil])
    all_goals (try rfl)
  · rintro i hinv
    simp only [sel, Vs.get, upd, Vs.put, reduceIte, Nat.reduceEqDiff]
    obtain ⟨hi, hat⟩ := hinv
    refine sw_seq ?_
    refine sw_reg ?_
    unfold s50_2
    refine os_ev (evq_bin rfl rfl rfl) ?_
    simp only [runOs, thenQ, blockQ, Vs.put, reduceIte, Nat.reduceEqDiff]
    refine sw_seq ?_
    refine sw_cond rfl (fun h2 => ?_) (fun h2 => ?_)
    · try simp only [decide_eq_true_eq, decide_eq_false_iff_not, bne_iff_ne, beq_iff_eq, bne_eq_false_iff_eq, beq_eq_false_iff_ne, ne_eq, Int.not_lt, Int.not_le, gt_iff_lt, ge_iff_le, Bool.not_eq_true, Bool.not_eq_false, Bool.not_eq_true', Bool.not_eq_false', Bool.and_eq_true, Bool.or_eq_true, Bool.and_eq_false_iff, Bool.or_eq_false_iff] at h2
      have hkb : i < marks.length := by omega
      have e1 : IntKind.i64.wrap ((i : Int) + 1) = ((i + 1 : Nat) : Int) := by rw [wrap64 (by omega) (by omega)]; rfl
      refine sw_skip ?_
      simp only [thenQ, blockQ]
      refine sw_seq ?_
      refine sw_block ?_
      refine sw_seq ?_
      refine sw_reg ?_
      unfold s50_3
      first | refine os_ev (evq_iad rfl rfl rfl (by omega)) ?_ | refine os_ev (evq_iad rfl rfl rfl (by simp)) ?_
      first | refine os_ev (evq_lgb rfl rfl (Nat.le_of_ble_eq_true rfl) rfl) ?_ | refine os_ev (evq_lge rfl rfl (mD_get hkb) (Nat.le_of_ble_eq_true rfl) rfl) ?_ | refine os_ev (evq_lge rfl rfl (rfl) (Nat.le_of_ble_eq_true rfl) rfl) ?_
      try simp only [List.take_zero, List.take_succ_cons, List.drop_zero, List.drop_succ_cons, List.nil_append, List.cons_append, List.append_nil, List.length_cons, List.length_nil, Nat.zero_add, Nat.add_zero, Nat.reduceAdd, Nat.reduceMul, toC, toCs, bD_len, sD_len, rep, List.getElem?_cons_zero, List.getElem?_cons_succ]
      refine os_wro (by intros; nofun) ?_
      simp only [wr]
      try simp only [setEnv, Vs.put, killEnv, del, cutR, reduceIte, Nat.reduceEqDiff, Nat.reduceAdd]
      refine os_wro (by intros; nofun) ?_
      refine st_box rfl rfl rfl rfl (Nat.le_of_ble_eq_true rfl) ?_
      simp only [List.take_zero, List.take_succ_cons, List.drop_zero, List.drop_succ_cons, List.nil_append, List.cons_append, List.append_nil, List.length_cons, List.length_nil, Nat.zero_add, Nat.add_zero, Nat.reduceAdd, Nat.reduceMul, toC, toCs, bD_len, sD_len, rep, List.getElem?_cons_zero, List.getElem?_cons_succ]
      try simp only [setEnv, Vs.put, killEnv, del, cutR, reduceIte, Nat.reduceEqDiff, Nat.reduceAdd]
      simp only [runOs, thenQ, blockQ, Vs.put, reduceIte, Nat.reduceEqDiff]
      refine sw_seq ?_
      refine sw_reg ?_
      unfold s50_4
      first | refine os_ev (evq_fadb rfl) ?_ | refine os_ev (evq_fade rfl) ?_
      try simp only [List.take_zero, List.take_succ_cons, List.drop_zero, List.drop_succ_cons, List.nil_append, List.cons_append, List.append_nil, List.length_cons, List.length_nil, Nat.zero_add, Nat.add_zero, Nat.reduceAdd, Nat.reduceMul, toC, toCs, bD_len, sD_len, rep, List.getElem?_cons_zero, List.getElem?_cons_succ]
      first | refine os_ev (evq_ldb rfl rfl rfl) ?_ | refine os_ev (evq_ldl rfl rfl (rfl) rfl) ?_ | refine os_ev (evq_lds rfl rfl (rfl) rfl) ?_
      try simp only [List.take_zero, List.take_succ_cons, List.drop_zero, List.drop_succ_cons, List.nil_append, List.cons_append, List.append_nil, List.length_cons, List.length_nil, Nat.zero_add, Nat.add_zero, Nat.reduceAdd, Nat.reduceMul, toC, toCs, bD_len, sD_len, rep, List.getElem?_cons_zero, List.getElem?_cons_succ]
      simp only [Vs.put, reduceIte, Nat.reduceEqDiff]
      refine os_ev (evq_mvt rfl) ?_
      refine os_ev (evq_bin rfl rfl rfl) ?_
      simp only [runOs, thenQ, blockQ, Vs.put, reduceIte, Nat.reduceEqDiff]
      refine sw_cond rfl (fun h3 => ?_) (fun h3 => ?_)
      · try simp only [decide_eq_true_eq, decide_eq_false_iff_not, bne_iff_ne, beq_iff_eq, bne_eq_false_iff_eq, beq_eq_false_iff_ne, ne_eq, Int.not_lt, Int.not_le, gt_iff_lt, ge_iff_le, Bool.not_eq_true, Bool.not_eq_false, Bool.not_eq_true', Bool.not_eq_false', Bool.and_eq_true, Bool.or_eq_true, Bool.and_eq_false_iff, Bool.or_eq_false_iff] at h3
        refine sw_seq ?_
        refine sw_reg ?_
        unfold s50_5
        first | refine os_ev (evq_lgb rfl rfl (Nat.le_of_ble_eq_true rfl) rfl) ?_ | refine os_ev (evq_lge rfl rfl (rfl) (Nat.le_of_ble_eq_true rfl) rfl) ?_
        try simp only [List.take_zero, List.take_succ_cons, List.drop_zero, List.drop_succ_cons, List.nil_append, List.cons_append, List.append_nil, List.length_cons, List.length_nil, Nat.zero_add, Nat.add_zero, Nat.reduceAdd, Nat.reduceMul, toC, toCs, bD_len, sD_len, rep, List.getElem?_cons_zero, List.getElem?_cons_succ]
        refine os_wro (by intros; nofun) ?_
        refine st_box rfl rfl rfl rfl (Nat.le_of_ble_eq_true rfl) ?_
        simp only [List.take_zero, List.take_succ_cons, List.drop_zero, List.drop_succ_cons, List.nil_append, List.cons_append, List.append_nil, List.length_cons, List.length_nil, Nat.zero_add, Nat.add_zero, Nat.reduceAdd, Nat.reduceMul, toC, toCs, bD_len, sD_len, rep, List.getElem?_cons_zero, List.getElem?_cons_succ]
        try simp only [setEnv, Vs.put, killEnv, del, cutR, reduceIte, Nat.reduceEqDiff, Nat.reduceAdd]
        refine os_ev (evq_mvk) ?_
        simp only [runOs, thenQ, blockQ, Vs.put, reduceIte, Nat.reduceEqDiff]
        refine sw_ret ?_
        simp only [thenQ, blockQ, resK, ev, St.opd, Vs.get, reduceIte, Nat.reduceEqDiff, Option.getD_some]
        rw [hat, mkAt_hit hkb h3]
        refine ⟨_, rfl, Nat.le_of_ble_eq_true rfl, ?_⟩
        simp only [List.take_zero, List.take_succ_cons, List.drop_zero, List.drop_succ_cons, List.nil_append, List.cons_append, List.append_nil, List.length_cons, List.length_nil, Nat.zero_add, Nat.add_zero, Nat.reduceAdd, Nat.reduceMul, toC, toCs, bD_len, sD_len, rep, List.getElem?_cons_zero, List.getElem?_cons_succ, resV, resK, ev, St.opd, Vs.get, reduceIte, Nat.reduceEqDiff, Option.getD_some]
        exact leaves_tp rfl rfl rfl rfl (take_lf (take_lf (take_lf (take_lf rfl))))
      · try simp only [decide_eq_true_eq, decide_eq_false_iff_not, bne_iff_ne, beq_iff_eq, bne_eq_false_iff_eq, beq_eq_false_iff_ne, ne_eq, Int.not_lt, Int.not_le, gt_iff_lt, ge_iff_le, Bool.not_eq_true, Bool.not_eq_false, Bool.not_eq_true', Bool.not_eq_false', Bool.and_eq_true, Bool.or_eq_true, Bool.and_eq_false_iff, Bool.or_eq_false_iff] at h3
        refine sw_skip ?_
        simp only [thenQ, blockQ]
        refine sw_reg ?_
        unfold s50_6
        refine os_ev (evq_bin rfl rfl rfl) ?_
        simp only [Vs.put, reduceIte, Nat.reduceEqDiff]
        refine os_ev (evq_mvt rfl) ?_
        simp only [runOs, thenQ, blockQ, Vs.put, reduceIte, Nat.reduceEqDiff]
        try simp only [thenQ, blockQ]
        refine ⟨i + 1, ?_, ?_, rfl, [(3, 3), (2, 2), (0, 0), (1, 1)], by decide, ?_, ?_⟩
        · exact ⟨hkb, hat.trans (mkAt_next hkb h3)⟩
        · first | omega | (dsimp only; omega)
        · simp only [sel, Vs.get, upd, Vs.put, reduceIte, Nat.reduceEqDiff]
          repeat' (first | exact er_nil | refine er_un ?_ | refine er_cons rfl ?_ ?_)
          all_goals (try simp only [V.map, A.map, renC, Vs.get, reduceIte, Nat.reduceEqDiff, List.map_cons, List.map_nil, e1])
        · repeat' (first | exact rr_nil | refine rr_cons 3 rfl rfl ?_ ?_ | refine rr_cons 2 rfl rfl ?_ ?_ | refine rr_cons 0 rfl rfl ?_ ?_ | refine rr_cons 1 rfl rfl ?_ ?_)
          all_goals (try simp only [renRoot, renC, Vs.get, reduceIte, Nat.reduceEqDiff, List.map_cons, List.map_nil, e1])
    · try simp only [decide_eq_true_eq, decide_eq_false_iff_not, bne_iff_ne, beq_iff_eq, bne_eq_false_iff_eq, beq_eq_false_iff_ne, ne_eq, Int.not_lt, Int.not_le, gt_iff_lt, ge_iff_le, Bool.not_eq_true, Bool.not_eq_false, Bool.not_eq_true', Bool.not_eq_false', Bool.and_eq_true, Bool.or_eq_true, Bool.and_eq_false_iff, Bool.or_eq_false_iff] at h2
      have hib : i = marks.length := by omega
      subst hib
      rw [List.drop_length] at hat
      rw [hat]
      simp only [mkAt]
      refine sw_exit ?_
      simp only [thenQ, blockQ, if_true, Nat.reduceEqDiff, if_false, reduceIte]
      refine sw_seq ?_
      refine sw_reg ?_
      unfold s50_7
      refine os_ev (evq_build rfl) ?_
      try simp only [List.take_zero, List.take_succ_cons, List.drop_zero, List.drop_succ_cons, List.nil_append, List.cons_append, List.append_nil, List.length_cons, List.length_nil, Nat.zero_add, Nat.add_zero, Nat.reduceAdd, Nat.reduceMul, toC, toCs, bD_len, sD_len, rep, List.getElem?_cons_zero, List.getElem?_cons_succ]
      refine os_wro (by intros; nofun) ?_
      refine st_box rfl rfl rfl rfl (Nat.le_of_ble_eq_true rfl) ?_
      simp only [List.take_zero, List.take_succ_cons, List.drop_zero, List.drop_succ_cons, List.nil_append, List.cons_append, List.append_nil, List.length_cons, List.length_nil, Nat.zero_add, Nat.add_zero, Nat.reduceAdd, Nat.reduceMul, toC, toCs, bD_len, sD_len, rep, List.getElem?_cons_zero, List.getElem?_cons_succ]
      try simp only [setEnv, Vs.put, killEnv, del, cutR, reduceIte, Nat.reduceEqDiff, Nat.reduceAdd]
      refine os_ev (evq_mvk) ?_
      simp only [runOs, thenQ, blockQ, Vs.put, reduceIte, Nat.reduceEqDiff]
      refine sw_ret ?_
      simp only [thenQ, blockQ, resK, ev, St.opd, Vs.get, reduceIte, Nat.reduceEqDiff, Option.getD_some]
      refine ⟨_, rfl, Nat.le_of_ble_eq_true rfl, ?_⟩
      simp only [List.take_zero, List.take_succ_cons, List.drop_zero, List.drop_succ_cons, List.nil_append, List.cons_append, List.append_nil, List.length_cons, List.length_nil, Nat.zero_add, Nat.add_zero, Nat.reduceAdd, Nat.reduceMul, toC, toCs, bD_len, sD_len, rep, List.getElem?_cons_zero, List.getElem?_cons_succ, resV, resK, ev, St.opd, Vs.get, reduceIte, Nat.reduceEqDiff, Option.getD_some]
      exact leaves_tp rfl rfl rfl rfl (take_lf (take_lf (take_lf (take_lf rfl))))
theorem runs10 (rows : List RowM) (phase : Int) (marks : List MarkM) (who : Int) (hl : rows.length ≤ 9223372036854775807) (hb : ∀ r ∈ rows, r.old.2.length ≤ 9223372036854775807 ∧ r.new.2.length ≤ 9223372036854775807 ∧ r.key.size ≤ 9223372036854775807) (hm : marks.length ≤ 9223372036854775807) : Runs Try.prog 10 [.val true [(.rd, .sl 7 (rD rows)), (.rd, .lf (.int .i64 phase)), (.rd, .sl 3 (mD marks))], .val false [(.rd, .lf (.int .i64 who))]] ⟨[(false, [.lf (.bool true)])], [], []⟩ := by
  obtain ⟨c, hb, hs⟩ := body_of tr10
  refine runs_of_sw Try.func10 hb hs rfl (show 2 ≤ 45 by decide) ?_
  clear hb hs c
  simp only [inAs, inCells, flat, List.flatMap_cons, List.flatMap_nil, Arg.cells, List.cons_append, List.nil_append, inCs, inC, fixN, fixCs, fixC, nBox, inV, inB, rootB, List.length_cons, List.length_nil, List.take_succ_cons, List.take_zero, List.drop_succ_cons, List.drop_zero, env0, Nat.zero_add, Nat.add_zero, List.append_nil, Nat.reduceAdd, rD_len, mD_len]
  unfold s10
  refine sw_seq ?_
  refine sw_reg ?_
  unfold s10_0
  refine os_wro (by intros; nofun) ?_
  refine ⟨_, rfl, ?_⟩
  try simp only [setEnv, Vs.put, killEnv, del, cutR, reduceIte, Nat.reduceEqDiff, Nat.reduceAdd]
  refine os_ev (evq_mvk) ?_
  simp only [runOs, thenQ, blockQ, Vs.put, reduceIte, Nat.reduceEqDiff]
  refine sw_seq ?_
  refine sw_reg ?_
  unfold s10_1
  refine os_ev (evq_mvk) ?_
  simp only [runOs, thenQ, blockQ, Vs.put, reduceIte, Nat.reduceEqDiff]
  refine sw_seq ?_
  refine sw_reg ?_
  unfold s10_2
  first | refine os_ev (evq_lgb rfl rfl (Nat.le_of_ble_eq_true rfl) rfl) ?_ | refine os_ev (evq_lge rfl rfl (rfl) (Nat.le_of_ble_eq_true rfl) rfl) ?_
  try simp only [List.take_zero, List.take_succ_cons, List.drop_zero, List.drop_succ_cons, List.nil_append, List.cons_append, List.append_nil, List.length_cons, List.length_nil, Nat.zero_add, Nat.add_zero, Nat.reduceAdd, Nat.reduceMul, toC, toCs, bD_len, sD_len, rep, List.getElem?_cons_zero, List.getElem?_cons_succ]
  refine os_ev (evq_mvt rfl) ?_
  refine os_callo ?_
  simp only [List.map_cons, List.map_nil, St.opd, Vs.get, Vs.put, reduceIte, Nat.reduceEqDiff, Option.getD_some]
  refine ⟨_, _, runs47 rows phase marks 1048576 hl hb hm (by omega), _, rfl, _, rfl, by simp [handIo, handBx], fa_cons (⟨rfl, .inl rfl, by simp [handIo, handBx], _, rfl, by simp, by first | rfl | (simp; done) | exact (List.take_of_length_le (by simp)).symm⟩) (fa_cons (rfl) (fa_cons (⟨rfl, .inl rfl, by simp [handIo, handBx], _, rfl, by simp, by first | rfl | (simp; done) | exact (List.take_of_length_le (by simp)).symm⟩) (fa_cons (rfl) (fa_nil)))), _, rfl, _, rfl, ?_⟩
  simp only [newCs, newRes, newA, resV, List.flatMap_cons, List.flatMap_nil, List.flatten_nil, List.flatten_cons, List.append_nil, List.nil_append, List.cons_append, List.length_cons, List.length_nil, List.drop_succ_cons, List.drop_zero, List.take_succ_cons, List.take_zero, if_true, if_false, Bool.false_eq_true, List.drop_nil, mixCs, isRx, Vs.put, reduceIte, Nat.reduceEqDiff, Nat.zero_add, Nat.reduceAdd, bD_len, sD_len]
  try simp only [setEnv, Vs.put, killEnv, del, cutR, reduceIte, Nat.reduceEqDiff, Nat.reduceAdd]
  refine os_ev (evq_mvt rfl) ?_
  simp only [Vs.put, reduceIte, Nat.reduceEqDiff]
  simp only [runOs, thenQ, blockQ, Vs.put, reduceIte, Nat.reduceEqDiff]
  refine sw_seq ?_
  refine sw_seq ?_
  refine sw_reg ?_
  unfold s10_3
  refine os_ev (evq_mvt rfl) ?_
  refine os_ev (evq_bin rfl rfl rfl) ?_
  simp only [runOs, thenQ, blockQ, Vs.put, reduceIte, Nat.reduceEqDiff]
  refine sw_cond rfl (fun h1 => ?_) (fun h1 => ?_)
  · try simp only [decide_eq_true_eq, decide_eq_false_iff_not, bne_iff_ne, beq_iff_eq, bne_eq_false_iff_eq, beq_eq_false_iff_ne, ne_eq, Int.not_lt, Int.not_le, gt_iff_lt, ge_iff_le, Bool.not_eq_true, Bool.not_eq_false, Bool.not_eq_true', Bool.not_eq_false', Bool.and_eq_true, Bool.or_eq_true, Bool.and_eq_false_iff, Bool.or_eq_false_iff] at h1
    refine sw_seq ?_
    refine sw_reg ?_
    unfold s10_4
    refine os_ev (evq_mvk) ?_
    simp only [runOs, thenQ, blockQ, Vs.put, reduceIte, Nat.reduceEqDiff]
    refine sw_ret ?_
    simp only [thenQ, blockQ, resK, ev, St.opd, Vs.get, reduceIte, Nat.reduceEqDiff, Option.getD_some]
    first | exact leaves_vals rfl rfl rfl rfl | exact leaves_a rfl rfl rfl rfl
  · try simp only [decide_eq_true_eq, decide_eq_false_iff_not, bne_iff_ne, beq_iff_eq, bne_eq_false_iff_eq, beq_eq_false_iff_ne, ne_eq, Int.not_lt, Int.not_le, gt_iff_lt, ge_iff_le, Bool.not_eq_true, Bool.not_eq_false, Bool.not_eq_true', Bool.not_eq_false', Bool.and_eq_true, Bool.or_eq_true, Bool.and_eq_false_iff, Bool.or_eq_false_iff] at h1
    have hsz : szRS rows + marks.length ≤ 1048576 := by
      rcases Nat.lt_or_ge 1048576 (szRS rows + marks.length) with hx | hx
      · rw [if_neg (by omega)] at h1; omega
      · exact hx
    have hl2 : rows.length ≤ 1048576 := by simp only [szRS] at hsz; omega
    have hb2 : ∀ r ∈ rows, r.old.2.length ≤ 1048576 ∧ r.new.2.length ≤ 1048576 := fun r h => by have := szRS_mem h; simp only [szR] at this; omega
    refine sw_skip ?_
    simp only [thenQ, blockQ]
    refine sw_seq ?_
    refine sw_reg ?_
    unfold s10_5
    first | refine os_ev (evq_lgb rfl rfl (Nat.le_of_ble_eq_true rfl) rfl) ?_ | refine os_ev (evq_lge rfl rfl (rfl) (Nat.le_of_ble_eq_true rfl) rfl) ?_
    try simp only [List.take_zero, List.take_succ_cons, List.drop_zero, List.drop_succ_cons, List.nil_append, List.cons_append, List.append_nil, List.length_cons, List.length_nil, Nat.zero_add, Nat.add_zero, Nat.reduceAdd, Nat.reduceMul, toC, toCs, bD_len, sD_len, rep, List.getElem?_cons_zero, List.getElem?_cons_succ]
    refine os_callo ?_
    simp only [List.map_cons, List.map_nil, St.opd, Vs.get, Vs.put, reduceIte, Nat.reduceEqDiff, Option.getD_some]
    refine ⟨_, _, runs49 rows phase marks (by omega) (fun r h => by have := hb2 r h; omega) (by omega), _, rfl, _, rfl, by simp [handIo, handBx], fa_cons (⟨rfl, .inl rfl, by simp [handIo, handBx], _, rfl, by simp, by first | rfl | (simp; done) | exact (List.take_of_length_le (by simp)).symm⟩) (fa_cons (rfl) (fa_cons (⟨rfl, .inl rfl, by simp [handIo, handBx], _, rfl, by simp, by first | rfl | (simp; done) | exact (List.take_of_length_le (by simp)).symm⟩) (fa_nil))), _, rfl, _, rfl, ?_⟩
    simp only [newCs, newRes, newA, resV, List.flatMap_cons, List.flatMap_nil, List.flatten_nil, List.flatten_cons, List.append_nil, List.nil_append, List.cons_append, List.length_cons, List.length_nil, List.drop_succ_cons, List.drop_zero, List.take_succ_cons, List.take_zero, if_true, if_false, Bool.false_eq_true, List.drop_nil, mixCs, isRx, Vs.put, reduceIte, Nat.reduceEqDiff, Nat.zero_add, Nat.reduceAdd, bD_len, sD_len]
    try simp only [setEnv, Vs.put, killEnv, del, cutR, reduceIte, Nat.reduceEqDiff, Nat.reduceAdd]
    refine os_ev (evq_mvt rfl) ?_
    simp only [Vs.put, reduceIte, Nat.reduceEqDiff]
    refine os_callo ?_
    simp only [List.map_cons, List.map_nil, St.opd, Vs.get, Vs.put, reduceIte, Nat.reduceEqDiff, Option.getD_some]
    refine ⟨_, _, runs48 rows phase marks who (by omega), _, rfl, _, rfl, by simp [handIo, handBx], fa_cons (⟨rfl, .inl rfl, by simp [handIo, handBx], _, rfl, by simp, by first | rfl | (simp; done) | exact (List.take_of_length_le (by simp)).symm⟩) (fa_cons (rfl) (fa_cons (⟨rfl, .inl rfl, by simp [handIo, handBx], _, rfl, by simp, by first | rfl | (simp; done) | exact (List.take_of_length_le (by simp)).symm⟩) (fa_cons (rfl) (fa_nil)))), _, rfl, _, rfl, ?_⟩
    simp only [newCs, newRes, newA, resV, List.flatMap_cons, List.flatMap_nil, List.flatten_nil, List.flatten_cons, List.append_nil, List.nil_append, List.cons_append, List.length_cons, List.length_nil, List.drop_succ_cons, List.drop_zero, List.take_succ_cons, List.take_zero, if_true, if_false, Bool.false_eq_true, List.drop_nil, mixCs, isRx, Vs.put, reduceIte, Nat.reduceEqDiff, Nat.zero_add, Nat.reduceAdd, bD_len, sD_len]
    simp only [mE, newCs]
    try simp only [setEnv, Vs.put, killEnv, del, cutR, reduceIte, Nat.reduceEqDiff, Nat.reduceAdd]
    refine os_ev (evq_mvt rfl) ?_
    refine os_ev (evq_ext rfl rfl) ?_
    refine os_ev (evq_ext rfl rfl) ?_
    refine os_wro (by intros; nofun) ?_
    simp only [wr]
    try simp only [setEnv, Vs.put, killEnv, del, cutR, reduceIte, Nat.reduceEqDiff, Nat.reduceAdd]
    refine os_wro (by intros; nofun) ?_
    refine st_box rfl rfl rfl rfl (Nat.le_of_ble_eq_true rfl) ?_
    simp only [List.take_zero, List.take_succ_cons, List.drop_zero, List.drop_succ_cons, List.nil_append, List.cons_append, List.append_nil, List.length_cons, List.length_nil, Nat.zero_add, Nat.add_zero, Nat.reduceAdd, Nat.reduceMul, toC, toCs, bD_len, sD_len, rep, List.getElem?_cons_zero, List.getElem?_cons_succ]
    try simp only [setEnv, Vs.put, killEnv, del, cutR, reduceIte, Nat.reduceEqDiff, Nat.reduceAdd]
    refine os_ev (evq_mvt rfl) ?_
    simp only [runOs, thenQ, blockQ, Vs.put, reduceIte, Nat.reduceEqDiff]
    refine sw_seq ?_
    refine sw_reg ?_
    unfold s10_6
    first | refine os_ev (evq_lgb rfl rfl (Nat.le_of_ble_eq_true rfl) rfl) ?_ | refine os_ev (evq_lge rfl rfl (rfl) (Nat.le_of_ble_eq_true rfl) rfl) ?_
    try simp only [List.take_zero, List.take_succ_cons, List.drop_zero, List.drop_succ_cons, List.nil_append, List.cons_append, List.append_nil, List.length_cons, List.length_nil, Nat.zero_add, Nat.add_zero, Nat.reduceAdd, Nat.reduceMul, toC, toCs, bD_len, sD_len, rep, List.getElem?_cons_zero, List.getElem?_cons_succ]
    simp only [Vs.put, reduceIte, Nat.reduceEqDiff]
    refine os_callo ?_
    simp only [List.map_cons, List.map_nil, St.opd, Vs.get, Vs.put, reduceIte, Nat.reduceEqDiff, Option.getD_some]
    refine ⟨_, _, runs49 rows phase marks (by omega) (fun r h => by have := hb2 r h; omega) (by omega), _, rfl, _, rfl, by simp [handIo, handBx], fa_cons (⟨rfl, .inl rfl, by simp [handIo, handBx], _, rfl, by simp, by first | rfl | (simp; done) | exact (List.take_of_length_le (by simp)).symm⟩) (fa_cons (rfl) (fa_cons (⟨rfl, .inl rfl, by simp [handIo, handBx], _, rfl, by simp, by first | rfl | (simp; done) | exact (List.take_of_length_le (by simp)).symm⟩) (fa_nil))), _, rfl, _, rfl, ?_⟩
    simp only [newCs, newRes, newA, resV, List.flatMap_cons, List.flatMap_nil, List.flatten_nil, List.flatten_cons, List.append_nil, List.nil_append, List.cons_append, List.length_cons, List.length_nil, List.drop_succ_cons, List.drop_zero, List.take_succ_cons, List.take_zero, if_true, if_false, Bool.false_eq_true, List.drop_nil, mixCs, isRx, Vs.put, reduceIte, Nat.reduceEqDiff, Nat.zero_add, Nat.reduceAdd, bD_len, sD_len]
    try simp only [setEnv, Vs.put, killEnv, del, cutR, reduceIte, Nat.reduceEqDiff, Nat.reduceAdd]
    refine os_wro (by intros; nofun) ?_
    simp only [wr]
    try simp only [setEnv, Vs.put, killEnv, del, cutR, reduceIte, Nat.reduceEqDiff, Nat.reduceAdd]
    refine os_wro (by intros; nofun) ?_
    refine st_box rfl rfl rfl rfl (Nat.le_of_ble_eq_true rfl) ?_
    simp only [List.take_zero, List.take_succ_cons, List.drop_zero, List.drop_succ_cons, List.nil_append, List.cons_append, List.append_nil, List.length_cons, List.length_nil, Nat.zero_add, Nat.add_zero, Nat.reduceAdd, Nat.reduceMul, toC, toCs, bD_len, sD_len, rep, List.getElem?_cons_zero, List.getElem?_cons_succ]
    try simp only [setEnv, Vs.put, killEnv, del, cutR, reduceIte, Nat.reduceEqDiff, Nat.reduceAdd]
    simp only [runOs, thenQ, blockQ, Vs.put, reduceIte, Nat.reduceEqDiff]
    refine sw_seq ?_
    refine sw_reg ?_
    unfold s10_7
    first | refine os_ev (evq_lgb rfl rfl (Nat.le_of_ble_eq_true rfl) rfl) ?_ | refine os_ev (evq_lge rfl rfl (rfl) (Nat.le_of_ble_eq_true rfl) rfl) ?_
    try simp only [List.take_zero, List.take_succ_cons, List.drop_zero, List.drop_succ_cons, List.nil_append, List.cons_append, List.append_nil, List.length_cons, List.length_nil, Nat.zero_add, Nat.add_zero, Nat.reduceAdd, Nat.reduceMul, toC, toCs, bD_len, sD_len, rep, List.getElem?_cons_zero, List.getElem?_cons_succ]
    refine os_ev (evq_mvt rfl) ?_
    refine os_callo ?_
    simp only [List.map_cons, List.map_nil, St.opd, Vs.get, Vs.put, reduceIte, Nat.reduceEqDiff, Option.getD_some]
    refine ⟨_, _, runs50 rows phase marks who (by omega), _, rfl, _, rfl, by simp [handIo, handBx], fa_cons (⟨rfl, .inl rfl, by simp [handIo, handBx], _, rfl, by simp, by first | rfl | (simp; done) | exact (List.take_of_length_le (by simp)).symm⟩) (fa_cons (rfl) (fa_cons (⟨rfl, .inl rfl, by simp [handIo, handBx], _, rfl, by simp, by first | rfl | (simp; done) | exact (List.take_of_length_le (by simp)).symm⟩) (fa_cons (rfl) (fa_nil)))), _, rfl, _, rfl, ?_⟩
    simp only [newCs, newRes, newA, resV, List.flatMap_cons, List.flatMap_nil, List.flatten_nil, List.flatten_cons, List.append_nil, List.nil_append, List.cons_append, List.length_cons, List.length_nil, List.drop_succ_cons, List.drop_zero, List.take_succ_cons, List.take_zero, if_true, if_false, Bool.false_eq_true, List.drop_nil, mixCs, isRx, Vs.put, reduceIte, Nat.reduceEqDiff, Nat.zero_add, Nat.reduceAdd, bD_len, sD_len]
    simp only [mE, newCs]
    try simp only [setEnv, Vs.put, killEnv, del, cutR, reduceIte, Nat.reduceEqDiff, Nat.reduceAdd]
    refine os_ev (evq_mvt rfl) ?_
    refine os_ev (evq_ext rfl rfl) ?_
    refine os_ev (evq_ext rfl rfl) ?_
    simp only [Vs.put, reduceIte, Nat.reduceEqDiff]
    refine os_wro (by intros; nofun) ?_
    simp only [wr]
    try simp only [setEnv, Vs.put, killEnv, del, cutR, reduceIte, Nat.reduceEqDiff, Nat.reduceAdd]
    refine os_wro (by intros; nofun) ?_
    refine st_box rfl rfl rfl rfl (Nat.le_of_ble_eq_true rfl) ?_
    simp only [List.take_zero, List.take_succ_cons, List.drop_zero, List.drop_succ_cons, List.nil_append, List.cons_append, List.append_nil, List.length_cons, List.length_nil, Nat.zero_add, Nat.add_zero, Nat.reduceAdd, Nat.reduceMul, toC, toCs, bD_len, sD_len, rep, List.getElem?_cons_zero, List.getElem?_cons_succ]
    try simp only [setEnv, Vs.put, killEnv, del, cutR, reduceIte, Nat.reduceEqDiff, Nat.reduceAdd]
    refine os_ev (evq_mvt rfl) ?_
    simp only [runOs, thenQ, blockQ, Vs.put, reduceIte, Nat.reduceEqDiff]
    refine sw_seq ?_
    refine sw_seq ?_
    refine sw_reg ?_
    unfold s10_8
    first | refine os_ev (evq_lgb rfl rfl (Nat.le_of_ble_eq_true rfl) rfl) ?_ | refine os_ev (evq_lge rfl rfl (rfl) (Nat.le_of_ble_eq_true rfl) rfl) ?_
    try simp only [List.take_zero, List.take_succ_cons, List.drop_zero, List.drop_succ_cons, List.nil_append, List.cons_append, List.append_nil, List.length_cons, List.length_nil, Nat.zero_add, Nat.add_zero, Nat.reduceAdd, Nat.reduceMul, toC, toCs, bD_len, sD_len, rep, List.getElem?_cons_zero, List.getElem?_cons_succ]
    first | refine os_ev (evq_lgb rfl rfl (Nat.le_of_ble_eq_true rfl) rfl) ?_ | refine os_ev (evq_lge rfl rfl (rfl) (Nat.le_of_ble_eq_true rfl) rfl) ?_
    try simp only [List.take_zero, List.take_succ_cons, List.drop_zero, List.drop_succ_cons, List.nil_append, List.cons_append, List.append_nil, List.length_cons, List.length_nil, Nat.zero_add, Nat.add_zero, Nat.reduceAdd, Nat.reduceMul, toC, toCs, bD_len, sD_len, rep, List.getElem?_cons_zero, List.getElem?_cons_succ]
    refine os_callo ?_
    simp only [List.map_cons, List.map_nil, St.opd, Vs.get, Vs.put, reduceIte, Nat.reduceEqDiff, Option.getD_some]
    refine ⟨_, _, runs51 (mkAt marks who).1, _, rfl, _, rfl, by simp [handIo, handBx], fa_cons (rfl) (fa_cons (rfl) (fa_cons (rfl) (fa_cons (rfl) (fa_cons (rfl) (fa_cons (rfl) (fa_nil)))))), _, rfl, _, rfl, ?_⟩
    simp only [newCs, newRes, newA, resV, List.flatMap_cons, List.flatMap_nil, List.flatten_nil, List.flatten_cons, List.append_nil, List.nil_append, List.cons_append, List.length_cons, List.length_nil, List.drop_succ_cons, List.drop_zero, List.take_succ_cons, List.take_zero, if_true, if_false, Bool.false_eq_true, List.drop_nil, mixCs, isRx, Vs.put, reduceIte, Nat.reduceEqDiff, Nat.zero_add, Nat.reduceAdd, bD_len, sD_len]
    try simp only [setEnv, Vs.put, killEnv, del, cutR, reduceIte, Nat.reduceEqDiff, Nat.reduceAdd]
    refine os_ev (evq_un rfl rfl) ?_
    refine os_ev (evq_mvt rfl) ?_
    simp only [Vs.put, reduceIte, Nat.reduceEqDiff]
    refine os_gs rfl (fun g35 => ?_) (fun g35 => ?_)
    · exact absurd g35 (by simp at g35)
    · try simp only [g35]
      try simp only [decide_eq_true_eq, decide_eq_false_iff_not, bne_iff_ne, beq_iff_eq, bne_eq_false_iff_eq, beq_eq_false_iff_ne, ne_eq, Int.not_lt, Int.not_le, gt_iff_lt, ge_iff_le, Bool.not_eq_true, Bool.not_eq_false, Bool.not_eq_true', Bool.not_eq_false', Bool.and_eq_true, Bool.or_eq_true, Bool.and_eq_false_iff, Bool.or_eq_false_iff] at g35
      refine os_gdo rfl ?_
      refine os_ev (evq_mvt rfl) ?_
      refine os_gdo rfl ?_
      refine os_ev (evq_mvt rfl) ?_
      refine os_gdo rfl ?_
      refine os_ev (evq_beq rfl rfl) ?_
      simp only [if_true, bne_self_eq_false]
      refine os_ev (evq_pickf rfl rfl) ?_
      simp only [runOs, thenQ, blockQ, Vs.put, reduceIte, Nat.reduceEqDiff]
      refine sw_cond rfl (fun h3 => ?_) (fun h3 => ?_)
      · exact absurd h3 (by simp at h3)
      · try simp only [decide_eq_true_eq, decide_eq_false_iff_not, bne_iff_ne, beq_iff_eq, bne_eq_false_iff_eq, beq_eq_false_iff_ne, ne_eq, Int.not_lt, Int.not_le, gt_iff_lt, ge_iff_le, Bool.not_eq_true, Bool.not_eq_false, Bool.not_eq_true', Bool.not_eq_false', Bool.and_eq_true, Bool.or_eq_true, Bool.and_eq_false_iff, Bool.or_eq_false_iff] at h3
        refine sw_skip ?_
        simp only [thenQ, blockQ]
        refine sw_seq ?_
        refine sw_seq ?_
        refine sw_go rfl rfl ?_
        unfold s10_10
        first | refine rd_m1 (evq_lgb rfl rfl (Nat.le_of_ble_eq_true rfl) rfl) fa_nil rfl (Nat.le_of_ble_eq_true rfl) ?_ | refine rd_m1 (evq_lge rfl rfl (rfl) (Nat.le_of_ble_eq_true rfl) rfl) fa_nil rfl (Nat.le_of_ble_eq_true rfl) ?_
        try simp only [List.take_zero, List.take_succ_cons, List.drop_zero, List.drop_succ_cons, List.nil_append, List.cons_append, List.append_nil, List.length_cons, List.length_nil, Nat.zero_add, Nat.add_zero, Nat.reduceAdd, Nat.reduceMul, toC, toCs, bD_len, sD_len, rep, List.getElem?_cons_zero, List.getElem?_cons_succ]
        first | refine rd_m0 (evq_lgb rfl rfl (Nat.le_of_ble_eq_true rfl) rfl) fa_nil (Nat.not_lt.2 (Nat.le_of_ble_eq_true rfl)) ?_ | refine rd_m0 (evq_lge rfl rfl (rfl) (Nat.le_of_ble_eq_true rfl) rfl) fa_nil (Nat.not_lt.2 (Nat.le_of_ble_eq_true rfl)) ?_
        try simp only [List.take_zero, List.take_succ_cons, List.drop_zero, List.drop_succ_cons, List.nil_append, List.cons_append, List.append_nil, List.length_cons, List.length_nil, Nat.zero_add, Nat.add_zero, Nat.reduceAdd, Nat.reduceMul, toC, toCs, bD_len, sD_len, rep, List.getElem?_cons_zero, List.getElem?_cons_succ]
        refine rd_call ?_
        simp only [List.map_cons, List.map_nil, St.opd, Vs.get, Vs.put, reduceIte, Nat.reduceEqDiff, Option.getD_some]
        refine ⟨_, _, runs49 rows phase marks (by omega) (fun r h => by have := hb2 r h; omega) (by omega), _, rfl, _, rfl, by simp [handIo, handBx], fa_cons (⟨rfl, .inl rfl, by simp [handIo, handBx], _, rfl, by simp, by first | rfl | (simp; done) | exact (List.take_of_length_le (by simp)).symm⟩) (fa_cons (rfl) (fa_cons (⟨rfl, .inl rfl, by simp [handIo, handBx], _, rfl, by simp, by first | rfl | (simp; done) | exact (List.take_of_length_le (by simp)).symm⟩) (fa_nil))), _, rfl, _, rfl, ?_⟩
        simp only [newCs, newRes, newA, resV, List.flatMap_cons, List.flatMap_nil, List.flatten_nil, List.flatten_cons, List.append_nil, List.nil_append, List.cons_append, List.length_cons, List.length_nil, List.drop_succ_cons, List.drop_zero, List.take_succ_cons, List.take_zero, if_true, if_false, Bool.false_eq_true, List.drop_nil, mixCs, isRx, Vs.put, reduceIte, Nat.reduceEqDiff, Nat.zero_add, Nat.reduceAdd, bD_len, sD_len]
        refine ⟨by first | rfl | trivial, (fa_cons (fun _ => by first | exact pd_ev (evq_lgb rfl rfl (Nat.le_of_ble_eq_true rfl) rfl) | exact pd_ev (evq_lge rfl rfl (rfl) (Nat.le_of_ble_eq_true rfl) rfl)) fa_nil), ?_⟩
        try simp only [setEnv, Vs.put, killEnv, del, cutR, reduceIte, Nat.reduceEqDiff, Nat.reduceAdd]
        refine rd_call ?_
        simp only [List.map_cons, List.map_nil, St.opd, Vs.get, Vs.put, reduceIte, Nat.reduceEqDiff, Option.getD_some]
        refine ⟨_, _, runs52 rows phase marks (fun r h => by have := hb2 r h; omega) (by omega) (by omega), _, rfl, _, rfl, by simp [handIo, handBx], fa_cons (⟨rfl, .inl rfl, by simp [handIo, handBx], _, rfl, by simp, by first | rfl | (simp; done) | exact (List.take_of_length_le (by simp)).symm⟩) (fa_cons (rfl) (fa_cons (⟨rfl, .inl rfl, by simp [handIo, handBx], _, rfl, by simp, by first | rfl | (simp; done) | exact (List.take_of_length_le (by simp)).symm⟩) (fa_cons (⟨rfl, .inl rfl, by simp [handIo, handBx], _, rfl, by simp, by first | rfl | (simp; done) | exact (List.take_of_length_le (by simp)).symm⟩) (fa_cons (rfl) (fa_cons (⟨rfl, .inl rfl, by simp [handIo, handBx], _, rfl, by simp, by first | rfl | (simp; done) | exact (List.take_of_length_le (by simp)).symm⟩) (fa_nil)))))), _, rfl, _, rfl, ?_⟩
        simp only [newCs, newRes, newA, resV, List.flatMap_cons, List.flatMap_nil, List.flatten_nil, List.flatten_cons, List.append_nil, List.nil_append, List.cons_append, List.length_cons, List.length_nil, List.drop_succ_cons, List.drop_zero, List.take_succ_cons, List.take_zero, if_true, if_false, Bool.false_eq_true, List.drop_nil, mixCs, isRx, Vs.put, reduceIte, Nat.reduceEqDiff, Nat.zero_add, Nat.reduceAdd, bD_len, sD_len]
        refine ⟨by first | rfl | trivial, (fa_cons (fun h => absurd h (Nat.not_le.2 (Nat.le_of_ble_eq_true rfl))) fa_nil), ?_⟩
        try simp only [setEnv, Vs.put, killEnv, del, cutR, reduceIte, Nat.reduceEqDiff, Nat.reduceAdd]
        refine rd_ev (evq_un rfl rfl) rfl ?_
        refine rd_nil ?_
        simp only [thenQ, blockQ, Vs.put, reduceIte, Nat.reduceEqDiff]
        refine sw_cond rfl (fun h5 => ?_) (fun h5 => ?_)
        · exact absurd h5 (by simp at h5)
        · try simp only [decide_eq_true_eq, decide_eq_false_iff_not, bne_iff_ne, beq_iff_eq, bne_eq_false_iff_eq, beq_eq_false_iff_ne, ne_eq, Int.not_lt, Int.not_le, gt_iff_lt, ge_iff_le, Bool.not_eq_true, Bool.not_eq_false, Bool.not_eq_true', Bool.not_eq_false', Bool.and_eq_true, Bool.or_eq_true, Bool.and_eq_false_iff, Bool.or_eq_false_iff] at h5
          refine sw_skip ?_
          simp only [thenQ, blockQ]
          refine sw_seq ?_
          refine sw_reg ?_
          unfold s10_12
          refine os_ev (evq_mvk) ?_
          simp only [runOs, thenQ, blockQ, Vs.put, reduceIte, Nat.reduceEqDiff]
          refine sw_ret ?_
          simp only [thenQ, blockQ, resK, ev, St.opd, Vs.get, reduceIte, Nat.reduceEqDiff, Option.getD_some]
          first | exact leaves_vals rfl rfl rfl rfl | exact leaves_a rfl rfl rfl rfl
end Go.Proofs.Ytgbapgjdkoojdaa
