import Derived.Test.YtgbapgjdkoojdaaVsE4
import Derived.Test.YtgbapgjdkoojdaaVsE16
import Derived.Test.YtgbapgjdkoojdaaVsW2
namespace Go.Proofs.Ytgbapgjdkoojdaa
open Go.Vs
set_option linter.unusedSimpArgs false
set_option linter.unusedVariables false
set_option maxHeartbeats 1000000
theorem runs29 (n : Int) : Runs Try.prog 29 [.val false [(.rd, .lf (.int .i64 n))]] ⟨[(true, [.sl 1 (sD (newS n)), .sl 2 (wD []), .lf (.int .i64 (newF n)), .lf (.bool false)])], [], []⟩ := by
  obtain ⟨c, hb, hs⟩ := body_of tr29
  refine runs_of_sw (is := [.load (some 4) (.t 2)]) Try.func29 hb hs (by kernel_rfl) (show 1 ≤ 22 by decide) ?_
  clear hb hs c
  simp only [inAs, inCells, flat, List.flatMap_cons, List.flatMap_nil, Arg.cells, List.cons_append, List.nil_append, inCs, inC, fixN, fixCs, fixC, nBox, inV, inB, rootB, List.length_cons, List.length_nil, List.take_succ_cons, List.take_zero, List.drop_succ_cons, List.drop_zero, env0, Nat.zero_add, Nat.add_zero, List.append_nil, Nat.reduceAdd]
  unfold s29
  refine sw_seq ?_
  refine sw_reg ?_
  unfold s29_0
  refine os_wro (by intros; nofun) ?_
  simp only [wr]
  simp only [setEnv, Vs.put, killEnv, del, cutR, reduceIte, Nat.reduceEqDiff, Nat.reduceAdd]
  simp only [runOs, thenQ, blockQ, Vs.put, reduceIte, Nat.reduceEqDiff]
  refine sw_seq ?_
  refine sw_seq ?_
  refine sw_reg ?_
  unfold s29_1
  refine os_ev (evq_mvt rfl) ?_
  refine os_callo ?_
  simp only [List.map_cons, List.map_nil, St.opd, Vs.get, Vs.put, reduceIte, Nat.reduceEqDiff, Option.getD_some]
  refine ⟨_, _, runs74 n 1 64, _, rfl, _, rfl, by simp [handIo, handBx], fa_cons (rfl) (fa_cons (rfl) (fa_cons (rfl) (fa_nil))), _, rfl, _, rfl, ?_⟩
  simp only [newCs, newRes, newA, resV, List.flatMap_cons, List.flatMap_nil, List.flatten_nil, List.flatten_cons, List.append_nil, List.nil_append, List.cons_append, List.length_cons, List.length_nil, List.drop_succ_cons, List.drop_zero, List.take_succ_cons, List.take_zero, if_true, if_false, Bool.false_eq_true, List.drop_nil, mixCs, isRx, Vs.put, reduceIte, Nat.reduceEqDiff, Nat.zero_add, Nat.reduceAdd, bD_len, sD_len]
  simp only [setEnv, Vs.put, killEnv, del, cutR, reduceIte, Nat.reduceEqDiff, Nat.reduceAdd]
  refine os_ev (evq_un rfl rfl) ?_
  simp only [runOs, thenQ, blockQ, Vs.put, reduceIte, Nat.reduceEqDiff]
  refine sw_cond rfl (fun h1 => ?_) (fun h1 => ?_)
  · try simp only [decide_eq_true_eq, decide_eq_false_iff_not, bne_iff_ne, beq_iff_eq, bne_eq_false_iff_eq, beq_eq_false_iff_ne, ne_eq, Int.not_lt, Int.not_le, gt_iff_lt, ge_iff_le, Bool.not_eq_true, Bool.not_eq_false, Bool.not_eq_true', Bool.not_eq_false', Bool.and_eq_true, Bool.or_eq_true, Bool.and_eq_false_iff, Bool.or_eq_false_iff] at h1
    refine sw_seq ?_
    refine sw_reg ?_
    unfold s29_2
    refine os_ev (evq_build rfl) ?_
    try simp only [List.take_zero, List.take_succ_cons, List.drop_zero, List.drop_succ_cons, List.nil_append, List.cons_append, List.append_nil, List.length_cons, List.length_nil, Nat.zero_add, Nat.add_zero, Nat.reduceAdd, Nat.reduceMul, toC, toCs, bD_len, sD_len, rep, List.getElem?_cons_zero, List.getElem?_cons_succ]
    refine os_wro (by intros; nofun) ?_
    refine st_box rfl rfl rfl rfl (Nat.le_of_ble_eq_true rfl) ?_
    simp only [List.take_zero, List.take_succ_cons, List.drop_zero, List.drop_succ_cons, List.nil_append, List.cons_append, List.append_nil, List.length_cons, List.length_nil, Nat.zero_add, Nat.add_zero, Nat.reduceAdd, Nat.reduceMul, toC, toCs, bD_len, sD_len, rep, List.getElem?_cons_zero, List.getElem?_cons_succ]
    simp only [setEnv, Vs.put, killEnv, del, cutR, reduceIte, Nat.reduceEqDiff, Nat.reduceAdd]
    simp only [runOs, thenQ, blockQ, Vs.put, reduceIte, Nat.reduceEqDiff]
    refine sw_ret ?_
    simp only [thenQ, blockQ, resK, ev, St.opd, Vs.get, reduceIte, Nat.reduceEqDiff, Option.getD_some]
    rw [(newS_no (n := n) (by omega)).1, (newS_no (n := n) (by omega)).2]
    refine ⟨_, rfl, Nat.le_of_ble_eq_true rfl, ?_⟩
    simp only [List.take_zero, List.take_succ_cons, List.drop_zero, List.drop_succ_cons, List.nil_append, List.cons_append, List.append_nil, List.length_cons, List.length_nil, Nat.zero_add, Nat.add_zero, Nat.reduceAdd, Nat.reduceMul, toC, toCs, bD_len, sD_len, rep, List.getElem?_cons_zero, List.getElem?_cons_succ, resV]
    exact leaves_a rfl rfl rfl (take_nl (take_nl (take_lf (take_lf rfl))))
  · try simp only [decide_eq_true_eq, decide_eq_false_iff_not, bne_iff_ne, beq_iff_eq, bne_eq_false_iff_eq, beq_eq_false_iff_ne, ne_eq, Int.not_lt, Int.not_le, gt_iff_lt, ge_iff_le, Bool.not_eq_true, Bool.not_eq_false, Bool.not_eq_true', Bool.not_eq_false', Bool.and_eq_true, Bool.or_eq_true, Bool.and_eq_false_iff, Bool.or_eq_false_iff] at h1
    obtain ⟨n, rfl⟩ : ∃ n0 : Nat, n = n0 := ⟨n.toNat, by omega⟩
    rw [(newS_yes h1).1, (newS_yes h1).2]
    refine sw_skip ?_
    simp only [thenQ, blockQ]
    refine sw_seq ?_
    refine sw_reg ?_
    unfold s29_3
    refine os_ev (evq_build rfl) ?_
    try simp only [List.take_zero, List.take_succ_cons, List.drop_zero, List.drop_succ_cons, List.nil_append, List.cons_append, List.append_nil, List.length_cons, List.length_nil, Nat.zero_add, Nat.add_zero, Nat.reduceAdd, Nat.reduceMul, toC, toCs, bD_len, sD_len, rep, List.getElem?_cons_zero, List.getElem?_cons_succ]
    refine os_wro (by intros; nofun) ?_
    simp only [wr]
    simp only [setEnv, Vs.put, killEnv, del, cutR, reduceIte, Nat.reduceEqDiff, Nat.reduceAdd]
    refine os_wro (by intros; nofun) ?_
    refine st_box rfl rfl rfl rfl (Nat.le_of_ble_eq_true rfl) ?_
    simp only [List.take_zero, List.take_succ_cons, List.drop_zero, List.drop_succ_cons, List.nil_append, List.cons_append, List.append_nil, List.length_cons, List.length_nil, Nat.zero_add, Nat.add_zero, Nat.reduceAdd, Nat.reduceMul, toC, toCs, bD_len, sD_len, rep, List.getElem?_cons_zero, List.getElem?_cons_succ]
    simp only [setEnv, Vs.put, killEnv, del, cutR, reduceIte, Nat.reduceEqDiff, Nat.reduceAdd]
    simp only [runOs, thenQ, blockQ, Vs.put, reduceIte, Nat.reduceEqDiff]
    refine sw_seq ?_
    refine sw_seq ?_
    refine sw_reg ?_
    unfold s29_4
    refine os_ev (evq_mvk) ?_
    simp only [Vs.put, reduceIte, Nat.reduceEqDiff]
    simp only [runOs, thenQ, blockQ, Vs.put, reduceIte, Nat.reduceEqDiff]
    refine sw_block ?_
    refine sw_nl_box 1 0 rfl rfl ?_
    simp only [Vs.put, reduceIte, Nat.reduceEqDiff, Nat.reduceAdd, List.set_cons_zero]
    refine sw_loop_upd [0, 2, 3, 4, 35] (α := Nat) (fun i => [(4, .a (.c (.lf (.int .i64 (i : Nat)))))]) (fun i => [(2, .tr 1 (sD (List.replicate i []))), (1, .bx [.rf 2 [] 1 0 i, .nl 2, .lf (.int .i64 (-1)), .lf (.bool false)]), (0, .bx [.nl 1, .nl 2, .lf (.int .i64 0), .lf (.bool false)])]) (3) (fun i => i ≤ n) (fun i => n - i) (0) [(2, 2), (1, 1), (0, 0)] ?_ (by decide) ?_ ?_ ?_
    · exact Nat.zero_le _
    · simp only [sel, Vs.get, upd, Vs.put, reduceIte, Nat.reduceEqDiff]
      repeat' (first | exact er_nil | refine er_un ?_ | refine er_cons rfl ?_ ?_)
      all_goals (try simp only [V.map, A.map, renC, Vs.get, reduceIte, Nat.reduceEqDiff, List.map_cons, List.map_nil])
      all_goals (try rfl)
    · repeat' (first | exact rr_nil | refine rr_cons 2 rfl rfl ?_ ?_ | refine rr_cons 1 rfl rfl ?_ ?_ | refine rr_cons 0 rfl rfl ?_ ?_)
      all_goals (try simp only [renRoot, renC, Vs.get, reduceIte, Nat.reduceEqDiff, List.map_cons, List.map_nil])
      all_goals (try rfl)
    · rintro i hinv
      simp only [sel, Vs.get, upd, Vs.put, reduceIte, Nat.reduceEqDiff]
      refine sw_seq ?_
      refine sw_seq ?_
      refine sw_reg ?_
      unfold s29_5
      refine os_ev (evq_mvt rfl) ?_
      refine os_ev (evq_mvt rfl) ?_
      refine os_ev (evq_bin rfl rfl rfl) ?_
      simp only [runOs, thenQ, blockQ, Vs.put, reduceIte, Nat.reduceEqDiff]
      refine sw_cond rfl (fun h4 => ?_) (fun h4 => ?_)
      · try simp only [decide_eq_true_eq, decide_eq_false_iff_not, bne_iff_ne, beq_iff_eq, bne_eq_false_iff_eq, beq_eq_false_iff_ne, ne_eq, Int.not_lt, Int.not_le, gt_iff_lt, ge_iff_le, Bool.not_eq_true, Bool.not_eq_false, Bool.not_eq_true', Bool.not_eq_false', Bool.and_eq_true, Bool.or_eq_true, Bool.and_eq_false_iff, Bool.or_eq_false_iff] at h4
        have hib : i < n := by omega
        have e1 : IntKind.i64.wrap ((i : Int) + 1) = ((i + 1 : Nat) : Int) := by rw [wrap64 (by omega) (by omega)]; rfl
        refine sw_skip ?_
        simp only [thenQ, blockQ]
        refine sw_seq ?_
        refine sw_block ?_
        refine sw_reg ?_
        unfold s29_7
        first | refine os_ev (evq_fadb rfl) ?_ | refine os_ev (evq_fade rfl) ?_
        try simp only [List.take_zero, List.take_succ_cons, List.drop_zero, List.drop_succ_cons, List.nil_append, List.cons_append, List.append_nil, List.length_cons, List.length_nil, Nat.zero_add, Nat.add_zero, Nat.reduceAdd, Nat.reduceMul, toC, toCs, bD_len, sD_len, rep, List.getElem?_cons_zero, List.getElem?_cons_succ]
        first | refine os_ev (evq_ldb rfl rfl rfl) ?_ | refine os_ev (evq_ldl rfl rfl (rfl) rfl) ?_ | refine os_ev (evq_lds rfl rfl (rfl) rfl) ?_
        try simp only [List.take_zero, List.take_succ_cons, List.drop_zero, List.drop_succ_cons, List.nil_append, List.cons_append, List.append_nil, List.length_cons, List.length_nil, Nat.zero_add, Nat.add_zero, Nat.reduceAdd, Nat.reduceMul, toC, toCs, bD_len, sD_len, rep, List.getElem?_cons_zero, List.getElem?_cons_succ]
        simp only [Vs.put, reduceIte, Nat.reduceEqDiff]
        refine os_wro (by intros; nofun) ?_
        refine ⟨_, rfl, _, rfl, ?_⟩
        simp only [chunk, List.take_zero, List.take_succ_cons, List.drop_zero, List.drop_succ_cons, List.nil_append, List.cons_append, List.append_nil, List.length_cons, List.length_nil, Nat.zero_add, Nat.add_zero, Nat.reduceAdd, Nat.reduceMul, toC, toCs, bD_len, sD_len, rep, List.getElem?_cons_zero, List.getElem?_cons_succ]
        simp only [setEnv, Vs.put, killEnv, del, cutR, reduceIte, Nat.reduceEqDiff, Nat.reduceAdd]
        refine os_wro (by intros; nofun) ?_
        refine ⟨[.rf 3 [] 1 0 0], rfl, ([.sl 1 []], _), take_cons rfl rfl rfl, ?_⟩
        simp only [chunk, List.take_succ_cons, List.take_zero, List.drop_succ_cons, List.drop_zero, cutR]
        simp only [setEnv, Vs.put, killEnv, del, cutR, reduceIte, Nat.reduceEqDiff, Nat.reduceAdd]
        refine os_wro (by intros; nofun) ?_
        refine app_elem (es := sD (List.replicate i [])) (e := [.sl 1 (bD [])]) rfl rfl (by simp) rfl (by decide) rfl (by simp; omega) ?_
        rw [sD_snoc, ← List.replicate_succ']
        simp only [sD_len, List.length_replicate]
        simp only [setEnv, Vs.put, killEnv, del, cutR, reduceIte, Nat.reduceEqDiff, Nat.reduceAdd]
        first | refine os_ev (evq_fadb rfl) ?_ | refine os_ev (evq_fade rfl) ?_
        try simp only [List.take_zero, List.take_succ_cons, List.drop_zero, List.drop_succ_cons, List.nil_append, List.cons_append, List.append_nil, List.length_cons, List.length_nil, Nat.zero_add, Nat.add_zero, Nat.reduceAdd, Nat.reduceMul, toC, toCs, bD_len, sD_len, rep, List.getElem?_cons_zero, List.getElem?_cons_succ]
        refine os_wro (by intros; nofun) ?_
        refine st_box rfl rfl rfl rfl (Nat.le_of_ble_eq_true rfl) ?_
        simp only [List.take_zero, List.take_succ_cons, List.drop_zero, List.drop_succ_cons, List.nil_append, List.cons_append, List.append_nil, List.length_cons, List.length_nil, Nat.zero_add, Nat.add_zero, Nat.reduceAdd, Nat.reduceMul, toC, toCs, bD_len, sD_len, rep, List.getElem?_cons_zero, List.getElem?_cons_succ]
        simp only [setEnv, Vs.put, killEnv, del, cutR, reduceIte, Nat.reduceEqDiff, Nat.reduceAdd]
        simp only [runOs, thenQ, blockQ, Vs.put, reduceIte, Nat.reduceEqDiff]
        refine sw_reg ?_
        unfold s29_6
        refine os_ev (evq_mvt rfl) ?_
        refine os_ev (evq_bin rfl rfl rfl) ?_
        refine os_ev (evq_mvt rfl) ?_
        simp only [runOs, thenQ, blockQ, Vs.put, reduceIte, Nat.reduceEqDiff]
        try simp only [thenQ, blockQ]
        refine ⟨i + 1, ?_, ?_, rfl, [(5, 2), (1, 1), (0, 0)], by decide, ?_, ?_⟩
        · omega
        · first | omega | (dsimp only; omega)
        · simp only [sel, Vs.get, upd, Vs.put, reduceIte, Nat.reduceEqDiff]
          repeat' (first | exact er_nil | refine er_un ?_ | refine er_cons rfl ?_ ?_)
          all_goals (try simp only [V.map, A.map, renC, Vs.get, reduceIte, Nat.reduceEqDiff, List.map_cons, List.map_nil, e1])
        · repeat' (first | exact rr_nil | refine rr_cons 5 rfl rfl ?_ ?_ | refine rr_cons 1 rfl rfl ?_ ?_ | refine rr_cons 0 rfl rfl ?_ ?_)
          all_goals (try simp only [renRoot, renC, Vs.get, reduceIte, Nat.reduceEqDiff, List.map_cons, List.map_nil, e1])
      · try simp only [decide_eq_true_eq, decide_eq_false_iff_not, bne_iff_ne, beq_iff_eq, bne_eq_false_iff_eq, beq_eq_false_iff_ne, ne_eq, Int.not_lt, Int.not_le, gt_iff_lt, ge_iff_le, Bool.not_eq_true, Bool.not_eq_false, Bool.not_eq_true', Bool.not_eq_false', Bool.and_eq_true, Bool.or_eq_true, Bool.and_eq_false_iff, Bool.or_eq_false_iff] at h4
        have hib : i = n := by omega
        subst hib
        refine sw_exit ?_
        simp only [thenQ, blockQ, if_true, Nat.reduceEqDiff, if_false, reduceIte]
        refine sw_seq ?_
        refine sw_reg ?_
        unfold s29_8
        first | refine os_ev (evq_lgb rfl rfl (Nat.le_of_ble_eq_true rfl) rfl) ?_ | refine os_ev (evq_lge rfl rfl (rfl) (Nat.le_of_ble_eq_true rfl) rfl) ?_
        try simp only [List.take_zero, List.take_succ_cons, List.drop_zero, List.drop_succ_cons, List.nil_append, List.cons_append, List.append_nil, List.length_cons, List.length_nil, Nat.zero_add, Nat.add_zero, Nat.reduceAdd, Nat.reduceMul, toC, toCs, bD_len, sD_len, rep, List.getElem?_cons_zero, List.getElem?_cons_succ]
        simp only [Vs.put, reduceIte, Nat.reduceEqDiff]
        refine os_wro (by intros; nofun) ?_
        refine st_box rfl rfl rfl rfl (Nat.le_of_ble_eq_true rfl) ?_
        simp only [List.take_zero, List.take_succ_cons, List.drop_zero, List.drop_succ_cons, List.nil_append, List.cons_append, List.append_nil, List.length_cons, List.length_nil, Nat.zero_add, Nat.add_zero, Nat.reduceAdd, Nat.reduceMul, toC, toCs, bD_len, sD_len, rep, List.getElem?_cons_zero, List.getElem?_cons_succ]
        simp only [setEnv, Vs.put, killEnv, del, cutR, reduceIte, Nat.reduceEqDiff, Nat.reduceAdd]
        simp only [runOs, thenQ, blockQ, Vs.put, reduceIte, Nat.reduceEqDiff]
        refine sw_ret ?_
        simp only [thenQ, blockQ, resK, ev, St.opd, Vs.get, reduceIte, Nat.reduceEqDiff, Option.getD_some]
        refine ⟨_, rfl, Nat.le_of_ble_eq_true rfl, ?_⟩
        simp only [List.take_zero, List.take_succ_cons, List.drop_zero, List.drop_succ_cons, List.nil_append, List.cons_append, List.append_nil, List.length_cons, List.length_nil, Nat.zero_add, Nat.add_zero, Nat.reduceAdd, Nat.reduceMul, toC, toCs, bD_len, sD_len, rep, List.getElem?_cons_zero, List.getElem?_cons_succ, resV]
        exact leaves_a rfl rfl rfl (take_cons rfl (by simp) (take_nl (take_lf (take_lf rfl))))
theorem runs30 (n : Int) : Runs Try.prog 30 [.val false [(.rd, .lf (.int .i64 n))]] ⟨[(true, [.sl 1 (sD (newS n)), .sl 2 (wD []), .lf (.int .i64 (newF n)), .lf (.bool false)])], [], []⟩ := by
  obtain ⟨c, hb, hs⟩ := body_of tr30
  refine runs_of_sw (is := [.load (some 4) (.t 2)]) Try.func30 hb hs (by kernel_rfl) (show 1 ≤ 10 by decide) ?_
  clear hb hs c
  simp only [inAs, inCells, flat, List.flatMap_cons, List.flatMap_nil, Arg.cells, List.cons_append, List.nil_append, inCs, inC, fixN, fixCs, fixC, nBox, inV, inB, rootB, List.length_cons, List.length_nil, List.take_succ_cons, List.take_zero, List.drop_succ_cons, List.drop_zero, env0, Nat.zero_add, Nat.add_zero, List.append_nil, Nat.reduceAdd]
  unfold s30
  refine sw_seq ?_
  refine sw_reg ?_
  unfold s30_0
  refine os_wro (by intros; nofun) ?_
  simp only [wr]
  simp only [setEnv, Vs.put, killEnv, del, cutR, reduceIte, Nat.reduceEqDiff, Nat.reduceAdd]
  simp only [runOs, thenQ, blockQ, Vs.put, reduceIte, Nat.reduceEqDiff]
  refine sw_seq ?_
  refine sw_seq ?_
  refine sw_reg ?_
  unfold s30_1
  refine os_ev (evq_mvt rfl) ?_
  refine os_callo ?_
  simp only [List.map_cons, List.map_nil, St.opd, Vs.get, Vs.put, reduceIte, Nat.reduceEqDiff, Option.getD_some]
  refine ⟨_, _, runs77 n 1 64, _, rfl, _, rfl, by simp [handIo, handBx], fa_cons (rfl) (fa_cons (rfl) (fa_cons (rfl) (fa_nil))), _, rfl, _, rfl, ?_⟩
  simp only [newCs, newRes, newA, resV, List.flatMap_cons, List.flatMap_nil, List.flatten_nil, List.flatten_cons, List.append_nil, List.nil_append, List.cons_append, List.length_cons, List.length_nil, List.drop_succ_cons, List.drop_zero, List.take_succ_cons, List.take_zero, if_true, if_false, Bool.false_eq_true, List.drop_nil, mixCs, isRx, Vs.put, reduceIte, Nat.reduceEqDiff, Nat.zero_add, Nat.reduceAdd, bD_len, sD_len]
  simp only [setEnv, Vs.put, killEnv, del, cutR, reduceIte, Nat.reduceEqDiff, Nat.reduceAdd]
  refine os_ev (evq_un rfl rfl) ?_
  simp only [runOs, thenQ, blockQ, Vs.put, reduceIte, Nat.reduceEqDiff]
  refine sw_cond rfl (fun h1 => ?_) (fun h1 => ?_)
  · try simp only [decide_eq_true_eq, decide_eq_false_iff_not, bne_iff_ne, beq_iff_eq, bne_eq_false_iff_eq, beq_eq_false_iff_ne, ne_eq, Int.not_lt, Int.not_le, gt_iff_lt, ge_iff_le, Bool.not_eq_true, Bool.not_eq_false, Bool.not_eq_true', Bool.not_eq_false', Bool.and_eq_true, Bool.or_eq_true, Bool.and_eq_false_iff, Bool.or_eq_false_iff] at h1
    refine sw_seq ?_
    refine sw_reg ?_
    unfold s30_2
    refine os_ev (evq_build rfl) ?_
    try simp only [List.take_zero, List.take_succ_cons, List.drop_zero, List.drop_succ_cons, List.nil_append, List.cons_append, List.append_nil, List.length_cons, List.length_nil, Nat.zero_add, Nat.add_zero, Nat.reduceAdd, Nat.reduceMul, toC, toCs, bD_len, sD_len, rep, List.getElem?_cons_zero, List.getElem?_cons_succ]
    refine os_wro (by intros; nofun) ?_
    refine st_box rfl rfl rfl rfl (Nat.le_of_ble_eq_true rfl) ?_
    simp only [List.take_zero, List.take_succ_cons, List.drop_zero, List.drop_succ_cons, List.nil_append, List.cons_append, List.append_nil, List.length_cons, List.length_nil, Nat.zero_add, Nat.add_zero, Nat.reduceAdd, Nat.reduceMul, toC, toCs, bD_len, sD_len, rep, List.getElem?_cons_zero, List.getElem?_cons_succ]
    simp only [setEnv, Vs.put, killEnv, del, cutR, reduceIte, Nat.reduceEqDiff, Nat.reduceAdd]
    simp only [runOs, thenQ, blockQ, Vs.put, reduceIte, Nat.reduceEqDiff]
    refine sw_ret ?_
    simp only [thenQ, blockQ, resK, ev, St.opd, Vs.get, reduceIte, Nat.reduceEqDiff, Option.getD_some]
    rw [(newS_no (n := n) (by omega)).1, (newS_no (n := n) (by omega)).2]
    refine ⟨_, rfl, Nat.le_of_ble_eq_true rfl, ?_⟩
    simp only [List.take_zero, List.take_succ_cons, List.drop_zero, List.drop_succ_cons, List.nil_append, List.cons_append, List.append_nil, List.length_cons, List.length_nil, Nat.zero_add, Nat.add_zero, Nat.reduceAdd, Nat.reduceMul, toC, toCs, bD_len, sD_len, rep, List.getElem?_cons_zero, List.getElem?_cons_succ, resV]
    exact leaves_a rfl rfl rfl (take_nl (take_nl (take_lf (take_lf rfl))))
  · try simp only [decide_eq_true_eq, decide_eq_false_iff_not, bne_iff_ne, beq_iff_eq, bne_eq_false_iff_eq, beq_eq_false_iff_ne, ne_eq, Int.not_lt, Int.not_le, gt_iff_lt, ge_iff_le, Bool.not_eq_true, Bool.not_eq_false, Bool.not_eq_true', Bool.not_eq_false', Bool.and_eq_true, Bool.or_eq_true, Bool.and_eq_false_iff, Bool.or_eq_false_iff] at h1
    obtain ⟨n, rfl⟩ : ∃ n0 : Nat, n = n0 := ⟨n.toNat, by omega⟩
    rw [(newS_yes h1).1, (newS_yes h1).2]
    refine sw_skip ?_
    simp only [thenQ, blockQ]
    refine sw_seq ?_
    refine sw_reg ?_
    unfold s30_3
    refine os_ev (evq_mvt rfl) ?_
    refine os_wro (by intros; nofun) ?_
    refine mks_slices rfl rfl (by omega) (by omega) ?_
    simp only [setEnv, Vs.put, killEnv, del, cutR, reduceIte, Nat.reduceEqDiff, Nat.reduceAdd]
    refine os_ev (evq_build rfl) ?_
    try simp only [List.take_zero, List.take_succ_cons, List.drop_zero, List.drop_succ_cons, List.nil_append, List.cons_append, List.append_nil, List.length_cons, List.length_nil, Nat.zero_add, Nat.add_zero, Nat.reduceAdd, Nat.reduceMul, toC, toCs, bD_len, sD_len, rep, List.getElem?_cons_zero, List.getElem?_cons_succ]
    simp only [Vs.put, reduceIte, Nat.reduceEqDiff]
    refine os_wro (by intros; nofun) ?_
    refine st_box rfl rfl rfl rfl (Nat.le_of_ble_eq_true rfl) ?_
    simp only [List.take_zero, List.take_succ_cons, List.drop_zero, List.drop_succ_cons, List.nil_append, List.cons_append, List.append_nil, List.length_cons, List.length_nil, Nat.zero_add, Nat.add_zero, Nat.reduceAdd, Nat.reduceMul, toC, toCs, bD_len, sD_len, rep, List.getElem?_cons_zero, List.getElem?_cons_succ]
    simp only [setEnv, Vs.put, killEnv, del, cutR, reduceIte, Nat.reduceEqDiff, Nat.reduceAdd]
    simp only [runOs, thenQ, blockQ, Vs.put, reduceIte, Nat.reduceEqDiff]
    refine sw_ret ?_
    simp only [thenQ, blockQ, resK, ev, St.opd, Vs.get, reduceIte, Nat.reduceEqDiff, Option.getD_some]
    refine ⟨_, rfl, Nat.le_of_ble_eq_true rfl, ?_⟩
    simp only [List.take_zero, List.take_succ_cons, List.drop_zero, List.drop_succ_cons, List.nil_append, List.cons_append, List.append_nil, List.length_cons, List.length_nil, Nat.zero_add, Nat.add_zero, Nat.reduceAdd, Nat.reduceMul, toC, toCs, bD_len, sD_len, rep, List.getElem?_cons_zero, List.getElem?_cons_succ, resV]
    exact leaves_a rfl rfl rfl (take_cons rfl (by simp) (take_nl (take_lf (take_lf rfl))))
theorem runs6 (n : Int) : Runs Try.prog 6 [.val false [(.rd, .lf (.int .i64 n))]] ⟨[(false, [.lf (.bool true)])], [], []⟩ := by
  obtain ⟨c, hb, hs⟩ := body_of tr6
  refine runs_of_sw Try.func6 hb hs rfl (show 1 ≤ 41 by decide) ?_
  clear hb hs c
  simp only [inAs, inCells, flat, List.flatMap_cons, List.flatMap_nil, Arg.cells, List.cons_append, List.nil_append, inCs, inC, fixN, fixCs, fixC, nBox, inV, inB, rootB, List.length_cons, List.length_nil, List.take_succ_cons, List.take_zero, List.drop_succ_cons, List.drop_zero, env0, Nat.zero_add, Nat.add_zero, List.append_nil, Nat.reduceAdd]
  unfold s6
  have hs : ∀ b ∈ newS n, b.length < 2 ^ 62 := fun b hb => by rw [newS_mem hb]; decide
  have hl := newS_len n
  refine sw_seq ?_
  refine sw_reg ?_
  unfold s6_0
  refine os_ev (evq_mvk) ?_
  simp only [runOs, thenQ, blockQ, Vs.put, reduceIte, Nat.reduceEqDiff]
  refine sw_seq ?_
  refine sw_reg ?_
  unfold s6_1
  refine os_ev (evq_mvt rfl) ?_
  refine os_callo ?_
  simp only [List.map_cons, List.map_nil, St.opd, Vs.get, Vs.put, reduceIte, Nat.reduceEqDiff, Option.getD_some]
  refine ⟨_, _, runs29 n, _, rfl, _, rfl, by simp [handIo, handBx], fa_cons (rfl) (fa_nil), _, rfl, _, rfl, ?_⟩
  simp only [newCs, newRes, newA, resV, List.flatMap_cons, List.flatMap_nil, List.flatten_nil, List.flatten_cons, List.append_nil, List.nil_append, List.cons_append, List.length_cons, List.length_nil, List.drop_succ_cons, List.drop_zero, List.take_succ_cons, List.take_zero, if_true, if_false, Bool.false_eq_true, List.drop_nil, mixCs, isRx, Vs.put, reduceIte, Nat.reduceEqDiff, Nat.zero_add, Nat.reduceAdd, bD_len, sD_len]
  simp only [setEnv, Vs.put, killEnv, del, cutR, reduceIte, Nat.reduceEqDiff, Nat.reduceAdd]
  refine os_wro (by intros; nofun) ?_
  simp only [wr]
  simp only [setEnv, Vs.put, killEnv, del, cutR, reduceIte, Nat.reduceEqDiff, Nat.reduceAdd]
  refine os_wro (by intros; nofun) ?_
  refine st_box rfl rfl rfl rfl (Nat.le_of_ble_eq_true rfl) ?_
  simp only [List.take_zero, List.take_succ_cons, List.drop_zero, List.drop_succ_cons, List.nil_append, List.cons_append, List.append_nil, List.length_cons, List.length_nil, Nat.zero_add, Nat.add_zero, Nat.reduceAdd, Nat.reduceMul, toC, toCs, bD_len, sD_len, rep, List.getElem?_cons_zero, List.getElem?_cons_succ]
  simp only [setEnv, Vs.put, killEnv, del, cutR, reduceIte, Nat.reduceEqDiff, Nat.reduceAdd]
  simp only [runOs, thenQ, blockQ, Vs.put, reduceIte, Nat.reduceEqDiff]
  refine sw_seq ?_
  refine sw_reg ?_
  unfold s6_2
  refine os_ev (evq_mvt rfl) ?_
  refine os_callo ?_
  simp only [List.map_cons, List.map_nil, St.opd, Vs.get, Vs.put, reduceIte, Nat.reduceEqDiff, Option.getD_some]
  refine ⟨_, _, runs30 n, _, rfl, _, rfl, by simp [handIo, handBx], fa_cons (rfl) (fa_nil), _, rfl, _, rfl, ?_⟩
  simp only [newCs, newRes, newA, resV, List.flatMap_cons, List.flatMap_nil, List.flatten_nil, List.flatten_cons, List.append_nil, List.nil_append, List.cons_append, List.length_cons, List.length_nil, List.drop_succ_cons, List.drop_zero, List.take_succ_cons, List.take_zero, if_true, if_false, Bool.false_eq_true, List.drop_nil, mixCs, isRx, Vs.put, reduceIte, Nat.reduceEqDiff, Nat.zero_add, Nat.reduceAdd, bD_len, sD_len]
  simp only [setEnv, Vs.put, killEnv, del, cutR, reduceIte, Nat.reduceEqDiff, Nat.reduceAdd]
  refine os_wro (by intros; nofun) ?_
  simp only [wr]
  simp only [setEnv, Vs.put, killEnv, del, cutR, reduceIte, Nat.reduceEqDiff, Nat.reduceAdd]
  refine os_wro (by intros; nofun) ?_
  refine st_box rfl rfl rfl rfl (Nat.le_of_ble_eq_true rfl) ?_
  simp only [List.take_zero, List.take_succ_cons, List.drop_zero, List.drop_succ_cons, List.nil_append, List.cons_append, List.append_nil, List.length_cons, List.length_nil, Nat.zero_add, Nat.add_zero, Nat.reduceAdd, Nat.reduceMul, toC, toCs, bD_len, sD_len, rep, List.getElem?_cons_zero, List.getElem?_cons_succ]
  simp only [setEnv, Vs.put, killEnv, del, cutR, reduceIte, Nat.reduceEqDiff, Nat.reduceAdd]
  simp only [runOs, thenQ, blockQ, Vs.put, reduceIte, Nat.reduceEqDiff]
  refine sw_seq ?_
  refine sw_seq ?_
  refine sw_reg ?_
  unfold s6_3
  first | refine os_ev (evq_lgb rfl rfl (Nat.le_of_ble_eq_true rfl) rfl) ?_ | refine os_ev (evq_lge rfl rfl (rfl) (Nat.le_of_ble_eq_true rfl) rfl) ?_
  try simp only [List.take_zero, List.take_succ_cons, List.drop_zero, List.drop_succ_cons, List.nil_append, List.cons_append, List.append_nil, List.length_cons, List.length_nil, Nat.zero_add, Nat.add_zero, Nat.reduceAdd, Nat.reduceMul, toC, toCs, bD_len, sD_len, rep, List.getElem?_cons_zero, List.getElem?_cons_succ]
  first | refine os_ev (evq_lgb rfl rfl (Nat.le_of_ble_eq_true rfl) rfl) ?_ | refine os_ev (evq_lge rfl rfl (rfl) (Nat.le_of_ble_eq_true rfl) rfl) ?_
  try simp only [List.take_zero, List.take_succ_cons, List.drop_zero, List.drop_succ_cons, List.nil_append, List.cons_append, List.append_nil, List.length_cons, List.length_nil, Nat.zero_add, Nat.add_zero, Nat.reduceAdd, Nat.reduceMul, toC, toCs, bD_len, sD_len, rep, List.getElem?_cons_zero, List.getElem?_cons_succ]
  simp only [Vs.put, reduceIte, Nat.reduceEqDiff]
  refine os_callo ?_
  simp only [List.map_cons, List.map_nil, St.opd, Vs.get, Vs.put, reduceIte, Nat.reduceEqDiff, Option.getD_some]
  refine ⟨_, _, runs31 (newS n) [] (newF n) false hs (by omega) (by simp) (by simp), _, rfl, _, rfl, by simp [handIo, handBx], fa_cons (⟨rfl, .inl rfl, by simp [handIo, handBx], _, rfl, by simp, by first | rfl | (simp; done) | exact (List.take_of_length_le (by simp)).symm⟩) (fa_cons (⟨rfl, .inl rfl, by simp [handIo, handBx], _, rfl, by simp, by first | rfl | (simp; done) | exact (List.take_of_length_le (by simp)).symm⟩) (fa_cons (rfl) (fa_cons (rfl) (fa_cons (⟨rfl, .inl rfl, by simp [handIo, handBx], _, rfl, by simp, by first | rfl | (simp; done) | exact (List.take_of_length_le (by simp)).symm⟩) (fa_cons (⟨rfl, .inl rfl, by simp [handIo, handBx], _, rfl, by simp, by first | rfl | (simp; done) | exact (List.take_of_length_le (by simp)).symm⟩) (fa_cons (rfl) (fa_cons (rfl) (fa_nil)))))))), _, rfl, _, rfl, ?_⟩
  simp only [newCs, newRes, newA, resV, List.flatMap_cons, List.flatMap_nil, List.flatten_nil, List.flatten_cons, List.append_nil, List.nil_append, List.cons_append, List.length_cons, List.length_nil, List.drop_succ_cons, List.drop_zero, List.take_succ_cons, List.take_zero, if_true, if_false, Bool.false_eq_true, List.drop_nil, mixCs, isRx, Vs.put, reduceIte, Nat.reduceEqDiff, Nat.zero_add, Nat.reduceAdd, bD_len, sD_len]
  simp only [setEnv, Vs.put, killEnv, del, cutR, reduceIte, Nat.reduceEqDiff, Nat.reduceAdd]
  refine os_ev (evq_un rfl rfl) ?_
  simp only [runOs, thenQ, blockQ, Vs.put, reduceIte, Nat.reduceEqDiff]
  refine sw_cond rfl (fun h1 => ?_) (fun h1 => ?_)
  · exact absurd h1 (by simp at h1)
  · try simp only [decide_eq_true_eq, decide_eq_false_iff_not, bne_iff_ne, beq_iff_eq, bne_eq_false_iff_eq, beq_eq_false_iff_ne, ne_eq, Int.not_lt, Int.not_le, gt_iff_lt, ge_iff_le, Bool.not_eq_true, Bool.not_eq_false, Bool.not_eq_true', Bool.not_eq_false', Bool.and_eq_true, Bool.or_eq_true, Bool.and_eq_false_iff, Bool.or_eq_false_iff] at h1
    refine sw_skip ?_
    simp only [thenQ, blockQ]
    refine sw_seq ?_
    refine sw_reg ?_
    unfold s6_5
    refine os_ev (evq_mvk) ?_
    simp only [runOs, thenQ, blockQ, Vs.put, reduceIte, Nat.reduceEqDiff]
    refine sw_seq ?_
    refine sw_reg ?_
    unfold s6_6
    first | refine os_ev (evq_lgb rfl rfl (Nat.le_of_ble_eq_true rfl) rfl) ?_ | refine os_ev (evq_lge rfl rfl (rfl) (Nat.le_of_ble_eq_true rfl) rfl) ?_
    try simp only [List.take_zero, List.take_succ_cons, List.drop_zero, List.drop_succ_cons, List.nil_append, List.cons_append, List.append_nil, List.length_cons, List.length_nil, Nat.zero_add, Nat.add_zero, Nat.reduceAdd, Nat.reduceMul, toC, toCs, bD_len, sD_len, rep, List.getElem?_cons_zero, List.getElem?_cons_succ]
    refine os_ev (evq_mvt rfl) ?_
    refine os_callo ?_
    simp only [List.map_cons, List.map_nil, St.opd, Vs.get, Vs.put, reduceIte, Nat.reduceEqDiff, Option.getD_some]
    refine ⟨_, _, runs32 (newS n) [] (newF n) false 1 (by rw [newS_sz]; simp [szL]; omega), _, rfl, _, rfl, by simp [handIo, handBx], fa_cons (⟨rfl, rfl, by simp, _, _, rfl, rfl⟩) (fa_cons (⟨rfl, rfl, by simp, _, _, rfl, rfl⟩) (fa_cons (rfl) (fa_cons (rfl) (fa_cons (rfl) (fa_nil))))), _, rfl, _, rfl, ?_⟩
    simp only [newCs, newRes, newA, resV, List.flatMap_cons, List.flatMap_nil, List.flatten_nil, List.flatten_cons, List.append_nil, List.nil_append, List.cons_append, List.length_cons, List.length_nil, List.drop_succ_cons, List.drop_zero, List.take_succ_cons, List.take_zero, if_true, if_false, Bool.false_eq_true, List.drop_nil, mixCs, isRx, Vs.put, reduceIte, Nat.reduceEqDiff, Nat.zero_add, Nat.reduceAdd, bD_len, sD_len]
    simp only [updNode]
    simp only [setEnv, Vs.put, killEnv, del, cutR, reduceIte, Nat.reduceEqDiff, Nat.reduceAdd]
    refine os_ev (evq_mvt rfl) ?_
    simp only [Vs.put, reduceIte, Nat.reduceEqDiff]
    simp only [runOs, thenQ, blockQ, Vs.put, reduceIte, Nat.reduceEqDiff]
    refine sw_seq ?_
    refine sw_reg ?_
    unfold s6_7
    refine os_ev (evq_mvk) ?_
    simp only [runOs, thenQ, blockQ, Vs.put, reduceIte, Nat.reduceEqDiff]
    refine sw_seq ?_
    refine sw_reg ?_
    unfold s6_8
    first | refine os_ev (evq_lgb rfl rfl (Nat.le_of_ble_eq_true rfl) rfl) ?_ | refine os_ev (evq_lge rfl rfl (rfl) (Nat.le_of_ble_eq_true rfl) rfl) ?_
    try simp only [List.take_zero, List.take_succ_cons, List.drop_zero, List.drop_succ_cons, List.nil_append, List.cons_append, List.append_nil, List.length_cons, List.length_nil, Nat.zero_add, Nat.add_zero, Nat.reduceAdd, Nat.reduceMul, toC, toCs, bD_len, sD_len, rep, List.getElem?_cons_zero, List.getElem?_cons_succ]
    refine os_ev (evq_mvt rfl) ?_
    refine os_callo ?_
    simp only [List.map_cons, List.map_nil, St.opd, Vs.get, Vs.put, reduceIte, Nat.reduceEqDiff, Option.getD_some]
    refine ⟨_, _, runs33 (newS n) [] (newF n) false 1 (by rw [newS_sz]; simp [szL]; omega), _, rfl, _, rfl, by simp [handIo, handBx], fa_cons (⟨rfl, .inl rfl, by simp [handIo, handBx], _, rfl, by simp [mkL_len], by first | rfl | (simp; done) | exact (List.take_of_length_le (by simp [mkL_len])).symm⟩) (fa_cons (⟨rfl, .inl rfl, by simp [handIo, handBx], _, rfl, by simp [mkL_len], by first | rfl | (simp; done) | exact (List.take_of_length_le (by simp [mkL_len])).symm⟩) (fa_cons (rfl) (fa_cons (rfl) (fa_cons (rfl) (fa_nil))))), _, rfl, _, rfl, ?_⟩
    simp only [newCs, newRes, newA, resV, List.flatMap_cons, List.flatMap_nil, List.flatten_nil, List.flatten_cons, List.append_nil, List.nil_append, List.cons_append, List.length_cons, List.length_nil, List.drop_succ_cons, List.drop_zero, List.take_succ_cons, List.take_zero, if_true, if_false, Bool.false_eq_true, List.drop_nil, mixCs, isRx, Vs.put, reduceIte, Nat.reduceEqDiff, Nat.zero_add, Nat.reduceAdd, bD_len, sD_len]
    simp only [setEnv, Vs.put, killEnv, del, cutR, reduceIte, Nat.reduceEqDiff, Nat.reduceAdd]
    refine os_ev (evq_mvt rfl) ?_
    simp only [runOs, thenQ, blockQ, Vs.put, reduceIte, Nat.reduceEqDiff]
    refine sw_seq ?_
    refine sw_seq ?_
    refine sw_reg ?_
    unfold s6_9
    refine os_ev (evq_mvt rfl) ?_
    simp only [Vs.put, reduceIte, Nat.reduceEqDiff]
    refine os_ev (evq_bin rfl rfl rfl) ?_
    simp only [runOs, thenQ, blockQ, Vs.put, reduceIte, Nat.reduceEqDiff]
    refine sw_cond rfl (fun h3 => ?_) (fun h3 => ?_)
    · exact absurd h3 (by simp at h3; omega)
    · try simp only [decide_eq_true_eq, decide_eq_false_iff_not, bne_iff_ne, beq_iff_eq, bne_eq_false_iff_eq, beq_eq_false_iff_ne, ne_eq, Int.not_lt, Int.not_le, gt_iff_lt, ge_iff_le, Bool.not_eq_true, Bool.not_eq_false, Bool.not_eq_true', Bool.not_eq_false', Bool.and_eq_true, Bool.or_eq_true, Bool.and_eq_false_iff, Bool.or_eq_false_iff] at h3
      refine sw_skip ?_
      simp only [thenQ, blockQ]
      refine sw_seq ?_
      refine sw_seq ?_
      refine sw_reg ?_
      unfold s6_11
      refine os_ev (evq_mvt rfl) ?_
      refine os_ev (evq_mvt rfl) ?_
      refine os_ev (evq_bin rfl rfl rfl) ?_
      simp only [runOs, thenQ, blockQ, Vs.put, reduceIte, Nat.reduceEqDiff]
      refine sw_cond rfl (fun h5 => ?_) (fun h5 => ?_)
      · exact absurd h5 (by simp at h5)
      · try simp only [decide_eq_true_eq, decide_eq_false_iff_not, bne_iff_ne, beq_iff_eq, bne_eq_false_iff_eq, beq_eq_false_iff_ne, ne_eq, Int.not_lt, Int.not_le, gt_iff_lt, ge_iff_le, Bool.not_eq_true, Bool.not_eq_false, Bool.not_eq_true', Bool.not_eq_false', Bool.and_eq_true, Bool.or_eq_true, Bool.and_eq_false_iff, Bool.or_eq_false_iff] at h5
        refine sw_skip ?_
        simp only [thenQ, blockQ]
        refine sw_seq ?_
        refine sw_reg ?_
        unfold s6_13
        refine os_ev (evq_mvt rfl) ?_
        simp only [Vs.put, reduceIte, Nat.reduceEqDiff]
        refine os_callo ?_
        simp only [List.map_cons, List.map_nil, St.opd, Vs.get, Vs.put, reduceIte, Nat.reduceEqDiff, Option.getD_some]
        refine ⟨_, _, runs30 n, _, rfl, _, rfl, by simp [handIo, handBx], fa_cons (rfl) (fa_nil), _, rfl, _, rfl, ?_⟩
        simp only [newCs, newRes, newA, resV, List.flatMap_cons, List.flatMap_nil, List.flatten_nil, List.flatten_cons, List.append_nil, List.nil_append, List.cons_append, List.length_cons, List.length_nil, List.drop_succ_cons, List.drop_zero, List.take_succ_cons, List.take_zero, if_true, if_false, Bool.false_eq_true, List.drop_nil, mixCs, isRx, Vs.put, reduceIte, Nat.reduceEqDiff, Nat.zero_add, Nat.reduceAdd, bD_len, sD_len]
        simp only [setEnv, Vs.put, killEnv, del, cutR, reduceIte, Nat.reduceEqDiff, Nat.reduceAdd]
        refine os_wro (by intros; nofun) ?_
        simp only [wr]
        simp only [setEnv, Vs.put, killEnv, del, cutR, reduceIte, Nat.reduceEqDiff, Nat.reduceAdd]
        refine os_wro (by intros; nofun) ?_
        refine st_box rfl rfl rfl rfl (Nat.le_of_ble_eq_true rfl) ?_
        simp only [List.take_zero, List.take_succ_cons, List.drop_zero, List.drop_succ_cons, List.nil_append, List.cons_append, List.append_nil, List.length_cons, List.length_nil, Nat.zero_add, Nat.add_zero, Nat.reduceAdd, Nat.reduceMul, toC, toCs, bD_len, sD_len, rep, List.getElem?_cons_zero, List.getElem?_cons_succ]
        simp only [setEnv, Vs.put, killEnv, del, cutR, reduceIte, Nat.reduceEqDiff, Nat.reduceAdd]
        simp only [runOs, thenQ, blockQ, Vs.put, reduceIte, Nat.reduceEqDiff]
        refine sw_seq ?_
        refine sw_seq ?_
        refine sw_reg ?_
        unfold s6_14
        first | refine os_ev (evq_lgb rfl rfl (Nat.le_of_ble_eq_true rfl) rfl) ?_ | refine os_ev (evq_lge rfl rfl (rfl) (Nat.le_of_ble_eq_true rfl) rfl) ?_
        try simp only [List.take_zero, List.take_succ_cons, List.drop_zero, List.drop_succ_cons, List.nil_append, List.cons_append, List.append_nil, List.length_cons, List.length_nil, Nat.zero_add, Nat.add_zero, Nat.reduceAdd, Nat.reduceMul, toC, toCs, bD_len, sD_len, rep, List.getElem?_cons_zero, List.getElem?_cons_succ]
        first | refine os_ev (evq_lgb rfl rfl (Nat.le_of_ble_eq_true rfl) rfl) ?_ | refine os_ev (evq_lge rfl rfl (rfl) (Nat.le_of_ble_eq_true rfl) rfl) ?_
        try simp only [List.take_zero, List.take_succ_cons, List.drop_zero, List.drop_succ_cons, List.nil_append, List.cons_append, List.append_nil, List.length_cons, List.length_nil, Nat.zero_add, Nat.add_zero, Nat.reduceAdd, Nat.reduceMul, toC, toCs, bD_len, sD_len, rep, List.getElem?_cons_zero, List.getElem?_cons_succ]
        refine os_callo ?_
        simp only [List.map_cons, List.map_nil, St.opd, Vs.get, Vs.put, reduceIte, Nat.reduceEqDiff, Option.getD_some]
        refine ⟨_, _, runs31 (newS n) [] (newF n) false hs (by omega) (by simp) (by simp), _, rfl, _, rfl, by simp [handIo, handBx], fa_cons (⟨rfl, .inl rfl, by simp [handIo, handBx], _, rfl, by simp, by first | rfl | (simp; done) | exact (List.take_of_length_le (by simp)).symm⟩) (fa_cons (⟨rfl, .inl rfl, by simp [handIo, handBx], _, rfl, by simp, by first | rfl | (simp; done) | exact (List.take_of_length_le (by simp)).symm⟩) (fa_cons (rfl) (fa_cons (rfl) (fa_cons (⟨rfl, .inl rfl, by simp [handIo, handBx], _, rfl, by simp, by first | rfl | (simp; done) | exact (List.take_of_length_le (by simp)).symm⟩) (fa_cons (⟨rfl, .inl rfl, by simp [handIo, handBx], _, rfl, by simp, by first | rfl | (simp; done) | exact (List.take_of_length_le (by simp)).symm⟩) (fa_cons (rfl) (fa_cons (rfl) (fa_nil)))))))), _, rfl, _, rfl, ?_⟩
        simp only [newCs, newRes, newA, resV, List.flatMap_cons, List.flatMap_nil, List.flatten_nil, List.flatten_cons, List.append_nil, List.nil_append, List.cons_append, List.length_cons, List.length_nil, List.drop_succ_cons, List.drop_zero, List.take_succ_cons, List.take_zero, if_true, if_false, Bool.false_eq_true, List.drop_nil, mixCs, isRx, Vs.put, reduceIte, Nat.reduceEqDiff, Nat.zero_add, Nat.reduceAdd, bD_len, sD_len]
        simp only [setEnv, Vs.put, killEnv, del, cutR, reduceIte, Nat.reduceEqDiff, Nat.reduceAdd]
        refine os_ev (evq_un rfl rfl) ?_
        simp only [runOs, thenQ, blockQ, Vs.put, reduceIte, Nat.reduceEqDiff]
        refine sw_cond rfl (fun h7 => ?_) (fun h7 => ?_)
        · exact absurd h7 (by simp at h7)
        · try simp only [decide_eq_true_eq, decide_eq_false_iff_not, bne_iff_ne, beq_iff_eq, bne_eq_false_iff_eq, beq_eq_false_iff_ne, ne_eq, Int.not_lt, Int.not_le, gt_iff_lt, ge_iff_le, Bool.not_eq_true, Bool.not_eq_false, Bool.not_eq_true', Bool.not_eq_false', Bool.and_eq_true, Bool.or_eq_true, Bool.and_eq_false_iff, Bool.or_eq_false_iff] at h7
          refine sw_skip ?_
          simp only [thenQ, blockQ]
          refine sw_seq ?_
          refine sw_reg ?_
          unfold s6_16
          refine os_ev (evq_mvk) ?_
          simp only [runOs, thenQ, blockQ, Vs.put, reduceIte, Nat.reduceEqDiff]
          refine sw_seq ?_
          refine sw_reg ?_
          unfold s6_17
          first | refine os_ev (evq_lgb rfl rfl (Nat.le_of_ble_eq_true rfl) rfl) ?_ | refine os_ev (evq_lge rfl rfl (rfl) (Nat.le_of_ble_eq_true rfl) rfl) ?_
          try simp only [List.take_zero, List.take_succ_cons, List.drop_zero, List.drop_succ_cons, List.nil_append, List.cons_append, List.append_nil, List.length_cons, List.length_nil, Nat.zero_add, Nat.add_zero, Nat.reduceAdd, Nat.reduceMul, toC, toCs, bD_len, sD_len, rep, List.getElem?_cons_zero, List.getElem?_cons_succ]
          simp only [Vs.put, reduceIte, Nat.reduceEqDiff]
          refine os_ev (evq_mvt rfl) ?_
          refine os_callo ?_
          simp only [List.map_cons, List.map_nil, St.opd, Vs.get, Vs.put, reduceIte, Nat.reduceEqDiff, Option.getD_some]
          refine ⟨_, _, runs33 (newS n) [] (newF n) false 1 (by rw [newS_sz]; simp [szL]; omega), _, rfl, _, rfl, by simp [handIo, handBx], fa_cons (⟨rfl, .inl rfl, by simp [handIo, handBx], _, rfl, by simp [mkL_len], by first | rfl | (simp; done) | exact (List.take_of_length_le (by simp [mkL_len])).symm⟩) (fa_cons (⟨rfl, .inl rfl, by simp [handIo, handBx], _, rfl, by simp [mkL_len], by first | rfl | (simp; done) | exact (List.take_of_length_le (by simp [mkL_len])).symm⟩) (fa_cons (rfl) (fa_cons (rfl) (fa_cons (rfl) (fa_nil))))), _, rfl, _, rfl, ?_⟩
          simp only [newCs, newRes, newA, resV, List.flatMap_cons, List.flatMap_nil, List.flatten_nil, List.flatten_cons, List.append_nil, List.nil_append, List.cons_append, List.length_cons, List.length_nil, List.drop_succ_cons, List.drop_zero, List.take_succ_cons, List.take_zero, if_true, if_false, Bool.false_eq_true, List.drop_nil, mixCs, isRx, Vs.put, reduceIte, Nat.reduceEqDiff, Nat.zero_add, Nat.reduceAdd, bD_len, sD_len]
          simp only [setEnv, Vs.put, killEnv, del, cutR, reduceIte, Nat.reduceEqDiff, Nat.reduceAdd]
          refine os_ev (evq_mvt rfl) ?_
          simp only [runOs, thenQ, blockQ, Vs.put, reduceIte, Nat.reduceEqDiff]
          refine sw_seq ?_
          refine sw_seq ?_
          refine sw_reg ?_
          unfold s6_18
          refine os_ev (evq_mvt rfl) ?_
          refine os_ev (evq_bin rfl rfl rfl) ?_
          simp only [runOs, thenQ, blockQ, Vs.put, reduceIte, Nat.reduceEqDiff]
          refine sw_cond rfl (fun h9 => ?_) (fun h9 => ?_)
          · exact absurd h9 (by simp at h9; omega)
          · try simp only [decide_eq_true_eq, decide_eq_false_iff_not, bne_iff_ne, beq_iff_eq, bne_eq_false_iff_eq, beq_eq_false_iff_ne, ne_eq, Int.not_lt, Int.not_le, gt_iff_lt, ge_iff_le, Bool.not_eq_true, Bool.not_eq_false, Bool.not_eq_true', Bool.not_eq_false', Bool.and_eq_true, Bool.or_eq_true, Bool.and_eq_false_iff, Bool.or_eq_false_iff] at h9
            refine sw_skip ?_
            simp only [thenQ, blockQ]
            refine sw_seq ?_
            refine sw_seq ?_
            refine sw_reg ?_
            unfold s6_20
            refine os_ev (evq_mvt rfl) ?_
            simp only [Vs.put, reduceIte, Nat.reduceEqDiff]
            refine os_ev (evq_mvt rfl) ?_
            refine os_ev (evq_bin rfl rfl rfl) ?_
            simp only [runOs, thenQ, blockQ, Vs.put, reduceIte, Nat.reduceEqDiff]
            refine sw_cond rfl (fun h11 => ?_) (fun h11 => ?_)
            · exact absurd h11 (by simp at h11)
            · try simp only [decide_eq_true_eq, decide_eq_false_iff_not, bne_iff_ne, beq_iff_eq, bne_eq_false_iff_eq, beq_eq_false_iff_ne, ne_eq, Int.not_lt, Int.not_le, gt_iff_lt, ge_iff_le, Bool.not_eq_true, Bool.not_eq_false, Bool.not_eq_true', Bool.not_eq_false', Bool.and_eq_true, Bool.or_eq_true, Bool.and_eq_false_iff, Bool.or_eq_false_iff] at h11
              refine sw_skip ?_
              simp only [thenQ, blockQ]
              refine sw_seq ?_
              refine sw_reg ?_
              unfold s6_22
              refine os_ev (evq_mvk) ?_
              simp only [runOs, thenQ, blockQ, Vs.put, reduceIte, Nat.reduceEqDiff]
              refine sw_ret ?_
              simp only [thenQ, blockQ, resK, ev, St.opd, Vs.get, reduceIte, Nat.reduceEqDiff, Option.getD_some]
              first | exact leaves_vals rfl rfl rfl rfl | exact leaves_a rfl rfl rfl rfl
end Go.Proofs.Ytgbapgjdkoojdaa
