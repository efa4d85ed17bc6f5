import Derived.Test.YteacflalidbhpaaVsSb
import Derived.Test.YteacflalidbhpaaVsV36
set_option linter.unusedVariables false
set_option linter.unusedSimpArgs false
namespace Go.Proofs.Yteacflalidbhpaa
open Go.Vs
set_option linter.unusedSimpArgs false
set_option maxHeartbeats 1000000
theorem runs19 (z : Int) : Runs Try.prog 19 [.val false [(.rd, .lf (.int .i64 z))]] ⟨[(false, [.lf (.bool (z == 5 || z == 7))])], [], []⟩ := by
  obtain ⟨c, hb, hs⟩ := body_of tr19
  refine runs_of_sw Try.func19 hb hs rfl (show 1 ≤ 9 by decide) ?_
  clear hb hs c
  simp only [inAs, inCells, flat, List.flatMap_cons, List.flatMap_nil, Arg.cells, List.cons_append, List.nil_append, inCs, inC, fixN, fixCs, fixC, nBox, inV, inB, rootB, List.length_cons, List.length_nil, List.take_succ_cons, List.take_zero, List.drop_succ_cons, List.drop_zero, env0, Nat.zero_add, Nat.add_zero, List.append_nil, Nat.reduceAdd]
  unfold s19
  refine sw_seq (sw_reg ?_)
  unfold s19_0
  refine os_k fun K hK => ?_
  simp only [List.map_cons, List.map_nil, stepO, evJ, ev, St.opd, Vs.get, setEnv, Vs.put, killEnv, thenQ, reduceIte, if_true, if_false, Bool.false_eq_true, Nat.reduceEqDiff, Option.getD_some, leafBin, leafUn, Option.some.injEq, exists_eq_left', Nat.reduceAdd, St.node, St.bcells, Option.map_some, Option.map_none, nodeAt, Int.toNat_natCast]
  refine hK _ ?_
  clear hK K
  simp only [runOs, thenQ, blockQ]
  refine sw_seq (sw_reg ?_)
  unfold s19_1
  refine os_k fun K hK => ?_
  simp only [List.map_cons, List.map_nil, stepO, evJ, ev, St.opd, Vs.get, setEnv, Vs.put, killEnv, thenQ, reduceIte, if_true, if_false, Bool.false_eq_true, Nat.reduceEqDiff, Option.getD_some, leafBin, leafUn, Option.some.injEq, exists_eq_left', Nat.reduceAdd, St.node, St.bcells, Option.map_some, Option.map_none, nodeAt, Int.toNat_natCast]
  refine hK _ ?_
  clear hK K
  refine os_k fun K hK => ?_
  simp only [List.map_cons, List.map_nil, stepO, evJ, ev, St.opd, Vs.get, setEnv, Vs.put, killEnv, thenQ, reduceIte, if_true, if_false, Bool.false_eq_true, Nat.reduceEqDiff, Option.getD_some, leafBin, leafUn, Option.some.injEq, exists_eq_left', Nat.reduceAdd, St.node, St.bcells, Option.map_some, Option.map_none, nodeAt, Int.toNat_natCast]
  cases h5 : (z == 5)
  · refine hK _ ?_
    clear hK K
    refine os_k fun K hK => ?_
    simp only [List.map_cons, List.map_nil, stepO, evJ, ev, St.opd, Vs.get, setEnv, Vs.put, killEnv, thenQ, reduceIte, if_true, if_false, Bool.false_eq_true, Nat.reduceEqDiff, Option.getD_some, leafBin, leafUn, Option.some.injEq, exists_eq_left', Nat.reduceAdd, St.node, St.bcells, Option.map_some, Option.map_none, nodeAt, Int.toNat_natCast]
    refine hK _ ?_
    clear hK K
    refine os_k fun K hK => ?_
    simp only [List.map_cons, List.map_nil, stepO, evJ, ev, St.opd, Vs.get, setEnv, Vs.put, killEnv, thenQ, reduceIte, if_true, if_false, Bool.false_eq_true, Nat.reduceEqDiff, Option.getD_some, leafBin, leafUn, Option.some.injEq, exists_eq_left', Nat.reduceAdd, St.node, St.bcells, Option.map_some, Option.map_none, nodeAt, Int.toNat_natCast]
    simp only [reduceCtorEq, ne_eq, not_true, not_false_iff, false_implies, true_implies, implies_true, true_and, and_true, forall_const, Bool.true_eq_false, Bool.false_eq_true]
    refine hK _ ?_
    clear hK K
    refine os_k fun K hK => ?_
    simp only [List.map_cons, List.map_nil, stepO, evJ, ev, St.opd, Vs.get, setEnv, Vs.put, killEnv, thenQ, reduceIte, if_true, if_false, Bool.false_eq_true, Nat.reduceEqDiff, Option.getD_some, leafBin, leafUn, Option.some.injEq, exists_eq_left', Nat.reduceAdd, St.node, St.bcells, Option.map_some, Option.map_none, nodeAt, Int.toNat_natCast]
    simp only [reduceCtorEq, ne_eq, not_true, not_false_iff, false_implies, true_implies, implies_true, true_and, and_true, forall_const, Bool.true_eq_false, Bool.false_eq_true]
    refine hK _ ?_
    clear hK K
    refine os_k fun K hK => ?_
    simp only [List.map_cons, List.map_nil, stepO, evJ, ev, St.opd, Vs.get, setEnv, Vs.put, killEnv, thenQ, reduceIte, if_true, if_false, Bool.false_eq_true, Nat.reduceEqDiff, Option.getD_some, leafBin, leafUn, Option.some.injEq, exists_eq_left', Nat.reduceAdd, St.node, St.bcells, Option.map_some, Option.map_none, nodeAt, Int.toNat_natCast]
    simp only [reduceCtorEq, ne_eq, not_true, not_false_iff, false_implies, true_implies, implies_true, true_and, and_true, forall_const, Bool.true_eq_false, Bool.false_eq_true]
    refine hK _ ?_
    clear hK K
    refine os_k fun K hK => ?_
    simp only [List.map_cons, List.map_nil, stepO, evJ, ev, St.opd, Vs.get, setEnv, Vs.put, killEnv, thenQ, reduceIte, if_true, if_false, Bool.false_eq_true, Nat.reduceEqDiff, Option.getD_some, leafBin, leafUn, Option.some.injEq, exists_eq_left', Nat.reduceAdd, St.node, St.bcells, Option.map_some, Option.map_none, nodeAt, Int.toNat_natCast]
    refine hK _ ?_
    clear hK K
    simp only [runOs, thenQ, blockQ]
    refine sw_ret ?_
    simp only [thenQ, blockQ, resK, ev, St.opd, Vs.get, reduceIte, Nat.reduceEqDiff, Option.getD_some]
    rw [h5, Bool.false_or]
    exact leaves_vals rfl rfl rfl rfl
  · refine hK _ ?_
    clear hK K
    refine os_k fun K hK => ?_
    simp only [List.map_cons, List.map_nil, stepO, evJ, ev, St.opd, Vs.get, setEnv, Vs.put, killEnv, thenQ, reduceIte, if_true, if_false, Bool.false_eq_true, Nat.reduceEqDiff, Option.getD_some, leafBin, leafUn, Option.some.injEq, exists_eq_left', Nat.reduceAdd, St.node, St.bcells, Option.map_some, Option.map_none, nodeAt, Int.toNat_natCast]
    refine hK _ ?_
    clear hK K
    refine os_k fun K hK => ?_
    simp only [List.map_cons, List.map_nil, stepO, evJ, ev, St.opd, Vs.get, setEnv, Vs.put, killEnv, thenQ, reduceIte, if_true, if_false, Bool.false_eq_true, Nat.reduceEqDiff, Option.getD_some, leafBin, leafUn, Option.some.injEq, exists_eq_left', Nat.reduceAdd, St.node, St.bcells, Option.map_some, Option.map_none, nodeAt, Int.toNat_natCast]
    simp only [reduceCtorEq, ne_eq, not_true, not_false_iff, false_implies, true_implies, implies_true, true_and, and_true, forall_const, Bool.true_eq_false, Bool.false_eq_true]
    refine hK _ ?_
    clear hK K
    refine os_k fun K hK => ?_
    simp only [List.map_cons, List.map_nil, stepO, evJ, ev, St.opd, Vs.get, setEnv, Vs.put, killEnv, thenQ, reduceIte, if_true, if_false, Bool.false_eq_true, Nat.reduceEqDiff, Option.getD_some, leafBin, leafUn, Option.some.injEq, exists_eq_left', Nat.reduceAdd, St.node, St.bcells, Option.map_some, Option.map_none, nodeAt, Int.toNat_natCast]
    simp only [reduceCtorEq, ne_eq, not_true, not_false_iff, false_implies, true_implies, implies_true, true_and, and_true, forall_const, Bool.true_eq_false, Bool.false_eq_true]
    refine hK _ ?_
    clear hK K
    refine os_k fun K hK => ?_
    simp only [List.map_cons, List.map_nil, stepO, evJ, ev, St.opd, Vs.get, setEnv, Vs.put, killEnv, thenQ, reduceIte, if_true, if_false, Bool.false_eq_true, Nat.reduceEqDiff, Option.getD_some, leafBin, leafUn, Option.some.injEq, exists_eq_left', Nat.reduceAdd, St.node, St.bcells, Option.map_some, Option.map_none, nodeAt, Int.toNat_natCast]
    simp only [reduceCtorEq, ne_eq, not_true, not_false_iff, false_implies, true_implies, implies_true, true_and, and_true, forall_const, Bool.true_eq_false, Bool.false_eq_true]
    refine hK _ ?_
    clear hK K
    refine os_k fun K hK => ?_
    simp only [List.map_cons, List.map_nil, stepO, evJ, ev, St.opd, Vs.get, setEnv, Vs.put, killEnv, thenQ, reduceIte, if_true, if_false, Bool.false_eq_true, Nat.reduceEqDiff, Option.getD_some, leafBin, leafUn, Option.some.injEq, exists_eq_left', Nat.reduceAdd, St.node, St.bcells, Option.map_some, Option.map_none, nodeAt, Int.toNat_natCast]
    refine hK _ ?_
    clear hK K
    simp only [runOs, thenQ, blockQ]
    refine sw_ret ?_
    simp only [thenQ, blockQ, resK, ev, St.opd, Vs.get, reduceIte, Nat.reduceEqDiff, Option.getD_some]
    rw [h5, Bool.true_or]
    exact leaves_vals rfl rfl rfl rfl
theorem runs20 (z : Int) : Runs Try.prog 20 [.val false [(.rd, .lf (.int .i64 z))]] ⟨[(false, [.lf (.bool (z == 5 || z == 7))])], [], []⟩ := by
  obtain ⟨c, hb, hs⟩ := body_of tr20
  refine runs_of_sw Try.func20 hb hs rfl (show 1 ≤ 9 by decide) ?_
  clear hb hs c
  simp only [inAs, inCells, flat, List.flatMap_cons, List.flatMap_nil, Arg.cells, List.cons_append, List.nil_append, inCs, inC, fixN, fixCs, fixC, nBox, inV, inB, rootB, List.length_cons, List.length_nil, List.take_succ_cons, List.take_zero, List.drop_succ_cons, List.drop_zero, env0, Nat.zero_add, Nat.add_zero, List.append_nil, Nat.reduceAdd]
  unfold s20
  refine sw_seq (sw_reg ?_)
  unfold s20_0
  refine os_k fun K hK => ?_
  simp only [List.map_cons, List.map_nil, stepO, evJ, ev, St.opd, Vs.get, setEnv, Vs.put, killEnv, thenQ, reduceIte, if_true, if_false, Bool.false_eq_true, Nat.reduceEqDiff, Option.getD_some, leafBin, leafUn, Option.some.injEq, exists_eq_left', Nat.reduceAdd, St.node, St.bcells, Option.map_some, Option.map_none, nodeAt, Int.toNat_natCast]
  refine hK _ ?_
  clear hK K
  simp only [runOs, thenQ, blockQ]
  refine sw_seq (sw_reg ?_)
  unfold s20_1
  refine os_k fun K hK => ?_
  simp only [List.map_cons, List.map_nil, stepO, evJ, ev, St.opd, Vs.get, setEnv, Vs.put, killEnv, thenQ, reduceIte, if_true, if_false, Bool.false_eq_true, Nat.reduceEqDiff, Option.getD_some, leafBin, leafUn, Option.some.injEq, exists_eq_left', Nat.reduceAdd, St.node, St.bcells, Option.map_some, Option.map_none, nodeAt, Int.toNat_natCast]
  refine hK _ ?_
  clear hK K
  refine os_k fun K hK => ?_
  simp only [List.map_cons, List.map_nil, stepO, evJ, ev, St.opd, Vs.get, setEnv, Vs.put, killEnv, thenQ, reduceIte, if_true, if_false, Bool.false_eq_true, Nat.reduceEqDiff, Option.getD_some, leafBin, leafUn, Option.some.injEq, exists_eq_left', Nat.reduceAdd, St.node, St.bcells, Option.map_some, Option.map_none, nodeAt, Int.toNat_natCast]
  cases h5 : (z == 5)
  · refine hK _ ?_
    clear hK K
    refine os_k fun K hK => ?_
    simp only [List.map_cons, List.map_nil, stepO, evJ, ev, St.opd, Vs.get, setEnv, Vs.put, killEnv, thenQ, reduceIte, if_true, if_false, Bool.false_eq_true, Nat.reduceEqDiff, Option.getD_some, leafBin, leafUn, Option.some.injEq, exists_eq_left', Nat.reduceAdd, St.node, St.bcells, Option.map_some, Option.map_none, nodeAt, Int.toNat_natCast]
    refine hK _ ?_
    clear hK K
    refine os_k fun K hK => ?_
    simp only [List.map_cons, List.map_nil, stepO, evJ, ev, St.opd, Vs.get, setEnv, Vs.put, killEnv, thenQ, reduceIte, if_true, if_false, Bool.false_eq_true, Nat.reduceEqDiff, Option.getD_some, leafBin, leafUn, Option.some.injEq, exists_eq_left', Nat.reduceAdd, St.node, St.bcells, Option.map_some, Option.map_none, nodeAt, Int.toNat_natCast]
    simp only [reduceCtorEq, ne_eq, not_true, not_false_iff, false_implies, true_implies, implies_true, true_and, and_true, forall_const, Bool.true_eq_false, Bool.false_eq_true]
    refine hK _ ?_
    clear hK K
    refine os_k fun K hK => ?_
    simp only [List.map_cons, List.map_nil, stepO, evJ, ev, St.opd, Vs.get, setEnv, Vs.put, killEnv, thenQ, reduceIte, if_true, if_false, Bool.false_eq_true, Nat.reduceEqDiff, Option.getD_some, leafBin, leafUn, Option.some.injEq, exists_eq_left', Nat.reduceAdd, St.node, St.bcells, Option.map_some, Option.map_none, nodeAt, Int.toNat_natCast]
    simp only [reduceCtorEq, ne_eq, not_true, not_false_iff, false_implies, true_implies, implies_true, true_and, and_true, forall_const, Bool.true_eq_false, Bool.false_eq_true]
    refine hK _ ?_
    clear hK K
    refine os_k fun K hK => ?_
    simp only [List.map_cons, List.map_nil, stepO, evJ, ev, St.opd, Vs.get, setEnv, Vs.put, killEnv, thenQ, reduceIte, if_true, if_false, Bool.false_eq_true, Nat.reduceEqDiff, Option.getD_some, leafBin, leafUn, Option.some.injEq, exists_eq_left', Nat.reduceAdd, St.node, St.bcells, Option.map_some, Option.map_none, nodeAt, Int.toNat_natCast]
    simp only [reduceCtorEq, ne_eq, not_true, not_false_iff, false_implies, true_implies, implies_true, true_and, and_true, forall_const, Bool.true_eq_false, Bool.false_eq_true]
    refine hK _ ?_
    clear hK K
    refine os_k fun K hK => ?_
    simp only [List.map_cons, List.map_nil, stepO, evJ, ev, St.opd, Vs.get, setEnv, Vs.put, killEnv, thenQ, reduceIte, if_true, if_false, Bool.false_eq_true, Nat.reduceEqDiff, Option.getD_some, leafBin, leafUn, Option.some.injEq, exists_eq_left', Nat.reduceAdd, St.node, St.bcells, Option.map_some, Option.map_none, nodeAt, Int.toNat_natCast]
    refine hK _ ?_
    clear hK K
    simp only [runOs, thenQ, blockQ]
    refine sw_ret ?_
    simp only [thenQ, blockQ, resK, ev, St.opd, Vs.get, reduceIte, Nat.reduceEqDiff, Option.getD_some]
    rw [h5, Bool.false_or]
    exact leaves_vals rfl rfl rfl rfl
  · refine hK _ ?_
    clear hK K
    refine os_k fun K hK => ?_
    simp only [List.map_cons, List.map_nil, stepO, evJ, ev, St.opd, Vs.get, setEnv, Vs.put, killEnv, thenQ, reduceIte, if_true, if_false, Bool.false_eq_true, Nat.reduceEqDiff, Option.getD_some, leafBin, leafUn, Option.some.injEq, exists_eq_left', Nat.reduceAdd, St.node, St.bcells, Option.map_some, Option.map_none, nodeAt, Int.toNat_natCast]
    refine hK _ ?_
    clear hK K
    refine os_k fun K hK => ?_
    simp only [List.map_cons, List.map_nil, stepO, evJ, ev, St.opd, Vs.get, setEnv, Vs.put, killEnv, thenQ, reduceIte, if_true, if_false, Bool.false_eq_true, Nat.reduceEqDiff, Option.getD_some, leafBin, leafUn, Option.some.injEq, exists_eq_left', Nat.reduceAdd, St.node, St.bcells, Option.map_some, Option.map_none, nodeAt, Int.toNat_natCast]
    simp only [reduceCtorEq, ne_eq, not_true, not_false_iff, false_implies, true_implies, implies_true, true_and, and_true, forall_const, Bool.true_eq_false, Bool.false_eq_true]
    refine hK _ ?_
    clear hK K
    refine os_k fun K hK => ?_
    simp only [List.map_cons, List.map_nil, stepO, evJ, ev, St.opd, Vs.get, setEnv, Vs.put, killEnv, thenQ, reduceIte, if_true, if_false, Bool.false_eq_true, Nat.reduceEqDiff, Option.getD_some, leafBin, leafUn, Option.some.injEq, exists_eq_left', Nat.reduceAdd, St.node, St.bcells, Option.map_some, Option.map_none, nodeAt, Int.toNat_natCast]
    simp only [reduceCtorEq, ne_eq, not_true, not_false_iff, false_implies, true_implies, implies_true, true_and, and_true, forall_const, Bool.true_eq_false, Bool.false_eq_true]
    refine hK _ ?_
    clear hK K
    refine os_k fun K hK => ?_
    simp only [List.map_cons, List.map_nil, stepO, evJ, ev, St.opd, Vs.get, setEnv, Vs.put, killEnv, thenQ, reduceIte, if_true, if_false, Bool.false_eq_true, Nat.reduceEqDiff, Option.getD_some, leafBin, leafUn, Option.some.injEq, exists_eq_left', Nat.reduceAdd, St.node, St.bcells, Option.map_some, Option.map_none, nodeAt, Int.toNat_natCast]
    simp only [reduceCtorEq, ne_eq, not_true, not_false_iff, false_implies, true_implies, implies_true, true_and, and_true, forall_const, Bool.true_eq_false, Bool.false_eq_true]
    refine hK _ ?_
    clear hK K
    refine os_k fun K hK => ?_
    simp only [List.map_cons, List.map_nil, stepO, evJ, ev, St.opd, Vs.get, setEnv, Vs.put, killEnv, thenQ, reduceIte, if_true, if_false, Bool.false_eq_true, Nat.reduceEqDiff, Option.getD_some, leafBin, leafUn, Option.some.injEq, exists_eq_left', Nat.reduceAdd, St.node, St.bcells, Option.map_some, Option.map_none, nodeAt, Int.toNat_natCast]
    refine hK _ ?_
    clear hK K
    simp only [runOs, thenQ, blockQ]
    refine sw_ret ?_
    simp only [thenQ, blockQ, resK, ev, St.opd, Vs.get, reduceIte, Nat.reduceEqDiff, Option.getD_some]
    rw [h5, Bool.true_or]
    exact leaves_vals rfl rfl rfl rfl
theorem runs3 (z : Int) : Runs Try.prog 3 [.val false [(.rd, .lf (.int .i64 z))]] ⟨[(false, [.lf (.bool true)])], [], []⟩ := by
  obtain ⟨c, hb, hs⟩ := body_of tr3
  refine runs_of_sw Try.func3 hb hs rfl (show 1 ≤ 12 by decide) ?_
  clear hb hs c
  simp only [inAs, inCells, flat, List.flatMap_cons, List.flatMap_nil, Arg.cells, List.cons_append, List.nil_append, inCs, inC, fixN, fixCs, fixC, nBox, inV, inB, rootB, List.length_cons, List.length_nil, List.take_succ_cons, List.take_zero, List.drop_succ_cons, List.drop_zero, env0, Nat.zero_add, Nat.add_zero, List.append_nil, Nat.reduceAdd]
  unfold s3
  refine sw_seq (sw_reg ?_)
  unfold s3_0
  refine os_k fun K hK => ?_
  simp only [List.map_cons, List.map_nil, stepO, evJ, ev, St.opd, Vs.get, setEnv, Vs.put, killEnv, thenQ, reduceIte, if_true, if_false, Bool.false_eq_true, Nat.reduceEqDiff, Option.getD_some, leafBin, leafUn, Option.some.injEq, exists_eq_left', Nat.reduceAdd, St.node, St.bcells, Option.map_some, Option.map_none, nodeAt, Int.toNat_natCast]
  refine hK _ ?_
  clear hK K
  simp only [runOs, thenQ, blockQ]
  refine sw_seq (sw_reg ?_)
  unfold s3_1
  refine os_k fun K hK => ?_
  simp only [List.map_cons, List.map_nil, stepO, evJ, ev, St.opd, Vs.get, setEnv, Vs.put, killEnv, thenQ, reduceIte, if_true, if_false, Bool.false_eq_true, Nat.reduceEqDiff, Option.getD_some, leafBin, leafUn, Option.some.injEq, exists_eq_left', Nat.reduceAdd, St.node, St.bcells, Option.map_some, Option.map_none, nodeAt, Int.toNat_natCast]
  refine hK _ ?_
  clear hK K
  refine os_k fun K hK => ?_
  simp only [List.map_cons, List.map_nil, stepO, evJ, ev, St.opd, Vs.get, setEnv, Vs.put, killEnv, thenQ, reduceIte, if_true, if_false, Bool.false_eq_true, Nat.reduceEqDiff, Option.getD_some, leafBin, leafUn, Option.some.injEq, exists_eq_left', Nat.reduceAdd, St.node, St.bcells, Option.map_some, Option.map_none, nodeAt, Int.toNat_natCast]
  refine call_lf (runs19 z) ?_
  refine hK _ ?_
  clear hK K
  refine os_k fun K hK => ?_
  simp only [List.map_cons, List.map_nil, stepO, evJ, ev, St.opd, Vs.get, setEnv, Vs.put, killEnv, thenQ, reduceIte, if_true, if_false, Bool.false_eq_true, Nat.reduceEqDiff, Option.getD_some, leafBin, leafUn, Option.some.injEq, exists_eq_left', Nat.reduceAdd, St.node, St.bcells, Option.map_some, Option.map_none, nodeAt, Int.toNat_natCast]
  refine hK _ ?_
  clear hK K
  simp only [runOs, thenQ, blockQ]
  refine sw_seq (sw_reg ?_)
  unfold s3_2
  refine os_k fun K hK => ?_
  simp only [List.map_cons, List.map_nil, stepO, evJ, ev, St.opd, Vs.get, setEnv, Vs.put, killEnv, thenQ, reduceIte, if_true, if_false, Bool.false_eq_true, Nat.reduceEqDiff, Option.getD_some, leafBin, leafUn, Option.some.injEq, exists_eq_left', Nat.reduceAdd, St.node, St.bcells, Option.map_some, Option.map_none, nodeAt, Int.toNat_natCast]
  refine hK _ ?_
  clear hK K
  refine os_k fun K hK => ?_
  simp only [List.map_cons, List.map_nil, stepO, evJ, ev, St.opd, Vs.get, setEnv, Vs.put, killEnv, thenQ, reduceIte, if_true, if_false, Bool.false_eq_true, Nat.reduceEqDiff, Option.getD_some, leafBin, leafUn, Option.some.injEq, exists_eq_left', Nat.reduceAdd, St.node, St.bcells, Option.map_some, Option.map_none, nodeAt, Int.toNat_natCast]
  refine call_lf (runs20 z) ?_
  refine hK _ ?_
  clear hK K
  refine os_k fun K hK => ?_
  simp only [List.map_cons, List.map_nil, stepO, evJ, ev, St.opd, Vs.get, setEnv, Vs.put, killEnv, thenQ, reduceIte, if_true, if_false, Bool.false_eq_true, Nat.reduceEqDiff, Option.getD_some, leafBin, leafUn, Option.some.injEq, exists_eq_left', Nat.reduceAdd, St.node, St.bcells, Option.map_some, Option.map_none, nodeAt, Int.toNat_natCast]
  refine hK _ ?_
  clear hK K
  simp only [runOs, thenQ, blockQ]
  refine sw_seq (sw_seq (sw_reg ?_))
  unfold s3_3
  refine os_k fun K hK => ?_
  simp only [List.map_cons, List.map_nil, stepO, evJ, ev, St.opd, Vs.get, setEnv, Vs.put, killEnv, thenQ, reduceIte, if_true, if_false, Bool.false_eq_true, Nat.reduceEqDiff, Option.getD_some, leafBin, leafUn, Option.some.injEq, exists_eq_left', Nat.reduceAdd, St.node, St.bcells, Option.map_some, Option.map_none, nodeAt, Int.toNat_natCast]
  refine hK _ ?_
  clear hK K
  refine os_k fun K hK => ?_
  simp only [List.map_cons, List.map_nil, stepO, evJ, ev, St.opd, Vs.get, setEnv, Vs.put, killEnv, thenQ, reduceIte, if_true, if_false, Bool.false_eq_true, Nat.reduceEqDiff, Option.getD_some, leafBin, leafUn, Option.some.injEq, exists_eq_left', Nat.reduceAdd, St.node, St.bcells, Option.map_some, Option.map_none, nodeAt, Int.toNat_natCast]
  refine hK _ ?_
  clear hK K
  refine os_k fun K hK => ?_
  simp only [List.map_cons, List.map_nil, stepO, evJ, ev, St.opd, Vs.get, setEnv, Vs.put, killEnv, thenQ, reduceIte, if_true, if_false, Bool.false_eq_true, Nat.reduceEqDiff, Option.getD_some, leafBin, leafUn, Option.some.injEq, exists_eq_left', Nat.reduceAdd, St.node, St.bcells, Option.map_some, Option.map_none, nodeAt, Int.toNat_natCast]
  refine hK _ ?_
  clear hK K
  simp only [runOs, thenQ, blockQ]
  refine sw_cond (b := false) ?_ (fun h => by cases h) (fun _ => ?_)
  · simp [tv, St.opd, Vs.get]
  · refine sw_skip ?_
    simp only [thenQ]
    refine sw_seq (sw_reg ?_)
    unfold s3_5
    refine os_k fun K hK => ?_
    simp only [List.map_cons, List.map_nil, stepO, evJ, ev, St.opd, Vs.get, setEnv, Vs.put, killEnv, thenQ, reduceIte, if_true, if_false, Bool.false_eq_true, Nat.reduceEqDiff, Option.getD_some, leafBin, leafUn, Option.some.injEq, exists_eq_left', Nat.reduceAdd, St.node, St.bcells, Option.map_some, Option.map_none, nodeAt, Int.toNat_natCast]
    refine hK _ ?_
    clear hK K
    simp only [runOs, thenQ, blockQ]
    refine sw_ret ?_
    simp only [thenQ, blockQ, resK, ev, St.opd, Vs.get, reduceIte, Nat.reduceEqDiff, Option.getD_some]
    exact leaves_vals rfl rfl rfl rfl
end Go.Proofs.Yteacflalidbhpaa
