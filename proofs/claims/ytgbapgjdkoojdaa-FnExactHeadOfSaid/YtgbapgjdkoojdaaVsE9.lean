import Derived.Test.YtgbapgjdkoojdaaVsSe
import Derived.Test.YtgbapgjdkoojdaaVsE1
import Derived.Test.YtgbapgjdkoojdaaVsE3
import Derived.Test.YtgbapgjdkoojdaaVsE4
import Derived.Test.YtgbapgjdkoojdaaVsE5
import Derived.Test.YtgbapgjdkoojdaaVsE6
import Derived.Test.YtgbapgjdkoojdaaVsE8
namespace Go.Proofs.Ytgbapgjdkoojdaa
open Go.Vs
set_option linter.unusedSimpArgs false
set_option linter.unusedVariables false
set_option maxHeartbeats 1000000

/-- A head's bytes. -/
def headN (g n : Nat) : List UInt8 := w2 g ++ w2 n ++ w2 (crc (w2 g ++ w2 n))
def headB (g n : Int) : List UInt8 := if 1 ≤ g ∧ g ≤ 60000 ∧ 0 ≤ n ∧ n ≤ 30 then headN g.toNat n.toNat else []
theorem headB_len (g n : Int) : (headB g n).length ≤ 6 := by
  unfold headB
  split <;> simp [headN]
theorem runs75w (b : List UInt8) (v : Nat) (hv : v < 2 ^ 62) (h : b.length < 2 ^ 46) : Runs Try.prog 75 [.val false [(.rd, .sl 1 (bD b))], .val false [(.rd, .lf (.int .i64 v))]] ⟨[(false, [.sl 1 (bD (b ++ w2 v))])], [], []⟩ := runs75 b v hv h
theorem cnt_len (n l : Nat) : (cnt n l).length = l := by simp [cnt]
theorem runs21 (g n : Int) : Runs Try.prog 21 [.val false [(.rd, .lf (.int .i64 g))], .val false [(.rd, .lf (.int .i64 n))]] ⟨[(false, [.sl 1 (bD (headB g n))])], [], []⟩ := by
  obtain ⟨c, hb, hs⟩ := body_of tr21
  refine runs_of_sw Try.func21 hb hs rfl (show 2 ≤ 24 by decide) ?_
  clear hb hs c
  simp only [inAs, inCells, flat, List.flatMap_cons, List.flatMap_nil, Arg.cells, List.cons_append, List.nil_append, inCs, inC, fixN, fixCs, fixC, nBox, inV, inB, rootB, List.length_cons, List.length_nil, List.take_succ_cons, List.take_zero, List.drop_succ_cons, List.drop_zero, env0, Nat.zero_add, Nat.add_zero, List.append_nil, Nat.reduceAdd]
  unfold s21
  refine sw_seq ?_
  refine sw_reg ?_
  unfold s21_0
  refine os_k fun K hK => ?_
  simp only [List.map_cons, List.map_nil, stepO, evJ, ev, St.opd, Vs.get, setEnv, Vs.put, killEnv, thenQ, reduceIte, if_true, if_false, Bool.false_eq_true, Nat.reduceEqDiff, Option.getD_some, leafBin, leafUn, Option.some.injEq, exists_eq_left', Nat.reduceAdd, St.node, St.bcells, Option.map_some, Option.map_none, nodeAt, Int.toNat_natCast]
  refine hK _ ?_
  clear hK K
  simp only [runOs, thenQ, blockQ]
  refine sw_seq ?_
  refine sw_seq ?_
  refine sw_reg ?_
  unfold s21_1
  refine os_k fun K hK => ?_
  simp only [List.map_cons, List.map_nil, stepO, evJ, ev, St.opd, Vs.get, setEnv, Vs.put, killEnv, thenQ, reduceIte, if_true, if_false, Bool.false_eq_true, Nat.reduceEqDiff, Option.getD_some, leafBin, leafUn, Option.some.injEq, exists_eq_left', Nat.reduceAdd, St.node, St.bcells, Option.map_some, Option.map_none, nodeAt, Int.toNat_natCast]
  refine hK _ ?_
  clear hK K
  refine os_k fun K hK => ?_
  simp only [List.map_cons, List.map_nil, stepO, evJ, ev, St.opd, Vs.get, setEnv, Vs.put, killEnv, thenQ, reduceIte, if_true, if_false, Bool.false_eq_true, Nat.reduceEqDiff, Option.getD_some, leafBin, leafUn, Option.some.injEq, exists_eq_left', Nat.reduceAdd, St.node, St.bcells, Option.map_some, Option.map_none, nodeAt, Int.toNat_natCast]
  refine ⟨_, _, runs74 g 1 60000, _, rfl, _, rfl, by simp [handIo, handBx], fa_cons (rfl) (fa_cons (rfl) (fa_cons (rfl) (fa_nil))), _, rfl, _, rfl, ?_⟩
  simp only [newCs, newRes, newA, resV, List.flatMap_cons, List.flatMap_nil, List.flatten_nil, List.append_nil, List.nil_append, List.cons_append, List.length_cons, List.length_nil, List.drop_succ_cons, List.drop_zero, List.take_succ_cons, List.take_zero, if_true, if_false, Bool.false_eq_true, List.drop_nil]
  refine hK _ ?_
  clear hK K
  refine os_k fun K hK => ?_
  simp only [List.map_cons, List.map_nil, stepO, evJ, ev, St.opd, Vs.get, setEnv, Vs.put, killEnv, thenQ, reduceIte, if_true, if_false, Bool.false_eq_true, Nat.reduceEqDiff, Option.getD_some, leafBin, leafUn, Option.some.injEq, exists_eq_left', Nat.reduceAdd, St.node, St.bcells, Option.map_some, Option.map_none, nodeAt, Int.toNat_natCast]
  refine hK _ ?_
  clear hK K
  refine os_k fun K hK => ?_
  simp only [List.map_cons, List.map_nil, stepO, evJ, ev, St.opd, Vs.get, setEnv, Vs.put, killEnv, thenQ, reduceIte, if_true, if_false, Bool.false_eq_true, Nat.reduceEqDiff, Option.getD_some, leafBin, leafUn, Option.some.injEq, exists_eq_left', Nat.reduceAdd, St.node, St.bcells, Option.map_some, Option.map_none, nodeAt, Int.toNat_natCast]
  refine hK _ ?_
  clear hK K
  refine os_k fun K hK => ?_
  simp only [List.map_cons, List.map_nil, stepO, evJ, ev, St.opd, Vs.get, setEnv, Vs.put, killEnv, thenQ, reduceIte, if_true, if_false, Bool.false_eq_true, Nat.reduceEqDiff, Option.getD_some, leafBin, leafUn, Option.some.injEq, exists_eq_left', Nat.reduceAdd, St.node, St.bcells, Option.map_some, Option.map_none, nodeAt, Int.toNat_natCast]
  refine ⟨fun g9 => ?_, fun g9 => ?_⟩
  · try simp only [g9]
    try simp only [decide_eq_true_eq, decide_eq_false_iff_not, bne_iff_ne, beq_iff_eq, bne_eq_false_iff_eq, beq_eq_false_iff_ne, ne_eq, Int.not_lt, Int.not_le, gt_iff_lt, ge_iff_le, Bool.not_eq_true, Bool.not_eq_false, Bool.not_eq_true', Bool.not_eq_false', Bool.and_eq_true, Bool.or_eq_true, Bool.and_eq_false_iff, Bool.or_eq_false_iff] at g9
    refine hK _ ?_
    clear hK K
    refine os_k fun K hK => ?_
    simp only [List.map_cons, List.map_nil, stepO, evJ, ev, St.opd, Vs.get, setEnv, Vs.put, killEnv, thenQ, reduceIte, if_true, if_false, Bool.false_eq_true, Nat.reduceEqDiff, Option.getD_some, leafBin, leafUn, Option.some.injEq, exists_eq_left', Nat.reduceAdd, St.node, St.bcells, Option.map_some, Option.map_none, nodeAt, Int.toNat_natCast]
    simp only [reduceCtorEq, ne_eq, not_true, not_false_iff, false_implies, true_implies, implies_true, true_and, and_true, forall_const, Bool.true_eq_false, Bool.false_eq_true]
    refine ⟨_, _, runs74 n 0 30, _, rfl, _, rfl, by simp [handIo, handBx], fa_cons (rfl) (fa_cons (rfl) (fa_cons (rfl) (fa_nil))), _, rfl, _, rfl, ?_⟩
    simp only [newCs, newRes, newA, resV, List.flatMap_cons, List.flatMap_nil, List.flatten_nil, List.append_nil, List.nil_append, List.cons_append, List.length_cons, List.length_nil, List.drop_succ_cons, List.drop_zero, List.take_succ_cons, List.take_zero, if_true, if_false, Bool.false_eq_true, List.drop_nil]
    refine hK _ ?_
    clear hK K
    refine os_k fun K hK => ?_
    simp only [List.map_cons, List.map_nil, stepO, evJ, ev, St.opd, Vs.get, setEnv, Vs.put, killEnv, thenQ, reduceIte, if_true, if_false, Bool.false_eq_true, Nat.reduceEqDiff, Option.getD_some, leafBin, leafUn, Option.some.injEq, exists_eq_left', Nat.reduceAdd, St.node, St.bcells, Option.map_some, Option.map_none, nodeAt, Int.toNat_natCast]
    simp only [reduceCtorEq, ne_eq, not_true, not_false_iff, false_implies, true_implies, implies_true, true_and, and_true, forall_const, Bool.true_eq_false, Bool.false_eq_true]
    refine hK _ ?_
    clear hK K
    refine os_k fun K hK => ?_
    simp only [List.map_cons, List.map_nil, stepO, evJ, ev, St.opd, Vs.get, setEnv, Vs.put, killEnv, thenQ, reduceIte, if_true, if_false, Bool.false_eq_true, Nat.reduceEqDiff, Option.getD_some, leafBin, leafUn, Option.some.injEq, exists_eq_left', Nat.reduceAdd, St.node, St.bcells, Option.map_some, Option.map_none, nodeAt, Int.toNat_natCast]
    try simp only [reduceCtorEq, ne_eq, not_true, not_false_iff, false_implies, true_implies, implies_true, true_and, and_true, forall_const, Bool.true_eq_false, Bool.false_eq_true]
    refine hK _ ?_
    clear hK K
    simp only [runOs, thenQ, blockQ]
    refine sw_cond rfl (fun h1 => ?_) (fun h1 => ?_)
    · try simp only [decide_eq_true_eq, decide_eq_false_iff_not, bne_iff_ne, beq_iff_eq, bne_eq_false_iff_eq, beq_eq_false_iff_ne, ne_eq, Int.not_lt, Int.not_le, gt_iff_lt, ge_iff_le, Bool.not_eq_true, Bool.not_eq_false, Bool.not_eq_true', Bool.not_eq_false', Bool.and_eq_true, Bool.or_eq_true, Bool.and_eq_false_iff, Bool.or_eq_false_iff] at h1
      refine sw_seq ?_
      refine sw_reg ?_
      unfold s21_2
      refine os_k fun K hK => ?_
      simp only [List.map_cons, List.map_nil, stepO, evJ, ev, St.opd, Vs.get, setEnv, Vs.put, killEnv, thenQ, reduceIte, if_true, if_false, Bool.false_eq_true, Nat.reduceEqDiff, Option.getD_some, leafBin, leafUn, Option.some.injEq, exists_eq_left', Nat.reduceAdd, St.node, St.bcells, Option.map_some, Option.map_none, nodeAt, Int.toNat_natCast]
      refine ⟨_, rfl, _, rfl, ?_⟩
      simp only [setEnv, Vs.put, killEnv, reduceIte, Nat.reduceEqDiff, chunk, List.take_succ_cons, List.take_zero, List.drop_succ_cons, List.drop_zero, Nat.reduceAdd, Nat.zero_add]
      refine hK _ ?_
      clear hK K
      refine os_k fun K hK => ?_
      simp only [List.map_cons, List.map_nil, stepO, evJ, ev, St.opd, Vs.get, setEnv, Vs.put, killEnv, thenQ, reduceIte, if_true, if_false, Bool.false_eq_true, Nat.reduceEqDiff, Option.getD_some, leafBin, leafUn, Option.some.injEq, exists_eq_left', Nat.reduceAdd, St.node, St.bcells, Option.map_some, Option.map_none, nodeAt, Int.toNat_natCast]
      refine hK _ ?_
      clear hK K
      simp only [runOs, thenQ, blockQ]
      refine sw_ret ?_
      simp only [thenQ, blockQ, resK, ev, St.opd, Vs.get, reduceIte, Nat.reduceEqDiff, Option.getD_some]
      rw [show headB g n = [] from if_neg (by omega)]
      exact leaves_vals rfl rfl rfl (take_one rfl (by simp))
    · try simp only [decide_eq_true_eq, decide_eq_false_iff_not, bne_iff_ne, beq_iff_eq, bne_eq_false_iff_eq, beq_eq_false_iff_ne, ne_eq, Int.not_lt, Int.not_le, gt_iff_lt, ge_iff_le, Bool.not_eq_true, Bool.not_eq_false, Bool.not_eq_true', Bool.not_eq_false', Bool.and_eq_true, Bool.or_eq_true, Bool.and_eq_false_iff, Bool.or_eq_false_iff] at h1
      obtain ⟨g, rfl⟩ : ∃ g0 : Nat, g = g0 := ⟨g.toNat, by omega⟩
      obtain ⟨n, rfl⟩ : ∃ n0 : Nat, n = n0 := ⟨n.toNat, by omega⟩
      refine sw_skip ?_
      simp only [thenQ, blockQ]
      refine sw_seq ?_
      refine sw_reg ?_
      unfold s21_3
      refine os_k fun K hK => ?_
      simp only [List.map_cons, List.map_nil, stepO, evJ, ev, St.opd, Vs.get, setEnv, Vs.put, killEnv, thenQ, reduceIte, if_true, if_false, Bool.false_eq_true, Nat.reduceEqDiff, Option.getD_some, leafBin, leafUn, Option.some.injEq, exists_eq_left', Nat.reduceAdd, St.node, St.bcells, Option.map_some, Option.map_none, nodeAt, Int.toNat_natCast]
      refine ⟨_, rfl, _, rfl, ?_⟩
      simp only [setEnv, Vs.put, killEnv, reduceIte, Nat.reduceEqDiff, chunk, List.take_succ_cons, List.take_zero, List.drop_succ_cons, List.drop_zero, Nat.reduceAdd, Nat.zero_add]
      refine hK _ ?_
      clear hK K
      refine os_k fun K hK => ?_
      simp only [List.map_cons, List.map_nil, stepO, evJ, ev, St.opd, Vs.get, setEnv, Vs.put, killEnv, thenQ, reduceIte, if_true, if_false, Bool.false_eq_true, Nat.reduceEqDiff, Option.getD_some, leafBin, leafUn, Option.some.injEq, exists_eq_left', Nat.reduceAdd, St.node, St.bcells, Option.map_some, Option.map_none, nodeAt, Int.toNat_natCast]
      refine hK _ ?_
      clear hK K
      refine os_k fun K hK => ?_
      simp only [List.map_cons, List.map_nil, stepO, evJ, ev, St.opd, Vs.get, setEnv, Vs.put, killEnv, thenQ, reduceIte, if_true, if_false, Bool.false_eq_true, Nat.reduceEqDiff, Option.getD_some, leafBin, leafUn, Option.some.injEq, exists_eq_left', Nat.reduceAdd, St.node, St.bcells, Option.map_some, Option.map_none, nodeAt, Int.toNat_natCast]
      refine ⟨_, _, runs75w ([]) (g) (by omega) (by simp [List.length_append]), _, rfl, _, rfl, by simp [handIo, handBx], fa_cons (⟨rfl, .inl rfl, by simp [handIo, handBx], _, rfl, by simp, by first | rfl | (simp; done) | exact (List.take_of_length_le (by simp)).symm⟩) (fa_cons (rfl) (fa_nil)), _, rfl, _, rfl, ?_⟩
      simp only [newCs, newRes, newA, resV, List.flatMap_cons, List.flatMap_nil, List.flatten_nil, List.append_nil, List.nil_append, List.cons_append, List.length_cons, List.length_nil, List.drop_succ_cons, List.drop_zero, List.take_succ_cons, List.take_zero, if_true, if_false, Bool.false_eq_true, List.drop_nil]
      refine hK _ ?_
      clear hK K
      refine os_k fun K hK => ?_
      simp only [List.map_cons, List.map_nil, stepO, evJ, ev, St.opd, Vs.get, setEnv, Vs.put, killEnv, thenQ, reduceIte, if_true, if_false, Bool.false_eq_true, Nat.reduceEqDiff, Option.getD_some, leafBin, leafUn, Option.some.injEq, exists_eq_left', Nat.reduceAdd, St.node, St.bcells, Option.map_some, Option.map_none, nodeAt, Int.toNat_natCast]
      refine hK _ ?_
      clear hK K
      refine os_k fun K hK => ?_
      simp only [List.map_cons, List.map_nil, stepO, evJ, ev, St.opd, Vs.get, setEnv, Vs.put, killEnv, thenQ, reduceIte, if_true, if_false, Bool.false_eq_true, Nat.reduceEqDiff, Option.getD_some, leafBin, leafUn, Option.some.injEq, exists_eq_left', Nat.reduceAdd, St.node, St.bcells, Option.map_some, Option.map_none, nodeAt, Int.toNat_natCast]
      refine ⟨_, _, runs75w (w2 g) (n) (by omega) (by simp [List.length_append]), _, rfl, _, rfl, by simp [handIo, handBx], fa_cons (⟨rfl, .inl rfl, by simp [handIo, handBx], _, rfl, by simp, by first | rfl | (simp; done) | exact (List.take_of_length_le (by simp)).symm⟩) (fa_cons (rfl) (fa_nil)), _, rfl, _, rfl, ?_⟩
      simp only [newCs, newRes, newA, resV, List.flatMap_cons, List.flatMap_nil, List.flatten_nil, List.append_nil, List.nil_append, List.cons_append, List.length_cons, List.length_nil, List.drop_succ_cons, List.drop_zero, List.take_succ_cons, List.take_zero, if_true, if_false, Bool.false_eq_true, List.drop_nil]
      refine hK _ ?_
      clear hK K
      refine os_k fun K hK => ?_
      simp only [List.map_cons, List.map_nil, stepO, evJ, ev, St.opd, Vs.get, setEnv, Vs.put, killEnv, thenQ, reduceIte, if_true, if_false, Bool.false_eq_true, Nat.reduceEqDiff, Option.getD_some, leafBin, leafUn, Option.some.injEq, exists_eq_left', Nat.reduceAdd, St.node, St.bcells, Option.map_some, Option.map_none, nodeAt, Int.toNat_natCast]
      refine hK _ ?_
      clear hK K
      simp only [runOs, thenQ, blockQ]
      refine sw_seq ?_
      refine sw_reg ?_
      unfold s21_4
      refine os_k fun K hK => ?_
      simp only [List.map_cons, List.map_nil, stepO, evJ, ev, St.opd, Vs.get, setEnv, Vs.put, killEnv, thenQ, reduceIte, if_true, if_false, Bool.false_eq_true, Nat.reduceEqDiff, Option.getD_some, leafBin, leafUn, Option.some.injEq, exists_eq_left', Nat.reduceAdd, St.node, St.bcells, Option.map_some, Option.map_none, nodeAt, Int.toNat_natCast]
      refine hK _ ?_
      clear hK K
      refine os_k fun K hK => ?_
      simp only [List.map_cons, List.map_nil, stepO, evJ, ev, St.opd, Vs.get, setEnv, Vs.put, killEnv, thenQ, reduceIte, if_true, if_false, Bool.false_eq_true, Nat.reduceEqDiff, Option.getD_some, leafBin, leafUn, Option.some.injEq, exists_eq_left', Nat.reduceAdd, St.node, St.bcells, Option.map_some, Option.map_none, nodeAt, Int.toNat_natCast]
      refine hK _ ?_
      clear hK K
      refine os_k fun K hK => ?_
      simp only [List.map_cons, List.map_nil, stepO, evJ, ev, St.opd, Vs.get, setEnv, Vs.put, killEnv, thenQ, reduceIte, if_true, if_false, Bool.false_eq_true, Nat.reduceEqDiff, Option.getD_some, leafBin, leafUn, Option.some.injEq, exists_eq_left', Nat.reduceAdd, St.node, St.bcells, Option.map_some, Option.map_none, nodeAt, Int.toNat_natCast]
      refine ⟨_, _, runs76 (w2 g ++ w2 n) (by simp), _, rfl, _, rfl, by simp [handIo, handBx], fa_cons (⟨rfl, .inl rfl, by simp [handIo, handBx], _, rfl, by simp, by first | rfl | (simp; done) | exact (List.take_of_length_le (by simp)).symm⟩) (fa_nil), _, rfl, _, rfl, ?_⟩
      simp only [newCs, newRes, newA, resV, List.flatMap_cons, List.flatMap_nil, List.flatten_nil, List.append_nil, List.nil_append, List.cons_append, List.length_cons, List.length_nil, List.drop_succ_cons, List.drop_zero, List.take_succ_cons, List.take_zero, if_true, if_false, Bool.false_eq_true, List.drop_nil]
      refine hK _ ?_
      clear hK K
      refine os_k fun K hK => ?_
      simp only [List.map_cons, List.map_nil, stepO, evJ, ev, St.opd, Vs.get, setEnv, Vs.put, killEnv, thenQ, reduceIte, if_true, if_false, Bool.false_eq_true, Nat.reduceEqDiff, Option.getD_some, leafBin, leafUn, Option.some.injEq, exists_eq_left', Nat.reduceAdd, St.node, St.bcells, Option.map_some, Option.map_none, nodeAt, Int.toNat_natCast]
      have hc := crc_lt (w2 g ++ w2 n)
      refine ⟨_, _, runs75w (w2 g ++ w2 n) (crc (w2 g ++ w2 n)) (by omega) (by simp [List.length_append]), _, rfl, _, rfl, by simp [handIo, handBx], fa_cons (⟨rfl, .inl rfl, by simp [handIo, handBx], _, rfl, by simp, by first | rfl | (simp; done) | exact (List.take_of_length_le (by simp)).symm⟩) (fa_cons (rfl) (fa_nil)), _, rfl, _, rfl, ?_⟩
      simp only [newCs, newRes, newA, resV, List.flatMap_cons, List.flatMap_nil, List.flatten_nil, List.append_nil, List.nil_append, List.cons_append, List.length_cons, List.length_nil, List.drop_succ_cons, List.drop_zero, List.take_succ_cons, List.take_zero, if_true, if_false, Bool.false_eq_true, List.drop_nil]
      refine hK _ ?_
      clear hK K
      refine os_k fun K hK => ?_
      simp only [List.map_cons, List.map_nil, stepO, evJ, ev, St.opd, Vs.get, setEnv, Vs.put, killEnv, thenQ, reduceIte, if_true, if_false, Bool.false_eq_true, Nat.reduceEqDiff, Option.getD_some, leafBin, leafUn, Option.some.injEq, exists_eq_left', Nat.reduceAdd, St.node, St.bcells, Option.map_some, Option.map_none, nodeAt, Int.toNat_natCast]
      refine hK _ ?_
      clear hK K
      simp only [runOs, thenQ, blockQ]
      refine sw_ret ?_
      simp only [thenQ, blockQ, resK, ev, St.opd, Vs.get, reduceIte, Nat.reduceEqDiff, Option.getD_some]
      rw [show headB (g : Int) (n : Int) = headN g n from if_pos (by omega)]
      exact leaves_vals rfl rfl rfl (take_one rfl (by simp [headN]))
  · simp only [Bool.not_eq_true, Bool.not_eq_false] at g9
    try simp only [g9]
    try simp only [decide_eq_true_eq, decide_eq_false_iff_not, bne_iff_ne, beq_iff_eq, bne_eq_false_iff_eq, beq_eq_false_iff_ne, ne_eq, Int.not_lt, Int.not_le, gt_iff_lt, ge_iff_le, Bool.not_eq_true, Bool.not_eq_false, Bool.not_eq_true', Bool.not_eq_false', Bool.and_eq_true, Bool.or_eq_true, Bool.and_eq_false_iff, Bool.or_eq_false_iff] at g9
    refine hK _ ?_
    clear hK K
    refine os_k fun K hK => ?_
    simp only [List.map_cons, List.map_nil, stepO, evJ, ev, St.opd, Vs.get, setEnv, Vs.put, killEnv, thenQ, reduceIte, if_true, if_false, Bool.false_eq_true, Nat.reduceEqDiff, Option.getD_some, leafBin, leafUn, Option.some.injEq, exists_eq_left', Nat.reduceAdd, St.node, St.bcells, Option.map_some, Option.map_none, nodeAt, Int.toNat_natCast]
    simp only [reduceCtorEq, ne_eq, not_true, not_false_iff, false_implies, true_implies, implies_true, true_and, and_true, forall_const, Bool.true_eq_false, Bool.false_eq_true]
    refine hK _ ?_
    clear hK K
    refine os_k fun K hK => ?_
    simp only [List.map_cons, List.map_nil, stepO, evJ, ev, St.opd, Vs.get, setEnv, Vs.put, killEnv, thenQ, reduceIte, if_true, if_false, Bool.false_eq_true, Nat.reduceEqDiff, Option.getD_some, leafBin, leafUn, Option.some.injEq, exists_eq_left', Nat.reduceAdd, St.node, St.bcells, Option.map_some, Option.map_none, nodeAt, Int.toNat_natCast]
    simp only [reduceCtorEq, ne_eq, not_true, not_false_iff, false_implies, true_implies, implies_true, true_and, and_true, forall_const, Bool.true_eq_false, Bool.false_eq_true]
    refine hK _ ?_
    clear hK K
    refine os_k fun K hK => ?_
    simp only [List.map_cons, List.map_nil, stepO, evJ, ev, St.opd, Vs.get, setEnv, Vs.put, killEnv, thenQ, reduceIte, if_true, if_false, Bool.false_eq_true, Nat.reduceEqDiff, Option.getD_some, leafBin, leafUn, Option.some.injEq, exists_eq_left', Nat.reduceAdd, St.node, St.bcells, Option.map_some, Option.map_none, nodeAt, Int.toNat_natCast]
    try simp only [reduceCtorEq, ne_eq, not_true, not_false_iff, false_implies, true_implies, implies_true, true_and, and_true, forall_const, Bool.true_eq_false, Bool.false_eq_true]
    refine hK _ ?_
    clear hK K
    simp only [runOs, thenQ, blockQ]
    refine sw_cond rfl (fun h1 => ?_) (fun h1 => ?_)
    · try simp only [decide_eq_true_eq, decide_eq_false_iff_not, bne_iff_ne, beq_iff_eq, bne_eq_false_iff_eq, beq_eq_false_iff_ne, ne_eq, Int.not_lt, Int.not_le, gt_iff_lt, ge_iff_le, Bool.not_eq_true, Bool.not_eq_false, Bool.not_eq_true', Bool.not_eq_false', Bool.and_eq_true, Bool.or_eq_true, Bool.and_eq_false_iff, Bool.or_eq_false_iff] at h1
      refine sw_seq ?_
      refine sw_reg ?_
      unfold s21_2
      refine os_k fun K hK => ?_
      simp only [List.map_cons, List.map_nil, stepO, evJ, ev, St.opd, Vs.get, setEnv, Vs.put, killEnv, thenQ, reduceIte, if_true, if_false, Bool.false_eq_true, Nat.reduceEqDiff, Option.getD_some, leafBin, leafUn, Option.some.injEq, exists_eq_left', Nat.reduceAdd, St.node, St.bcells, Option.map_some, Option.map_none, nodeAt, Int.toNat_natCast]
      refine ⟨_, rfl, _, rfl, ?_⟩
      simp only [setEnv, Vs.put, killEnv, reduceIte, Nat.reduceEqDiff, chunk, List.take_succ_cons, List.take_zero, List.drop_succ_cons, List.drop_zero, Nat.reduceAdd, Nat.zero_add]
      refine hK _ ?_
      clear hK K
      refine os_k fun K hK => ?_
      simp only [List.map_cons, List.map_nil, stepO, evJ, ev, St.opd, Vs.get, setEnv, Vs.put, killEnv, thenQ, reduceIte, if_true, if_false, Bool.false_eq_true, Nat.reduceEqDiff, Option.getD_some, leafBin, leafUn, Option.some.injEq, exists_eq_left', Nat.reduceAdd, St.node, St.bcells, Option.map_some, Option.map_none, nodeAt, Int.toNat_natCast]
      refine hK _ ?_
      clear hK K
      simp only [runOs, thenQ, blockQ]
      refine sw_ret ?_
      simp only [thenQ, blockQ, resK, ev, St.opd, Vs.get, reduceIte, Nat.reduceEqDiff, Option.getD_some]
      rw [show headB g n = [] from if_neg (by omega)]
      exact leaves_vals rfl rfl rfl (take_one rfl (by simp))
    · exact absurd h1 (by simp at h1)
theorem runs22 (g n : Int) : Runs Try.prog 22 [.val false [(.rd, .lf (.int .i64 g))], .val false [(.rd, .lf (.int .i64 n))]] ⟨[(false, [.sl 1 (bD (headB g n))])], [], []⟩ := by
  obtain ⟨c, hb, hs⟩ := body_of tr22
  refine runs_of_sw Try.func22 hb hs rfl (show 2 ≤ 22 by decide) ?_
  clear hb hs c
  simp only [inAs, inCells, flat, List.flatMap_cons, List.flatMap_nil, Arg.cells, List.cons_append, List.nil_append, inCs, inC, fixN, fixCs, fixC, nBox, inV, inB, rootB, List.length_cons, List.length_nil, List.take_succ_cons, List.take_zero, List.drop_succ_cons, List.drop_zero, env0, Nat.zero_add, Nat.add_zero, List.append_nil, Nat.reduceAdd]
  unfold s22
  refine sw_seq ?_
  refine sw_reg ?_
  unfold s22_0
  refine os_k fun K hK => ?_
  simp only [List.map_cons, List.map_nil, stepO, evJ, ev, St.opd, Vs.get, setEnv, Vs.put, killEnv, thenQ, reduceIte, if_true, if_false, Bool.false_eq_true, Nat.reduceEqDiff, Option.getD_some, leafBin, leafUn, Option.some.injEq, exists_eq_left', Nat.reduceAdd, St.node, St.bcells, Option.map_some, Option.map_none, nodeAt, Int.toNat_natCast]
  refine hK _ ?_
  clear hK K
  simp only [runOs, thenQ, blockQ]
  refine sw_seq ?_
  refine sw_seq ?_
  refine sw_reg ?_
  unfold s22_1
  refine os_k fun K hK => ?_
  simp only [List.map_cons, List.map_nil, stepO, evJ, ev, St.opd, Vs.get, setEnv, Vs.put, killEnv, thenQ, reduceIte, if_true, if_false, Bool.false_eq_true, Nat.reduceEqDiff, Option.getD_some, leafBin, leafUn, Option.some.injEq, exists_eq_left', Nat.reduceAdd, St.node, St.bcells, Option.map_some, Option.map_none, nodeAt, Int.toNat_natCast]
  refine hK _ ?_
  clear hK K
  refine os_k fun K hK => ?_
  simp only [List.map_cons, List.map_nil, stepO, evJ, ev, St.opd, Vs.get, setEnv, Vs.put, killEnv, thenQ, reduceIte, if_true, if_false, Bool.false_eq_true, Nat.reduceEqDiff, Option.getD_some, leafBin, leafUn, Option.some.injEq, exists_eq_left', Nat.reduceAdd, St.node, St.bcells, Option.map_some, Option.map_none, nodeAt, Int.toNat_natCast]
  refine ⟨_, _, runs77 g 1 60000, _, rfl, _, rfl, by simp [handIo, handBx], fa_cons (rfl) (fa_cons (rfl) (fa_cons (rfl) (fa_nil))), _, rfl, _, rfl, ?_⟩
  simp only [newCs, newRes, newA, resV, List.flatMap_cons, List.flatMap_nil, List.flatten_nil, List.append_nil, List.nil_append, List.cons_append, List.length_cons, List.length_nil, List.drop_succ_cons, List.drop_zero, List.take_succ_cons, List.take_zero, if_true, if_false, Bool.false_eq_true, List.drop_nil]
  refine hK _ ?_
  clear hK K
  refine os_k fun K hK => ?_
  simp only [List.map_cons, List.map_nil, stepO, evJ, ev, St.opd, Vs.get, setEnv, Vs.put, killEnv, thenQ, reduceIte, if_true, if_false, Bool.false_eq_true, Nat.reduceEqDiff, Option.getD_some, leafBin, leafUn, Option.some.injEq, exists_eq_left', Nat.reduceAdd, St.node, St.bcells, Option.map_some, Option.map_none, nodeAt, Int.toNat_natCast]
  refine hK _ ?_
  clear hK K
  refine os_k fun K hK => ?_
  simp only [List.map_cons, List.map_nil, stepO, evJ, ev, St.opd, Vs.get, setEnv, Vs.put, killEnv, thenQ, reduceIte, if_true, if_false, Bool.false_eq_true, Nat.reduceEqDiff, Option.getD_some, leafBin, leafUn, Option.some.injEq, exists_eq_left', Nat.reduceAdd, St.node, St.bcells, Option.map_some, Option.map_none, nodeAt, Int.toNat_natCast]
  refine hK _ ?_
  clear hK K
  refine os_k fun K hK => ?_
  simp only [List.map_cons, List.map_nil, stepO, evJ, ev, St.opd, Vs.get, setEnv, Vs.put, killEnv, thenQ, reduceIte, if_true, if_false, Bool.false_eq_true, Nat.reduceEqDiff, Option.getD_some, leafBin, leafUn, Option.some.injEq, exists_eq_left', Nat.reduceAdd, St.node, St.bcells, Option.map_some, Option.map_none, nodeAt, Int.toNat_natCast]
  refine ⟨fun g9 => ?_, fun g9 => ?_⟩
  · try simp only [g9]
    try simp only [decide_eq_true_eq, decide_eq_false_iff_not, bne_iff_ne, beq_iff_eq, bne_eq_false_iff_eq, beq_eq_false_iff_ne, ne_eq, Int.not_lt, Int.not_le, gt_iff_lt, ge_iff_le, Bool.not_eq_true, Bool.not_eq_false, Bool.not_eq_true', Bool.not_eq_false', Bool.and_eq_true, Bool.or_eq_true, Bool.and_eq_false_iff, Bool.or_eq_false_iff] at g9
    refine hK _ ?_
    clear hK K
    refine os_k fun K hK => ?_
    simp only [List.map_cons, List.map_nil, stepO, evJ, ev, St.opd, Vs.get, setEnv, Vs.put, killEnv, thenQ, reduceIte, if_true, if_false, Bool.false_eq_true, Nat.reduceEqDiff, Option.getD_some, leafBin, leafUn, Option.some.injEq, exists_eq_left', Nat.reduceAdd, St.node, St.bcells, Option.map_some, Option.map_none, nodeAt, Int.toNat_natCast]
    simp only [reduceCtorEq, ne_eq, not_true, not_false_iff, false_implies, true_implies, implies_true, true_and, and_true, forall_const, Bool.true_eq_false, Bool.false_eq_true]
    refine ⟨_, _, runs77 n 0 30, _, rfl, _, rfl, by simp [handIo, handBx], fa_cons (rfl) (fa_cons (rfl) (fa_cons (rfl) (fa_nil))), _, rfl, _, rfl, ?_⟩
    simp only [newCs, newRes, newA, resV, List.flatMap_cons, List.flatMap_nil, List.flatten_nil, List.append_nil, List.nil_append, List.cons_append, List.length_cons, List.length_nil, List.drop_succ_cons, List.drop_zero, List.take_succ_cons, List.take_zero, if_true, if_false, Bool.false_eq_true, List.drop_nil]
    refine hK _ ?_
    clear hK K
    refine os_k fun K hK => ?_
    simp only [List.map_cons, List.map_nil, stepO, evJ, ev, St.opd, Vs.get, setEnv, Vs.put, killEnv, thenQ, reduceIte, if_true, if_false, Bool.false_eq_true, Nat.reduceEqDiff, Option.getD_some, leafBin, leafUn, Option.some.injEq, exists_eq_left', Nat.reduceAdd, St.node, St.bcells, Option.map_some, Option.map_none, nodeAt, Int.toNat_natCast]
    simp only [reduceCtorEq, ne_eq, not_true, not_false_iff, false_implies, true_implies, implies_true, true_and, and_true, forall_const, Bool.true_eq_false, Bool.false_eq_true]
    refine hK _ ?_
    clear hK K
    refine os_k fun K hK => ?_
    simp only [List.map_cons, List.map_nil, stepO, evJ, ev, St.opd, Vs.get, setEnv, Vs.put, killEnv, thenQ, reduceIte, if_true, if_false, Bool.false_eq_true, Nat.reduceEqDiff, Option.getD_some, leafBin, leafUn, Option.some.injEq, exists_eq_left', Nat.reduceAdd, St.node, St.bcells, Option.map_some, Option.map_none, nodeAt, Int.toNat_natCast]
    try simp only [reduceCtorEq, ne_eq, not_true, not_false_iff, false_implies, true_implies, implies_true, true_and, and_true, forall_const, Bool.true_eq_false, Bool.false_eq_true]
    refine hK _ ?_
    clear hK K
    simp only [runOs, thenQ, blockQ]
    refine sw_cond rfl (fun h1 => ?_) (fun h1 => ?_)
    · try simp only [decide_eq_true_eq, decide_eq_false_iff_not, bne_iff_ne, beq_iff_eq, bne_eq_false_iff_eq, beq_eq_false_iff_ne, ne_eq, Int.not_lt, Int.not_le, gt_iff_lt, ge_iff_le, Bool.not_eq_true, Bool.not_eq_false, Bool.not_eq_true', Bool.not_eq_false', Bool.and_eq_true, Bool.or_eq_true, Bool.and_eq_false_iff, Bool.or_eq_false_iff] at h1
      refine sw_seq ?_
      refine sw_reg ?_
      unfold s22_2
      refine os_k fun K hK => ?_
      simp only [List.map_cons, List.map_nil, stepO, evJ, ev, St.opd, Vs.get, setEnv, Vs.put, killEnv, thenQ, reduceIte, if_true, if_false, Bool.false_eq_true, Nat.reduceEqDiff, Option.getD_some, leafBin, leafUn, Option.some.injEq, exists_eq_left', Nat.reduceAdd, St.node, St.bcells, Option.map_some, Option.map_none, nodeAt, Int.toNat_natCast]
      refine hK _ ?_
      clear hK K
      simp only [runOs, thenQ, blockQ]
      refine sw_ret ?_
      simp only [thenQ, blockQ, resK, ev, St.opd, Vs.get, reduceIte, Nat.reduceEqDiff, Option.getD_some]
      rw [show headB g n = [] from if_neg (by omega)]
      exact leaves_vals rfl rfl rfl (take_nl rfl)
    · try simp only [decide_eq_true_eq, decide_eq_false_iff_not, bne_iff_ne, beq_iff_eq, bne_eq_false_iff_eq, beq_eq_false_iff_ne, ne_eq, Int.not_lt, Int.not_le, gt_iff_lt, ge_iff_le, Bool.not_eq_true, Bool.not_eq_false, Bool.not_eq_true', Bool.not_eq_false', Bool.and_eq_true, Bool.or_eq_true, Bool.and_eq_false_iff, Bool.or_eq_false_iff] at h1
      obtain ⟨g, rfl⟩ : ∃ g0 : Nat, g = g0 := ⟨g.toNat, by omega⟩
      obtain ⟨n, rfl⟩ : ∃ n0 : Nat, n = n0 := ⟨n.toNat, by omega⟩
      refine sw_skip ?_
      simp only [thenQ, blockQ]
      refine sw_seq ?_
      refine sw_reg ?_
      unfold s22_3
      refine os_k fun K hK => ?_
      simp only [List.map_cons, List.map_nil, stepO, evJ, ev, St.opd, Vs.get, setEnv, Vs.put, killEnv, thenQ, reduceIte, if_true, if_false, Bool.false_eq_true, Nat.reduceEqDiff, Option.getD_some, leafBin, leafUn, Option.some.injEq, exists_eq_left', Nat.reduceAdd, St.node, St.bcells, Option.map_some, Option.map_none, nodeAt, Int.toNat_natCast]
      refine hK _ ?_
      clear hK K
      refine os_k fun K hK => ?_
      simp only [List.map_cons, List.map_nil, stepO, evJ, ev, St.opd, Vs.get, setEnv, Vs.put, killEnv, thenQ, reduceIte, if_true, if_false, Bool.false_eq_true, Nat.reduceEqDiff, Option.getD_some, leafBin, leafUn, Option.some.injEq, exists_eq_left', Nat.reduceAdd, St.node, St.bcells, Option.map_some, Option.map_none, nodeAt, Int.toNat_natCast]
      refine ⟨_, _, runs78 ([]) (g) (by omega) (by simp [List.length_append]), _, rfl, _, take_nl rfl, by simp [handIo, handBx], fa_cons (trivial) (fa_cons (rfl) (fa_nil)), _, rfl, _, rfl, ?_⟩
      simp only [newCs, newRes, newA, resV, List.flatMap_cons, List.flatMap_nil, List.flatten_nil, List.append_nil, List.nil_append, List.cons_append, List.length_cons, List.length_nil, List.drop_succ_cons, List.drop_zero, List.take_succ_cons, List.take_zero, if_true, if_false, Bool.false_eq_true, List.drop_nil]
      refine hK _ ?_
      clear hK K
      refine os_k fun K hK => ?_
      simp only [List.map_cons, List.map_nil, stepO, evJ, ev, St.opd, Vs.get, setEnv, Vs.put, killEnv, thenQ, reduceIte, if_true, if_false, Bool.false_eq_true, Nat.reduceEqDiff, Option.getD_some, leafBin, leafUn, Option.some.injEq, exists_eq_left', Nat.reduceAdd, St.node, St.bcells, Option.map_some, Option.map_none, nodeAt, Int.toNat_natCast]
      refine hK _ ?_
      clear hK K
      refine os_k fun K hK => ?_
      simp only [List.map_cons, List.map_nil, stepO, evJ, ev, St.opd, Vs.get, setEnv, Vs.put, killEnv, thenQ, reduceIte, if_true, if_false, Bool.false_eq_true, Nat.reduceEqDiff, Option.getD_some, leafBin, leafUn, Option.some.injEq, exists_eq_left', Nat.reduceAdd, St.node, St.bcells, Option.map_some, Option.map_none, nodeAt, Int.toNat_natCast]
      refine ⟨_, _, runs78 (w2 g) (n) (by omega) (by simp [List.length_append]), _, rfl, _, take_one rfl (by simp), by simp [handIo, handBx], fa_cons (trivial) (fa_cons (rfl) (fa_nil)), _, rfl, _, rfl, ?_⟩
      simp only [newCs, newRes, newA, resV, List.flatMap_cons, List.flatMap_nil, List.flatten_nil, List.append_nil, List.nil_append, List.cons_append, List.length_cons, List.length_nil, List.drop_succ_cons, List.drop_zero, List.take_succ_cons, List.take_zero, if_true, if_false, Bool.false_eq_true, List.drop_nil]
      refine hK _ ?_
      clear hK K
      refine os_k fun K hK => ?_
      simp only [List.map_cons, List.map_nil, stepO, evJ, ev, St.opd, Vs.get, setEnv, Vs.put, killEnv, thenQ, reduceIte, if_true, if_false, Bool.false_eq_true, Nat.reduceEqDiff, Option.getD_some, leafBin, leafUn, Option.some.injEq, exists_eq_left', Nat.reduceAdd, St.node, St.bcells, Option.map_some, Option.map_none, nodeAt, Int.toNat_natCast]
      refine hK _ ?_
      clear hK K
      simp only [runOs, thenQ, blockQ]
      refine sw_seq ?_
      refine sw_reg ?_
      unfold s22_4
      refine os_k fun K hK => ?_
      simp only [List.map_cons, List.map_nil, stepO, evJ, ev, St.opd, Vs.get, setEnv, Vs.put, killEnv, thenQ, reduceIte, if_true, if_false, Bool.false_eq_true, Nat.reduceEqDiff, Option.getD_some, leafBin, leafUn, Option.some.injEq, exists_eq_left', Nat.reduceAdd, St.node, St.bcells, Option.map_some, Option.map_none, nodeAt, Int.toNat_natCast]
      refine hK _ ?_
      clear hK K
      refine os_k fun K hK => ?_
      simp only [List.map_cons, List.map_nil, stepO, evJ, ev, St.opd, Vs.get, setEnv, Vs.put, killEnv, thenQ, reduceIte, if_true, if_false, Bool.false_eq_true, Nat.reduceEqDiff, Option.getD_some, leafBin, leafUn, Option.some.injEq, exists_eq_left', Nat.reduceAdd, St.node, St.bcells, Option.map_some, Option.map_none, nodeAt, Int.toNat_natCast]
      refine hK _ ?_
      clear hK K
      refine os_k fun K hK => ?_
      simp only [List.map_cons, List.map_nil, stepO, evJ, ev, St.opd, Vs.get, setEnv, Vs.put, killEnv, thenQ, reduceIte, if_true, if_false, Bool.false_eq_true, Nat.reduceEqDiff, Option.getD_some, leafBin, leafUn, Option.some.injEq, exists_eq_left', Nat.reduceAdd, St.node, St.bcells, Option.map_some, Option.map_none, nodeAt, Int.toNat_natCast]
      refine ⟨_, _, runs79 (w2 g ++ w2 n) (by simp), _, rfl, _, rfl, by simp [handIo, handBx], fa_cons (⟨rfl, .inl rfl, by simp [handIo, handBx], _, rfl, by simp, by first | rfl | (simp; done) | exact (List.take_of_length_le (by simp)).symm⟩) (fa_nil), _, rfl, _, rfl, ?_⟩
      simp only [newCs, newRes, newA, resV, List.flatMap_cons, List.flatMap_nil, List.flatten_nil, List.append_nil, List.nil_append, List.cons_append, List.length_cons, List.length_nil, List.drop_succ_cons, List.drop_zero, List.take_succ_cons, List.take_zero, if_true, if_false, Bool.false_eq_true, List.drop_nil]
      refine hK _ ?_
      clear hK K
      refine os_k fun K hK => ?_
      simp only [List.map_cons, List.map_nil, stepO, evJ, ev, St.opd, Vs.get, setEnv, Vs.put, killEnv, thenQ, reduceIte, if_true, if_false, Bool.false_eq_true, Nat.reduceEqDiff, Option.getD_some, leafBin, leafUn, Option.some.injEq, exists_eq_left', Nat.reduceAdd, St.node, St.bcells, Option.map_some, Option.map_none, nodeAt, Int.toNat_natCast]
      have hc := crc_lt (w2 g ++ w2 n)
      refine ⟨_, _, runs78 (w2 g ++ w2 n) (crc (w2 g ++ w2 n)) (by omega) (by simp [List.length_append]), _, rfl, _, take_one rfl (by simp), by simp [handIo, handBx], fa_cons (trivial) (fa_cons (rfl) (fa_nil)), _, rfl, _, rfl, ?_⟩
      simp only [newCs, newRes, newA, resV, List.flatMap_cons, List.flatMap_nil, List.flatten_nil, List.append_nil, List.nil_append, List.cons_append, List.length_cons, List.length_nil, List.drop_succ_cons, List.drop_zero, List.take_succ_cons, List.take_zero, if_true, if_false, Bool.false_eq_true, List.drop_nil]
      refine hK _ ?_
      clear hK K
      refine os_k fun K hK => ?_
      simp only [List.map_cons, List.map_nil, stepO, evJ, ev, St.opd, Vs.get, setEnv, Vs.put, killEnv, thenQ, reduceIte, if_true, if_false, Bool.false_eq_true, Nat.reduceEqDiff, Option.getD_some, leafBin, leafUn, Option.some.injEq, exists_eq_left', Nat.reduceAdd, St.node, St.bcells, Option.map_some, Option.map_none, nodeAt, Int.toNat_natCast]
      refine hK _ ?_
      clear hK K
      simp only [runOs, thenQ, blockQ]
      refine sw_ret ?_
      simp only [thenQ, blockQ, resK, ev, St.opd, Vs.get, reduceIte, Nat.reduceEqDiff, Option.getD_some]
      rw [show headB (g : Int) (n : Int) = headN g n from if_pos (by omega)]
      exact leaves_vals rfl rfl rfl (take_one rfl (by simp [headN]))
  · simp only [Bool.not_eq_true, Bool.not_eq_false] at g9
    try simp only [g9]
    try simp only [decide_eq_true_eq, decide_eq_false_iff_not, bne_iff_ne, beq_iff_eq, bne_eq_false_iff_eq, beq_eq_false_iff_ne, ne_eq, Int.not_lt, Int.not_le, gt_iff_lt, ge_iff_le, Bool.not_eq_true, Bool.not_eq_false, Bool.not_eq_true', Bool.not_eq_false', Bool.and_eq_true, Bool.or_eq_true, Bool.and_eq_false_iff, Bool.or_eq_false_iff] at g9
    refine hK _ ?_
    clear hK K
    refine os_k fun K hK => ?_
    simp only [List.map_cons, List.map_nil, stepO, evJ, ev, St.opd, Vs.get, setEnv, Vs.put, killEnv, thenQ, reduceIte, if_true, if_false, Bool.false_eq_true, Nat.reduceEqDiff, Option.getD_some, leafBin, leafUn, Option.some.injEq, exists_eq_left', Nat.reduceAdd, St.node, St.bcells, Option.map_some, Option.map_none, nodeAt, Int.toNat_natCast]
    simp only [reduceCtorEq, ne_eq, not_true, not_false_iff, false_implies, true_implies, implies_true, true_and, and_true, forall_const, Bool.true_eq_false, Bool.false_eq_true]
    refine hK _ ?_
    clear hK K
    refine os_k fun K hK => ?_
    simp only [List.map_cons, List.map_nil, stepO, evJ, ev, St.opd, Vs.get, setEnv, Vs.put, killEnv, thenQ, reduceIte, if_true, if_false, Bool.false_eq_true, Nat.reduceEqDiff, Option.getD_some, leafBin, leafUn, Option.some.injEq, exists_eq_left', Nat.reduceAdd, St.node, St.bcells, Option.map_some, Option.map_none, nodeAt, Int.toNat_natCast]
    simp only [reduceCtorEq, ne_eq, not_true, not_false_iff, false_implies, true_implies, implies_true, true_and, and_true, forall_const, Bool.true_eq_false, Bool.false_eq_true]
    refine hK _ ?_
    clear hK K
    refine os_k fun K hK => ?_
    simp only [List.map_cons, List.map_nil, stepO, evJ, ev, St.opd, Vs.get, setEnv, Vs.put, killEnv, thenQ, reduceIte, if_true, if_false, Bool.false_eq_true, Nat.reduceEqDiff, Option.getD_some, leafBin, leafUn, Option.some.injEq, exists_eq_left', Nat.reduceAdd, St.node, St.bcells, Option.map_some, Option.map_none, nodeAt, Int.toNat_natCast]
    try simp only [reduceCtorEq, ne_eq, not_true, not_false_iff, false_implies, true_implies, implies_true, true_and, and_true, forall_const, Bool.true_eq_false, Bool.false_eq_true]
    refine hK _ ?_
    clear hK K
    simp only [runOs, thenQ, blockQ]
    refine sw_cond rfl (fun h1 => ?_) (fun h1 => ?_)
    · try simp only [decide_eq_true_eq, decide_eq_false_iff_not, bne_iff_ne, beq_iff_eq, bne_eq_false_iff_eq, beq_eq_false_iff_ne, ne_eq, Int.not_lt, Int.not_le, gt_iff_lt, ge_iff_le, Bool.not_eq_true, Bool.not_eq_false, Bool.not_eq_true', Bool.not_eq_false', Bool.and_eq_true, Bool.or_eq_true, Bool.and_eq_false_iff, Bool.or_eq_false_iff] at h1
      refine sw_seq ?_
      refine sw_reg ?_
      unfold s22_2
      refine os_k fun K hK => ?_
      simp only [List.map_cons, List.map_nil, stepO, evJ, ev, St.opd, Vs.get, setEnv, Vs.put, killEnv, thenQ, reduceIte, if_true, if_false, Bool.false_eq_true, Nat.reduceEqDiff, Option.getD_some, leafBin, leafUn, Option.some.injEq, exists_eq_left', Nat.reduceAdd, St.node, St.bcells, Option.map_some, Option.map_none, nodeAt, Int.toNat_natCast]
      refine hK _ ?_
      clear hK K
      simp only [runOs, thenQ, blockQ]
      refine sw_ret ?_
      simp only [thenQ, blockQ, resK, ev, St.opd, Vs.get, reduceIte, Nat.reduceEqDiff, Option.getD_some]
      rw [show headB g n = [] from if_neg (by omega)]
      exact leaves_vals rfl rfl rfl (take_nl rfl)
    · exact absurd h1 (by simp at h1)
theorem runs4 (g n : Int) : Runs Try.prog 4 [.val false [(.rd, .lf (.int .i64 g))], .val false [(.rd, .lf (.int .i64 n))]] ⟨[(false, [.lf (.bool true)])], [], []⟩ := by
  obtain ⟨c, hb, hs⟩ := body_of tr4
  refine runs_of_sw Try.func4 hb hs rfl (show 2 ≤ 46 by decide) ?_
  clear hb hs c
  simp only [inAs, inCells, flat, List.flatMap_cons, List.flatMap_nil, Arg.cells, List.cons_append, List.nil_append, inCs, inC, fixN, fixCs, fixC, nBox, inV, inB, rootB, List.length_cons, List.length_nil, List.take_succ_cons, List.take_zero, List.drop_succ_cons, List.drop_zero, env0, Nat.zero_add, Nat.add_zero, List.append_nil, Nat.reduceAdd]
  unfold s4
  have hl := headB_len g n
  refine sw_seq ?_
  refine sw_reg ?_
  unfold s4_0
  refine os_k fun K hK => ?_
  simp only [List.map_cons, List.map_nil, stepO, evJ, ev, St.opd, Vs.get, setEnv, Vs.put, killEnv, thenQ, reduceIte, if_true, if_false, Bool.false_eq_true, Nat.reduceEqDiff, Option.getD_some, leafBin, leafUn, Option.some.injEq, exists_eq_left', Nat.reduceAdd, St.node, St.bcells, Option.map_some, Option.map_none, nodeAt, Int.toNat_natCast]
  refine hK _ ?_
  clear hK K
  simp only [runOs, thenQ, blockQ]
  refine sw_seq ?_
  refine sw_reg ?_
  unfold s4_1
  refine os_k fun K hK => ?_
  simp only [List.map_cons, List.map_nil, stepO, evJ, ev, St.opd, Vs.get, setEnv, Vs.put, killEnv, thenQ, reduceIte, if_true, if_false, Bool.false_eq_true, Nat.reduceEqDiff, Option.getD_some, leafBin, leafUn, Option.some.injEq, exists_eq_left', Nat.reduceAdd, St.node, St.bcells, Option.map_some, Option.map_none, nodeAt, Int.toNat_natCast]
  refine hK _ ?_
  clear hK K
  refine os_k fun K hK => ?_
  simp only [List.map_cons, List.map_nil, stepO, evJ, ev, St.opd, Vs.get, setEnv, Vs.put, killEnv, thenQ, reduceIte, if_true, if_false, Bool.false_eq_true, Nat.reduceEqDiff, Option.getD_some, leafBin, leafUn, Option.some.injEq, exists_eq_left', Nat.reduceAdd, St.node, St.bcells, Option.map_some, Option.map_none, nodeAt, Int.toNat_natCast]
  refine hK _ ?_
  clear hK K
  refine os_k fun K hK => ?_
  simp only [List.map_cons, List.map_nil, stepO, evJ, ev, St.opd, Vs.get, setEnv, Vs.put, killEnv, thenQ, reduceIte, if_true, if_false, Bool.false_eq_true, Nat.reduceEqDiff, Option.getD_some, leafBin, leafUn, Option.some.injEq, exists_eq_left', Nat.reduceAdd, St.node, St.bcells, Option.map_some, Option.map_none, nodeAt, Int.toNat_natCast]
  refine ⟨_, _, runs21 g n, _, rfl, _, rfl, by simp [handIo, handBx], fa_cons (rfl) (fa_cons (rfl) (fa_nil)), _, rfl, _, rfl, ?_⟩
  simp only [newCs, newRes, newA, resV, List.flatMap_cons, List.flatMap_nil, List.flatten_nil, List.append_nil, List.nil_append, List.cons_append, List.length_cons, List.length_nil, List.drop_succ_cons, List.drop_zero, List.take_succ_cons, List.take_zero, if_true, if_false, Bool.false_eq_true, List.drop_nil]
  refine hK _ ?_
  clear hK K
  refine os_k fun K hK => ?_
  simp only [List.map_cons, List.map_nil, stepO, evJ, ev, St.opd, Vs.get, setEnv, Vs.put, killEnv, thenQ, reduceIte, if_true, if_false, Bool.false_eq_true, Nat.reduceEqDiff, Option.getD_some, leafBin, leafUn, Option.some.injEq, exists_eq_left', Nat.reduceAdd, St.node, St.bcells, Option.map_some, Option.map_none, nodeAt, Int.toNat_natCast]
  refine hK _ ?_
  clear hK K
  simp only [runOs, thenQ, blockQ]
  refine sw_seq ?_
  refine sw_reg ?_
  unfold s4_2
  refine os_k fun K hK => ?_
  simp only [List.map_cons, List.map_nil, stepO, evJ, ev, St.opd, Vs.get, setEnv, Vs.put, killEnv, thenQ, reduceIte, if_true, if_false, Bool.false_eq_true, Nat.reduceEqDiff, Option.getD_some, leafBin, leafUn, Option.some.injEq, exists_eq_left', Nat.reduceAdd, St.node, St.bcells, Option.map_some, Option.map_none, nodeAt, Int.toNat_natCast]
  refine hK _ ?_
  clear hK K
  refine os_k fun K hK => ?_
  simp only [List.map_cons, List.map_nil, stepO, evJ, ev, St.opd, Vs.get, setEnv, Vs.put, killEnv, thenQ, reduceIte, if_true, if_false, Bool.false_eq_true, Nat.reduceEqDiff, Option.getD_some, leafBin, leafUn, Option.some.injEq, exists_eq_left', Nat.reduceAdd, St.node, St.bcells, Option.map_some, Option.map_none, nodeAt, Int.toNat_natCast]
  refine hK _ ?_
  clear hK K
  refine os_k fun K hK => ?_
  simp only [List.map_cons, List.map_nil, stepO, evJ, ev, St.opd, Vs.get, setEnv, Vs.put, killEnv, thenQ, reduceIte, if_true, if_false, Bool.false_eq_true, Nat.reduceEqDiff, Option.getD_some, leafBin, leafUn, Option.some.injEq, exists_eq_left', Nat.reduceAdd, St.node, St.bcells, Option.map_some, Option.map_none, nodeAt, Int.toNat_natCast]
  refine ⟨_, _, runs22 g n, _, rfl, _, rfl, by simp [handIo, handBx], fa_cons (rfl) (fa_cons (rfl) (fa_nil)), _, rfl, _, rfl, ?_⟩
  simp only [newCs, newRes, newA, resV, List.flatMap_cons, List.flatMap_nil, List.flatten_nil, List.append_nil, List.nil_append, List.cons_append, List.length_cons, List.length_nil, List.drop_succ_cons, List.drop_zero, List.take_succ_cons, List.take_zero, if_true, if_false, Bool.false_eq_true, List.drop_nil]
  refine hK _ ?_
  clear hK K
  refine os_k fun K hK => ?_
  simp only [List.map_cons, List.map_nil, stepO, evJ, ev, St.opd, Vs.get, setEnv, Vs.put, killEnv, thenQ, reduceIte, if_true, if_false, Bool.false_eq_true, Nat.reduceEqDiff, Option.getD_some, leafBin, leafUn, Option.some.injEq, exists_eq_left', Nat.reduceAdd, St.node, St.bcells, Option.map_some, Option.map_none, nodeAt, Int.toNat_natCast]
  refine hK _ ?_
  clear hK K
  simp only [runOs, thenQ, blockQ]
  refine sw_seq ?_
  refine sw_seq ?_
  refine sw_reg ?_
  unfold s4_3
  refine os_k fun K hK => ?_
  simp only [List.map_cons, List.map_nil, stepO, evJ, ev, St.opd, Vs.get, setEnv, Vs.put, killEnv, thenQ, reduceIte, if_true, if_false, Bool.false_eq_true, Nat.reduceEqDiff, Option.getD_some, leafBin, leafUn, Option.some.injEq, exists_eq_left', Nat.reduceAdd, St.node, St.bcells, Option.map_some, Option.map_none, nodeAt, Int.toNat_natCast]
  refine hK _ ?_
  clear hK K
  refine os_k fun K hK => ?_
  simp only [List.map_cons, List.map_nil, stepO, evJ, ev, St.opd, Vs.get, setEnv, Vs.put, killEnv, thenQ, reduceIte, if_true, if_false, Bool.false_eq_true, Nat.reduceEqDiff, Option.getD_some, leafBin, leafUn, Option.some.injEq, exists_eq_left', Nat.reduceAdd, St.node, St.bcells, Option.map_some, Option.map_none, nodeAt, Int.toNat_natCast]
  refine hK _ ?_
  clear hK K
  refine os_k fun K hK => ?_
  simp only [List.map_cons, List.map_nil, stepO, evJ, ev, St.opd, Vs.get, setEnv, Vs.put, killEnv, thenQ, reduceIte, if_true, if_false, Bool.false_eq_true, Nat.reduceEqDiff, Option.getD_some, leafBin, leafUn, Option.some.injEq, exists_eq_left', Nat.reduceAdd, St.node, St.bcells, Option.map_some, Option.map_none, nodeAt, Int.toNat_natCast]
  refine ⟨_, _, runs23 (headB g n) (headB g n) (by omega), _, rfl, _, rfl, by simp [handIo, handBx], fa_cons (⟨rfl, .inl rfl, by simp [handIo, handBx], _, rfl, by simp, by first | rfl | (simp; done) | exact (List.take_of_length_le (by simp)).symm⟩) (fa_cons (⟨rfl, .inl rfl, by simp [handIo, handBx], _, rfl, by simp, by first | rfl | (simp; done) | exact (List.take_of_length_le (by simp)).symm⟩) (fa_nil)), _, rfl, _, rfl, ?_⟩
  simp only [newCs, newRes, newA, resV, List.flatMap_cons, List.flatMap_nil, List.flatten_nil, List.append_nil, List.nil_append, List.cons_append, List.length_cons, List.length_nil, List.drop_succ_cons, List.drop_zero, List.take_succ_cons, List.take_zero, if_true, if_false, Bool.false_eq_true, List.drop_nil]
  simp only [decide_true, Bool.not_true]
  refine hK _ ?_
  clear hK K
  refine os_k fun K hK => ?_
  simp only [List.map_cons, List.map_nil, stepO, evJ, ev, St.opd, Vs.get, setEnv, Vs.put, killEnv, thenQ, reduceIte, if_true, if_false, Bool.false_eq_true, Nat.reduceEqDiff, Option.getD_some, leafBin, leafUn, Option.some.injEq, exists_eq_left', Nat.reduceAdd, St.node, St.bcells, Option.map_some, Option.map_none, nodeAt, Int.toNat_natCast]
  refine hK _ ?_
  clear hK K
  simp only [runOs, thenQ, blockQ]
  refine sw_cond rfl (fun h1 => ?_) (fun h1 => ?_)
  · exact absurd h1 (by simp at h1)
  · try simp only [decide_eq_true_eq, decide_eq_false_iff_not, bne_iff_ne, beq_iff_eq, bne_eq_false_iff_eq, beq_eq_false_iff_ne, ne_eq, Int.not_lt, Int.not_le, gt_iff_lt, ge_iff_le, Bool.not_eq_true, Bool.not_eq_false, Bool.not_eq_true', Bool.not_eq_false', Bool.and_eq_true, Bool.or_eq_true, Bool.and_eq_false_iff, Bool.or_eq_false_iff] at h1
    refine sw_skip ?_
    simp only [thenQ, blockQ]
    refine sw_seq ?_
    refine sw_reg ?_
    unfold s4_5
    refine os_k fun K hK => ?_
    simp only [List.map_cons, List.map_nil, stepO, evJ, ev, St.opd, Vs.get, setEnv, Vs.put, killEnv, thenQ, reduceIte, if_true, if_false, Bool.false_eq_true, Nat.reduceEqDiff, Option.getD_some, leafBin, leafUn, Option.some.injEq, exists_eq_left', Nat.reduceAdd, St.node, St.bcells, Option.map_some, Option.map_none, nodeAt, Int.toNat_natCast]
    refine hK _ ?_
    clear hK K
    simp only [runOs, thenQ, blockQ]
    refine sw_seq ?_
    refine sw_reg ?_
    unfold s4_6
    refine os_k fun K hK => ?_
    simp only [List.map_cons, List.map_nil, stepO, evJ, ev, St.opd, Vs.get, setEnv, Vs.put, killEnv, thenQ, reduceIte, if_true, if_false, Bool.false_eq_true, Nat.reduceEqDiff, Option.getD_some, leafBin, leafUn, Option.some.injEq, exists_eq_left', Nat.reduceAdd, St.node, St.bcells, Option.map_some, Option.map_none, nodeAt, Int.toNat_natCast]
    refine hK _ ?_
    clear hK K
    refine os_k fun K hK => ?_
    simp only [List.map_cons, List.map_nil, stepO, evJ, ev, St.opd, Vs.get, setEnv, Vs.put, killEnv, thenQ, reduceIte, if_true, if_false, Bool.false_eq_true, Nat.reduceEqDiff, Option.getD_some, leafBin, leafUn, Option.some.injEq, exists_eq_left', Nat.reduceAdd, St.node, St.bcells, Option.map_some, Option.map_none, nodeAt, Int.toNat_natCast]
    refine hK _ ?_
    clear hK K
    refine os_k fun K hK => ?_
    simp only [List.map_cons, List.map_nil, stepO, evJ, ev, St.opd, Vs.get, setEnv, Vs.put, killEnv, thenQ, reduceIte, if_true, if_false, Bool.false_eq_true, Nat.reduceEqDiff, Option.getD_some, leafBin, leafUn, Option.some.injEq, exists_eq_left', Nat.reduceAdd, St.node, St.bcells, Option.map_some, Option.map_none, nodeAt, Int.toNat_natCast]
    refine ⟨_, _, runs24 (headB g n) 1 (by omega), _, rfl, _, rfl, by simp [handIo, handBx], fa_cons (⟨rfl, rfl, by simp, _, _, rfl, rfl⟩) (fa_cons (rfl) (fa_nil)), _, rfl, _, rfl, ?_⟩
    simp only [newCs, newRes, newA, resV, List.flatMap_cons, List.flatMap_nil, List.flatten_nil, List.append_nil, List.nil_append, List.cons_append, List.length_cons, List.length_nil, List.drop_succ_cons, List.drop_zero, List.take_succ_cons, List.take_zero, if_true, if_false, Bool.false_eq_true, List.drop_nil]
    simp only [updNode]
    refine hK _ ?_
    clear hK K
    refine os_k fun K hK => ?_
    simp only [List.map_cons, List.map_nil, stepO, evJ, ev, St.opd, Vs.get, setEnv, Vs.put, killEnv, thenQ, reduceIte, if_true, if_false, Bool.false_eq_true, Nat.reduceEqDiff, Option.getD_some, leafBin, leafUn, Option.some.injEq, exists_eq_left', Nat.reduceAdd, St.node, St.bcells, Option.map_some, Option.map_none, nodeAt, Int.toNat_natCast]
    refine hK _ ?_
    clear hK K
    simp only [runOs, thenQ, blockQ]
    refine sw_seq ?_
    refine sw_reg ?_
    unfold s4_7
    refine os_k fun K hK => ?_
    simp only [List.map_cons, List.map_nil, stepO, evJ, ev, St.opd, Vs.get, setEnv, Vs.put, killEnv, thenQ, reduceIte, if_true, if_false, Bool.false_eq_true, Nat.reduceEqDiff, Option.getD_some, leafBin, leafUn, Option.some.injEq, exists_eq_left', Nat.reduceAdd, St.node, St.bcells, Option.map_some, Option.map_none, nodeAt, Int.toNat_natCast]
    refine hK _ ?_
    clear hK K
    simp only [runOs, thenQ, blockQ]
    refine sw_seq ?_
    refine sw_reg ?_
    unfold s4_8
    refine os_k fun K hK => ?_
    simp only [List.map_cons, List.map_nil, stepO, evJ, ev, St.opd, Vs.get, setEnv, Vs.put, killEnv, thenQ, reduceIte, if_true, if_false, Bool.false_eq_true, Nat.reduceEqDiff, Option.getD_some, leafBin, leafUn, Option.some.injEq, exists_eq_left', Nat.reduceAdd, St.node, St.bcells, Option.map_some, Option.map_none, nodeAt, Int.toNat_natCast]
    refine hK _ ?_
    clear hK K
    refine os_k fun K hK => ?_
    simp only [List.map_cons, List.map_nil, stepO, evJ, ev, St.opd, Vs.get, setEnv, Vs.put, killEnv, thenQ, reduceIte, if_true, if_false, Bool.false_eq_true, Nat.reduceEqDiff, Option.getD_some, leafBin, leafUn, Option.some.injEq, exists_eq_left', Nat.reduceAdd, St.node, St.bcells, Option.map_some, Option.map_none, nodeAt, Int.toNat_natCast]
    refine hK _ ?_
    clear hK K
    refine os_k fun K hK => ?_
    simp only [List.map_cons, List.map_nil, stepO, evJ, ev, St.opd, Vs.get, setEnv, Vs.put, killEnv, thenQ, reduceIte, if_true, if_false, Bool.false_eq_true, Nat.reduceEqDiff, Option.getD_some, leafBin, leafUn, Option.some.injEq, exists_eq_left', Nat.reduceAdd, St.node, St.bcells, Option.map_some, Option.map_none, nodeAt, Int.toNat_natCast]
    refine ⟨_, _, runs25 (cnt 1 (headB g n).length) 1 (by rw [cnt_len]; omega), _, rfl, _, rfl, by simp [handIo, handBx], fa_cons (⟨rfl, .inl rfl, by simp [handIo, handBx], _, rfl, by simp [cnt_len], by first | rfl | (simp; done) | exact (List.take_of_length_le (by simp [cnt_len])).symm⟩) (fa_cons (rfl) (fa_nil)), _, rfl, _, rfl, ?_⟩
    simp only [newCs, newRes, newA, resV, List.flatMap_cons, List.flatMap_nil, List.flatten_nil, List.append_nil, List.nil_append, List.cons_append, List.length_cons, List.length_nil, List.drop_succ_cons, List.drop_zero, List.take_succ_cons, List.take_zero, if_true, if_false, Bool.false_eq_true, List.drop_nil]
    simp only [cnt_len, if_true]
    refine hK _ ?_
    clear hK K
    refine os_k fun K hK => ?_
    simp only [List.map_cons, List.map_nil, stepO, evJ, ev, St.opd, Vs.get, setEnv, Vs.put, killEnv, thenQ, reduceIte, if_true, if_false, Bool.false_eq_true, Nat.reduceEqDiff, Option.getD_some, leafBin, leafUn, Option.some.injEq, exists_eq_left', Nat.reduceAdd, St.node, St.bcells, Option.map_some, Option.map_none, nodeAt, Int.toNat_natCast]
    refine hK _ ?_
    clear hK K
    simp only [runOs, thenQ, blockQ]
    refine sw_seq ?_
    refine sw_seq ?_
    refine sw_reg ?_
    unfold s4_9
    refine os_k fun K hK => ?_
    simp only [List.map_cons, List.map_nil, stepO, evJ, ev, St.opd, Vs.get, setEnv, Vs.put, killEnv, thenQ, reduceIte, if_true, if_false, Bool.false_eq_true, Nat.reduceEqDiff, Option.getD_some, leafBin, leafUn, Option.some.injEq, exists_eq_left', Nat.reduceAdd, St.node, St.bcells, Option.map_some, Option.map_none, nodeAt, Int.toNat_natCast]
    refine hK _ ?_
    clear hK K
    refine os_k fun K hK => ?_
    simp only [List.map_cons, List.map_nil, stepO, evJ, ev, St.opd, Vs.get, setEnv, Vs.put, killEnv, thenQ, reduceIte, if_true, if_false, Bool.false_eq_true, Nat.reduceEqDiff, Option.getD_some, leafBin, leafUn, Option.some.injEq, exists_eq_left', Nat.reduceAdd, St.node, St.bcells, Option.map_some, Option.map_none, nodeAt, Int.toNat_natCast]
    refine hK _ ?_
    clear hK K
    simp only [runOs, thenQ, blockQ]
    refine sw_cond rfl (fun h3 => ?_) (fun h3 => ?_)
    · exact absurd h3 (by simp at h3; omega)
    · try simp only [decide_eq_true_eq, decide_eq_false_iff_not, bne_iff_ne, beq_iff_eq, bne_eq_false_iff_eq, beq_eq_false_iff_ne, ne_eq, Int.not_lt, Int.not_le, gt_iff_lt, ge_iff_le, Bool.not_eq_true, Bool.not_eq_false, Bool.not_eq_true', Bool.not_eq_false', Bool.and_eq_true, Bool.or_eq_true, Bool.and_eq_false_iff, Bool.or_eq_false_iff] at h3
      refine sw_skip ?_
      simp only [thenQ, blockQ]
      refine sw_seq ?_
      refine sw_seq ?_
      refine sw_reg ?_
      unfold s4_11
      refine os_k fun K hK => ?_
      simp only [List.map_cons, List.map_nil, stepO, evJ, ev, St.opd, Vs.get, setEnv, Vs.put, killEnv, thenQ, reduceIte, if_true, if_false, Bool.false_eq_true, Nat.reduceEqDiff, Option.getD_some, leafBin, leafUn, Option.some.injEq, exists_eq_left', Nat.reduceAdd, St.node, St.bcells, Option.map_some, Option.map_none, nodeAt, Int.toNat_natCast]
      refine hK _ ?_
      clear hK K
      refine os_k fun K hK => ?_
      simp only [List.map_cons, List.map_nil, stepO, evJ, ev, St.opd, Vs.get, setEnv, Vs.put, killEnv, thenQ, reduceIte, if_true, if_false, Bool.false_eq_true, Nat.reduceEqDiff, Option.getD_some, leafBin, leafUn, Option.some.injEq, exists_eq_left', Nat.reduceAdd, St.node, St.bcells, Option.map_some, Option.map_none, nodeAt, Int.toNat_natCast]
      refine hK _ ?_
      clear hK K
      refine os_k fun K hK => ?_
      simp only [List.map_cons, List.map_nil, stepO, evJ, ev, St.opd, Vs.get, setEnv, Vs.put, killEnv, thenQ, reduceIte, if_true, if_false, Bool.false_eq_true, Nat.reduceEqDiff, Option.getD_some, leafBin, leafUn, Option.some.injEq, exists_eq_left', Nat.reduceAdd, St.node, St.bcells, Option.map_some, Option.map_none, nodeAt, Int.toNat_natCast]
      refine hK _ ?_
      clear hK K
      simp only [runOs, thenQ, blockQ]
      refine sw_cond rfl (fun h5 => ?_) (fun h5 => ?_)
      · exact absurd h5 (by simp at h5)
      · try simp only [decide_eq_true_eq, decide_eq_false_iff_not, bne_iff_ne, beq_iff_eq, bne_eq_false_iff_eq, beq_eq_false_iff_ne, ne_eq, Int.not_lt, Int.not_le, gt_iff_lt, ge_iff_le, Bool.not_eq_true, Bool.not_eq_false, Bool.not_eq_true', Bool.not_eq_false', Bool.and_eq_true, Bool.or_eq_true, Bool.and_eq_false_iff, Bool.or_eq_false_iff] at h5
        refine sw_skip ?_
        simp only [thenQ, blockQ]
        refine sw_seq ?_
        refine sw_reg ?_
        unfold s4_13
        refine os_k fun K hK => ?_
        simp only [List.map_cons, List.map_nil, stepO, evJ, ev, St.opd, Vs.get, setEnv, Vs.put, killEnv, thenQ, reduceIte, if_true, if_false, Bool.false_eq_true, Nat.reduceEqDiff, Option.getD_some, leafBin, leafUn, Option.some.injEq, exists_eq_left', Nat.reduceAdd, St.node, St.bcells, Option.map_some, Option.map_none, nodeAt, Int.toNat_natCast]
        refine hK _ ?_
        clear hK K
        refine os_k fun K hK => ?_
        simp only [List.map_cons, List.map_nil, stepO, evJ, ev, St.opd, Vs.get, setEnv, Vs.put, killEnv, thenQ, reduceIte, if_true, if_false, Bool.false_eq_true, Nat.reduceEqDiff, Option.getD_some, leafBin, leafUn, Option.some.injEq, exists_eq_left', Nat.reduceAdd, St.node, St.bcells, Option.map_some, Option.map_none, nodeAt, Int.toNat_natCast]
        refine hK _ ?_
        clear hK K
        refine os_k fun K hK => ?_
        simp only [List.map_cons, List.map_nil, stepO, evJ, ev, St.opd, Vs.get, setEnv, Vs.put, killEnv, thenQ, reduceIte, if_true, if_false, Bool.false_eq_true, Nat.reduceEqDiff, Option.getD_some, leafBin, leafUn, Option.some.injEq, exists_eq_left', Nat.reduceAdd, St.node, St.bcells, Option.map_some, Option.map_none, nodeAt, Int.toNat_natCast]
        refine ⟨_, _, runs22 g n, _, rfl, _, rfl, by simp [handIo, handBx], fa_cons (rfl) (fa_cons (rfl) (fa_nil)), _, rfl, _, rfl, ?_⟩
        simp only [newCs, newRes, newA, resV, List.flatMap_cons, List.flatMap_nil, List.flatten_nil, List.append_nil, List.nil_append, List.cons_append, List.length_cons, List.length_nil, List.drop_succ_cons, List.drop_zero, List.take_succ_cons, List.take_zero, if_true, if_false, Bool.false_eq_true, List.drop_nil]
        refine hK _ ?_
        clear hK K
        refine os_k fun K hK => ?_
        simp only [List.map_cons, List.map_nil, stepO, evJ, ev, St.opd, Vs.get, setEnv, Vs.put, killEnv, thenQ, reduceIte, if_true, if_false, Bool.false_eq_true, Nat.reduceEqDiff, Option.getD_some, leafBin, leafUn, Option.some.injEq, exists_eq_left', Nat.reduceAdd, St.node, St.bcells, Option.map_some, Option.map_none, nodeAt, Int.toNat_natCast]
        refine hK _ ?_
        clear hK K
        simp only [runOs, thenQ, blockQ]
        refine sw_seq ?_
        refine sw_seq ?_
        refine sw_reg ?_
        unfold s4_14
        refine os_k fun K hK => ?_
        simp only [List.map_cons, List.map_nil, stepO, evJ, ev, St.opd, Vs.get, setEnv, Vs.put, killEnv, thenQ, reduceIte, if_true, if_false, Bool.false_eq_true, Nat.reduceEqDiff, Option.getD_some, leafBin, leafUn, Option.some.injEq, exists_eq_left', Nat.reduceAdd, St.node, St.bcells, Option.map_some, Option.map_none, nodeAt, Int.toNat_natCast]
        refine hK _ ?_
        clear hK K
        refine os_k fun K hK => ?_
        simp only [List.map_cons, List.map_nil, stepO, evJ, ev, St.opd, Vs.get, setEnv, Vs.put, killEnv, thenQ, reduceIte, if_true, if_false, Bool.false_eq_true, Nat.reduceEqDiff, Option.getD_some, leafBin, leafUn, Option.some.injEq, exists_eq_left', Nat.reduceAdd, St.node, St.bcells, Option.map_some, Option.map_none, nodeAt, Int.toNat_natCast]
        refine hK _ ?_
        clear hK K
        refine os_k fun K hK => ?_
        simp only [List.map_cons, List.map_nil, stepO, evJ, ev, St.opd, Vs.get, setEnv, Vs.put, killEnv, thenQ, reduceIte, if_true, if_false, Bool.false_eq_true, Nat.reduceEqDiff, Option.getD_some, leafBin, leafUn, Option.some.injEq, exists_eq_left', Nat.reduceAdd, St.node, St.bcells, Option.map_some, Option.map_none, nodeAt, Int.toNat_natCast]
        refine ⟨_, _, runs23 (headB g n) (headB g n) (by omega), _, rfl, _, rfl, by simp [handIo, handBx], fa_cons (⟨rfl, .inl rfl, by simp [handIo, handBx], _, rfl, by simp, by first | rfl | (simp; done) | exact (List.take_of_length_le (by simp)).symm⟩) (fa_cons (⟨rfl, .inl rfl, by simp [handIo, handBx], _, rfl, by simp, by first | rfl | (simp; done) | exact (List.take_of_length_le (by simp)).symm⟩) (fa_nil)), _, rfl, _, rfl, ?_⟩
        simp only [newCs, newRes, newA, resV, List.flatMap_cons, List.flatMap_nil, List.flatten_nil, List.append_nil, List.nil_append, List.cons_append, List.length_cons, List.length_nil, List.drop_succ_cons, List.drop_zero, List.take_succ_cons, List.take_zero, if_true, if_false, Bool.false_eq_true, List.drop_nil]
        simp only [decide_true, Bool.not_true]
        refine hK _ ?_
        clear hK K
        refine os_k fun K hK => ?_
        simp only [List.map_cons, List.map_nil, stepO, evJ, ev, St.opd, Vs.get, setEnv, Vs.put, killEnv, thenQ, reduceIte, if_true, if_false, Bool.false_eq_true, Nat.reduceEqDiff, Option.getD_some, leafBin, leafUn, Option.some.injEq, exists_eq_left', Nat.reduceAdd, St.node, St.bcells, Option.map_some, Option.map_none, nodeAt, Int.toNat_natCast]
        refine hK _ ?_
        clear hK K
        simp only [runOs, thenQ, blockQ]
        refine sw_cond rfl (fun h7 => ?_) (fun h7 => ?_)
        · exact absurd h7 (by simp at h7)
        · try simp only [decide_eq_true_eq, decide_eq_false_iff_not, bne_iff_ne, beq_iff_eq, bne_eq_false_iff_eq, beq_eq_false_iff_ne, ne_eq, Int.not_lt, Int.not_le, gt_iff_lt, ge_iff_le, Bool.not_eq_true, Bool.not_eq_false, Bool.not_eq_true', Bool.not_eq_false', Bool.and_eq_true, Bool.or_eq_true, Bool.and_eq_false_iff, Bool.or_eq_false_iff] at h7
          refine sw_skip ?_
          simp only [thenQ, blockQ]
          refine sw_seq ?_
          refine sw_reg ?_
          unfold s4_16
          refine os_k fun K hK => ?_
          simp only [List.map_cons, List.map_nil, stepO, evJ, ev, St.opd, Vs.get, setEnv, Vs.put, killEnv, thenQ, reduceIte, if_true, if_false, Bool.false_eq_true, Nat.reduceEqDiff, Option.getD_some, leafBin, leafUn, Option.some.injEq, exists_eq_left', Nat.reduceAdd, St.node, St.bcells, Option.map_some, Option.map_none, nodeAt, Int.toNat_natCast]
          refine hK _ ?_
          clear hK K
          simp only [runOs, thenQ, blockQ]
          refine sw_seq ?_
          refine sw_reg ?_
          unfold s4_17
          refine os_k fun K hK => ?_
          simp only [List.map_cons, List.map_nil, stepO, evJ, ev, St.opd, Vs.get, setEnv, Vs.put, killEnv, thenQ, reduceIte, if_true, if_false, Bool.false_eq_true, Nat.reduceEqDiff, Option.getD_some, leafBin, leafUn, Option.some.injEq, exists_eq_left', Nat.reduceAdd, St.node, St.bcells, Option.map_some, Option.map_none, nodeAt, Int.toNat_natCast]
          refine hK _ ?_
          clear hK K
          refine os_k fun K hK => ?_
          simp only [List.map_cons, List.map_nil, stepO, evJ, ev, St.opd, Vs.get, setEnv, Vs.put, killEnv, thenQ, reduceIte, if_true, if_false, Bool.false_eq_true, Nat.reduceEqDiff, Option.getD_some, leafBin, leafUn, Option.some.injEq, exists_eq_left', Nat.reduceAdd, St.node, St.bcells, Option.map_some, Option.map_none, nodeAt, Int.toNat_natCast]
          refine hK _ ?_
          clear hK K
          refine os_k fun K hK => ?_
          simp only [List.map_cons, List.map_nil, stepO, evJ, ev, St.opd, Vs.get, setEnv, Vs.put, killEnv, thenQ, reduceIte, if_true, if_false, Bool.false_eq_true, Nat.reduceEqDiff, Option.getD_some, leafBin, leafUn, Option.some.injEq, exists_eq_left', Nat.reduceAdd, St.node, St.bcells, Option.map_some, Option.map_none, nodeAt, Int.toNat_natCast]
          refine ⟨_, _, runs25 (cnt 1 (headB g n).length) 1 (by rw [cnt_len]; omega), _, rfl, _, rfl, by simp [handIo, handBx], fa_cons (⟨rfl, .inl rfl, by simp [handIo, handBx], _, rfl, by simp [cnt_len], by first | rfl | (simp; done) | exact (List.take_of_length_le (by simp [cnt_len])).symm⟩) (fa_cons (rfl) (fa_nil)), _, rfl, _, rfl, ?_⟩
          simp only [newCs, newRes, newA, resV, List.flatMap_cons, List.flatMap_nil, List.flatten_nil, List.append_nil, List.nil_append, List.cons_append, List.length_cons, List.length_nil, List.drop_succ_cons, List.drop_zero, List.take_succ_cons, List.take_zero, if_true, if_false, Bool.false_eq_true, List.drop_nil]
          simp only [cnt_len, if_true]
          refine hK _ ?_
          clear hK K
          refine os_k fun K hK => ?_
          simp only [List.map_cons, List.map_nil, stepO, evJ, ev, St.opd, Vs.get, setEnv, Vs.put, killEnv, thenQ, reduceIte, if_true, if_false, Bool.false_eq_true, Nat.reduceEqDiff, Option.getD_some, leafBin, leafUn, Option.some.injEq, exists_eq_left', Nat.reduceAdd, St.node, St.bcells, Option.map_some, Option.map_none, nodeAt, Int.toNat_natCast]
          refine hK _ ?_
          clear hK K
          simp only [runOs, thenQ, blockQ]
          refine sw_seq ?_
          refine sw_seq ?_
          refine sw_reg ?_
          unfold s4_18
          refine os_k fun K hK => ?_
          simp only [List.map_cons, List.map_nil, stepO, evJ, ev, St.opd, Vs.get, setEnv, Vs.put, killEnv, thenQ, reduceIte, if_true, if_false, Bool.false_eq_true, Nat.reduceEqDiff, Option.getD_some, leafBin, leafUn, Option.some.injEq, exists_eq_left', Nat.reduceAdd, St.node, St.bcells, Option.map_some, Option.map_none, nodeAt, Int.toNat_natCast]
          refine hK _ ?_
          clear hK K
          refine os_k fun K hK => ?_
          simp only [List.map_cons, List.map_nil, stepO, evJ, ev, St.opd, Vs.get, setEnv, Vs.put, killEnv, thenQ, reduceIte, if_true, if_false, Bool.false_eq_true, Nat.reduceEqDiff, Option.getD_some, leafBin, leafUn, Option.some.injEq, exists_eq_left', Nat.reduceAdd, St.node, St.bcells, Option.map_some, Option.map_none, nodeAt, Int.toNat_natCast]
          refine hK _ ?_
          clear hK K
          simp only [runOs, thenQ, blockQ]
          refine sw_cond rfl (fun h9 => ?_) (fun h9 => ?_)
          · exact absurd h9 (by simp at h9; omega)
          · try simp only [decide_eq_true_eq, decide_eq_false_iff_not, bne_iff_ne, beq_iff_eq, bne_eq_false_iff_eq, beq_eq_false_iff_ne, ne_eq, Int.not_lt, Int.not_le, gt_iff_lt, ge_iff_le, Bool.not_eq_true, Bool.not_eq_false, Bool.not_eq_true', Bool.not_eq_false', Bool.and_eq_true, Bool.or_eq_true, Bool.and_eq_false_iff, Bool.or_eq_false_iff] at h9
            refine sw_skip ?_
            simp only [thenQ, blockQ]
            refine sw_seq ?_
            refine sw_seq ?_
            refine sw_reg ?_
            unfold s4_20
            refine os_k fun K hK => ?_
            simp only [List.map_cons, List.map_nil, stepO, evJ, ev, St.opd, Vs.get, setEnv, Vs.put, killEnv, thenQ, reduceIte, if_true, if_false, Bool.false_eq_true, Nat.reduceEqDiff, Option.getD_some, leafBin, leafUn, Option.some.injEq, exists_eq_left', Nat.reduceAdd, St.node, St.bcells, Option.map_some, Option.map_none, nodeAt, Int.toNat_natCast]
            refine hK _ ?_
            clear hK K
            refine os_k fun K hK => ?_
            simp only [List.map_cons, List.map_nil, stepO, evJ, ev, St.opd, Vs.get, setEnv, Vs.put, killEnv, thenQ, reduceIte, if_true, if_false, Bool.false_eq_true, Nat.reduceEqDiff, Option.getD_some, leafBin, leafUn, Option.some.injEq, exists_eq_left', Nat.reduceAdd, St.node, St.bcells, Option.map_some, Option.map_none, nodeAt, Int.toNat_natCast]
            refine hK _ ?_
            clear hK K
            refine os_k fun K hK => ?_
            simp only [List.map_cons, List.map_nil, stepO, evJ, ev, St.opd, Vs.get, setEnv, Vs.put, killEnv, thenQ, reduceIte, if_true, if_false, Bool.false_eq_true, Nat.reduceEqDiff, Option.getD_some, leafBin, leafUn, Option.some.injEq, exists_eq_left', Nat.reduceAdd, St.node, St.bcells, Option.map_some, Option.map_none, nodeAt, Int.toNat_natCast]
            refine hK _ ?_
            clear hK K
            simp only [runOs, thenQ, blockQ]
            refine sw_cond rfl (fun h11 => ?_) (fun h11 => ?_)
            · exact absurd h11 (by simp at h11)
            · try simp only [decide_eq_true_eq, decide_eq_false_iff_not, bne_iff_ne, beq_iff_eq, bne_eq_false_iff_eq, beq_eq_false_iff_ne, ne_eq, Int.not_lt, Int.not_le, gt_iff_lt, ge_iff_le, Bool.not_eq_true, Bool.not_eq_false, Bool.not_eq_true', Bool.not_eq_false', Bool.and_eq_true, Bool.or_eq_true, Bool.and_eq_false_iff, Bool.or_eq_false_iff] at h11
              refine sw_skip ?_
              simp only [thenQ, blockQ]
              refine sw_seq ?_
              refine sw_reg ?_
              unfold s4_22
              refine os_k fun K hK => ?_
              simp only [List.map_cons, List.map_nil, stepO, evJ, ev, St.opd, Vs.get, setEnv, Vs.put, killEnv, thenQ, reduceIte, if_true, if_false, Bool.false_eq_true, Nat.reduceEqDiff, Option.getD_some, leafBin, leafUn, Option.some.injEq, exists_eq_left', Nat.reduceAdd, St.node, St.bcells, Option.map_some, Option.map_none, nodeAt, Int.toNat_natCast]
              refine hK _ ?_
              clear hK K
              simp only [runOs, thenQ, blockQ]
              refine sw_ret ?_
              simp only [thenQ, blockQ, resK, ev, St.opd, Vs.get, reduceIte, Nat.reduceEqDiff, Option.getD_some]
              exact leaves_vals rfl rfl rfl rfl
end Go.Proofs.Ytgbapgjdkoojdaa
