import Derived.Test.YtgbapgjdkoojdaaVsQ
import Derived.Test.YtgbapgjdkoojdaaVsSc
import Derived.Test.YtgbapgjdkoojdaaVsW2
set_option linter.unusedVariables false
set_option linter.unusedSimpArgs false
namespace Go.Proofs.Ytgbapgjdkoojdaa
open Go.Vs
set_option linter.unusedSimpArgs false
set_option maxHeartbeats 1000000
theorem runs74 (x lo hi : Int) : Runs Try.prog 74 [.val false [(.rd, .lf (.int .i64 x))], .val false [(.rd, .lf (.int .i64 lo))], .val false [(.rd, .lf (.int .i64 hi))]] ⟨[(false, [.lf (.bool (decide (lo ≤ x) && decide (x ≤ hi)))])], [], []⟩ := by
 obtain ⟨c, hb, hs⟩ := body_of tr74
 refine runs_of_sw Try.func74 hb hs rfl (show 3 ≤ 15 by decide) ?_
 clear hb hs c
 simp only [inAs, inCells, flat, List.flatMap_cons, List.flatMap_nil, Arg.cells, List.cons_append, List.nil_append, inCs, inC, fixN, fixCs, fixC, nBox, inV, inB, rootB, List.length_cons, List.length_nil, List.take_succ_cons, List.take_zero, List.drop_succ_cons, List.drop_zero, env0, Nat.zero_add, Nat.add_zero, List.append_nil, Nat.reduceAdd]
 unfold s74
 refine sw_seq (sw_reg ?_)
 unfold s74_0
 refine os_k fun K hK => ?_
 refine q4 ?_
 refine hK _ ?_
 clear hK K
 simp only [runOs, thenQ, blockQ]
 refine sw_seq (sw_reg ?_)
 unfold s74_1
 refine os_k fun K hK => ?_
 refine q4 ?_
 refine hK _ ?_
 clear hK K
 refine os_k fun K hK => ?_
 refine q4 ?_
 refine hK _ ?_
 clear hK K
 refine os_k fun K hK => ?_
 refine q4 ?_
 have hge : decide (x ≥ lo) = decide (lo ≤ x) := rfl
 rw [hge]
 cases h1 : decide (lo ≤ x)
 ·refine hK _ ?_
  clear hK K
  refine os_k fun K hK => ?_
  refine q4 ?_
  refine hK _ ?_
  clear hK K
  refine os_k fun K hK => ?_
  refine q4 ?_
  refine q16 ?_
  refine hK _ ?_
  clear hK K
  refine os_k fun K hK => ?_
  refine q4 ?_
  refine q16 ?_
  refine hK _ ?_
  clear hK K
  refine os_k fun K hK => ?_
  refine q4 ?_
  refine q16 ?_
  refine hK _ ?_
  clear hK K
  refine os_k fun K hK => ?_
  refine q4 ?_
  refine q16 ?_
  refine hK _ ?_
  clear hK K
  refine os_k fun K hK => ?_
  refine q4 ?_
  refine hK _ ?_
  clear hK K
  simp only [runOs, thenQ, blockQ]
  refine sw_ret ?_
  refine q3 ?_
  rw [h1, Bool.false_and]
  exact leaves_vals rfl rfl rfl rfl
 ·refine hK _ ?_
  clear hK K
  refine os_k fun K hK => ?_
  refine q4 ?_
  refine hK _ ?_
  clear hK K
  refine os_k fun K hK => ?_
  refine q4 ?_
  refine q16 ?_
  refine hK _ ?_
  clear hK K
  refine os_k fun K hK => ?_
  refine q4 ?_
  refine q16 ?_
  refine hK _ ?_
  clear hK K
  refine os_k fun K hK => ?_
  refine q4 ?_
  refine q16 ?_
  refine hK _ ?_
  clear hK K
  refine os_k fun K hK => ?_
  refine q4 ?_
  refine q16 ?_
  refine hK _ ?_
  clear hK K
  refine os_k fun K hK => ?_
  refine q4 ?_
  refine hK _ ?_
  clear hK K
  simp only [runOs, thenQ, blockQ]
  refine sw_ret ?_
  refine q3 ?_
  rw [h1, Bool.true_and]
  exact leaves_vals rfl rfl rfl rfl
theorem runs77 (x lo hi : Int) : Runs Try.prog 77 [.val false [(.rd, .lf (.int .i64 x))], .val false [(.rd, .lf (.int .i64 lo))], .val false [(.rd, .lf (.int .i64 hi))]] ⟨[(false, [.lf (.bool (decide (lo ≤ x) && decide (x ≤ hi)))])], [], []⟩ := by
 obtain ⟨c, hb, hs⟩ := body_of tr77
 refine runs_of_sw Try.func77 hb hs rfl (show 3 ≤ 15 by decide) ?_
 clear hb hs c
 simp only [inAs, inCells, flat, List.flatMap_cons, List.flatMap_nil, Arg.cells, List.cons_append, List.nil_append, inCs, inC, fixN, fixCs, fixC, nBox, inV, inB, rootB, List.length_cons, List.length_nil, List.take_succ_cons, List.take_zero, List.drop_succ_cons, List.drop_zero, env0, Nat.zero_add, Nat.add_zero, List.append_nil, Nat.reduceAdd]
 unfold s77
 refine sw_seq (sw_reg ?_)
 unfold s77_0
 refine os_k fun K hK => ?_
 refine q4 ?_
 refine hK _ ?_
 clear hK K
 simp only [runOs, thenQ, blockQ]
 refine sw_seq (sw_reg ?_)
 unfold s77_1
 refine os_k fun K hK => ?_
 refine q4 ?_
 refine hK _ ?_
 clear hK K
 refine os_k fun K hK => ?_
 refine q4 ?_
 refine hK _ ?_
 clear hK K
 refine os_k fun K hK => ?_
 refine q4 ?_
 have hge : decide (x ≥ lo) = decide (lo ≤ x) := rfl
 rw [hge]
 cases h1 : decide (lo ≤ x)
 ·refine hK _ ?_
  clear hK K
  refine os_k fun K hK => ?_
  refine q4 ?_
  refine hK _ ?_
  clear hK K
  refine os_k fun K hK => ?_
  refine q4 ?_
  refine q16 ?_
  refine hK _ ?_
  clear hK K
  refine os_k fun K hK => ?_
  refine q4 ?_
  refine q16 ?_
  refine hK _ ?_
  clear hK K
  refine os_k fun K hK => ?_
  refine q4 ?_
  refine q16 ?_
  refine hK _ ?_
  clear hK K
  refine os_k fun K hK => ?_
  refine q4 ?_
  refine q16 ?_
  refine hK _ ?_
  clear hK K
  refine os_k fun K hK => ?_
  refine q4 ?_
  refine hK _ ?_
  clear hK K
  simp only [runOs, thenQ, blockQ]
  refine sw_ret ?_
  refine q3 ?_
  rw [h1, Bool.false_and]
  exact leaves_vals rfl rfl rfl rfl
 ·refine hK _ ?_
  clear hK K
  refine os_k fun K hK => ?_
  refine q4 ?_
  refine hK _ ?_
  clear hK K
  refine os_k fun K hK => ?_
  refine q4 ?_
  refine q16 ?_
  refine hK _ ?_
  clear hK K
  refine os_k fun K hK => ?_
  refine q4 ?_
  refine q16 ?_
  refine hK _ ?_
  clear hK K
  refine os_k fun K hK => ?_
  refine q4 ?_
  refine q16 ?_
  refine hK _ ?_
  clear hK K
  refine os_k fun K hK => ?_
  refine q4 ?_
  refine q16 ?_
  refine hK _ ?_
  clear hK K
  refine os_k fun K hK => ?_
  refine q4 ?_
  refine hK _ ?_
  clear hK K
  simp only [runOs, thenQ, blockQ]
  refine sw_ret ?_
  refine q3 ?_
  rw [h1, Bool.true_and]
  exact leaves_vals rfl rfl rfl rfl
end Go.Proofs.Ytgbapgjdkoojdaa
