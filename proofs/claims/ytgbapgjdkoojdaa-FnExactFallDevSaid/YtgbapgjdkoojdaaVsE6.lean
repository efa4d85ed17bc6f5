import Derived.Test.YtgbapgjdkoojdaaVsQ
import Derived.Test.YtgbapgjdkoojdaaVsSd
import Derived.Test.YtgbapgjdkoojdaaVsW2
set_option linter.unusedVariables false
set_option linter.unusedSimpArgs false
namespace Go.Vs
theorem bD_leaf (l : List UInt8) : allLf (bD l) = true := by
 simp [allLf, bD, isLf]
theorem bD_append (l r : List UInt8) : bD l ++ bD r = bD (l ++ r) := by simp [bD]
/-- Bytes appended to bytes that are ours. -/
theorem app_bytes {S : St} {K : KW} {zero : List C} {x y : Opd} {r ry n m lo : Nat} {p : Path} {l r2 : List UInt8} (hx : S.opd x = .a (.c (.rf r [] 1 0 n))) (hr : get S.roots r = some (.tr 1 (bD l))) (hn : n = l.length) (hy : S.opd y = .a (.c (.rf ry p 1 lo m))) (hne : ry ≠ r) (hnode : S.node ry p = some (1, bD r2)) (hm : lo + m ≤ r2.length) (hb : l.length + m ≤ 140737488355328)
  (hK : K (.a (.c (.rf S.next [] 1 0 (l.length + m)))) [] ((S.next, .tr 1 (bD (l ++ (r2.drop lo).take m))) :: del S.roots r) (S.next + 1)) : wr S K (.app 1 1 zero x y) := by
 have e : ((bD r2).drop lo).take m = bD ((r2.drop lo).take m) := by simp [bD, List.map_drop, List.map_take]
 refine ⟨(1, bD l, some r), ?_, rfl, ?_⟩
 ·simp only [baseOf, hx, hr, hn, bD_len, if_true]
  simp
 ·simp only [hy]
  refine ⟨trivial, by simpa using hne, by simpa using hb, bD r2, hnode, by simpa using hm, .inl ⟨by rw [e]; exact bD_leaf _, ?_⟩⟩
  rw [e, bD_append, bD_len]
  exact hK
end Go.Vs
namespace Go.Proofs.Ytgbapgjdkoojdaa
open Go.Vs
set_option linter.unusedSimpArgs false
set_option maxHeartbeats 1000000
theorem runs75 (b : List UInt8) (v : Nat) (hv : v < 2 ^ 62) (h : b.length < 2 ^ 46) : Runs Try.prog 75 [.val false [(.rd, .sl 1 (bD b))], .val false [(.rd, .lf (.int .i64 v))]] ⟨[(false, [.sl 1 (bD (b ++ [UInt8.ofNat (v / 256), UInt8.ofNat v]))])], [], []⟩ := by
 obtain ⟨c, hb, hs⟩ := body_of tr75
 refine runs_of_sw Try.func75 hb hs rfl (show 2 ≤ 17 by decide) ?_
 clear hb hs c
 refine q15 ?_
 unfold s75
 refine sw_seq (sw_reg ?_)
 unfold s75_0
 refine os_k fun K hK => ?_
 refine q4 ?_
 refine hK _ ?_
 clear hK K
 simp only [runOs, thenQ, blockQ]
 refine sw_seq (sw_reg ?_)
 unfold s75_1
 refine os_k fun K hK => ?_
 simp only [stepO, evJ]
 refine .inl ⟨_, rfl, _, rfl, ?_⟩
 simp only [setEnv, Vs.put, killEnv, reduceIte, Nat.reduceEqDiff, chunk]
 refine hK _ ?_
 clear hK K
 refine os_k fun K hK => ?_
 refine q4 ?_
 refine hK _ ?_
 clear hK K
 refine os_k fun K hK => ?_
 simp only [stepO, evJ]
 refine app_bytes (l := []) (r2 := b) rfl rfl rfl rfl (by decide) rfl (by simp) (by simp; omega) ?_
 simp only [setEnv, Vs.put, killEnv, reduceIte, Nat.reduceEqDiff, del, List.length_nil, List.nil_append, List.drop_zero, List.take_length, Nat.reduceAdd, Nat.zero_add]
 refine hK _ ?_
 clear hK K
 refine os_k fun K hK => ?_
 refine q4 ?_
 refine hK _ ?_
 clear hK K
 simp only [runOs, thenQ, blockQ]
 refine sw_seq (sw_reg ?_)
 unfold s75_2
 refine os_k fun K hK => ?_
 refine q4 ?_
 refine hK _ ?_
 clear hK K
 refine os_k fun K hK => ?_
 refine q4 ?_
 refine hK _ ?_
 clear hK K
 refine os_k fun K hK => ?_
 refine q4 ?_
 simp only [show (0:Int) ≤ 8 from by decide, show min (Int.toNat 8) IntKind.i64.bits = 8 from rfl, if_true, Option.some.injEq, exists_eq_left']
 refine hK _ ?_
 clear hK K
 refine os_k fun K hK => ?_
 refine q4 ?_
 refine hK _ ?_
 clear hK K
 refine os_k fun K hK => ?_
 refine q4 ?_
 refine hK _ ?_
 clear hK K
 refine os_k fun K hK => ?_
 refine q4 ?_
 refine hK _ ?_
 clear hK K
 have e1 : IntKind.u8.wrap (((v : Int)).fdiv (2 ^ 8)) = ((UInt8.ofNat (v / 256)).toNat : Int) := by
  rw [IntKind.wrap_u8, Int.fdiv_eq_ediv_of_nonneg _ (by omega)]; simp
 have e2 : IntKind.u8.wrap (v : Int) = ((UInt8.ofNat v).toNat : Int) := by rw [IntKind.wrap_u8]; simp
 rw [e1, e2]
 refine os_k fun K hK => ?_
 simp only [stepO, evJ]
 refine .inl ⟨_, rfl, _, rfl, ?_⟩
 simp only [setEnv, Vs.put, killEnv, reduceIte, Nat.reduceEqDiff, chunk, List.take_succ_cons, List.take_zero, List.drop_succ_cons, List.drop_zero, Nat.reduceAdd]
 refine hK _ ?_
 clear hK K
 refine os_k fun K hK => ?_
 simp only [stepO, evJ]
 refine app_bytes (l := b) (r2 := [UInt8.ofNat (v / 256), UInt8.ofNat v]) rfl rfl rfl rfl (by decide) rfl (by simp) (by omega) ?_
 simp only [setEnv, Vs.put, killEnv, reduceIte, Nat.reduceEqDiff, del, List.drop_zero, Nat.reduceAdd, Nat.zero_add, List.take_succ_cons, List.take_zero]
 refine hK _ ?_
 clear hK K
 refine os_k fun K hK => ?_
 refine q4 ?_
 refine hK _ ?_
 clear hK K
 simp only [runOs, thenQ, blockQ]
 refine sw_ret ?_
 refine q3 ?_
 refine leaves_vals (rt := [(3, .tr 1 (bD [UInt8.ofNat (v / 256), UInt8.ofNat v])), (0, .im 1 (bD b))]) rfl rfl rfl ?_
 have hl : b.length + 2 ≤ (bD (b ++ [UInt8.ofNat (v / 256), UInt8.ofNat v])).length := by simp
 have ht : (bD (b ++ [UInt8.ofNat (v / 256), UInt8.ofNat v])).take (b.length + 2) = bD (b ++ [UInt8.ofNat (v / 256), UInt8.ofNat v]) := List.take_of_length_le (by simp)
 simp only [List.flatMap_cons, List.flatMap_nil, cellsA, List.append_nil, takeAll, takeC, Vs.get, reduceIte, nodeAt, hl, and_self, if_true, ht, cutR, del, Nat.reduceEqDiff]
 rfl
end Go.Proofs.Ytgbapgjdkoojdaa
