import Derived.Test.YtgbapgjdkoojdaaVsQ
import Derived.Test.YtgbapgjdkoojdaaVsSe
import Derived.Test.YtgbapgjdkoojdaaVsE7
import Derived.Test.YtgbapgjdkoojdaaVsW2
set_option linter.unusedVariables false
set_option linter.unusedSimpArgs false
namespace Go.Proofs.Ytgbapgjdkoojdaa
open Go.Vs
set_option linter.unusedSimpArgs false
set_option linter.unusedVariables false
set_option maxHeartbeats 1000000
theorem runs101 (parts : List (List UInt8)) (h : parts.length < 2 ^ 46) (h2 : parts.flatten.length < 2 ^ 46) : Runs Try.prog 101 [.val false [(.rd, .sl 1 (sD parts))]] ⟨[(false, [.sl 1 (bD parts.flatten)])], [], []⟩ := by
 obtain ⟨c, hb, hs⟩ := body_of tr101
 refine runs_of_sw Try.func101 hb hs rfl (show 1 ≤ 18 by decide) ?_
 clear hb hs c
 refine q23 ?_
 unfold s101
 refine sw_seq ?_
 refine sw_reg ?_
 unfold s101_0
 refine os_mvk ?_
 simp only [runOs, thenQ, blockQ, Vs.put, reduceIte, Nat.reduceEqDiff]
 refine sw_seq ?_
 refine sw_reg ?_
 unfold s101_1
 refine os_k fun K hK => ?_
 refine q4 ?_
 refine .inl ⟨_, rfl, _, rfl, ?_⟩
 simp only [setEnv, Vs.put, killEnv, reduceIte, Nat.reduceEqDiff, chunk, List.take_succ_cons, List.take_zero, List.drop_succ_cons, List.drop_zero, Nat.reduceAdd, Nat.zero_add]
 refine hK _ ?_
 clear hK K
 refine os_mvt rfl ?_
 simp only [runOs, thenQ, blockQ, Vs.put, reduceIte, Nat.reduceEqDiff]
 refine sw_seq ?_
 refine sw_seq ?_
 refine sw_reg ?_
 unfold s101_2
 refine os_mvt rfl ?_
 first | refine os_lenr rfl ?_ | refine os_lenn rfl ?_
 refine os_mvk ?_
 simp only [runOs, thenQ, blockQ, Vs.put, reduceIte, Nat.reduceEqDiff]
 refine sw_block ?_
 refine sw_loop_upd [3, 7, 8, 9] (α := Nat) (fun i => [(3, .a (.c (.rf 1 [] 1 0 (parts.take i).flatten.length))), (9, .a (.c (.lf (.int .i64 (i : Nat)))))]) (fun i => [(1, .tr 1 (bD (parts.take i).flatten)), (0, .im 1 (sD parts))]) (2) (fun i => i ≤ parts.length) (fun i => parts.length - i) (0) [(1, 1), (0, 0)] ?_ (by decide) ?_ ?_ ?_
 ·exact Nat.zero_le _
 ·simp only [sel, Vs.get, upd, Vs.put, reduceIte, Nat.reduceEqDiff]
  repeat' (first | exact er_nil | refine er_un ?_ | refine er_cons rfl ?_ ?_)
  all_goals (try simp only [V.map, A.map, renC, Vs.get, reduceIte, Nat.reduceEqDiff, List.map_cons, List.map_nil])
  all_goals (try rfl)
 ·repeat' (first | exact rr_nil | refine rr_cons 1 rfl rfl ?_ ?_ | refine rr_cons 0 rfl rfl ?_ ?_)
  all_goals (try simp only [renRoot, renC, Vs.get, reduceIte, Nat.reduceEqDiff, List.map_cons, List.map_nil])
  all_goals (try rfl)
 ·rintro i hinv
  simp only [sel, Vs.get, upd, Vs.put, reduceIte, Nat.reduceEqDiff]
  refine sw_seq ?_
  refine sw_reg ?_
  unfold s101_3
  refine os_bin rfl rfl rfl ?_
  simp only [runOs, thenQ, blockQ, Vs.put, reduceIte, Nat.reduceEqDiff]
  refine sw_seq ?_
  refine sw_cond rfl (fun h2 => ?_) (fun h2 => ?_)
  ·replace h2 := q1 h2
   have hib : i < parts.length := by omega
   have e1 : IntKind.i64.wrap ((i : Int) + 1) = ((i + 1 : Nat) : Int) := by rw [wrap64 (by omega) (by omega)]; rfl
   have hle := flat_take_le parts (i + 1)
   rw [flat_take hib, List.length_append] at hle
   refine sw_skip ?_
   simp only [thenQ, blockQ]
   refine sw_seq ?_
   refine sw_block ?_
   refine sw_seq ?_
   refine sw_reg ?_
   unfold s101_4
   refine os_iad rfl rfl rfl (by omega) ?_
   refine os_k fun K hK => ?_
   refine q4 ?_
   refine ⟨.sl 1 (bD parts[i]), ?_, ?_⟩
   ·simp only [sD_get hib, Nat.zero_add, Option.bind_some, List.getElem?_cons_zero]
   simp only [toC, bD_len, Nat.zero_add, List.nil_append]
   refine hK _ ?_
   clear hK K
   refine os_mvt rfl ?_
   simp only [runOs, thenQ, blockQ, Vs.put, reduceIte, Nat.reduceEqDiff]
   refine sw_reg ?_
   unfold s101_5
   refine os_mvt rfl ?_
   refine os_mvt rfl ?_
   refine os_k fun K hK => ?_
   refine q4 ?_
   refine app_bytes (l := (parts.take i).flatten) (r2 := parts[i]) rfl rfl rfl rfl (by decide) (by simp only [St.node, Vs.get, reduceIte, Nat.reduceEqDiff, nodeAt, sD_get hib, Option.bind_some, List.getElem?_cons_zero]) (by simp) (by omega) ?_
   simp only [setEnv, Vs.put, killEnv, reduceIte, Nat.reduceEqDiff, del, bD_len, List.drop_zero, List.take_length, Nat.reduceAdd, Nat.zero_add, ← List.length_append]
   refine hK _ ?_
   clear hK K
   refine os_mvt rfl ?_
   simp only [runOs, thenQ, blockQ, Vs.put, reduceIte, Nat.reduceEqDiff]
   refine sw_reg ?_
   unfold s101_6
   refine os_bin rfl rfl rfl ?_
   refine os_mvt rfl ?_
   simp only [runOs, thenQ, blockQ, Vs.put, reduceIte, Nat.reduceEqDiff]
   try simp only [thenQ, blockQ]
   refine ⟨i + 1, ?_, ?_, rfl, [(2, 1), (0, 0)], by decide, ?_, ?_⟩
   ·omega
   ·first | omega | (dsimp only; omega)
   ·simp only [sel, Vs.get, upd, Vs.put, reduceIte, Nat.reduceEqDiff]
    repeat' (first | exact er_nil | refine er_un ?_ | refine er_cons rfl ?_ ?_)
    all_goals (try simp only [V.map, A.map, renC, Vs.get, reduceIte, Nat.reduceEqDiff, List.map_cons, List.map_nil, e1, flat_take hib])
   ·repeat' (first | exact rr_nil | refine rr_cons 2 rfl rfl ?_ ?_ | refine rr_cons 0 rfl rfl ?_ ?_)
    all_goals (try simp only [renRoot, renC, Vs.get, reduceIte, Nat.reduceEqDiff, List.map_cons, List.map_nil, e1, flat_take hib])
  ·replace h2 := q1 h2
   have hib : i = parts.length := by omega
   subst hib
   refine sw_exit ?_
   refine q12 ?_
   refine sw_seq ?_
   refine sw_reg ?_
   unfold s101_7
   refine os_mvt rfl ?_
   refine os_mvt rfl ?_
   simp only [runOs, thenQ, blockQ, Vs.put, reduceIte, Nat.reduceEqDiff]
   refine sw_ret ?_
   refine q3 ?_
   simp only [List.take_length]
   first | exact leaves_vals rfl rfl rfl (take_one rfl (by simp)) | exact leaves_a rfl rfl rfl (take_one rfl (by simp))
theorem runs78 (b : List UInt8) (v : Nat) (hv : v < 2 ^ 62) (h : b.length < 2 ^ 45) : Runs Try.prog 78 [.val false [(.ow, .sl 1 (bD b))], .val false [(.rd, .lf (.int .i64 v))]] ⟨[(false, [.sl 1 (bD (b ++ w2 v))])], [], []⟩ := by
 obtain ⟨c, hb, hs⟩ := body_of tr78
 refine runs_of_sw Try.func78 hb hs rfl (show 2 ≤ 16 by decide) ?_
 clear hb hs c
 refine q15 ?_
 unfold s78
 refine sw_seq ?_
 refine sw_reg ?_
 unfold s78_0
 refine os_mvk ?_
 simp only [runOs, thenQ, blockQ, Vs.put, reduceIte, Nat.reduceEqDiff]
 refine sw_seq ?_
 refine sw_reg ?_
 unfold s78_1
 refine os_mvt rfl ?_
 refine os_mvt rfl ?_
 refine os_k fun K hK => ?_
 refine q4 ?_
 simp only [show (0:Int) ≤ 8 from by decide, show min (Int.toNat 8) IntKind.i64.bits = 8 from rfl, if_true, Option.some.injEq, exists_eq_left']
 refine hK _ ?_
 clear hK K
 refine os_bin rfl rfl rfl ?_
 refine os_conv rfl ?_
 refine os_mvt rfl ?_
 refine os_bin rfl rfl rfl ?_
 refine os_conv rfl ?_
 refine os_k fun K hK => ?_
 refine q4 ?_
 have e1 : IntKind.u8.wrap (IntKind.i64.wrap (((BitVec.ofInt IntKind.i64.bits ((v : Int).fdiv (2 ^ 8)) &&& BitVec.ofInt IntKind.i64.bits 255).toNat : Nat) : Int)) = ((UInt8.ofNat (v / 256)).toNat : Int) := by
  rw [Int.fdiv_eq_ediv_of_nonneg _ (by omega), show (v : Int) / 2 ^ 8 = ((v / 256 : Nat) : Int) by omega]
  refine (congrArg IntKind.u8.wrap (and_low (a := v / 256) (k := 8) (m := 255) (by omega) (by decide) (by decide))).trans ?_
  rw [IntKind.wrap_u8]; simp
 have e2 : IntKind.u8.wrap (IntKind.i64.wrap (((BitVec.ofInt IntKind.i64.bits (v : Int) &&& BitVec.ofInt IntKind.i64.bits 255).toNat : Nat) : Int)) = ((UInt8.ofNat v).toNat : Int) := by
  refine (congrArg IntKind.u8.wrap (and_low (a := v) (k := 8) (m := 255) (by omega) (by decide) (by decide))).trans ?_
  rw [IntKind.wrap_u8]; simp
 rw [e1, e2]
 refine .inl ⟨_, rfl, _, rfl, ?_⟩
 simp only [setEnv, Vs.put, killEnv, reduceIte, Nat.reduceEqDiff, chunk, List.take_succ_cons, List.take_zero, List.drop_succ_cons, List.drop_zero, Nat.reduceAdd, Nat.zero_add]
 refine hK _ ?_
 clear hK K
 refine os_k fun K hK => ?_
 refine q4 ?_
 refine .inl ⟨[.rf 0 [] 1 0 b.length, .rf 1 [] 1 0 2], rfl, ([.sl 1 (bD b), .sl 1 (bD (w2 v))], []), take_cons rfl (by simp) (take_cons rfl rfl rfl), ?_⟩
 simp only [chunk, List.take_succ_cons, List.take_zero, List.drop_succ_cons, List.drop_zero]
 rw [show [[D.sl 1 (bD b)], [D.sl 1 (bD (w2 v))]] = sD [b, w2 v] from rfl]
 refine hK _ ?_
 clear hK K
 refine os_call ?_
 refine q6 ?_
 refine ⟨_, _, runs101 [b, w2 v] (by simp) (by simp; omega), _, rfl, _, rfl, by simp [handIo, handBx], fa_cons (⟨rfl, .inl rfl, by simp [handIo, handBx], _, rfl, by simp, by first | rfl | (simp; done) | exact (List.take_of_length_le (by simp)).symm⟩) (fa_nil), _, rfl, _, rfl, ?_⟩
 refine q7 ?_
 simp only [Vs.put, killEnv, reduceIte, Nat.reduceEqDiff]
 refine os_mvt rfl ?_
 simp only [runOs, thenQ, blockQ, Vs.put, reduceIte, Nat.reduceEqDiff]
 refine sw_ret ?_
 refine q3 ?_
 try rw [show [b, w2 v].flatten = b ++ w2 v by simp]
 first | exact leaves_vals rfl rfl rfl (take_one rfl rfl) | exact leaves_a rfl rfl rfl (take_one rfl (by simp))
end Go.Proofs.Ytgbapgjdkoojdaa
