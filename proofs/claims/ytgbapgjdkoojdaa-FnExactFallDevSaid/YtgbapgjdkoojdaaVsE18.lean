import Derived.Test.YtgbapgjdkoojdaaVsQ
import Derived.Test.YtgbapgjdkoojdaaVsSh
import Derived.Test.YtgbapgjdkoojdaaVsW2
set_option linter.unusedVariables false
set_option linter.unusedSimpArgs false
namespace Go.Proofs.Ytgbapgjdkoojdaa
open Go.Vs
set_option linter.unusedSimpArgs false
set_option linter.unusedVariables false
set_option maxHeartbeats 1000000
theorem runs128 (b : List UInt8) (n : Nat) (hb : b.length ≤ 9223372036854775807) (hn : n < 2 ^ 62) : Runs Try.prog 128 [.val false [(.rd, .sl 1 (bD b))], .val false [(.rd, .lf (.int .i64 n))]] ⟨[(false, [.lf (.int .i64 (if b.length ≤ n then ((n - b.length : Nat) : Int) else -1))])], [], []⟩ := by
 obtain ⟨c, hb, hs⟩ := body_of tr128
 refine runs_of_sw Try.func128 hb hs rfl (show 2 ≤ 12 by decide) ?_
 clear hb hs c
 refine q15 ?_
 unfold s128
 have e1 : IntKind.i64.wrap ((n : Int) - (b.length : Int)) = (n : Int) - (b.length : Int) := wrap64 (by omega) (by omega)
 refine sw_seq ?_
 refine sw_reg ?_
 unfold s128_0
 refine os_ev (evq_mvk) ?_
 simp only [runOs, thenQ, blockQ, Vs.put, reduceIte, Nat.reduceEqDiff]
 refine sw_seq ?_
 refine sw_reg ?_
 unfold s128_1
 refine os_ev (evq_mvt rfl) ?_
 refine os_ev (evq_mvt rfl) ?_
 refine q10 ?_
 refine os_ev (evq_bin rfl rfl rfl) ?_
 simp only [e1]
 simp only [Vs.put, reduceIte, Nat.reduceEqDiff]
 refine os_ev (evq_mvt rfl) ?_
 simp only [runOs, thenQ, blockQ, Vs.put, reduceIte, Nat.reduceEqDiff]
 refine sw_seq ?_
 refine sw_seq ?_
 refine sw_reg ?_
 unfold s128_2
 refine os_ev (evq_mvt rfl) ?_
 refine os_ev (evq_bin rfl rfl rfl) ?_
 simp only [runOs, thenQ, blockQ, Vs.put, reduceIte, Nat.reduceEqDiff]
 refine sw_cond rfl (fun h1 => ?_) (fun h1 => ?_)
 ·replace h1 := q1 h1
  rw [if_neg (show ¬ b.length ≤ n by omega)]
  refine sw_seq ?_
  refine sw_reg ?_
  unfold s128_3
  refine os_ev (evq_mvk) ?_
  simp only [runOs, thenQ, blockQ, Vs.put, reduceIte, Nat.reduceEqDiff]
  refine sw_ret ?_
  refine q3 ?_
  first | exact leaves_vals rfl rfl rfl rfl | exact leaves_a rfl rfl rfl rfl
 ·replace h1 := q1 h1
  rw [if_pos (show b.length ≤ n by omega), show ((n - b.length : Nat) : Int) = (n : Int) - (b.length : Int) by omega]
  refine sw_skip ?_
  simp only [thenQ, blockQ]
  refine sw_seq ?_
  refine sw_reg ?_
  unfold s128_4
  refine os_ev (evq_mvt rfl) ?_
  simp only [Vs.put, reduceIte, Nat.reduceEqDiff]
  refine os_ev (evq_mvt rfl) ?_
  simp only [runOs, thenQ, blockQ, Vs.put, reduceIte, Nat.reduceEqDiff]
  refine sw_ret ?_
  refine q3 ?_
  first | exact leaves_vals rfl rfl rfl rfl | exact leaves_a rfl rfl rfl rfl
theorem runs129 (w : Wr) (n : Nat) (hb : w.2.length ≤ 9223372036854775807) (hn : n < 2 ^ 62) : Runs Try.prog 129 [.val true [(.rd, .lf (.int .i64 w.1)), (.rd, .sl 1 (bD w.2))], .val false [(.rd, .lf (.int .i64 n))]] ⟨[(false, [.lf (.int .i64 (if w.2.length ≤ n then ((n - w.2.length : Nat) : Int) else -1))])], [], []⟩ := by
 obtain ⟨c, hb, hs⟩ := body_of tr129
 refine runs_of_sw Try.func129 hb hs rfl (show 2 ≤ 12 by decide) ?_
 clear hb hs c
 refine q15 ?_
 unfold s129
 refine sw_seq ?_
 refine sw_reg ?_
 unfold s129_0
 refine os_wro (by intros; nofun) ?_
 refine ⟨_, rfl, ?_⟩
 refine q2 ?_
 refine os_ev (evq_mvk) ?_
 simp only [runOs, thenQ, blockQ, Vs.put, reduceIte, Nat.reduceEqDiff]
 refine sw_seq ?_
 refine sw_reg ?_
 unfold s129_1
 refine q5 ?_
 refine q0 ?_
 refine q8 ?_
 refine q0 ?_
 refine os_ev (evq_mvt rfl) ?_
 refine os_callo ?_
 refine q6 ?_
 refine ⟨_, _, runs128 w.2 n hb hn, _, rfl, _, rfl, by simp [handIo, handBx], fa_cons (⟨rfl, .inl rfl, by simp [handIo, handBx], _, rfl, by simp, by first | rfl | (simp; done) | exact (List.take_of_length_le (by simp)).symm⟩) (fa_cons (rfl) (fa_nil)), _, rfl, _, rfl, ?_⟩
 refine q7 ?_
 refine q2 ?_
 refine os_ev (evq_mvt rfl) ?_
 simp only [Vs.put, reduceIte, Nat.reduceEqDiff]
 simp only [runOs, thenQ, blockQ, Vs.put, reduceIte, Nat.reduceEqDiff]
 refine sw_seq ?_
 refine sw_seq ?_
 refine sw_reg ?_
 unfold s129_2
 refine os_ev (evq_mvt rfl) ?_
 refine os_ev (evq_bin rfl rfl rfl) ?_
 simp only [runOs, thenQ, blockQ, Vs.put, reduceIte, Nat.reduceEqDiff]
 refine sw_cond rfl (fun h1 => ?_) (fun h1 => ?_)
 ·replace h1 := q1 h1
  rw [if_neg (show ¬ w.2.length ≤ n from fun hle => by rw [if_pos hle] at h1; omega)]
  refine sw_seq ?_
  refine sw_reg ?_
  unfold s129_3
  refine os_ev (evq_mvk) ?_
  simp only [runOs, thenQ, blockQ, Vs.put, reduceIte, Nat.reduceEqDiff]
  refine sw_ret ?_
  refine q3 ?_
  first | exact leaves_vals rfl rfl rfl rfl | exact leaves_a rfl rfl rfl rfl
 ·replace h1 := q1 h1
  refine sw_skip ?_
  simp only [thenQ, blockQ]
  refine sw_seq ?_
  refine sw_reg ?_
  unfold s129_4
  refine os_ev (evq_mvt rfl) ?_
  refine os_ev (evq_mvt rfl) ?_
  simp only [Vs.put, reduceIte, Nat.reduceEqDiff]
  simp only [runOs, thenQ, blockQ, Vs.put, reduceIte, Nat.reduceEqDiff]
  refine sw_ret ?_
  refine q3 ?_
  first | exact leaves_vals rfl rfl rfl rfl | exact leaves_a rfl rfl rfl rfl
theorem runs94 (l : List (List UInt8)) (n : Nat) (hl : l.length ≤ 9223372036854775807) (hb : ∀ b ∈ l, b.length ≤ 9223372036854775807) (hn : n < 2 ^ 62) : Runs Try.prog 94 [.val false [(.rd, .sl 1 (sD l))], .val false [(.rd, .lf (.int .i64 n))]] ⟨[(false, [.lf (.int .i64 (if szSS l ≤ n then ((n - szSS l : Nat) : Int) else -1))])], [], []⟩ := by
 obtain ⟨c, hb, hs⟩ := body_of tr94
 refine runs_of_sw Try.func94 hb hs rfl (show 2 ≤ 27 by decide) ?_
 clear hb hs c
 refine q23 ?_
 unfold s94
 have e1 : IntKind.i64.wrap ((n : Int) - (l.length : Int)) = (n : Int) - (l.length : Int) := wrap64 (by omega) (by omega)
 refine sw_seq ?_
 refine sw_reg ?_
 unfold s94_0
 refine os_ev (evq_mvk) ?_
 simp only [runOs, thenQ, blockQ, Vs.put, reduceIte, Nat.reduceEqDiff]
 refine sw_seq ?_
 refine sw_reg ?_
 unfold s94_1
 refine os_ev (evq_mvt rfl) ?_
 refine os_ev (evq_mvt rfl) ?_
 refine q10 ?_
 refine os_ev (evq_bin rfl rfl rfl) ?_
 simp only [e1]
 simp only [Vs.put, reduceIte, Nat.reduceEqDiff]
 refine os_ev (evq_mvt rfl) ?_
 simp only [runOs, thenQ, blockQ, Vs.put, reduceIte, Nat.reduceEqDiff]
 refine sw_seq ?_
 refine sw_seq ?_
 refine sw_reg ?_
 unfold s94_2
 refine os_ev (evq_mvt rfl) ?_
 refine os_ev (evq_bin rfl rfl rfl) ?_
 simp only [runOs, thenQ, blockQ, Vs.put, reduceIte, Nat.reduceEqDiff]
 refine sw_cond rfl (fun h1 => ?_) (fun h1 => ?_)
 ·replace h1 := q1 h1
  rw [if_neg (show ¬ szSS l ≤ n by simp only [szSS]; omega)]
  refine sw_seq ?_
  refine sw_reg ?_
  unfold s94_3
  refine os_ev (evq_mvk) ?_
  simp only [runOs, thenQ, blockQ, Vs.put, reduceIte, Nat.reduceEqDiff]
  refine sw_ret ?_
  refine q3 ?_
  first | exact leaves_vals rfl rfl rfl rfl | exact leaves_a rfl rfl rfl rfl
 ·replace h1 := q1 h1
  have e0 : (n : Int) - (l.length : Int) = ((n - l.length : Nat) : Int) := by omega
  refine sw_skip ?_
  simp only [thenQ, blockQ]
  refine sw_seq ?_
  refine sw_seq ?_
  refine sw_reg ?_
  unfold s94_4
  refine os_ev (evq_mvk) ?_
  simp only [Vs.put, reduceIte, Nat.reduceEqDiff]
  simp only [runOs, thenQ, blockQ, Vs.put, reduceIte, Nat.reduceEqDiff]
  refine sw_block ?_
  refine sw_loop_upd [0, 1, 5] (α := Nat) (fun i => [(1, .a (.c (.lf (.int .i64 (n - (l.length + szL szB (l.take i)) : Nat))))), (5, .a (.c (.lf (.int .i64 (i : Nat)))))]) (fun i => [(0, .im 1 (sD l))]) (1) (fun i => i ≤ l.length ∧ l.length + szL szB (l.take i) ≤ n) (fun i => l.length - i) (0) [(0, 0)] ?_ (by decide) ?_ ?_ ?_
  ·exact ⟨Nat.zero_le _, by simp only [List.take_zero, szL_nil, Nat.add_zero]; omega⟩
  ·simp only [sel, Vs.get, upd, Vs.put, reduceIte, Nat.reduceEqDiff]
   repeat' (first | exact er_nil | refine er_un ?_ | refine er_cons rfl ?_ ?_)
   all_goals (try simp only [V.map, A.map, renC, Vs.get, reduceIte, Nat.reduceEqDiff, List.map_cons, List.map_nil, List.take_zero, szL_nil, Nat.add_zero, e0])
   all_goals (try rfl)
  ·repeat' (first | exact rr_nil | refine rr_cons 0 rfl rfl ?_ ?_)
   all_goals (try simp only [renRoot, renC, Vs.get, reduceIte, Nat.reduceEqDiff, List.map_cons, List.map_nil, List.take_zero, szL_nil, Nat.add_zero, e0])
   all_goals (try rfl)
  ·rintro i hinv
   simp only [sel, Vs.get, upd, Vs.put, reduceIte, Nat.reduceEqDiff]
   obtain ⟨hi, hm⟩ := hinv
   refine sw_seq ?_
   refine sw_seq ?_
   refine sw_reg ?_
   unfold s94_5
   refine os_ev (evq_mvt rfl) ?_
   refine os_ev (evq_mvt rfl) ?_
   refine q10 ?_
   refine os_ev (evq_bin rfl rfl rfl) ?_
   simp only [runOs, thenQ, blockQ, Vs.put, reduceIte, Nat.reduceEqDiff]
   refine sw_cond rfl (fun h4 => ?_) (fun h4 => ?_)
   ·replace h4 := q1 h4
    have hib : i < l.length := by omega
    have ei : IntKind.i64.wrap ((i : Int) + 1) = ((i + 1 : Nat) : Int) := by rw [wrap64 (by omega) (by omega)]; rfl
    have hst := szL_take szB hib
    have hle := szL_le szB l (i + 1)
    have hel : szB l[i] = l[i].length := rfl
    refine sw_skip ?_
    simp only [thenQ, blockQ]
    refine sw_seq ?_
    refine sw_block ?_
    refine sw_seq ?_
    refine sw_reg ?_
    unfold s94_7
    refine os_ev (evq_mvt rfl) ?_
    simp only [Vs.put, reduceIte, Nat.reduceEqDiff]
    refine os_ev (evq_mvt rfl) ?_
    refine q14 ?_
    first | refine os_ev (evq_ldb rfl rfl rfl) ?_ | refine os_ev (evq_ldl rfl rfl (sD_get hib) rfl) ?_ | refine os_ev (evq_lds rfl rfl (sD_get hib) rfl) ?_ | refine os_ev (evq_ldl rfl rfl (rfl) rfl) ?_ | refine os_ev (evq_lds rfl rfl (rfl) rfl) ?_
    refine q0 ?_
    refine os_ev (evq_mvt rfl) ?_
    refine os_callo ?_
    refine q6 ?_
    refine ⟨_, _, runs128 l[i] (n - (l.length + szL szB (l.take i))) (hb _ (List.getElem_mem hib)) (by omega), _, rfl, _, rfl, by simp [handIo, handBx], fa_cons (⟨rfl, .inl rfl, by simp [handIo, handBx], bD l[i], by simp [nodeIn, nodeAt, Vs.get, sD_get hib], by simp, by simp⟩) (fa_cons (rfl) (fa_nil)), _, rfl, _, rfl, ?_⟩
    refine q7 ?_
    refine q2 ?_
    refine os_ev (evq_mvt rfl) ?_
    simp only [Vs.put, reduceIte, Nat.reduceEqDiff]
    simp only [runOs, thenQ, blockQ, Vs.put, reduceIte, Nat.reduceEqDiff]
    refine sw_seq ?_
    refine sw_reg ?_
    unfold s94_8
    refine os_ev (evq_mvt rfl) ?_
    refine os_ev (evq_bin rfl rfl rfl) ?_
    simp only [runOs, thenQ, blockQ, Vs.put, reduceIte, Nat.reduceEqDiff]
    refine sw_cond rfl (fun h5 => ?_) (fun h5 => ?_)
    ·replace h5 := q1 h5
     have hno : ¬ l[i].length ≤ n - (l.length + szL szB (l.take i)) := fun hle => by rw [if_pos hle] at h5; omega
     rw [if_neg (show ¬ szSS l ≤ n by simp only [szSS]; omega)]
     refine sw_seq ?_
     refine sw_reg ?_
     unfold s94_9
     refine os_ev (evq_mvk) ?_
     simp only [runOs, thenQ, blockQ, Vs.put, reduceIte, Nat.reduceEqDiff]
     refine sw_ret ?_
     refine q3 ?_
     first | exact leaves_vals rfl rfl rfl rfl | exact leaves_a rfl rfl rfl rfl
    ·replace h5 := q1 h5
     have hyes : l[i].length ≤ n - (l.length + szL szB (l.take i)) := by
      rcases Nat.lt_or_ge (n - (l.length + szL szB (l.take i))) (l[i].length) with hx | hx
      ·rw [if_neg (by omega)] at h5; omega
      ·exact hx
     simp only [if_pos hyes]
     have e3 : n - (l.length + szL szB (l.take i)) - l[i].length = n - (l.length + szL szB (l.take (i + 1))) := by omega
     refine sw_skip ?_
     simp only [thenQ, blockQ]
     refine sw_reg ?_
     unfold s94_6
     refine os_ev (evq_mvt rfl) ?_
     refine os_ev (evq_bin rfl rfl rfl) ?_
     simp only [Vs.put, reduceIte, Nat.reduceEqDiff]
     refine os_ev (evq_mvt rfl) ?_
     simp only [runOs, thenQ, blockQ, Vs.put, reduceIte, Nat.reduceEqDiff]
     try simp only [thenQ, blockQ]
     refine ⟨i + 1, ?_, ?_, rfl, [(0, 0)], by decide, ?_, ?_⟩
     ·exact ⟨by omega, by omega⟩
     ·first | omega | (dsimp only; omega)
     ·simp only [sel, Vs.get, upd, Vs.put, reduceIte, Nat.reduceEqDiff]
      repeat' (first | exact er_nil | refine er_un ?_ | refine er_cons rfl ?_ ?_)
      all_goals (try simp only [V.map, A.map, renC, Vs.get, reduceIte, Nat.reduceEqDiff, List.map_cons, List.map_nil, ei, e3])
     ·repeat' (first | exact rr_nil | refine rr_cons 0 rfl rfl ?_ ?_)
      all_goals (try simp only [renRoot, renC, Vs.get, reduceIte, Nat.reduceEqDiff, List.map_cons, List.map_nil, ei, e3])
   ·replace h4 := q1 h4
    have hib : i = l.length := by omega
    subst hib
    rw [List.take_length] at hm
    simp only [List.take_length]
    rw [if_pos (show szSS l ≤ n by simp only [szSS]; omega)]
    refine sw_exit ?_
    refine q12 ?_
    refine sw_seq ?_
    refine sw_reg ?_
    unfold s94_10
    refine os_ev (evq_mvt rfl) ?_
    refine os_ev (evq_mvt rfl) ?_
    simp only [runOs, thenQ, blockQ, Vs.put, reduceIte, Nat.reduceEqDiff]
    refine sw_ret ?_
    refine q3 ?_
    first | exact leaves_vals rfl rfl rfl rfl | exact leaves_a rfl rfl rfl rfl
theorem runs95 (l : List Wr) (n : Nat) (hl : l.length ≤ 9223372036854775807) (hb : ∀ w ∈ l, w.2.length ≤ 9223372036854775807) (hn : n < 2 ^ 62) : Runs Try.prog 95 [.val false [(.rd, .sl 2 (wD l))], .val false [(.rd, .lf (.int .i64 n))]] ⟨[(false, [.lf (.int .i64 (if szWS l ≤ n then ((n - szWS l : Nat) : Int) else -1))])], [], []⟩ := by
 obtain ⟨c, hb, hs⟩ := body_of tr95
 refine runs_of_sw Try.func95 hb hs rfl (show 2 ≤ 27 by decide) ?_
 clear hb hs c
 refine q26 ?_
 unfold s95
 have e1 : IntKind.i64.wrap ((n : Int) - (l.length : Int)) = (n : Int) - (l.length : Int) := wrap64 (by omega) (by omega)
 refine sw_seq ?_
 refine sw_reg ?_
 unfold s95_0
 refine os_ev (evq_mvk) ?_
 simp only [runOs, thenQ, blockQ, Vs.put, reduceIte, Nat.reduceEqDiff]
 refine sw_seq ?_
 refine sw_reg ?_
 unfold s95_1
 refine os_ev (evq_mvt rfl) ?_
 refine os_ev (evq_mvt rfl) ?_
 refine q10 ?_
 refine os_ev (evq_bin rfl rfl rfl) ?_
 simp only [e1]
 simp only [Vs.put, reduceIte, Nat.reduceEqDiff]
 refine os_ev (evq_mvt rfl) ?_
 simp only [runOs, thenQ, blockQ, Vs.put, reduceIte, Nat.reduceEqDiff]
 refine sw_seq ?_
 refine sw_seq ?_
 refine sw_reg ?_
 unfold s95_2
 refine os_ev (evq_mvt rfl) ?_
 refine os_ev (evq_bin rfl rfl rfl) ?_
 simp only [runOs, thenQ, blockQ, Vs.put, reduceIte, Nat.reduceEqDiff]
 refine sw_cond rfl (fun h1 => ?_) (fun h1 => ?_)
 ·replace h1 := q1 h1
  rw [if_neg (show ¬ szWS l ≤ n by simp only [szWS]; omega)]
  refine sw_seq ?_
  refine sw_reg ?_
  unfold s95_3
  refine os_ev (evq_mvk) ?_
  simp only [runOs, thenQ, blockQ, Vs.put, reduceIte, Nat.reduceEqDiff]
  refine sw_ret ?_
  refine q3 ?_
  first | exact leaves_vals rfl rfl rfl rfl | exact leaves_a rfl rfl rfl rfl
 ·replace h1 := q1 h1
  have e0 : (n : Int) - (l.length : Int) = ((n - l.length : Nat) : Int) := by omega
  refine sw_skip ?_
  simp only [thenQ, blockQ]
  refine sw_seq ?_
  refine sw_seq ?_
  refine sw_reg ?_
  unfold s95_4
  refine os_ev (evq_mvk) ?_
  simp only [Vs.put, reduceIte, Nat.reduceEqDiff]
  simp only [runOs, thenQ, blockQ, Vs.put, reduceIte, Nat.reduceEqDiff]
  refine sw_block ?_
  refine sw_loop_upd [0, 1, 5] (α := Nat) (fun i => [(1, .a (.c (.lf (.int .i64 (n - (l.length + szL szE (l.take i)) : Nat))))), (5, .a (.c (.lf (.int .i64 (i : Nat)))))]) (fun i => [(0, .im 2 (wD l))]) (1) (fun i => i ≤ l.length ∧ l.length + szL szE (l.take i) ≤ n) (fun i => l.length - i) (0) [(0, 0)] ?_ (by decide) ?_ ?_ ?_
  ·exact ⟨Nat.zero_le _, by simp only [List.take_zero, szL_nil, Nat.add_zero]; omega⟩
  ·simp only [sel, Vs.get, upd, Vs.put, reduceIte, Nat.reduceEqDiff]
   repeat' (first | exact er_nil | refine er_un ?_ | refine er_cons rfl ?_ ?_)
   all_goals (try simp only [V.map, A.map, renC, Vs.get, reduceIte, Nat.reduceEqDiff, List.map_cons, List.map_nil, List.take_zero, szL_nil, Nat.add_zero, e0])
   all_goals (try rfl)
  ·repeat' (first | exact rr_nil | refine rr_cons 0 rfl rfl ?_ ?_)
   all_goals (try simp only [renRoot, renC, Vs.get, reduceIte, Nat.reduceEqDiff, List.map_cons, List.map_nil, List.take_zero, szL_nil, Nat.add_zero, e0])
   all_goals (try rfl)
  ·rintro i hinv
   simp only [sel, Vs.get, upd, Vs.put, reduceIte, Nat.reduceEqDiff]
   obtain ⟨hi, hm⟩ := hinv
   refine sw_seq ?_
   refine sw_seq ?_
   refine sw_reg ?_
   unfold s95_5
   refine os_ev (evq_mvt rfl) ?_
   refine os_ev (evq_mvt rfl) ?_
   refine q10 ?_
   refine os_ev (evq_bin rfl rfl rfl) ?_
   simp only [runOs, thenQ, blockQ, Vs.put, reduceIte, Nat.reduceEqDiff]
   refine sw_cond rfl (fun h4 => ?_) (fun h4 => ?_)
   ·replace h4 := q1 h4
    have hib : i < l.length := by omega
    have ei : IntKind.i64.wrap ((i : Int) + 1) = ((i + 1 : Nat) : Int) := by rw [wrap64 (by omega) (by omega)]; rfl
    have hst := szL_take szE hib
    have hle := szL_le szE l (i + 1)
    have hel : szE l[i] = l[i].2.length := rfl
    refine sw_skip ?_
    simp only [thenQ, blockQ]
    refine sw_seq ?_
    refine sw_block ?_
    refine sw_seq ?_
    refine sw_reg ?_
    unfold s95_7
    refine os_ev (evq_mvt rfl) ?_
    simp only [Vs.put, reduceIte, Nat.reduceEqDiff]
    refine os_ev (evq_mvt rfl) ?_
    refine q14 ?_
    first | refine os_ev (evq_lgb rfl rfl (Nat.le_of_ble_eq_true rfl) rfl) ?_ | refine os_ev (evq_lge rfl rfl (wD_get hib) (Nat.le_of_ble_eq_true rfl) rfl) ?_ | refine os_ev (evq_lge rfl rfl (rfl) (Nat.le_of_ble_eq_true rfl) rfl) ?_
    refine q0 ?_
    refine os_ev (evq_mvt rfl) ?_
    refine os_callo ?_
    refine q6 ?_
    refine ⟨_, _, runs129 l[i] (n - (l.length + szL szE (l.take i))) (hb _ (List.getElem_mem hib)) (by omega), _, rfl, _, rfl, by simp [handIo, handBx], fa_cons (rfl) (fa_cons (⟨rfl, .inl rfl, by simp [handIo, handBx], bD l[i].2, by simp [nodeIn, nodeAt, Vs.get, wD_get hib], by simp, by simp⟩) (fa_cons (rfl) (fa_nil))), _, rfl, _, rfl, ?_⟩
    refine q7 ?_
    refine q2 ?_
    refine os_ev (evq_mvt rfl) ?_
    simp only [Vs.put, reduceIte, Nat.reduceEqDiff]
    simp only [runOs, thenQ, blockQ, Vs.put, reduceIte, Nat.reduceEqDiff]
    refine sw_seq ?_
    refine sw_reg ?_
    unfold s95_8
    refine os_ev (evq_mvt rfl) ?_
    refine os_ev (evq_bin rfl rfl rfl) ?_
    simp only [runOs, thenQ, blockQ, Vs.put, reduceIte, Nat.reduceEqDiff]
    refine sw_cond rfl (fun h5 => ?_) (fun h5 => ?_)
    ·replace h5 := q1 h5
     have hno : ¬ l[i].2.length ≤ n - (l.length + szL szE (l.take i)) := fun hle => by rw [if_pos hle] at h5; omega
     rw [if_neg (show ¬ szWS l ≤ n by simp only [szWS]; omega)]
     refine sw_seq ?_
     refine sw_reg ?_
     unfold s95_9
     refine os_ev (evq_mvk) ?_
     simp only [runOs, thenQ, blockQ, Vs.put, reduceIte, Nat.reduceEqDiff]
     refine sw_ret ?_
     refine q3 ?_
     first | exact leaves_vals rfl rfl rfl rfl | exact leaves_a rfl rfl rfl rfl
    ·replace h5 := q1 h5
     have hyes : l[i].2.length ≤ n - (l.length + szL szE (l.take i)) := by
      rcases Nat.lt_or_ge (n - (l.length + szL szE (l.take i))) (l[i].2.length) with hx | hx
      ·rw [if_neg (by omega)] at h5; omega
      ·exact hx
     simp only [if_pos hyes]
     have e3 : n - (l.length + szL szE (l.take i)) - l[i].2.length = n - (l.length + szL szE (l.take (i + 1))) := by omega
     refine sw_skip ?_
     simp only [thenQ, blockQ]
     refine sw_reg ?_
     unfold s95_6
     refine os_ev (evq_mvt rfl) ?_
     refine os_ev (evq_bin rfl rfl rfl) ?_
     simp only [Vs.put, reduceIte, Nat.reduceEqDiff]
     refine os_ev (evq_mvt rfl) ?_
     simp only [runOs, thenQ, blockQ, Vs.put, reduceIte, Nat.reduceEqDiff]
     try simp only [thenQ, blockQ]
     refine ⟨i + 1, ?_, ?_, rfl, [(0, 0)], by decide, ?_, ?_⟩
     ·exact ⟨by omega, by omega⟩
     ·first | omega | (dsimp only; omega)
     ·simp only [sel, Vs.get, upd, Vs.put, reduceIte, Nat.reduceEqDiff]
      repeat' (first | exact er_nil | refine er_un ?_ | refine er_cons rfl ?_ ?_)
      all_goals (try simp only [V.map, A.map, renC, Vs.get, reduceIte, Nat.reduceEqDiff, List.map_cons, List.map_nil, ei, e3])
     ·repeat' (first | exact rr_nil | refine rr_cons 0 rfl rfl ?_ ?_)
      all_goals (try simp only [renRoot, renC, Vs.get, reduceIte, Nat.reduceEqDiff, List.map_cons, List.map_nil, ei, e3])
   ·replace h4 := q1 h4
    have hib : i = l.length := by omega
    subst hib
    rw [List.take_length] at hm
    simp only [List.take_length]
    rw [if_pos (show szWS l ≤ n by simp only [szWS]; omega)]
    refine sw_exit ?_
    refine q12 ?_
    refine sw_seq ?_
    refine sw_reg ?_
    unfold s95_10
    refine os_ev (evq_mvt rfl) ?_
    refine os_ev (evq_mvt rfl) ?_
    simp only [runOs, thenQ, blockQ, Vs.put, reduceIte, Nat.reduceEqDiff]
    refine sw_ret ?_
    refine q3 ?_
    first | exact leaves_vals rfl rfl rfl rfl | exact leaves_a rfl rfl rfl rfl
theorem runs38 (secs : List (List UInt8)) (cache : List Wr) (fuse : Int) (down : Bool) (n : Nat) (hl : secs.length ≤ 9223372036854775807) (hb : ∀ b ∈ secs, b.length ≤ 9223372036854775807) (hm : cache.length ≤ 9223372036854775807) (hc : ∀ w ∈ cache, w.2.length ≤ 9223372036854775807) (hn : n < 2 ^ 62) : Runs Try.prog 38 [.val true [(.rd, .sl 1 (sD secs)), (.rd, .sl 2 (wD cache)), (.rd, .lf (.int .i64 fuse)), (.rd, .lf (.bool down))], .val false [(.rd, .lf (.int .i64 n))]] ⟨[(false, [.lf (.int .i64 (if szSS secs + szWS cache ≤ n then ((n - (szSS secs + szWS cache) : Nat) : Int) else -1))])], [], []⟩ := by
 obtain ⟨c, hb, hs⟩ := body_of tr38
 refine runs_of_sw Try.func38 hb hs rfl (show 2 ≤ 18 by decide) ?_
 clear hb hs c
 refine q17 ?_
 unfold s38
 refine sw_seq ?_
 refine sw_reg ?_
 unfold s38_0
 refine os_wro (by intros; nofun) ?_
 refine ⟨_, rfl, ?_⟩
 refine q2 ?_
 refine os_ev (evq_mvk) ?_
 simp only [runOs, thenQ, blockQ, Vs.put, reduceIte, Nat.reduceEqDiff]
 refine sw_seq ?_
 refine sw_reg ?_
 unfold s38_1
 refine q5 ?_
 refine q0 ?_
 refine q8 ?_
 refine q0 ?_
 refine os_ev (evq_mvt rfl) ?_
 refine os_callo ?_
 refine q6 ?_
 refine ⟨_, _, runs94 secs n hl hb hn, _, rfl, _, rfl, by simp [handIo, handBx], fa_cons (⟨rfl, .inl rfl, by simp [handIo, handBx], _, rfl, by simp, by first | rfl | (simp; done) | exact (List.take_of_length_le (by simp)).symm⟩) (fa_cons (rfl) (fa_nil)), _, rfl, _, rfl, ?_⟩
 refine q7 ?_
 refine q2 ?_
 refine os_ev (evq_mvt rfl) ?_
 simp only [Vs.put, reduceIte, Nat.reduceEqDiff]
 simp only [runOs, thenQ, blockQ, Vs.put, reduceIte, Nat.reduceEqDiff]
 refine sw_seq ?_
 refine sw_seq ?_
 refine sw_reg ?_
 unfold s38_2
 refine os_ev (evq_mvt rfl) ?_
 refine os_ev (evq_bin rfl rfl rfl) ?_
 simp only [runOs, thenQ, blockQ, Vs.put, reduceIte, Nat.reduceEqDiff]
 refine sw_cond rfl (fun h1 => ?_) (fun h1 => ?_)
 ·replace h1 := q1 h1
  have hno : ¬ szSS secs ≤ n := fun hle => by rw [if_pos hle] at h1; omega
  rw [if_neg (show ¬ szSS secs + szWS cache ≤ n by omega)]
  refine sw_seq ?_
  refine sw_reg ?_
  unfold s38_3
  refine os_ev (evq_mvk) ?_
  simp only [runOs, thenQ, blockQ, Vs.put, reduceIte, Nat.reduceEqDiff]
  refine sw_ret ?_
  refine q3 ?_
  first | exact leaves_vals rfl rfl rfl rfl | exact leaves_a rfl rfl rfl rfl
 ·replace h1 := q1 h1
  have hyes : szSS secs ≤ n := by
   rcases Nat.lt_or_ge n (szSS secs) with hx | hx
   ·rw [if_neg (by omega)] at h1; omega
   ·exact hx
  simp only [if_pos hyes]
  refine sw_skip ?_
  simp only [thenQ, blockQ]
  refine sw_seq ?_
  refine sw_reg ?_
  unfold s38_4
  refine q5 ?_
  refine q0 ?_
  refine q8 ?_
  refine q0 ?_
  simp only [Vs.put, reduceIte, Nat.reduceEqDiff]
  refine os_ev (evq_mvt rfl) ?_
  refine os_callo ?_
  refine q6 ?_
  refine ⟨_, _, runs95 cache (n - szSS secs) hm hc (by omega), _, rfl, _, rfl, by simp [handIo, handBx], fa_cons (⟨rfl, .inl rfl, by simp [handIo, handBx], _, rfl, by simp, by first | rfl | (simp; done) | exact (List.take_of_length_le (by simp)).symm⟩) (fa_cons (rfl) (fa_nil)), _, rfl, _, rfl, ?_⟩
  refine q7 ?_
  refine q2 ?_
  refine os_ev (evq_mvt rfl) ?_
  simp only [runOs, thenQ, blockQ, Vs.put, reduceIte, Nat.reduceEqDiff]
  refine sw_seq ?_
  refine sw_seq ?_
  refine sw_reg ?_
  unfold s38_5
  refine os_ev (evq_mvt rfl) ?_
  refine os_ev (evq_bin rfl rfl rfl) ?_
  simp only [runOs, thenQ, blockQ, Vs.put, reduceIte, Nat.reduceEqDiff]
  refine sw_cond rfl (fun h3 => ?_) (fun h3 => ?_)
  ·replace h3 := q1 h3
   have hno : ¬ szWS cache ≤ n - szSS secs := fun hle => by rw [if_pos hle] at h3; omega
   rw [if_neg (show ¬ szSS secs + szWS cache ≤ n by omega)]
   refine sw_seq ?_
   refine sw_reg ?_
   unfold s38_6
   refine os_ev (evq_mvk) ?_
   simp only [Vs.put, reduceIte, Nat.reduceEqDiff]
   simp only [runOs, thenQ, blockQ, Vs.put, reduceIte, Nat.reduceEqDiff]
   refine sw_ret ?_
   refine q3 ?_
   first | exact leaves_vals rfl rfl rfl rfl | exact leaves_a rfl rfl rfl rfl
  ·replace h3 := q1 h3
   have hy2 : szWS cache ≤ n - szSS secs := by
    rcases Nat.lt_or_ge (n - szSS secs) (szWS cache) with hx | hx
    ·rw [if_neg (by omega)] at h3; omega
    ·exact hx
   simp only [if_pos hy2]
   rw [if_pos (show szSS secs + szWS cache ≤ n by omega), show n - (szSS secs + szWS cache) = n - szSS secs - szWS cache by omega]
   refine sw_skip ?_
   simp only [thenQ, blockQ]
   refine sw_seq ?_
   refine sw_reg ?_
   unfold s38_7
   refine os_ev (evq_mvt rfl) ?_
   refine os_ev (evq_mvt rfl) ?_
   simp only [runOs, thenQ, blockQ, Vs.put, reduceIte, Nat.reduceEqDiff]
   refine sw_ret ?_
   refine q3 ?_
   first | exact leaves_vals rfl rfl rfl rfl | exact leaves_a rfl rfl rfl rfl
end Go.Proofs.Ytgbapgjdkoojdaa
