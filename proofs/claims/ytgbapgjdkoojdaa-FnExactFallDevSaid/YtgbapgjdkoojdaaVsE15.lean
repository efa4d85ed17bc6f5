import Derived.Test.YtgbapgjdkoojdaaVsQ
import Derived.Test.YtgbapgjdkoojdaaVsSg
import Derived.Test.YtgbapgjdkoojdaaVsE1
import Derived.Test.YtgbapgjdkoojdaaVsE3
import Derived.Test.YtgbapgjdkoojdaaVsE4
import Derived.Test.YtgbapgjdkoojdaaVsE5
import Derived.Test.YtgbapgjdkoojdaaVsW2
set_option linter.unusedVariables false
set_option linter.unusedSimpArgs false
namespace Go.Proofs.Ytgbapgjdkoojdaa
open Go.Vs
set_option linter.unusedSimpArgs false
set_option linter.unusedVariables false
set_option maxHeartbeats 1000000
theorem runs85 (l : List (List UInt8)) (n : Nat) (h : n + szL szB l + l.length < 2 ^ 62) : Runs Try.prog 85 [.val false [(.io, .sl 1 (sD l))], .val false [(.rd, .lf (.int .i64 n))]] ⟨[(false, [.lf (.int .i64 ((n + szL szB l : Nat) : Int))])], [(1, sD (mkL szB mkB n l))], []⟩ := by
 obtain ⟨c, hb, hs⟩ := body_of tr85
 refine runs_of_sw Try.func85 hb hs rfl (show 2 ≤ 19 by decide) ?_
 clear hb hs c
 refine q23 ?_
 unfold s85
 refine sw_seq ?_
 refine sw_reg ?_
 unfold s85_0
 refine os_ev (evq_mvk) ?_
 simp only [runOs, thenQ, blockQ, Vs.put, reduceIte, Nat.reduceEqDiff]
 refine sw_seq ?_
 refine sw_seq ?_
 refine sw_reg ?_
 unfold s85_1
 refine os_ev (evq_mvk) ?_
 simp only [runOs, thenQ, blockQ, Vs.put, reduceIte, Nat.reduceEqDiff]
 refine sw_block ?_
 refine sw_loop_upd [0, 1, 5] (α := Nat) (fun i => [(1, .a (.c (.lf (.int .i64 (n + szL szB (l.take i) : Nat))))), (5, .a (.c (.lf (.int .i64 (i : Nat)))))]) (fun i => [(0, .tr 1 (sD (half szB mkB n l i)))]) (1) (fun i => i ≤ l.length) (fun i => l.length - i) (0) [(0, 0)] ?_ (by decide) ?_ ?_ ?_
 ·exact Nat.zero_le _
 ·simp only [sel, Vs.get, upd, Vs.put, reduceIte, Nat.reduceEqDiff]
  repeat' (first | exact er_nil | refine er_un ?_ | refine er_cons rfl ?_ ?_)
  all_goals (try simp only [V.map, A.map, renC, Vs.get, reduceIte, Nat.reduceEqDiff, List.map_cons, List.map_nil, List.take_zero, szL_nil, Nat.add_zero, half_zero])
  all_goals (try rfl)
 ·repeat' (first | exact rr_nil | refine rr_cons 0 rfl rfl ?_ ?_)
  all_goals (try simp only [renRoot, renC, Vs.get, reduceIte, Nat.reduceEqDiff, List.map_cons, List.map_nil, List.take_zero, szL_nil, Nat.add_zero, half_zero])
  all_goals (try rfl)
 ·rintro i hinv
  simp only [sel, Vs.get, upd, Vs.put, reduceIte, Nat.reduceEqDiff]
  refine sw_seq ?_
  refine sw_seq ?_
  refine sw_reg ?_
  unfold s85_2
  refine os_ev (evq_mvt rfl) ?_
  refine os_ev (evq_mvt rfl) ?_
  refine q10 ?_
  simp only [Vs.put, reduceIte, Nat.reduceEqDiff]
  refine os_ev (evq_bin rfl rfl rfl) ?_
  simp only [runOs, thenQ, blockQ, Vs.put, reduceIte, Nat.reduceEqDiff]
  refine sw_cond rfl (fun h2 => ?_) (fun h2 => ?_)
  ·replace h2 := q1 h2
   have hib : i < l.length := by omega
   have e1 : IntKind.i64.wrap ((i : Int) + 1) = ((i + 1 : Nat) : Int) := by rw [wrap64 (by omega) (by omega)]; rfl
   have hle := szL_le szB l (i + 1)
   have hst := szL_take szB hib
   have hg := half_get szB mkB n hib
   have hset : updNode (sD (half szB mkB n l i)) [(i, 0)] (fun _ => bD (cnt (n + szL szB (l.take i)) l[i].length)) = sD (half szB mkB n l (i + 1)) := (upd_s hg).trans (congrArg sD (half_set szB mkB n hib))
   have e2 : n + szL szB (l.take i) + l[i].length = n + szL szB (l.take (i + 1)) := by rw [hst]; simp only [szB]; omega
   refine sw_skip ?_
   simp only [thenQ, blockQ]
   refine sw_seq ?_
   refine sw_block ?_
   refine sw_reg ?_
   unfold s85_4
   refine os_ev (evq_mvt rfl) ?_
   refine os_ev (evq_mvt rfl) ?_
   refine q14 ?_
   first | refine os_ev (evq_ldb rfl rfl rfl) ?_ | refine os_ev (evq_ldl rfl rfl (sD_get' hg) rfl) ?_ | refine os_ev (evq_lds rfl rfl (sD_get' hg) rfl) ?_ | refine os_ev (evq_ldl rfl rfl (rfl) rfl) ?_ | refine os_ev (evq_lds rfl rfl (rfl) rfl) ?_
   refine q0 ?_
   simp only [Vs.put, reduceIte, Nat.reduceEqDiff]
   refine os_ev (evq_mvt rfl) ?_
   refine os_callo ?_
   refine q6 ?_
   refine ⟨_, _, runs24 l[i] (n + szL szB (l.take i)) (by rw [show l[i].length = szB l[i] from rfl]; omega), _, rfl, _, rfl, by simp [handIo, handBx], fa_cons (⟨rfl, rfl, by simp, _, _, rfl, by simp only [nodeAt, sD_get' hg, Option.bind_some, List.getElem?_cons_zero]⟩) (fa_cons (rfl) (fa_nil)), _, rfl, _, rfl, ?_⟩
   refine q7 ?_
   simp only [hset]
   refine q11 ?_
   refine os_ev (evq_mvt rfl) ?_
   simp only [runOs, thenQ, blockQ, Vs.put, reduceIte, Nat.reduceEqDiff]
   refine sw_reg ?_
   unfold s85_3
   refine os_ev (evq_mvt rfl) ?_
   refine os_ev (evq_bin rfl rfl rfl) ?_
   refine os_ev (evq_mvt rfl) ?_
   simp only [Vs.put, reduceIte, Nat.reduceEqDiff]
   simp only [runOs, thenQ, blockQ, Vs.put, reduceIte, Nat.reduceEqDiff]
   try simp only [thenQ, blockQ]
   refine ⟨i + 1, ?_, ?_, rfl, [(0, 0)], by decide, ?_, ?_⟩
   ·omega
   ·first | omega | (dsimp only; omega)
   ·simp only [sel, Vs.get, upd, Vs.put, reduceIte, Nat.reduceEqDiff]
    repeat' (first | exact er_nil | refine er_un ?_ | refine er_cons rfl ?_ ?_)
    all_goals (try simp only [V.map, A.map, renC, Vs.get, reduceIte, Nat.reduceEqDiff, List.map_cons, List.map_nil, e1, e2])
   ·repeat' (first | exact rr_nil | refine rr_cons 0 rfl rfl ?_ ?_)
    all_goals (try simp only [renRoot, renC, Vs.get, reduceIte, Nat.reduceEqDiff, List.map_cons, List.map_nil, e1, e2])
  ·replace h2 := q1 h2
   have hib : i = l.length := by omega
   subst hib
   refine sw_exit ?_
   refine q12 ?_
   refine sw_seq ?_
   refine sw_reg ?_
   unfold s85_5
   refine os_ev (evq_mvt rfl) ?_
   refine os_ev (evq_mvt rfl) ?_
   simp only [runOs, thenQ, blockQ, Vs.put, reduceIte, Nat.reduceEqDiff]
   refine sw_ret ?_
   refine q3 ?_
   simp only [List.take_length, half_all]
   first | exact leaves_io rfl rfl rfl ⟨⟨rfl, rfl, by simp [mkL_len]⟩, trivial⟩ | exact leaves_io rfl rfl (take_lf rfl) ⟨⟨rfl, rfl, by simp [mkL_len]⟩, trivial⟩
theorem runs86 (l : List Wr) (n : Nat) (h : n + szL szW l + l.length < 2 ^ 62) : Runs Try.prog 86 [.val false [(.io, .sl 2 (wD l))], .val false [(.rd, .lf (.int .i64 n))]] ⟨[(false, [.lf (.int .i64 ((n + szL szW l : Nat) : Int))])], [(2, wD (mkL szW mkW n l))], []⟩ := by
 obtain ⟨c, hb, hs⟩ := body_of tr86
 refine runs_of_sw Try.func86 hb hs rfl (show 2 ≤ 27 by decide) ?_
 clear hb hs c
 refine q26 ?_
 unfold s86
 refine sw_seq ?_
 refine sw_reg ?_
 unfold s86_0
 refine os_ev (evq_mvk) ?_
 simp only [runOs, thenQ, blockQ, Vs.put, reduceIte, Nat.reduceEqDiff]
 refine sw_seq ?_
 refine sw_seq ?_
 refine sw_reg ?_
 unfold s86_1
 refine os_ev (evq_mvk) ?_
 simp only [runOs, thenQ, blockQ, Vs.put, reduceIte, Nat.reduceEqDiff]
 refine sw_block ?_
 refine sw_loop_upd [0, 1, 5] (α := Nat) (fun i => [(1, .a (.c (.lf (.int .i64 (n + szL szW (l.take i) : Nat))))), (5, .a (.c (.lf (.int .i64 (i : Nat)))))]) (fun i => [(0, .tr 2 (wD (half szW mkW n l i)))]) (1) (fun i => i ≤ l.length) (fun i => l.length - i) (0) [(0, 0)] ?_ (by decide) ?_ ?_ ?_
 ·exact Nat.zero_le _
 ·simp only [sel, Vs.get, upd, Vs.put, reduceIte, Nat.reduceEqDiff]
  repeat' (first | exact er_nil | refine er_un ?_ | refine er_cons rfl ?_ ?_)
  all_goals (try simp only [V.map, A.map, renC, Vs.get, reduceIte, Nat.reduceEqDiff, List.map_cons, List.map_nil, List.take_zero, szL_nil, Nat.add_zero, half_zero])
  all_goals (try rfl)
 ·repeat' (first | exact rr_nil | refine rr_cons 0 rfl rfl ?_ ?_)
  all_goals (try simp only [renRoot, renC, Vs.get, reduceIte, Nat.reduceEqDiff, List.map_cons, List.map_nil, List.take_zero, szL_nil, Nat.add_zero, half_zero])
  all_goals (try rfl)
 ·rintro i hinv
  simp only [sel, Vs.get, upd, Vs.put, reduceIte, Nat.reduceEqDiff]
  refine sw_seq ?_
  refine sw_seq ?_
  refine sw_reg ?_
  unfold s86_2
  refine os_ev (evq_mvt rfl) ?_
  refine os_ev (evq_mvt rfl) ?_
  refine q10 ?_
  simp only [Vs.put, reduceIte, Nat.reduceEqDiff]
  refine os_ev (evq_bin rfl rfl rfl) ?_
  simp only [runOs, thenQ, blockQ, Vs.put, reduceIte, Nat.reduceEqDiff]
  refine sw_cond rfl (fun h2 => ?_) (fun h2 => ?_)
  ·replace h2 := q1 h2
   have hib : i < l.length := by omega
   have e1 : IntKind.i64.wrap ((i : Int) + 1) = ((i + 1 : Nat) : Int) := by rw [wrap64 (by omega) (by omega)]; rfl
   have hle := szL_le szW l (i + 1)
   have hst := szL_take szW hib
   have hsw : szW l[i] = 1 + l[i].2.length := rfl
   have hg := half_get szW mkW n hib
   have hil : i < (half szW mkW n l i).length := by rw [half_len]; exact hib
   have hg2 : ((half szW mkW n l i).set i (((n + szL szW (l.take i) : Nat) : Int), l[i].2))[i]? = some (((n + szL szW (l.take i) : Nat) : Int), l[i].2) := by rw [List.getElem?_set_self hil]
   have hset : updNode (wD ((half szW mkW n l i).set i (((n + szL szW (l.take i) : Nat) : Int), l[i].2))) [(i, 1)] (fun _ => bD (cnt (n + szL szW (l.take i) + 1) l[i].2.length)) = wD (half szW mkW n l (i + 1)) := (upd_w hg2).trans (congrArg wD (by rw [List.set_set]; exact half_set szW mkW n hib))
   have e2 : n + szL szW (l.take i) + 1 + l[i].2.length = n + szL szW (l.take (i + 1)) := by rw [hst, hsw]; omega
   have e3 : IntKind.i64.wrap (((n + szL szW (l.take i) : Nat) : Int) + 1) = ((n + szL szW (l.take i) + 1 : Nat) : Int) := by rw [wrap64 (by omega) (by omega)]; rfl
   refine sw_skip ?_
   simp only [thenQ, blockQ]
   refine sw_seq ?_
   refine sw_block ?_
   refine sw_seq ?_
   refine sw_reg ?_
   unfold s86_4
   refine os_ev (evq_mvt rfl) ?_
   refine os_ev (evq_mvt rfl) ?_
   refine os_ev (evq_mvt rfl) ?_
   refine q14 ?_
   simp only [Vs.put, reduceIte, Nat.reduceEqDiff]
   refine q5 ?_
   refine q0 ?_
   refine os_wro (by intros; nofun) ?_
   refine st_leaf rfl rfl rfl rfl (wD_get' hg) (by simp) ?_
   rw [set_w hg]
   refine q11 ?_
   simp only [runOs, thenQ, blockQ, Vs.put, reduceIte, Nat.reduceEqDiff]
   refine sw_seq ?_
   refine sw_reg ?_
   unfold s86_5
   refine os_ev (evq_mvt rfl) ?_
   refine os_ev (evq_bin rfl rfl rfl) ?_
   simp only [e3]
   refine os_ev (evq_mvt rfl) ?_
   simp only [runOs, thenQ, blockQ, Vs.put, reduceIte, Nat.reduceEqDiff]
   refine sw_reg ?_
   unfold s86_6
   refine os_ev (evq_mvt rfl) ?_
   simp only [Vs.put, reduceIte, Nat.reduceEqDiff]
   refine os_ev (evq_mvt rfl) ?_
   refine q14 ?_
   refine q5 ?_
   refine q0 ?_
   first | refine os_ev (evq_ldb rfl rfl rfl) ?_ | refine os_ev (evq_ldl rfl rfl (wD_get' hg2) rfl) ?_ | refine os_ev (evq_lds rfl rfl (wD_get' hg2) rfl) ?_ | refine os_ev (evq_ldl rfl rfl (rfl) rfl) ?_ | refine os_ev (evq_lds rfl rfl (rfl) rfl) ?_
   refine q0 ?_
   refine os_ev (evq_mvt rfl) ?_
   simp only [Vs.put, reduceIte, Nat.reduceEqDiff]
   refine os_callo ?_
   refine q6 ?_
   refine ⟨_, _, runs24 l[i].2 (n + szL szW (l.take i) + 1) (by omega), _, rfl, _, rfl, by simp [handIo, handBx], fa_cons (⟨rfl, rfl, by simp, _, _, rfl, by simp only [nodeAt, wD_get' hg2, Option.bind_some, List.getElem?_cons_succ, List.getElem?_cons_zero]⟩) (fa_cons (rfl) (fa_nil)), _, rfl, _, rfl, ?_⟩
   refine q7 ?_
   simp only [hset]
   refine q11 ?_
   refine os_ev (evq_mvt rfl) ?_
   simp only [runOs, thenQ, blockQ, Vs.put, reduceIte, Nat.reduceEqDiff]
   refine sw_reg ?_
   unfold s86_3
   refine os_ev (evq_mvt rfl) ?_
   refine os_ev (evq_bin rfl rfl rfl) ?_
   refine os_ev (evq_mvt rfl) ?_
   simp only [runOs, thenQ, blockQ, Vs.put, reduceIte, Nat.reduceEqDiff]
   try simp only [thenQ, blockQ]
   refine ⟨i + 1, ?_, ?_, rfl, [(0, 0)], by decide, ?_, ?_⟩
   ·omega
   ·first | omega | (dsimp only; omega)
   ·simp only [sel, Vs.get, upd, Vs.put, reduceIte, Nat.reduceEqDiff]
    repeat' (first | exact er_nil | refine er_un ?_ | refine er_cons rfl ?_ ?_)
    all_goals (try simp only [V.map, A.map, renC, Vs.get, reduceIte, Nat.reduceEqDiff, List.map_cons, List.map_nil, e1, e2])
   ·repeat' (first | exact rr_nil | refine rr_cons 0 rfl rfl ?_ ?_)
    all_goals (try simp only [renRoot, renC, Vs.get, reduceIte, Nat.reduceEqDiff, List.map_cons, List.map_nil, e1, e2])
  ·replace h2 := q1 h2
   have hib : i = l.length := by omega
   subst hib
   refine sw_exit ?_
   refine q12 ?_
   refine sw_seq ?_
   refine sw_reg ?_
   unfold s86_7
   refine os_ev (evq_mvt rfl) ?_
   simp only [Vs.put, reduceIte, Nat.reduceEqDiff]
   refine os_ev (evq_mvt rfl) ?_
   simp only [runOs, thenQ, blockQ, Vs.put, reduceIte, Nat.reduceEqDiff]
   refine sw_ret ?_
   refine q3 ?_
   simp only [List.take_length, half_all]
   first | exact leaves_io rfl rfl rfl ⟨⟨rfl, rfl, by simp [mkL_len]⟩, trivial⟩ | exact leaves_io rfl rfl (take_lf rfl) ⟨⟨rfl, rfl, by simp [mkL_len]⟩, trivial⟩
theorem runs87 (l : List (List UInt8)) (n : Nat) (h : n + szL szB l + l.length < 2 ^ 62) : Runs Try.prog 87 [.val false [(.rd, .sl 1 (sD (mkL szB mkB n l)))], .val false [(.rd, .lf (.int .i64 n))]] ⟨[(false, [.lf (.int .i64 ((n + szL szB l : Nat) : Int))])], [], []⟩ := by
 obtain ⟨c, hb, hs⟩ := body_of tr87
 refine runs_of_sw Try.func87 hb hs rfl (show 2 ≤ 21 by decide) ?_
 clear hb hs c
 simp only [inAs, inCells, flat, List.flatMap_cons, List.flatMap_nil, Arg.cells, List.cons_append, List.nil_append, inCs, inC, fixN, fixCs, fixC, nBox, inV, inB, rootB, List.length_cons, List.length_nil, List.take_succ_cons, List.take_zero, List.drop_succ_cons, List.drop_zero, env0, Nat.zero_add, Nat.add_zero, List.append_nil, Nat.reduceAdd, sD_len, mkL_len]
 unfold s87
 refine sw_seq ?_
 refine sw_reg ?_
 unfold s87_0
 refine os_ev (evq_mvk) ?_
 simp only [runOs, thenQ, blockQ, Vs.put, reduceIte, Nat.reduceEqDiff]
 refine sw_seq ?_
 refine sw_seq ?_
 refine sw_reg ?_
 unfold s87_1
 refine os_ev (evq_mvk) ?_
 simp only [runOs, thenQ, blockQ, Vs.put, reduceIte, Nat.reduceEqDiff]
 refine sw_block ?_
 refine sw_loop_upd [0, 1, 5] (α := Nat) (fun i => [(1, .a (.c (.lf (.int .i64 (n + szL szB (l.take i) : Nat))))), (5, .a (.c (.lf (.int .i64 (i : Nat)))))]) (fun i => [(0, .im 1 (sD (mkL szB mkB n l)))]) (1) (fun i => i ≤ l.length) (fun i => l.length - i) (0) [(0, 0)] ?_ (by decide) ?_ ?_ ?_
 ·exact Nat.zero_le _
 ·simp only [sel, Vs.get, upd, Vs.put, reduceIte, Nat.reduceEqDiff]
  repeat' (first | exact er_nil | refine er_un ?_ | refine er_cons rfl ?_ ?_)
  all_goals (try simp only [V.map, A.map, renC, Vs.get, reduceIte, Nat.reduceEqDiff, List.map_cons, List.map_nil, List.take_zero, szL_nil, Nat.add_zero])
  all_goals (try rfl)
 ·repeat' (first | exact rr_nil | refine rr_cons 0 rfl rfl ?_ ?_)
  all_goals (try simp only [renRoot, renC, Vs.get, reduceIte, Nat.reduceEqDiff, List.map_cons, List.map_nil, List.take_zero, szL_nil, Nat.add_zero])
  all_goals (try rfl)
 ·rintro i hinv
  simp only [sel, Vs.get, upd, Vs.put, reduceIte, Nat.reduceEqDiff]
  refine sw_seq ?_
  refine sw_seq ?_
  refine sw_reg ?_
  unfold s87_2
  refine os_ev (evq_mvt rfl) ?_
  refine os_ev (evq_mvt rfl) ?_
  refine q10 ?_
  simp only [Vs.put, reduceIte, Nat.reduceEqDiff]
  refine os_ev (evq_bin rfl rfl rfl) ?_
  simp only [runOs, thenQ, blockQ, Vs.put, reduceIte, Nat.reduceEqDiff]
  refine sw_cond rfl (fun h2 => ?_) (fun h2 => ?_)
  ·replace h2 := q1 h2
   have hib : i < l.length := by omega
   have e1 : IntKind.i64.wrap ((i : Int) + 1) = ((i + 1 : Nat) : Int) := by rw [wrap64 (by omega) (by omega)]; rfl
   have hle := szL_le szB l (i + 1)
   have hst := szL_take szB hib
   have hsb : szB l[i] = l[i].length := rfl
   have hg : (mkL szB mkB n l)[i]? = some (mkB (n + szL szB (l.take i)) l[i]) := by rw [List.getElem?_eq_getElem (by rw [mkL_len]; exact hib), mkL_get szB mkB n hib]
   have hc : mkB (n + szL szB (l.take i)) l[i] = cnt (n + szL szB (l.take i)) (mkB (n + szL szB (l.take i)) l[i]).length := by rw [mkB_len]; rfl
   have e2 : n + szL szB (l.take i) + l[i].length = n + szL szB (l.take (i + 1)) := by rw [hst, hsb]; omega
   refine sw_skip ?_
   simp only [thenQ, blockQ]
   refine sw_seq ?_
   refine sw_block ?_
   refine sw_seq ?_
   refine sw_reg ?_
   unfold s87_4
   refine os_ev (evq_mvt rfl) ?_
   refine os_ev (evq_mvt rfl) ?_
   refine q14 ?_
   first | refine os_ev (evq_ldb rfl rfl rfl) ?_ | refine os_ev (evq_ldl rfl rfl (sD_get' hg) rfl) ?_ | refine os_ev (evq_lds rfl rfl (sD_get' hg) rfl) ?_ | refine os_ev (evq_ldl rfl rfl (rfl) rfl) ?_ | refine os_ev (evq_lds rfl rfl (rfl) rfl) ?_
   refine q0 ?_
   simp only [Vs.put, reduceIte, Nat.reduceEqDiff]
   refine os_ev (evq_mvt rfl) ?_
   refine os_callo ?_
   refine q6 ?_
   refine ⟨_, _, runs25 (mkB (n + szL szB (l.take i)) l[i]) (n + szL szB (l.take i)) (by rw [mkB_len]; omega), _, rfl, _, rfl, by simp [handIo, handBx], fa_cons (⟨rfl, .inl rfl, by simp [handIo, handBx], bD (mkB (n + szL szB (l.take i)) l[i]), by simp [nodeIn, nodeAt, Vs.get, sD_get' hg], by simp, by simp⟩) (fa_cons (rfl) (fa_nil)), _, rfl, _, rfl, ?_⟩
   refine q7 ?_
   rw [if_pos hc, mkB_len]
   refine q11 ?_
   refine os_ev (evq_mvt rfl) ?_
   simp only [runOs, thenQ, blockQ, Vs.put, reduceIte, Nat.reduceEqDiff]
   refine sw_seq ?_
   refine sw_reg ?_
   unfold s87_5
   refine os_ev (evq_mvt rfl) ?_
   refine os_ev (evq_bin rfl rfl rfl) ?_
   simp only [runOs, thenQ, blockQ, Vs.put, reduceIte, Nat.reduceEqDiff]
   refine sw_cond rfl (fun h3 => ?_) (fun h3 => ?_)
   ·exact absurd h3 (by simp at h3; omega)
   ·replace h3 := q1 h3
    refine sw_skip ?_
    simp only [thenQ, blockQ]
    refine sw_reg ?_
    unfold s87_3
    refine os_ev (evq_mvt rfl) ?_
    simp only [Vs.put, reduceIte, Nat.reduceEqDiff]
    refine os_ev (evq_bin rfl rfl rfl) ?_
    refine os_ev (evq_mvt rfl) ?_
    simp only [runOs, thenQ, blockQ, Vs.put, reduceIte, Nat.reduceEqDiff]
    try simp only [thenQ, blockQ]
    refine ⟨i + 1, ?_, ?_, rfl, [(0, 0)], by decide, ?_, ?_⟩
    ·omega
    ·first | omega | (dsimp only; omega)
    ·simp only [sel, Vs.get, upd, Vs.put, reduceIte, Nat.reduceEqDiff]
     repeat' (first | exact er_nil | refine er_un ?_ | refine er_cons rfl ?_ ?_)
     all_goals (try simp only [V.map, A.map, renC, Vs.get, reduceIte, Nat.reduceEqDiff, List.map_cons, List.map_nil, e1, e2])
    ·repeat' (first | exact rr_nil | refine rr_cons 0 rfl rfl ?_ ?_)
     all_goals (try simp only [renRoot, renC, Vs.get, reduceIte, Nat.reduceEqDiff, List.map_cons, List.map_nil, e1, e2])
  ·replace h2 := q1 h2
   have hib : i = l.length := by omega
   subst hib
   refine sw_exit ?_
   refine q12 ?_
   refine sw_seq ?_
   refine sw_reg ?_
   unfold s87_7
   refine os_ev (evq_mvt rfl) ?_
   refine os_ev (evq_mvt rfl) ?_
   simp only [runOs, thenQ, blockQ, Vs.put, reduceIte, Nat.reduceEqDiff]
   refine sw_ret ?_
   refine q3 ?_
   simp only [List.take_length]
   first | exact leaves_vals rfl rfl rfl rfl | exact leaves_a rfl rfl rfl rfl
theorem runs88 (l : List Wr) (n : Nat) (h : n + szL szW l + l.length < 2 ^ 62) : Runs Try.prog 88 [.val false [(.rd, .sl 2 (wD (mkL szW mkW n l)))], .val false [(.rd, .lf (.int .i64 n))]] ⟨[(false, [.lf (.int .i64 ((n + szL szW l : Nat) : Int))])], [], []⟩ := by
 obtain ⟨c, hb, hs⟩ := body_of tr88
 refine runs_of_sw Try.func88 hb hs rfl (show 2 ≤ 31 by decide) ?_
 clear hb hs c
 simp only [inAs, inCells, flat, List.flatMap_cons, List.flatMap_nil, Arg.cells, List.cons_append, List.nil_append, inCs, inC, fixN, fixCs, fixC, nBox, inV, inB, rootB, List.length_cons, List.length_nil, List.take_succ_cons, List.take_zero, List.drop_succ_cons, List.drop_zero, env0, Nat.zero_add, Nat.add_zero, List.append_nil, Nat.reduceAdd, wD_len, mkL_len]
 unfold s88
 refine sw_seq ?_
 refine sw_reg ?_
 unfold s88_0
 refine os_ev (evq_mvk) ?_
 simp only [runOs, thenQ, blockQ, Vs.put, reduceIte, Nat.reduceEqDiff]
 refine sw_seq ?_
 refine sw_seq ?_
 refine sw_reg ?_
 unfold s88_1
 refine os_ev (evq_mvk) ?_
 simp only [runOs, thenQ, blockQ, Vs.put, reduceIte, Nat.reduceEqDiff]
 refine sw_block ?_
 refine sw_loop_upd [0, 1, 5] (α := Nat) (fun i => [(1, .a (.c (.lf (.int .i64 (n + szL szW (l.take i) : Nat))))), (5, .a (.c (.lf (.int .i64 (i : Nat)))))]) (fun i => [(0, .im 2 (wD (mkL szW mkW n l)))]) (1) (fun i => i ≤ l.length) (fun i => l.length - i) (0) [(0, 0)] ?_ (by decide) ?_ ?_ ?_
 ·exact Nat.zero_le _
 ·simp only [sel, Vs.get, upd, Vs.put, reduceIte, Nat.reduceEqDiff]
  repeat' (first | exact er_nil | refine er_un ?_ | refine er_cons rfl ?_ ?_)
  all_goals (try simp only [V.map, A.map, renC, Vs.get, reduceIte, Nat.reduceEqDiff, List.map_cons, List.map_nil, List.take_zero, szL_nil, Nat.add_zero])
  all_goals (try rfl)
 ·repeat' (first | exact rr_nil | refine rr_cons 0 rfl rfl ?_ ?_)
  all_goals (try simp only [renRoot, renC, Vs.get, reduceIte, Nat.reduceEqDiff, List.map_cons, List.map_nil, List.take_zero, szL_nil, Nat.add_zero])
  all_goals (try rfl)
 ·rintro i hinv
  simp only [sel, Vs.get, upd, Vs.put, reduceIte, Nat.reduceEqDiff]
  refine sw_seq ?_
  refine sw_seq ?_
  refine sw_reg ?_
  unfold s88_2
  refine os_ev (evq_mvt rfl) ?_
  refine os_ev (evq_mvt rfl) ?_
  refine q10 ?_
  simp only [Vs.put, reduceIte, Nat.reduceEqDiff]
  refine os_ev (evq_bin rfl rfl rfl) ?_
  simp only [runOs, thenQ, blockQ, Vs.put, reduceIte, Nat.reduceEqDiff]
  refine sw_cond rfl (fun h2 => ?_) (fun h2 => ?_)
  ·replace h2 := q1 h2
   have hib : i < l.length := by omega
   have e1 : IntKind.i64.wrap ((i : Int) + 1) = ((i + 1 : Nat) : Int) := by rw [wrap64 (by omega) (by omega)]; rfl
   have hle := szL_le szW l (i + 1)
   have hst := szL_take szW hib
   have hsw : szW l[i] = 1 + l[i].2.length := rfl
   have hg : (mkL szW mkW n l)[i]? = some (mkW (n + szL szW (l.take i)) l[i]) := by rw [List.getElem?_eq_getElem (by rw [mkL_len]; exact hib), mkL_get szW mkW n hib]
   have hc : mkB (n + szL szW (l.take i) + 1) l[i].2 = cnt (n + szL szW (l.take i) + 1) (mkB (n + szL szW (l.take i) + 1) l[i].2).length := by rw [mkB_len]; rfl
   have e2 : n + szL szW (l.take i) + 1 + l[i].2.length = n + szL szW (l.take (i + 1)) := by rw [hst, hsw]; omega
   have e3 : IntKind.i64.wrap (((n + szL szW (l.take i) : Nat) : Int) + 1) = ((n + szL szW (l.take i) + 1 : Nat) : Int) := by rw [wrap64 (by omega) (by omega)]; rfl
   refine sw_skip ?_
   simp only [thenQ, blockQ]
   refine sw_seq ?_
   refine sw_block ?_
   refine sw_seq ?_
   refine sw_seq ?_
   refine sw_reg ?_
   unfold s88_4
   refine os_ev (evq_mvt rfl) ?_
   refine os_ev (evq_mvt rfl) ?_
   refine q14 ?_
   refine q5 ?_
   refine q0 ?_
   simp only [Vs.put, reduceIte, Nat.reduceEqDiff]
   first | refine os_ev (evq_ldb rfl rfl rfl) ?_ | refine os_ev (evq_ldl rfl rfl (wD_get' hg) rfl) ?_ | refine os_ev (evq_lds rfl rfl (wD_get' hg) rfl) ?_ | refine os_ev (evq_ldl rfl rfl (rfl) rfl) ?_ | refine os_ev (evq_lds rfl rfl (rfl) rfl) ?_
   refine q0 ?_
   refine os_ev (evq_mvt rfl) ?_
   refine os_ev (evq_bin rfl rfl rfl) ?_
   simp only [runOs, thenQ, blockQ, Vs.put, reduceIte, Nat.reduceEqDiff]
   refine sw_cond rfl (fun h3 => ?_) (fun h3 => ?_)
   ·exact absurd h3 (by simp [mkW] at h3)
   ·replace h3 := q1 h3
    refine sw_skip ?_
    simp only [thenQ, blockQ]
    refine sw_seq ?_
    refine sw_reg ?_
    unfold s88_6
    refine os_ev (evq_mvt rfl) ?_
    refine os_ev (evq_bin rfl rfl rfl) ?_
    simp only [e3]
    simp only [Vs.put, reduceIte, Nat.reduceEqDiff]
    refine os_ev (evq_mvt rfl) ?_
    simp only [runOs, thenQ, blockQ, Vs.put, reduceIte, Nat.reduceEqDiff]
    refine sw_seq ?_
    refine sw_reg ?_
    unfold s88_7
    refine os_ev (evq_mvt rfl) ?_
    refine os_ev (evq_mvt rfl) ?_
    refine q14 ?_
    refine q5 ?_
    refine q0 ?_
    simp only [Vs.put, reduceIte, Nat.reduceEqDiff]
    first | refine os_ev (evq_ldb rfl rfl rfl) ?_ | refine os_ev (evq_ldl rfl rfl (wD_get' hg) rfl) ?_ | refine os_ev (evq_lds rfl rfl (wD_get' hg) rfl) ?_ | refine os_ev (evq_ldl rfl rfl (rfl) rfl) ?_ | refine os_ev (evq_lds rfl rfl (rfl) rfl) ?_
    refine q0 ?_
    refine os_ev (evq_mvt rfl) ?_
    refine os_callo ?_
    refine q6 ?_
    refine ⟨_, _, runs25 (mkB (n + szL szW (l.take i) + 1) l[i].2) (n + szL szW (l.take i) + 1) (by rw [mkB_len]; omega), _, rfl, _, rfl, by simp [handIo, handBx], fa_cons (⟨rfl, .inl rfl, by simp [handIo, handBx], bD (mkB (n + szL szW (l.take i) + 1) l[i].2), by simp [nodeIn, nodeAt, Vs.get, wD_get' hg, mkW], by simp [mkW], by simp [mkW]⟩) (fa_cons (rfl) (fa_nil)), _, rfl, _, rfl, ?_⟩
    refine q7 ?_
    rw [if_pos hc, mkB_len]
    refine q11 ?_
    refine os_ev (evq_mvt rfl) ?_
    simp only [runOs, thenQ, blockQ, Vs.put, reduceIte, Nat.reduceEqDiff]
    refine sw_seq ?_
    refine sw_reg ?_
    unfold s88_8
    refine os_ev (evq_mvt rfl) ?_
    refine os_ev (evq_bin rfl rfl rfl) ?_
    simp only [Vs.put, reduceIte, Nat.reduceEqDiff]
    simp only [runOs, thenQ, blockQ, Vs.put, reduceIte, Nat.reduceEqDiff]
    refine sw_cond rfl (fun h5 => ?_) (fun h5 => ?_)
    ·exact absurd h5 (by simp at h5; omega)
    ·replace h5 := q1 h5
     refine sw_skip ?_
     simp only [thenQ, blockQ]
     refine sw_reg ?_
     unfold s88_3
     refine os_ev (evq_mvt rfl) ?_
     refine os_ev (evq_bin rfl rfl rfl) ?_
     refine os_ev (evq_mvt rfl) ?_
     simp only [runOs, thenQ, blockQ, Vs.put, reduceIte, Nat.reduceEqDiff]
     try simp only [thenQ, blockQ]
     refine ⟨i + 1, ?_, ?_, rfl, [(0, 0)], by decide, ?_, ?_⟩
     ·omega
     ·first | omega | (dsimp only; omega)
     ·simp only [sel, Vs.get, upd, Vs.put, reduceIte, Nat.reduceEqDiff]
      repeat' (first | exact er_nil | refine er_un ?_ | refine er_cons rfl ?_ ?_)
      all_goals (try simp only [V.map, A.map, renC, Vs.get, reduceIte, Nat.reduceEqDiff, List.map_cons, List.map_nil, e1, e2])
     ·repeat' (first | exact rr_nil | refine rr_cons 0 rfl rfl ?_ ?_)
      all_goals (try simp only [renRoot, renC, Vs.get, reduceIte, Nat.reduceEqDiff, List.map_cons, List.map_nil, e1, e2])
  ·replace h2 := q1 h2
   have hib : i = l.length := by omega
   subst hib
   refine sw_exit ?_
   refine q12 ?_
   refine sw_seq ?_
   refine sw_reg ?_
   unfold s88_10
   refine os_ev (evq_mvt rfl) ?_
   refine os_ev (evq_mvt rfl) ?_
   simp only [Vs.put, reduceIte, Nat.reduceEqDiff]
   simp only [runOs, thenQ, blockQ, Vs.put, reduceIte, Nat.reduceEqDiff]
   refine sw_ret ?_
   refine q3 ?_
   simp only [List.take_length]
   first | exact leaves_vals rfl rfl rfl rfl | exact leaves_a rfl rfl rfl rfl
end Go.Proofs.Ytgbapgjdkoojdaa
