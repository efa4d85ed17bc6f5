import Derived.Test.YtgbapgjdkoojdaaVsQ
import Derived.Test.YtgbapgjdkoojdaaVsSf
import Derived.Test.YtgbapgjdkoojdaaVsE7
import Derived.Test.YtgbapgjdkoojdaaVsE10
set_option linter.unusedVariables false
set_option linter.unusedSimpArgs false
namespace Go.Proofs.Ytgbapgjdkoojdaa
open Go.Vs
set_option linter.unusedSimpArgs false
set_option linter.unusedVariables false
set_option maxHeartbeats 1000000
theorem runs81 (b : List UInt8) (a : Int) (bad : Bool) (h : b.length < 2 ^ 62) : Runs Try.prog 81 [.ptr [(.rx, .sl 1 (bD b)), (.rd, .lf (.int .i64 a)), (.rd, .lf (.bool bad))]] ⟨[(false, [.lf (.int .i64 (swN b a bad))])], [], [[.lf (.int .i64 (swA b a bad)), .lf (.bool (!swOk b a bad))]]⟩ := by
 obtain ⟨c, hb, hs⟩ := body_of tr81
 refine runs_of_sw Try.func81 hb hs rfl (show 1 ≤ 35 by decide) ?_
 clear hb hs c
 refine q15 ?_
 unfold s81
 refine sw_seq ?_
 refine sw_reg ?_
 unfold s81_0
 refine os_ev (evq_mvk) ?_
 simp only [runOs, thenQ, blockQ, Vs.put, reduceIte, Nat.reduceEqDiff]
 refine sw_seq ?_
 refine sw_go rfl rfl ?_
 unfold s81_1
 refine rd_ev (evq_mvt rfl) rfl ?_
 first | refine rd_ev (evq_nilc rfl) rfl ?_ | refine rd_ev (evq_nile rfl) rfl ?_
 first | refine rd_ev (evq_fadb rfl) rfl ?_ | refine rd_ev (evq_fade rfl) rfl ?_
 refine q0 ?_
 simp only [Vs.put, reduceIte, Nat.reduceEqDiff]
 first | refine rd_m0 (evq_ldb rfl rfl rfl) fa_nil (Nat.not_lt.2 (Nat.le_of_ble_eq_true rfl)) ?_ | refine rd_m0 (evq_ldl rfl rfl (rfl) rfl) fa_nil (Nat.not_lt.2 (Nat.le_of_ble_eq_true rfl)) ?_ | refine rd_m0 (evq_lds rfl rfl (rfl) rfl) fa_nil (Nat.not_lt.2 (Nat.le_of_ble_eq_true rfl)) ?_
 refine q0 ?_
 refine rd_ev (evq_mvt rfl) rfl ?_
 first | refine rd_ev (evq_nilc rfl) rfl ?_ | refine rd_ev (evq_nile rfl) rfl ?_
 first | refine rd_ev (evq_fadb rfl) rfl ?_ | refine rd_ev (evq_fade rfl) rfl ?_
 refine q0 ?_
 first | refine rd_m0 (evq_ldb rfl rfl rfl) fa_nil (Nat.not_lt.2 (Nat.le_of_ble_eq_true rfl)) ?_ | refine rd_m0 (evq_ldl rfl rfl (rfl) rfl) fa_nil (Nat.not_lt.2 (Nat.le_of_ble_eq_true rfl)) ?_ | refine rd_m0 (evq_lds rfl rfl (rfl) rfl) fa_nil (Nat.not_lt.2 (Nat.le_of_ble_eq_true rfl)) ?_
 refine q0 ?_
 refine rd_call ?_
 refine q6 ?_
 refine ⟨_, _, runs125 b a h, _, rfl, _, rfl, by simp [handIo, handBx], fa_cons (⟨rfl, .inl rfl, by simp [handIo, handBx], _, rfl, by simp, by first | rfl | (simp; done) | exact (List.take_of_length_le (by simp)).symm⟩) (fa_cons (rfl) (fa_nil)), _, rfl, _, rfl, ?_⟩
 refine q7 ?_
 refine ⟨by first | rfl | trivial, fa_nil, ?_⟩
 refine q11 ?_
 refine rd_ev (evq_mvt rfl) rfl ?_
 simp only [Vs.put, reduceIte, Nat.reduceEqDiff]
 refine rd_ev (evq_ext rfl rfl) rfl ?_
 refine rd_ev (evq_ext rfl rfl) rfl ?_
 refine rd_ev (evq_ext rfl rfl) rfl ?_
 refine rd_ev (evq_mvt rfl) rfl ?_
 simp only [Vs.put, reduceIte, Nat.reduceEqDiff]
 refine rd_ev (evq_mvt rfl) rfl ?_
 refine rd_ev (evq_mvt rfl) rfl ?_
 refine rd_nil ?_
 simp only [thenQ, blockQ, Vs.put, reduceIte, Nat.reduceEqDiff]
 refine sw_seq ?_
 refine sw_seq ?_
 refine sw_reg ?_
 unfold s81_2
 refine os_ev (evq_mvt rfl) ?_
 simp only [Vs.put, reduceIte, Nat.reduceEqDiff]
 refine q18 ?_
 refine q5 ?_
 refine q0 ?_
 refine q8 ?_
 refine q0 ?_
 refine os_ev (evq_mvt rfl) ?_
 refine os_gs rfl (fun g23 => ?_) (fun g23 => ?_)
 ·try simp only [g23]
  replace g23 := q1 g23
  refine os_gno rfl (by decide) ?_
  simp only [Vs.put, reduceIte, Nat.reduceEqDiff]
  refine os_gno rfl (by decide) ?_
  refine os_ev (evq_pickt rfl rfl) ?_
  simp only [runOs, thenQ, blockQ, Vs.put, reduceIte, Nat.reduceEqDiff]
  refine sw_cond rfl (fun h1 => ?_) (fun h1 => ?_)
  ·replace h1 := q1 h1
   refine sw_seq ?_
   refine sw_reg ?_
   unfold s81_3
   refine os_ev (evq_mvt rfl) ?_
   refine q18 ?_
   refine q5 ?_
   refine q0 ?_
   simp only [Vs.put, reduceIte, Nat.reduceEqDiff]
   refine os_wro (by intros; nofun) ?_
   refine st_box rfl rfl rfl rfl (Nat.le_of_ble_eq_true rfl) ?_
   refine q0 ?_
   refine q11 ?_
   simp only [runOs, thenQ, blockQ, Vs.put, reduceIte, Nat.reduceEqDiff]
   refine sw_seq ?_
   refine sw_reg ?_
   unfold s81_4
   refine os_ev (evq_mvk) ?_
   simp only [runOs, thenQ, blockQ, Vs.put, reduceIte, Nat.reduceEqDiff]
   refine sw_ret ?_
   refine q3 ?_
   rw [(sw_bad b a).2.1, (sw_bad b a).2.2, (sw_bad b a).1]
   refine leaves_bx rfl rfl rfl ?_ rfl (take_lf (take_lf (take_lf rfl))) rfl rfl
   exact rs_same (by simp [inCells, flat, Arg.cells, inCs, inC]) (rs_ow rfl (rs_ow rfl rs_nil))
  ·exact absurd h1 (by simp at h1)
 ·try simp only [g23]
  replace g23 := q1 g23
  refine os_gdo rfl ?_
  refine os_ev (evq_mvt rfl) ?_
  refine os_gdo rfl ?_
  refine os_ev (evq_un rfl rfl) ?_
  refine os_ev (evq_pickf rfl rfl) ?_
  simp only [runOs, thenQ, blockQ, Vs.put, reduceIte, Nat.reduceEqDiff]
  refine sw_cond rfl (fun h1 => ?_) (fun h1 => ?_)
  ·replace h1 := q1 h1
   refine sw_seq ?_
   refine sw_reg ?_
   unfold s81_3
   refine os_ev (evq_mvt rfl) ?_
   simp only [Vs.put, reduceIte, Nat.reduceEqDiff]
   refine q18 ?_
   refine q5 ?_
   refine q0 ?_
   refine os_wro (by intros; nofun) ?_
   refine st_box rfl rfl rfl rfl (Nat.le_of_ble_eq_true rfl) ?_
   refine q0 ?_
   refine q11 ?_
   simp only [runOs, thenQ, blockQ, Vs.put, reduceIte, Nat.reduceEqDiff]
   refine sw_seq ?_
   refine sw_reg ?_
   unfold s81_4
   refine os_ev (evq_mvk) ?_
   simp only [runOs, thenQ, blockQ, Vs.put, reduceIte, Nat.reduceEqDiff]
   refine sw_ret ?_
   refine q3 ?_
   rw [(sw_no h1).2.1, (sw_no h1).2.2, (sw_no h1).1]
   refine leaves_bx rfl rfl rfl ?_ rfl (take_lf (take_lf (take_lf rfl))) rfl rfl
   exact rs_same (by simp [inCells, flat, Arg.cells, inCs, inC]) (rs_ow rfl (rs_ow rfl rs_nil))
  ·replace h1 := q1 h1
   refine sw_skip ?_
   simp only [thenQ, blockQ]
   refine sw_seq ?_
   refine sw_reg ?_
   unfold s81_5
   refine os_ev (evq_mvt rfl) ?_
   refine os_ev (evq_mvt rfl) ?_
   simp only [Vs.put, reduceIte, Nat.reduceEqDiff]
   refine q18 ?_
   refine q5 ?_
   refine q0 ?_
   refine os_wro (by intros; nofun) ?_
   refine st_box rfl rfl rfl rfl (Nat.le_of_ble_eq_true rfl) ?_
   refine q0 ?_
   refine q11 ?_
   simp only [runOs, thenQ, blockQ, Vs.put, reduceIte, Nat.reduceEqDiff]
   refine sw_seq ?_
   refine sw_reg ?_
   unfold s81_6
   refine os_ev (evq_mvt rfl) ?_
   refine os_ev (evq_mvt rfl) ?_
   simp only [runOs, thenQ, blockQ, Vs.put, reduceIte, Nat.reduceEqDiff]
   refine sw_ret ?_
   refine q3 ?_
   rw [(sw_yes h1).2.1, (sw_yes h1).2.2, (sw_yes h1).1]
   refine leaves_bx rfl rfl rfl ?_ rfl (take_lf (take_lf (take_lf rfl))) rfl rfl
   exact rs_same (by simp [inCells, flat, Arg.cells, inCs, inC]) (rs_ow rfl (rs_ow rfl rs_nil))
theorem runs82 (b : List UInt8) (a : Int) (bad : Bool) (h : b.length < 2 ^ 62) : Runs Try.prog 82 [.ptr [(.rx, .sl 1 (bD b)), (.rd, .lf (.int .i64 a)), (.rd, .lf (.bool bad))]] ⟨[(false, [.lf (.bool (suR b a bad))])], [], [[.lf (.int .i64 (swA b a bad)), .lf (.bool (!swOk b a bad))]]⟩ := by
 obtain ⟨c, hb, hs⟩ := body_of tr82
 refine runs_of_sw Try.func82 hb hs rfl (show 1 ≤ 39 by decide) ?_
 clear hb hs c
 refine q15 ?_
 unfold s82
 refine sw_seq ?_
 refine sw_reg ?_
 unfold s82_0
 refine os_ev (evq_mvk) ?_
 simp only [runOs, thenQ, blockQ, Vs.put, reduceIte, Nat.reduceEqDiff]
 refine sw_seq ?_
 refine sw_reg ?_
 unfold s82_1
 refine os_ev (evq_mvt rfl) ?_
 refine q18 ?_
 refine q5 ?_
 refine q0 ?_
 refine q8 ?_
 refine q0 ?_
 simp only [Vs.put, reduceIte, Nat.reduceEqDiff]
 refine os_ev (evq_mvt rfl) ?_
 simp only [runOs, thenQ, blockQ, Vs.put, reduceIte, Nat.reduceEqDiff]
 refine sw_seq ?_
 refine sw_reg ?_
 unfold s82_2
 refine os_ev (evq_mvt rfl) ?_
 refine os_callo ?_
 refine q6 ?_
 refine ⟨_, _, runs81 b a bad h, _, rfl, _, rfl, by simp [handIo, handBx], fa_cons (⟨rfl, .inl rfl, by simp [handIo, handBx], _, rfl, by simp, by first | rfl | (simp; done) | exact (List.take_of_length_le (by simp)).symm⟩) (fa_cons (rfl) (fa_cons (rfl) (fa_nil))), _, rfl, _, rfl, ?_⟩
 refine q7 ?_
 refine q11 ?_
 refine os_ev (evq_mvt rfl) ?_
 simp only [runOs, thenQ, blockQ, Vs.put, reduceIte, Nat.reduceEqDiff]
 refine sw_seq ?_
 refine sw_go rfl rfl ?_
 unfold s82_3
 refine rd_ev (evq_mvt rfl) rfl ?_
 first | refine rd_ev (evq_nilc rfl) rfl ?_ | refine rd_ev (evq_nile rfl) rfl ?_
 first | refine rd_ev (evq_fadb rfl) rfl ?_ | refine rd_ev (evq_fade rfl) rfl ?_
 refine q0 ?_
 first | refine rd_m0 (evq_ldb rfl rfl rfl) fa_nil (Nat.not_lt.2 (Nat.le_of_ble_eq_true rfl)) ?_ | refine rd_m0 (evq_ldl rfl rfl (rfl) rfl) fa_nil (Nat.not_lt.2 (Nat.le_of_ble_eq_true rfl)) ?_ | refine rd_m0 (evq_lds rfl rfl (rfl) rfl) fa_nil (Nat.not_lt.2 (Nat.le_of_ble_eq_true rfl)) ?_
 refine q0 ?_
 refine rd_ev (evq_un rfl rfl) rfl ?_
 simp only [Vs.put, reduceIte, Nat.reduceEqDiff]
 refine rd_ev (evq_mvt rfl) rfl ?_
 refine rd_gs rfl (fun g16 => ?_) (fun g16 => ?_)
 ·try simp only [g16]
  replace g16 := q1 g16
  obtain ⟨hb, hgw⟩ := sw_of g16
  obtain ⟨ha0, ha1⟩ := gw_of hgw
  subst hb
  obtain ⟨a, rfl⟩ : ∃ a0 : Nat, a = a0 := ⟨a.toNat, by omega⟩
  have hal : a ≤ b.length := by omega
  refine rd_gdo rfl ?_
  refine rd_ev (evq_mvt rfl) rfl ?_
  refine rd_gdo rfl ?_
  refine rd_ev (evq_mvt rfl) rfl ?_
  refine rd_gdo rfl ?_
  first | refine rd_ev (evq_nilc rfl) rfl ?_ | refine rd_ev (evq_nile rfl) rfl ?_
  simp only [Vs.put, reduceIte, Nat.reduceEqDiff]
  refine rd_gdo rfl ?_
  first | refine rd_ev (evq_fadb rfl) rfl ?_ | refine rd_ev (evq_fade rfl) rfl ?_
  refine q0 ?_
  refine rd_gdo rfl ?_
  first | refine rd_m0 (evq_ldb rfl rfl rfl) fa_nil (Nat.not_lt.2 (Nat.le_of_ble_eq_true rfl)) ?_ | refine rd_m0 (evq_ldl rfl rfl (rfl) rfl) fa_nil (Nat.not_lt.2 (Nat.le_of_ble_eq_true rfl)) ?_ | refine rd_m0 (evq_lds rfl rfl (rfl) rfl) fa_nil (Nat.not_lt.2 (Nat.le_of_ble_eq_true rfl)) ?_
  refine q0 ?_
  refine rd_gdo rfl ?_
  refine rd_ev (evq_mvt rfl) rfl ?_
  refine rd_gdo rfl ?_
  refine rd_ev (evq_slh rfl rfl rfl (by omega)) rfl ?_
  refine rd_gdo rfl ?_
  refine rd_call ?_
  refine q6 ?_
  refine ⟨_, _, runs79 (b.take a) (by simp; omega), _, rfl, _, rfl, by simp [handIo, handBx], fa_cons (⟨rfl, .inl rfl, by simp [handIo, handBx], _, rfl, by simp [hal], by first | rfl | (simp; done) | exact (List.take_of_length_le (by simp [hal])).symm⟩) (fa_nil), _, rfl, _, rfl, ?_⟩
  refine q7 ?_
  refine ⟨by first | rfl | trivial, fa_nil, ?_⟩
  refine q11 ?_
  refine rd_gdo rfl ?_
  refine rd_ev (evq_bin rfl rfl rfl) rfl ?_
  simp only [Vs.put, reduceIte, Nat.reduceEqDiff]
  refine rd_ev (evq_pickt rfl rfl) rfl ?_
  refine rd_ev (evq_mvt rfl) rfl ?_
  refine rd_gs rfl (fun g27 => ?_) (fun g27 => ?_)
  ·try simp only [g27]
   replace g27 := q1 g27
   refine rd_gdo rfl ?_
   refine rd_ev (evq_mvt rfl) rfl ?_
   refine rd_gdo rfl ?_
   first | refine rd_ev (evq_nilc rfl) rfl ?_ | refine rd_ev (evq_nile rfl) rfl ?_
   simp only [Vs.put, reduceIte, Nat.reduceEqDiff]
   refine rd_gdo rfl ?_
   first | refine rd_ev (evq_fadb rfl) rfl ?_ | refine rd_ev (evq_fade rfl) rfl ?_
   refine q0 ?_
   refine rd_gdo rfl ?_
   first | refine rd_m0 (evq_ldb rfl rfl rfl) fa_nil (Nat.not_lt.2 (Nat.le_of_ble_eq_true rfl)) ?_ | refine rd_m0 (evq_ldl rfl rfl (rfl) rfl) fa_nil (Nat.not_lt.2 (Nat.le_of_ble_eq_true rfl)) ?_ | refine rd_m0 (evq_lds rfl rfl (rfl) rfl) fa_nil (Nat.not_lt.2 (Nat.le_of_ble_eq_true rfl)) ?_
   refine q0 ?_
   refine rd_gdo rfl ?_
   refine rd_ev (evq_mvt rfl) rfl ?_
   refine rd_gdo rfl ?_
   first | refine rd_ev (evq_nilc rfl) rfl ?_ | refine rd_ev (evq_nile rfl) rfl ?_
   refine rd_gdo rfl ?_
   first | refine rd_ev (evq_fadb rfl) rfl ?_ | refine rd_ev (evq_fade rfl) rfl ?_
   refine q0 ?_
   simp only [Vs.put, reduceIte, Nat.reduceEqDiff]
   refine rd_gdo rfl ?_
   first | refine rd_m0 (evq_ldb rfl rfl rfl) fa_nil (Nat.not_lt.2 (Nat.le_of_ble_eq_true rfl)) ?_ | refine rd_m0 (evq_ldl rfl rfl (rfl) rfl) fa_nil (Nat.not_lt.2 (Nat.le_of_ble_eq_true rfl)) ?_ | refine rd_m0 (evq_lds rfl rfl (rfl) rfl) fa_nil (Nat.not_lt.2 (Nat.le_of_ble_eq_true rfl)) ?_
   refine q0 ?_
   refine rd_gdo rfl ?_
   first | refine rd_ev (evq_lenr rfl) rfl ?_ | refine rd_ev (evq_lenn rfl) rfl ?_
   refine rd_gdo rfl ?_
   refine rd_ev (evq_bin rfl rfl rfl) rfl ?_
   refine rd_ev (evq_pickt rfl rfl) rfl ?_
   refine rd_ev (evq_mvt rfl) rfl ?_
   simp only [Vs.put, reduceIte, Nat.reduceEqDiff]
   refine rd_nil ?_
   simp only [thenQ, blockQ, Vs.put, reduceIte, Nat.reduceEqDiff]
   refine sw_ret ?_
   refine q3 ?_
   rw [show suR b (a : Int) false = (swA b (a : Int) false == (b.length : Int)) from suR_a g16 g27]
   refine leaves_bx rfl rfl rfl ?_ rfl (take_lf (take_lf (take_lf rfl))) rfl rfl
   exact rs_same (by simp [inCells, flat, Arg.cells, inCs, inC]) (rs_ow rfl (rs_ow rfl rs_nil))
  ·try simp only [g27]
   replace g27 := q1 g27
   refine rd_gno rfl (by decide) ?_
   refine rd_gno rfl (by decide) ?_
   refine rd_gno rfl (by decide) ?_
   refine rd_gno rfl (by decide) ?_
   simp only [Vs.put, reduceIte, Nat.reduceEqDiff]
   refine rd_gno rfl (by decide) ?_
   refine rd_gno rfl (by decide) ?_
   refine rd_gno rfl (by decide) ?_
   refine rd_gno rfl (by decide) ?_
   simp only [Vs.put, reduceIte, Nat.reduceEqDiff]
   refine rd_gno rfl (by decide) ?_
   refine rd_gno rfl (by decide) ?_
   refine rd_ev (evq_pickf rfl rfl) rfl ?_
   refine rd_ev (evq_mvt rfl) rfl ?_
   simp only [Vs.put, reduceIte, Nat.reduceEqDiff]
   refine rd_nil ?_
   simp only [thenQ, blockQ, Vs.put, reduceIte, Nat.reduceEqDiff]
   refine sw_ret ?_
   refine q3 ?_
   rw [show suR b (a : Int) false = false from suR_b g16 g27]
   refine leaves_bx rfl rfl rfl ?_ rfl (take_lf (take_lf (take_lf rfl))) rfl rfl
   exact rs_same (by simp [inCells, flat, Arg.cells, inCs, inC]) (rs_ow rfl (rs_ow rfl rs_nil))
 ·try simp only [g16]
  replace g16 := q1 g16
  refine rd_gno rfl (by decide) ?_
  refine rd_gno rfl (by decide) ?_
  refine rd_gno rfl (by decide) ?_
  refine rd_gno rfl (by decide) ?_
  simp only [Vs.put, reduceIte, Nat.reduceEqDiff]
  refine rd_gno rfl (by decide) ?_
  refine rd_gno rfl (by decide) ?_
  refine rd_gno rfl (by decide) ?_
  refine rd_gnw rfl (by decide) fa_nil ?_
  refine rd_gno rfl (by decide) ?_
  simp only [Vs.put, reduceIte, Nat.reduceEqDiff]
  refine rd_ev (evq_pickf rfl rfl) rfl ?_
  refine rd_ev (evq_mvt rfl) rfl ?_
  refine rd_gno rfl (by decide) ?_
  refine rd_gno rfl (by decide) ?_
  simp only [Vs.put, reduceIte, Nat.reduceEqDiff]
  refine rd_gno rfl (by decide) ?_
  refine rd_gno rfl (by decide) ?_
  refine rd_gno rfl (by decide) ?_
  refine rd_gno rfl (by decide) ?_
  simp only [Vs.put, reduceIte, Nat.reduceEqDiff]
  refine rd_gno rfl (by decide) ?_
  refine rd_gno rfl (by decide) ?_
  refine rd_gno rfl (by decide) ?_
  refine rd_gno rfl (by decide) ?_
  simp only [Vs.put, reduceIte, Nat.reduceEqDiff]
  refine rd_ev (evq_pickf rfl rfl) rfl ?_
  refine rd_ev (evq_mvt rfl) rfl ?_
  refine rd_nil ?_
  simp only [thenQ, blockQ, Vs.put, reduceIte, Nat.reduceEqDiff]
  refine sw_ret ?_
  refine q3 ?_
  rw [show suR b a bad = false from by rw [suR, g16]; rfl]
  refine leaves_bx rfl rfl rfl ?_ rfl (take_lf (take_lf (take_lf rfl))) rfl rfl
  exact rs_same (by simp [inCells, flat, Arg.cells, inCs, inC]) (rs_ow rfl (rs_ow rfl rs_nil))
end Go.Proofs.Ytgbapgjdkoojdaa
