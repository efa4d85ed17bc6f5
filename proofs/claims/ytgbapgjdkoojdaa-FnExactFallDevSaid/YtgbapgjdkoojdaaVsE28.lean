import Derived.Test.YtgbapgjdkoojdaaVsQ
import Derived.Test.YtgbapgjdkoojdaaVsSk
import Derived.Test.YtgbapgjdkoojdaaVsE4
import Derived.Test.YtgbapgjdkoojdaaVsE20
import Derived.Test.YtgbapgjdkoojdaaVsE27
import Derived.Test.YtgbapgjdkoojdaaVsW2
set_option linter.unusedVariables false
set_option linter.unusedSimpArgs false
namespace Go.Proofs.Ytgbapgjdkoojdaa
open Go.Vs
set_option linter.unusedSimpArgs false
set_option linter.unusedVariables false
set_option maxHeartbeats 1000000
theorem runs137 (secs : List (List UInt8)) (cache : List Wr) (fuse : Int) (down : Bool) (hf : -1 ≤ fuse ∧ fuse ≤ 1000) : Runs Try.prog 137 [.ptr [(.rx, .sl 1 (sD secs)), (.rx, .sl 2 (wD cache)), (.rd, .lf (.int .i64 fuse)), (.rd, .lf (.bool down))]] ⟨[(false, [.lf (.bool (opR fuse))])], [], [[.lf (.int .i64 (opF fuse)), .lf (.bool (opD fuse down))]]⟩ := by
 obtain ⟨c, hb, hs⟩ := body_of tr137
 refine runs_of_sw Try.func137 hb hs rfl (show 1 ≤ 27 by decide) ?_
 clear hb hs c
 refine q17 ?_
 unfold s137
 have e1 : IntKind.i64.wrap (fuse - 1) = fuse - 1 := wrap64 (by omega) (by omega)
 refine sw_seq ?_
 refine sw_reg ?_
 unfold s137_0
 refine os_ev (evq_mvk) ?_
 simp only [runOs, thenQ, blockQ, Vs.put, reduceIte, Nat.reduceEqDiff]
 refine sw_seq ?_
 refine sw_seq ?_
 refine sw_reg ?_
 unfold s137_1
 refine os_ev (evq_mvt rfl) ?_
 refine q18 ?_
 refine q5 ?_
 refine q0 ?_
 refine q8 ?_
 refine q0 ?_
 simp only [Vs.put, reduceIte, Nat.reduceEqDiff]
 refine os_ev (evq_bin rfl rfl rfl) ?_
 simp only [runOs, thenQ, blockQ, Vs.put, reduceIte, Nat.reduceEqDiff]
 refine sw_cond rfl (fun h1 => ?_) (fun h1 => ?_)
 ·replace h1 := q1 h1
  refine sw_seq ?_
  refine sw_reg ?_
  unfold s137_2
  refine os_ev (evq_mvt rfl) ?_
  refine q18 ?_
  refine q5 ?_
  refine q0 ?_
  refine os_wro (by intros; nofun) ?_
  refine st_box rfl rfl rfl rfl (Nat.le_of_ble_eq_true rfl) ?_
  refine q0 ?_
  refine q2 ?_
  simp only [runOs, thenQ, blockQ, Vs.put, reduceIte, Nat.reduceEqDiff]
  refine sw_seq ?_
  refine sw_reg ?_
  unfold s137_3
  refine os_ev (evq_mvt rfl) ?_
  simp only [Vs.put, reduceIte, Nat.reduceEqDiff]
  refine q18 ?_
  refine q5 ?_
  refine q0 ?_
  refine os_wro (by intros; nofun) ?_
  refine st_box rfl rfl rfl rfl (Nat.le_of_ble_eq_true rfl) ?_
  refine q0 ?_
  refine q2 ?_
  simp only [runOs, thenQ, blockQ, Vs.put, reduceIte, Nat.reduceEqDiff]
  refine sw_seq ?_
  refine sw_reg ?_
  unfold s137_4
  refine os_ev (evq_mvk) ?_
  simp only [runOs, thenQ, blockQ, Vs.put, reduceIte, Nat.reduceEqDiff]
  refine sw_ret ?_
  refine q3 ?_
  rw [(op_zero (down := down) h1).1, (op_zero (down := down) h1).2.1, (op_zero (down := down) h1).2.2]
  refine leaves_bx rfl rfl rfl ?_ rfl (take_lf (take_lf (take_lf rfl))) rfl rfl
  exact rs_same (by simp [inCells, flat, Arg.cells, inCs, inC]) (rs_same (by simp [inCells, flat, Arg.cells, inCs, inC]) (rs_ow rfl (rs_ow rfl rs_nil)))
 ·replace h1 := q1 h1
  refine sw_skip ?_
  simp only [thenQ, blockQ]
  refine sw_seq ?_
  refine sw_seq ?_
  refine sw_reg ?_
  unfold s137_5
  refine os_ev (evq_mvt rfl) ?_
  refine q18 ?_
  simp only [Vs.put, reduceIte, Nat.reduceEqDiff]
  refine q5 ?_
  refine q0 ?_
  refine q8 ?_
  refine q0 ?_
  refine os_ev (evq_bin rfl rfl rfl) ?_
  simp only [runOs, thenQ, blockQ, Vs.put, reduceIte, Nat.reduceEqDiff]
  refine sw_cond rfl (fun h3 => ?_) (fun h3 => ?_)
  ·replace h3 := q1 h3
   refine sw_reg ?_
   unfold s137_6
   refine os_ev (evq_mvt rfl) ?_
   refine os_ev (evq_mvt rfl) ?_
   simp only [Vs.put, reduceIte, Nat.reduceEqDiff]
   refine q18 ?_
   refine q5 ?_
   refine q0 ?_
   refine q8 ?_
   refine q0 ?_
   refine os_ev (evq_bin rfl rfl rfl) ?_
   simp only [e1]
   refine q18 ?_
   simp only [Vs.put, reduceIte, Nat.reduceEqDiff]
   refine q5 ?_
   refine q0 ?_
   refine os_wro (by intros; nofun) ?_
   refine st_box rfl rfl rfl rfl (Nat.le_of_ble_eq_true rfl) ?_
   refine q0 ?_
   refine q2 ?_
   simp only [runOs, thenQ, blockQ, Vs.put, reduceIte, Nat.reduceEqDiff]
   refine sw_seq ?_
   refine sw_reg ?_
   unfold s137_7
   refine os_ev (evq_mvk) ?_
   simp only [runOs, thenQ, blockQ, Vs.put, reduceIte, Nat.reduceEqDiff]
   refine sw_ret ?_
   refine q3 ?_
   rw [(op_pos (down := down) h1).1, (op_pos (down := down) h1).2, show opF fuse = fuse - 1 from by rw [opF, if_neg h1, if_pos h3]]
   refine leaves_bx rfl rfl rfl ?_ rfl (take_lf (take_lf (take_lf rfl))) rfl rfl
   exact rs_same (by simp [inCells, flat, Arg.cells, inCs, inC]) (rs_same (by simp [inCells, flat, Arg.cells, inCs, inC]) (rs_ow rfl (rs_ow rfl rs_nil)))
  ·replace h3 := q1 h3
   refine sw_skip ?_
   simp only [thenQ, blockQ]
   refine sw_seq ?_
   refine sw_reg ?_
   unfold s137_7
   refine os_ev (evq_mvk) ?_
   simp only [runOs, thenQ, blockQ, Vs.put, reduceIte, Nat.reduceEqDiff]
   refine sw_ret ?_
   refine q3 ?_
   rw [(op_pos (down := down) h1).1, (op_pos (down := down) h1).2, show opF fuse = fuse from by rw [opF, if_neg h1, if_neg (by omega)]]
   refine leaves_bx rfl rfl rfl ?_ rfl (take_lf (take_lf (take_lf rfl))) rfl rfl
   exact rs_same (by simp [inCells, flat, Arg.cells, inCs, inC]) (rs_same (by simp [inCells, flat, Arg.cells, inCs, inC]) (rs_ow rfl (rs_ow rfl rs_nil)))
theorem runs115 (secs : List (List UInt8)) (cache : List Wr) (fuse : Int) (down : Bool) (n : Int) (b : List UInt8) (hf : -1 ≤ fuse ∧ fuse ≤ 1000) (hl : secs.length < 2 ^ 40) (hm : cache.length < 2 ^ 40) (hb : b.length < 2 ^ 40) : Runs Try.prog 115 [.ptr [(.rx, .sl 1 (sD secs)), (.ow, .sl 2 (wD cache)), (.rd, .lf (.int .i64 fuse)), (.rd, .lf (.bool down))], .val false [(.rd, .lf (.int .i64 n))], .val false [(.rd, .sl 1 (bD b))]] ⟨[], [], [[.sl 2 (wD (wrC secs cache fuse down n b).1), .lf (.int .i64 (wrC secs cache fuse down n b).2.1), .lf (.bool (wrC secs cache fuse down n b).2.2)]]⟩ := by
 obtain ⟨c, hb, hs⟩ := body_of tr115
 refine runs_of_sw Try.func115 hb hs rfl (show 3 ≤ 53 by decide) ?_
 clear hb hs c
 refine q27 ?_
 unfold s115
 have e0 : IntKind.i64.wrap ((secs.length : Int) - 1) = (secs.length : Int) - 1 := wrap64 (by omega) (by omega)
 refine sw_seq ?_
 refine sw_seq ?_
 refine sw_reg ?_
 unfold s115_0
 refine os_ev (evq_mvt rfl) ?_
 refine q18 ?_
 refine q5 ?_
 refine q0 ?_
 refine q8 ?_
 refine q0 ?_
 refine os_ev (evq_mvt rfl) ?_
 simp only [Vs.put, reduceIte, Nat.reduceEqDiff]
 refine os_gs rfl (fun g10 => ?_) (fun g10 => ?_)
 ·try simp only [g10]
  replace g10 := q1 g10
  refine os_gno rfl (by decide) ?_
  refine os_gno rfl (by decide) ?_
  refine os_gno rfl (by decide) ?_
  simp only [Vs.put, reduceIte, Nat.reduceEqDiff]
  refine os_gno rfl (by decide) ?_
  refine os_gno rfl (by decide) ?_
  refine os_gno rfl (by decide) ?_
  refine os_gno rfl (by decide) ?_
  simp only [Vs.put, reduceIte, Nat.reduceEqDiff]
  refine os_gno rfl (by decide) ?_
  refine os_gno rfl (by decide) ?_
  refine os_ev (evq_pickt rfl rfl) ?_
  simp only [Vs.put, reduceIte, Nat.reduceEqDiff]
  refine os_ev (evq_mvt rfl) ?_
  refine os_gno rfl (by decide) ?_
  refine os_gno rfl (by decide) ?_
  refine os_gno rfl (by decide) ?_
  refine os_ev (evq_pickt rfl rfl) ?_
  simp only [Vs.put, reduceIte, Nat.reduceEqDiff]
  refine os_ev (evq_mvt rfl) ?_
  refine os_gno rfl (by decide) ?_
  refine os_gno rfl (by decide) ?_
  refine os_gno rfl (by decide) ?_
  simp only [Vs.put, reduceIte, Nat.reduceEqDiff]
  refine os_gno rfl (by decide) ?_
  refine os_gno rfl (by decide) ?_
  refine os_gno rfl (by decide) ?_
  refine os_ev (evq_pickt rfl rfl) ?_
  refine os_ev (evq_mvt rfl) ?_
  refine os_gno rfl (by decide) ?_
  refine os_gno rfl (by decide) ?_
  refine os_gno rfl (by decide) ?_
  simp only [Vs.put, reduceIte, Nat.reduceEqDiff]
  refine os_ev (evq_pickt rfl rfl) ?_
  simp only [runOs, thenQ, blockQ, Vs.put, reduceIte, Nat.reduceEqDiff]
  refine sw_cond rfl (fun h1 => ?_) (fun h1 => ?_)
  ·replace h1 := q1 h1
   refine sw_ret ?_
   refine q3 ?_
   rw [wrC_no (by first | exact .inl rfl | exact .inl g10 | omega | (simp only [e0] at *; omega))]
   refine leaves_bx rfl rfl rfl ?_ rfl (take_cons rfl (by simp) (take_lf (take_lf rfl))) rfl rfl
   exact rs_same (by simp [inCells, flat, Arg.cells, inCs, inC]) (rs_ow rfl (rs_ow rfl (rs_ow rfl rs_nil)))
  ·exact absurd h1 (by simp at h1)
 ·try simp only [g10]
  replace g10 := q1 g10
  subst g10
  refine os_gdo rfl ?_
  refine os_ev (evq_mvt rfl) ?_
  refine os_gdo rfl ?_
  refine os_ev (evq_mvt rfl) ?_
  simp only [Vs.put, reduceIte, Nat.reduceEqDiff]
  refine os_gdo rfl ?_
  refine q18 ?_
  refine os_gdo rfl ?_
  refine q5 ?_
  refine q0 ?_
  refine os_gdo rfl ?_
  refine q8 ?_
  refine q0 ?_
  refine os_gdo rfl ?_
  refine q10 ?_
  refine os_gdo rfl ?_
  refine os_ev (evq_bin rfl rfl rfl) ?_
  simp only [e0]
  simp only [Vs.put, reduceIte, Nat.reduceEqDiff]
  refine os_gdo rfl ?_
  refine os_callo ?_
  refine q6 ?_
  refine ⟨_, _, runs74 n 0 ((secs.length : Int) - 1), _, rfl, _, rfl, by simp [handIo, handBx], fa_cons (rfl) (fa_cons (rfl) (fa_cons (rfl) (fa_nil))), _, rfl, _, rfl, ?_⟩
  refine q7 ?_
  refine q2 ?_
  refine os_gdo rfl ?_
  refine os_ev (evq_un rfl rfl) ?_
  refine os_ev (evq_pickf rfl rfl) ?_
  refine os_ev (evq_mvt rfl) ?_
  refine os_gs rfl (fun g21 => ?_) (fun g21 => ?_)
  ·try simp only [g21]
   replace g21 := q1 g21
   refine os_gno rfl (by decide) ?_
   simp only [Vs.put, reduceIte, Nat.reduceEqDiff]
   refine os_gno rfl (by decide) ?_
   refine os_gno rfl (by decide) ?_
   refine os_ev (evq_pickt rfl rfl) ?_
   refine os_ev (evq_mvt rfl) ?_
   refine os_gno rfl (by decide) ?_
   refine os_gno rfl (by decide) ?_
   refine os_gno rfl (by decide) ?_
   refine os_gno rfl (by decide) ?_
   simp only [Vs.put, reduceIte, Nat.reduceEqDiff]
   refine os_gno rfl (by decide) ?_
   refine os_gno rfl (by decide) ?_
   refine os_ev (evq_pickt rfl rfl) ?_
   simp only [Vs.put, reduceIte, Nat.reduceEqDiff]
   refine os_ev (evq_mvt rfl) ?_
   refine os_gno rfl (by decide) ?_
   refine os_gno rfl (by decide) ?_
   refine os_gno rfl (by decide) ?_
   refine os_ev (evq_pickt rfl rfl) ?_
   simp only [Vs.put, reduceIte, Nat.reduceEqDiff]
   simp only [runOs, thenQ, blockQ, Vs.put, reduceIte, Nat.reduceEqDiff]
   refine sw_cond rfl (fun h1 => ?_) (fun h1 => ?_)
   ·replace h1 := q1 h1
    refine sw_ret ?_
    refine q3 ?_
    rw [wrC_no (by first | exact .inl rfl | exact .inl g10 | omega | (simp only [e0] at *; omega))]
    refine leaves_bx rfl rfl rfl ?_ rfl (take_cons rfl (by simp) (take_lf (take_lf rfl))) rfl rfl
    exact rs_same (by simp [inCells, flat, Arg.cells, inCs, inC]) (rs_ow rfl (rs_ow rfl (rs_ow rfl rs_nil)))
   ·exact absurd h1 (by simp at h1)
  ·try simp only [g21]
   replace g21 := q1 g21
   refine os_gdo rfl ?_
   refine os_ev (evq_mvt rfl) ?_
   refine os_gdo rfl ?_
   refine q10 ?_
   refine os_gdo rfl ?_
   refine os_ev (evq_bin rfl rfl rfl) ?_
   refine os_ev (evq_pickf rfl rfl) ?_
   refine os_ev (evq_mvt rfl) ?_
   simp only [Vs.put, reduceIte, Nat.reduceEqDiff]
   refine os_gs rfl (fun g26 => ?_) (fun g26 => ?_)
   ·try simp only [g26]
    replace g26 := q1 g26
    refine os_gno rfl (by decide) ?_
    refine os_gno rfl (by decide) ?_
    refine os_gno rfl (by decide) ?_
    simp only [Vs.put, reduceIte, Nat.reduceEqDiff]
    refine os_gno rfl (by decide) ?_
    refine os_gno rfl (by decide) ?_
    refine os_gno rfl (by decide) ?_
    refine os_ev (evq_pickt rfl rfl) ?_
    refine os_ev (evq_mvt rfl) ?_
    refine os_gno rfl (by decide) ?_
    refine os_gno rfl (by decide) ?_
    refine os_gno rfl (by decide) ?_
    simp only [Vs.put, reduceIte, Nat.reduceEqDiff]
    refine os_ev (evq_pickt rfl rfl) ?_
    simp only [runOs, thenQ, blockQ, Vs.put, reduceIte, Nat.reduceEqDiff]
    refine sw_cond rfl (fun h1 => ?_) (fun h1 => ?_)
    ·replace h1 := q1 h1
     refine sw_ret ?_
     refine q3 ?_
     rw [wrC_no (by first | exact .inl rfl | exact .inl g10 | omega | (simp only [e0] at *; omega))]
     refine leaves_bx rfl rfl rfl ?_ rfl (take_cons rfl (by simp) (take_lf (take_lf rfl))) rfl rfl
     exact rs_same (by simp [inCells, flat, Arg.cells, inCs, inC]) (rs_ow rfl (rs_ow rfl (rs_ow rfl rs_nil)))
    ·exact absurd h1 (by simp at h1)
   ·try simp only [g26]
    replace g26 := q1 g26
    refine os_gdo rfl ?_
    refine os_ev (evq_mvt rfl) ?_
    refine os_gdo rfl ?_
    refine q18 ?_
    refine os_gdo rfl ?_
    refine q5 ?_
    refine q0 ?_
    simp only [Vs.put, reduceIte, Nat.reduceEqDiff]
    refine os_gdo rfl ?_
    refine q8 ?_
    refine q0 ?_
    refine os_gdo rfl ?_
    refine q10 ?_
    refine os_gdo rfl ?_
    refine os_ev (evq_bin rfl rfl rfl) ?_
    refine os_ev (evq_pickf rfl rfl) ?_
    refine os_ev (evq_mvt rfl) ?_
    simp only [Vs.put, reduceIte, Nat.reduceEqDiff]
    refine os_gs rfl (fun g34 => ?_) (fun g34 => ?_)
    ·try simp only [g34]
     replace g34 := q1 g34
     refine os_gno rfl (by decide) ?_
     refine os_gno rfl (by decide) ?_
     refine os_gno rfl (by decide) ?_
     simp only [Vs.put, reduceIte, Nat.reduceEqDiff]
     refine os_ev (evq_pickt rfl rfl) ?_
     simp only [runOs, thenQ, blockQ, Vs.put, reduceIte, Nat.reduceEqDiff]
     refine sw_cond rfl (fun h1 => ?_) (fun h1 => ?_)
     ·replace h1 := q1 h1
      refine sw_ret ?_
      refine q3 ?_
      rw [wrC_no (by first | exact .inl rfl | exact .inl g10 | omega | (simp only [e0] at *; omega))]
      refine leaves_bx rfl rfl rfl ?_ rfl (take_cons rfl (by simp) (take_lf (take_lf rfl))) rfl rfl
      exact rs_same (by simp [inCells, flat, Arg.cells, inCs, inC]) (rs_ow rfl (rs_ow rfl (rs_ow rfl rs_nil)))
     ·exact absurd h1 (by simp at h1)
    ·try simp only [g34]
     replace g34 := q1 g34
     refine os_gdo rfl ?_
     refine os_ev (evq_mvt rfl) ?_
     simp only [Vs.put, reduceIte, Nat.reduceEqDiff]
     refine os_gdo rfl ?_
     refine os_callo ?_
     refine q6 ?_
     refine ⟨_, _, runs137 secs cache fuse false hf, _, rfl, _, rfl, by simp [handIo, handBx], fa_cons (⟨rfl, .inl rfl, by simp [handIo, handBx], _, rfl, by simp, by first | rfl | (simp; done) | exact (List.take_of_length_le (by simp)).symm⟩) (fa_cons (⟨rfl, .inl rfl, by simp [handIo, handBx], _, rfl, by simp, by first | rfl | (simp; done) | exact (List.take_of_length_le (by simp)).symm⟩) (fa_cons (rfl) (fa_cons (rfl) (fa_nil)))), _, rfl, _, rfl, ?_⟩
     refine q7 ?_
     refine q2 ?_
     refine os_gdo rfl ?_
     refine os_ev (evq_un rfl rfl) ?_
     refine os_ev (evq_pickf rfl rfl) ?_
     simp only [runOs, thenQ, blockQ, Vs.put, reduceIte, Nat.reduceEqDiff]
     refine sw_cond rfl (fun h1 => ?_) (fun h1 => ?_)
     ·have hz : fuse = 0 := by simpa [opR] using h1
      obtain ⟨z1, z2, _⟩ := op_zero (down := false) hz
      simp only [z1, z2]
      rw [wrC_zero (by first | omega | simp_all; omega | (simp_all)) hz]
      refine sw_ret ?_
      refine q3 ?_
      refine leaves_bx rfl rfl rfl ?_ rfl (take_cons rfl (by simp) (take_lf (take_lf rfl))) rfl rfl
      exact rs_same (by simp [inCells, flat, Arg.cells, inCs, inC]) (rs_ow rfl (rs_ow rfl (rs_ow rfl rs_nil)))
     ·have hz : ¬ fuse = 0 := by simpa [opR] using h1
      obtain ⟨z2, _⟩ := op_pos (down := false) hz
      simp only [z2]
      rw [wrC_yes (by first | omega | simp_all; omega | (simp_all)) hz]
      refine sw_skip ?_
      simp only [thenQ, blockQ]
      refine sw_go rfl rfl ?_
      unfold s115_1
      refine rd_ev (evq_mvt rfl) rfl ?_
      refine rd_ev (evq_mvt rfl) rfl ?_
      first | refine rd_ev (evq_nilc rfl) rfl ?_ | refine rd_ev (evq_nile rfl) rfl ?_
      first | refine rd_ev (evq_fadb rfl) rfl ?_ | refine rd_ev (evq_fade rfl) rfl ?_
      refine q0 ?_
      simp only [Vs.put, reduceIte, Nat.reduceEqDiff]
      first | refine rd_m1 (evq_ldb rfl rfl rfl) fa_nil rfl (Nat.le_of_ble_eq_true rfl) ?_ | refine rd_m1 (evq_ldl rfl rfl (rfl) rfl) fa_nil rfl (Nat.le_of_ble_eq_true rfl) ?_ | refine rd_m1 (evq_lds rfl rfl (rfl) rfl) fa_nil rfl (Nat.le_of_ble_eq_true rfl) ?_
      refine q0 ?_
      refine rd_ev (evq_mvt rfl) rfl ?_
      refine rd_wr (by intros; nofun) ?_
      refine .inl ⟨_, rfl, _, rfl, ?_⟩
      refine q20 ?_
      refine ⟨by first | rfl | trivial, (fa_cons (fun _ => by first | exact pd_ev (evq_ldb rfl rfl rfl) | exact pd_ev (evq_ldl rfl rfl (rfl) rfl) | exact pd_ev (evq_lds rfl rfl (rfl) rfl)) fa_nil), ?_⟩
      refine q2 ?_
      refine rd_ev (evq_mvt rfl) rfl ?_
      refine rd_wr (by intros; nofun) ?_
      refine app_bytes (l := []) (r2 := b) rfl rfl rfl rfl (by decide) rfl (by simp) (by simp; omega) ?_
      simp only [del, reduceIte, Nat.reduceEqDiff, bD_len, List.drop_zero, List.take_length, List.nil_append, List.length_nil, Nat.zero_add]
      refine ⟨by first | rfl | trivial, (fa_cons (fun _ => by first | exact pd_ev (evq_ldb rfl rfl rfl) | exact pd_ev (evq_ldl rfl rfl (rfl) rfl) | exact pd_ev (evq_lds rfl rfl (rfl) rfl)) fa_nil), ?_⟩
      refine q2 ?_
      refine rd_ev (evq_build rfl) rfl ?_
      refine q0 ?_
      refine rd_wr (by intros; nofun) ?_
      refine .inl ⟨[.lf (.int .i64 n), .rf 5 [] 1 0 b.length], rfl, ([.lf (.int .i64 n), .sl 1 (bD b)], _), take_lf (take_cons rfl (by simp) rfl), ?_⟩
      refine q22 ?_
      refine ⟨by first | rfl | trivial, (fa_cons (fun _ => by first | exact pd_ev (evq_ldb rfl rfl rfl) | exact pd_ev (evq_ldl rfl rfl (rfl) rfl) | exact pd_ev (evq_lds rfl rfl (rfl) rfl)) fa_nil), ?_⟩
      refine q2 ?_
      refine rd_wr (by intros; nofun) ?_
      refine app_elem (es := wD cache) (e := [.lf (.int .i64 n), .sl 1 (bD b)]) rfl rfl (by simp) rfl (by decide) rfl (by simp; omega) ?_
      rw [show wD cache ++ [[D.lf (.int .i64 n), .sl 1 (bD b)]] = wD (cache ++ [(n, b)]) from wD_snoc cache (n, b)]
      simp only [wD_len]
      refine ⟨by first | rfl | trivial, (fa_cons (fun h => absurd h (Nat.not_le.2 (Nat.le_of_ble_eq_true rfl))) fa_nil), ?_⟩
      refine q2 ?_
      first | refine rd_ev (evq_nilc rfl) rfl ?_ | refine rd_ev (evq_nile rfl) rfl ?_
      simp only [Vs.put, reduceIte, Nat.reduceEqDiff]
      first | refine rd_ev (evq_fadb rfl) rfl ?_ | refine rd_ev (evq_fade rfl) rfl ?_
      refine q0 ?_
      refine rd_wr (by intros; nofun) ?_
      refine st_box rfl rfl rfl rfl (Nat.le_of_ble_eq_true rfl) ?_
      refine q0 ?_
      refine ⟨by first | rfl | trivial, (fa_cons (fun h => absurd h (Nat.not_le.2 (Nat.le_of_ble_eq_true rfl))) fa_nil), ?_⟩
      refine q2 ?_
      refine rd_nil ?_
      simp only [thenQ, blockQ, Vs.put, reduceIte, Nat.reduceEqDiff]
      refine q3 ?_
      refine leaves_bx rfl rfl rfl ?_ rfl (take_cons rfl (by simp) (take_lf (take_lf rfl))) rfl rfl
      exact rs_same (by simp [inCells, flat, Arg.cells, inCs, inC]) (rs_ow rfl (rs_ow rfl (rs_ow rfl rs_nil)))
end Go.Proofs.Ytgbapgjdkoojdaa
