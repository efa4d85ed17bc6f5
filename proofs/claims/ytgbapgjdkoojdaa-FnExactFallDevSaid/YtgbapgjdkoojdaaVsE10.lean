import Derived.Test.YtgbapgjdkoojdaaVsQ
import Derived.Test.YtgbapgjdkoojdaaVsSf
import Derived.Test.YtgbapgjdkoojdaaVsE4
import Derived.Test.YtgbapgjdkoojdaaVsW2
set_option linter.unusedVariables false
set_option linter.unusedSimpArgs false
namespace Go.Proofs.Ytgbapgjdkoojdaa
open Go.Vs
set_option linter.unusedSimpArgs false
set_option linter.unusedVariables false
set_option maxHeartbeats 1000000
theorem runs80 (b : List UInt8) (a : Int) (h : b.length < 2 ^ 62) : Runs Try.prog 80 [.val false [(.rd, .sl 1 (bD b))], .val false [(.rd, .lf (.int .i64 a))]] ⟨[(false, [.lf (.int .i64 (gwN b a))]), (false, [.lf (.int .i64 (gwA b a))]), (false, [.lf (.bool (gwOk b a))])], [], []⟩ := by
 obtain ⟨c, hb, hs⟩ := body_of tr80
 refine runs_of_sw Try.func80 hb hs rfl (show 2 ≤ 28 by decide) ?_
 clear hb hs c
 refine q15 ?_
 unfold s80
 refine sw_seq ?_
 refine sw_reg ?_
 unfold s80_0
 refine os_ev (evq_mvk) ?_
 refine os_ev (evq_mvk) ?_
 refine os_ev (evq_mvk) ?_
 simp only [runOs, thenQ, blockQ, Vs.put, reduceIte, Nat.reduceEqDiff]
 refine sw_seq ?_
 refine sw_seq ?_
 refine sw_reg ?_
 unfold s80_1
 refine os_ev (evq_mvt rfl) ?_
 refine os_ev (evq_mvt rfl) ?_
 simp only [Vs.put, reduceIte, Nat.reduceEqDiff]
 refine q10 ?_
 refine os_ev (evq_bin rfl rfl rfl) ?_
 refine os_callo ?_
 refine q6 ?_
 have e0 : IntKind.i64.wrap ((b.length : Int) - 2) = (b.length : Int) - 2 := wrap64 (by omega) (by omega)
 simp only [e0]
 refine ⟨_, _, runs74 a 0 ((b.length : Int) - 2), _, rfl, _, rfl, by simp [handIo, handBx], fa_cons (rfl) (fa_cons (rfl) (fa_cons (rfl) (fa_nil))), _, rfl, _, rfl, ?_⟩
 simp only [newCs, newRes, newA, resV, List.flatMap_cons, List.flatMap_nil, List.flatten_nil, List.append_nil, List.nil_append, List.cons_append, List.length_cons, List.length_nil, List.drop_succ_cons, List.drop_zero, List.take_succ_cons, List.take_zero, if_true, if_false, Bool.false_eq_true, List.drop_nil]
 refine q11 ?_
 refine os_ev (evq_un rfl rfl) ?_
 simp only [runOs, thenQ, blockQ, Vs.put, reduceIte, Nat.reduceEqDiff]
 refine sw_cond rfl (fun h1 => ?_) (fun h1 => ?_)
 ·replace h1 := q1 h1
  refine sw_seq ?_
  refine sw_reg ?_
  unfold s80_2
  refine os_ev (evq_mvk) ?_
  refine os_ev (evq_mvk) ?_
  simp only [Vs.put, reduceIte, Nat.reduceEqDiff]
  refine os_ev (evq_mvk) ?_
  simp only [runOs, thenQ, blockQ, Vs.put, reduceIte, Nat.reduceEqDiff]
  refine sw_ret ?_
  refine q3 ?_
  obtain ⟨r1, r2, r3⟩ := gw_no (b := b) (a := a) (by omega)
  rw [r1, r2, r3]
  exact leaves_tp rfl rfl rfl rfl (take_lf (take_lf (take_lf rfl)))
 ·replace h1 := q1 h1
  obtain ⟨a, rfl⟩ : ∃ a0 : Nat, a = a0 := ⟨a.toNat, by omega⟩
  have ha : a < b.length := by omega
  have ha1 : a + 1 < b.length := by omega
  have hb0 := b[a].toNat_lt
  have hb1 := b[a + 1].toNat_lt
  have e1 : IntKind.i64.wrap ((a : Int) + 1) = ((a + 1 : Nat) : Int) := by rw [wrap64 (by omega) (by omega)]; rfl
  have e2 : IntKind.i64.wrap ((a : Int) + 2) = (a : Int) + 2 := wrap64 (by omega) (by omega)
  have hc0 : IntKind.i64.wrap (b[a].toNat : Int) = (b[a].toNat : Int) := w64_nat (by omega)
  have hc1 : IntKind.i64.wrap (b[a + 1].toNat : Int) = (b[a + 1].toNat : Int) := w64_nat (by omega)
  have hs : IntKind.i64.wrap ((b[a].toNat : Int) * 2 ^ 8) = ((256 * b[a].toNat : Nat) : Int) := by
   rw [show ((b[a].toNat : Int) * 2 ^ 8) = ((256 * b[a].toNat : Nat) : Int) by omega]; exact w64_nat (by omega)
  have ho := or64 (a := 256 * b[a].toNat) (b := b[a + 1].toNat) (by omega) (by omega)
  rw [or_add (by omega)] at ho
  obtain ⟨r1, r2, r3⟩ := gw_yes ha1
  rw [r1, r2, r3]
  refine sw_skip ?_
  simp only [thenQ, blockQ]
  refine sw_seq ?_
  refine sw_go rfl rfl ?_
  unfold s80_3
  refine rd_ev (evq_mvt rfl) rfl ?_
  simp only [Vs.put, reduceIte, Nat.reduceEqDiff]
  refine rd_ev (evq_mvt rfl) rfl ?_
  first | refine rd_ev (evq_iad rfl rfl rfl (by omega)) rfl ?_ | refine rd_ev (evq_iad rfl rfl rfl (by simp)) rfl ?_
  first | refine rd_m0 (evq_ldb rfl rfl rfl) fa_nil (by decide) ?_ | refine rd_m0 (evq_ldl rfl rfl (bD_get ha) rfl) fa_nil (by decide) ?_ | refine rd_m0 (evq_lds rfl rfl (bD_get ha) rfl) fa_nil (by decide) ?_ | refine rd_m0 (evq_ldl rfl rfl (rfl) rfl) fa_nil (by decide) ?_ | refine rd_m0 (evq_lds rfl rfl (rfl) rfl) fa_nil (by decide) ?_
  refine q0 ?_
  refine rd_ev (evq_conv rfl) rfl ?_
  refine rd_ev (evq_shl 8 rfl rfl rfl (by decide)) rfl ?_
  simp only [Vs.put, reduceIte, Nat.reduceEqDiff]
  refine rd_ev (evq_mvt rfl) rfl ?_
  refine rd_ev (evq_mvt rfl) rfl ?_
  refine rd_ev (evq_bin rfl rfl rfl) rfl ?_
  refine rd_ev (evq_iad (j := a + 1) rfl rfl e1 (by omega)) rfl ?_
  simp only [Vs.put, reduceIte, Nat.reduceEqDiff]
  first | refine rd_m0 (evq_ldb rfl rfl rfl) fa_nil (by decide) ?_ | refine rd_m0 (evq_ldl rfl rfl (bD_get ha1) rfl) fa_nil (by decide) ?_ | refine rd_m0 (evq_lds rfl rfl (bD_get ha1) rfl) fa_nil (by decide) ?_ | refine rd_m0 (evq_ldl rfl rfl (rfl) rfl) fa_nil (by decide) ?_ | refine rd_m0 (evq_lds rfl rfl (rfl) rfl) fa_nil (by decide) ?_
  refine q0 ?_
  refine rd_ev (evq_conv rfl) rfl ?_
  refine rd_ev (evq_bin rfl rfl rfl) rfl ?_
  refine rd_ev (evq_mvt rfl) rfl ?_
  refine rd_ev (evq_bin rfl rfl rfl) rfl ?_
  simp only [Vs.put, reduceIte, Nat.reduceEqDiff]
  refine rd_ev (evq_mvt rfl) rfl ?_
  refine rd_ev (evq_mvt rfl) rfl ?_
  refine rd_ev (evq_mvk) rfl ?_
  refine rd_nil ?_
  simp only [thenQ, blockQ, Vs.put, reduceIte, Nat.reduceEqDiff]
  refine sw_ret ?_
  refine q3 ?_
  simp only [hc0, hc1, hs, ho, e2]
  exact leaves_tp rfl rfl rfl rfl (take_lf (take_lf (take_lf rfl)))
theorem runs125 (b : List UInt8) (a : Int) (h : b.length < 2 ^ 62) : Runs Try.prog 125 [.val false [(.rd, .sl 1 (bD b))], .val false [(.rd, .lf (.int .i64 a))]] ⟨[(false, [.lf (.int .i64 (gwN b a))]), (false, [.lf (.int .i64 (gwA b a))]), (false, [.lf (.bool (gwOk b a))])], [], []⟩ := by
 obtain ⟨c, hb, hs⟩ := body_of tr125
 refine runs_of_sw Try.func125 hb hs rfl (show 2 ≤ 31 by decide) ?_
 clear hb hs c
 refine q15 ?_
 unfold s125
 refine sw_seq ?_
 refine sw_reg ?_
 unfold s125_0
 refine os_ev (evq_mvk) ?_
 refine os_ev (evq_mvk) ?_
 refine os_ev (evq_mvk) ?_
 simp only [runOs, thenQ, blockQ, Vs.put, reduceIte, Nat.reduceEqDiff]
 refine sw_seq ?_
 refine sw_seq ?_
 refine sw_reg ?_
 unfold s125_1
 refine os_ev (evq_mvt rfl) ?_
 refine os_ev (evq_bin rfl rfl rfl) ?_
 simp only [Vs.put, reduceIte, Nat.reduceEqDiff]
 refine os_ev (evq_mvt rfl) ?_
 refine os_gs rfl (fun g9 => ?_) (fun g9 => ?_)
 ·try simp only [g9]
  replace g9 := q1 g9
  have e0 : IntKind.i64.wrap ((b.length : Int) - 2) = (b.length : Int) - 2 := wrap64 (by omega) (by omega)
  refine os_gno rfl (by decide) ?_
  refine os_gno rfl (by decide) ?_
  refine os_gno rfl (by decide) ?_
  refine os_gno rfl (by decide) ?_
  refine os_gno rfl (by decide) ?_
  refine os_ev (evq_pickt rfl rfl) ?_
  simp only [runOs, thenQ, blockQ, Vs.put, reduceIte, Nat.reduceEqDiff]
  refine sw_cond rfl (fun h1 => ?_) (fun h1 => ?_)
  ·replace h1 := q1 h1
   refine sw_seq ?_
   refine sw_reg ?_
   unfold s125_2
   refine os_ev (evq_mvk) ?_
   refine os_ev (evq_mvk) ?_
   refine os_ev (evq_mvk) ?_
   simp only [Vs.put, reduceIte, Nat.reduceEqDiff]
   simp only [runOs, thenQ, blockQ, Vs.put, reduceIte, Nat.reduceEqDiff]
   refine sw_ret ?_
   refine q3 ?_
   obtain ⟨r1, r2, r3⟩ := gw_no (b := b) (a := a) (by omega)
   rw [r1, r2, r3]
   exact leaves_tp rfl rfl rfl rfl (take_lf (take_lf (take_lf rfl)))
  ·exact absurd h1 (by simp at h1)
 ·try simp only [g9]
  replace g9 := q1 g9
  have e0 : IntKind.i64.wrap ((b.length : Int) - 2) = (b.length : Int) - 2 := wrap64 (by omega) (by omega)
  refine os_gdo rfl ?_
  refine os_ev (evq_mvt rfl) ?_
  refine os_gdo rfl ?_
  refine os_ev (evq_mvt rfl) ?_
  refine os_gdo rfl ?_
  refine q10 ?_
  refine os_gdo rfl ?_
  refine os_ev (evq_bin rfl rfl rfl) ?_
  refine os_gdo rfl ?_
  refine os_ev (evq_bin rfl rfl rfl) ?_
  simp only [Vs.put, reduceIte, Nat.reduceEqDiff]
  refine os_ev (evq_pickf rfl rfl) ?_
  simp only [runOs, thenQ, blockQ, Vs.put, reduceIte, Nat.reduceEqDiff]
  refine sw_cond rfl (fun h1 => ?_) (fun h1 => ?_)
  ·replace h1 := q1 h1
   simp only [e0] at h1
   refine sw_seq ?_
   refine sw_reg ?_
   unfold s125_2
   refine os_ev (evq_mvk) ?_
   refine os_ev (evq_mvk) ?_
   refine os_ev (evq_mvk) ?_
   simp only [runOs, thenQ, blockQ, Vs.put, reduceIte, Nat.reduceEqDiff]
   refine sw_ret ?_
   refine q3 ?_
   obtain ⟨r1, r2, r3⟩ := gw_no (b := b) (a := a) (by omega)
   rw [r1, r2, r3]
   exact leaves_tp rfl rfl rfl rfl (take_lf (take_lf (take_lf rfl)))
  ·replace h1 := q1 h1
   simp only [e0] at h1
   obtain ⟨a, rfl⟩ : ∃ a0 : Nat, a = a0 := ⟨a.toNat, by omega⟩
   have ha : a < b.length := by omega
   have ha1 : a + 1 < b.length := by omega
   have hb0 := b[a].toNat_lt
   have hb1 := b[a + 1].toNat_lt
   have e1 : IntKind.i64.wrap ((a : Int) + 1) = ((a + 1 : Nat) : Int) := by rw [wrap64 (by omega) (by omega)]; rfl
   have e2 : IntKind.i64.wrap ((a : Int) + 2) = (a : Int) + 2 := wrap64 (by omega) (by omega)
   have hc0 : IntKind.i64.wrap (b[a].toNat : Int) = (b[a].toNat : Int) := w64_nat (by omega)
   have hc1 : IntKind.i64.wrap (b[a + 1].toNat : Int) = (b[a + 1].toNat : Int) := w64_nat (by omega)
   have hs : IntKind.i64.wrap ((b[a].toNat : Int) * 2 ^ 8) = ((256 * b[a].toNat : Nat) : Int) := by
    rw [show ((b[a].toNat : Int) * 2 ^ 8) = ((256 * b[a].toNat : Nat) : Int) by omega]; exact w64_nat (by omega)
   have ho := or64 (a := 256 * b[a].toNat) (b := b[a + 1].toNat) (by omega) (by omega)
   rw [or_add (by omega)] at ho
   obtain ⟨r1, r2, r3⟩ := gw_yes ha1
   rw [r1, r2, r3]
   refine sw_skip ?_
   simp only [thenQ, blockQ]
   refine sw_seq ?_
   refine sw_go rfl rfl ?_
   unfold s125_3
   refine rd_ev (evq_mvt rfl) rfl ?_
   simp only [Vs.put, reduceIte, Nat.reduceEqDiff]
   refine rd_ev (evq_mvt rfl) rfl ?_
   first | refine rd_ev (evq_iad rfl rfl rfl (by omega)) rfl ?_ | refine rd_ev (evq_iad rfl rfl rfl (by simp)) rfl ?_
   first | refine rd_m0 (evq_ldb rfl rfl rfl) fa_nil (by decide) ?_ | refine rd_m0 (evq_ldl rfl rfl (bD_get ha) rfl) fa_nil (by decide) ?_ | refine rd_m0 (evq_lds rfl rfl (bD_get ha) rfl) fa_nil (by decide) ?_ | refine rd_m0 (evq_ldl rfl rfl (rfl) rfl) fa_nil (by decide) ?_ | refine rd_m0 (evq_lds rfl rfl (rfl) rfl) fa_nil (by decide) ?_
   refine q0 ?_
   refine rd_ev (evq_conv rfl) rfl ?_
   refine rd_ev (evq_shl 8 rfl rfl rfl (by decide)) rfl ?_
   simp only [Vs.put, reduceIte, Nat.reduceEqDiff]
   refine rd_ev (evq_mvt rfl) rfl ?_
   refine rd_ev (evq_mvt rfl) rfl ?_
   refine rd_ev (evq_bin rfl rfl rfl) rfl ?_
   refine rd_ev (evq_iad (j := a + 1) rfl rfl e1 (by omega)) rfl ?_
   simp only [Vs.put, reduceIte, Nat.reduceEqDiff]
   first | refine rd_m0 (evq_ldb rfl rfl rfl) fa_nil (by decide) ?_ | refine rd_m0 (evq_ldl rfl rfl (bD_get ha1) rfl) fa_nil (by decide) ?_ | refine rd_m0 (evq_lds rfl rfl (bD_get ha1) rfl) fa_nil (by decide) ?_ | refine rd_m0 (evq_ldl rfl rfl (rfl) rfl) fa_nil (by decide) ?_ | refine rd_m0 (evq_lds rfl rfl (rfl) rfl) fa_nil (by decide) ?_
   refine q0 ?_
   refine rd_ev (evq_conv rfl) rfl ?_
   refine rd_ev (evq_bin rfl rfl rfl) rfl ?_
   refine rd_ev (evq_mvt rfl) rfl ?_
   refine rd_ev (evq_bin rfl rfl rfl) rfl ?_
   simp only [Vs.put, reduceIte, Nat.reduceEqDiff]
   refine rd_ev (evq_mvt rfl) rfl ?_
   refine rd_ev (evq_mvt rfl) rfl ?_
   refine rd_ev (evq_mvk) rfl ?_
   refine rd_nil ?_
   simp only [thenQ, blockQ, Vs.put, reduceIte, Nat.reduceEqDiff]
   refine sw_ret ?_
   refine q3 ?_
   simp only [hc0, hc1, hs, ho, e2]
   exact leaves_tp rfl rfl rfl rfl (take_lf (take_lf (take_lf rfl)))
end Go.Proofs.Ytgbapgjdkoojdaa
