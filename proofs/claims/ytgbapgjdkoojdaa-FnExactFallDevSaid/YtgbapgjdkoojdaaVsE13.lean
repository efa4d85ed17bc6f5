import Derived.Test.YtgbapgjdkoojdaaVsQ
import Derived.Test.YtgbapgjdkoojdaaVsSf
import Derived.Test.YtgbapgjdkoojdaaVsE1
import Derived.Test.YtgbapgjdkoojdaaVsE3
import Derived.Test.YtgbapgjdkoojdaaVsE12
set_option linter.unusedVariables false
set_option linter.unusedSimpArgs false
namespace Go.Proofs.Ytgbapgjdkoojdaa
open Go.Vs
set_option linter.unusedSimpArgs false
set_option linter.unusedVariables false
set_option maxHeartbeats 1000000
theorem runs27 (b : List UInt8) (h : b.length < 2 ^ 46) : Runs Try.prog 27 [.val false [(.rd, .sl 1 (bD b))]] ⟨[(false, [.sl 1 (bD b)])], [], []⟩ := by
 obtain ⟨c, hb, hs⟩ := body_of tr27
 refine runs_of_sw Try.func27 hb hs rfl (show 1 ≤ 22 by decide) ?_
 clear hb hs c
 refine q15 ?_
 unfold s27
 refine sw_seq ?_
 refine sw_reg ?_
 unfold s27_0
 refine os_ev (evq_mvk) ?_
 simp only [runOs, thenQ, blockQ, Vs.put, reduceIte, Nat.reduceEqDiff]
 refine sw_seq ?_
 refine sw_reg ?_
 unfold s27_1
 refine os_ev (evq_mvt rfl) ?_
 refine q10 ?_
 refine os_wro (by intros; nofun) ?_
 refine mks_bytes rfl rfl (by omega) ?_
 refine q11 ?_
 refine os_ev (evq_mvt rfl) ?_
 simp only [runOs, thenQ, blockQ, Vs.put, reduceIte, Nat.reduceEqDiff]
 refine sw_seq ?_
 refine sw_seq ?_
 refine sw_reg ?_
 unfold s27_2
 refine os_ev (evq_mvk) ?_
 simp only [Vs.put, reduceIte, Nat.reduceEqDiff]
 simp only [runOs, thenQ, blockQ, Vs.put, reduceIte, Nat.reduceEqDiff]
 refine sw_block ?_
 refine sw_loop_upd [0, 3, 4] (α := Nat × List UInt8) (fun (i, l) => [(4, .a (.c (.lf (.int .i64 (i : Nat)))))]) (fun (i, l) => [(1, .tr 1 (bD l)), (0, .im 1 (bD b))]) (2) (fun (i, l) => i ≤ b.length ∧ l.length = b.length ∧ l.take i = b.take i) (fun (i, l) => b.length - i) (0, List.replicate b.length 0) [(1, 1), (0, 0)] ?_ (by decide) ?_ ?_ ?_
 ·exact ⟨Nat.zero_le _, by simp, by simp⟩
 ·simp only [sel, Vs.get, upd, Vs.put, reduceIte, Nat.reduceEqDiff]
  repeat' (first | exact er_nil | refine er_un ?_ | refine er_cons rfl ?_ ?_)
  all_goals (try simp only [V.map, A.map, renC, Vs.get, reduceIte, Nat.reduceEqDiff, List.map_cons, List.map_nil])
  all_goals (try rfl)
 ·repeat' (first | exact rr_nil | refine rr_cons 1 rfl rfl ?_ ?_ | refine rr_cons 0 rfl rfl ?_ ?_)
  all_goals (try simp only [renRoot, renC, Vs.get, reduceIte, Nat.reduceEqDiff, List.map_cons, List.map_nil])
  all_goals (try rfl)
 ·rintro ⟨i, l⟩ hinv
  simp only [sel, Vs.get, upd, Vs.put, reduceIte, Nat.reduceEqDiff]
  obtain ⟨hi, hl, htake⟩ := hinv
  refine sw_seq ?_
  refine sw_seq ?_
  refine sw_reg ?_
  unfold s27_3
  refine os_ev (evq_mvt rfl) ?_
  refine os_ev (evq_mvt rfl) ?_
  refine q10 ?_
  refine os_ev (evq_bin rfl rfl rfl) ?_
  simp only [runOs, thenQ, blockQ, Vs.put, reduceIte, Nat.reduceEqDiff]
  refine sw_cond rfl (fun h2 => ?_) (fun h2 => ?_)
  ·replace h2 := q1 h2
   have hib : i < b.length := by omega
   have hil : i < l.length := by omega
   have e1 : IntKind.i64.wrap ((i : Int) + 1) = ((i + 1 : Nat) : Int) := by rw [wrap64 (by omega) (by omega)]; rfl
   refine sw_skip ?_
   simp only [thenQ, blockQ]
   refine sw_seq ?_
   refine sw_block ?_
   refine sw_reg ?_
   unfold s27_5
   refine os_ev (evq_mvt rfl) ?_
   simp only [Vs.put, reduceIte, Nat.reduceEqDiff]
   refine os_ev (evq_mvt rfl) ?_
   refine os_ev (evq_mvt rfl) ?_
   refine os_ev (evq_mvt rfl) ?_
   refine q14 ?_
   first | refine os_ev (evq_ldb rfl rfl rfl) ?_ | refine os_ev (evq_ldl rfl rfl (bD_get hib) rfl) ?_ | refine os_ev (evq_lds rfl rfl (bD_get hib) rfl) ?_ | refine os_ev (evq_ldl rfl rfl (rfl) rfl) ?_ | refine os_ev (evq_lds rfl rfl (rfl) rfl) ?_
   refine q0 ?_
   simp only [Vs.put, reduceIte, Nat.reduceEqDiff]
   refine q14 ?_
   refine os_wro (by intros; nofun) ?_
   refine st_leaf rfl rfl rfl rfl (bD_get hil) (by simp) ?_
   rw [bD_set l i _ hil]
   refine q11 ?_
   simp only [runOs, thenQ, blockQ, Vs.put, reduceIte, Nat.reduceEqDiff]
   refine sw_reg ?_
   unfold s27_4
   refine os_ev (evq_mvt rfl) ?_
   refine os_ev (evq_bin rfl rfl rfl) ?_
   refine os_ev (evq_mvt rfl) ?_
   simp only [runOs, thenQ, blockQ, Vs.put, reduceIte, Nat.reduceEqDiff]
   try simp only [thenQ, blockQ]
   refine ⟨(i + 1, l.set i b[i]), ?_, ?_, rfl, [(1, 1), (0, 0)], by decide, ?_, ?_⟩
   ·refine ⟨by omega, by simp [hl], ?_⟩
    rw [List.take_succ_eq_append_getElem (by simpa using hil), List.take_succ_eq_append_getElem hib]
    simp only [List.getElem_set_self, List.take_set_of_le (Nat.le_refl i)]
    rw [htake]
   ·first | omega | (dsimp only; omega)
   ·simp only [sel, Vs.get, upd, Vs.put, reduceIte, Nat.reduceEqDiff]
    repeat' (first | exact er_nil | refine er_un ?_ | refine er_cons rfl ?_ ?_)
    all_goals (try simp only [V.map, A.map, renC, Vs.get, reduceIte, Nat.reduceEqDiff, List.map_cons, List.map_nil, e1])
   ·repeat' (first | exact rr_nil | refine rr_cons 1 rfl rfl ?_ ?_ | refine rr_cons 0 rfl rfl ?_ ?_)
    all_goals (try simp only [renRoot, renC, Vs.get, reduceIte, Nat.reduceEqDiff, List.map_cons, List.map_nil, e1])
  ·replace h2 := q1 h2
   have hib : i = b.length := by omega
   subst hib
   have hlb : l = b := by rw [← List.take_length (l := l), hl, htake, List.take_length]
   subst hlb
   refine sw_exit ?_
   refine q12 ?_
   refine sw_seq ?_
   refine sw_reg ?_
   unfold s27_6
   refine os_ev (evq_mvt rfl) ?_
   simp only [Vs.put, reduceIte, Nat.reduceEqDiff]
   refine os_ev (evq_mvt rfl) ?_
   simp only [runOs, thenQ, blockQ, Vs.put, reduceIte, Nat.reduceEqDiff]
   refine sw_ret ?_
   refine q3 ?_
   exact leaves_vals rfl rfl rfl (take_one rfl (by simp))
theorem runs5 (b : List UInt8) : Runs Try.prog 5 [.val false [(.rd, .sl 1 (bD b))]] ⟨[(false, [.lf (.bool true)])], [], []⟩ := by
 obtain ⟨c, hb, hs⟩ := body_of tr5
 refine runs_of_sw Try.func5 hb hs rfl (show 1 ≤ 46 by decide) ?_
 clear hb hs c
 refine q15 ?_
 unfold s5
 refine sw_seq ?_
 refine sw_reg ?_
 unfold s5_0
 refine os_ev (evq_mvk) ?_
 simp only [runOs, thenQ, blockQ, Vs.put, reduceIte, Nat.reduceEqDiff]
 refine sw_seq ?_
 refine sw_seq ?_
 refine sw_reg ?_
 unfold s5_1
 refine os_ev (evq_mvt rfl) ?_
 refine q10 ?_
 refine os_ev (evq_bin rfl rfl rfl) ?_
 simp only [runOs, thenQ, blockQ, Vs.put, reduceIte, Nat.reduceEqDiff]
 refine sw_cond rfl (fun h1 => ?_) (fun h1 => ?_)
 ·replace h1 := q1 h1
  refine sw_seq ?_
  refine sw_reg ?_
  unfold s5_2
  refine os_ev (evq_mvk) ?_
  simp only [Vs.put, reduceIte, Nat.reduceEqDiff]
  simp only [runOs, thenQ, blockQ, Vs.put, reduceIte, Nat.reduceEqDiff]
  refine sw_ret ?_
  refine q3 ?_
  first | exact leaves_vals rfl rfl rfl rfl | exact leaves_a rfl rfl rfl rfl
 ·replace h1 := q1 h1
  have hs : b.length < 2 ^ 46 := by omega
  refine sw_skip ?_
  simp only [thenQ, blockQ]
  refine sw_seq ?_
  refine sw_reg ?_
  unfold s5_3
  refine os_ev (evq_mvt rfl) ?_
  refine os_callo ?_
  refine q6 ?_
  refine ⟨_, _, runs27 b hs, _, rfl, _, rfl, by simp [handIo, handBx], fa_cons (⟨rfl, .inl rfl, by simp [handIo, handBx], _, rfl, by simp, by first | rfl | (simp; done) | exact (List.take_of_length_le (by simp)).symm⟩) (fa_nil), _, rfl, _, rfl, ?_⟩
  refine q7 ?_
  refine q11 ?_
  refine os_callo ?_
  refine q6 ?_
  refine ⟨_, _, runs26 b (by omega), _, rfl, _, rfl, by simp [handIo, handBx], fa_cons (⟨rfl, .inl rfl, by simp [handIo, handBx], _, rfl, by simp, by first | rfl | (simp; done) | exact (List.take_of_length_le (by simp)).symm⟩) (fa_nil), _, rfl, _, rfl, ?_⟩
  refine q7 ?_
  refine q11 ?_
  refine os_ev (evq_mvt rfl) ?_
  refine os_ev (evq_ext rfl rfl) ?_
  refine os_ev (evq_ext rfl rfl) ?_
  refine os_ev (evq_ext rfl rfl) ?_
  simp only [Vs.put, reduceIte, Nat.reduceEqDiff]
  refine os_ev (evq_mvt rfl) ?_
  refine os_ev (evq_mvt rfl) ?_
  refine os_ev (evq_mvt rfl) ?_
  simp only [runOs, thenQ, blockQ, Vs.put, reduceIte, Nat.reduceEqDiff]
  refine sw_seq ?_
  refine sw_reg ?_
  unfold s5_4
  refine os_ev (evq_mvt rfl) ?_
  refine os_callo ?_
  refine q6 ?_
  refine ⟨_, _, runs27 b hs, _, rfl, _, rfl, by simp [handIo, handBx], fa_cons (⟨rfl, .inl rfl, by simp [handIo, handBx], _, rfl, by simp, by first | rfl | (simp; done) | exact (List.take_of_length_le (by simp)).symm⟩) (fa_nil), _, rfl, _, rfl, ?_⟩
  refine q7 ?_
  refine q11 ?_
  refine os_ev (evq_mvt rfl) ?_
  simp only [Vs.put, reduceIte, Nat.reduceEqDiff]
  simp only [runOs, thenQ, blockQ, Vs.put, reduceIte, Nat.reduceEqDiff]
  refine sw_seq ?_
  refine sw_reg ?_
  unfold s5_5
  refine os_ev (evq_mvt rfl) ?_
  refine os_callo ?_
  refine q6 ?_
  refine ⟨_, _, runs28 b (by omega), _, rfl, _, rfl, by simp [handIo, handBx], fa_cons (⟨rfl, .inl rfl, by simp [handIo, handBx], _, rfl, by simp, by first | rfl | (simp; done) | exact (List.take_of_length_le (by simp)).symm⟩) (fa_nil), _, rfl, _, rfl, ?_⟩
  refine q7 ?_
  refine q11 ?_
  refine os_ev (evq_mvt rfl) ?_
  refine os_ev (evq_ext rfl rfl) ?_
  refine os_ev (evq_ext rfl rfl) ?_
  refine os_ev (evq_ext rfl rfl) ?_
  simp only [Vs.put, reduceIte, Nat.reduceEqDiff]
  refine os_ev (evq_mvt rfl) ?_
  refine os_ev (evq_mvt rfl) ?_
  refine os_ev (evq_mvt rfl) ?_
  simp only [runOs, thenQ, blockQ, Vs.put, reduceIte, Nat.reduceEqDiff]
  refine sw_seq ?_
  refine sw_seq ?_
  refine sw_reg ?_
  unfold s5_6
  refine os_ev (evq_mvt rfl) ?_
  refine os_ev (evq_mvt rfl) ?_
  simp only [Vs.put, reduceIte, Nat.reduceEqDiff]
  refine os_ev (evq_bin rfl rfl rfl) ?_
  simp only [bne_self_eq_false]
  refine os_ev (evq_mvt rfl) ?_
  refine os_gs rfl (fun g31 => ?_) (fun g31 => ?_)
  ·exact absurd g31 (by decide)
  ·try simp only [g31]
   replace g31 := q1 g31
   refine os_gdo rfl ?_
   refine os_ev (evq_mvt rfl) ?_
   refine os_gdo rfl ?_
   refine os_ev (evq_mvt rfl) ?_
   refine os_gdo rfl ?_
   refine os_ev (evq_bin rfl rfl rfl) ?_
   simp only [bne_self_eq_false]
   simp only [Vs.put, reduceIte, Nat.reduceEqDiff]
   refine os_ev (evq_pickf rfl rfl) ?_
   refine os_ev (evq_mvt rfl) ?_
   refine os_gs rfl (fun g36 => ?_) (fun g36 => ?_)
   ·exact absurd g36 (by decide)
   ·try simp only [g36]
    replace g36 := q1 g36
    refine os_gdo rfl ?_
    refine os_ev (evq_mvt rfl) ?_
    refine os_gdo rfl ?_
    refine os_ev (evq_mvt rfl) ?_
    refine os_gdo rfl ?_
    refine os_ev (evq_beq rfl rfl) ?_
    simp only [if_true, bne_self_eq_false]
    simp only [Vs.put, reduceIte, Nat.reduceEqDiff]
    refine os_ev (evq_pickf rfl rfl) ?_
    simp only [runOs, thenQ, blockQ, Vs.put, reduceIte, Nat.reduceEqDiff]
    refine sw_cond rfl (fun h3 => ?_) (fun h3 => ?_)
    ·exact absurd h3 (by decide)
    ·replace h3 := q1 h3
     refine sw_skip ?_
     simp only [thenQ, blockQ]
     refine sw_seq ?_
     refine sw_seq ?_
     refine sw_reg ?_
     unfold s5_8
     refine os_ev (evq_mvt rfl) ?_
     refine os_ev (evq_mvt rfl) ?_
     refine os_callo ?_
     refine q6 ?_
     refine ⟨_, _, runs27 b hs, _, rfl, _, rfl, by simp [handIo, handBx], fa_cons (⟨rfl, .inl rfl, by simp [handIo, handBx], _, rfl, by simp, by first | rfl | (simp; done) | exact (List.take_of_length_le (by simp)).symm⟩) (fa_nil), _, rfl, _, rfl, ?_⟩
     refine q7 ?_
     refine q11 ?_
     refine os_callo ?_
     refine q6 ?_
     refine ⟨_, _, runs23 b b (by omega), _, rfl, _, rfl, by simp [handIo, handBx], fa_cons (⟨rfl, .inl rfl, by simp [handIo, handBx], _, rfl, by simp, by first | rfl | (simp; done) | exact (List.take_of_length_le (by simp)).symm⟩) (fa_cons (⟨rfl, .inl rfl, by simp [handIo, handBx], _, rfl, by simp, by first | rfl | (simp; done) | exact (List.take_of_length_le (by simp)).symm⟩) (fa_nil)), _, rfl, _, rfl, ?_⟩
     refine q7 ?_
     simp only [decide_true]
     refine q11 ?_
     refine os_ev (evq_un rfl rfl) ?_
     simp only [runOs, thenQ, blockQ, Vs.put, reduceIte, Nat.reduceEqDiff]
     refine sw_cond rfl (fun h5 => ?_) (fun h5 => ?_)
     ·exact absurd h5 (by simp at h5)
     ·replace h5 := q1 h5
      refine sw_skip ?_
      simp only [thenQ, blockQ]
      refine sw_seq ?_
      refine sw_reg ?_
      unfold s5_10
      refine os_ev (evq_mvk) ?_
      simp only [Vs.put, reduceIte, Nat.reduceEqDiff]
      simp only [runOs, thenQ, blockQ, Vs.put, reduceIte, Nat.reduceEqDiff]
      refine sw_ret ?_
      refine q3 ?_
      first | exact leaves_vals rfl rfl rfl rfl | exact leaves_a rfl rfl rfl rfl
end Go.Proofs.Ytgbapgjdkoojdaa
