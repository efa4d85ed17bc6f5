import Derived.Test.YtgbapgjdkoojdaaVsQ
import Derived.Test.YtgbapgjdkoojdaaVsSh
import Derived.Test.YtgbapgjdkoojdaaVsE13
import Derived.Test.YtgbapgjdkoojdaaVsE4
import Derived.Test.YtgbapgjdkoojdaaVsW2
set_option linter.unusedVariables false
set_option linter.unusedSimpArgs false
namespace Go.Proofs.Ytgbapgjdkoojdaa
open Go.Vs
set_option linter.unusedSimpArgs false
set_option linter.unusedVariables false
set_option maxHeartbeats 1000000
theorem runs130 (w : Wr) (h : w.2.length < 2 ^ 46) : Runs Try.prog 130 [.val true [(.rd, .lf (.int .i64 w.1)), (.rd, .sl 1 (bD w.2))]] ⟨[(true, [.lf (.int .i64 w.1), .sl 1 (bD w.2)])], [], []⟩ := by
 obtain ⟨c, hb, hs⟩ := body_of tr130
 refine runs_of_sw (is := [.load (some 2) (.t 2)]) Try.func130 hb hs (by kernel_rfl) (show 1 ≤ 12 by decide) ?_
 clear hb hs c
 refine q15 ?_
 unfold s130
 refine sw_seq ?_
 refine sw_reg ?_
 unfold s130_0
 refine os_wro (by intros; nofun) ?_
 refine ⟨_, rfl, ?_⟩
 refine q2 ?_
 refine os_wro (by intros; nofun) ?_
 simp only [wr]
 refine q2 ?_
 simp only [runOs, thenQ, blockQ, Vs.put, reduceIte, Nat.reduceEqDiff]
 refine sw_seq ?_
 refine sw_reg ?_
 unfold s130_1
 refine os_wro (by intros; nofun) ?_
 simp only [wr]
 refine q2 ?_
 simp only [runOs, thenQ, blockQ, Vs.put, reduceIte, Nat.reduceEqDiff]
 refine sw_seq ?_
 refine sw_reg ?_
 unfold s130_2
 refine q5 ?_
 refine q0 ?_
 refine q8 ?_
 refine q0 ?_
 refine q5 ?_
 refine q0 ?_
 refine os_wro (by intros; nofun) ?_
 refine st_box rfl rfl rfl rfl (Nat.le_of_ble_eq_true rfl) ?_
 refine q0 ?_
 refine q2 ?_
 simp only [runOs, thenQ, blockQ, Vs.put, reduceIte, Nat.reduceEqDiff]
 refine sw_seq ?_
 refine sw_reg ?_
 unfold s130_3
 refine q5 ?_
 refine q0 ?_
 refine q8 ?_
 refine q0 ?_
 simp only [Vs.put, reduceIte, Nat.reduceEqDiff]
 refine os_callo ?_
 refine q6 ?_
 refine ⟨_, _, runs27 w.2 h, _, rfl, _, rfl, by simp [handIo, handBx], fa_cons (⟨rfl, .inl rfl, by simp [handIo, handBx], _, rfl, by simp, by first | rfl | (simp; done) | exact (List.take_of_length_le (by simp)).symm⟩) (fa_nil), _, rfl, _, rfl, ?_⟩
 refine q7 ?_
 refine q2 ?_
 refine q5 ?_
 refine q0 ?_
 refine os_wro (by intros; nofun) ?_
 refine st_box rfl rfl rfl rfl (Nat.le_of_ble_eq_true rfl) ?_
 refine q0 ?_
 refine q2 ?_
 simp only [runOs, thenQ, blockQ, Vs.put, reduceIte, Nat.reduceEqDiff]
 refine sw_seq ?_
 refine sw_reg ?_
 unfold s130_4
 refine q9 ?_
 refine q0 ?_
 refine os_wro (by intros; nofun) ?_
 refine st_box rfl rfl rfl rfl (Nat.le_of_ble_eq_true rfl) ?_
 refine q0 ?_
 refine q2 ?_
 simp only [runOs, thenQ, blockQ, Vs.put, reduceIte, Nat.reduceEqDiff]
 refine sw_ret ?_
 refine q3 ?_
 refine ⟨_, rfl, Nat.le_of_ble_eq_true rfl, ?_⟩
 refine q13 ?_
 exact leaves_a rfl rfl rfl (take_lf (take_cons rfl (by simp) rfl))
theorem runs96 (l : List (List UInt8)) (h : l.length < 2 ^ 40) (hb : ∀ b ∈ l, b.length < 2 ^ 46) : Runs Try.prog 96 [.val false [(.rd, .sl 1 (sD l))]] ⟨[(false, [.sl 1 (sD l)])], [], []⟩ := by
 obtain ⟨c, hb, hs⟩ := body_of tr96
 refine runs_of_sw Try.func96 hb hs rfl (show 1 ≤ 23 by decide) ?_
 clear hb hs c
 refine q23 ?_
 unfold s96
 refine sw_seq ?_
 refine sw_reg ?_
 unfold s96_0
 refine os_ev (evq_mvk) ?_
 simp only [runOs, thenQ, blockQ, Vs.put, reduceIte, Nat.reduceEqDiff]
 refine sw_seq ?_
 refine sw_reg ?_
 unfold s96_1
 refine os_ev (evq_mvt rfl) ?_
 refine q10 ?_
 refine os_wro (by intros; nofun) ?_
 refine mks_slices rfl rfl (by omega) (by omega) ?_
 refine q2 ?_
 refine os_ev (evq_mvt rfl) ?_
 simp only [runOs, thenQ, blockQ, Vs.put, reduceIte, Nat.reduceEqDiff]
 refine sw_seq ?_
 refine sw_seq ?_
 refine sw_reg ?_
 unfold s96_2
 refine os_ev (evq_mvk) ?_
 simp only [Vs.put, reduceIte, Nat.reduceEqDiff]
 simp only [runOs, thenQ, blockQ, Vs.put, reduceIte, Nat.reduceEqDiff]
 refine sw_block ?_
 refine sw_loop_upd [0, 3, 4] (α := Nat × List (List UInt8)) (fun (i, m) => [(4, .a (.c (.lf (.int .i64 (i : Nat)))))]) (fun (i, m) => [(1, .tr 1 (sD m)), (0, .im 1 (sD l))]) (2) (fun (i, m) => i ≤ l.length ∧ m.length = l.length ∧ m.take i = l.take i) (fun (i, m) => l.length - i) (0, List.replicate l.length []) [(1, 1), (0, 0)] ?_ (by decide) ?_ ?_ ?_
 ·exact ⟨Nat.zero_le _, by simp, by simp⟩
 ·simp only [sel, Vs.get, upd, Vs.put, reduceIte, Nat.reduceEqDiff]
  repeat' (first | exact er_nil | refine er_un ?_ | refine er_cons rfl ?_ ?_)
  all_goals (try simp only [V.map, A.map, renC, Vs.get, reduceIte, Nat.reduceEqDiff, List.map_cons, List.map_nil])
  all_goals (try rfl)
 ·repeat' (first | exact rr_nil | refine rr_cons 1 rfl rfl ?_ ?_ | refine rr_cons 0 rfl rfl ?_ ?_)
  all_goals (try simp only [renRoot, renC, Vs.get, reduceIte, Nat.reduceEqDiff, List.map_cons, List.map_nil])
  all_goals (try rfl)
 ·rintro ⟨i, m⟩ hinv
  simp only [sel, Vs.get, upd, Vs.put, reduceIte, Nat.reduceEqDiff]
  obtain ⟨hi, hl, htake⟩ := hinv
  refine sw_seq ?_
  refine sw_seq ?_
  refine sw_reg ?_
  unfold s96_3
  refine os_ev (evq_mvt rfl) ?_
  refine os_ev (evq_mvt rfl) ?_
  refine q10 ?_
  refine os_ev (evq_bin rfl rfl rfl) ?_
  simp only [runOs, thenQ, blockQ, Vs.put, reduceIte, Nat.reduceEqDiff]
  refine sw_cond rfl (fun h2 => ?_) (fun h2 => ?_)
  ·replace h2 := q1 h2
   have hib : i < l.length := by omega
   have him : i < m.length := by omega
   have e1 : IntKind.i64.wrap ((i : Int) + 1) = ((i + 1 : Nat) : Int) := by rw [wrap64 (by omega) (by omega)]; rfl
   refine sw_skip ?_
   simp only [thenQ, blockQ]
   refine sw_seq ?_
   refine sw_block ?_
   refine sw_reg ?_
   unfold s96_5
   refine os_ev (evq_mvt rfl) ?_
   simp only [Vs.put, reduceIte, Nat.reduceEqDiff]
   refine os_ev (evq_mvt rfl) ?_
   refine os_ev (evq_mvt rfl) ?_
   refine os_ev (evq_mvt rfl) ?_
   refine q14 ?_
   first | refine os_ev (evq_ldb rfl rfl rfl) ?_ | refine os_ev (evq_ldl rfl rfl (sD_get hib) rfl) ?_ | refine os_ev (evq_lds rfl rfl (sD_get hib) rfl) ?_ | refine os_ev (evq_ldl rfl rfl (rfl) rfl) ?_ | refine os_ev (evq_lds rfl rfl (rfl) rfl) ?_
   refine q0 ?_
   simp only [Vs.put, reduceIte, Nat.reduceEqDiff]
   refine os_callo ?_
   refine q6 ?_
   refine ⟨_, _, runs27 l[i] (hb _ (List.getElem_mem hib)), _, rfl, _, rfl, by simp [handIo, handBx], fa_cons (⟨rfl, .inl rfl, by simp [handIo, handBx], bD l[i], by simp [nodeIn, nodeAt, Vs.get, sD_get hib], by simp, by simp⟩) (fa_nil), _, rfl, _, rfl, ?_⟩
   refine q7 ?_
   refine q2 ?_
   refine q14 ?_
   refine os_wro (by intros; nofun) ?_
   refine st_slice rfl rfl rfl rfl (by simp) (by decide) rfl (sD_get him) (by simp) (Nat.zero_le _) ?_
   simp only [killRoots, Root.map, List.map_cons, List.map_nil, del, reduceIte, Nat.reduceEqDiff, List.nil_append, Vs.put]
   rw [sD_setS m i l[i] him]
   refine q21 ?_
   refine q2 ?_
   simp only [runOs, thenQ, blockQ, Vs.put, reduceIte, Nat.reduceEqDiff]
   refine sw_reg ?_
   unfold s96_4
   refine os_ev (evq_mvt rfl) ?_
   refine os_ev (evq_bin rfl rfl rfl) ?_
   refine os_ev (evq_mvt rfl) ?_
   simp only [runOs, thenQ, blockQ, Vs.put, reduceIte, Nat.reduceEqDiff]
   try simp only [thenQ, blockQ]
   refine ⟨(i + 1, m.set i l[i]), ?_, ?_, rfl, [(1, 1), (0, 0)], by decide, ?_, ?_⟩
   ·refine ⟨by omega, by simp [hl], ?_⟩
    rw [List.take_succ_eq_append_getElem (by simpa using him), List.take_succ_eq_append_getElem hib]
    simp only [List.getElem_set_self, List.take_set_of_le (Nat.le_refl i)]
    rw [htake]
   ·first | omega | (dsimp only; omega)
   ·simp only [sel, Vs.get, upd, Vs.put, reduceIte, Nat.reduceEqDiff]
    repeat' (first | exact er_nil | refine er_un ?_ | refine er_cons rfl ?_ ?_)
    all_goals (try simp only [V.map, A.map, renC, Vs.get, reduceIte, Nat.reduceEqDiff, List.map_cons, List.map_nil, e1])
   ·repeat' (first | exact rr_nil | refine rr_cons 1 rfl rfl ?_ ?_ | refine rr_cons 0 rfl rfl ?_ ?_)
    all_goals (try simp only [renRoot, renC, Vs.get, reduceIte, Nat.reduceEqDiff, List.map_cons, List.map_nil, e1])
  ·replace h2 := q1 h2
   have hib : i = l.length := by omega
   subst hib
   have hml : m = l := by rw [← List.take_length (l := m), hl, htake, List.take_length]
   subst hml
   refine sw_exit ?_
   refine q12 ?_
   refine sw_seq ?_
   refine sw_reg ?_
   unfold s96_6
   refine os_ev (evq_mvt rfl) ?_
   simp only [Vs.put, reduceIte, Nat.reduceEqDiff]
   refine os_ev (evq_mvt rfl) ?_
   simp only [runOs, thenQ, blockQ, Vs.put, reduceIte, Nat.reduceEqDiff]
   refine sw_ret ?_
   refine q3 ?_
   first | exact leaves_vals rfl rfl rfl (take_one rfl (by simp)) | exact leaves_a rfl rfl rfl (take_one rfl (by simp))
theorem runs97 (l : List Wr) (h : l.length < 2 ^ 40) (hb : ∀ w ∈ l, w.2.length < 2 ^ 46) : Runs Try.prog 97 [.val false [(.rd, .sl 2 (wD l))]] ⟨[(false, [.sl 2 (wD l)])], [], []⟩ := by
 obtain ⟨c, hb, hs⟩ := body_of tr97
 refine runs_of_sw Try.func97 hb hs rfl (show 1 ≤ 23 by decide) ?_
 clear hb hs c
 refine q26 ?_
 unfold s97
 refine sw_seq ?_
 refine sw_reg ?_
 unfold s97_0
 refine os_ev (evq_mvk) ?_
 simp only [runOs, thenQ, blockQ, Vs.put, reduceIte, Nat.reduceEqDiff]
 refine sw_seq ?_
 refine sw_reg ?_
 unfold s97_1
 refine os_ev (evq_mvt rfl) ?_
 refine q10 ?_
 refine os_wro (by intros; nofun) ?_
 refine mks_wr rfl rfl (by omega) (by omega) ?_
 refine q2 ?_
 refine os_ev (evq_mvt rfl) ?_
 simp only [runOs, thenQ, blockQ, Vs.put, reduceIte, Nat.reduceEqDiff]
 refine sw_seq ?_
 refine sw_seq ?_
 refine sw_reg ?_
 unfold s97_2
 refine os_ev (evq_mvk) ?_
 simp only [Vs.put, reduceIte, Nat.reduceEqDiff]
 simp only [runOs, thenQ, blockQ, Vs.put, reduceIte, Nat.reduceEqDiff]
 refine sw_block ?_
 refine sw_loop_upd [0, 3, 4] (α := Nat × List Wr) (fun (i, m) => [(4, .a (.c (.lf (.int .i64 (i : Nat)))))]) (fun (i, m) => [(1, .tr 2 (wD m)), (0, .im 2 (wD l))]) (2) (fun (i, m) => i ≤ l.length ∧ m.length = l.length ∧ m.take i = l.take i) (fun (i, m) => l.length - i) (0, List.replicate l.length (0, [])) [(1, 1), (0, 0)] ?_ (by decide) ?_ ?_ ?_
 ·exact ⟨Nat.zero_le _, by simp, by simp⟩
 ·simp only [sel, Vs.get, upd, Vs.put, reduceIte, Nat.reduceEqDiff]
  repeat' (first | exact er_nil | refine er_un ?_ | refine er_cons rfl ?_ ?_)
  all_goals (try simp only [V.map, A.map, renC, Vs.get, reduceIte, Nat.reduceEqDiff, List.map_cons, List.map_nil])
  all_goals (try rfl)
 ·repeat' (first | exact rr_nil | refine rr_cons 1 rfl rfl ?_ ?_ | refine rr_cons 0 rfl rfl ?_ ?_)
  all_goals (try simp only [renRoot, renC, Vs.get, reduceIte, Nat.reduceEqDiff, List.map_cons, List.map_nil])
  all_goals (try rfl)
 ·rintro ⟨i, m⟩ hinv
  simp only [sel, Vs.get, upd, Vs.put, reduceIte, Nat.reduceEqDiff]
  obtain ⟨hi, hl, htake⟩ := hinv
  refine sw_seq ?_
  refine sw_seq ?_
  refine sw_reg ?_
  unfold s97_3
  refine os_ev (evq_mvt rfl) ?_
  refine os_ev (evq_mvt rfl) ?_
  refine q10 ?_
  refine os_ev (evq_bin rfl rfl rfl) ?_
  simp only [runOs, thenQ, blockQ, Vs.put, reduceIte, Nat.reduceEqDiff]
  refine sw_cond rfl (fun h2 => ?_) (fun h2 => ?_)
  ·replace h2 := q1 h2
   have hib : i < l.length := by omega
   have him : i < m.length := by omega
   have e1 : IntKind.i64.wrap ((i : Int) + 1) = ((i + 1 : Nat) : Int) := by rw [wrap64 (by omega) (by omega)]; rfl
   refine sw_skip ?_
   simp only [thenQ, blockQ]
   refine sw_seq ?_
   refine sw_block ?_
   refine sw_reg ?_
   unfold s97_5
   refine os_ev (evq_mvt rfl) ?_
   simp only [Vs.put, reduceIte, Nat.reduceEqDiff]
   refine os_ev (evq_mvt rfl) ?_
   refine os_ev (evq_mvt rfl) ?_
   refine os_ev (evq_mvt rfl) ?_
   refine q14 ?_
   first | refine os_ev (evq_lgb rfl rfl (Nat.le_of_ble_eq_true rfl) rfl) ?_ | refine os_ev (evq_lge rfl rfl (wD_get hib) (Nat.le_of_ble_eq_true rfl) rfl) ?_ | refine os_ev (evq_lge rfl rfl (rfl) (Nat.le_of_ble_eq_true rfl) rfl) ?_
   refine q0 ?_
   simp only [Vs.put, reduceIte, Nat.reduceEqDiff]
   refine os_callo ?_
   refine q6 ?_
   refine ⟨_, _, runs130 l[i] (hb _ (List.getElem_mem hib)), _, rfl, _, rfl, by simp [handIo, handBx], fa_cons (rfl) (fa_cons (⟨rfl, .inl rfl, by simp [handIo, handBx], bD l[i].2, by simp [nodeIn, nodeAt, Vs.get, wD_get hib], by simp, by simp⟩) (fa_nil)), _, rfl, _, rfl, ?_⟩
   refine q7 ?_
   refine q2 ?_
   refine q14 ?_
   refine os_wro (by intros; nofun) ?_
   refine st_pair rfl rfl rfl rfl (by simp) (by decide) (wD_get him) (Nat.zero_le _) ?_
   simp only [killRoots, Root.map, List.map_cons, List.map_nil, del, reduceIte, Nat.reduceEqDiff, List.nil_append, Vs.put]
   rw [wD_setP m i l[i]]
   refine q21 ?_
   refine q2 ?_
   simp only [runOs, thenQ, blockQ, Vs.put, reduceIte, Nat.reduceEqDiff]
   refine sw_reg ?_
   unfold s97_4
   refine os_ev (evq_mvt rfl) ?_
   refine os_ev (evq_bin rfl rfl rfl) ?_
   refine os_ev (evq_mvt rfl) ?_
   simp only [runOs, thenQ, blockQ, Vs.put, reduceIte, Nat.reduceEqDiff]
   try simp only [thenQ, blockQ]
   refine ⟨(i + 1, m.set i l[i]), ?_, ?_, rfl, [(1, 1), (0, 0)], by decide, ?_, ?_⟩
   ·refine ⟨by omega, by simp [hl], ?_⟩
    rw [List.take_succ_eq_append_getElem (by simpa using him), List.take_succ_eq_append_getElem hib]
    simp only [List.getElem_set_self, List.take_set_of_le (Nat.le_refl i)]
    rw [htake]
   ·first | omega | (dsimp only; omega)
   ·simp only [sel, Vs.get, upd, Vs.put, reduceIte, Nat.reduceEqDiff]
    repeat' (first | exact er_nil | refine er_un ?_ | refine er_cons rfl ?_ ?_)
    all_goals (try simp only [V.map, A.map, renC, Vs.get, reduceIte, Nat.reduceEqDiff, List.map_cons, List.map_nil, e1])
   ·repeat' (first | exact rr_nil | refine rr_cons 1 rfl rfl ?_ ?_ | refine rr_cons 0 rfl rfl ?_ ?_)
    all_goals (try simp only [renRoot, renC, Vs.get, reduceIte, Nat.reduceEqDiff, List.map_cons, List.map_nil, e1])
  ·replace h2 := q1 h2
   have hib : i = l.length := by omega
   subst hib
   have hml : m = l := by rw [← List.take_length (l := m), hl, htake, List.take_length]
   subst hml
   refine sw_exit ?_
   refine q12 ?_
   refine sw_seq ?_
   refine sw_reg ?_
   unfold s97_6
   refine os_ev (evq_mvt rfl) ?_
   simp only [Vs.put, reduceIte, Nat.reduceEqDiff]
   refine os_ev (evq_mvt rfl) ?_
   simp only [runOs, thenQ, blockQ, Vs.put, reduceIte, Nat.reduceEqDiff]
   refine sw_ret ?_
   refine q3 ?_
   first | exact leaves_vals rfl rfl rfl (take_one rfl (by simp)) | exact leaves_a rfl rfl rfl (take_one rfl (by simp))
theorem runs40 (secs : List (List UInt8)) (cache : List Wr) (fuse : Int) (down : Bool) (hl : secs.length < 2 ^ 40) (hb : ∀ b ∈ secs, b.length < 2 ^ 46) (hm : cache.length < 2 ^ 40) (hc : ∀ w ∈ cache, w.2.length < 2 ^ 46) : Runs Try.prog 40 [.val true [(.rd, .sl 1 (sD secs)), (.rd, .sl 2 (wD cache)), (.rd, .lf (.int .i64 fuse)), (.rd, .lf (.bool down))]] ⟨[(true, [.sl 1 (sD secs), .sl 2 (wD cache), .lf (.int .i64 fuse), .lf (.bool down)])], [], []⟩ := by
 obtain ⟨c, hb, hs⟩ := body_of tr40
 refine runs_of_sw (is := [.load (some 4) (.t 2)]) Try.func40 hb hs (by kernel_rfl) (show 1 ≤ 19 by decide) ?_
 clear hb hs c
 refine q17 ?_
 unfold s40
 refine sw_seq ?_
 refine sw_reg ?_
 unfold s40_0
 refine os_wro (by intros; nofun) ?_
 refine ⟨_, rfl, ?_⟩
 refine q2 ?_
 refine os_wro (by intros; nofun) ?_
 simp only [wr]
 refine q2 ?_
 simp only [runOs, thenQ, blockQ, Vs.put, reduceIte, Nat.reduceEqDiff]
 refine sw_seq ?_
 refine sw_reg ?_
 unfold s40_1
 refine os_wro (by intros; nofun) ?_
 simp only [wr]
 refine q2 ?_
 simp only [runOs, thenQ, blockQ, Vs.put, reduceIte, Nat.reduceEqDiff]
 refine sw_seq ?_
 refine sw_reg ?_
 unfold s40_2
 refine q5 ?_
 refine q0 ?_
 refine q8 ?_
 refine q0 ?_
 refine os_callo ?_
 refine q6 ?_
 refine ⟨_, _, runs96 secs hl hb, _, rfl, _, rfl, by simp [handIo, handBx], fa_cons (⟨rfl, .inl rfl, by simp [handIo, handBx], _, rfl, by simp, by first | rfl | (simp; done) | exact (List.take_of_length_le (by simp)).symm⟩) (fa_nil), _, rfl, _, rfl, ?_⟩
 refine q7 ?_
 refine q2 ?_
 refine q5 ?_
 refine q0 ?_
 refine os_wro (by intros; nofun) ?_
 refine st_box rfl rfl rfl rfl (Nat.le_of_ble_eq_true rfl) ?_
 refine q0 ?_
 refine q2 ?_
 simp only [runOs, thenQ, blockQ, Vs.put, reduceIte, Nat.reduceEqDiff]
 refine sw_seq ?_
 refine sw_reg ?_
 unfold s40_3
 refine q5 ?_
 refine q0 ?_
 refine q8 ?_
 refine q0 ?_
 simp only [Vs.put, reduceIte, Nat.reduceEqDiff]
 refine os_callo ?_
 refine q6 ?_
 refine ⟨_, _, runs97 cache hm hc, _, rfl, _, rfl, by simp [handIo, handBx], fa_cons (⟨rfl, .inl rfl, by simp [handIo, handBx], _, rfl, by simp, by first | rfl | (simp; done) | exact (List.take_of_length_le (by simp)).symm⟩) (fa_nil), _, rfl, _, rfl, ?_⟩
 refine q7 ?_
 refine q2 ?_
 refine q5 ?_
 refine q0 ?_
 refine os_wro (by intros; nofun) ?_
 refine st_box rfl rfl rfl rfl (Nat.le_of_ble_eq_true rfl) ?_
 refine q0 ?_
 refine q2 ?_
 simp only [runOs, thenQ, blockQ, Vs.put, reduceIte, Nat.reduceEqDiff]
 refine sw_seq ?_
 refine sw_reg ?_
 unfold s40_4
 refine q5 ?_
 refine q0 ?_
 refine q8 ?_
 refine q0 ?_
 refine q5 ?_
 refine q0 ?_
 refine os_wro (by intros; nofun) ?_
 refine st_box rfl rfl rfl rfl (Nat.le_of_ble_eq_true rfl) ?_
 refine q0 ?_
 refine q2 ?_
 simp only [runOs, thenQ, blockQ, Vs.put, reduceIte, Nat.reduceEqDiff]
 refine sw_seq ?_
 refine sw_reg ?_
 unfold s40_5
 refine q5 ?_
 refine q0 ?_
 simp only [Vs.put, reduceIte, Nat.reduceEqDiff]
 refine q8 ?_
 refine q0 ?_
 refine q5 ?_
 refine q0 ?_
 refine os_wro (by intros; nofun) ?_
 refine st_box rfl rfl rfl rfl (Nat.le_of_ble_eq_true rfl) ?_
 refine q0 ?_
 refine q2 ?_
 simp only [runOs, thenQ, blockQ, Vs.put, reduceIte, Nat.reduceEqDiff]
 refine sw_seq ?_
 refine sw_reg ?_
 unfold s40_6
 refine q9 ?_
 refine q0 ?_
 refine os_wro (by intros; nofun) ?_
 refine st_box rfl rfl rfl rfl (Nat.le_of_ble_eq_true rfl) ?_
 refine q0 ?_
 refine q2 ?_
 simp only [runOs, thenQ, blockQ, Vs.put, reduceIte, Nat.reduceEqDiff]
 refine sw_ret ?_
 refine q3 ?_
 refine ⟨_, rfl, Nat.le_of_ble_eq_true rfl, ?_⟩
 refine q13 ?_
 exact leaves_a rfl rfl rfl (take_cons rfl (by simp) (take_cons rfl (by simp) (take_lf (take_lf rfl))))
end Go.Proofs.Ytgbapgjdkoojdaa
