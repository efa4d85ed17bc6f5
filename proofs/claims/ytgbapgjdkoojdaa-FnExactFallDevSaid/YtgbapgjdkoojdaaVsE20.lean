import Derived.Test.YtgbapgjdkoojdaaVsQ
import Derived.Test.YtgbapgjdkoojdaaVsSh
import Derived.Test.YtgbapgjdkoojdaaVsE4
import Derived.Test.YtgbapgjdkoojdaaVsW2
set_option linter.unusedVariables false
set_option linter.unusedSimpArgs false
namespace Go.Proofs.Ytgbapgjdkoojdaa
open Go.Vs
set_option linter.unusedSimpArgs false
set_option linter.unusedVariables false
set_option maxHeartbeats 1000000

theorem devNo {secs : List (List UInt8)} {cache : List Wr} {fuse : Int} (h : ¬ ((1 ≤ secs.length ∧ secs.length ≤ 64) ∧ cache.length ≤ 40 ∧ (-1 ≤ fuse ∧ fuse ≤ 1000) ∧ (∀ b ∈ secs, b.length ≤ 120) ∧ ∀ w ∈ cache, 0 ≤ w.1 ∧ w.1 ≤ (secs.length : Int) - 1 ∧ w.2.length ≤ 120)) : devOk secs cache fuse = false := decide_eq_false h
theorem devYes {secs : List (List UInt8)} {cache : List Wr} {fuse : Int} (h : (1 ≤ secs.length ∧ secs.length ≤ 64) ∧ cache.length ≤ 40 ∧ (-1 ≤ fuse ∧ fuse ≤ 1000) ∧ (∀ b ∈ secs, b.length ≤ 120) ∧ ∀ w ∈ cache, 0 ≤ w.1 ∧ w.1 ≤ (secs.length : Int) - 1 ∧ w.2.length ≤ 120) : devOk secs cache fuse = true := decide_eq_true h
theorem runs39 (secs : List (List UInt8)) (cache : List Wr) (fuse : Int) (down : Bool) (hl : secs.length < 2 ^ 62) (hm : cache.length < 2 ^ 62) : Runs Try.prog 39 [.val true [(.rd, .sl 1 (sD secs)), (.rd, .sl 2 (wD cache)), (.rd, .lf (.int .i64 fuse)), (.rd, .lf (.bool down))]] ⟨[(false, [.lf (.bool (devOk secs cache fuse))])], [], []⟩ := by
 obtain ⟨c, hb, hs⟩ := body_of tr39
 refine runs_of_sw Try.func39 hb hs rfl (show 1 ≤ 63 by decide) ?_
 clear hb hs c
 refine q17 ?_
 unfold s39
 refine sw_seq ?_
 refine sw_reg ?_
 unfold s39_0
 refine os_wro (by intros; nofun) ?_
 refine ⟨_, rfl, ?_⟩
 refine q2 ?_
 refine os_ev (evq_mvk) ?_
 simp only [runOs, thenQ, blockQ, Vs.put, reduceIte, Nat.reduceEqDiff]
 refine sw_seq ?_
 refine sw_seq ?_
 refine sw_reg ?_
 unfold s39_1
 refine os_ev (evq_mvk) ?_
 simp only [runOs, thenQ, blockQ, Vs.put, reduceIte, Nat.reduceEqDiff]
 refine sw_block ?_
 refine sw_loop_upd [1, 3, 39, 40, 41, 42, 43, 44, 45, 46, 53, 54, 55, 56, 59, 60, 61] (α := Nat) (fun i => [(3, .a (.c (.lf (.int .i64 (i : Nat)))))]) (fun i => [(2, .bx [.rf 0 [] 1 0 secs.length, .rf 1 [] 2 0 cache.length, .lf (.int .i64 fuse), .lf (.bool down)]), (0, .im 1 (sD secs)), (1, .im 2 (wD cache))]) (3) (fun i => i ≤ secs.length ∧ ∀ j (hj : j < secs.length), j < i → secs[j].length ≤ 120) (fun i => secs.length - i) (0) [(2, 2), (0, 0), (1, 1)] ?_ (by decide) ?_ ?_ ?_
 ·exact ⟨Nat.zero_le _, fun j hj h => absurd h (Nat.not_lt_zero _)⟩
 ·simp only [sel, Vs.get, upd, Vs.put, reduceIte, Nat.reduceEqDiff]
  repeat' (first | exact er_nil | refine er_un ?_ | refine er_cons rfl ?_ ?_)
  all_goals (try simp only [V.map, A.map, renC, Vs.get, reduceIte, Nat.reduceEqDiff, List.map_cons, List.map_nil])
  all_goals (try rfl)
 ·repeat' (first | exact rr_nil | refine rr_cons 2 rfl rfl ?_ ?_ | refine rr_cons 0 rfl rfl ?_ ?_ | refine rr_cons 1 rfl rfl ?_ ?_)
  all_goals (try simp only [renRoot, renC, Vs.get, reduceIte, Nat.reduceEqDiff, List.map_cons, List.map_nil])
  all_goals (try rfl)
 ·rintro i hinv
  simp only [sel, Vs.get, upd, Vs.put, reduceIte, Nat.reduceEqDiff]
  obtain ⟨hi, hall⟩ := hinv
  refine sw_seq ?_
  refine sw_seq ?_
  refine sw_reg ?_
  unfold s39_2
  refine os_ev (evq_mvt rfl) ?_
  refine q5 ?_
  refine q0 ?_
  refine q8 ?_
  refine q0 ?_
  simp only [Vs.put, reduceIte, Nat.reduceEqDiff]
  refine q10 ?_
  refine os_ev (evq_bin rfl rfl rfl) ?_
  simp only [runOs, thenQ, blockQ, Vs.put, reduceIte, Nat.reduceEqDiff]
  refine sw_cond rfl (fun h2 => ?_) (fun h2 => ?_)
  ·replace h2 := q1 h2
   have hib : i < secs.length := by omega
   have e1 : IntKind.i64.wrap ((i : Int) + 1) = ((i + 1 : Nat) : Int) := by rw [wrap64 (by omega) (by omega)]; rfl
   refine sw_skip ?_
   simp only [thenQ, blockQ]
   refine sw_seq ?_
   refine sw_block ?_
   refine sw_seq ?_
   refine sw_reg ?_
   unfold s39_4
   refine q5 ?_
   refine q0 ?_
   refine q8 ?_
   refine q0 ?_
   refine os_ev (evq_mvt rfl) ?_
   simp only [Vs.put, reduceIte, Nat.reduceEqDiff]
   refine q14 ?_
   first | refine os_ev (evq_ldb rfl rfl rfl) ?_ | refine os_ev (evq_ldl rfl rfl (sD_get hib) rfl) ?_ | refine os_ev (evq_lds rfl rfl (sD_get hib) rfl) ?_ | refine os_ev (evq_ldl rfl rfl (rfl) rfl) ?_ | refine os_ev (evq_lds rfl rfl (rfl) rfl) ?_
   refine q0 ?_
   refine q10 ?_
   refine os_ev (evq_bin rfl rfl rfl) ?_
   simp only [runOs, thenQ, blockQ, Vs.put, reduceIte, Nat.reduceEqDiff]
   refine sw_cond rfl (fun h3 => ?_) (fun h3 => ?_)
   ·replace h3 := q1 h3
    refine sw_seq ?_
    refine sw_reg ?_
    unfold s39_5
    refine os_ev (evq_mvk) ?_
    simp only [Vs.put, reduceIte, Nat.reduceEqDiff]
    simp only [runOs, thenQ, blockQ, Vs.put, reduceIte, Nat.reduceEqDiff]
    refine sw_ret ?_
    refine q3 ?_
    rw [devNo fun hh => by have := hh.2.2.2.1 _ (List.getElem_mem hib); omega]
    first | exact leaves_vals rfl rfl rfl rfl | exact leaves_a rfl rfl rfl rfl
   ·replace h3 := q1 h3
    refine sw_skip ?_
    simp only [thenQ, blockQ]
    refine sw_reg ?_
    unfold s39_3
    refine os_ev (evq_mvt rfl) ?_
    refine os_ev (evq_bin rfl rfl rfl) ?_
    refine os_ev (evq_mvt rfl) ?_
    simp only [runOs, thenQ, blockQ, Vs.put, reduceIte, Nat.reduceEqDiff]
    try simp only [thenQ, blockQ]
    refine ⟨i + 1, ?_, ?_, rfl, [(2, 2), (0, 0), (1, 1)], by decide, ?_, ?_⟩
    ·refine ⟨by omega, fun j hj h => ?_⟩
     by_cases hji : j = i
     ·subst hji; omega
     ·exact hall j hj (by omega)
    ·first | omega | (dsimp only; omega)
    ·simp only [sel, Vs.get, upd, Vs.put, reduceIte, Nat.reduceEqDiff]
     repeat' (first | exact er_nil | refine er_un ?_ | refine er_cons rfl ?_ ?_)
     all_goals (try simp only [V.map, A.map, renC, Vs.get, reduceIte, Nat.reduceEqDiff, List.map_cons, List.map_nil, e1])
    ·repeat' (first | exact rr_nil | refine rr_cons 2 rfl rfl ?_ ?_ | refine rr_cons 0 rfl rfl ?_ ?_ | refine rr_cons 1 rfl rfl ?_ ?_)
     all_goals (try simp only [renRoot, renC, Vs.get, reduceIte, Nat.reduceEqDiff, List.map_cons, List.map_nil, e1])
  ·replace h2 := q1 h2
   have hib : i = secs.length := by omega
   subst hib
   have hS : ∀ b ∈ secs, b.length ≤ 120 := all_upto fun j hj => hall j hj (by omega)
   refine sw_exit ?_
   refine q12 ?_
   refine sw_seq ?_
   refine sw_seq ?_
   refine sw_reg ?_
   unfold s39_6
   refine os_ev (evq_mvk) ?_
   simp only [runOs, thenQ, blockQ, Vs.put, reduceIte, Nat.reduceEqDiff]
   refine sw_block ?_
   refine sw_loop_upd [1, 4, 39, 40, 41, 42, 43, 44, 45, 46, 53, 54, 55, 56, 59, 60, 61] (α := Nat) (fun k => [(4, .a (.c (.lf (.int .i64 (k : Nat)))))]) (fun k => [(2, .bx [.rf 0 [] 1 0 secs.length, .rf 1 [] 2 0 cache.length, .lf (.int .i64 fuse), .lf (.bool down)]), (0, .im 1 (sD secs)), (1, .im 2 (wD cache))]) (3) (fun k => k ≤ cache.length ∧ ∀ j (hj : j < cache.length), j < k → 0 ≤ cache[j].1 ∧ cache[j].1 ≤ (secs.length : Int) - 1 ∧ cache[j].2.length ≤ 120) (fun k => cache.length - k) (0) [(2, 2), (0, 0), (1, 1)] ?_ (by decide) ?_ ?_ ?_
   ·exact ⟨Nat.zero_le _, fun j hj h => absurd h (Nat.not_lt_zero _)⟩
   ·simp only [sel, Vs.get, upd, Vs.put, reduceIte, Nat.reduceEqDiff]
    repeat' (first | exact er_nil | refine er_un ?_ | refine er_cons rfl ?_ ?_)
    all_goals (try simp only [V.map, A.map, renC, Vs.get, reduceIte, Nat.reduceEqDiff, List.map_cons, List.map_nil])
    all_goals (try rfl)
   ·repeat' (first | exact rr_nil | refine rr_cons 2 rfl rfl ?_ ?_ | refine rr_cons 0 rfl rfl ?_ ?_ | refine rr_cons 1 rfl rfl ?_ ?_)
    all_goals (try simp only [renRoot, renC, Vs.get, reduceIte, Nat.reduceEqDiff, List.map_cons, List.map_nil])
    all_goals (try rfl)
   ·rintro k hinv
    simp only [sel, Vs.get, upd, Vs.put, reduceIte, Nat.reduceEqDiff]
    obtain ⟨hk, hcl⟩ := hinv
    refine sw_seq ?_
    refine sw_seq ?_
    refine sw_reg ?_
    unfold s39_7
    refine os_ev (evq_mvt rfl) ?_
    simp only [Vs.put, reduceIte, Nat.reduceEqDiff]
    refine q5 ?_
    refine q0 ?_
    refine q8 ?_
    refine q0 ?_
    refine q10 ?_
    refine os_ev (evq_bin rfl rfl rfl) ?_
    simp only [runOs, thenQ, blockQ, Vs.put, reduceIte, Nat.reduceEqDiff]
    refine sw_cond rfl (fun h6 => ?_) (fun h6 => ?_)
    ·replace h6 := q1 h6
     have hkb : k < cache.length := by omega
     have e1 : IntKind.i64.wrap ((k : Int) + 1) = ((k + 1 : Nat) : Int) := by rw [wrap64 (by omega) (by omega)]; rfl
     have e0 : IntKind.i64.wrap ((secs.length : Int) - 1) = (secs.length : Int) - 1 := wrap64 (by omega) (by omega)
     refine sw_skip ?_
     simp only [thenQ, blockQ]
     refine sw_seq ?_
     refine sw_block ?_
     refine sw_seq ?_
     refine sw_go rfl rfl ?_
     unfold s39_9
     first | refine rd_ev (evq_fadb rfl) rfl ?_ | refine rd_ev (evq_fade rfl) rfl ?_
     refine q0 ?_
     first | refine rd_m0 (evq_ldb rfl rfl rfl) fa_nil (Nat.not_lt.2 (Nat.le_of_ble_eq_true rfl)) ?_ | refine rd_m0 (evq_ldl rfl rfl (rfl) rfl) fa_nil (Nat.not_lt.2 (Nat.le_of_ble_eq_true rfl)) ?_ | refine rd_m0 (evq_lds rfl rfl (rfl) rfl) fa_nil (Nat.not_lt.2 (Nat.le_of_ble_eq_true rfl)) ?_
     refine q0 ?_
     refine rd_ev (evq_mvt rfl) rfl ?_
     first | refine rd_ev (evq_iad rfl rfl rfl (by omega)) rfl ?_ | refine rd_ev (evq_iad rfl rfl rfl (by simp)) rfl ?_
     first | refine rd_ev (evq_fadb rfl) rfl ?_ | refine rd_ev (evq_fade rfl) rfl ?_
     refine q0 ?_
     simp only [Vs.put, reduceIte, Nat.reduceEqDiff]
     first | refine rd_m0 (evq_ldb rfl rfl rfl) fa_nil (Nat.not_lt.2 (Nat.le_of_ble_eq_true rfl)) ?_ | refine rd_m0 (evq_ldl rfl rfl (wD_get hkb) rfl) fa_nil (Nat.not_lt.2 (Nat.le_of_ble_eq_true rfl)) ?_ | refine rd_m0 (evq_lds rfl rfl (wD_get hkb) rfl) fa_nil (Nat.not_lt.2 (Nat.le_of_ble_eq_true rfl)) ?_ | refine rd_m0 (evq_ldl rfl rfl (rfl) rfl) fa_nil (Nat.not_lt.2 (Nat.le_of_ble_eq_true rfl)) ?_ | refine rd_m0 (evq_lds rfl rfl (rfl) rfl) fa_nil (Nat.not_lt.2 (Nat.le_of_ble_eq_true rfl)) ?_
     refine q0 ?_
     first | refine rd_ev (evq_fadb rfl) rfl ?_ | refine rd_ev (evq_fade rfl) rfl ?_
     refine q0 ?_
     first | refine rd_m0 (evq_ldb rfl rfl rfl) fa_nil (Nat.not_lt.2 (Nat.le_of_ble_eq_true rfl)) ?_ | refine rd_m0 (evq_ldl rfl rfl (rfl) rfl) fa_nil (Nat.not_lt.2 (Nat.le_of_ble_eq_true rfl)) ?_ | refine rd_m0 (evq_lds rfl rfl (rfl) rfl) fa_nil (Nat.not_lt.2 (Nat.le_of_ble_eq_true rfl)) ?_
     refine q0 ?_
     first | refine rd_ev (evq_lenr rfl) rfl ?_ | refine rd_ev (evq_lenn rfl) rfl ?_
     refine rd_ev (evq_bin rfl rfl rfl) rfl ?_
     refine rd_call ?_
     refine q6 ?_
     simp only [e0]
     refine ⟨_, _, runs74 cache[k].1 0 ((secs.length : Int) - 1), _, rfl, _, rfl, by simp [handIo, handBx], fa_cons (rfl) (fa_cons (rfl) (fa_cons (rfl) (fa_nil))), _, rfl, _, rfl, ?_⟩
     refine q7 ?_
     refine ⟨by first | rfl | trivial, fa_nil, ?_⟩
     refine q2 ?_
     refine rd_ev (evq_un rfl rfl) rfl ?_
     simp only [Vs.put, reduceIte, Nat.reduceEqDiff]
     refine rd_ev (evq_mvt rfl) rfl ?_
     refine rd_gs rfl (fun g38 => ?_) (fun g38 => ?_)
     ·try simp only [g38]
      replace g38 := q1 g38
      refine rd_gno rfl (by decide) ?_
      refine rd_gno rfl (by decide) ?_
      refine rd_gno rfl (by decide) ?_
      simp only [Vs.put, reduceIte, Nat.reduceEqDiff]
      refine rd_gno rfl (by decide) ?_
      refine rd_gno rfl (by decide) ?_
      refine rd_gno rfl (by decide) ?_
      refine rd_gno rfl (by decide) ?_
      simp only [Vs.put, reduceIte, Nat.reduceEqDiff]
      refine rd_gno rfl (by decide) ?_
      refine rd_ev (evq_pickt rfl rfl) rfl ?_
      refine rd_nil ?_
      simp only [thenQ, blockQ, Vs.put, reduceIte, Nat.reduceEqDiff]
      refine sw_cond rfl (fun h7 => ?_) (fun h7 => ?_)
      ·replace h7 := q1 h7
       refine sw_seq ?_
       refine sw_reg ?_
       unfold s39_10
       refine os_ev (evq_mvk) ?_
       simp only [runOs, thenQ, blockQ, Vs.put, reduceIte, Nat.reduceEqDiff]
       refine sw_ret ?_
       refine q3 ?_
       rw [devNo fun hh => by have := hh.2.2.2.2 _ (List.getElem_mem hkb); omega]
       first | exact leaves_vals rfl rfl rfl rfl | exact leaves_a rfl rfl rfl rfl
      ·exact absurd h7 (by simp at h7)
     ·try simp only [g38]
      replace g38 := q1 g38
      refine rd_gdo rfl ?_
      first | refine rd_ev (evq_fadb rfl) rfl ?_ | refine rd_ev (evq_fade rfl) rfl ?_
      refine q0 ?_
      simp only [Vs.put, reduceIte, Nat.reduceEqDiff]
      refine rd_gdo rfl ?_
      first | refine rd_m0 (evq_ldb rfl rfl rfl) fa_nil (Nat.not_lt.2 (Nat.le_of_ble_eq_true rfl)) ?_ | refine rd_m0 (evq_ldl rfl rfl (rfl) rfl) fa_nil (Nat.not_lt.2 (Nat.le_of_ble_eq_true rfl)) ?_ | refine rd_m0 (evq_lds rfl rfl (rfl) rfl) fa_nil (Nat.not_lt.2 (Nat.le_of_ble_eq_true rfl)) ?_
      refine q0 ?_
      refine rd_gdo rfl ?_
      refine rd_ev (evq_mvt rfl) rfl ?_
      refine rd_gdo rfl ?_
      first | refine rd_ev (evq_iad rfl rfl rfl (by omega)) rfl ?_ | refine rd_ev (evq_iad rfl rfl rfl (by simp)) rfl ?_
      refine rd_gdo rfl ?_
      first | refine rd_ev (evq_fadb rfl) rfl ?_ | refine rd_ev (evq_fade rfl) rfl ?_
      refine q0 ?_
      refine rd_gdo rfl ?_
      first | refine rd_m0 (evq_ldb rfl rfl rfl) fa_nil (Nat.not_lt.2 (Nat.le_of_ble_eq_true rfl)) ?_ | refine rd_m0 (evq_ldl rfl rfl (wD_get hkb) rfl) fa_nil (Nat.not_lt.2 (Nat.le_of_ble_eq_true rfl)) ?_ | refine rd_m0 (evq_lds rfl rfl (wD_get hkb) rfl) fa_nil (Nat.not_lt.2 (Nat.le_of_ble_eq_true rfl)) ?_ | refine rd_m0 (evq_ldl rfl rfl (rfl) rfl) fa_nil (Nat.not_lt.2 (Nat.le_of_ble_eq_true rfl)) ?_ | refine rd_m0 (evq_lds rfl rfl (rfl) rfl) fa_nil (Nat.not_lt.2 (Nat.le_of_ble_eq_true rfl)) ?_
      refine q0 ?_
      refine rd_gdo rfl ?_
      first | refine rd_ev (evq_lenr rfl) rfl ?_ | refine rd_ev (evq_lenn rfl) rfl ?_
      simp only [Vs.put, reduceIte, Nat.reduceEqDiff]
      refine rd_gdo rfl ?_
      refine rd_ev (evq_bin rfl rfl rfl) rfl ?_
      refine rd_ev (evq_pickf rfl rfl) rfl ?_
      refine rd_nil ?_
      simp only [thenQ, blockQ, Vs.put, reduceIte, Nat.reduceEqDiff]
      refine sw_cond rfl (fun h7 => ?_) (fun h7 => ?_)
      ·replace h7 := q1 h7
       refine sw_seq ?_
       refine sw_reg ?_
       unfold s39_10
       refine os_ev (evq_mvk) ?_
       simp only [runOs, thenQ, blockQ, Vs.put, reduceIte, Nat.reduceEqDiff]
       refine sw_ret ?_
       refine q3 ?_
       rw [devNo fun hh => by have := hh.2.2.2.2 _ (List.getElem_mem hkb); omega]
       first | exact leaves_vals rfl rfl rfl rfl | exact leaves_a rfl rfl rfl rfl
      ·replace h7 := q1 h7
       refine sw_skip ?_
       simp only [thenQ, blockQ]
       refine sw_reg ?_
       unfold s39_8
       refine os_ev (evq_mvt rfl) ?_
       refine os_ev (evq_bin rfl rfl rfl) ?_
       refine os_ev (evq_mvt rfl) ?_
       simp only [runOs, thenQ, blockQ, Vs.put, reduceIte, Nat.reduceEqDiff]
       try simp only [thenQ, blockQ]
       refine ⟨k + 1, ?_, ?_, rfl, [(2, 2), (0, 0), (1, 1)], by decide, ?_, ?_⟩
       ·refine ⟨by omega, fun j hj h => ?_⟩
        by_cases hji : j = k
        ·subst hji; exact ⟨by omega, by omega, by omega⟩
        ·exact hcl j hj (by omega)
       ·first | omega | (dsimp only; omega)
       ·simp only [sel, Vs.get, upd, Vs.put, reduceIte, Nat.reduceEqDiff]
        repeat' (first | exact er_nil | refine er_un ?_ | refine er_cons rfl ?_ ?_)
        all_goals (try simp only [V.map, A.map, renC, Vs.get, reduceIte, Nat.reduceEqDiff, List.map_cons, List.map_nil, e1])
       ·repeat' (first | exact rr_nil | refine rr_cons 2 rfl rfl ?_ ?_ | refine rr_cons 0 rfl rfl ?_ ?_ | refine rr_cons 1 rfl rfl ?_ ?_)
        all_goals (try simp only [renRoot, renC, Vs.get, reduceIte, Nat.reduceEqDiff, List.map_cons, List.map_nil, e1])
    ·replace h6 := q1 h6
     have hkb : k = cache.length := by omega
     subst hkb
     have hC : ∀ w ∈ cache, 0 ≤ w.1 ∧ w.1 ≤ (secs.length : Int) - 1 ∧ w.2.length ≤ 120 := all_upto fun j hj => hcl j hj (by omega)
     refine sw_exit ?_
     refine q12 ?_
     refine sw_seq ?_
     refine sw_reg ?_
     unfold s39_11
     refine q5 ?_
     refine q0 ?_
     simp only [Vs.put, reduceIte, Nat.reduceEqDiff]
     refine q8 ?_
     refine q0 ?_
     refine q10 ?_
     refine os_callo ?_
     refine q6 ?_
     refine ⟨_, _, runs74 (secs.length : Nat) 1 64, _, rfl, _, rfl, by simp [handIo, handBx], fa_cons (rfl) (fa_cons (rfl) (fa_cons (rfl) (fa_nil))), _, rfl, _, rfl, ?_⟩
     refine q7 ?_
     refine q2 ?_
     refine os_ev (evq_mvt rfl) ?_
     refine os_gs rfl (fun g52 => ?_) (fun g52 => ?_)
     ·try simp only [g52]
      replace g52 := q1 g52
      refine os_gdo rfl ?_
      refine q5 ?_
      refine q0 ?_
      refine os_gdo rfl ?_
      refine q8 ?_
      refine q0 ?_
      simp only [Vs.put, reduceIte, Nat.reduceEqDiff]
      refine os_gdo rfl ?_
      refine q10 ?_
      refine os_gdo rfl ?_
      refine os_ev (evq_bin rfl rfl rfl) ?_
      refine os_ev (evq_pickt rfl rfl) ?_
      refine os_ev (evq_mvt rfl) ?_
      refine os_gs rfl (fun g58 => ?_) (fun g58 => ?_)
      ·try simp only [g58]
       replace g58 := q1 g58
       refine os_gdo rfl ?_
       refine q5 ?_
       refine q0 ?_
       simp only [Vs.put, reduceIte, Nat.reduceEqDiff]
       refine os_gdo rfl ?_
       refine q8 ?_
       refine q0 ?_
       refine os_gdo rfl ?_
       refine os_callo ?_
       refine q6 ?_
       refine ⟨_, _, runs74 fuse (-1) 1000, _, rfl, _, rfl, by simp [handIo, handBx], fa_cons (rfl) (fa_cons (rfl) (fa_cons (rfl) (fa_nil))), _, rfl, _, rfl, ?_⟩
       refine q7 ?_
       refine q2 ?_
       refine os_ev (evq_pickt rfl rfl) ?_
       refine os_ev (evq_mvt rfl) ?_
       simp only [runOs, thenQ, blockQ, Vs.put, reduceIte, Nat.reduceEqDiff]
       refine sw_ret ?_
       refine q3 ?_
       have hfin : devOk secs cache fuse = (decide (-1 ≤ fuse) && decide (fuse ≤ 1000)) := by
        by_cases hf : -1 ≤ fuse ∧ fuse ≤ 1000
        ·rw [devYes ⟨by omega, by omega, hf, hS, hC⟩, decide_eq_true hf.1, decide_eq_true hf.2]; rfl
        ·rw [devNo fun hh => hf hh.2.2.1]
         symm
         rw [Bool.eq_false_iff]
         simp only [ne_eq, Bool.and_eq_true, decide_eq_true_eq]
         exact hf
       rw [hfin]
       first | exact leaves_vals rfl rfl rfl rfl | exact leaves_a rfl rfl rfl rfl
      ·try simp only [g58]
       replace g58 := q1 g58
       refine os_gno rfl (by decide) ?_
       refine os_gno rfl (by decide) ?_
       refine os_gno rfl (by decide) ?_
       refine os_ev (evq_pickf rfl rfl) ?_
       refine os_ev (evq_mvt rfl) ?_
       simp only [runOs, thenQ, blockQ, Vs.put, reduceIte, Nat.reduceEqDiff]
       refine sw_ret ?_
       refine q3 ?_
       rw [devNo fun hh => by omega]
       first | exact leaves_vals rfl rfl rfl rfl | exact leaves_a rfl rfl rfl rfl
     ·try simp only [g52]
      replace g52 := q1 g52
      refine os_gno rfl (by decide) ?_
      refine os_gno rfl (by decide) ?_
      refine os_gno rfl (by decide) ?_
      simp only [Vs.put, reduceIte, Nat.reduceEqDiff]
      refine os_gno rfl (by decide) ?_
      refine os_ev (evq_pickf rfl rfl) ?_
      refine os_ev (evq_mvt rfl) ?_
      refine os_gno rfl (by decide) ?_
      simp only [Vs.put, reduceIte, Nat.reduceEqDiff]
      refine os_gno rfl (by decide) ?_
      refine os_gno rfl (by decide) ?_
      refine os_ev (evq_pickf rfl rfl) ?_
      refine os_ev (evq_mvt rfl) ?_
      simp only [runOs, thenQ, blockQ, Vs.put, reduceIte, Nat.reduceEqDiff]
      refine sw_ret ?_
      refine q3 ?_
      rw [devNo fun hh => by omega]
      first | exact leaves_vals rfl rfl rfl rfl | exact leaves_a rfl rfl rfl rfl
theorem runs41 (secs : List (List UInt8)) (cache : List Wr) (fuse : Int) (down : Bool) (hl : secs.length < 2 ^ 62) (hm : cache.length < 2 ^ 62) : Runs Try.prog 41 [.val true [(.rd, .sl 1 (sD secs)), (.rd, .sl 2 (wD cache)), (.rd, .lf (.int .i64 fuse)), (.rd, .lf (.bool down))]] ⟨[(false, [.lf (.bool (devOk secs cache fuse))])], [], []⟩ := by
 obtain ⟨c, hb, hs⟩ := body_of tr41
 refine runs_of_sw Try.func41 hb hs rfl (show 1 ≤ 57 by decide) ?_
 clear hb hs c
 refine q17 ?_
 unfold s41
 refine sw_seq ?_
 refine sw_reg ?_
 unfold s41_0
 refine os_wro (by intros; nofun) ?_
 refine ⟨_, rfl, ?_⟩
 refine q2 ?_
 refine os_ev (evq_mvk) ?_
 simp only [runOs, thenQ, blockQ, Vs.put, reduceIte, Nat.reduceEqDiff]
 refine sw_seq ?_
 refine sw_seq ?_
 refine sw_reg ?_
 unfold s41_1
 refine q5 ?_
 refine q0 ?_
 refine q8 ?_
 refine q0 ?_
 refine q10 ?_
 refine os_callo ?_
 refine q6 ?_
 refine ⟨_, _, runs77 (secs.length : Nat) 1 64, _, rfl, _, rfl, by simp [handIo, handBx], fa_cons (rfl) (fa_cons (rfl) (fa_cons (rfl) (fa_nil))), _, rfl, _, rfl, ?_⟩
 refine q7 ?_
 refine q2 ?_
 refine os_ev (evq_un rfl rfl) ?_
 simp only [Vs.put, reduceIte, Nat.reduceEqDiff]
 refine os_ev (evq_mvt rfl) ?_
 refine os_gs rfl (fun g12 => ?_) (fun g12 => ?_)
 ·try simp only [g12]
  replace g12 := q1 g12
  refine os_gno rfl (by decide) ?_
  refine os_gno rfl (by decide) ?_
  simp only [Vs.put, reduceIte, Nat.reduceEqDiff]
  refine os_gno rfl (by decide) ?_
  refine os_gno rfl (by decide) ?_
  refine os_ev (evq_pickt rfl rfl) ?_
  refine os_ev (evq_mvt rfl) ?_
  refine os_gno rfl (by decide) ?_
  refine os_gno rfl (by decide) ?_
  refine os_gno rfl (by decide) ?_
  refine os_gno rfl (by decide) ?_
  simp only [Vs.put, reduceIte, Nat.reduceEqDiff]
  refine os_ev (evq_pickt rfl rfl) ?_
  simp only [runOs, thenQ, blockQ, Vs.put, reduceIte, Nat.reduceEqDiff]
  refine sw_cond rfl (fun h1 => ?_) (fun h1 => ?_)
  ·replace h1 := q1 h1
   refine sw_seq ?_
   refine sw_reg ?_
   unfold s41_2
   refine os_ev (evq_mvk) ?_
   simp only [runOs, thenQ, blockQ, Vs.put, reduceIte, Nat.reduceEqDiff]
   refine sw_ret ?_
   refine q3 ?_
   rw [devNo fun hh => by omega]
   first | exact leaves_vals rfl rfl rfl rfl | exact leaves_a rfl rfl rfl rfl
  ·exact absurd h1 (by simp at h1)
 ·try simp only [g12]
  replace g12 := q1 g12
  refine os_gdo rfl ?_
  refine q5 ?_
  refine q0 ?_
  refine os_gdo rfl ?_
  refine q8 ?_
  refine q0 ?_
  simp only [Vs.put, reduceIte, Nat.reduceEqDiff]
  refine os_gdo rfl ?_
  refine q10 ?_
  refine os_gdo rfl ?_
  refine os_ev (evq_bin rfl rfl rfl) ?_
  refine os_ev (evq_pickf rfl rfl) ?_
  refine os_ev (evq_mvt rfl) ?_
  refine os_gs rfl (fun g18 => ?_) (fun g18 => ?_)
  ·try simp only [g18]
   replace g18 := q1 g18
   refine os_gno rfl (by decide) ?_
   refine os_gno rfl (by decide) ?_
   refine os_gno rfl (by decide) ?_
   refine os_gno rfl (by decide) ?_
   simp only [Vs.put, reduceIte, Nat.reduceEqDiff]
   refine os_ev (evq_pickt rfl rfl) ?_
   simp only [runOs, thenQ, blockQ, Vs.put, reduceIte, Nat.reduceEqDiff]
   refine sw_cond rfl (fun h1 => ?_) (fun h1 => ?_)
   ·replace h1 := q1 h1
    refine sw_seq ?_
    refine sw_reg ?_
    unfold s41_2
    refine os_ev (evq_mvk) ?_
    simp only [Vs.put, reduceIte, Nat.reduceEqDiff]
    simp only [runOs, thenQ, blockQ, Vs.put, reduceIte, Nat.reduceEqDiff]
    refine sw_ret ?_
    refine q3 ?_
    rw [devNo fun hh => by omega]
    first | exact leaves_vals rfl rfl rfl rfl | exact leaves_a rfl rfl rfl rfl
   ·exact absurd h1 (by simp at h1)
  ·try simp only [g18]
   replace g18 := q1 g18
   refine os_gdo rfl ?_
   refine q5 ?_
   refine q0 ?_
   refine os_gdo rfl ?_
   refine q8 ?_
   refine q0 ?_
   refine os_gdo rfl ?_
   refine os_callo ?_
   refine q6 ?_
   refine ⟨_, _, runs77 fuse (-1) 1000, _, rfl, _, rfl, by simp [handIo, handBx], fa_cons (rfl) (fa_cons (rfl) (fa_cons (rfl) (fa_nil))), _, rfl, _, rfl, ?_⟩
   refine q7 ?_
   refine q2 ?_
   refine os_gdo rfl ?_
   refine os_ev (evq_un rfl rfl) ?_
   refine os_ev (evq_pickf rfl rfl) ?_
   simp only [runOs, thenQ, blockQ, Vs.put, reduceIte, Nat.reduceEqDiff]
   refine sw_cond rfl (fun h1 => ?_) (fun h1 => ?_)
   ·replace h1 := q1 h1
    refine sw_seq ?_
    refine sw_reg ?_
    unfold s41_2
    refine os_ev (evq_mvk) ?_
    simp only [Vs.put, reduceIte, Nat.reduceEqDiff]
    simp only [runOs, thenQ, blockQ, Vs.put, reduceIte, Nat.reduceEqDiff]
    refine sw_ret ?_
    refine q3 ?_
    rw [devNo fun hh => by omega]
    first | exact leaves_vals rfl rfl rfl rfl | exact leaves_a rfl rfl rfl rfl
   ·replace h1 := q1 h1
    refine sw_skip ?_
    simp only [thenQ, blockQ]
    refine sw_seq ?_
    refine sw_seq ?_
    refine sw_reg ?_
    unfold s41_3
    refine q5 ?_
    refine q0 ?_
    refine q8 ?_
    refine q0 ?_
    refine q10 ?_
    refine os_ev (evq_mvk) ?_
    simp only [runOs, thenQ, blockQ, Vs.put, reduceIte, Nat.reduceEqDiff]
    refine sw_block ?_
    refine sw_loop_upd [1, 25, 26, 27, 51, 52, 53, 54] (α := Nat) (fun i => [(27, .a (.c (.lf (.int .i64 (i : Nat)))))]) (fun i => [(2, .bx [.rf 0 [] 1 0 secs.length, .rf 1 [] 2 0 cache.length, .lf (.int .i64 fuse), .lf (.bool down)]), (0, .im 1 (sD secs)), (1, .im 2 (wD cache))]) (3) (fun i => i ≤ secs.length ∧ ∀ j (hj : j < secs.length), j < i → secs[j].length ≤ 120) (fun i => secs.length - i) (0) [(2, 2), (0, 0), (1, 1)] ?_ (by decide) ?_ ?_ ?_
    ·exact ⟨Nat.zero_le _, fun j hj h => absurd h (Nat.not_lt_zero _)⟩
    ·simp only [sel, Vs.get, upd, Vs.put, reduceIte, Nat.reduceEqDiff]
     repeat' (first | exact er_nil | refine er_un ?_ | refine er_cons rfl ?_ ?_)
     all_goals (try simp only [V.map, A.map, renC, Vs.get, reduceIte, Nat.reduceEqDiff, List.map_cons, List.map_nil])
     all_goals (try rfl)
    ·repeat' (first | exact rr_nil | refine rr_cons 2 rfl rfl ?_ ?_ | refine rr_cons 0 rfl rfl ?_ ?_ | refine rr_cons 1 rfl rfl ?_ ?_)
     all_goals (try simp only [renRoot, renC, Vs.get, reduceIte, Nat.reduceEqDiff, List.map_cons, List.map_nil])
     all_goals (try rfl)
    ·rintro i hinv
     simp only [sel, Vs.get, upd, Vs.put, reduceIte, Nat.reduceEqDiff]
     obtain ⟨hi, hall⟩ := hinv
     refine sw_seq ?_
     refine sw_reg ?_
     unfold s41_4
     refine os_ev (evq_bin rfl rfl rfl) ?_
     simp only [Vs.put, reduceIte, Nat.reduceEqDiff]
     simp only [runOs, thenQ, blockQ, Vs.put, reduceIte, Nat.reduceEqDiff]
     refine sw_seq ?_
     refine sw_cond rfl (fun h4 => ?_) (fun h4 => ?_)
     ·replace h4 := q1 h4
      have hib : i < secs.length := by omega
      have e1 : IntKind.i64.wrap ((i : Int) + 1) = ((i + 1 : Nat) : Int) := by rw [wrap64 (by omega) (by omega)]; rfl
      refine sw_skip ?_
      simp only [thenQ, blockQ]
      refine sw_seq ?_
      refine sw_block ?_
      refine sw_seq ?_
      refine sw_reg ?_
      unfold s41_5
      refine q14 ?_
      first | refine os_ev (evq_ldb rfl rfl rfl) ?_ | refine os_ev (evq_ldl rfl rfl (sD_get hib) rfl) ?_ | refine os_ev (evq_lds rfl rfl (sD_get hib) rfl) ?_ | refine os_ev (evq_ldl rfl rfl (rfl) rfl) ?_ | refine os_ev (evq_lds rfl rfl (rfl) rfl) ?_
      refine q0 ?_
      refine os_ev (evq_mvt rfl) ?_
      simp only [runOs, thenQ, blockQ, Vs.put, reduceIte, Nat.reduceEqDiff]
      refine sw_seq ?_
      refine sw_reg ?_
      unfold s41_6
      refine os_ev (evq_mvt rfl) ?_
      refine q10 ?_
      simp only [Vs.put, reduceIte, Nat.reduceEqDiff]
      refine os_ev (evq_bin rfl rfl rfl) ?_
      simp only [runOs, thenQ, blockQ, Vs.put, reduceIte, Nat.reduceEqDiff]
      refine sw_cond rfl (fun h5 => ?_) (fun h5 => ?_)
      ·replace h5 := q1 h5
       refine sw_seq ?_
       refine sw_reg ?_
       unfold s41_7
       refine os_ev (evq_mvk) ?_
       simp only [runOs, thenQ, blockQ, Vs.put, reduceIte, Nat.reduceEqDiff]
       refine sw_ret ?_
       refine q3 ?_
       rw [devNo fun hh => by have := hh.2.2.2.1 _ (List.getElem_mem hib); omega]
       first | exact leaves_vals rfl rfl rfl rfl | exact leaves_a rfl rfl rfl rfl
      ·replace h5 := q1 h5
       refine sw_skip ?_
       simp only [thenQ, blockQ]
       refine sw_reg ?_
       unfold s41_8
       refine os_ev (evq_bin rfl rfl rfl) ?_
       refine os_ev (evq_mvt rfl) ?_
       simp only [runOs, thenQ, blockQ, Vs.put, reduceIte, Nat.reduceEqDiff]
       try simp only [thenQ, blockQ]
       refine ⟨i + 1, ?_, ?_, rfl, [(2, 2), (0, 0), (1, 1)], by decide, ?_, ?_⟩
       ·refine ⟨by omega, fun j hj h => ?_⟩
        by_cases hji : j = i
        ·subst hji; omega
        ·exact hall j hj (by omega)
       ·first | omega | (dsimp only; omega)
       ·simp only [sel, Vs.get, upd, Vs.put, reduceIte, Nat.reduceEqDiff]
        repeat' (first | exact er_nil | refine er_un ?_ | refine er_cons rfl ?_ ?_)
        all_goals (try simp only [V.map, A.map, renC, Vs.get, reduceIte, Nat.reduceEqDiff, List.map_cons, List.map_nil, e1])
       ·repeat' (first | exact rr_nil | refine rr_cons 2 rfl rfl ?_ ?_ | refine rr_cons 0 rfl rfl ?_ ?_ | refine rr_cons 1 rfl rfl ?_ ?_)
        all_goals (try simp only [renRoot, renC, Vs.get, reduceIte, Nat.reduceEqDiff, List.map_cons, List.map_nil, e1])
     ·replace h4 := q1 h4
      have hib : i = secs.length := by omega
      subst hib
      have hS : ∀ b ∈ secs, b.length ≤ 120 := all_upto fun j hj => hall j hj (by omega)
      refine sw_exit ?_
      refine q12 ?_
      refine sw_seq ?_
      refine sw_seq ?_
      refine sw_reg ?_
      unfold s41_9
      refine q5 ?_
      refine q0 ?_
      simp only [Vs.put, reduceIte, Nat.reduceEqDiff]
      refine q8 ?_
      refine q0 ?_
      refine q10 ?_
      refine os_ev (evq_mvk) ?_
      simp only [runOs, thenQ, blockQ, Vs.put, reduceIte, Nat.reduceEqDiff]
      refine sw_block ?_
      refine sw_loop_upd [1, 36, 37, 38, 51, 52, 53, 54] (α := Nat) (fun k => [(38, .a (.c (.lf (.int .i64 (k : Nat)))))]) (fun k => [(2, .bx [.rf 0 [] 1 0 secs.length, .rf 1 [] 2 0 cache.length, .lf (.int .i64 fuse), .lf (.bool down)]), (0, .im 1 (sD secs)), (1, .im 2 (wD cache))]) (3) (fun k => k ≤ cache.length ∧ ∀ j (hj : j < cache.length), j < k → 0 ≤ cache[j].1 ∧ cache[j].1 ≤ (secs.length : Int) - 1 ∧ cache[j].2.length ≤ 120) (fun k => cache.length - k) (0) [(2, 2), (0, 0), (1, 1)] ?_ (by decide) ?_ ?_ ?_
      ·exact ⟨Nat.zero_le _, fun j hj h => absurd h (Nat.not_lt_zero _)⟩
      ·simp only [sel, Vs.get, upd, Vs.put, reduceIte, Nat.reduceEqDiff]
       repeat' (first | exact er_nil | refine er_un ?_ | refine er_cons rfl ?_ ?_)
       all_goals (try simp only [V.map, A.map, renC, Vs.get, reduceIte, Nat.reduceEqDiff, List.map_cons, List.map_nil])
       all_goals (try rfl)
      ·repeat' (first | exact rr_nil | refine rr_cons 2 rfl rfl ?_ ?_ | refine rr_cons 0 rfl rfl ?_ ?_ | refine rr_cons 1 rfl rfl ?_ ?_)
       all_goals (try simp only [renRoot, renC, Vs.get, reduceIte, Nat.reduceEqDiff, List.map_cons, List.map_nil])
       all_goals (try rfl)
      ·rintro k hinv
       simp only [sel, Vs.get, upd, Vs.put, reduceIte, Nat.reduceEqDiff]
       obtain ⟨hk, hcl⟩ := hinv
       refine sw_seq ?_
       refine sw_reg ?_
       unfold s41_10
       refine os_ev (evq_bin rfl rfl rfl) ?_
       simp only [runOs, thenQ, blockQ, Vs.put, reduceIte, Nat.reduceEqDiff]
       refine sw_seq ?_
       refine sw_cond rfl (fun h8 => ?_) (fun h8 => ?_)
       ·replace h8 := q1 h8
        have hkb : k < cache.length := by omega
        have e1 : IntKind.i64.wrap ((k : Int) + 1) = ((k + 1 : Nat) : Int) := by rw [wrap64 (by omega) (by omega)]; rfl
        have e0 : IntKind.i64.wrap ((secs.length : Int) - 1) = (secs.length : Int) - 1 := wrap64 (by omega) (by omega)
        refine sw_skip ?_
        simp only [thenQ, blockQ]
        refine sw_seq ?_
        refine sw_block ?_
        refine sw_seq ?_
        refine sw_reg ?_
        unfold s41_11
        refine q14 ?_
        simp only [Vs.put, reduceIte, Nat.reduceEqDiff]
        first | refine os_ev (evq_lgb rfl rfl (Nat.le_of_ble_eq_true rfl) rfl) ?_ | refine os_ev (evq_lge rfl rfl (wD_get hkb) (Nat.le_of_ble_eq_true rfl) rfl) ?_ | refine os_ev (evq_lge rfl rfl (rfl) (Nat.le_of_ble_eq_true rfl) rfl) ?_
        refine q0 ?_
        refine os_wro (by intros; nofun) ?_
        simp only [wr]
        refine q2 ?_
        refine os_wro (by intros; nofun) ?_
        refine st_box rfl rfl rfl rfl (Nat.le_of_ble_eq_true rfl) ?_
        refine q0 ?_
        refine q2 ?_
        simp only [runOs, thenQ, blockQ, Vs.put, reduceIte, Nat.reduceEqDiff]
        refine sw_seq ?_
        refine sw_reg ?_
        unfold s41_12
        refine q5 ?_
        refine q0 ?_
        refine q8 ?_
        refine q0 ?_
        refine q5 ?_
        refine q0 ?_
        refine q8 ?_
        refine q0 ?_
        simp only [Vs.put, reduceIte, Nat.reduceEqDiff]
        refine q10 ?_
        refine os_ev (evq_bin rfl rfl rfl) ?_
        refine os_callo ?_
        refine q6 ?_
        simp only [e0]
        refine ⟨_, _, runs77 cache[k].1 0 ((secs.length : Int) - 1), _, rfl, _, rfl, by simp [handIo, handBx], fa_cons (rfl) (fa_cons (rfl) (fa_cons (rfl) (fa_nil))), _, rfl, _, rfl, ?_⟩
        refine q7 ?_
        refine q2 ?_
        refine os_ev (evq_un rfl rfl) ?_
        refine os_ev (evq_mvt rfl) ?_
        refine os_gs rfl (fun g50 => ?_) (fun g50 => ?_)
        ·try simp only [g50]
         replace g50 := q1 g50
         refine os_gno rfl (by decide) ?_
         refine os_gno rfl (by decide) ?_
         refine os_gno rfl (by decide) ?_
         refine os_gno rfl (by decide) ?_
         simp only [Vs.put, reduceIte, Nat.reduceEqDiff]
         refine os_ev (evq_pickt rfl rfl) ?_
         simp only [runOs, thenQ, blockQ, Vs.put, reduceIte, Nat.reduceEqDiff]
         refine sw_cond rfl (fun h9 => ?_) (fun h9 => ?_)
         ·replace h9 := q1 h9
          refine sw_seq ?_
          refine sw_reg ?_
          unfold s41_13
          refine os_ev (evq_mvk) ?_
          simp only [Vs.put, reduceIte, Nat.reduceEqDiff]
          simp only [runOs, thenQ, blockQ, Vs.put, reduceIte, Nat.reduceEqDiff]
          refine sw_ret ?_
          refine q3 ?_
          rw [devNo fun hh => by have := hh.2.2.2.2 _ (List.getElem_mem hkb); omega]
          first | exact leaves_vals rfl rfl rfl rfl | exact leaves_a rfl rfl rfl rfl
         ·exact absurd h9 (by simp at h9)
        ·try simp only [g50]
         replace g50 := q1 g50
         refine os_gdo rfl ?_
         refine q5 ?_
         refine q0 ?_
         refine os_gdo rfl ?_
         refine q8 ?_
         refine q0 ?_
         refine os_gdo rfl ?_
         refine q10 ?_
         refine os_gdo rfl ?_
         refine os_ev (evq_bin rfl rfl rfl) ?_
         refine os_ev (evq_pickf rfl rfl) ?_
         simp only [Vs.put, reduceIte, Nat.reduceEqDiff]
         simp only [runOs, thenQ, blockQ, Vs.put, reduceIte, Nat.reduceEqDiff]
         refine sw_cond rfl (fun h9 => ?_) (fun h9 => ?_)
         ·replace h9 := q1 h9
          refine sw_seq ?_
          refine sw_reg ?_
          unfold s41_13
          refine os_ev (evq_mvk) ?_
          simp only [runOs, thenQ, blockQ, Vs.put, reduceIte, Nat.reduceEqDiff]
          refine sw_ret ?_
          refine q3 ?_
          rw [devNo fun hh => by have := hh.2.2.2.2 _ (List.getElem_mem hkb); omega]
          first | exact leaves_vals rfl rfl rfl rfl | exact leaves_a rfl rfl rfl rfl
         ·replace h9 := q1 h9
          refine sw_skip ?_
          simp only [thenQ, blockQ]
          refine sw_reg ?_
          unfold s41_14
          refine os_ev (evq_bin rfl rfl rfl) ?_
          refine os_ev (evq_mvt rfl) ?_
          simp only [runOs, thenQ, blockQ, Vs.put, reduceIte, Nat.reduceEqDiff]
          try simp only [thenQ, blockQ]
          refine ⟨k + 1, ?_, ?_, rfl, [(2, 2), (0, 0), (1, 1)], by decide, ?_, ?_⟩
          ·refine ⟨by omega, fun j hj h => ?_⟩
           by_cases hji : j = k
           ·subst hji; exact ⟨by omega, by omega, by omega⟩
           ·exact hcl j hj (by omega)
          ·first | omega | (dsimp only; omega)
          ·simp only [sel, Vs.get, upd, Vs.put, reduceIte, Nat.reduceEqDiff]
           repeat' (first | exact er_nil | refine er_un ?_ | refine er_cons rfl ?_ ?_)
           all_goals (try simp only [V.map, A.map, renC, Vs.get, reduceIte, Nat.reduceEqDiff, List.map_cons, List.map_nil, e1])
          ·repeat' (first | exact rr_nil | refine rr_cons 2 rfl rfl ?_ ?_ | refine rr_cons 0 rfl rfl ?_ ?_ | refine rr_cons 1 rfl rfl ?_ ?_)
           all_goals (try simp only [renRoot, renC, Vs.get, reduceIte, Nat.reduceEqDiff, List.map_cons, List.map_nil, e1])
       ·replace h8 := q1 h8
        have hkb : k = cache.length := by omega
        subst hkb
        have hC : ∀ w ∈ cache, 0 ≤ w.1 ∧ w.1 ≤ (secs.length : Int) - 1 ∧ w.2.length ≤ 120 := all_upto fun j hj => hcl j hj (by omega)
        refine sw_exit ?_
        refine q12 ?_
        refine sw_seq ?_
        refine sw_reg ?_
        unfold s41_15
        refine os_ev (evq_mvk) ?_
        simp only [runOs, thenQ, blockQ, Vs.put, reduceIte, Nat.reduceEqDiff]
        refine sw_ret ?_
        refine q3 ?_
        rw [devYes ⟨by omega, by omega, by omega, hS, hC⟩]
        first | exact leaves_vals rfl rfl rfl rfl | exact leaves_a rfl rfl rfl rfl
end Go.Proofs.Ytgbapgjdkoojdaa
