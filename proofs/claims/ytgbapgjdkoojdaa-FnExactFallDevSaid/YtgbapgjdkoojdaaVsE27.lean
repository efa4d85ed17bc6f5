import Derived.Test.YtgbapgjdkoojdaaVsQ
import Derived.Test.YtgbapgjdkoojdaaVsSk
import Derived.Test.YtgbapgjdkoojdaaVsE8
import Derived.Test.YtgbapgjdkoojdaaVsW2
set_option linter.unusedVariables false
set_option linter.unusedSimpArgs false
namespace Go.Proofs.Ytgbapgjdkoojdaa
open Go.Vs
set_option linter.unusedSimpArgs false
set_option linter.unusedVariables false
set_option maxHeartbeats 1000000
theorem runs99 (secs : List (List UInt8)) (cache : List Wr) (fuse : Int) (down : Bool) (hl : secs.length < 2 ^ 40) (hm : cache.length < 2 ^ 40) (hs : ∀ b ∈ secs, b.length < 2 ^ 45) (hc : ∀ w ∈ cache, w.2.length < 2 ^ 45) : Runs Try.prog 99 [.val true [(.rd, .sl 1 (sD secs)), (.rd, .sl 2 (wD cache)), (.rd, .lf (.int .i64 fuse)), (.rd, .lf (.bool down))]] ⟨[(true, [.sl 1 (sD secs), .sl 2 (wD cache), .lf (.int .i64 fuse), .lf (.bool down)])], [], []⟩ := by
 obtain ⟨c, hb, hs⟩ := body_of tr99
 refine runs_of_sw (is := [.load (some 4) (.t 2)]) Try.func99 hb hs (by kernel_rfl) (show 1 ≤ 50 by decide) ?_
 clear hb hs c
 refine q17 ?_
 unfold s99
 refine sw_seq ?_
 refine sw_reg ?_
 unfold s99_0
 refine os_wro (by intros; nofun) ?_
 refine ⟨_, rfl, ?_⟩
 refine q2 ?_
 refine os_wro (by intros; nofun) ?_
 simp only [wr]
 refine q2 ?_
 simp only [runOs, thenQ, blockQ, Vs.put, reduceIte, Nat.reduceEqDiff]
 refine sw_seq ?_
 refine sw_reg ?_
 unfold s99_1
 refine q5 ?_
 refine q0 ?_
 refine q8 ?_
 refine q0 ?_
 refine q5 ?_
 refine q0 ?_
 refine q8 ?_
 refine q0 ?_
 refine os_ev (evq_build rfl) ?_
 refine q0 ?_
 simp only [Vs.put, reduceIte, Nat.reduceEqDiff]
 refine os_wro (by intros; nofun) ?_
 simp only [wr]
 refine q2 ?_
 refine os_wro (by intros; nofun) ?_
 refine st_box rfl rfl rfl rfl (Nat.le_of_ble_eq_true rfl) ?_
 refine q0 ?_
 refine q2 ?_
 simp only [runOs, thenQ, blockQ, Vs.put, reduceIte, Nat.reduceEqDiff]
 refine sw_seq ?_
 refine sw_seq ?_
 refine sw_reg ?_
 unfold s99_2
 refine q5 ?_
 refine q0 ?_
 refine q8 ?_
 refine q0 ?_
 refine q10 ?_
 refine os_ev (evq_mvk) ?_
 simp only [runOs, thenQ, blockQ, Vs.put, reduceIte, Nat.reduceEqDiff]
 refine sw_block ?_
 refine sw_nl_box 4 0 rfl rfl ?_
 simp only [Vs.put, reduceIte, Nat.reduceEqDiff, Nat.reduceAdd, List.set_cons_zero, List.set_cons_succ]
 refine sw_loop_upd [1, 2, 3, 14, 15, 16, 35] (α := Nat) (fun i => [(16, .a (.c (.lf (.int .i64 (i : Nat)))))]) (fun i => [(5, .tr 1 (sD (secs.take i))), (4, .bx [.rf 5 [] 1 0 i, .nl 2, .lf (.int .i64 fuse), .lf (.bool down)]), (3, .bx [.nl 1, .nl 2, .lf (.int .i64 0), .lf (.bool false)]), (2, .bx [.rf 0 [] 1 0 secs.length, .rf 1 [] 2 0 cache.length, .lf (.int .i64 fuse), .lf (.bool down)]), (0, .im 1 (sD secs)), (1, .im 2 (wD cache))]) (6) (fun i => i ≤ secs.length) (fun i => secs.length - i) (0) [(5, 5), (4, 4), (3, 3), (2, 2), (0, 0), (1, 1)] ?_ (by decide) ?_ ?_ ?_
 ·exact Nat.zero_le _
 ·simp only [sel, Vs.get, upd, Vs.put, reduceIte, Nat.reduceEqDiff]
  repeat' (first | exact er_nil | refine er_un ?_ | refine er_cons rfl ?_ ?_)
  all_goals (try simp only [V.map, A.map, renC, Vs.get, reduceIte, Nat.reduceEqDiff, List.map_cons, List.map_nil])
  all_goals (try rfl)
 ·repeat' (first | exact rr_nil | refine rr_cons 5 rfl rfl ?_ ?_ | refine rr_cons 4 rfl rfl ?_ ?_ | refine rr_cons 3 rfl rfl ?_ ?_ | refine rr_cons 2 rfl rfl ?_ ?_ | refine rr_cons 0 rfl rfl ?_ ?_ | refine rr_cons 1 rfl rfl ?_ ?_)
  all_goals (try simp only [renRoot, renC, Vs.get, reduceIte, Nat.reduceEqDiff, List.map_cons, List.map_nil])
  all_goals (try rfl)
 ·rintro i hinv
  simp only [sel, Vs.get, upd, Vs.put, reduceIte, Nat.reduceEqDiff]
  refine sw_seq ?_
  refine sw_reg ?_
  unfold s99_3
  refine os_ev (evq_bin rfl rfl rfl) ?_
  simp only [Vs.put, reduceIte, Nat.reduceEqDiff]
  simp only [runOs, thenQ, blockQ, Vs.put, reduceIte, Nat.reduceEqDiff]
  refine sw_seq ?_
  refine sw_cond rfl (fun h2 => ?_) (fun h2 => ?_)
  ·replace h2 := q1 h2
   have hib : i < secs.length := by omega
   have e1 : IntKind.i64.wrap ((i : Int) + 1) = ((i + 1 : Nat) : Int) := by rw [wrap64 (by omega) (by omega)]; rfl
   have hsl := hs _ (List.getElem_mem hib)
   have hlen : (sD (secs.take i)).length = i := by simp; omega
   have htk : secs.take i ++ [secs[i]] = secs.take (i + 1) := (List.take_succ_eq_append_getElem hib).symm
   refine sw_skip ?_
   simp only [thenQ, blockQ]
   refine sw_seq ?_
   refine sw_block ?_
   refine sw_seq ?_
   refine sw_reg ?_
   unfold s99_4
   refine q14 ?_
   first | refine os_ev (evq_ldb rfl rfl rfl) ?_ | refine os_ev (evq_ldl rfl rfl (sD_get hib) rfl) ?_ | refine os_ev (evq_lds rfl rfl (sD_get hib) rfl) ?_ | refine os_ev (evq_ldl rfl rfl (rfl) rfl) ?_ | refine os_ev (evq_lds rfl rfl (rfl) rfl) ?_
   refine q0 ?_
   refine os_ev (evq_mvt rfl) ?_
   simp only [runOs, thenQ, blockQ, Vs.put, reduceIte, Nat.reduceEqDiff]
   refine sw_go rfl rfl ?_
   unfold s99_5
   first | refine rd_ev (evq_fadb rfl) rfl ?_ | refine rd_ev (evq_fade rfl) rfl ?_
   refine q0 ?_
   first | refine rd_m1 (evq_ldb rfl rfl rfl) fa_nil rfl (Nat.le_of_ble_eq_true rfl) ?_ | refine rd_m1 (evq_ldl rfl rfl (rfl) rfl) fa_nil rfl (Nat.le_of_ble_eq_true rfl) ?_ | refine rd_m1 (evq_lds rfl rfl (rfl) rfl) fa_nil rfl (Nat.le_of_ble_eq_true rfl) ?_
   refine q0 ?_
   refine rd_ev (evq_mvt rfl) rfl ?_
   refine rd_wr (by intros; nofun) ?_
   refine .inr ⟨_, rfl, ?_⟩
   refine q24 ?_
   refine ⟨by first | rfl | trivial, (fa_cons (fun _ => by first | exact pd_ev (evq_ldb rfl rfl rfl) | exact pd_ev (evq_ldl rfl rfl (rfl) rfl) | exact pd_ev (evq_lds rfl rfl (rfl) rfl)) fa_nil), ?_⟩
   refine q2 ?_
   refine rd_see ?_
   refine q6 ?_
   refine ⟨[(false, [.sl 1 (sD [secs[i]])])], _, runs101 [secs[i]] (by simp) (by simp only [List.flatten_cons, List.flatten_nil, List.append_nil]; omega), ⟨see_sb1 rfl (see_bytes (by simp only [nodeIn, Vs.get, Vs.put, reduceIte, Nat.reduceEqDiff, nodeAt, sD_get hib, Option.bind_some, List.getElem?_cons_zero, List.getElem?_cons_succ]) (by simp)), trivial⟩, ?_⟩
   refine q25 ?_
   refine ⟨by first | rfl | trivial, (fa_cons (fun _ => by first | exact pd_ev (evq_ldb rfl rfl rfl) | exact pd_ev (evq_ldl rfl rfl (rfl) rfl) | exact pd_ev (evq_lds rfl rfl (rfl) rfl)) fa_nil), ?_⟩
   refine q2 ?_
   refine rd_wr (by intros; nofun) ?_
   refine .inl ⟨[.rf 7 [] 1 0 secs[i].length], rfl, ([.sl 1 (bD secs[i])], _), take_cons rfl (by simp) rfl, ?_⟩
   refine q22 ?_
   refine ⟨by first | rfl | trivial, (fa_cons (fun _ => by first | exact pd_ev (evq_ldb rfl rfl rfl) | exact pd_ev (evq_ldl rfl rfl (rfl) rfl) | exact pd_ev (evq_lds rfl rfl (rfl) rfl)) fa_nil), ?_⟩
   refine q2 ?_
   refine rd_wr (by intros; nofun) ?_
   refine app_elem (es := sD (secs.take i)) (e := [.sl 1 (bD secs[i])]) rfl rfl hlen.symm rfl (by decide) rfl (by rw [hlen]; omega) ?_
   rw [sD_snoc, htk, hlen]
   refine ⟨by first | rfl | trivial, (fa_cons (fun h => absurd h (Nat.not_le.2 (Nat.le_of_ble_eq_true rfl))) fa_nil), ?_⟩
   refine q2 ?_
   first | refine rd_ev (evq_fadb rfl) rfl ?_ | refine rd_ev (evq_fade rfl) rfl ?_
   refine q0 ?_
   simp only [Vs.put, reduceIte, Nat.reduceEqDiff]
   refine rd_wr (by intros; nofun) ?_
   refine st_box rfl rfl rfl rfl (Nat.le_of_ble_eq_true rfl) ?_
   refine q0 ?_
   refine ⟨by first | rfl | trivial, (fa_cons (fun h => absurd h (Nat.not_le.2 (Nat.le_of_ble_eq_true rfl))) fa_nil), ?_⟩
   refine q2 ?_
   refine rd_nil ?_
   simp only [thenQ, blockQ, Vs.put, reduceIte, Nat.reduceEqDiff]
   refine sw_reg ?_
   unfold s99_6
   refine os_ev (evq_bin rfl rfl rfl) ?_
   refine os_ev (evq_mvt rfl) ?_
   simp only [runOs, thenQ, blockQ, Vs.put, reduceIte, Nat.reduceEqDiff]
   try simp only [thenQ, blockQ]
   refine ⟨i + 1, ?_, ?_, rfl, [(9, 5), (4, 4), (3, 3), (2, 2), (0, 0), (1, 1)], by decide, ?_, ?_⟩
   ·omega
   ·first | omega | (dsimp only; omega)
   ·simp only [sel, Vs.get, upd, Vs.put, reduceIte, Nat.reduceEqDiff]
    repeat' (first | exact er_nil | refine er_un ?_ | refine er_cons rfl ?_ ?_)
    all_goals (try simp only [V.map, A.map, renC, Vs.get, reduceIte, Nat.reduceEqDiff, List.map_cons, List.map_nil, e1])
   ·repeat' (first | exact rr_nil | refine rr_cons 9 rfl rfl ?_ ?_ | refine rr_cons 4 rfl rfl ?_ ?_ | refine rr_cons 3 rfl rfl ?_ ?_ | refine rr_cons 2 rfl rfl ?_ ?_ | refine rr_cons 0 rfl rfl ?_ ?_ | refine rr_cons 1 rfl rfl ?_ ?_)
    all_goals (try simp only [renRoot, renC, Vs.get, reduceIte, Nat.reduceEqDiff, List.map_cons, List.map_nil, e1])
  ·replace h2 := q1 h2
   have hib : i = secs.length := by omega
   subst hib
   simp only [List.take_length]
   refine sw_exit ?_
   refine q12 ?_
   refine sw_seq ?_
   refine sw_seq ?_
   refine sw_reg ?_
   unfold s99_7
   refine q5 ?_
   refine q0 ?_
   refine q8 ?_
   refine q0 ?_
   simp only [Vs.put, reduceIte, Nat.reduceEqDiff]
   refine q10 ?_
   refine os_ev (evq_mvk) ?_
   simp only [runOs, thenQ, blockQ, Vs.put, reduceIte, Nat.reduceEqDiff]
   refine sw_block ?_
   refine sw_nl_box 4 1 rfl rfl ?_
   simp only [Vs.put, reduceIte, Nat.reduceEqDiff, Nat.reduceAdd, List.set_cons_zero, List.set_cons_succ]
   refine sw_loop_upd [2, 3, 30, 31, 32, 35] (α := Nat) (fun k => [(32, .a (.c (.lf (.int .i64 (k : Nat)))))]) (fun k => [(6, .tr 2 (wD (cache.take k))), (5, .tr 1 (sD secs)), (4, .bx [.rf 5 [] 1 0 secs.length, .rf 6 [] 2 0 k, .lf (.int .i64 fuse), .lf (.bool down)]), (3, .bx [.nl 1, .nl 2, .lf (.int .i64 0), .lf (.bool false)]), (2, .bx [.rf 0 [] 1 0 secs.length, .rf 1 [] 2 0 cache.length, .lf (.int .i64 fuse), .lf (.bool down)]), (0, .im 1 (sD secs)), (1, .im 2 (wD cache))]) (7) (fun k => k ≤ cache.length) (fun k => cache.length - k) (0) [(6, 6), (5, 5), (4, 4), (3, 3), (2, 2), (0, 0), (1, 1)] ?_ (by decide) ?_ ?_ ?_
   ·exact Nat.zero_le _
   ·simp only [sel, Vs.get, upd, Vs.put, reduceIte, Nat.reduceEqDiff]
    repeat' (first | exact er_nil | refine er_un ?_ | refine er_cons rfl ?_ ?_)
    all_goals (try simp only [V.map, A.map, renC, Vs.get, reduceIte, Nat.reduceEqDiff, List.map_cons, List.map_nil])
    all_goals (try rfl)
   ·repeat' (first | exact rr_nil | refine rr_cons 6 rfl rfl ?_ ?_ | refine rr_cons 5 rfl rfl ?_ ?_ | refine rr_cons 4 rfl rfl ?_ ?_ | refine rr_cons 3 rfl rfl ?_ ?_ | refine rr_cons 2 rfl rfl ?_ ?_ | refine rr_cons 0 rfl rfl ?_ ?_ | refine rr_cons 1 rfl rfl ?_ ?_)
    all_goals (try simp only [renRoot, renC, Vs.get, reduceIte, Nat.reduceEqDiff, List.map_cons, List.map_nil])
    all_goals (try rfl)
   ·rintro k hinv
    simp only [sel, Vs.get, upd, Vs.put, reduceIte, Nat.reduceEqDiff]
    refine sw_seq ?_
    refine sw_reg ?_
    unfold s99_8
    refine os_ev (evq_bin rfl rfl rfl) ?_
    simp only [runOs, thenQ, blockQ, Vs.put, reduceIte, Nat.reduceEqDiff]
    refine sw_seq ?_
    refine sw_cond rfl (fun h4 => ?_) (fun h4 => ?_)
    ·replace h4 := q1 h4
     have hkb : k < cache.length := by omega
     have e1 : IntKind.i64.wrap ((k : Int) + 1) = ((k + 1 : Nat) : Int) := by rw [wrap64 (by omega) (by omega)]; rfl
     have hcl := hc _ (List.getElem_mem hkb)
     have hlen : (wD (cache.take k)).length = k := by simp; omega
     have htk : cache.take k ++ [cache[k]] = cache.take (k + 1) := (List.take_succ_eq_append_getElem hkb).symm
     refine sw_skip ?_
     simp only [thenQ, blockQ]
     refine sw_seq ?_
     refine sw_block ?_
     refine sw_seq ?_
     refine sw_reg ?_
     unfold s99_9
     refine q14 ?_
     first | refine os_ev (evq_lgb rfl rfl (Nat.le_of_ble_eq_true rfl) rfl) ?_ | refine os_ev (evq_lge rfl rfl (wD_get hkb) (Nat.le_of_ble_eq_true rfl) rfl) ?_ | refine os_ev (evq_lge rfl rfl (rfl) (Nat.le_of_ble_eq_true rfl) rfl) ?_
     refine q0 ?_
     simp only [Vs.put, reduceIte, Nat.reduceEqDiff]
     refine os_wro (by intros; nofun) ?_
     simp only [wr]
     refine q2 ?_
     refine os_wro (by intros; nofun) ?_
     refine st_box rfl rfl rfl rfl (Nat.le_of_ble_eq_true rfl) ?_
     refine q0 ?_
     refine q2 ?_
     simp only [runOs, thenQ, blockQ, Vs.put, reduceIte, Nat.reduceEqDiff]
     refine sw_go rfl rfl ?_
     unfold s99_10
     first | refine rd_ev (evq_fadb rfl) rfl ?_ | refine rd_ev (evq_fade rfl) rfl ?_
     refine q0 ?_
     first | refine rd_m1 (evq_ldb rfl rfl rfl) fa_nil rfl (Nat.le_of_ble_eq_true rfl) ?_ | refine rd_m1 (evq_ldl rfl rfl (rfl) rfl) fa_nil rfl (Nat.le_of_ble_eq_true rfl) ?_ | refine rd_m1 (evq_lds rfl rfl (rfl) rfl) fa_nil rfl (Nat.le_of_ble_eq_true rfl) ?_
     refine q0 ?_
     first | refine rd_ev (evq_fadb rfl) rfl ?_ | refine rd_ev (evq_fade rfl) rfl ?_
     refine q0 ?_
     first | refine rd_m1 (evq_ldb rfl rfl rfl) fa_nil rfl (Nat.le_of_ble_eq_true rfl) ?_ | refine rd_m1 (evq_ldl rfl rfl (rfl) rfl) fa_nil rfl (Nat.le_of_ble_eq_true rfl) ?_ | refine rd_m1 (evq_lds rfl rfl (rfl) rfl) fa_nil rfl (Nat.le_of_ble_eq_true rfl) ?_
     refine q0 ?_
     first | refine rd_ev (evq_fadb rfl) rfl ?_ | refine rd_ev (evq_fade rfl) rfl ?_
     refine q0 ?_
     simp only [Vs.put, reduceIte, Nat.reduceEqDiff]
     first | refine rd_m0 (evq_ldb rfl rfl rfl) fa_nil (Nat.not_lt.2 (Nat.le_of_ble_eq_true rfl)) ?_ | refine rd_m0 (evq_ldl rfl rfl (rfl) rfl) fa_nil (Nat.not_lt.2 (Nat.le_of_ble_eq_true rfl)) ?_ | refine rd_m0 (evq_lds rfl rfl (rfl) rfl) fa_nil (Nat.not_lt.2 (Nat.le_of_ble_eq_true rfl)) ?_
     refine q0 ?_
     refine rd_wr (by intros; nofun) ?_
     refine .inr ⟨_, rfl, ?_⟩
     refine q24 ?_
     refine ⟨by first | rfl | trivial, (fa_cons (fun _ => by first | exact pd_ev (evq_ldb rfl rfl rfl) | exact pd_ev (evq_ldl rfl rfl (rfl) rfl) | exact pd_ev (evq_lds rfl rfl (rfl) rfl)) (fa_cons (fun _ => by first | exact pd_ev (evq_ldb rfl rfl rfl) | exact pd_ev (evq_ldl rfl rfl (rfl) rfl) | exact pd_ev (evq_lds rfl rfl (rfl) rfl)) fa_nil)), ?_⟩
     refine q2 ?_
     refine rd_see ?_
     refine q6 ?_
     refine ⟨[(false, [.sl 1 (sD [cache[k].2])])], _, runs101 [cache[k].2] (by simp) (by simp only [List.flatten_cons, List.flatten_nil, List.append_nil]; omega), ⟨see_sb1 rfl (see_bytes (by simp only [nodeIn, Vs.get, Vs.put, reduceIte, Nat.reduceEqDiff, nodeAt, wD_get hkb, Option.bind_some, List.getElem?_cons_zero, List.getElem?_cons_succ]) (by simp)), trivial⟩, ?_⟩
     refine q25 ?_
     refine ⟨by first | rfl | trivial, (fa_cons (fun _ => by first | exact pd_ev (evq_ldb rfl rfl rfl) | exact pd_ev (evq_ldl rfl rfl (rfl) rfl) | exact pd_ev (evq_lds rfl rfl (rfl) rfl)) (fa_cons (fun _ => by first | exact pd_ev (evq_ldb rfl rfl rfl) | exact pd_ev (evq_ldl rfl rfl (rfl) rfl) | exact pd_ev (evq_lds rfl rfl (rfl) rfl)) fa_nil)), ?_⟩
     refine q2 ?_
     refine rd_ev (evq_build rfl) rfl ?_
     refine q0 ?_
     refine rd_wr (by intros; nofun) ?_
     refine .inl ⟨[.lf (.int .i64 cache[k].1), .rf 9 [] 1 0 cache[k].2.length], rfl, ([.lf (.int .i64 cache[k].1), .sl 1 (bD cache[k].2)], _), take_lf (take_cons rfl (by simp) rfl), ?_⟩
     refine q22 ?_
     refine ⟨by first | rfl | trivial, (fa_cons (fun h => absurd h (Nat.not_le.2 (Nat.le_of_ble_eq_true rfl))) (fa_cons (fun _ => by first | exact pd_ev (evq_ldb rfl rfl rfl) | exact pd_ev (evq_ldl rfl rfl (rfl) rfl) | exact pd_ev (evq_lds rfl rfl (rfl) rfl)) fa_nil)), ?_⟩
     refine q2 ?_
     refine rd_wr (by intros; nofun) ?_
     refine app_elem (es := wD (cache.take k)) (e := [.lf (.int .i64 cache[k].1), .sl 1 (bD cache[k].2)]) rfl rfl hlen.symm rfl (by decide) rfl (by rw [hlen]; omega) ?_
     rw [wD_snoc, htk, hlen]
     refine ⟨by first | rfl | trivial, (fa_cons (fun h => absurd h (Nat.not_le.2 (Nat.le_of_ble_eq_true rfl))) (fa_cons (fun h => absurd h (Nat.not_le.2 (Nat.le_of_ble_eq_true rfl))) fa_nil)), ?_⟩
     refine q2 ?_
     first | refine rd_ev (evq_fadb rfl) rfl ?_ | refine rd_ev (evq_fade rfl) rfl ?_
     refine q0 ?_
     refine rd_wr (by intros; nofun) ?_
     refine st_box rfl rfl rfl rfl (Nat.le_of_ble_eq_true rfl) ?_
     refine q0 ?_
     refine ⟨by first | rfl | trivial, (fa_cons (fun h => absurd h (Nat.not_le.2 (Nat.le_of_ble_eq_true rfl))) (fa_cons (fun h => absurd h (Nat.not_le.2 (Nat.le_of_ble_eq_true rfl))) fa_nil)), ?_⟩
     refine q2 ?_
     refine rd_nil ?_
     simp only [thenQ, blockQ, Vs.put, reduceIte, Nat.reduceEqDiff]
     refine sw_reg ?_
     unfold s99_11
     refine os_ev (evq_bin rfl rfl rfl) ?_
     refine os_ev (evq_mvt rfl) ?_
     simp only [runOs, thenQ, blockQ, Vs.put, reduceIte, Nat.reduceEqDiff]
     try simp only [thenQ, blockQ]
     refine ⟨k + 1, ?_, ?_, rfl, [(11, 6), (5, 5), (4, 4), (3, 3), (2, 2), (0, 0), (1, 1)], by decide, ?_, ?_⟩
     ·omega
     ·first | omega | (dsimp only; omega)
     ·simp only [sel, Vs.get, upd, Vs.put, reduceIte, Nat.reduceEqDiff]
      repeat' (first | exact er_nil | refine er_un ?_ | refine er_cons rfl ?_ ?_)
      all_goals (try simp only [V.map, A.map, renC, Vs.get, reduceIte, Nat.reduceEqDiff, List.map_cons, List.map_nil, e1])
     ·repeat' (first | exact rr_nil | refine rr_cons 11 rfl rfl ?_ ?_ | refine rr_cons 5 rfl rfl ?_ ?_ | refine rr_cons 4 rfl rfl ?_ ?_ | refine rr_cons 3 rfl rfl ?_ ?_ | refine rr_cons 2 rfl rfl ?_ ?_ | refine rr_cons 0 rfl rfl ?_ ?_ | refine rr_cons 1 rfl rfl ?_ ?_)
      all_goals (try simp only [renRoot, renC, Vs.get, reduceIte, Nat.reduceEqDiff, List.map_cons, List.map_nil, e1])
    ·replace h4 := q1 h4
     have hkb : k = cache.length := by omega
     subst hkb
     simp only [List.take_length]
     refine sw_exit ?_
     refine q12 ?_
     refine sw_seq ?_
     refine sw_reg ?_
     unfold s99_12
     refine q9 ?_
     refine q0 ?_
     refine os_wro (by intros; nofun) ?_
     refine st_box rfl rfl rfl rfl (Nat.le_of_ble_eq_true rfl) ?_
     refine q0 ?_
     refine q2 ?_
     simp only [runOs, thenQ, blockQ, Vs.put, reduceIte, Nat.reduceEqDiff]
     refine sw_ret ?_
     refine q3 ?_
     refine ⟨_, rfl, Nat.le_of_ble_eq_true rfl, ?_⟩
     refine q13 ?_
     exact leaves_a rfl rfl rfl (take_cons rfl (by simp) (take_cons rfl (by simp) (take_lf (take_lf rfl))))
theorem runs114 (secs : List (List UInt8)) (cache : List Wr) (fuse : Int) (down : Bool) (hl : secs.length < 2 ^ 40) (hm : cache.length < 2 ^ 40) (hs : ∀ b ∈ secs, b.length < 2 ^ 45) (hc : ∀ w ∈ cache, w.2.length < 2 ^ 45) : Runs Try.prog 114 [.val true [(.rd, .sl 1 (sD secs)), (.rd, .sl 2 (wD cache)), (.rd, .lf (.int .i64 fuse)), (.rd, .lf (.bool down))]] ⟨[(true, [.sl 1 (sD secs), .sl 2 (wD cache), .lf (.int .i64 fuse), .lf (.bool down)])], [], []⟩ := by
 obtain ⟨c, hb, hs⟩ := body_of tr114
 refine runs_of_sw (is := [.load (some 4) (.t 2)]) Try.func114 hb hs (by kernel_rfl) (show 1 ≤ 58 by decide) ?_
 clear hb hs c
 refine q17 ?_
 unfold s114
 refine sw_seq ?_
 refine sw_reg ?_
 unfold s114_0
 refine os_wro (by intros; nofun) ?_
 refine ⟨_, rfl, ?_⟩
 refine q2 ?_
 refine os_wro (by intros; nofun) ?_
 simp only [wr]
 refine q2 ?_
 simp only [runOs, thenQ, blockQ, Vs.put, reduceIte, Nat.reduceEqDiff]
 refine sw_seq ?_
 refine sw_reg ?_
 unfold s114_1
 refine q5 ?_
 refine q0 ?_
 refine q8 ?_
 refine q0 ?_
 refine q5 ?_
 refine q0 ?_
 refine q8 ?_
 refine q0 ?_
 refine os_ev (evq_build rfl) ?_
 refine q0 ?_
 simp only [Vs.put, reduceIte, Nat.reduceEqDiff]
 refine os_wro (by intros; nofun) ?_
 simp only [wr]
 refine q2 ?_
 refine os_wro (by intros; nofun) ?_
 refine st_box rfl rfl rfl rfl (Nat.le_of_ble_eq_true rfl) ?_
 refine q0 ?_
 refine q2 ?_
 simp only [runOs, thenQ, blockQ, Vs.put, reduceIte, Nat.reduceEqDiff]
 refine sw_seq ?_
 refine sw_seq ?_
 refine sw_reg ?_
 unfold s114_2
 refine os_ev (evq_mvk) ?_
 simp only [runOs, thenQ, blockQ, Vs.put, reduceIte, Nat.reduceEqDiff]
 refine sw_block ?_
 refine sw_nl_box 4 0 rfl rfl ?_
 simp only [Vs.put, reduceIte, Nat.reduceEqDiff, Nat.reduceAdd, List.set_cons_zero, List.set_cons_succ]
 refine sw_loop_upd [1, 2, 3, 4, 35] (α := Nat) (fun i => [(4, .a (.c (.lf (.int .i64 (i : Nat)))))]) (fun i => [(5, .tr 1 (sD (secs.take i))), (4, .bx [.rf 5 [] 1 0 i, .nl 2, .lf (.int .i64 fuse), .lf (.bool down)]), (3, .bx [.nl 1, .nl 2, .lf (.int .i64 0), .lf (.bool false)]), (2, .bx [.rf 0 [] 1 0 secs.length, .rf 1 [] 2 0 cache.length, .lf (.int .i64 fuse), .lf (.bool down)]), (0, .im 1 (sD secs)), (1, .im 2 (wD cache))]) (6) (fun i => i ≤ secs.length) (fun i => secs.length - i) (0) [(5, 5), (4, 4), (3, 3), (2, 2), (0, 0), (1, 1)] ?_ (by decide) ?_ ?_ ?_
 ·exact Nat.zero_le _
 ·simp only [sel, Vs.get, upd, Vs.put, reduceIte, Nat.reduceEqDiff]
  repeat' (first | exact er_nil | refine er_un ?_ | refine er_cons rfl ?_ ?_)
  all_goals (try simp only [V.map, A.map, renC, Vs.get, reduceIte, Nat.reduceEqDiff, List.map_cons, List.map_nil])
  all_goals (try rfl)
 ·repeat' (first | exact rr_nil | refine rr_cons 5 rfl rfl ?_ ?_ | refine rr_cons 4 rfl rfl ?_ ?_ | refine rr_cons 3 rfl rfl ?_ ?_ | refine rr_cons 2 rfl rfl ?_ ?_ | refine rr_cons 0 rfl rfl ?_ ?_ | refine rr_cons 1 rfl rfl ?_ ?_)
  all_goals (try simp only [renRoot, renC, Vs.get, reduceIte, Nat.reduceEqDiff, List.map_cons, List.map_nil])
  all_goals (try rfl)
 ·rintro i hinv
  simp only [sel, Vs.get, upd, Vs.put, reduceIte, Nat.reduceEqDiff]
  refine sw_seq ?_
  refine sw_seq ?_
  refine sw_reg ?_
  unfold s114_3
  refine os_ev (evq_mvt rfl) ?_
  refine q5 ?_
  refine q0 ?_
  refine q8 ?_
  refine q0 ?_
  refine q10 ?_
  simp only [Vs.put, reduceIte, Nat.reduceEqDiff]
  refine os_ev (evq_bin rfl rfl rfl) ?_
  simp only [runOs, thenQ, blockQ, Vs.put, reduceIte, Nat.reduceEqDiff]
  refine sw_cond rfl (fun h2 => ?_) (fun h2 => ?_)
  ·replace h2 := q1 h2
   have hib : i < secs.length := by omega
   have e1 : IntKind.i64.wrap ((i : Int) + 1) = ((i + 1 : Nat) : Int) := by rw [wrap64 (by omega) (by omega)]; rfl
   have hsl := hs _ (List.getElem_mem hib)
   have hlen : (sD (secs.take i)).length = i := by simp; omega
   have htk : secs.take i ++ [secs[i]] = secs.take (i + 1) := (List.take_succ_eq_append_getElem hib).symm
   refine sw_skip ?_
   simp only [thenQ, blockQ]
   refine sw_seq ?_
   refine sw_block ?_
   refine sw_go rfl rfl ?_
   unfold s114_5
   first | refine rd_ev (evq_fadb rfl) rfl ?_ | refine rd_ev (evq_fade rfl) rfl ?_
   refine q0 ?_
   simp only [Vs.put, reduceIte, Nat.reduceEqDiff]
   first | refine rd_m1 (evq_ldb rfl rfl rfl) fa_nil rfl (Nat.le_of_ble_eq_true rfl) ?_ | refine rd_m1 (evq_ldl rfl rfl (rfl) rfl) fa_nil rfl (Nat.le_of_ble_eq_true rfl) ?_ | refine rd_m1 (evq_lds rfl rfl (rfl) rfl) fa_nil rfl (Nat.le_of_ble_eq_true rfl) ?_
   refine q0 ?_
   refine rd_wr (by intros; nofun) ?_
   refine .inl ⟨_, rfl, _, rfl, ?_⟩
   refine q20 ?_
   refine ⟨by first | rfl | trivial, (fa_cons (fun _ => by first | exact pd_ev (evq_ldb rfl rfl rfl) | exact pd_ev (evq_ldl rfl rfl (rfl) rfl) | exact pd_ev (evq_lds rfl rfl (rfl) rfl)) fa_nil), ?_⟩
   refine q2 ?_
   first | refine rd_ev (evq_fadb rfl) rfl ?_ | refine rd_ev (evq_fade rfl) rfl ?_
   refine q0 ?_
   first | refine rd_m0 (evq_ldb rfl rfl rfl) (fa_cons (by first | exact evq_ldb rfl rfl rfl | exact evq_ldl rfl rfl (rfl) rfl | exact evq_lds rfl rfl (rfl) rfl) fa_nil) (Nat.not_lt.2 (Nat.le_of_ble_eq_true rfl)) ?_ | refine rd_m0 (evq_ldl rfl rfl (rfl) rfl) (fa_cons (by first | exact evq_ldb rfl rfl rfl | exact evq_ldl rfl rfl (rfl) rfl | exact evq_lds rfl rfl (rfl) rfl) fa_nil) (Nat.not_lt.2 (Nat.le_of_ble_eq_true rfl)) ?_ | refine rd_m0 (evq_lds rfl rfl (rfl) rfl) (fa_cons (by first | exact evq_ldb rfl rfl rfl | exact evq_ldl rfl rfl (rfl) rfl | exact evq_lds rfl rfl (rfl) rfl) fa_nil) (Nat.not_lt.2 (Nat.le_of_ble_eq_true rfl)) ?_
   refine q0 ?_
   refine rd_ev (evq_mvt rfl) rfl ?_
   first | refine rd_ev (evq_iad rfl rfl rfl (by omega)) rfl ?_ | refine rd_ev (evq_iad rfl rfl rfl (by simp)) rfl ?_
   first | refine rd_m0 (evq_ldb rfl rfl rfl) (fa_cons (by first | exact evq_ldb rfl rfl rfl | exact evq_ldl rfl rfl (sD_get hib) rfl | exact evq_lds rfl rfl (sD_get hib) rfl | exact evq_ldl rfl rfl (rfl) rfl | exact evq_lds rfl rfl (rfl) rfl) fa_nil) (Nat.not_lt.2 (Nat.le_of_ble_eq_true rfl)) ?_ | refine rd_m0 (evq_ldl rfl rfl (sD_get hib) rfl) (fa_cons (by first | exact evq_ldb rfl rfl rfl | exact evq_ldl rfl rfl (sD_get hib) rfl | exact evq_lds rfl rfl (sD_get hib) rfl | exact evq_ldl rfl rfl (rfl) rfl | exact evq_lds rfl rfl (rfl) rfl) fa_nil) (Nat.not_lt.2 (Nat.le_of_ble_eq_true rfl)) ?_ | refine rd_m0 (evq_lds rfl rfl (sD_get hib) rfl) (fa_cons (by first | exact evq_ldb rfl rfl rfl | exact evq_ldl rfl rfl (sD_get hib) rfl | exact evq_lds rfl rfl (sD_get hib) rfl | exact evq_ldl rfl rfl (rfl) rfl | exact evq_lds rfl rfl (rfl) rfl) fa_nil) (Nat.not_lt.2 (Nat.le_of_ble_eq_true rfl)) ?_ | refine rd_m0 (evq_ldl rfl rfl (rfl) rfl) (fa_cons (by first | exact evq_ldb rfl rfl rfl | exact evq_ldl rfl rfl (sD_get hib) rfl | exact evq_lds rfl rfl (sD_get hib) rfl | exact evq_ldl rfl rfl (rfl) rfl | exact evq_lds rfl rfl (rfl) rfl) fa_nil) (Nat.not_lt.2 (Nat.le_of_ble_eq_true rfl)) ?_ | refine rd_m0 (evq_lds rfl rfl (rfl) rfl) (fa_cons (by first | exact evq_ldb rfl rfl rfl | exact evq_ldl rfl rfl (sD_get hib) rfl | exact evq_lds rfl rfl (sD_get hib) rfl | exact evq_ldl rfl rfl (rfl) rfl | exact evq_lds rfl rfl (rfl) rfl) fa_nil) (Nat.not_lt.2 (Nat.le_of_ble_eq_true rfl)) ?_
   refine q0 ?_
   refine rd_wr (by intros; nofun) ?_
   refine app_bytes (l := []) (r2 := secs[i]) rfl rfl rfl rfl (by decide) (by simp only [St.node, Vs.get, Vs.put, reduceIte, Nat.reduceEqDiff, nodeAt, sD_get hib, Option.bind_some, List.getElem?_cons_zero, List.getElem?_cons_succ]) (by simp) (by simp; omega) ?_
   simp only [del, reduceIte, Nat.reduceEqDiff, bD_len, List.drop_zero, List.take_length, List.nil_append, List.length_nil, Nat.zero_add]
   refine ⟨by first | rfl | trivial, (fa_cons (fun _ => by first | exact pd_ev (evq_ldb rfl rfl rfl) | exact pd_ev (evq_ldl rfl rfl (rfl) rfl) | exact pd_ev (evq_lds rfl rfl (rfl) rfl)) fa_nil), ?_⟩
   refine q2 ?_
   refine rd_wr (by intros; nofun) ?_
   refine .inl ⟨[.rf 7 [] 1 0 secs[i].length], rfl, ([.sl 1 (bD secs[i])], _), take_cons rfl (by simp) rfl, ?_⟩
   refine q22 ?_
   refine ⟨by first | rfl | trivial, (fa_cons (fun _ => by first | exact pd_ev (evq_ldb rfl rfl rfl) | exact pd_ev (evq_ldl rfl rfl (rfl) rfl) | exact pd_ev (evq_lds rfl rfl (rfl) rfl)) fa_nil), ?_⟩
   refine q2 ?_
   refine rd_wr (by intros; nofun) ?_
   refine app_elem (es := sD (secs.take i)) (e := [.sl 1 (bD secs[i])]) rfl rfl hlen.symm rfl (by decide) rfl (by rw [hlen]; omega) ?_
   rw [sD_snoc, htk, hlen]
   refine ⟨by first | rfl | trivial, (fa_cons (fun h => absurd h (Nat.not_le.2 (Nat.le_of_ble_eq_true rfl))) fa_nil), ?_⟩
   refine q2 ?_
   first | refine rd_ev (evq_fadb rfl) rfl ?_ | refine rd_ev (evq_fade rfl) rfl ?_
   refine q0 ?_
   simp only [Vs.put, reduceIte, Nat.reduceEqDiff]
   refine rd_wr (by intros; nofun) ?_
   refine st_box rfl rfl rfl rfl (Nat.le_of_ble_eq_true rfl) ?_
   refine q0 ?_
   refine ⟨by first | rfl | trivial, (fa_cons (fun h => absurd h (Nat.not_le.2 (Nat.le_of_ble_eq_true rfl))) fa_nil), ?_⟩
   refine q2 ?_
   refine rd_nil ?_
   simp only [thenQ, blockQ, Vs.put, reduceIte, Nat.reduceEqDiff]
   refine sw_reg ?_
   unfold s114_4
   refine os_ev (evq_mvt rfl) ?_
   refine os_ev (evq_bin rfl rfl rfl) ?_
   refine os_ev (evq_mvt rfl) ?_
   simp only [runOs, thenQ, blockQ, Vs.put, reduceIte, Nat.reduceEqDiff]
   try simp only [thenQ, blockQ]
   refine ⟨i + 1, ?_, ?_, rfl, [(9, 5), (4, 4), (3, 3), (2, 2), (0, 0), (1, 1)], by decide, ?_, ?_⟩
   ·omega
   ·first | omega | (dsimp only; omega)
   ·simp only [sel, Vs.get, upd, Vs.put, reduceIte, Nat.reduceEqDiff]
    repeat' (first | exact er_nil | refine er_un ?_ | refine er_cons rfl ?_ ?_)
    all_goals (try simp only [V.map, A.map, renC, Vs.get, reduceIte, Nat.reduceEqDiff, List.map_cons, List.map_nil, e1])
   ·repeat' (first | exact rr_nil | refine rr_cons 9 rfl rfl ?_ ?_ | refine rr_cons 4 rfl rfl ?_ ?_ | refine rr_cons 3 rfl rfl ?_ ?_ | refine rr_cons 2 rfl rfl ?_ ?_ | refine rr_cons 0 rfl rfl ?_ ?_ | refine rr_cons 1 rfl rfl ?_ ?_)
    all_goals (try simp only [renRoot, renC, Vs.get, reduceIte, Nat.reduceEqDiff, List.map_cons, List.map_nil, e1])
  ·replace h2 := q1 h2
   have hib : i = secs.length := by omega
   subst hib
   simp only [List.take_length]
   refine sw_exit ?_
   refine q12 ?_
   refine sw_seq ?_
   refine sw_seq ?_
   refine sw_reg ?_
   unfold s114_6
   refine os_ev (evq_mvk) ?_
   simp only [Vs.put, reduceIte, Nat.reduceEqDiff]
   simp only [runOs, thenQ, blockQ, Vs.put, reduceIte, Nat.reduceEqDiff]
   refine sw_block ?_
   refine sw_nl_box 4 1 rfl rfl ?_
   simp only [Vs.put, reduceIte, Nat.reduceEqDiff, Nat.reduceAdd, List.set_cons_zero, List.set_cons_succ]
   refine sw_loop_upd [1, 2, 3, 5, 35] (α := Nat) (fun k => [(5, .a (.c (.lf (.int .i64 (k : Nat)))))]) (fun k => [(6, .tr 2 (wD (cache.take k))), (5, .tr 1 (sD secs)), (4, .bx [.rf 5 [] 1 0 secs.length, .rf 6 [] 2 0 k, .lf (.int .i64 fuse), .lf (.bool down)]), (3, .bx [.nl 1, .nl 2, .lf (.int .i64 0), .lf (.bool false)]), (2, .bx [.rf 0 [] 1 0 secs.length, .rf 1 [] 2 0 cache.length, .lf (.int .i64 fuse), .lf (.bool down)]), (0, .im 1 (sD secs)), (1, .im 2 (wD cache))]) (7) (fun k => k ≤ cache.length) (fun k => cache.length - k) (0) [(6, 6), (5, 5), (4, 4), (3, 3), (2, 2), (0, 0), (1, 1)] ?_ (by decide) ?_ ?_ ?_
   ·exact Nat.zero_le _
   ·simp only [sel, Vs.get, upd, Vs.put, reduceIte, Nat.reduceEqDiff]
    repeat' (first | exact er_nil | refine er_un ?_ | refine er_cons rfl ?_ ?_)
    all_goals (try simp only [V.map, A.map, renC, Vs.get, reduceIte, Nat.reduceEqDiff, List.map_cons, List.map_nil])
    all_goals (try rfl)
   ·repeat' (first | exact rr_nil | refine rr_cons 6 rfl rfl ?_ ?_ | refine rr_cons 5 rfl rfl ?_ ?_ | refine rr_cons 4 rfl rfl ?_ ?_ | refine rr_cons 3 rfl rfl ?_ ?_ | refine rr_cons 2 rfl rfl ?_ ?_ | refine rr_cons 0 rfl rfl ?_ ?_ | refine rr_cons 1 rfl rfl ?_ ?_)
    all_goals (try simp only [renRoot, renC, Vs.get, reduceIte, Nat.reduceEqDiff, List.map_cons, List.map_nil])
    all_goals (try rfl)
   ·rintro k hinv
    simp only [sel, Vs.get, upd, Vs.put, reduceIte, Nat.reduceEqDiff]
    refine sw_seq ?_
    refine sw_seq ?_
    refine sw_reg ?_
    unfold s114_7
    refine os_ev (evq_mvt rfl) ?_
    refine q5 ?_
    refine q0 ?_
    refine q8 ?_
    refine q0 ?_
    refine q10 ?_
    refine os_ev (evq_bin rfl rfl rfl) ?_
    simp only [Vs.put, reduceIte, Nat.reduceEqDiff]
    simp only [runOs, thenQ, blockQ, Vs.put, reduceIte, Nat.reduceEqDiff]
    refine sw_cond rfl (fun h4 => ?_) (fun h4 => ?_)
    ·replace h4 := q1 h4
     have hkb : k < cache.length := by omega
     have e1 : IntKind.i64.wrap ((k : Int) + 1) = ((k + 1 : Nat) : Int) := by rw [wrap64 (by omega) (by omega)]; rfl
     have hcl := hc _ (List.getElem_mem hkb)
     have hlen : (wD (cache.take k)).length = k := by simp; omega
     have htk : cache.take k ++ [cache[k]] = cache.take (k + 1) := (List.take_succ_eq_append_getElem hkb).symm
     refine sw_skip ?_
     simp only [thenQ, blockQ]
     refine sw_seq ?_
     refine sw_block ?_
     refine sw_go rfl rfl ?_
     unfold s114_9
     first | refine rd_ev (evq_fadb rfl) rfl ?_ | refine rd_ev (evq_fade rfl) rfl ?_
     refine q0 ?_
     first | refine rd_m1 (evq_ldb rfl rfl rfl) fa_nil rfl (Nat.le_of_ble_eq_true rfl) ?_ | refine rd_m1 (evq_ldl rfl rfl (rfl) rfl) fa_nil rfl (Nat.le_of_ble_eq_true rfl) ?_ | refine rd_m1 (evq_lds rfl rfl (rfl) rfl) fa_nil rfl (Nat.le_of_ble_eq_true rfl) ?_
     refine q0 ?_
     first | refine rd_ev (evq_fadb rfl) rfl ?_ | refine rd_ev (evq_fade rfl) rfl ?_
     refine q0 ?_
     first | refine rd_m1 (evq_ldb rfl rfl rfl) fa_nil rfl (Nat.le_of_ble_eq_true rfl) ?_ | refine rd_m1 (evq_ldl rfl rfl (rfl) rfl) fa_nil rfl (Nat.le_of_ble_eq_true rfl) ?_ | refine rd_m1 (evq_lds rfl rfl (rfl) rfl) fa_nil rfl (Nat.le_of_ble_eq_true rfl) ?_
     refine q0 ?_
     refine rd_ev (evq_mvt rfl) rfl ?_
     simp only [Vs.put, reduceIte, Nat.reduceEqDiff]
     first | refine rd_ev (evq_iad rfl rfl rfl (by omega)) rfl ?_ | refine rd_ev (evq_iad rfl rfl rfl (by simp)) rfl ?_
     first | refine rd_ev (evq_fadb rfl) rfl ?_ | refine rd_ev (evq_fade rfl) rfl ?_
     refine q0 ?_
     first | refine rd_m1 (evq_ldb rfl rfl rfl) fa_nil rfl (Nat.le_of_ble_eq_true rfl) ?_ | refine rd_m1 (evq_ldl rfl rfl (wD_get hkb) rfl) fa_nil rfl (Nat.le_of_ble_eq_true rfl) ?_ | refine rd_m1 (evq_lds rfl rfl (wD_get hkb) rfl) fa_nil rfl (Nat.le_of_ble_eq_true rfl) ?_ | refine rd_m1 (evq_ldl rfl rfl (rfl) rfl) fa_nil rfl (Nat.le_of_ble_eq_true rfl) ?_ | refine rd_m1 (evq_lds rfl rfl (rfl) rfl) fa_nil rfl (Nat.le_of_ble_eq_true rfl) ?_
     refine q0 ?_
     refine rd_wr (by intros; nofun) ?_
     refine .inl ⟨_, rfl, _, rfl, ?_⟩
     refine q20 ?_
     refine ⟨by first | rfl | trivial, (fa_cons (fun _ => by first | exact pd_ev (evq_ldb rfl rfl rfl) | exact pd_ev (evq_ldl rfl rfl (wD_get hkb) rfl) | exact pd_ev (evq_lds rfl rfl (wD_get hkb) rfl) | exact pd_ev (evq_ldl rfl rfl (rfl) rfl) | exact pd_ev (evq_lds rfl rfl (rfl) rfl)) (fa_cons (fun _ => by first | exact pd_ev (evq_ldb rfl rfl rfl) | exact pd_ev (evq_ldl rfl rfl (rfl) rfl) | exact pd_ev (evq_lds rfl rfl (rfl) rfl)) (fa_cons (fun _ => by first | exact pd_ev (evq_ldb rfl rfl rfl) | exact pd_ev (evq_ldl rfl rfl (rfl) rfl) | exact pd_ev (evq_lds rfl rfl (rfl) rfl)) fa_nil))), ?_⟩
     refine q2 ?_
     first | refine rd_ev (evq_fadb rfl) rfl ?_ | refine rd_ev (evq_fade rfl) rfl ?_
     refine q0 ?_
     first | refine rd_m0 (evq_ldb rfl rfl rfl) (fa_cons (by first | exact evq_ldb rfl rfl rfl | exact evq_ldl rfl rfl (rfl) rfl | exact evq_lds rfl rfl (rfl) rfl) fa_nil) (Nat.not_lt.2 (Nat.le_of_ble_eq_true rfl)) ?_ | refine rd_m0 (evq_ldl rfl rfl (rfl) rfl) (fa_cons (by first | exact evq_ldb rfl rfl rfl | exact evq_ldl rfl rfl (rfl) rfl | exact evq_lds rfl rfl (rfl) rfl) fa_nil) (Nat.not_lt.2 (Nat.le_of_ble_eq_true rfl)) ?_ | refine rd_m0 (evq_lds rfl rfl (rfl) rfl) (fa_cons (by first | exact evq_ldb rfl rfl rfl | exact evq_ldl rfl rfl (rfl) rfl | exact evq_lds rfl rfl (rfl) rfl) fa_nil) (Nat.not_lt.2 (Nat.le_of_ble_eq_true rfl)) ?_
     refine q0 ?_
     refine rd_ev (evq_mvt rfl) rfl ?_
     simp only [Vs.put, reduceIte, Nat.reduceEqDiff]
     first | refine rd_ev (evq_iad rfl rfl rfl (by omega)) rfl ?_ | refine rd_ev (evq_iad rfl rfl rfl (by simp)) rfl ?_
     first | refine rd_ev (evq_fadb rfl) rfl ?_ | refine rd_ev (evq_fade rfl) rfl ?_
     refine q0 ?_
     first | refine rd_m0 (evq_ldb rfl rfl rfl) (fa_cons (by first | exact evq_ldb rfl rfl rfl | exact evq_ldl rfl rfl (wD_get hkb) rfl | exact evq_lds rfl rfl (wD_get hkb) rfl | exact evq_ldl rfl rfl (rfl) rfl | exact evq_lds rfl rfl (rfl) rfl) fa_nil) (Nat.not_lt.2 (Nat.le_of_ble_eq_true rfl)) ?_ | refine rd_m0 (evq_ldl rfl rfl (wD_get hkb) rfl) (fa_cons (by first | exact evq_ldb rfl rfl rfl | exact evq_ldl rfl rfl (wD_get hkb) rfl | exact evq_lds rfl rfl (wD_get hkb) rfl | exact evq_ldl rfl rfl (rfl) rfl | exact evq_lds rfl rfl (rfl) rfl) fa_nil) (Nat.not_lt.2 (Nat.le_of_ble_eq_true rfl)) ?_ | refine rd_m0 (evq_lds rfl rfl (wD_get hkb) rfl) (fa_cons (by first | exact evq_ldb rfl rfl rfl | exact evq_ldl rfl rfl (wD_get hkb) rfl | exact evq_lds rfl rfl (wD_get hkb) rfl | exact evq_ldl rfl rfl (rfl) rfl | exact evq_lds rfl rfl (rfl) rfl) fa_nil) (Nat.not_lt.2 (Nat.le_of_ble_eq_true rfl)) ?_ | refine rd_m0 (evq_ldl rfl rfl (rfl) rfl) (fa_cons (by first | exact evq_ldb rfl rfl rfl | exact evq_ldl rfl rfl (wD_get hkb) rfl | exact evq_lds rfl rfl (wD_get hkb) rfl | exact evq_ldl rfl rfl (rfl) rfl | exact evq_lds rfl rfl (rfl) rfl) fa_nil) (Nat.not_lt.2 (Nat.le_of_ble_eq_true rfl)) ?_ | refine rd_m0 (evq_lds rfl rfl (rfl) rfl) (fa_cons (by first | exact evq_ldb rfl rfl rfl | exact evq_ldl rfl rfl (wD_get hkb) rfl | exact evq_lds rfl rfl (wD_get hkb) rfl | exact evq_ldl rfl rfl (rfl) rfl | exact evq_lds rfl rfl (rfl) rfl) fa_nil) (Nat.not_lt.2 (Nat.le_of_ble_eq_true rfl)) ?_
     refine q0 ?_
     refine rd_wr (by intros; nofun) ?_
     refine app_bytes (l := []) (r2 := cache[k].2) rfl rfl rfl rfl (by decide) (by simp only [St.node, Vs.get, Vs.put, reduceIte, Nat.reduceEqDiff, nodeAt, wD_get hkb, Option.bind_some, List.getElem?_cons_zero, List.getElem?_cons_succ]) (by simp) (by simp; omega) ?_
     simp only [del, reduceIte, Nat.reduceEqDiff, bD_len, List.drop_zero, List.take_length, List.nil_append, List.length_nil, Nat.zero_add]
     refine ⟨by first | rfl | trivial, (fa_cons (fun _ => by first | exact pd_ev (evq_ldb rfl rfl rfl) | exact pd_ev (evq_ldl rfl rfl (wD_get hkb) rfl) | exact pd_ev (evq_lds rfl rfl (wD_get hkb) rfl) | exact pd_ev (evq_ldl rfl rfl (rfl) rfl) | exact pd_ev (evq_lds rfl rfl (rfl) rfl)) (fa_cons (fun _ => by first | exact pd_ev (evq_ldb rfl rfl rfl) | exact pd_ev (evq_ldl rfl rfl (rfl) rfl) | exact pd_ev (evq_lds rfl rfl (rfl) rfl)) (fa_cons (fun _ => by first | exact pd_ev (evq_ldb rfl rfl rfl) | exact pd_ev (evq_ldl rfl rfl (rfl) rfl) | exact pd_ev (evq_lds rfl rfl (rfl) rfl)) fa_nil))), ?_⟩
     refine q2 ?_
     refine rd_ev (evq_build rfl) rfl ?_
     refine q0 ?_
     refine rd_wr (by intros; nofun) ?_
     refine .inl ⟨[.lf (.int .i64 cache[k].1), .rf 8 [] 1 0 cache[k].2.length], rfl, ([.lf (.int .i64 cache[k].1), .sl 1 (bD cache[k].2)], _), take_lf (take_cons rfl (by simp) rfl), ?_⟩
     refine q22 ?_
     refine ⟨by first | rfl | trivial, (fa_cons (fun h => absurd h (Nat.not_le.2 (Nat.le_of_ble_eq_true rfl))) (fa_cons (fun h => absurd h (Nat.not_le.2 (Nat.le_of_ble_eq_true rfl))) (fa_cons (fun _ => by first | exact pd_ev (evq_ldb rfl rfl rfl) | exact pd_ev (evq_ldl rfl rfl (rfl) rfl) | exact pd_ev (evq_lds rfl rfl (rfl) rfl)) fa_nil))), ?_⟩
     refine q2 ?_
     refine rd_wr (by intros; nofun) ?_
     refine app_elem (es := wD (cache.take k)) (e := [.lf (.int .i64 cache[k].1), .sl 1 (bD cache[k].2)]) rfl rfl hlen.symm rfl (by decide) rfl (by rw [hlen]; omega) ?_
     rw [wD_snoc, htk, hlen]
     refine ⟨by first | rfl | trivial, (fa_cons (fun h => absurd h (Nat.not_le.2 (Nat.le_of_ble_eq_true rfl))) (fa_cons (fun h => absurd h (Nat.not_le.2 (Nat.le_of_ble_eq_true rfl))) (fa_cons (fun h => absurd h (Nat.not_le.2 (Nat.le_of_ble_eq_true rfl))) fa_nil))), ?_⟩
     refine q2 ?_
     first | refine rd_ev (evq_fadb rfl) rfl ?_ | refine rd_ev (evq_fade rfl) rfl ?_
     refine q0 ?_
     simp only [Vs.put, reduceIte, Nat.reduceEqDiff]
     refine rd_wr (by intros; nofun) ?_
     refine st_box rfl rfl rfl rfl (Nat.le_of_ble_eq_true rfl) ?_
     refine q0 ?_
     refine ⟨by first | rfl | trivial, (fa_cons (fun h => absurd h (Nat.not_le.2 (Nat.le_of_ble_eq_true rfl))) (fa_cons (fun h => absurd h (Nat.not_le.2 (Nat.le_of_ble_eq_true rfl))) (fa_cons (fun h => absurd h (Nat.not_le.2 (Nat.le_of_ble_eq_true rfl))) fa_nil))), ?_⟩
     refine q2 ?_
     refine rd_nil ?_
     simp only [thenQ, blockQ, Vs.put, reduceIte, Nat.reduceEqDiff]
     refine sw_reg ?_
     unfold s114_8
     refine os_ev (evq_mvt rfl) ?_
     refine os_ev (evq_bin rfl rfl rfl) ?_
     refine os_ev (evq_mvt rfl) ?_
     simp only [runOs, thenQ, blockQ, Vs.put, reduceIte, Nat.reduceEqDiff]
     try simp only [thenQ, blockQ]
     refine ⟨k + 1, ?_, ?_, rfl, [(10, 6), (5, 5), (4, 4), (3, 3), (2, 2), (0, 0), (1, 1)], by decide, ?_, ?_⟩
     ·omega
     ·first | omega | (dsimp only; omega)
     ·simp only [sel, Vs.get, upd, Vs.put, reduceIte, Nat.reduceEqDiff]
      repeat' (first | exact er_nil | refine er_un ?_ | refine er_cons rfl ?_ ?_)
      all_goals (try simp only [V.map, A.map, renC, Vs.get, reduceIte, Nat.reduceEqDiff, List.map_cons, List.map_nil, e1])
     ·repeat' (first | exact rr_nil | refine rr_cons 10 rfl rfl ?_ ?_ | refine rr_cons 5 rfl rfl ?_ ?_ | refine rr_cons 4 rfl rfl ?_ ?_ | refine rr_cons 3 rfl rfl ?_ ?_ | refine rr_cons 2 rfl rfl ?_ ?_ | refine rr_cons 0 rfl rfl ?_ ?_ | refine rr_cons 1 rfl rfl ?_ ?_)
      all_goals (try simp only [renRoot, renC, Vs.get, reduceIte, Nat.reduceEqDiff, List.map_cons, List.map_nil, e1])
    ·replace h4 := q1 h4
     have hkb : k = cache.length := by omega
     subst hkb
     simp only [List.take_length]
     refine sw_exit ?_
     refine q12 ?_
     refine sw_seq ?_
     refine sw_reg ?_
     unfold s114_10
     refine q9 ?_
     refine q0 ?_
     simp only [Vs.put, reduceIte, Nat.reduceEqDiff]
     refine os_wro (by intros; nofun) ?_
     refine st_box rfl rfl rfl rfl (Nat.le_of_ble_eq_true rfl) ?_
     refine q0 ?_
     refine q2 ?_
     simp only [runOs, thenQ, blockQ, Vs.put, reduceIte, Nat.reduceEqDiff]
     refine sw_ret ?_
     refine q3 ?_
     refine ⟨_, rfl, Nat.le_of_ble_eq_true rfl, ?_⟩
     refine q13 ?_
     exact leaves_a rfl rfl rfl (take_cons rfl (by simp) (take_cons rfl (by simp) (take_lf (take_lf rfl))))
end Go.Proofs.Ytgbapgjdkoojdaa
