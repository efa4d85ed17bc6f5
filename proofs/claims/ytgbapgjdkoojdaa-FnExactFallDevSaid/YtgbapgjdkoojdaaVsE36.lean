import Derived.Test.YtgbapgjdkoojdaaVsQ
import Derived.Test.YtgbapgjdkoojdaaVsSk
import Derived.Test.YtgbapgjdkoojdaaVsE35
set_option linter.unusedVariables false
set_option linter.unusedSimpArgs false
namespace Go.Proofs.Ytgbapgjdkoojdaa
open Go.Vs
set_option linter.unusedSimpArgs false
set_option linter.unusedVariables false
set_option maxHeartbeats 1000000
set_option maxRecDepth 4000
theorem runs45 (secs : List (List UInt8)) (cache : List Wr) (fuse : Int) (down : Bool) (n : Int) (hl : secs.length < 2 ^ 39) (hm : cache.length < 2 ^ 39) (hs : ∀ b ∈ secs, b.length < 2 ^ 45) (hc : ∀ w ∈ cache, w.2.length < 2 ^ 45) : Runs Try.prog 45 [.val true [(.rd, .sl 1 (sD secs)), (.rd, .sl 2 (wD cache)), (.rd, .lf (.int .i64 fuse)), (.rd, .lf (.bool down))], .val false [(.rd, .lf (.int .i64 n))]] ⟨[(true, [.sl 1 (sD (faDev secs cache fuse down n).1), .sl 2 (wD (faDev secs cache fuse down n).2.1), .lf (.int .i64 (faDev secs cache fuse down n).2.2.1), .lf (.bool (faDev secs cache fuse down n).2.2.2)])], [], []⟩ := by
 obtain ⟨c, hb, hs⟩ := body_of tr45
 refine runs_of_sw (is := [.load (some 4) (.t 4)]) Try.func45 hb hs (by kernel_rfl) (show 2 ≤ 48 by decide) ?_
 clear hb hs c
 refine q17 ?_
 unfold s45
 refine sw_seq ?_
 refine sw_reg ?_
 unfold s45_0
 refine os_wro (by intros; nofun) ?_
 refine ⟨_, rfl, ?_⟩
 refine q2 ?_
 refine os_wro (by intros; nofun) ?_
 simp only [wr]
 refine q2 ?_
 simp only [runOs, thenQ, blockQ, Vs.put, reduceIte, Nat.reduceEqDiff]
 refine sw_seq ?_
 refine sw_reg ?_
 unfold s45_1
 refine q9 ?_
 refine q0 ?_
 refine os_callo ?_
 refine q6 ?_
 refine ⟨_, _, runs99 secs cache fuse down (by omega) (by omega) hs hc, _, rfl, _, rfl, by simp [handIo, handBx], fa_cons (⟨rfl, .inl rfl, by simp [handIo, handBx], _, rfl, by simp, by first | rfl | (simp; done) | exact (List.take_of_length_le (by simp)).symm⟩) (fa_cons (⟨rfl, .inl rfl, by simp [handIo, handBx], _, rfl, by simp, by first | rfl | (simp; done) | exact (List.take_of_length_le (by simp)).symm⟩) (fa_cons (rfl) (fa_cons (rfl) (fa_nil)))), _, rfl, _, rfl, ?_⟩
 refine q7 ?_
 simp only [wD_len]
 refine q2 ?_
 refine os_wro (by intros; nofun) ?_
 simp only [wr]
 refine q2 ?_
 refine os_wro (by intros; nofun) ?_
 refine st_box rfl rfl rfl rfl (Nat.le_of_ble_eq_true rfl) ?_
 refine q0 ?_
 refine q2 ?_
 simp only [runOs, thenQ, blockQ, Vs.put, reduceIte, Nat.reduceEqDiff]
 refine sw_seq ?_
 refine sw_seq ?_
 refine sw_reg ?_
 unfold s45_2
 refine q9 ?_
 refine q0 ?_
 refine os_callo ?_
 refine q6 ?_
 refine ⟨_, _, runs41 secs cache fuse down (by omega) (by omega), _, rfl, _, rfl, by simp [handIo, handBx], fa_cons (⟨rfl, .inl rfl, by simp [handIo, handBx], _, rfl, by simp, by first | rfl | (simp; done) | exact (List.take_of_length_le (by simp)).symm⟩) (fa_cons (⟨rfl, .inl rfl, by simp [handIo, handBx], _, rfl, by simp, by first | rfl | (simp; done) | exact (List.take_of_length_le (by simp)).symm⟩) (fa_cons (rfl) (fa_cons (rfl) (fa_nil)))), _, rfl, _, rfl, ?_⟩
 refine q7 ?_
 refine q2 ?_
 refine os_ev (evq_un rfl rfl) ?_
 simp only [runOs, thenQ, blockQ, Vs.put, reduceIte, Nat.reduceEqDiff]
 refine sw_cond rfl (fun h1 => ?_) (fun h1 => ?_)
 ·replace h1 := q1 h1
  rw [faDev_no h1]
  refine sw_seq ?_
  refine sw_reg ?_
  unfold s45_3
  refine q9 ?_
  refine q0 ?_
  refine os_wro (by intros; nofun) ?_
  refine st_box rfl rfl rfl rfl (Nat.le_of_ble_eq_true rfl) ?_
  refine q0 ?_
  refine q2 ?_
  simp only [runOs, thenQ, blockQ, Vs.put, reduceIte, Nat.reduceEqDiff]
  refine sw_ret ?_
  refine q3 ?_
  refine ⟨_, rfl, Nat.le_of_ble_eq_true rfl, ?_⟩
  refine q13 ?_
  exact leaves_a rfl rfl rfl (take_cons rfl (by simp [faL_len]) (take_cons rfl (by simp) (take_lf (take_lf rfl))))
 ·replace h1 := q1 h1
  obtain ⟨hsl, hcl, hf, _, hd0⟩ := dev_of h1
  have hd : ∀ w ∈ cache, 0 ≤ w.1 ∧ w.1 ≤ (secs.length : Int) - 1 := fun w hw => ⟨(hd0 w hw).1, (hd0 w hw).2.1⟩
  rw [faDev_ok h1]
  refine sw_skip ?_
  simp only [thenQ, blockQ]
  refine sw_seq ?_
  refine sw_seq ?_
  refine sw_reg ?_
  unfold s45_4
  refine os_ev (evq_mvt rfl) ?_
  simp only [Vs.put, reduceIte, Nat.reduceEqDiff]
  refine os_callo ?_
  refine q6 ?_
  refine ⟨_, _, runs77 n 0 1073741823, _, rfl, _, rfl, by simp [handIo, handBx], fa_cons (rfl) (fa_cons (rfl) (fa_cons (rfl) (fa_nil))), _, rfl, _, rfl, ?_⟩
  refine q7 ?_
  refine q2 ?_
  refine os_ev (evq_un rfl rfl) ?_
  simp only [runOs, thenQ, blockQ, Vs.put, reduceIte, Nat.reduceEqDiff]
  refine sw_cond rfl (fun h3 => ?_) (fun h3 => ?_)
  ·replace h3 := q1 h3
   rw [faN_no (by omega)]
   refine sw_reg ?_
   unfold s45_5
   refine os_ev (evq_mvk) ?_
   simp only [runOs, thenQ, blockQ, Vs.put, reduceIte, Nat.reduceEqDiff]
   refine sw_seq ?_
   refine sw_seq ?_
   refine sw_reg ?_
   unfold s45_6
   refine q5 ?_
   refine q0 ?_
   refine q8 ?_
   refine q0 ?_
   refine q10 ?_
   simp only [Vs.put, reduceIte, Nat.reduceEqDiff]
   refine os_ev (evq_mvk) ?_
   simp only [runOs, thenQ, blockQ, Vs.put, reduceIte, Nat.reduceEqDiff]
   refine sw_block ?_
   refine sw_loop_upd [1, 4, 5, 18, 19, 20, 28, 29, 30, 31, 32, 35] (α := Nat × V) (fun (i, v) => [(20, .a (.c (.lf (.int .i64 (i : Nat)))))]) (fun (i, v) => [(6, .bx [.rf 4 [] 1 0 secs.length, .rf 5 [] 2 0 cache.length, .lf (.int .i64 fuse), .lf (.bool down)]), (4, .tr 1 (sD (faL (0 : Int) 0 secs (cache.take i)))), (5, .tr 2 (wD cache)), (3, .bx [.nl 1, .nl 2, .lf (.int .i64 0), .lf (.bool false)])]) (7) (fun (i, v) => i ≤ cache.length) (fun (i, v) => cache.length - i) (0, .un) [(6, 6), (4, 4), (5, 5), (3, 3)] ?_ (by decide) ?_ ?_ ?_
   ·exact Nat.zero_le _
   ·simp only [sel, Vs.get, upd, Vs.put, reduceIte, Nat.reduceEqDiff]
    repeat' (first | exact er_nil | refine er_un ?_ | refine er_cons rfl ?_ ?_)
    all_goals (try simp only [V.map, A.map, renC, Vs.get, reduceIte, Nat.reduceEqDiff, List.map_cons, List.map_nil])
    all_goals (try rfl)
   ·repeat' (first | exact rr_nil | refine rr_cons 6 rfl rfl ?_ ?_ | refine rr_cons 4 rfl rfl ?_ ?_ | refine rr_cons 5 rfl rfl ?_ ?_ | refine rr_cons 3 rfl rfl ?_ ?_)
    all_goals (try simp only [renRoot, renC, Vs.get, reduceIte, Nat.reduceEqDiff, List.map_cons, List.map_nil])
    all_goals (try rfl)
   ·rintro ⟨i, v⟩ hinv
    simp only [sel, Vs.get, upd, Vs.put, reduceIte, Nat.reduceEqDiff]
    refine sw_seq ?_
    refine sw_reg ?_
    unfold s45_7
    refine os_ev (evq_bin rfl rfl rfl) ?_
    simp only [runOs, thenQ, blockQ, Vs.put, reduceIte, Nat.reduceEqDiff]
    refine sw_seq ?_
    refine sw_cond rfl (fun h5 => ?_) (fun h5 => ?_)
    ·replace h5 := q1 h5
     have hib : i < cache.length := by omega
     have e1 : IntKind.i64.wrap ((i : Int) + 1) = ((i + 1 : Nat) : Int) := by rw [wrap64 (by omega) (by omega)]; rfl
     have hdi := hd _ (List.getElem_mem hib)
     have hci := hc _ (List.getElem_mem hib)
     obtain ⟨k, hk⟩ : ∃ k : Nat, cache[i].1 = k := ⟨cache[i].1.toNat, by omega⟩
     have hkl : k < secs.length := by omega
     have him : k < (faL (0 : Int) 0 secs (cache.take i)).length := by rw [faL_len]; exact hkl
     refine sw_skip ?_
     simp only [thenQ, blockQ]
     refine sw_seq ?_
     refine sw_block ?_
     refine sw_seq ?_
     refine sw_reg ?_
     unfold s45_8
     refine os_ev (evq_mvt rfl) ?_
     refine q14 ?_
     first | refine os_ev (evq_lgb rfl rfl (Nat.le_of_ble_eq_true rfl) rfl) ?_ | refine os_ev (evq_lge rfl rfl (wD_get hib) (Nat.le_of_ble_eq_true rfl) rfl) ?_ | refine os_ev (evq_lge rfl rfl (rfl) (Nat.le_of_ble_eq_true rfl) rfl) ?_
     refine q0 ?_
     simp only [Vs.put, reduceIte, Nat.reduceEqDiff]
     refine os_wro (by intros; nofun) ?_
     simp only [wr]
     refine q2 ?_
     refine os_ev (evq_mvt rfl) ?_
     refine os_wro (by intros; nofun) ?_
     refine st_box rfl rfl rfl rfl (Nat.le_of_ble_eq_true rfl) ?_
     refine q0 ?_
     refine q2 ?_
     simp only [runOs, thenQ, blockQ, Vs.put, reduceIte, Nat.reduceEqDiff]
     refine sw_seq ?_
     refine sw_reg ?_
     unfold s45_9
     refine os_ev (evq_mvt rfl) ?_
     refine os_ev (evq_bin rfl rfl rfl) ?_
     refine os_ev (evq_mvt rfl) ?_
     refine os_gs rfl (fun g27 => ?_) (fun g27 => ?_)
     ·try simp only [g27]
      replace g27 := q1 g27
      have eb := bit64 (n := 0) ⟨by decide, by decide⟩ i
      refine os_gdo rfl ?_
      refine os_ev (evq_mvt rfl) ?_
      simp only [Vs.put, reduceIte, Nat.reduceEqDiff]
      refine os_gdo rfl ?_
      refine os_ev (evq_mvt rfl) ?_
      refine os_gdo rfl ?_
      refine os_ev (evq_shr i rfl rfl rfl (Nat.le_trans (show i ≤ 64 by omega) (by decide))) ?_
      refine os_gdo rfl ?_
      refine os_ev (evq_bin rfl rfl rfl) ?_
      simp only [eb]
      refine os_gdo rfl ?_
      refine os_ev (evq_bin rfl rfl rfl) ?_
      refine os_ev (evq_pickt rfl rfl) ?_
      simp only [Vs.put, reduceIte, Nat.reduceEqDiff]
      simp only [runOs, thenQ, blockQ, Vs.put, reduceIte, Nat.reduceEqDiff]
      refine sw_cond rfl (fun h6 => ?_) (fun h6 => ?_)
      ·replace h6 := q1 h6
       have hkt : kept (0 : Int) i = true := kept_yes (by omega) h6
       refine sw_go rfl rfl ?_
       unfold s45_10
       first | refine rd_ev (evq_fadb rfl) rfl ?_ | refine rd_ev (evq_fade rfl) rfl ?_
       refine q0 ?_
       first | refine rd_m1 (evq_ldb rfl rfl rfl) fa_nil rfl (Nat.le_of_ble_eq_true rfl) ?_ | refine rd_m1 (evq_ldl rfl rfl (rfl) rfl) fa_nil rfl (Nat.le_of_ble_eq_true rfl) ?_ | refine rd_m1 (evq_lds rfl rfl (rfl) rfl) fa_nil rfl (Nat.le_of_ble_eq_true rfl) ?_
       refine q0 ?_
       first | refine rd_ev (evq_fadb rfl) rfl ?_ | refine rd_ev (evq_fade rfl) rfl ?_
       refine q0 ?_
       first | refine rd_m1 (evq_ldb rfl rfl rfl) fa_nil rfl (Nat.le_of_ble_eq_true rfl) ?_ | refine rd_m1 (evq_ldl rfl rfl (rfl) rfl) fa_nil rfl (Nat.le_of_ble_eq_true rfl) ?_ | refine rd_m1 (evq_lds rfl rfl (rfl) rfl) fa_nil rfl (Nat.le_of_ble_eq_true rfl) ?_
       refine q0 ?_
       first | refine rd_ev (evq_fadb rfl) rfl ?_ | refine rd_ev (evq_fade rfl) rfl ?_
       refine q0 ?_
       simp only [Vs.put, reduceIte, Nat.reduceEqDiff]
       first | refine rd_m0 (evq_ldb rfl rfl rfl) fa_nil (Nat.not_lt.2 (Nat.le_of_ble_eq_true rfl)) ?_ | refine rd_m0 (evq_ldl rfl rfl (rfl) rfl) fa_nil (Nat.not_lt.2 (Nat.le_of_ble_eq_true rfl)) ?_ | refine rd_m0 (evq_lds rfl rfl (rfl) rfl) fa_nil (Nat.not_lt.2 (Nat.le_of_ble_eq_true rfl)) ?_
       refine q0 ?_
       refine rd_wr (by intros; nofun) ?_
       refine .inr ⟨_, rfl, ?_⟩
       refine q24 ?_
       refine ⟨by first | rfl | trivial, (fa_cons (fun _ => by first | exact pd_ev (evq_ldb rfl rfl rfl) | exact pd_ev (evq_ldl rfl rfl (rfl) rfl) | exact pd_ev (evq_lds rfl rfl (rfl) rfl)) (fa_cons (fun _ => by first | exact pd_ev (evq_ldb rfl rfl rfl) | exact pd_ev (evq_ldl rfl rfl (rfl) rfl) | exact pd_ev (evq_lds rfl rfl (rfl) rfl)) fa_nil)), ?_⟩
       refine q2 ?_
       refine rd_see ?_
       refine q6 ?_
       refine ⟨[(false, [.sl 1 (sD [cache[i].2])])], _, runs101 [cache[i].2] (by simp) (by simp only [List.flatten_cons, List.flatten_nil, List.append_nil]; omega), ⟨see_sb1 rfl (see_bytes (by simp only [nodeIn, Vs.get, Vs.put, reduceIte, Nat.reduceEqDiff, nodeAt, wD_get hib, Option.bind_some, List.getElem?_cons_zero, List.getElem?_cons_succ]) (by simp)), trivial⟩, ?_⟩
       refine q25 ?_
       refine ⟨by first | rfl | trivial, (fa_cons (fun _ => by first | exact pd_ev (evq_ldb rfl rfl rfl) | exact pd_ev (evq_ldl rfl rfl (rfl) rfl) | exact pd_ev (evq_lds rfl rfl (rfl) rfl)) (fa_cons (fun _ => by first | exact pd_ev (evq_ldb rfl rfl rfl) | exact pd_ev (evq_ldl rfl rfl (rfl) rfl) | exact pd_ev (evq_lds rfl rfl (rfl) rfl)) fa_nil)), ?_⟩
       refine q2 ?_
       refine rd_ev (evq_iad (j := k) rfl rfl hk (by omega)) rfl ?_
       refine rd_wr (by intros; nofun) ?_
       refine st_slice rfl rfl rfl rfl (by simp) (by decide) rfl (sD_get him) (by simp) (Nat.zero_le _) ?_
       simp only [killRoots, Root.map, List.map_cons, List.map_nil, del, reduceIte, Nat.reduceEqDiff, List.nil_append, Vs.put, killC]
       rw [sD_setS _ k cache[i].2 him, ← faL_set hib hk hkt]
       refine q21 ?_
       refine ⟨by first | rfl | trivial | exact ⟨rfl, by simp [V.map, A.map, killCs, killC, pre_no]⟩, (fa_cons (fun h => absurd h (Nat.not_le.2 (Nat.le_of_ble_eq_true rfl))) (fa_cons (fun h => absurd h (Nat.not_le.2 (Nat.le_of_ble_eq_true rfl))) fa_nil)), ?_⟩
       refine q2 ?_
       refine rd_nil ?_
       simp only [thenQ, blockQ, Vs.put, reduceIte, Nat.reduceEqDiff]
       refine sw_reg ?_
       unfold s45_11
       refine os_ev (evq_bin rfl rfl rfl) ?_
       simp only [Vs.put, reduceIte, Nat.reduceEqDiff]
       refine os_ev (evq_mvt rfl) ?_
       simp only [runOs, thenQ, blockQ, Vs.put, reduceIte, Nat.reduceEqDiff]
       try simp only [thenQ, blockQ]
       refine ⟨(i + 1, .un), ?_, ?_, rfl, [(6, 6), (4, 4), (5, 5), (3, 3)], by decide, ?_, ?_⟩
       ·omega
       ·first | omega | (dsimp only; omega)
       ·simp only [sel, Vs.get, upd, Vs.put, reduceIte, Nat.reduceEqDiff]
        repeat' (first | exact er_nil | refine er_un ?_ | refine er_cons rfl ?_ ?_)
        all_goals (try simp only [V.map, A.map, renC, Vs.get, reduceIte, Nat.reduceEqDiff, List.map_cons, List.map_nil, e1])
       ·repeat' (first | exact rr_nil | refine rr_cons 6 rfl rfl ?_ ?_ | refine rr_cons 4 rfl rfl ?_ ?_ | refine rr_cons 5 rfl rfl ?_ ?_ | refine rr_cons 3 rfl rfl ?_ ?_)
        all_goals (try simp only [renRoot, renC, Vs.get, reduceIte, Nat.reduceEqDiff, List.map_cons, List.map_nil, e1])
      ·replace h6 := q1 h6
       have hkf : kept (0 : Int) i = false := kept_no (fun hh => h6 hh.2)
       rw [← faL_skip hib hkf]
       refine sw_skip ?_
       simp only [thenQ, blockQ]
       refine sw_reg ?_
       unfold s45_11
       refine os_ev (evq_bin rfl rfl rfl) ?_
       refine os_ev (evq_mvt rfl) ?_
       simp only [runOs, thenQ, blockQ, Vs.put, reduceIte, Nat.reduceEqDiff]
       try simp only [thenQ, blockQ]
       refine ⟨(i + 1, .un), ?_, ?_, rfl, [(6, 6), (4, 4), (5, 5), (3, 3)], by decide, ?_, ?_⟩
       ·omega
       ·first | omega | (dsimp only; omega)
       ·simp only [sel, Vs.get, upd, Vs.put, reduceIte, Nat.reduceEqDiff]
        repeat' (first | exact er_nil | refine er_un ?_ | refine er_cons rfl ?_ ?_)
        all_goals (try simp only [V.map, A.map, renC, Vs.get, reduceIte, Nat.reduceEqDiff, List.map_cons, List.map_nil, e1])
       ·repeat' (first | exact rr_nil | refine rr_cons 6 rfl rfl ?_ ?_ | refine rr_cons 4 rfl rfl ?_ ?_ | refine rr_cons 5 rfl rfl ?_ ?_ | refine rr_cons 3 rfl rfl ?_ ?_)
        all_goals (try simp only [renRoot, renC, Vs.get, reduceIte, Nat.reduceEqDiff, List.map_cons, List.map_nil, e1])
     ·try simp only [g27]
      replace g27 := q1 g27
      refine os_gno rfl (by decide) ?_
      refine os_gno rfl (by decide) ?_
      refine os_gno rfl (by decide) ?_
      simp only [Vs.put, reduceIte, Nat.reduceEqDiff]
      refine os_gno rfl (by decide) ?_
      refine os_gno rfl (by decide) ?_
      refine os_ev (evq_pickf rfl rfl) ?_
      simp only [runOs, thenQ, blockQ, Vs.put, reduceIte, Nat.reduceEqDiff]
      refine sw_cond rfl (fun h6 => ?_) (fun h6 => ?_)
      ·exact absurd h6 (by simp at h6)
      ·replace h6 := q1 h6
       have hkf : kept (0 : Int) i = false := kept_no (fun hh => by omega)
       rw [← faL_skip hib hkf]
       refine sw_skip ?_
       simp only [thenQ, blockQ]
       refine sw_reg ?_
       unfold s45_11
       refine os_ev (evq_bin rfl rfl rfl) ?_
       simp only [Vs.put, reduceIte, Nat.reduceEqDiff]
       refine os_ev (evq_mvt rfl) ?_
       simp only [runOs, thenQ, blockQ, Vs.put, reduceIte, Nat.reduceEqDiff]
       try simp only [thenQ, blockQ]
       refine ⟨(i + 1, .un), ?_, ?_, rfl, [(6, 6), (4, 4), (5, 5), (3, 3)], by decide, ?_, ?_⟩
       ·omega
       ·first | omega | (dsimp only; omega)
       ·simp only [sel, Vs.get, upd, Vs.put, reduceIte, Nat.reduceEqDiff]
        repeat' (first | exact er_nil | refine er_un ?_ | refine er_cons rfl ?_ ?_)
        all_goals (try simp only [V.map, A.map, renC, Vs.get, reduceIte, Nat.reduceEqDiff, List.map_cons, List.map_nil, e1])
       ·repeat' (first | exact rr_nil | refine rr_cons 6 rfl rfl ?_ ?_ | refine rr_cons 4 rfl rfl ?_ ?_ | refine rr_cons 5 rfl rfl ?_ ?_ | refine rr_cons 3 rfl rfl ?_ ?_)
        all_goals (try simp only [renRoot, renC, Vs.get, reduceIte, Nat.reduceEqDiff, List.map_cons, List.map_nil, e1])
    ·replace h5 := q1 h5
     have hfin : faL (0 : Int) 0 secs cache = faL (0 : Int) 0 secs (cache.take i) := faL_fin (by omega)
     rw [hfin]
     refine sw_exit ?_
     refine q12 ?_
     refine sw_seq ?_
     refine sw_reg ?_
     unfold s45_12
     refine q5 ?_
     refine q0 ?_
     refine os_wro (by intros; nofun) ?_
     refine st_box rfl rfl rfl rfl (Nat.le_of_ble_eq_true rfl) ?_
     refine q0 ?_
     refine q2 ?_
     refine q5 ?_
     refine q0 ?_
     refine os_wro (by intros; nofun) ?_
     refine st_box rfl rfl rfl rfl (Nat.le_of_ble_eq_true rfl) ?_
     refine q0 ?_
     refine q2 ?_
     refine q5 ?_
     refine q0 ?_
     refine os_wro (by intros; nofun) ?_
     refine st_box rfl rfl rfl rfl (Nat.le_of_ble_eq_true rfl) ?_
     refine q0 ?_
     refine q2 ?_
     simp only [runOs, thenQ, blockQ, Vs.put, reduceIte, Nat.reduceEqDiff]
     refine sw_seq ?_
     refine sw_reg ?_
     unfold s45_13
     refine q9 ?_
     refine q0 ?_
     simp only [Vs.put, reduceIte, Nat.reduceEqDiff]
     refine os_wro (by intros; nofun) ?_
     refine st_box rfl rfl rfl rfl (Nat.le_of_ble_eq_true rfl) ?_
     refine q0 ?_
     refine q2 ?_
     simp only [runOs, thenQ, blockQ, Vs.put, reduceIte, Nat.reduceEqDiff]
     refine sw_ret ?_
     refine q3 ?_
     refine ⟨_, rfl, Nat.le_of_ble_eq_true rfl, ?_⟩
     refine q13 ?_
     exact leaves_a rfl rfl rfl (take_cons rfl (by simp [faL_len]) (take_nl (take_lf (take_lf rfl))))
  ·replace h3 := q1 h3
   have hn : 0 ≤ n ∧ n ≤ 1073741823 := by omega
   rw [faN_yes hn]
   refine sw_skip ?_
   simp only [thenQ, blockQ]
   refine sw_seq ?_
   refine sw_seq ?_
   refine sw_reg ?_
   unfold s45_6
   refine q5 ?_
   refine q0 ?_
   refine q8 ?_
   refine q0 ?_
   refine q10 ?_
   refine os_ev (evq_mvk) ?_
   simp only [runOs, thenQ, blockQ, Vs.put, reduceIte, Nat.reduceEqDiff]
   refine sw_block ?_
   refine sw_loop_upd [1, 4, 5, 18, 19, 20, 28, 29, 30, 31, 32, 35] (α := Nat × V) (fun (i, v) => [(20, .a (.c (.lf (.int .i64 (i : Nat)))))]) (fun (i, v) => [(6, .bx [.rf 4 [] 1 0 secs.length, .rf 5 [] 2 0 cache.length, .lf (.int .i64 fuse), .lf (.bool down)]), (4, .tr 1 (sD (faL n 0 secs (cache.take i)))), (5, .tr 2 (wD cache)), (3, .bx [.nl 1, .nl 2, .lf (.int .i64 0), .lf (.bool false)])]) (7) (fun (i, v) => i ≤ cache.length) (fun (i, v) => cache.length - i) (0, .un) [(6, 6), (4, 4), (5, 5), (3, 3)] ?_ (by decide) ?_ ?_ ?_
   ·exact Nat.zero_le _
   ·simp only [sel, Vs.get, upd, Vs.put, reduceIte, Nat.reduceEqDiff]
    repeat' (first | exact er_nil | refine er_un ?_ | refine er_cons rfl ?_ ?_)
    all_goals (try simp only [V.map, A.map, renC, Vs.get, reduceIte, Nat.reduceEqDiff, List.map_cons, List.map_nil])
    all_goals (try rfl)
   ·repeat' (first | exact rr_nil | refine rr_cons 6 rfl rfl ?_ ?_ | refine rr_cons 4 rfl rfl ?_ ?_ | refine rr_cons 5 rfl rfl ?_ ?_ | refine rr_cons 3 rfl rfl ?_ ?_)
    all_goals (try simp only [renRoot, renC, Vs.get, reduceIte, Nat.reduceEqDiff, List.map_cons, List.map_nil])
    all_goals (try rfl)
   ·rintro ⟨i, v⟩ hinv
    simp only [sel, Vs.get, upd, Vs.put, reduceIte, Nat.reduceEqDiff]
    refine sw_seq ?_
    refine sw_reg ?_
    unfold s45_7
    refine os_ev (evq_bin rfl rfl rfl) ?_
    simp only [Vs.put, reduceIte, Nat.reduceEqDiff]
    simp only [runOs, thenQ, blockQ, Vs.put, reduceIte, Nat.reduceEqDiff]
    refine sw_seq ?_
    refine sw_cond rfl (fun h5 => ?_) (fun h5 => ?_)
    ·replace h5 := q1 h5
     have hib : i < cache.length := by omega
     have e1 : IntKind.i64.wrap ((i : Int) + 1) = ((i + 1 : Nat) : Int) := by rw [wrap64 (by omega) (by omega)]; rfl
     have hdi := hd _ (List.getElem_mem hib)
     have hci := hc _ (List.getElem_mem hib)
     obtain ⟨k, hk⟩ : ∃ k : Nat, cache[i].1 = k := ⟨cache[i].1.toNat, by omega⟩
     have hkl : k < secs.length := by omega
     have him : k < (faL n 0 secs (cache.take i)).length := by rw [faL_len]; exact hkl
     refine sw_skip ?_
     simp only [thenQ, blockQ]
     refine sw_seq ?_
     refine sw_block ?_
     refine sw_seq ?_
     refine sw_reg ?_
     unfold s45_8
     refine os_ev (evq_mvt rfl) ?_
     refine q14 ?_
     first | refine os_ev (evq_lgb rfl rfl (Nat.le_of_ble_eq_true rfl) rfl) ?_ | refine os_ev (evq_lge rfl rfl (wD_get hib) (Nat.le_of_ble_eq_true rfl) rfl) ?_ | refine os_ev (evq_lge rfl rfl (rfl) (Nat.le_of_ble_eq_true rfl) rfl) ?_
     refine q0 ?_
     refine os_wro (by intros; nofun) ?_
     simp only [wr]
     refine q2 ?_
     refine os_ev (evq_mvt rfl) ?_
     refine os_wro (by intros; nofun) ?_
     refine st_box rfl rfl rfl rfl (Nat.le_of_ble_eq_true rfl) ?_
     refine q0 ?_
     refine q2 ?_
     simp only [runOs, thenQ, blockQ, Vs.put, reduceIte, Nat.reduceEqDiff]
     refine sw_seq ?_
     refine sw_reg ?_
     unfold s45_9
     refine os_ev (evq_mvt rfl) ?_
     simp only [Vs.put, reduceIte, Nat.reduceEqDiff]
     refine os_ev (evq_bin rfl rfl rfl) ?_
     refine os_ev (evq_mvt rfl) ?_
     refine os_gs rfl (fun g27 => ?_) (fun g27 => ?_)
     ·try simp only [g27]
      replace g27 := q1 g27
      have eb := bit64 hn i
      refine os_gdo rfl ?_
      refine os_ev (evq_mvt rfl) ?_
      refine os_gdo rfl ?_
      refine os_ev (evq_mvt rfl) ?_
      refine os_gdo rfl ?_
      refine os_ev (evq_shr i rfl rfl rfl (Nat.le_trans (show i ≤ 64 by omega) (by decide))) ?_
      simp only [Vs.put, reduceIte, Nat.reduceEqDiff]
      refine os_gdo rfl ?_
      refine os_ev (evq_bin rfl rfl rfl) ?_
      simp only [eb]
      refine os_gdo rfl ?_
      refine os_ev (evq_bin rfl rfl rfl) ?_
      refine os_ev (evq_pickt rfl rfl) ?_
      simp only [runOs, thenQ, blockQ, Vs.put, reduceIte, Nat.reduceEqDiff]
      refine sw_cond rfl (fun h6 => ?_) (fun h6 => ?_)
      ·replace h6 := q1 h6
       have hkt : kept n i = true := kept_yes (by omega) h6
       refine sw_go rfl rfl ?_
       unfold s45_10
       first | refine rd_ev (evq_fadb rfl) rfl ?_ | refine rd_ev (evq_fade rfl) rfl ?_
       refine q0 ?_
       simp only [Vs.put, reduceIte, Nat.reduceEqDiff]
       first | refine rd_m1 (evq_ldb rfl rfl rfl) fa_nil rfl (Nat.le_of_ble_eq_true rfl) ?_ | refine rd_m1 (evq_ldl rfl rfl (rfl) rfl) fa_nil rfl (Nat.le_of_ble_eq_true rfl) ?_ | refine rd_m1 (evq_lds rfl rfl (rfl) rfl) fa_nil rfl (Nat.le_of_ble_eq_true rfl) ?_
       refine q0 ?_
       first | refine rd_ev (evq_fadb rfl) rfl ?_ | refine rd_ev (evq_fade rfl) rfl ?_
       refine q0 ?_
       first | refine rd_m1 (evq_ldb rfl rfl rfl) fa_nil rfl (Nat.le_of_ble_eq_true rfl) ?_ | refine rd_m1 (evq_ldl rfl rfl (rfl) rfl) fa_nil rfl (Nat.le_of_ble_eq_true rfl) ?_ | refine rd_m1 (evq_lds rfl rfl (rfl) rfl) fa_nil rfl (Nat.le_of_ble_eq_true rfl) ?_
       refine q0 ?_
       first | refine rd_ev (evq_fadb rfl) rfl ?_ | refine rd_ev (evq_fade rfl) rfl ?_
       refine q0 ?_
       first | refine rd_m0 (evq_ldb rfl rfl rfl) fa_nil (Nat.not_lt.2 (Nat.le_of_ble_eq_true rfl)) ?_ | refine rd_m0 (evq_ldl rfl rfl (rfl) rfl) fa_nil (Nat.not_lt.2 (Nat.le_of_ble_eq_true rfl)) ?_ | refine rd_m0 (evq_lds rfl rfl (rfl) rfl) fa_nil (Nat.not_lt.2 (Nat.le_of_ble_eq_true rfl)) ?_
       refine q0 ?_
       refine rd_wr (by intros; nofun) ?_
       refine .inr ⟨_, rfl, ?_⟩
       refine q24 ?_
       refine ⟨by first | rfl | trivial, (fa_cons (fun _ => by first | exact pd_ev (evq_ldb rfl rfl rfl) | exact pd_ev (evq_ldl rfl rfl (rfl) rfl) | exact pd_ev (evq_lds rfl rfl (rfl) rfl)) (fa_cons (fun _ => by first | exact pd_ev (evq_ldb rfl rfl rfl) | exact pd_ev (evq_ldl rfl rfl (rfl) rfl) | exact pd_ev (evq_lds rfl rfl (rfl) rfl)) fa_nil)), ?_⟩
       refine q2 ?_
       refine rd_see ?_
       refine q6 ?_
       refine ⟨[(false, [.sl 1 (sD [cache[i].2])])], _, runs101 [cache[i].2] (by simp) (by simp only [List.flatten_cons, List.flatten_nil, List.append_nil]; omega), ⟨see_sb1 rfl (see_bytes (by simp only [nodeIn, Vs.get, Vs.put, reduceIte, Nat.reduceEqDiff, nodeAt, wD_get hib, Option.bind_some, List.getElem?_cons_zero, List.getElem?_cons_succ]) (by simp)), trivial⟩, ?_⟩
       refine q25 ?_
       refine ⟨by first | rfl | trivial, (fa_cons (fun _ => by first | exact pd_ev (evq_ldb rfl rfl rfl) | exact pd_ev (evq_ldl rfl rfl (rfl) rfl) | exact pd_ev (evq_lds rfl rfl (rfl) rfl)) (fa_cons (fun _ => by first | exact pd_ev (evq_ldb rfl rfl rfl) | exact pd_ev (evq_ldl rfl rfl (rfl) rfl) | exact pd_ev (evq_lds rfl rfl (rfl) rfl)) fa_nil)), ?_⟩
       refine q2 ?_
       refine rd_ev (evq_iad (j := k) rfl rfl hk (by omega)) rfl ?_
       refine rd_wr (by intros; nofun) ?_
       refine st_slice rfl rfl rfl rfl (by simp) (by decide) rfl (sD_get him) (by simp) (Nat.zero_le _) ?_
       simp only [killRoots, Root.map, List.map_cons, List.map_nil, del, reduceIte, Nat.reduceEqDiff, List.nil_append, Vs.put, killC]
       rw [sD_setS _ k cache[i].2 him, ← faL_set hib hk hkt]
       refine q21 ?_
       refine ⟨by first | rfl | trivial | exact ⟨rfl, by simp [V.map, A.map, killCs, killC, pre_no]⟩, (fa_cons (fun h => absurd h (Nat.not_le.2 (Nat.le_of_ble_eq_true rfl))) (fa_cons (fun h => absurd h (Nat.not_le.2 (Nat.le_of_ble_eq_true rfl))) fa_nil)), ?_⟩
       refine q2 ?_
       refine rd_nil ?_
       simp only [thenQ, blockQ, Vs.put, reduceIte, Nat.reduceEqDiff]
       refine sw_reg ?_
       unfold s45_11
       refine os_ev (evq_bin rfl rfl rfl) ?_
       refine os_ev (evq_mvt rfl) ?_
       simp only [runOs, thenQ, blockQ, Vs.put, reduceIte, Nat.reduceEqDiff]
       try simp only [thenQ, blockQ]
       refine ⟨(i + 1, .un), ?_, ?_, rfl, [(6, 6), (4, 4), (5, 5), (3, 3)], by decide, ?_, ?_⟩
       ·omega
       ·first | omega | (dsimp only; omega)
       ·simp only [sel, Vs.get, upd, Vs.put, reduceIte, Nat.reduceEqDiff]
        repeat' (first | exact er_nil | refine er_un ?_ | refine er_cons rfl ?_ ?_)
        all_goals (try simp only [V.map, A.map, renC, Vs.get, reduceIte, Nat.reduceEqDiff, List.map_cons, List.map_nil, e1])
       ·repeat' (first | exact rr_nil | refine rr_cons 6 rfl rfl ?_ ?_ | refine rr_cons 4 rfl rfl ?_ ?_ | refine rr_cons 5 rfl rfl ?_ ?_ | refine rr_cons 3 rfl rfl ?_ ?_)
        all_goals (try simp only [renRoot, renC, Vs.get, reduceIte, Nat.reduceEqDiff, List.map_cons, List.map_nil, e1])
      ·replace h6 := q1 h6
       have hkf : kept n i = false := kept_no (fun hh => h6 hh.2)
       rw [← faL_skip hib hkf]
       refine sw_skip ?_
       simp only [thenQ, blockQ]
       refine sw_reg ?_
       unfold s45_11
       refine os_ev (evq_bin rfl rfl rfl) ?_
       simp only [Vs.put, reduceIte, Nat.reduceEqDiff]
       refine os_ev (evq_mvt rfl) ?_
       simp only [runOs, thenQ, blockQ, Vs.put, reduceIte, Nat.reduceEqDiff]
       try simp only [thenQ, blockQ]
       refine ⟨(i + 1, .un), ?_, ?_, rfl, [(6, 6), (4, 4), (5, 5), (3, 3)], by decide, ?_, ?_⟩
       ·omega
       ·first | omega | (dsimp only; omega)
       ·simp only [sel, Vs.get, upd, Vs.put, reduceIte, Nat.reduceEqDiff]
        repeat' (first | exact er_nil | refine er_un ?_ | refine er_cons rfl ?_ ?_)
        all_goals (try simp only [V.map, A.map, renC, Vs.get, reduceIte, Nat.reduceEqDiff, List.map_cons, List.map_nil, e1])
       ·repeat' (first | exact rr_nil | refine rr_cons 6 rfl rfl ?_ ?_ | refine rr_cons 4 rfl rfl ?_ ?_ | refine rr_cons 5 rfl rfl ?_ ?_ | refine rr_cons 3 rfl rfl ?_ ?_)
        all_goals (try simp only [renRoot, renC, Vs.get, reduceIte, Nat.reduceEqDiff, List.map_cons, List.map_nil, e1])
     ·try simp only [g27]
      replace g27 := q1 g27
      refine os_gno rfl (by decide) ?_
      simp only [Vs.put, reduceIte, Nat.reduceEqDiff]
      refine os_gno rfl (by decide) ?_
      refine os_gno rfl (by decide) ?_
      refine os_gno rfl (by decide) ?_
      refine os_gno rfl (by decide) ?_
      simp only [Vs.put, reduceIte, Nat.reduceEqDiff]
      refine os_ev (evq_pickf rfl rfl) ?_
      simp only [runOs, thenQ, blockQ, Vs.put, reduceIte, Nat.reduceEqDiff]
      refine sw_cond rfl (fun h6 => ?_) (fun h6 => ?_)
      ·exact absurd h6 (by simp at h6)
      ·replace h6 := q1 h6
       have hkf : kept n i = false := kept_no (fun hh => by omega)
       rw [← faL_skip hib hkf]
       refine sw_skip ?_
       simp only [thenQ, blockQ]
       refine sw_reg ?_
       unfold s45_11
       refine os_ev (evq_bin rfl rfl rfl) ?_
       refine os_ev (evq_mvt rfl) ?_
       simp only [runOs, thenQ, blockQ, Vs.put, reduceIte, Nat.reduceEqDiff]
       try simp only [thenQ, blockQ]
       refine ⟨(i + 1, .un), ?_, ?_, rfl, [(6, 6), (4, 4), (5, 5), (3, 3)], by decide, ?_, ?_⟩
       ·omega
       ·first | omega | (dsimp only; omega)
       ·simp only [sel, Vs.get, upd, Vs.put, reduceIte, Nat.reduceEqDiff]
        repeat' (first | exact er_nil | refine er_un ?_ | refine er_cons rfl ?_ ?_)
        all_goals (try simp only [V.map, A.map, renC, Vs.get, reduceIte, Nat.reduceEqDiff, List.map_cons, List.map_nil, e1])
       ·repeat' (first | exact rr_nil | refine rr_cons 6 rfl rfl ?_ ?_ | refine rr_cons 4 rfl rfl ?_ ?_ | refine rr_cons 5 rfl rfl ?_ ?_ | refine rr_cons 3 rfl rfl ?_ ?_)
        all_goals (try simp only [renRoot, renC, Vs.get, reduceIte, Nat.reduceEqDiff, List.map_cons, List.map_nil, e1])
    ·replace h5 := q1 h5
     have hfin : faL n 0 secs cache = faL n 0 secs (cache.take i) := faL_fin (by omega)
     rw [hfin]
     refine sw_exit ?_
     refine q12 ?_
     refine sw_seq ?_
     refine sw_reg ?_
     unfold s45_12
     refine q5 ?_
     refine q0 ?_
     simp only [Vs.put, reduceIte, Nat.reduceEqDiff]
     refine os_wro (by intros; nofun) ?_
     refine st_box rfl rfl rfl rfl (Nat.le_of_ble_eq_true rfl) ?_
     refine q0 ?_
     refine q2 ?_
     refine q5 ?_
     refine q0 ?_
     refine os_wro (by intros; nofun) ?_
     refine st_box rfl rfl rfl rfl (Nat.le_of_ble_eq_true rfl) ?_
     refine q0 ?_
     refine q2 ?_
     refine q5 ?_
     refine q0 ?_
     refine os_wro (by intros; nofun) ?_
     refine st_box rfl rfl rfl rfl (Nat.le_of_ble_eq_true rfl) ?_
     refine q0 ?_
     refine q2 ?_
     simp only [runOs, thenQ, blockQ, Vs.put, reduceIte, Nat.reduceEqDiff]
     refine sw_seq ?_
     refine sw_reg ?_
     unfold s45_13
     refine q9 ?_
     refine q0 ?_
     refine os_wro (by intros; nofun) ?_
     refine st_box rfl rfl rfl rfl (Nat.le_of_ble_eq_true rfl) ?_
     refine q0 ?_
     refine q2 ?_
     simp only [runOs, thenQ, blockQ, Vs.put, reduceIte, Nat.reduceEqDiff]
     refine sw_ret ?_
     refine q3 ?_
     refine ⟨_, rfl, Nat.le_of_ble_eq_true rfl, ?_⟩
     refine q13 ?_
     exact leaves_a rfl rfl rfl (take_cons rfl (by simp [faL_len]) (take_nl (take_lf (take_lf rfl))))
end Go.Proofs.Ytgbapgjdkoojdaa
